import GoSem.Instr.MapUpdate
import Derived.Lib.LaidTab
import Derived.Lib.ItoaNum
import Derived.Test.YtghdfphedgcpdaaGreatDoorProg
import GoSem.Builtin.Delete
import Derived.Defers
import Derived.Lib.AtoiAll
import Derived.Lib.Replace
import Derived.Test.YtghdfphedgcpdaaGreatDoorY00
set_option linter.unusedVariables false
set_option linter.unusedSimpArgs false
namespace Go.Sw
mutual
def xS:Nat->Ex->Bool
 | 0,_=>true
 | n+1,.mk _ _ _ args arms=>deepPs n args || deepPa n arms
def deepPs:Nat->List Ex->Bool
 | _,[]=>false
 | n,e::es=>xS n e || deepPs n es
def deepPa:Nat->List Arm->Bool
 | _,[]=>false
 | n,.mk _ _ b::es=>xS n b || deepPa n es
end
theorem y9x (n:Nat):∀l:List Ex,deepPs n l=l.any (xS n)
 | []=>rfl
 | e::es=>by simp only [deepPs,List.any_cons,y9x n es]
theorem y9w (n:Nat):∀l:List Arm,deepPa n l=l.any (fun a=>xS n a.body)
 | []=>rfl
 | .mk _ _ b::es=>by simp only [deepPa,List.any_cons,y9w n es,Arm.body]
theorem z4l (n:Nat) (e:Ex):xS (n+1) e=(e.args.any (xS n) || e.arms.any (fun a=>xS n a.body)):=by
 cases e;simp only [xS,y9x,y9w,Ex.args,Ex.arms]
theorem y3v (e:Ex):xS 0 e=true:=by cases e;rfl
end Go.Sw

namespace Go.Sw
variable {P:Program} {n:Nat} {E:List (Nat×Value)} {D:List Deferred} {a:Act} {Φ Ψ:Fz} {K:List Res} {w:World}
variable {dst:Option Tmp} {ty:TypeId} {pos:String} {aft:Array Edge} {g:Option (Nat×Bool)}
variable {Kn:Value->World->Prop} {Qp:List PanicEntry->World->Prop}
def yM:List (Bs×Value)->Bs->Option Value
 | [],_=>none
 | (k,v)::m,s=>if s=k then some v else yM m s
def cF:List (Bs×Value)->Bs->Value->List (Bs×Value)
 | [],s,x=>[(s,x)]
 | (k,v)::m,s,x=>if s=k then (k,x)::m else (k,v)::cF m s x
def z9c:List (Bs×Value)->Bs->List (Bs×Value)
 | [],_=>[]
 | (k,v)::m,s=>if s=k then m else (k,v)::z9c m s
def MapAt (Φ:Fz) (b:Nat) (m:List (Bs×Value)):Prop:=∃es clock,Φ.obj b=some (.map es clock)/\MapOk es clock m
theorem MapAt.mono {b:Nat} {m:List (Bs×Value)} (h:MapAt Φ b m) (hl:Φ.Le Ψ):MapAt Ψ b m:=let ⟨es,c,h1,a⟩:=h;⟨es,c,hl.obj _ _ h1,a⟩
def oS:List (Bs×Value)->Bs->Nat->Option (Nat×Value)
 | [],_,_=>none
 | (k,v)::m,s,i=>if s=k then some (i,v) else oS m s (i+1)
theorem sP (s t:ByteArray):(s==t)=decide (s=t):=by
 show (s.data==t.data)=_
 rw [Bool.eq_iff_iff];simp
 constructor
 ·intro h;cases s;cases t;simp_all
 ·rintro rfl;rfl
theorem z6b:∀(es:List MapEntry) (m:List (Bs×Value)) (s:Bs) (i:Nat),es.map (fun e=>(e.key,e.val))=m.map (fun p=>(Value.string p.1,p.2)) ->
  Instr.findNow .string (.string s) es i=some (oS m s i)
 | [],[],_,_,_=>rfl
 | [],_::_,_,_,h=>by simp at h
 | _::_,[],_,_,h=>by simp at h
 | e::es,(k,v)::m,s,i,h=>by
  simp only [List.map_cons,List.cons.injEq,Prod.mk.injEq] at h
  obtain ⟨⟨h1,a⟩,b⟩:=h
  simp only [Instr.findNow,h1,Instr.sameNow,sP,oS]
  by_cases O:s=k
  ·simp [O,a]
  ·simp only [O,decide_false,if_false]
   exact z6b es m s (i+1) b
theorem q1j:∀(m:List (Bs×Value)) (s:Bs) (i:Nat),(oS m s i).map (·.2)=yM m s
 | [],_,_=>rfl
 | (k,v)::m,s,i=>by
  simp only [oS,yM]
  split
  ·rfl
  ·exact q1j m s (i+1)
theorem mV {kt:TypeId} (a:Under P kt .string) (e:Bool) (v:Value) (j:Nat):(Instr.checkKey e (j+1) kt v).run P w=.ok () w:=by
 simp [Instr.checkKey,Sem.run_bind,a w]
theorem aI {kt:TypeId} (a:Under P kt .string) {es:Array MapEntry} {m:List (Bs×Value)} (h:es.toList.map (fun e=>(e.key,e.val))=m.map (fun p=>(Value.string p.1,p.2))) (s:Bs) :
  (Instr.findKey kt (.string s) es.toList).run P w=.ok (oS m s 0) w:=by
 simp [Instr.findKey,Sem.run_bind,a w,z6b _ _ _ _ h]
def zJ (ok:Bool) (z:Value):Option Value->Value
 | some v=>if ok then .tuple #[v,.bool true] else v
 | none=>if ok then .tuple #[z,.bool false] else z
theorem y7m {t kt et:TypeId} {b:Nat} {es:Array MapEntry} {clock:Nat} {m:List (Bs×Value)} {z:Value} (c:Under P t (.map kt et)) (a:Under P kt .string) (d:ZeroT P et z)
  (hb:w.heap[b]? = some (.map es clock)) (h:MapOk es clock m) (s:Bs) (ok:Bool) :
  (Instr.lookup t (.map (some b)) (.string s) ok).run P w=.ok (zJ ok z (yM m s)) w:=by
 have h1:(getObj b).run P w=.ok (.map es clock) w:=by simp [getObj,Sem.run,hb]
 simp only [Instr.lookup,Sem.run_bind,c w,Result.andThen_ok,h1,Sem.run_pure,mV a,aI a h.eq]
 have:=q1j m s 0
 cases N:oS m s 0 with
 | none=>rw [N] at this;simp only [Option.map_none] at this;rw [<- this];simp [d w,zJ]
 | some p=>rw [N] at this;simp only [Option.map_some] at this;rw [<- this];simp [zJ]
theorem qA {t kt et:TypeId} {x y:Operand} {b:Nat} {m:List (Bs×Value)} {z:Value} {s:Bs} {ok:Bool} (f:Under P t (.map kt et)) (e:Under P kt .string) (i:ZeroT P et z)
  (J:EnvR n E D a) (N:Sees Φ K w) (g:ev E x=some (.map (some b))) (h:ev E y=some (.string s)) (c:MapAt Φ b m):Ok P a (.lookup t x y ok) ty w (zJ ok z (yM m s)):=fun _ _ _ _=>by
 obtain ⟨es,clock,h1,d⟩:=c
 simp only [execOp,J.ev g,J.ev h]
 simp [Sem.run_bind,y7m f e i (N.fz _ _ h1) d]
theorem zW (i:Nat) {t kt et:TypeId} {x y:Operand} {b:Nat} {m:List (Bs×Value)} {z:Value} {s:Bs} {ok:Bool} (f:Under P t (.map kt et)) (e:Under P kt .string) (j:ZeroT P et z)
  (J:EnvR n E D a) (N:Sees Φ K w) (g:ev E x=some (.map (some b))) (h:ev E y=some (.string s)) (d:qU K i=some (.mp b m)):Ok P a (.lookup t x y ok) ty w (zJ ok z (yM m s)):=fun _ _ _ _=>by
 obtain ⟨es,clock,h1,c⟩:=N.own _ (qV d)
 simp only [execOp,J.ev g,J.ev h]
 simp [Sem.run_bind,y7m f e j h1 c]
theorem yD {t:TypeId} (N:Mem Φ K w) (k:∀b w',Mem Φ (.mp b []::K) w'->Kn (.map (some b)) w'):Oper.eff P ⟨dst,.makeMap t none,ty,pos,aft,g⟩ a w Kn Qp:=by
 unfold Oper.eff
 have:(execOp a.eval ⟨dst,.makeMap t none,ty,pos,aft,g⟩).run P w=.ok (.value (.map (some w.heap.size))) { w with heap:=w.heap.push (.map #[] 0) }:=by
  simp [execOp,Instr.makeMap]
 rw [this]
 refine k _ _ (N.more rfl rfl (fun b hb=>pO hb) ⟨#[],0,by simp,by simp,by simp,by simp⟩ (by simp [Res.foot]))
theorem j6v:∀(m:List (Bs×Value)) (s:Bs) (v:Value) (j:Nat),cF m s v=match oS m s j with | none=>m++[(s,v)] | some (i,_)=>m.set (i - j) (s,v)
 | [],_,_,_=>rfl
 | (k,x)::m,s,v,j=>by
  simp only [cF,oS]
  split
  ·subst_vars;simp
  ·have:=j6v m s v (j+1)
   rw [this]
   have a:∀(m:List (Bs×Value)) (j i:Nat) (y:Value),oS m s j=some (i,y)->j<=i:=by
    intro m
    induction m with
    | nil=>intro j i y h;simp [oS] at h
    | cons p m b=>
     intro j i y h
     obtain ⟨k,x⟩:=p
     simp only [oS] at h
     split at h
     ·simp only [Option.some.injEq,Prod.mk.injEq] at h;omega
     ·have:=b (j+1) i y h;omega
   cases N:oS m s (j+1) with
   | none=>simp
   | some p=>
    obtain ⟨i,y⟩:=p
    have h1:=a m (j+1) i y N
    have e:i - j=(i - (j+1))+1:=by omega
    simp only [e,List.set_cons_succ]
theorem y6i:∀(m:List (Bs×Value)) (s:Bs) (j i:Nat) (y:Value),oS m s j=some (i,y)->m[i - j]? = some (s,y)/\j<=i
 | [],_,_,_,_,h=>by simp [oS] at h
 | (k,x)::m,s,j,i,y,h=>by
  simp only [oS] at h
  split at h
  ·simp only [Option.some.injEq,Prod.mk.injEq] at h
   obtain ⟨rfl,rfl⟩:=h;subst_vars;simp
  ·obtain ⟨h1,a⟩:=y6i m s (j+1) i y h
   have e:i - j=(i - (j+1))+1:=by omega
   exact ⟨by rw [e];simpa using h1,by omega⟩
theorem sS (i:Nat) {t kt et:TypeId} {x y z:Operand} {b:Nat} {m:List (Bs×Value)} {s:Bs} {v:Value} (W:Under P t (.map kt et)) (T:Under P kt .string)
  (J:EnvR n E D a) (N:Mem Φ K w) (F:ev E x=some (.map (some b))) (X:ev E y=some (.string s)) (Y:ev E z=some v) (R:qU K i=some (.mp b m))
  (k:∀w',Mem Φ (pU K i (.mp b (cF m s v))) w'->Kn undef w'):Oper.eff P ⟨dst,.mapUpdate t x y z,ty,pos,aft,g⟩ a w Kn Qp:=by
 obtain ⟨es,clock,hb,f⟩:=N.own _ (qV R)
 have h1:(getObj b).run P w=.ok (.map es clock) w:=by simp [getObj,Sem.run,hb]
 have L:b < w.heap.size:=(Array.getElem?_eq_some_iff.1 hb).1
 have u:∀o,(setObj b o).run P w=.ok () { w with heap:=w.heap.setIfInBounds b o }:=fun o=>by simp only [setObj,Sem.run,hb]
 have fin:∀es' clock',MapOk es' clock' (cF m s v)->Mem Φ (pU K i (.mp b (cF m s v))) { w with heap:=w.heap.setIfInBounds b (.map es' clock') }:=fun es' clock' h=>
  N.upd R rfl rfl (fun c S M=>by simp only;rw [Array.getElem?_setIfInBounds_ne (fun e=>M (by simp [Res.foot,e]))]) ⟨es',clock',by simp [L],h⟩ (.inl rfl)
 unfold Oper.eff
 simp only [execOp,J.ev F,J.ev X,J.ev Y,Instr.mapUpdate,Sem.run_bind,W w,Result.andThen_ok,h1,mV T,aI T f.eq]
 have d:=j6v m s v 0
 cases C:oS m s 0 with
 | none=>
  rw [C] at d
  simp only at d
  simp only [u,Result.andThen_ok,Sem.run_pure,wH]
  refine k _ (fin _ _ ⟨?_,?_,?_⟩)
  ·rw [d];simp [f.eq]
  ·intro e J
   simp only [Array.toList_push,List.mem_append,List.mem_singleton] at J
   rcases J with J | rfl
   ·have:=f.old e J;omega
   ·simp
  ·simp only [Array.toList_push,List.map_append,List.map_cons,List.map_nil]
   rw [List.nodup_append]
   refine ⟨f.nodup,by simp,fun b hb c S U=>?_⟩
   simp only [List.mem_singleton] at S
   obtain ⟨e,J,rfl⟩:=List.mem_map.1 hb
   have:=f.old e J
   omega
 | some p=>
  obtain ⟨j,y⟩:=p
  rw [C] at d
  simp only [Nat.sub_zero] at d
  obtain ⟨H,_⟩:=y6i m s 0 j y C
  simp only [Nat.sub_zero] at H
  have l:es.toList[j]?.map (fun e=>(e.key,e.val))=some (Value.string s,y):=by
   rw [<- List.getElem?_map,f.eq,List.getElem?_map,H];rfl
  obtain ⟨e,A,G⟩:∃e,es[j]? = some e/\e.key=.string s:=by
   cases h:es[j]? with
   | none=>
    have h':es.toList[j]? = none:=by simpa using h
    rw [h'] at l;cases l
   | some e=>
    have h':es.toList[j]? = some e:=by simpa using h
    rw [h'] at l;simp only [Option.map_some,Option.some.injEq,Prod.mk.injEq] at l;exact ⟨e,rfl,l.1⟩
  have I:(Instr.keyThatStays (((es[j]?).map (·.key)).getD (.string s)) (.string s)).run P w=.ok (.string s) w:=by
   simp [A,G,Instr.keyThatStays,Instr.sameBits,sP]
  simp only [Sem.run_bind,I,u,Result.andThen_ok,Sem.run_pure,wH]
  have V:j < es.size:=(Array.getElem?_eq_some_iff.1 A).1
  have B:(es.modify j fun e=>{ e with key:=Value.string s,val:=v }).toList=es.toList.modify j (fun e=>{ e with key:=Value.string s,val:=v }):=by simp
  refine k _ (fin _ _ ⟨?_,?_,?_⟩)
  ·rw [B,d]
   apply List.ext_getElem?
   intro q
   have hq:es.toList[q]?.map (fun e=>(e.key,e.val))=m[q]?.map (fun p=>(Value.string p.1,p.2)):=by rw [<- List.getElem?_map,f.eq,List.getElem?_map]
   simp only [List.getElem?_map,List.getElem?_modify,List.getElem?_set]
   by_cases r:j=q
   ·subst r
    have hml':j < m.length:=(List.getElem?_eq_some_iff.1 H).1
    have h':es.toList[j]? = some e:=by simpa using A
    simp [h',hml']
   ·have hq':=hq
    simp only [Array.getElem?_toList] at hq'
    simp [r,hq']
  ·intro x F
   rw [B] at F
   obtain ⟨q,hq⟩:=List.mem_iff_getElem?.1 F
   rw [List.getElem?_modify] at hq
   cases hz':es.toList[q]? with
   | none=>rw [hz'] at hq;simp at hq
   | some e'=>
    rw [hz'] at hq
    have hb':=f.old e' (mgQ hz')
    have Q:=Option.some.inj hq
    rw [<- Q]
    show (if j=q then _ else _:MapEntry).born < clock
    by_cases r:j=q
    ·rw [if_pos r];exact hb'
    ·rw [if_neg r];exact hb'
  ·rw [B]
   have:(es.toList.modify j (fun e=>{ e with key:=Value.string s,val:=v })).map (·.born)=es.toList.map (·.born):=by
    apply List.ext_getElem?
    intro q
    simp only [List.getElem?_map,List.getElem?_modify]
    cases es.toList[q]? with
    | none=>simp
    | some e'=>simp;split <;> rfl
   rw [this];exact f.nodup
end Go.Sw

namespace Go.Sw
noncomputable def Ex.sz (e:Ex):Nat:=SizeOf.sizeOf e
noncomputable def Val.sz (e:Val):Nat:=SizeOf.sizeOf e
theorem Ex.lt_args {e x:Ex} (h:x∈e.args):x.sz < e.sz:=by
 cases e with
 | mk k n s args arms=>
  have:=List.sizeOf_lt_of_mem (show x∈args from h)
  simp only [Ex.sz,Ex.mk.sizeOf_spec];omega
theorem Ex.lt_arms {e:Ex} {a:Arm} (h:a∈e.arms):a.body.sz < e.sz:=by
 cases e with
 | mk k n s args arms=>
  have:=List.sizeOf_lt_of_mem (show a∈arms from h)
  cases a with
  | mk c v b=>simp only [Ex.sz,Ex.mk.sizeOf_spec,Arm.mk.sizeOf_spec,Arm.body] at *;omega
theorem Val.lt_args {e x:Val} (h:x∈e.args):x.sz < e.sz:=by
 cases e with
 | mk c n args=>
  have:=List.sizeOf_lt_of_mem (show x∈args from h)
  simp only [Val.sz,Val.mk.sizeOf_spec];omega
mutual
def jC:Ex->Int->Bool×Int
 | .mk _ _ _ args arms,l=>if l - 1 < 0 then (true,l - 1) else
  match meass args (l - 1) with
  | (true,q)=>(true,q)
  | (false,q)=>measa arms q
def meass:List Ex->Int->Bool×Int
 | [],l=>(false,l)
 | e::es,l=>match jC e l with
  | (true,q)=>(true,q)
  | (false,q)=>meass es q
def measa:List Arm->Int->Bool×Int
 | [],l=>(false,l)
 | .mk _ vs b::es,l=>if 16 < vs.length then (true,l) else match jC b l with
  | (true,q)=>(true,q)
  | (false,q)=>measa es q
end
mutual
theorem wJ:∀(e:Ex) (l:Int),(jC e l).1=false->0<=(jC e l).2/\(jC e l).2<=l
 | .mk _ _ _ args arms,l=>by
  intro h
  simp only [jC] at h ⊢
  split at h
  ·cases h
  ·rename_i hl
   simp only [if_neg hl]
   have h1:=meass_le args (l - 1)
   cases N:meass args (l - 1) with
   | mk b q=>
    rw [N] at h h1
    cases b with
    | true=>cases h
    | false=>
     have a:=measa_le arms q h (by have:=h1 rfl (by omega);simp only at this;omega)
     have:=h1 rfl (by omega)
     simp only at this a ⊢
     omega
theorem meass_le:∀(es:List Ex) (l:Int),(meass es l).1=false->0<=l->0<=(meass es l).2/\(meass es l).2<=l
 | [],l=>by intro _ h;simp [meass,h]
 | e::es,l=>by
  intro h f
  simp only [meass] at h ⊢
  have h1:=wJ e l
  cases N:jC e l with
  | mk b q=>
   rw [N] at h h1
   cases b with
   | true=>cases h
   | false=>
    have d:=h1 rfl
    have a:=meass_le es q h (by simp only at d;omega)
    simp only at d a ⊢
    omega
theorem measa_le:∀(es:List Arm) (l:Int),(measa es l).1=false->0<=l->0<=(measa es l).2/\(measa es l).2<=l
 | [],l=>by intro _ h;simp [measa,h]
 | .mk _ vs b::es,l=>by
  intro h f
  simp only [measa] at h ⊢
  split at h
  ·cases h
  ·rename_i g
   simp only [if_neg g]
   have h1:=wJ b l
   cases N:jC b l with
   | mk c q=>
    rw [N] at h h1
    cases c with
    | true=>cases h
    | false=>
     have d:=h1 rfl
     have a:=measa_le es q h (by simp only at d;omega)
     simp only at d a ⊢
     omega
end
def z2b (arms:List Arm):Bool×Int->Bool×Int
 | (true,q)=>(true,q)
 | (false,q)=>measa arms q
theorem z6u (e:Ex) (l:Int):jC e l=if l - 1 < 0 then (true,l - 1) else z2b e.arms (meass e.args (l - 1)):=by
 cases e with
 | mk k n s args arms=>
  simp only [jC,Ex.args,Ex.arms]
  by_cases h:l - 1 < 0
  ·rw [if_pos h,if_pos h]
  ·rw [if_neg h,if_neg h]
   cases meass args (l - 1) with
   | mk b q=>cases b <;> rfl
theorem uW (e:Ex) (es:List Ex) (l:Int):meass (e::es) l=if (jC e l).1 then (true,(jC e l).2) else meass es (jC e l).2:=by
 simp only [meass]
 cases jC e l with
 | mk b q=>cases b <;> rfl
theorem oD (a:Arm) (es:List Arm) (l:Int):measa (a::es) l=if 16 < a.vars.length then (true,l) else if (jC a.body l).1 then (true,(jC a.body l).2) else measa es (jC a.body l).2:=by
 cases a with
 | mk c vs b=>
  simp only [measa]
  change (if 16 < vs.length then _ else _)=(if 16 < vs.length then (true,l) else if (jC b l).1 then (true,(jC b l).2) else measa es (jC b l).2)
  by_cases h:16 < vs.length
  ·rw [if_pos h,if_pos h]
  ·rw [if_neg h,if_neg h]
   cases jC b l with
   | mk b q=>cases b <;> rfl
def dZ:List Fun->Int->Bool
 | [],_=>false
 | f::fs,l=>decide (16 < f.params.length) || (jC f.body l).1 || dZ fs (jC f.body l).2
def dC (d:Data):Bool:=decide (16 < d.cons.length) || d.cons.any (fun x=>decide (16 < x.fields.length))
def xN (c:Core):Bool :=
 decide (60 < c.datas.length) || decide (6 < c.inputs.length) || decide (300 < c.funs.length) || decide (6 < c.outputs.length) || c.datas.any dC || dZ c.funs 6000
def yU:Bs:=⟨#[73,110,116]⟩
def inF (name:Bs) (s:Bs):Bool := !decide (s=yU) && !decide (s=name)
def dQ (name:Bs):List Con->Bool->Bool
 | [],ok=>ok
 | x::xs,ok=>dQ name xs (ok && !x.fields.any (inF name))
def nP (name:Bs):List Data->Int->Bool->Int×Bool
 | [],n,ok=>(n,ok)
 | d::ds,n,ok=>if d.name=name then nP name ds (IntKind.i64.wrap (n+1)) (dQ name d.cons ok) else nP name ds n ok
def vI (ds:List Data) (name:Bs):Bool :=
 if name=yU then true else decide ((nP name ds 0 true).1=1)&&(nP name ds 0 true).2
def strs (l:List Bs):List Value:=l.map .string
theorem yN (l m:List Bs):strs (l++m)=strs l++strs m:=by simp [strs]
theorem zR (l:List Bs):(strs l).length=l.length:=by simp [strs]
theorem z0j (l:List Bs):(strs l).all Value.oneCell'=true:=by simp [strs,Value.oneCell']
theorem chunks_str {Φ:Fz}:∀{l:List Bs} {cs:List Value},Chunks (RStr Φ) 1 cs l↔cs=strs l
 | [],cs=>by simp [Chunks,strs]
 | s::l,cs=>by
  simp only [Chunks,RStr]
  constructor
  ·rintro ⟨c,rest,rfl,_,rfl,a⟩
   have:=chunks_str.1 a
   subst this;rfl
  ·rintro rfl
   exact ⟨[.string s],strs l,rfl,rfl,rfl,chunks_str.2 rfl⟩
theorem SliceOf.strs {Φ:Fz} {v:Value} {l:List Bs}:SliceOf RStr Φ 1 v l↔Row Φ v 1 (strs l) :=
 ⟨fun ⟨_,h1,a⟩=>chunks_str.1 a▸h1,fun h=>⟨_,h,chunks_str.2 rfl⟩⟩
theorem z1e {P:Program} {t e:TypeId} {len k:Nat} {z:Value} {parts:List (Nat×Value)} {cs:List Value} (f:Under P t (.slice e)) (O:SizeT P e k) (g:ZeroT P e z) (d:Nat.ble (len * k) 16777216=true) (a:len * k≠0)
  (b:Instr.fill (fun i=>some (i * k,k)) ((List.range (len * k)).map (fun x=>z.cells[x % z.cells.size]!)).toArray parts=some cs.toArray):built P t parts len cs e:=fun w=>by
 have hn':¬len * k > 2 ^ 24:=by
  have:len * k<=16777216:=by simpa using d
  omega
 have c:(Array.range (len * k)).map (z.cells[· % z.cells.size]!)=((List.range (len * k)).map (fun x=>z.cells[x % z.cells.size]!)).toArray:=by
  apply Array.ext'
  simp
 simp only [Instr.buildSlice,Sem.run_bind,f w,O w,Result.andThen_ok,if_neg hn',if_neg a,g w,Sem.run_pure,c,b,newRow,run_newObj]
 simp [ob]
theorem z7w {P:Program} {t e:TypeId} {k:Nat} (a:Under P t (.slice e)) (O:SizeT P e k):built P t [] 0 [] e:=fun w=>by
 simp only [Instr.buildSlice,Sem.run_bind,a w,O w,Result.andThen_ok]
 have hr:Array.range 0=(#[]:Array Nat):=by simp
 simp [Instr.fill,newRow,ob,hr]
mutual
def zN:Ex->List Bs
 | .mk k _ s args arms=>(if k=6 then [s] else [])++bindPs args++bindPa arms
def bindPs:List Ex->List Bs
 | []=>[]
 | e::es=>zN e++bindPs es
def bindPa:List Arm->List Bs
 | []=>[]
 | .mk _ vs b::es=>vs++zN b++bindPa es
end
theorem wM (e:Ex):zN e=(if e.kind=6 then [e.name] else [])++bindPs e.args++bindPa e.arms:=by
 cases e;simp only [zN,Ex.args,Ex.arms];rfl
theorem qE (a:Arm) (es:List Arm):bindPa (a::es)=a.vars++zN a.body++bindPa es:=by
 cases a;rfl
theorem xT {t:Bs} {i:Nat} (h:i < t.size):∃c,t[i]? = some c:=⟨t[i],by simp [h]⟩
def zG (t:Bs) (i:Nat):Nat:=match t[i]? with | some c=>c.toNat | none=>0
theorem yP {t:Bs} {i:Nat} {c:UInt8} (h:t[i]? = some c):zG t i=c.toNat:=by simp [zG,h]
theorem y0b {t:Bs} {i:Nat} (h:¬i < t.size):zG t i=0:=by
 have:t[i]? = none:=by simp;omega
 simp [zG,this]
def qQ (c:Nat):Bool:=decide (97<=c)&&decide (c<=122)
def qW (c:Nat):Bool:=decide (65<=c)&&decide (c<=90)
def yF (c:Nat):Bool:=decide (48<=c)&&decide (c<=57)
def yR (c:Nat):Bool:=qQ c || qW c || yF c || decide (c=95)
def xR (c:Nat):Bool:=decide (c=32) || decide (c=9) || decide (c=10) || decide (c=13)
def kT (s p:Bs):Bool:=decide (p.size<=s.size)&&decide (s.extract 0 p.size=p)
def yS (p:Nat->Bool) (t:Bs):Nat->Nat->Nat
 | 0,_=>0
 | f+1,i=>if i < t.size/\p (zG t i)=true then yS p t f (i+1)+1 else 0
theorem q2g (p:Nat->Bool) (t:Bs):∀(f g i:Nat),t.size<=i+f->t.size<=i+g->yS p t f i=yS p t g i
 | 0,0,_,_,_=>rfl
 | 0,g+1,i,h,_=>by simp only [yS];rw [if_neg (by omega)]
 | f+1,0,i,_,h=>by simp only [yS];rw [if_neg (by omega)]
 | f+1,g+1,i,h,h'=>by
  simp only [yS]
  split
  ·rw [q2g p t f g (i+1) (by omega) (by omega)]
  ·rfl
theorem xV (p:Nat->Bool) (t:Bs) (i:Nat):yS p t t.size i=if i < t.size/\p (zG t i)=true then yS p t t.size (i+1)+1 else 0:=by
 rw [q2g p t t.size (t.size+1) i (by omega) (by omega)]
 simp only [yS]
theorem kU (p:Nat->Bool) (t:Bs):∀(f i:Nat),i<=t.size->i+yS p t f i<=t.size
 | 0,i,h=>by simpa [yS] using h
 | f+1,i,h=>by
  simp only [yS]
  split
  ·rename_i a
   have:=kU p t f (i+1) (by omega)
   omega
  ·omega
end Go.Sw

namespace Go.Sw
variable {P:Program} {n:Nat} {E:List (Nat×Value)} {D:List Deferred} {a:Act} {Φ Ψ:Fz} {K:List Res} {w:World}
variable {Kn:Value->World->Prop} {Qp:List PanicEntry->World->Prop} {dst:Option Tmp} {ty:TypeId} {pos:String} {aft:Array Edge} {g:Option (Nat×Bool)}
def Out {ε α:Type} (r:Except ε α) (A:α->Prop) (B:ε->Prop):Prop:=match r with | .ok x=>A x | .error c=>B c
theorem z8f {α ε:Type} {f:FuncId} {xs:Array Operand} {ts:Array TypeId} {vs:List Value} {r:Except ε α} {X:α->Value} {C:ε->List PanicEntry} {b d:Fz} {KO:α->List Res} {KE:List Res}
  (J:EnvR n E D a) (m:evs E xs.toList=some vs) (l:∀args w,(callFunc f args).run P w=.ok (.enter f args) w)
  (j:Calls P f vs.toArray w (fun e w'=>Out r (fun x=>e=.returned (X x)/\Mem b (KO x) w') (fun c=>e=.panicked (C c)/\Mem d KE w')))
  (k:∀x w',r=.ok x->Mem b (KO x) w'->Kn (X x) w') (kp:∀c w',r=.error c->Mem d KE w'->Qp (C c) w') :
  Oper.eff P ⟨dst,.call { callee:=.value (.func f),args:=xs,argTypes:=ts },ty,pos,aft,g⟩ a w Kn Qp:=by
 refine aR J m l j (fun v w' h=>?_) (fun c w' h=>?_) (fun w' h=>?_)
 ·cases r with
  | ok x=>obtain ⟨h1,i⟩:=h;cases h1;exact k _ _ rfl i
  | error c=>obtain ⟨h1,_⟩:=h;cases h1
 ·cases r with
  | ok x=>obtain ⟨h1,_⟩:=h;cases h1
  | error c=>obtain ⟨h1,i⟩:=h;cases h1;exact kp _ _ rfl i
 ·cases r with
  | ok x=>obtain ⟨h1,_⟩:=h;cases h1
  | error c=>obtain ⟨h1,_⟩:=h;cases h1
theorem yJ {md:Region.Mode} {kd:List Nat} {o:Oper} {B:Prop} (h:oA md kd o=false) (hl:oA md kd o=true):B:=by rw [h] at hl;cases hl
theorem kH {t:TypeId} {v:Value} (w:World):(Instr.panic (.iface t v)).run P w=.halt (.panic (.iface t v)) w:=rfl
theorem retcA {fn:Func} {R:Ending->World->Prop} {t T b k i:Nat} {cs:List Value} {d:TypeId} (J:EnvR n E [] a) (N:Sees Φ K w) (hr:fn.results=#[.cell t T]) (o:get E t=some (.pointer (some ⟨b,0,none⟩)))
  (m:qU K i=some (.blk b (ob cs d))) (f:AggT P T) (e:SizeT P T k) (hl:cs.length=k) (h:R (.returned (.agg cs.toArray)) w):bodyPost P fn R .ret a w:=by
 refine ⟨J.defs,.agg cs.toArray,?_,h⟩
 have g:∀j v,cs[j]? = some v->w.cell? ((⟨b,0,none⟩:Addr).add j)=some v:=fun j v l=>by
  have h1:=N.cell m j
  rw [z5a,l] at h1
  unfold Addr.add;split
  ·subst_vars;exact h1
  ·simpa using h1
 have c:=run_loadCells_list (P:=P) (w:=w) ⟨b,0,none⟩ cs g
 rw [hl] at c
 simp [results,hr,Array.getD_eq_getD_getElem?,J.env t _ o,asAddr,loadVar,f w,e w,c]
theorem qL {fn:Func} {R:Ending->World->Prop} {c:List PanicEntry} (b:a.defers=[]) (h:R (.panicked c) w):bodyPost P fn R (.panic c) a w:=⟨b,h⟩
def wN (t:Bs) (org:Nat):Nat->Nat->Int->Except (Nat×Int) Nat
 | 0,_,_=>.error (org,12)
 | f+1,i,o=>
  if t.size<=i then .error (org,12) else
  if kT (t.extract i t.size) (⟨#[40,42]⟩:Bs) then (if 100<=o then .error (i,6) else wN t org f (i+2) (o+1)) else
  if kT (t.extract i t.size) (⟨#[42,41]⟩:Bs) then (if o - 1=0 then .ok (i+2) else wN t org f (i+2) (o - 1)) else
  wN t org f (i+1) o
theorem jT {t p:Bs} {i:Nat} (h:kT (t.extract i t.size) p=true):p.size<=t.size - i:=by
 simp only [kT,baQ,decide_eq_true_eq,ByteArray.size_extract] at h
 have:=h.1
 simp only [Nat.min_self] at this
 exact this
theorem cT (t:Bs) (org:Nat):∀(f g i:Nat) (o:Int),t.size < i+f->t.size < i+g->wN t org f i o=wN t org g i o
 | 0,0,_,_,_,_=>rfl
 | 0,g+1,i,o,h,_=>by simp only [wN];rw [if_pos (by omega)]
 | f+1,0,i,o,_,h=>by simp only [wN];rw [if_pos (by omega)]
 | f+1,g+1,i,o,h,h'=>by
  simp only [wN]
  rw [cT t org f g (i+2) (o+1) (by omega) (by omega),cT t org f g (i+2) (o - 1) (by omega) (by omega),cT t org f g (i+1) o (by omega) (by omega)]
def vX (t:Bs) (org i:Nat) (o:Int):Except (Nat×Int) Nat:=wN t org (t.size+1) i o
theorem aD (t:Bs) (org i:Nat) (o:Int):vX t org i o =
  if t.size<=i then .error (org,12) else
  if kT (t.extract i t.size) (⟨#[40,42]⟩:Bs) then (if 100<=o then .error (i,6) else vX t org (i+2) (o+1)) else
  if kT (t.extract i t.size) (⟨#[42,41]⟩:Bs) then (if o - 1=0 then .ok (i+2) else vX t org (i+2) (o - 1)) else
  vX t org (i+1) o:=by
 unfold vX
 rw [cT t org (t.size+1) (t.size+2) i o (by omega) (by omega)]
 simp only [wN]
theorem mE (t:Bs) (org:Nat):∀(f i q:Nat) (o:Int),wN t org f i o=.ok q->i < q/\q<=t.size
 | 0,_,_,_,h=>by simp [wN] at h
 | f+1,i,q,o,h=>by
  simp only [wN] at h
  split at h
  ·cases h
  ·split at h
   ·split at h
    ·cases h
    ·have:=mE t org f _ _ _ h;omega
   ·split at h
    ·rename_i O
     have a:=jT O
     have:(⟨#[42,41]⟩:Bs).size=2:=rfl
     split at h
     ·simp only [Except.ok.injEq] at h;omega
     ·have:=mE t org f _ _ _ h;omega
    ·have:=mE t org f _ _ _ h;omega
def sY (c:Nat×Int):List PanicEntry:=[{ v:=.iface 257 (.agg #[.int .i64 c.1,.int .i64 c.2]),recovered:=false }]
theorem z8g {α β ε:Type} {f:FuncId} {xs:Array Operand} {ts:Array TypeId} {vs:List Value} {r:Except ε α} {X:α->β->Value} {C:ε->List PanicEntry} {F1:α->β->Fz} {b:Fz} {KO:α->β->List Res} {KE:List Res} {G:α->β->Prop}
  (J:EnvR n E D a) (m:evs E xs.toList=some vs) (l:∀args w,(callFunc f args).run P w=.ok (.enter f args) w)
  (j:Calls P f vs.toArray w (fun e w'=>Out r (fun x=>∃y,e=.returned (X x y)/\G x y/\Mem (F1 x y) (KO x y) w') (fun c=>e=.panicked (C c)/\Mem b KE w')))
  (k:∀x y w',r=.ok x->G x y->Mem (F1 x y) (KO x y) w'->Kn (X x y) w') (kp:∀c w',r=.error c->Mem b KE w'->Qp (C c) w') :
  Oper.eff P ⟨dst,.call { callee:=.value (.func f),args:=xs,argTypes:=ts },ty,pos,aft,g⟩ a w Kn Qp:=by
 refine aR J m l j (fun v w' h=>?_) (fun c w' h=>?_) (fun w' h=>?_)
 ·cases r with
  | ok x=>obtain ⟨y,h1,d,i⟩:=h;cases h1;exact k _ _ _ rfl d i
  | error c=>obtain ⟨h1,_⟩:=h;cases h1
 ·cases r with
  | ok x=>obtain ⟨y,h1,_⟩:=h;cases h1
  | error c=>obtain ⟨h1,d⟩:=h;cases h1;exact kp _ _ rfl d
 ·cases r with
  | ok x=>obtain ⟨y,h1,_⟩:=h;cases h1
  | error c=>obtain ⟨h1,_⟩:=h;cases h1
theorem jG {β:Type} {f:FuncId} {xs:Array Operand} {ts:Array TypeId} {vs:List Value} {X:β->Value} {F1:β->Fz} {KO:β->List Res} {G:β->Prop}
  (J:EnvR n E D a) (l:evs E xs.toList=some vs) (j:∀args w,(callFunc f args).run P w=.ok (.enter f args) w)
  (i:Calls P f vs.toArray w (fun e w'=>∃y,e=.returned (X y)/\G y/\Mem (F1 y) (KO y) w'))
  (k:∀y w',G y->Mem (F1 y) (KO y) w'->Kn (X y) w') :
  Oper.eff P ⟨dst,.call { callee:=.value (.func f),args:=xs,argTypes:=ts },ty,pos,aft,g⟩ a w Kn Qp :=
 aR J l j i (fun v w' h=>by obtain ⟨y,h1,b,d⟩:=h;cases h1;exact k _ _ b d) (fun c w' h=>by obtain ⟨y,h1,_⟩:=h;cases h1) (fun w' h=>by obtain ⟨y,h1,_⟩:=h;cases h1)
def z2e (t:Bs):Nat->Nat->Except (Nat×Int) Nat
 | 0,i=>.ok i
 | f+1,i=>
  if kT (t.extract (i+yS xR t t.size i) t.size) (⟨#[40,42]⟩:Bs)=true then
   match vX t (i+yS xR t t.size i) (i+yS xR t t.size i) 0 with
   | .error c=>.error c
   | .ok q=>z2e t f q
  else .ok (i+yS xR t t.size i)
theorem y6y (t:Bs):∀(f g i:Nat),i<=t.size->t.size < i+f->t.size < i+g->z2e t f i=z2e t g i
 | 0,_,i,a,h,_=>by omega
 | _+1,0,i,a,_,h=>by omega
 | f+1,g+1,i,a,h,h'=>by
  simp only [z2e]
  split
  ·cases b:vX t (i+yS xR t t.size i) (i+yS xR t t.size i) 0 with
   | error c=>rfl
   | ok q=>
    have:=mE _ _ _ _ _ _ b
    exact y6y t f g q this.2 (by omega) (by omega)
  ·rfl
def cH (t:Bs) (i:Nat):Except (Nat×Int) Nat:=z2e t (t.size+1) i
theorem y6w (t:Bs) (i:Nat) (h:i<=t.size):cH t i =
  if kT (t.extract (i+yS xR t t.size i) t.size) (⟨#[40,42]⟩:Bs)=true then
   match vX t (i+yS xR t t.size i) (i+yS xR t t.size i) 0 with
   | .error c=>.error c
   | .ok q=>cH t q
  else .ok (i+yS xR t t.size i):=by
 unfold cH
 rw [y6y t (t.size+1) (t.size+2) i h (by omega) (by omega)]
 simp only [z2e]
end Go.Sw

namespace Go.Sw
def kw (l:List UInt8):Bs:=⟨l.toArray⟩
def wordsL:List Bs:=[kw [97,110,100],kw [99,97,115,101],kw [100,97,116,97],kw [101,108,115,101],kw [101,110,100],kw [102,110],kw [102,117,110],kw [105,102],kw [105,110],kw [105,110,112,117,116],kw [108,101,116],kw [111,102],kw [111,117,116,112,117,116],kw [116,104,101,110],kw [118,97,108]]
def wordsM:List (Bs×Value):=wordsL.map (fun s=>(s,.int .i64 5))
theorem z5k {s:Bs} {v:Value} (h:yM wordsM s=some v):v=.int .i64 ((5:Nat):Int):=by
 have:∀(l:List Bs),yM (l.map (fun s=>(s,Value.int .i64 5))) s=some v->v=.int .i64 ((5:Nat):Int):=by
  intro l
  induction l with
  | nil=>intro h;simp [yM] at h
  | cons x l a=>
   intro h
   simp only [List.map_cons,yM] at h
   split at h
   ·simp only [Option.some.injEq] at h;rw [<- h];rfl
   ·exact a h
 exact this _ h
def z1t (s:Bs):Bool:=(yM wordsM s).isSome
structure Tok where
 kind:Int
 num:Int
 text:Bs
 org:Nat
def y8e (k:Tok):Value:=.agg #[.int .i64 k.kind,.int .i64 k.num,.string k.text,.int .i64 k.org]
def wF (t:Bs) (pos:Nat) (kind:Int) (n:Nat):Except (Nat×Int) Tok:=if 24 < n then .error (pos,2) else .ok ⟨kind,0,t.extract pos (pos+n),pos⟩
def qG (t:Bs) (pos:Nat):Nat :=
 if zG t (pos+yS yR t t.size pos)=39 then
  (if 0 < yS yF t t.size (pos+(yS yR t t.size pos+1)) then yS yR t t.size pos+(1+yS yF t t.size (pos+(yS yR t t.size pos+1))) else yS yR t t.size pos)
 else yS yR t t.size pos
def kR (t:Bs) (pos:Nat) (kind:Int):Except (Nat×Int) Tok :=
 if 24 < qG t pos then .error (pos,2)
 else .ok ⟨if z1t (t.extract pos (pos+qG t pos)) then 5 else kind,0,t.extract pos (pos+qG t pos),pos⟩
theorem tM {t:Bs} {pos n:Nat} {kd:Int} {q:Tok} (hq:wF t pos kd n=.ok q):¬24 < n/\q=⟨kd,0,t.extract pos (pos+n),pos⟩:=by
 unfold wF at hq
 split at hq
 ·cases hq
 ·rename_i h;simp only [Except.ok.injEq] at hq;exact ⟨h,hq.symm⟩
theorem x0k {t:Bs} {pos n:Nat} {kd:Int} {c:Nat×Int} (hq:wF t pos kd n=.error c):24 < n/\c=(pos,2):=by
 unfold wF at hq
 split at hq
 ·rename_i h;simp only [Except.error.injEq] at hq;exact ⟨h,hq.symm⟩
 ·cases hq
theorem tO {t:Bs} {pos n:Nat} {kd:Int} {q:Tok} (hq:wF t pos kd n=.ok q) (a:yM wordsM q.text=none) (b:qG t pos=n):kR t pos kd=.ok q:=by
 obtain ⟨h1,rfl⟩:=tM hq
 simp only at a
 unfold kR
 rw [b,if_neg h1]
 simp [z1t,a]
theorem tP {t:Bs} {pos n:Nat} {kd:Int} {q:Tok} {v:Value} (hq:wF t pos kd n=.ok q) (a:yM wordsM q.text=some v) (b:qG t pos=n):kR t pos kd=.ok ⟨5,q.num,q.text,q.org⟩:=by
 obtain ⟨h1,rfl⟩:=tM hq
 simp only at a
 unfold kR
 rw [b,if_neg h1]
 simp [z1t,a]
theorem y6k {t:Bs} {pos n:Nat} {kd:Int} {c:Nat×Int} (hq:wF t pos kd n=.error c) (a:qG t pos=n):kR t pos kd=.error c:=by
 obtain ⟨h1,rfl⟩:=x0k hq
 unfold kR
 rw [a,if_pos h1]
theorem tB {t:Bs} {i:Nat} (h:zG t i≠0):i < t.size:=by
 by_cases a:i < t.size
 ·exact a
 ·exact absurd (y0b a) h
theorem y6j (t:Bs) (pos:Nat) (h:pos<=t.size):pos+qG t pos<=t.size:=by
 have h1:=kU yR t t.size pos h
 unfold qG
 split
 ·rename_i a
  have b:=tB (t:=t) (i:=pos+yS yR t t.size pos) (by omega)
  have c:=kU yF t t.size (pos+(yS yR t t.size pos+1)) (by omega)
  split
  ·omega
  ·omega
 ·omega
end Go.Sw

namespace Go.Sw
open Go.Proofs
def Tabs (Φ:Fz):Prop:=∀w,Sees Φ [] w->Lib.TabIs Tryz.prog w "internal/strconv.uint64pow10" .u64 Lib.pow10Tab
theorem Tabs.mono {Φ Ψ:Fz} (h:Tabs Φ) (hl:Φ.Le Ψ):Tabs Ψ:=fun w a=>h w ⟨fun b o hb=>a.fz b o (hl.obj b o hb),by simp⟩
def ErrAt (Φ:Fz) (g:Nat):Prop:=∃v,At Φ ⟨g,0,none⟩ [v]/\(v=.nilIface∨∃t p,v=.iface t p)
theorem ErrAt.mono {Φ Ψ:Fz} {g:Nat} (h:ErrAt Φ g) (hl:Φ.Le Ψ):ErrAt Ψ g:=let ⟨v,h1,a⟩:=h;⟨v,h1.mono hl,a⟩
structure Glob (Φ:Fz):Prop where
 maxLen:∃m,At Φ ⟨1,0,none⟩ [.int .i64 m]
 tabs:Tabs Φ
 err4:ErrAt Φ 4
 err5:ErrAt Φ 5
theorem Glob.mono {Φ Ψ:Fz} (h:Glob Φ) (hl:Φ.Le Ψ):Glob Ψ:=⟨let ⟨m,N⟩:=h.maxLen;⟨m,N.mono hl⟩,h.tabs.mono hl,h.err4.mono hl,h.err5.mono hl⟩
def mZ (l:List Bs):List (Bs×Value):=l.foldl (fun m s=>cF m s (.bool true)) []
theorem z5e (l:List Bs) (s:Bs):mZ (l++[s])=cF (mZ l) s (.bool true):=by simp [mZ]
theorem x0n (m:List (Bs×Value)) (k s:Bs) (v:Value):yM (cF m k v) s=if s=k then some v else yM m s:=by
 induction m with
 | nil=>simp [cF,yM]
 | cons p m b=>
  obtain ⟨q,x⟩:=p
  simp only [cF]
  split
  ·subst_vars;simp only [yM]
   split <;> rfl
  ·simp only [yM,b]
   by_cases h1:s=q
   ·subst h1
    rename_i a
    rw [if_pos rfl,if_pos rfl,if_neg (fun e=>a e.symm)]
   ·rw [if_neg h1,if_neg h1]
def has (l:List Bs) (s:Bs):Bool:=l.any (fun x=>decide (x=s))
theorem x6f (l:List Bs) (x s:Bs):has (l++[x]) s=(has l s || decide (x=s)):=by simp [has]
theorem q2j (l:List Bs) (s:Bs):yM (mZ l) s=if has l s then some (Value.bool true) else none:=by
 have:∀(l m:List Bs) (acc:List (Bs×Value)),(∀s,yM acc s=if has m s then some (Value.bool true) else none)->∀s,yM (l.foldl (fun m s=>cF m s (.bool true)) acc) s=if has (m++l) s then some (Value.bool true) else none:=by
  intro l
  induction l with
  | nil=>intro m acc h s;simpa using h s
  | cons x l b=>
   intro m acc h s
   simp only [List.foldl_cons]
   have:=b (m++[x]) (cF acc x (.bool true)) (fun s=>by
    rw [x0n,h,x6f]
    by_cases a:s=x
    ·simp [a]
    ·have hx':¬x=s:=fun e=>a e.symm
     simp [a,hx']) s
   simpa using this
 have h:=this l [] [] (fun s=>by simp [yM,has]) s
 simpa [mZ] using h
theorem y7r {l:List Bs} {s:Bs} {v:Value} (h:yM (mZ l) s=some v):v=.bool true/\has l s=true:=by
 rw [q2j] at h
 split at h
 ·simp only [Option.some.injEq] at h;exact ⟨h.symm,by assumption⟩
 ·cases h
theorem y7q {l:List Bs} {s:Bs} (h:yM (mZ l) s=none):has l s=false:=by
 rw [q2j] at h
 split at h
 ·cases h
 ·simpa using (by assumption:¬has l s=true)
def pT (nm:Bs->Bool):List Bs->List Bs->Bool
 | _,[]=>true
 | ds,s::l=>nm s && !has ds s&&pT nm (ds++[s]) l
end Go.Sw

namespace Go.Sw
section
variable {α:Type}
def zK:List (Bs×α)->Bs->Option α
 | [],_=>none
 | (k,x)::l,s=>if s=k then some x else zK l s
def jP:List (Bs×α)->Bs->α->List (Bs×α)
 | [],s,x=>[(s,x)]
 | (k,y)::l,s,x=>if s=k then (k,x)::l else (k,y)::jP l s x
def vR (m:List (Bs×Value)) (s:Bs) (v:Value):List (Bs×Value):=match yM m s with | some _=>m | none=>cF m s v
def jL (l:List (Bs×α)) (s:Bs) (x:α):List (Bs×α):=match zK l s with | some _=>l | none=>jP l s x
inductive MapRel (R:Value->α->Prop):List (Bs×Value)->List (Bs×α)->Prop
 | nil:MapRel R [] []
 | cons {k v x m l}:R v x->MapRel R m l->MapRel R ((k,v)::m) ((k,x)::l)
variable {R R':Value->α->Prop} {m:List (Bs×Value)} {l:List (Bs×α)}
theorem MapRel.mono (h:MapRel R m l) (a:∀v x,R v x->R' v x):MapRel R' m l:=by
 induction h with
 | nil=>exact .nil
 | cons h1 _ b=>exact .cons (a _ _ h1) b
theorem MapRel.get (h:MapRel R m l) {s:Bs} {v:Value} (a:yM m s=some v):∃x,zK l s=some x/\R v x:=by
 induction h with
 | nil=>cases a
 | cons h1 _ c=>
  simp only [yM] at a
  simp only [zK]
  split at a
  ·rename_i O;simp only [Option.some.injEq] at a;subst a;exact ⟨_,by rw [if_pos O],h1⟩
  ·rename_i O
   obtain ⟨x,b,e2⟩:=c a
   exact ⟨x,by rw [if_neg O];exact b,e2⟩
theorem MapRel.none (h:MapRel R m l) {s:Bs} (a:yM m s=none):zK l s=none:=by
 induction h with
 | nil=>rfl
 | cons h1 _ b=>
  simp only [yM] at a
  simp only [zK]
  split at a
  ·cases a
  ·rename_i O;rw [if_neg O];exact b a
theorem MapRel.put (h:MapRel R m l) {s:Bs} {v:Value} {x:α} (a:R v x):MapRel R (cF m s v) (jP l s x):=by
 induction h with
 | nil=>exact .cons a .nil
 | cons h1 b c=>
  simp only [cF,jP]
  split
  ·exact .cons a b
  ·exact .cons h1 c
theorem MapRel.once (h:MapRel R m l) {s:Bs} {v:Value} {x:α} (a:R v x):MapRel R (vR m s v) (jL l s x):=by
 unfold vR jL
 cases N:yM m s with
 | none=>rw [h.none N];exact h.put a
 | some u=>obtain ⟨y,e,_⟩:=h.get N;rw [e];exact h
end
def RVa {α:Type} (R:Fz->List Value->α->Prop) (Φ:Fz) (v:Value) (x:α):Prop:=∃cs,v=.agg cs.toArray/\R Φ cs x
def RVs (v:Value) (x:Bs):Prop:=v=.string x
structure Maker where
 data:Bs
 con:Con
def RMaker (Φ:Fz) (cs:List Value) (x:Maker):Prop:=∃b,cs=.string x.data::b/\RCon Φ b x.con
theorem RMaker.mono (Φ Ψ:Fz) (c:List Value) (x:Maker) (hl:Φ.Le Ψ) (h:RMaker Φ c x):RMaker Ψ c x:=let ⟨b,h1,a⟩:=h;⟨b,h1,RCon.mono _ _ _ _ hl a⟩
structure Table where
 core:Core
 datas:List (Bs×Data)
 cons:List (Bs×Maker)
 funs:List (Bs×Fun)
 inputs:List (Bs×Bs)
structure RTable (Φ:Fz) (p:Addr) (T:Table):Prop where
 ex:∃cs m1 m2 m3 m4 d1 d2 d3 d4,At Φ p (cs++[.map (some m1),.map (some m2),.map (some m3),.map (some m4)])/\cs.length=4/\RCore Φ cs T.core /\
  MapAt Φ m1 d1/\MapRel (RVa RData Φ) d1 T.datas/\MapAt Φ m2 d2/\MapRel (RVa RMaker Φ) d2 T.cons/\MapAt Φ m3 d3/\MapRel (RVa RFun Φ) d3 T.funs/\MapAt Φ m4 d4/\MapRel RVs d4 T.inputs
theorem RVa.mono {α:Type} {R:Fz->List Value->α->Prop} (b:∀Φ Ψ c x,Φ.Le Ψ->R Φ c x->R Ψ c x) {Φ Ψ:Fz} (hl:Φ.Le Ψ) (v:Value) (x:α) (h:RVa R Φ v x):RVa R Ψ v x:=let ⟨cs,h1,a⟩:=h;⟨cs,h1,b _ _ _ _ hl a⟩
theorem RTable.mono {Φ Ψ:Fz} {p:Addr} {T:Table} (h:RTable Φ p T) (hl:Φ.Le Ψ):RTable Ψ p T :=
 let ⟨cs,m1,m2,m3,m4,d1,d2,d3,d4,f,h1,g,a,b,a2,c,a3,d,a4,e⟩:=h.ex
 ⟨cs,m1,m2,m3,m4,d1,d2,d3,d4,f.mono hl,h1,RCore.mono _ _ _ _ hl g,a.mono hl,b.mono (RVa.mono RData.mono hl),a2.mono hl,c.mono (RVa.mono RMaker.mono hl),a3.mono hl,d.mono (RVa.mono RFun.mono hl),a4.mono hl,e⟩
def qP (e:Ex) (num name:Bool) (args arms:Int):Bool :=
 (num || decide (e.num=0))&&(name || decide (e.name=(⟨#[]⟩:Bs)))&&(decide (args < 0) || decide ((e.args.length:Int)=args))&&(decide (arms < 0) || decide ((e.arms.length:Int)=arms))
def wI (T:Table) (name:Bs):Bool:=(zK T.datas name).isSome || decide (name=yU)
end Go.Sw

namespace Go.Sw
abbrev Scope:=List (Bs×Bs)
def yW (s:Scope):List (Bs×Value):=s.map (fun p=>(p.1,.string p.2))
def y1k {α:Type}:List (Bs×α)->Bs->List (Bs×α)
 | [],_=>[]
 | (k,y)::l,s=>if s=k then l else (k,y)::y1k l s
theorem y7w:∀(s:Scope) (k:Bs),yM (yW s) k=(zK s k).map .string
 | [],_=>rfl
 | (q,x)::s,k=>by
  simp only [yW,List.map_cons,yM,zK]
  split
  ·rfl
  ·exact y7w s k
theorem kJ {s:Scope} {k:Bs} {v:Value} (h:yM (yW s) k=some v):∃y,zK s k=some y/\v=.string y:=by
 rw [y7w] at h
 cases hl:zK s k with
 | none=>rw [hl] at h;cases h
 | some y=>rw [hl] at h;simp only [Option.map_some,Option.some.injEq] at h;exact ⟨y,rfl,h.symm⟩
theorem kI {s:Scope} {k:Bs} (h:yM (yW s) k=none):zK s k=none:=by
 rw [y7w] at h
 cases hl:zK s k with
 | none=>rfl
 | some y=>rw [hl] at h;cases h
theorem dH:∀(s:Scope) (k x:Bs),cF (yW s) k (.string x)=yW (jP s k x)
 | [],_,_=>rfl
 | (q,y)::s,k,x=>by
  simp only [yW,List.map_cons,cF,jP]
  split
  ·rfl
  ·simp only [List.map_cons];exact congrArg _ (dH s k x)
theorem z7f:∀(s:Scope) (k:Bs),z9c (yW s) k=yW (y1k s k)
 | [],_=>rfl
 | (q,y)::s,k=>by
  simp only [yW,List.map_cons,z9c,y1k]
  split
  ·rfl
  ·simp only [List.map_cons];exact congrArg _ (z7f s k)
def sNo:Bs:=⟨#[]⟩
def kV:Bs:=⟨#[66,111,111,108]⟩
def sI (e:Ex):Bs:=if qP e true false 0 0 then yU else sNo
def mW (e:Ex) (s:Scope):Bs:=if qP e false true 0 0 then (zK s e.name).getD sNo else sNo
def uQ (T:Table) (e:Ex):Bs:=if qP e false true 0 0 then (zK T.inputs e.name).getD sNo else sNo
def putAll:Scope->List Bs->List Bs->Scope
 | s,v::vs,f::fs=>putAll (jP s v f) vs fs
 | s,_,_=>s
def gY:Scope->List Bs->Scope
 | s,v::vs=>gY (y1k s v) vs
 | s,[]=>s
def opT (name:Bs):Bs :=
 if name=⟨#[43]⟩∨name=⟨#[45]⟩∨name=⟨#[42]⟩∨name=⟨#[47]⟩∨name=⟨#[37]⟩ then yU
 else if name=⟨#[60]⟩∨name=⟨#[61]⟩ then kV else sNo
mutual
def zI (T:Table):Ex->Scope->Bs×Scope
 | .mk kind num name args arms,s=>
  if kind=1 then (sI (.mk kind num name args arms),s)
  else if kind=2 then (mW (.mk kind num name args arms) s,s)
  else if kind=3 then (uQ T (.mk kind num name args arms),s)
  else if kind=4 then
   match zK T.cons name with
   | none=>(sNo,s)
   | some m=>if qP (.mk kind num name args arms) false true (-1) 0=true/\args.length=m.con.fields.length then ((if (allQ T args s m.con.fields).1 then m.data else sNo),(allQ T args s m.con.fields).2) else (sNo,s)
  else if kind=5 then
   match zK T.funs name with
   | none=>(sNo,s)
   | some f=>if qP (.mk kind num name args arms) false true (-1) 0=true/\args.length=f.params.length then ((if (allQ T args s (f.params.map Param.type)).1 then f.result else sNo),(allQ T args s (f.params.map Param.type)).2) else (sNo,s)
  else if kind=6 then (if qP (.mk kind num name args arms) false true 2 0 then letP T name args s else (sNo,s))
  else if kind=7 then
   if qP (.mk kind num name args arms) false false 1 (-1) then
    match zK T.datas (firstP T args s).1 with
    | none=>(sNo,(firstP T args s).2)
    | some d=>if d.cons.length=arms.length then splitP T arms d.cons true sNo (firstP T args s).2 else (sNo,(firstP T args s).2)
   else (sNo,s)
  else if kind=8 then
   if qP (.mk kind num name args arms) false true 2 0 then ((if (allQ T args s [yU,yU]).1 then opT name else sNo),(allQ T args s [yU,yU]).2) else (sNo,s)
  else (sNo,s)
def allQ (T:Table):List Ex->Scope->List Bs->Bool×Scope
 | [],s,_=>(true,s)
 | x::xs,s,ts=>
  if (zI T x s).1=sNo∨(zI T x s).1≠ts.headD sNo then (false,(zI T x s).2) else allQ T xs (zI T x s).2 ts.tail
def firstP (T:Table):List Ex->Scope->Bs×Scope
 | [],s=>(sNo,s)
 | a::_,s=>zI T a s
def restP (T:Table):List Ex->Scope->Bs×Scope
 | [],s=>(sNo,s)
 | _::l,s=>firstP T l s
def letP (T:Table) (name:Bs):List Ex->Scope->Bs×Scope
 | [],s=>(sNo,s)
 | a::l,s=>if (zI T a s).1=sNo then (sNo,(zI T a s).2) else
   ((firstP T l (jP (zI T a s).2 name (zI T a s).1)).1,y1k (firstP T l (jP (zI T a s).2 name (zI T a s).1)).2 name)
def splitP (T:Table):List Arm->List Con->Bool->Bs->Scope->Bs×Scope
 | [],_,_,out,s=>(out,s)
 | .mk con vars body::az,cs,first,out,s=>
  if con≠(cs.headD ⟨sNo,[]⟩).name∨vars.length≠(cs.headD ⟨sNo,[]⟩).fields.length then (sNo,s) else
  if (zI T body (putAll s vars (cs.headD ⟨sNo,[]⟩).fields)).1=sNo∨(first=false/\(zI T body (putAll s vars (cs.headD ⟨sNo,[]⟩).fields)).1≠out)
  then (sNo,gY (zI T body (putAll s vars (cs.headD ⟨sNo,[]⟩).fields)).2 vars)
  else splitP T az cs.tail false (zI T body (putAll s vars (cs.headD ⟨sNo,[]⟩).fields)).1 (gY (zI T body (putAll s vars (cs.headD ⟨sNo,[]⟩).fields)).2 vars)
end
theorem z7u (T:Table) (x:Ex) (xs:List Ex) (s:Scope) (t:Bs) (ts:List Bs):allQ T (x::xs) s (t::ts) =
  if (zI T x s).1=sNo∨(zI T x s).1≠t then (false,(zI T x s).2) else allQ T xs (zI T x s).2 ts:=rfl
def vT (T:Table) (xs:List Ex) (s:Scope) (ts:List Bs):Bool×Scope:=if xs.length=ts.length then allQ T xs s ts else (false,s)
def uM (T:Table) (e:Ex) (s:Scope):Bs×Scope :=
 match zK T.cons e.name with
 | none=>(sNo,s)
 | some m=>if qP e false true (-1) 0=true then ((if (vT T e.args s m.con.fields).1 then m.data else sNo),(vT T e.args s m.con.fields).2) else (sNo,s)
def aP (T:Table) (e:Ex) (s:Scope):Bs×Scope :=
 match zK T.funs e.name with
 | none=>(sNo,s)
 | some f=>if qP e false true (-1) 0=true then ((if (vT T e.args s (f.params.map Param.type)).1 then f.result else sNo),(vT T e.args s (f.params.map Param.type)).2) else (sNo,s)
def nX (T:Table) (e:Ex) (s:Scope):Bs×Scope :=
 if qP e false true 2 0=true then ((if (vT T e.args s [yU,yU]).1 then opT e.name else sNo),(vT T e.args s [yU,yU]).2) else (sNo,s)
theorem oM (T:Table) (e:Ex) (s:Scope) (h:e.kind=4):zI T e s=uM T e s:=by
 cases e with
 | mk k n nm args arms=>
  simp only [Ex.kind] at h
  subst h
  simp only [zI,uM,Ex.name,Ex.args,vT]
  simp only [show ¬(4:Int)=1 by decide,show ¬(4:Int)=2 by decide,show ¬(4:Int)=3 by decide,if_false,if_true]
  cases zK T.cons nm with
  | none=>rfl
  | some m=>
   simp only
   by_cases hb:qP (.mk 4 n nm args arms) false true (-1) 0=true
   ·by_cases hl:args.length=m.con.fields.length
    ·simp [hb,hl]
    ·simp [hb,hl]
   ·simp [hb]
def truthsD:Data:=⟨kV,[⟨⟨#[70,97,108,115,101]⟩,[]⟩,⟨⟨#[84,114,117,101]⟩,[]⟩]⟩
end Go.Sw

namespace Go.Sw
variable {P:Program} {n:Nat} {E:List (Nat×Value)} {D:List Deferred} {a:Act} {Φ Ψ:Fz} {K:List Res} {w:World}
variable {dst:Option Tmp} {ty:TypeId} {pos:String} {aft:Array Edge} {g:Option (Nat×Bool)}
variable {Kn:Value->World->Prop} {Qp:List PanicEntry->World->Prop}
theorem q4h:∀(m:List (Bs×Value)) (s:Bs) (j:Nat),z9c m s=match oS m s j with | none=>m | some (i,_)=>m.eraseIdx (i - j)
 | [],_,_=>rfl
 | (k,x)::m,s,j=>by
  simp only [z9c,oS]
  split
  ·simp
  ·rw [q4h m s (j+1)]
   cases N:oS m s (j+1) with
   | none=>simp
   | some p=>
    obtain ⟨i,y⟩:=p
    obtain ⟨_,h1⟩:=y6i m s (j+1) i y N
    have e:i - j=(i - (j+1))+1:=by omega
    simp only [e,List.eraseIdx_cons_succ]
theorem tN {α β:Type} (f:α->β):∀(l:List α) (i:Nat),(l.eraseIdx i).map f=(l.map f).eraseIdx i
 | [],_=>rfl
 | _::_,0=>rfl
 | x::l,i+1=>by simp [tN f l i]
theorem j3t (i:Nat) {t kt et t2 ty:TypeId} {b:Nat} {m:List (Bs×Value)} {s:Bs} (u:Under P t (.map kt et)) (l:Under P kt .string) (N:Mem Φ K w) (r:qU K i=some (.mp b m)) :
  ∃w',(Builtin.delete_ #[t,t2] ty #[.map (some b),.string s]).run P w=.ok (.tuple #[]) w'/\Mem Φ (pU K i (.mp b (z9c m s))) w':=by
 obtain ⟨es,clock,hb,d⟩:=N.own _ (qV r)
 have h1:(getObj b).run P w=.ok (.map es clock) w:=by simp [getObj,Sem.run,hb]
 have n:b < w.heap.size:=(Array.getElem?_eq_some_iff.1 hb).1
 have g:∀o,(setObj b o).run P w=.ok () { w with heap:=w.heap.setIfInBounds b o }:=fun o=>by simp only [setObj,Sem.run,hb]
 have fin:∀es',MapOk es' clock (z9c m s)->Mem Φ (pU K i (.mp b (z9c m s))) { w with heap:=w.heap.setIfInBounds b (.map es' clock) }:=fun es' h=>
  N.upd r rfl rfl (fun c v q=>by simp only;rw [Array.getElem?_setIfInBounds_ne (fun e=>q (by simp [Res.foot,e]))]) ⟨es',clock,by simp [n],h⟩ (.inl rfl)
 have a:=q4h m s 0
 cases f:oS m s 0 with
 | none=>
  rw [f] at a
  simp only at a
  refine ⟨_,?_,fin es (by rw [a];exact d)⟩
  simp [Builtin.delete_,Sem.run_bind,u w,h1,mV l,aI l d.eq,f,g]
 | some p=>
  obtain ⟨j,y⟩:=p
  rw [f] at a
  simp only [Nat.sub_zero] at a
  have hl:(es.eraseIdxIfInBounds j).toList=es.toList.eraseIdx j:=by simp
  have k:(es.toList.eraseIdx j).Sublist es.toList:=List.eraseIdx_sublist _ _
  refine ⟨_,?_,fin (es.eraseIdxIfInBounds j) ⟨by rw [hl,a,tN,tN,d.eq],fun e J=>d.old e (k.subset (hl▸J)),by rw [hl];exact d.nodup.sublist (k.map _)⟩⟩
  simp [Builtin.delete_,Sem.run_bind,u w,h1,mV l,aI l d.eq,f,g]
theorem y4e (i:Nat) {t kt et t2:TypeId} {x y:Operand} {b:Nat} {m:List (Bs×Value)} {s:Bs} (C:Under P t (.map kt et)) (v:Under P kt .string)
  (J:EnvR n E D a) (N:Mem Φ K w) (H:ev E x=some (.map (some b))) (I:ev E y=some (.string s)) (B:qU K i=some (.mp b m))
  (k:∀w',Mem Φ (pU K i (.mp b (z9c m s))) w'->Kn (.tuple #[]) w'):Oper.eff P ⟨dst,.call { callee:=.builtin .delete,args:=#[x,y],argTypes:=#[t,t2] },ty,pos,aft,g⟩ a w Kn Qp:=by
 obtain ⟨es,clock,hb,f⟩:=N.own _ (qV B)
 have h1:(getObj b).run P w=.ok (.map es clock) w:=by simp [getObj,Sem.run,hb]
 have z:b < w.heap.size:=(Array.getElem?_eq_some_iff.1 hb).1
 have q:∀o,(setObj b o).run P w=.ok () { w with heap:=w.heap.setIfInBounds b o }:=fun o=>by simp only [setObj,Sem.run,hb]
 have fin:∀es',MapOk es' clock (z9c m s)->Mem Φ (pU K i (.mp b (z9c m s))) { w with heap:=w.heap.setIfInBounds b (.map es' clock) }:=fun es' h=>
  N.upd B rfl rfl (fun c L A=>by simp only;rw [Array.getElem?_setIfInBounds_ne (fun e=>A (by simp [Res.foot,e]))]) ⟨es',clock,by simp [z],h⟩ (.inl rfl)
 have d:=q4h m s 0
 have u:∃es',MapOk es' clock (z9c m s)/\(Builtin.delete_ #[t,t2] ty #[.map (some b),.string s]).run P w=.ok (.tuple #[]) { w with heap:=w.heap.setIfInBounds b (.map es' clock) }:=by
  cases l:oS m s 0 with
  | none=>
   rw [l] at d
   simp only at d
   refine ⟨es,by rw [d];exact f,?_⟩
   simp [Builtin.delete_,Sem.run_bind,C w,h1,mV v,aI v f.eq,l,q]
  | some p=>
   obtain ⟨j,y⟩:=p
   rw [l] at d
   simp only [Nat.sub_zero] at d
   refine ⟨es.eraseIdxIfInBounds j,?_,?_⟩
   ·have hl:(es.eraseIdxIfInBounds j).toList=es.toList.eraseIdx j:=by simp
    have r:(es.toList.eraseIdx j).Sublist es.toList:=List.eraseIdx_sublist _ _
    refine ⟨?_,fun e J=>f.old e (r.subset (hl▸J)),?_⟩
    ·rw [hl,d,tN,tN,f.eq]
    ·rw [hl];exact f.nodup.sublist (r.map _)
   ·simp [Builtin.delete_,Sem.run_bind,C w,h1,mV v,aI v f.eq,l,q]
 obtain ⟨es',F,G⟩:=u
 unfold Oper.eff
 have:(execOp a.eval ⟨dst,.call { callee:=.builtin .delete,args:=#[x,y],argTypes:=#[t,t2] },ty,pos,aft,g⟩).run P w=.ok (.value (.tuple #[])) { w with heap:=w.heap.setIfInBounds b (.map es' clock) }:=by
  simp only [execOp,resolve,invoke,builtin,Sem.run_bind,Sem.run_pure,Result.andThen_ok,List.map_toArray,List.map_cons,List.map_nil,J.ev H,J.ev I,G]
 rw [this]
 exact k _ (fin _ F)
end Go.Sw

namespace Go.Sw
theorem pD {e:Ex} {a b:Bool} {n:Nat} {r:Int} (h:qP e a b (n:Int) r=true):e.args.length=n:=by
 simp only [qP,baQ,Bool.or_eq_true,decide_eq_true_eq] at h
 omega
theorem jV {T:Table} {l:List Ex} {x:Ex} {s:Scope} (h:l[0]? = some x):firstP T l s=zI T x s:=by
 cases l with
 | nil=>simp at h
 | cons y l=>simp only [List.getElem?_cons_zero,Option.some.injEq] at h;subst h;rfl
def xK (T:Table) (e:Ex) (s:Scope):Bs×Scope :=
 if qP e false false 1 (-1)=true then
  match zK T.datas (firstP T e.args s).1 with
  | none=>(sNo,(firstP T e.args s).2)
  | some d=>if d.cons.length=e.arms.length then splitP T e.arms d.cons true sNo (firstP T e.args s).2 else (sNo,(firstP T e.args s).2)
 else (sNo,s)
def aO (T:Table) (a:Arm) (c:Con) (s:Scope):Bs×Scope:=((zI T a.body (putAll s a.vars c.fields)).1,gY (zI T a.body (putAll s a.vars c.fields)).2 a.vars)
theorem jU (T:Table) (a:Arm) (az:List Arm) (c:Con) (cs:List Con) (first:Bool) (out:Bs) (s:Scope):splitP T (a::az) (c::cs) first out s =
  if a.con≠c.name∨a.vars.length≠c.fields.length then (sNo,s) else
  if (aO T a c s).1=sNo∨(first=false/\(aO T a c s).1≠out) then (sNo,(aO T a c s).2)
  else splitP T az cs false (aO T a c s).1 (aO T a c s).2:=by
 cases a;rfl
theorem dD (s:Scope) (v:Bs) (vs:List Bs) (f:Bs) (fs:List Bs):putAll s (v::vs) (f::fs)=putAll (jP s v f) vs fs:=rfl
theorem vJ (s:Scope) (fs:List Bs):putAll s [] fs=s:=by cases fs <;> rfl
end Go.Sw

namespace Go.Sw
variable {P:Program}
theorem z5h {fr:Frame} {cs:List Frame} {w w':World} {d:Deferred} {ds:List Deferred} {b:Builtin} {ts:Array TypeId} {ty:TypeId} {k:Array Bool} {v:Value}
  (N:fr.mode≠.run) (f:fr.defers=d::ds) (g:d.target=.builtin b ts ty k) (e:(invoke d.target d.args).run P w=.ok (.value v) w') :
  step P (lone fr cs w)=.next (lone { fr with defers:=ds } cs w'):=by
 obtain ⟨t,a⟩:=d
 simp only at g e
 subst g
 refine step_lone_go ?_
 cases c:fr.mode with
 | run=>exact absurd c N
 | returning=>simp [stepG,unwind,callDeferred,c,f,e]
 | panicking chain=>simp [stepG,unwind,callDeferred,c,f,e]
def j7e (P:Program) (fn:Func) (R:Ending->World->Prop):Exit->Act->World->Prop
 | .ret,a,w=>(a.defers=[]/\∃x,(results fn a.tmps).run P w=.ok x w/\R (.returned x) w) ∨
   ∃d b ts ty k v w',a.defers=[d]/\d.target=.builtin b ts ty k/\(invoke d.target d.args).run P w=.ok (.value v) w'/\∃x,(results fn a.tmps).run P w'=.ok x w'/\R (.returned x) w'
 | _,_,_=>False
theorem y3m {f:FuncId} {fn:Func} {c:Code} {args:Array Value} {w:World} {R:Ending->World->Prop} (j:P.funcs[f]? = some fn) (hb:fn.body=some c)
  (h:c.wp P (j7e P fn R) { tmps:=args++Array.replicate (fn.ntmps - args.size) undef,defers:=[] } w):Calls P f args w R:=by
 intro cs
 let b:Frame:={ (default:Frame) with fn:=f,kind:=.normal }
 have henter:Frame.enter P f args .normal=b.at { tmps:=args++Array.replicate (fn.ntmps - args.size) undef,defers:=[] } [.code c]:=by
  simp [Frame.enter,Frame.at,j,hb,b]
 obtain ⟨e,a',w',hq,a⟩:=h b [] cs
 rw [<- henter] at a
 cases e with
 | ret=>
  obtain ⟨todo,O⟩:=a
  rcases hq with ⟨i,x,hr,g⟩ | ⟨d,bb,ts,ty,k,v,w'',i,n,m,x,hr,g⟩
  ·exact ⟨.returned x,w',_,g,O,rfl,rfl,i,rfl,fn,j,hr⟩
  ·have h1:=z5h (fr:={ b.at a' todo with mode:=.returning }) (cs:=cs) (by simp) i n m
   exact ⟨.returned x,w'',_,g,Steps.trans O (.one h1),rfl,rfl,rfl,rfl,fn,j,hr⟩
 | normal=>exact hq.elim
 | panic chain=>exact hq.elim
 | exit id=>exact hq.elim
 | goto l=>exact hq.elim
 | outgrown=>exact hq.elim
theorem enterB {n:Nat} {w:World} {f:FuncId} {fn:Func} {c:Code} {vs:List Value} {R:Ending->World->Prop} (g:P.funcs[f]? = some fn) (hb:fn.body=some c) (i:fn.ntmps=n) (hl:Nat.ble vs.length n=true)
  (k:∀Q:Exit->Act->World->Prop,(∀e a w,j7e P fn R e a w->Q e a w)->∀a,EnvR n (oU 0 vs) [] a->c.wp P Q a w):Calls P f vs.toArray w R:=by
 have hl':vs.length<=n:=by simpa using hl
 refine y3m g hb (k _ (fun _ _ _ h=>h) _ ⟨by simp [i];omega,fun t v j=>?_,rfl⟩)
 obtain ⟨_,b⟩:=oV vs 0 t v j
 simp only [Nat.sub_zero] at b
 have d:t < vs.length:=(List.getElem?_eq_some_iff.1 b).1
 simp only [List.getElem?_toArray,Array.getElem?_append,List.size_toArray,d,↓reduceIte]
 exact b
section
variable {n:Nat} {E:List (Nat×Value)} {D:List Deferred} {a:Act} {w:World} {ops:Array Oper} {rest:List Oper} {Q:Exit->Act->World->Prop} {ty:TypeId} {pos:String} {aft:Array Edge}
theorem z9k {b:Builtin} {xs:Array Operand} {ts:Array TypeId} {vs:List Value} (J:EnvR n E D a) (d:evs E xs.toList=some vs)
  (k:∀a fl,EnvR n E ({ target:=.builtin b ts ty fl,args:=vs.toArray }::D) a->wpList P ops Q rest a w) :
  wpList P ops Q (⟨none,.defer { callee:=.builtin b,args:=xs,argTypes:=ts },ty,pos,aft,none⟩::rest) a w:=by
 refine wpList_plain rfl fun L c=>?_
 unfold Oper.wp
 simp only [execOp,resolve,J.evsA d]
 exact c _ _ (k _ _ ⟨J.size,J.env,congrArg (List.cons _) J.defs⟩)
end
section
variable {n:Nat} {E:List (Nat×Value)} {a:Act} {w:World} {Φ:Fz} {K:List Res}
theorem ret1B {fn:Func} {R:Ending->World->Prop} {t:Nat} {v:Value} (J:EnvR n E [] a) (hr:fn.results=#[.tmp t]) (b:get E t=some v) (h:R (.returned v) w):j7e P fn R .ret a w :=
 .inl ⟨J.defs,v,by simp [results,hr,Array.getD_eq_getD_getElem?,J.env t v b],h⟩
theorem q4x (i:Nat) {fn:Func} {R:Ending->World->Prop} {t:Nat} {v:Value} {tm kt et t2 ty:TypeId} {fl:Array Bool} {b:Nat} {m:List (Bs×Value)} {s:Bs} (f:Under P tm (.map kt et)) (e:Under P kt .string)
  (J:EnvR n E [⟨.builtin .delete #[tm,t2] ty fl,#[.map (some b),.string s]⟩] a) (hr:fn.results=#[.tmp t]) (g:get E t=some v) (N:Mem Φ K w) (d:qU K i=some (.mp b m))
  (h:∀w',Mem Φ (pU K i (.mp b (z9c m s))) w'->R (.returned v) w'):j7e P fn R .ret a w:=by
 obtain ⟨w',h1,c⟩:=j3t (t2:=t2) (ty:=ty) i f e N d (s:=s)
 exact .inr ⟨_,_,_,_,_,_,w',J.defs,rfl,(by simp only [invoke,builtin,Sem.run_bind,h1];rfl),v,by simp [results,hr,Array.getD_eq_getD_getElem?,J.env t v g],h w' c⟩
end
def z3q (T:Table) (e:Ex) (s:Scope):Bs×Scope:=if qP e false true 2 0=true then letP T e.name e.args s else (sNo,s)
theorem y2w {T:Table} {nm:Bs} {l:List Ex} {x:Ex} {s:Scope} (h:l[0]? = some x) (a:(zI T x s).1=sNo):letP T nm l s=(sNo,(zI T x s).2):=by
 cases l with
 | nil=>simp at h
 | cons y l=>simp only [List.getElem?_cons_zero,Option.some.injEq] at h;subst h;simp only [letP];rw [if_pos a]
theorem z6o {T:Table} {nm:Bs} {l:List Ex} {x y:Ex} {s:Scope} (h:l[0]? = some x) (h1:l[1]? = some y) (a:¬(zI T x s).1=sNo) :
  letP T nm l s=((zI T y (jP (zI T x s).2 nm (zI T x s).1)).1,y1k (zI T y (jP (zI T x s).2 nm (zI T x s).1)).2 nm):=by
 cases l with
 | nil=>simp at h
 | cons z l=>
  simp only [List.getElem?_cons_zero,Option.some.injEq] at h;subst h
  simp only [letP];rw [if_neg a]
  simp only [List.getElem?_cons_succ] at h1
  rw [jV h1]
end Go.Sw

namespace Go.Sw
open Go.Proofs
def dX:Nat->Nat->List UInt8
 | 0,_=>[]
 | f+1,n=>if n < 10 then [(48+n).toUInt8] else (48+n % 10).toUInt8::dX f (n / 10)
def cX (n:Nat):List UInt8:=(dX (n+1) n).reverse
def z6i (i:Int):List UInt8:=if i < 0 then 45::cX (-i).toNat else cX i.toNat
def aU (n:Int):Bs:=⟨(Lib.itoa n).toArray⟩
def y7j (s old new:Bs):Bs:=⟨(Lib.replace s.data.toList old.data.toList new.data.toList 1).toArray⟩
def oW (s:Bs):Except Unit Int:=match Lib.atoiAll s.data.toList with
 | .ok v=>.ok v
 | _=>.error ()
def z5y (n:Int):Bs:=y7j (aU n) ⟨#[45]⟩ ⟨#[126]⟩
def uZ (s:Bs):Option Int:=match oW (y7j s ⟨#[126]⟩ ⟨#[45]⟩) with
 | .ok v=>if z5y v=s then some v else none
 | .error _=>none
def sV (s:Bs):Option Int:=match oW s with
 | .ok v=>if aU v=s then some v else none
 | .error _=>none
def kW (t:Bs) (pos:Nat):Nat:=if zG t pos=126 then 1 else 0
def kE (t:Bs) (pos:Nat):Nat:=yS yF t t.size (pos+kW t pos)
def aX (t:Bs) (pos:Nat):Bs:=t.extract pos (pos+(kW t pos+kE t pos))
def z2d (t:Bs) (pos:Nat):Except (Nat×Int) Tok :=
 match uZ (aX t pos) with
 | none=>.error (pos,13)
 | some v=>
  if yR (zG t (pos+(kW t pos+kE t pos)))=true∨zG t (pos+(kW t pos+kE t pos))=39 then .error (pos,13)
  else .ok ⟨1,v,aX t pos,pos⟩
def y7t (c:Nat):Bool:=[40,41,44,59,58,124,61,60,43,45,42,47,37,95].contains c
def yB (t:Bs) (pos:Nat):Except (Nat×Int) Tok :=
 if yF (zG t pos)=true∨zG t pos=126 then z2d t pos
 else if qQ (zG t pos)=true then kR t pos 2
 else if qW (zG t pos)=true then kR t pos 3
 else if zG t pos=39/\qQ (zG t (pos+1))=true then wF t pos 4 (1+yS yR t t.size (pos+1))
 else if kT (t.extract pos t.size) ⟨#[61,62]⟩=true∨kT (t.extract pos t.size) ⟨#[45,62]⟩=true then wF t pos 6 2
 else if y7t (zG t pos)=true then wF t pos 6 1
 else .error (pos,11)
def gA (t:Bs):Nat->Nat->Except (Nat×Int) (List Tok)
 | 0,_=>.ok []
 | f+1,i=>
  match cH t i with
  | .error c=>.error c
  | .ok q=>if q < t.size then
    match yB t q with
    | .error c=>.error c
    | .ok k=>match gA t f (q+k.text.size) with
     | .error c=>.error c
     | .ok l=>.ok (k::l)
   else .ok []
def aL (t:Bs):Except (Nat×Int) (List Tok):=gA t (t.size+1) 0
def vQ (s:Bs):Int :=
 if 24 < s.size then 0 else
 match aL s with
 | .ok [k]=>if k.text=s then k.kind else 0
 | _=>0
def yQ (s:Bs):Bool:=decide (vQ s=2)
def qB (s:Bs):Bool:=decide (vQ s=3)
end Go.Sw

namespace Go.Sw
inductive Ev (α:Type) where
 | ok (x:α) (g:Nat)
 | spent
 | stuck
abbrev Env:=List (Bs×Val)
def v0:Val:=.mk sNo 0 []
def q9r:Bs:=⟨#[84,114,117,101]⟩
def y7o:Bs:=⟨#[70,97,108,115,101]⟩
structure Ctx where
 funs:List (Bs×Fun)
 inp:List (Bs×Val)
def Ev.bind {α β:Type} (r:Ev α) (f:α->Nat->Ev β):Ev β:=match r with
 | .ok x g=>f x g
 | .spent=>.spent
 | .stuck=>.stuck
theorem Ev.bind_ok {α β:Type} {r:Ev α} {f:α->Nat->Ev β} {y:β} {g:Nat} (h:r.bind f=.ok y g):∃x g1,r=.ok x g1/\f x g1=.ok y g:=by
 cases r with
 | ok x g1=>exact ⟨x,g1,rfl,h⟩
 | spent=>cases h
 | stuck=>cases h
def y7s (c:Nat):Bool:=decide (c=32) || decide (c=10) || decide (c=40) || decide (c=41)
def qT (t:Bs) (i:Nat):Nat:=yS (fun c=> !y7s c) t t.size i
def wE (t:Bs):Nat->Nat->List Bs
 | 0,_=>[]
 | f+1,i=>if i < t.size then
   if zG t i=32∨zG t i=10 then wE t f (i+1)
   else if zG t i=40∨zG t i=41 then t.extract i (i+1)::wE t f (i+1)
   else t.extract i (i+qT t i)::wE t f (i+qT t i)
  else []
def sX (t:Bs):List Bs:=wE t t.size 0
def zF (ws:List Bs) (i:Nat):Bs:=ws.getD i sNo
abbrev Rd (α:Type):=Except Nat (α×Nat)
def yY {α β:Type} (r:Rd α) (f:α->Nat->Rd β):Rd β:=match r with
 | .ok (x,i)=>f x i
 | .error n=>.error n
def nK (ws:List Bs) (p:Bs->Bool) (i:Nat):Rd Bs:=if zF ws i=sNo∨p (zF ws i)=false then .error (i+1) else .ok (zF ws i,i+1)
def wZ (ws:List Bs) (w:Bs) (i:Nat):Rd Unit:=yY (nK ws (fun s=>decide (s=w)) i) fun _ i=>.ok ((),i)
def z0e (ws:List Bs) (i:Nat):Rd Bs:=nK ws qB i
def aY (ws:List Bs) (i:Nat):Rd Bs:=nK ws yQ i
def gJ:Bs:=⟨#[40]⟩
def sCls:Bs:=⟨#[41]⟩
def y7n:Bs:=⟨#[45,62]⟩
def sEq:Bs:=⟨#[61]⟩
def sBar:Bs:=⟨#[124]⟩
def j3u:Bs:=⟨#[58]⟩
def sLet:Bs:=⟨#[108,101,116]⟩
def sCase:Bs:=⟨#[99,97,115,101]⟩
def wP (ws:List Bs) (ex:Nat->Rd Ex):Nat->Nat->Nat->Rd (List Ex)
 | 0,_,i=>.error (i+1)
 | f+1,least,i=>if 0 < least∨zF ws i≠sCls then yY (ex i) fun e i=>yY (wP ws ex f (least - 1) i) fun l i=>.ok (e::l,i)
  else .ok ([],i)
def z7l (ex:Nat->Rd Ex) (i:Nat):Rd (List Ex):=yY (ex i) fun a i=>yY (ex i) fun b i=>.ok ([a,b],i)
def gB (ws:List Bs):Nat->Nat->Rd (List Bs)
 | 0,i=>.error (i+1)
 | f+1,i=>if zF ws i≠y7n then yY (aY ws i) fun s i=>yY (gB ws f i) fun l i=>.ok (s::l,i) else .ok ([],i)
def armP (ws:List Bs) (ex:Nat->Rd Ex) (i:Nat):Rd Arm :=
 yY (wZ ws gJ i) fun _ i=>yY (z0e ws i) fun c i=>yY (gB ws (ws.length+1) i) fun vs i=>
  yY (wZ ws y7n i) fun _ i=>yY (ex i) fun b i=>yY (wZ ws sCls i) fun _ i=>.ok (.mk c vs b,i)
def gU (ws:List Bs) (ex:Nat->Rd Ex):Nat->Bool->Nat->Rd (List Arm)
 | 0,_,i=>.error (i+1)
 | f+1,first,i=>if first=true∨zF ws i=gJ then yY (armP ws ex i) fun a i=>yY (gU ws ex f false i) fun l i=>.ok (a::l,i)
  else .ok ([],i)
def z0x (s:Bs):Bool:=decide (s=⟨#[43]⟩) || decide (s=⟨#[45]⟩) || decide (s=⟨#[42]⟩) || decide (s=⟨#[47]⟩) || decide (s=⟨#[37]⟩) || decide (s=⟨#[60]⟩) || decide (s=⟨#[61]⟩)
def qF (ws:List Bs) (ex:Nat->Rd Ex) (i:Nat):Rd Ex :=
 if z0x (zF ws i)=true then yY (z7l ex (i+1)) fun l j=>.ok (.mk 8 0 (zF ws i) l [],j)
 else if zF ws i=sLet then yY (aY ws (i+1)) fun x j=>yY (z7l ex j) fun l j=>.ok (.mk 6 0 x l [],j)
 else if zF ws i=sCase then yY (ex (i+1)) fun a j=>yY (gU ws ex (ws.length+1) true j) fun l j=>.ok (.mk 7 0 sNo [a] l,j)
 else if qB (zF ws i)=true then yY (wP ws ex (ws.length+1) 1 (i+1)) fun l j=>.ok (.mk 4 0 (zF ws i) l [],j)
 else yY (aY ws i) fun x j=>yY (wP ws ex (ws.length+1) 0 j) fun l j=>.ok (.mk 5 0 x l [],j)
def zY (ws:List Bs):Nat->Nat->Rd Ex
 | 0,i=>.error (i+1)
 | d+1,i=>if zF ws i=sNo then .error (i+1) else
  match sV (zF ws i) with
  | some n=>.ok (.mk 1 n sNo [] [],i+1)
  | none=>
   if zF ws i=gJ then yY (qF ws (zY ws d) (i+1)) fun e j=>yY (wZ ws sCls j) fun _ j=>.ok (e,j)
   else if qB (zF ws i)=true then .ok (.mk 4 0 (zF ws i) [] [],i+1)
   else if zG (zF ws i) 0=33/\yQ ((zF ws i).extract 1 (zF ws i).size)=true then .ok (.mk 3 0 ((zF ws i).extract 1 (zF ws i).size) [] [],i+1)
   else yY (aY ws i) fun x j=>.ok (.mk 2 0 x [] [],j)
def kN (ws:List Bs):Nat->Nat->Rd (List Bs)
 | 0,i=>.error (i+1)
 | f+1,i=>if qB (zF ws i)=true then yY (z0e ws i) fun s i=>yY (kN ws f i) fun l i=>.ok (s::l,i) else .ok ([],i)
def gV (ws:List Bs):Nat->Nat->Rd (List Con)
 | 0,i=>.error (i+1)
 | f+1,i=>yY (z0e ws i) fun n i=>yY (kN ws (ws.length+1) i) fun l i=>
   if zF ws i≠sBar then .ok ([⟨n,l⟩],i) else yY (gV ws f (i+1)) fun cs i=>.ok (⟨n,l⟩::cs,i)
def cW (ws:List Bs) (i:Nat):Rd Data:=yY (z0e ws i) fun n i=>yY (wZ ws sEq i) fun _ i=>yY (gV ws (ws.length+1) i) fun l i=>.ok (⟨n,l⟩,i)
def pG (ws:List Bs) (i:Nat):Rd Param:=yY (aY ws i) fun n i=>yY (wZ ws j3u i) fun _ i=>yY (z0e ws i) fun t i=>.ok (⟨n,t⟩,i)
def wK (ws:List Bs):Nat->Nat->Rd (List Param)
 | 0,i=>.error (i+1)
 | f+1,i=>if zF ws i=gJ then yY (pG ws (i+1)) fun p i=>yY (wZ ws sCls i) fun _ i=>yY (wK ws f i) fun l i=>.ok (p::l,i)
  else .ok ([],i)
def hH (ws:List Bs) (i:Nat):Rd Fun:=yY (aY ws i) fun n i=>yY (wK ws (ws.length+1) i) fun ps i=>yY (wZ ws j3u i) fun _ i=>
 yY (z0e ws i) fun r i=>yY (wZ ws sEq i) fun _ i=>yY (zY ws 250 i) fun b i=>.ok (⟨n,ps,r,b⟩,i)
def z3v:Bs:=⟨#[100,97,116,97]⟩
def z1v:Bs:=⟨#[105,110,112,117,116]⟩
def kFun:Bs:=⟨#[102,117,110]⟩
def y2v:Bs:=⟨#[111,117,116,112,117,116]⟩
def jO (ws:List Bs):Nat->Core->Nat->Except Nat Core
 | 0,_,i=>.error (i+1)
 | f+1,c,i=>if i < ws.length then
   if zF ws i=z3v then match cW ws (i+1) with
    | .ok (d,j)=>jO ws f { c with datas:=c.datas++[d] } j
    | .error n=>.error n
   else if zF ws i=z1v then match pG ws (i+1) with
    | .ok (d,j)=>jO ws f { c with inputs:=c.inputs++[d] } j
    | .error n=>.error n
   else if zF ws i=kFun then match hH ws (i+1) with
    | .ok (d,j)=>jO ws f { c with funs:=c.funs++[d] } j
    | .error n=>.error n
   else if zF ws i=y2v then match aY ws (i+1) with
    | .ok (d,j)=>jO ws f { c with outputs:=c.outputs++[d] } j
    | .error n=>.error n
   else .error (i+1)
  else .ok c
def z0y (t:Bs):Except Nat Core:=jO (sX t) ((sX t).length+1) ⟨[],[],[],[]⟩ 0
abbrev Tx:=List UInt8
def tx (s:Bs):Tx:=s.data.toList
def xY (dn:Bs):Bool->List (Bs×Maker)->List Con->Bool×List (Bs×Maker)
 | ok,m,[]=>(ok,m)
 | ok,m,x::xs=>if (ok&&qB x.name)=true then xY dn (zK m x.name).isNone (jL m x.name ⟨dn,x⟩) xs else xY dn false m xs
def aK (ok:Bool) (ds:List (Bs×Data)) (d:Data):Bool:=ok&&qB d.name && !decide (d.name=yU)&&(zK ds d.name).isNone&&decide (0 < d.cons.length)
def pW (ok:Bool) (ds:List (Bs×Data)) (d:Data):List (Bs×Data):=if (ok&&qB d.name && !decide (d.name=yU))=true then jL ds d.name d else ds
def uB:Bool->List (Bs×Data)->List (Bs×Maker)->List Data->Bool×List (Bs×Data)×List (Bs×Maker)
 | ok,ds,m,[]=>(ok,ds,m)
 | ok,ds,m,d::l=>uB (xY d.name (aK ok ds d) m d.cons).1 (pW ok ds d) (xY d.name (aK ok ds d) m d.cons).2 l
def uC:Bool->List (Bs×Fun)->List Fun->Bool×List (Bs×Fun)
 | ok,m,[]=>(ok,m)
 | ok,m,f::l=>if (ok&&yQ f.name)=true then uC (zK m f.name).isNone (jL m f.name f) l else uC false m l
def uD:Bool->List (Bs×Bs)->List Param->Bool×List (Bs×Bs)
 | ok,m,[]=>(ok,m)
 | ok,m,p::l=>if (ok&&yQ p.name)=true then uD (zK m p.name).isNone (jL m p.name p.type) l else uD false m l
def dsP (c:Core):Bool×List (Bs×Data)×List (Bs×Maker):=uB true [] [] (truthsD::c.datas)
def fsP (c:Core):Bool×List (Bs×Fun):=uC (dsP c).1 [] c.funs
def isP (c:Core):Bool×List (Bs×Bs):=uD (fsP c).1 [] c.inputs
def yK (c:Core):Table:=⟨c,(dsP c).2.1,(dsP c).2.2,(fsP c).2,(isP c).2⟩
def nS (c:Core):Bool:=(isP c).1
def sW (ps:List Param):Scope:=ps.foldl (fun s p=>jP s p.name p.type) []
def nI (T:Table) (f:Fun):Bool :=
 f.params.all (fun p=>wI T p.type)&&wI T f.result&&pT yQ [] (f.params.map Param.name++zN f.body)&&decide ((zI T f.body (sW f.params)).1=f.result)
def nE (T:Table):List Bs->List Bs->Bool
 | _,[]=>true
 | seen,o::os=>match zK T.funs o with
  | none=>false
  | some f=>decide (f.params.length=0) && !has seen o&&nE T (seen++[o]) os
def aT (T:Table) (d:Data):Bool:=d.cons.all fun x=>x.fields.all fun s=>wI T s
def jD (c:Core):Bool :=
 nS c&&decide (c.outputs≠[])&&c.datas.all (aT (yK c))&&c.inputs.all (fun p=>vI c.datas p.type)&&c.funs.all (nI (yK c))&&nE (yK c) [] c.outputs
def yG (c:Core):Int:=if c.funs.any (fun f=>xS 250 f.body) then 6 else if xN c then 2 else if jD c then 0 else 80
section
variable (T:Table) (e:Ex) (s:Scope)
theorem z0q (h:e.kind=1):zI T e s=(sI e,s):=by
 cases e with | mk k n nm args arms=>simp only [Ex.kind] at h;subst h;simp [zI]
theorem oP (h:e.kind=2):zI T e s=(mW e s,s):=by
 cases e with | mk k n nm args arms=>simp only [Ex.kind] at h;subst h;simp [zI]
theorem oN (h:e.kind=3):zI T e s=(uQ T e,s):=by
 cases e with | mk k n nm args arms=>simp only [Ex.kind] at h;subst h;simp [zI]
theorem dK (h:e.kind=5):zI T e s=aP T e s:=by
 cases e with
 | mk k n nm args arms=>
  simp only [Ex.kind] at h;subst h
  simp only [zI,aP,Ex.name,Ex.args,vT]
  simp only [show ¬(5:Int)=1 by decide,show ¬(5:Int)=2 by decide,show ¬(5:Int)=3 by decide,show ¬(5:Int)=4 by decide,if_false,if_true]
  cases zK T.funs nm with
  | none=>rfl
  | some m=>
   simp only
   by_cases hb:qP (.mk 5 n nm args arms) false true (-1) 0=true
   ·by_cases hl:args.length=m.params.length
    ·simp [hb,hl]
    ·simp [hb,hl]
   ·simp [hb]
theorem oO (h:e.kind=6):zI T e s=z3q T e s:=by
 cases e with
 | mk k n nm args arms=>simp only [Ex.kind] at h;subst h;simp [zI,z3q,Ex.name,Ex.args]
theorem sM (h:e.kind=7):zI T e s=xK T e s:=by
 cases e with
 | mk k n nm args arms=>simp only [Ex.kind] at h;subst h;simp [zI,xK,Ex.args,Ex.arms];rfl
theorem uE (h:e.kind=8):zI T e s=nX T e s:=by
 cases e with
 | mk k n nm args arms=>
  simp only [Ex.kind] at h;subst h
  simp only [zI,nX,Ex.name,Ex.args,vT]
  simp only [show ¬(8:Int)=1 by decide,show ¬(8:Int)=2 by decide,show ¬(8:Int)=3 by decide,show ¬(8:Int)=4 by decide,show ¬(8:Int)=5 by decide,show ¬(8:Int)=6 by decide,show ¬(8:Int)=7 by decide,if_false,if_true]
  by_cases hb:qP (.mk 8 n nm args arms) false true 2 0=true
  ·have hl:args.length=2:=pD (n:=2) hb
   simp [hb,hl]
  ·simp [hb]
theorem dL (h1:e.kind≠1) (a:e.kind≠2) (b:e.kind≠3) (c:e.kind≠4) (d:e.kind≠5) (f:e.kind≠6) (g:e.kind≠7) (h:e.kind≠8):zI T e s=(sNo,s):=by
 cases e with
 | mk k n nm args arms=>simp only [Ex.kind] at *;simp [zI, *]
end
theorem xD {α:Type} (s:List (Bs×α)) (k n:Bs) (x:α):zK (jP s k x) n=if n=k then some x else zK s n:=by
 induction s with
 | nil=>simp [jP,zK]
 | cons p s b=>
  obtain ⟨q,y⟩:=p
  simp only [jP]
  split
  ·subst_vars;simp only [zK];split <;> rfl
  ·simp only [zK,b]
   by_cases h1:n=q
   ·subst h1
    rename_i a
    rw [if_pos rfl,if_pos rfl,if_neg (fun e=>a e.symm)]
   ·rw [if_neg h1,if_neg h1]
theorem uV {α:Type}:∀{s:List (Bs×α)} {k:Bs} {x:α},zK s k=none->jP s k x=s++[(k,x)]
 | [],_,_,_=>rfl
 | (q,y)::s,k,x,h=>by
  simp only [zK] at h
  split at h
  ·cases h
  ·rename_i a
   simp only [jP,if_neg a,List.cons_append,uV h]
theorem y5q {α:Type}:∀{s:List (Bs×α)} {k:Bs} {x:α} {r:List (Bs×α)},zK s k=none->y1k (s++(k,x)::r) k=s++r
 | [],_,_,_,_=>by simp [y1k]
 | (q,y)::s,k,x,r,h=>by
  simp only [zK] at h
  split at h
  ·cases h
  ·rename_i a
   simp only [List.cons_append,y1k,if_neg a,y5q h]
theorem dB {α:Type}:∀{s:List (Bs×α)} {k:Bs} {r:List (Bs×α)},zK s k=none->zK (s++r) k=zK r k
 | [],_,_,_=>rfl
 | (q,y)::s,k,r,h=>by
  simp only [zK] at h
  split at h
  ·cases h
  ·rename_i a
   simp only [List.cons_append,zK,if_neg a,dB h]
def Fresh (s:Scope) (l:List Bs):Prop:=∀n∈l,zK s n=none
theorem Fresh.sub {s:Scope} {l m:List Bs} (h:Fresh s l) (O:∀n∈m,n∈l):Fresh s m:=fun n a=>h n (O n a)
theorem z7a:∀{vs fs:List Bs} {s:Scope},vs.length=fs.length->vs.Nodup->Fresh s vs->putAll s vs fs=s++vs.zip fs
 | [],[],s,_,_,_=>by simp [putAll]
 | v::vs,f::fs,s,hl,b,a=>by
  have h1:=a v msQ
  rw [dD,uV h1,z7a (by simpa using hl) (List.nodup_cons.1 b).2]
  ·simp
  ·intro n hn'
   rw [dB (a n (mcQ _ hn'))]
   have:n≠v:=fun e=>(List.nodup_cons.1 b).1 (e▸hn')
   simp [zK,this]
 | [],_::_,_,hl,_,_=>by simp at hl
 | _::_,[],_,hl,_,_=>by simp at hl
theorem y3w:∀{vs fs:List Bs} {s:Scope},vs.length=fs.length->vs.Nodup->Fresh s vs->gY (s++vs.zip fs) vs=s
 | [],[],s,_,_,_=>by simp [gY]
 | v::vs,f::fs,s,hl,b,a=>by
  simp only [List.zip_cons_cons,gY]
  rw [y5q (a v msQ)]
  exact y3w (by simpa using hl) (List.nodup_cons.1 b).2 (a.sub fun n h=>mcQ _ h)
 | [],_::_,_,hl,_,_=>by simp at hl
 | _::_,[],_,hl,_,_=>by simp at hl
theorem nY:∀{vs fs:List Bs} {s:Scope} {n:Bs},n∉vs->zK (putAll s vs fs) n=zK s n
 | [],_,_,_,_=>by rw [vJ]
 | v::vs,[],_,_,_=>rfl
 | v::vs,f::fs,s,n,h=>by
  rw [dD,nY (fun e=>h (mcQ _ e)),xD,if_neg (fun e=>h (by rw [e];exact msQ))]
def All2 {α β:Type} (R:α->β->Prop):List α->List β->Prop
 | [],[]=>True
 | x::xs,y::ys=>R x y/\All2 R xs ys
 | _,_=>False
theorem All2.length {α β:Type} {R:α->β->Prop}:∀{xs:List α} {ys:List β},All2 R xs ys->xs.length=ys.length
 | [],[],_=>rfl
 | _::_,_::_,h=>by simp [All2.length h.2]
 | [],_::_,h=>h.elim
 | _::_,[],h=>h.elim
theorem All2.get {α β:Type} {R:α->β->Prop}:∀{xs:List α} {ys:List β} {i:Nat} {x:α} {y:β},All2 R xs ys->xs[i]? = some x->ys[i]? = some y->R x y
 | [],_,_,_,_,_,h,_=>by simp at h
 | _::_,[],_,_,_,h,_,_=>h.elim
 | _::_,_::_,0,_,_,h,h1,a=>by
  simp only [List.getElem?_cons_zero,Option.some.injEq] at h1 a
  subst h1;subst a;exact h.1
 | _::_,_::_,i+1,_,_,h,h1,a=>by
  simp only [List.getElem?_cons_succ] at h1 a
  exact All2.get h.2 h1 a
theorem All2.mono {α β:Type} {R R':α->β->Prop}:∀{xs:List α} {ys:List β},All2 R xs ys->(∀x∈xs,∀y,R x y->R' x y)->All2 R' xs ys
 | [],[],_,_=>trivial
 | x::_,_::_,h,a=>⟨a x msQ _ h.1,h.2.mono fun x b y=>a x (mcQ _ b) y⟩
 | [],_::_,h,_=>h.elim
 | _::_,[],h,_=>h.elim
def Ty (T:Table) (e:Ex) (s:Scope) (t:Bs):Prop:=(zI T e s).1=t/\t≠sNo
def gT (T:Table) (e:Ex):Prop:=∀s,(zN e).Nodup->Fresh s (zN e)->(zI T e s).1≠sNo->(zI T e s).2=s
theorem qH {l m:List Bs} (h:(l++m).Nodup):l.Nodup/\m.Nodup/\∀n∈l,n∉m:=by
 rw [List.nodup_append] at h
 exact ⟨h.1,h.2.1,fun n hl N=>h.2.2 n hl n N rfl⟩
theorem q5s {T:Table}:∀{xs:List Ex} {s:Scope} {ts:List Bs},(∀x∈xs,gT T x)->xs.length=ts.length->(bindPs xs).Nodup->Fresh s (bindPs xs)->(allQ T xs s ts).1=true ->
  (allQ T xs s ts).2=s/\All2 (fun x t=>Ty T x s t) xs ts
 | [],s,[],_,_,_,_,_=>⟨rfl,trivial⟩
 | x::xs,s,t::ts,f,hl,i,d,h=>by
  rw [z7u] at h ⊢
  split at h
  ·cases h
  ·rename_i a
   rw [if_neg a]
   have hn':=qH (show (zN x++bindPs xs).Nodup from i)
   have h1:(zI T x s).1≠sNo:=fun e=>a (.inl e)
   have b:(zI T x s).1=t:=Classical.byContradiction fun e=>a (.inr e)
   have g:=f x msQ s hn'.1 (d.sub fun n h=>List.mem_append.2 (.inl h)) h1
   rw [g] at h ⊢
   have c:=q5s (fun y j=>f y (mcQ _ j)) (by simpa using hl) hn'.2.1 (d.sub fun n h=>List.mem_append.2 (.inr h)) h
   exact ⟨c.1,⟨b,b▸h1⟩,c.2⟩
 | [],_,_::_,_,hl,_,_,_=>by simp at hl
 | _::_,_,[],_,hl,_,_,_=>by simp at hl
theorem z5r {T:Table} {xs:List Ex} {s:Scope} {ts:List Bs} (b:∀x∈xs,gT T x) (c:(bindPs xs).Nodup) (a:Fresh s (bindPs xs)) (h:(vT T xs s ts).1=true) :
  (vT T xs s ts).2=s/\All2 (fun x t=>Ty T x s t) xs ts:=by
 unfold vT at h ⊢
 split at h
 ·rename_i hl;rw [if_pos hl];exact q5s b hl c a h
 ·cases h
def ArmOk (T:Table) (s:Scope) (t:Bs) (a:Arm) (c:Con):Prop:=a.con=c.name/\a.vars.length=c.fields.length/\Ty T a.body (putAll s a.vars c.fields) t
theorem y9i {T:Table} {a:Arm} {c:Con} {s:Scope} (e:gT T a.body) (hl:a.vars.length=c.fields.length) (f:(a.vars++zN a.body).Nodup) (b:Fresh s (a.vars++zN a.body))
  (h:(aO T a c s).1≠sNo):(aO T a c s).2=s:=by
 have hn':=qH f
 have d:Fresh s a.vars:=b.sub fun n h=>List.mem_append.2 (.inl h)
 have h1:=e (putAll s a.vars c.fields) hn'.2.1 (fun n hb=>by
  rw [nY (fun N=>hn'.2.2 n N hb)];exact b n (List.mem_append.2 (.inr hb))) h
 simp only [aO,h1]
 rw [z7a hl hn'.1 d]
 exact y3w hl hn'.1 d
theorem z5f {T:Table} {t:Bs} (g:t≠sNo):∀{az:List Arm} {cs:List Con} {first:Bool} {out:Bs} {s:Scope},(∀a∈az,gT T a.body)->cs.length=az.length->(bindPa az).Nodup->Fresh s (bindPa az) ->
  (splitP T az cs first out s).1=t->(splitP T az cs first out s).2=s/\All2 (fun a c=>ArmOk T s t a c) az cs/\(first=false∨az=[]->out=t)
 | [],[],first,out,s,_,_,_,_,h=>⟨rfl,trivial,fun _=>h⟩
 | a::az,c::cs,first,out,s,p,hl,q,m,h=>by
  rw [qE] at q m
  have hn':=qH q
  rw [jU] at h ⊢
  split at h
  ·exact absurd h.symm g
  ·rename_i j
   rw [if_neg j]
   split at h
   ·exact absurd h.symm g
   ·rename_i l
    rw [if_neg l]
    have k:a.con=c.name:=Classical.byContradiction fun e=>j (.inl e)
    have d:a.vars.length=c.fields.length:=Classical.byContradiction fun e=>j (.inr e)
    have h1:(aO T a c s).1≠sNo:=fun e=>l (.inl e)
    have r:=y9i (p a msQ) d hn'.1 (m.sub fun n h=>List.mem_append.2 (.inl h)) h1
    rw [r] at h ⊢
    have i:=z5f g (fun b hb=>p b (mcQ _ hb)) (by simpa using hl) hn'.2.1 (m.sub fun n h=>List.mem_append.2 (.inr h)) h
    have o:(aO T a c s).1=t:=i.2.2 (.inl rfl)
    refine ⟨i.1,⟨⟨k,d,o,g⟩,i.2.1⟩,fun f=>?_⟩
    rcases f with f | f
    ·rw [<- o]
     exact (Classical.byContradiction fun e=>l (.inr ⟨f,e⟩):(aO T a c s).1=out).symm
    ·cases f
 | [],_::_,_,_,_,_,hl,_,_,_=>by simp at hl
 | _::_,[],_,_,_,_,hl,_,_,_=>by simp at hl
theorem tK (T:Table) (p:zK T.datas sNo=none):∀(n:Nat) (e:Ex),e.sz < n->gT T e
 | 0,_,h=>by omega
 | n+1,e,S=>by
  intro s B q h
  have g:∀x∈e.args,gT T x:=fun x o=>tK T p n x (by have:=Ex.lt_args o;omega)
  have H:∀a∈e.arms,gT T a.body:=fun a c=>tK T p n a.body (by have:=Ex.lt_arms c;omega)
  rw [wM] at B q
  have A:=qH B
  have j:=qH A.1
  have f:Fresh s (bindPs e.args):=q.sub fun m N=>List.mem_append.2 (.inl (List.mem_append.2 (.inr N)))
  have G:Fresh s (bindPa e.arms):=q.sub fun m N=>List.mem_append.2 (.inr N)
  by_cases h1:e.kind=1
  ·rw [z0q T e s h1]
  by_cases K:e.kind=2
  ·rw [oP T e s K]
  by_cases L:e.kind=3
  ·rw [oN T e s L]
  by_cases M:e.kind=4
  ·rw [oM T e s M] at h ⊢
   unfold uM at h ⊢
   split at h
   ·rename_i N;simp only [N] at h ⊢
   ·rename_i m N
    try simp only [N]
    split at h
    ·rename_i hb
     rw [if_pos hb]
     by_cases c:(vT T e.args s m.con.fields).1=true
     ·exact (z5r g j.2.1 f c).1
     ·simp [c] at h
    ·exact absurd rfl h
  by_cases P:e.kind=5
  ·rw [dK T e s P] at h ⊢
   unfold aP at h ⊢
   split at h
   ·rename_i N;simp only [N] at h ⊢
   ·rename_i m N
    try simp only [N]
    split at h
    ·rename_i hb
     rw [if_pos hb]
     by_cases c:(vT T e.args s (m.params.map Param.type)).1=true
     ·exact (z5r g j.2.1 f c).1
     ·simp [c] at h
    ·exact absurd rfl h
  by_cases E:e.kind=6
  ·rw [oO T e s E] at h ⊢
   unfold z3q at h ⊢
   split at h
   ·rename_i hb
    rw [if_pos hb]
    have hl:=pD (n:=2) hb
    obtain ⟨x,o⟩:=zZ (l:=e.args) (i:=0) (by omega)
    obtain ⟨y,C⟩:=zZ (l:=e.args) (i:=1) (by omega)
    have k:e.args=[x,y]:=by
     cases c:e.args with
     | nil=>rw [c] at hl;simp at hl
     | cons a l=>
      cases l with
      | nil=>rw [c] at hl;simp at hl
      | cons b l=>
       rw [c] at hl o C
       simp only [lcQ] at hl
       have:l=[]:=List.eq_nil_of_length_eq_zero (by omega)
       subst this
       simp only [List.getElem?_cons_zero,List.getElem?_cons_succ,Option.some.injEq] at o C
       rw [o,C]
    by_cases r:(zI T x s).1=sNo
    ·rw [y2w o r] at h;exact absurd rfl h
    ·rw [z6o o C r] at h ⊢
     simp only [if_pos E,k,bindPs,List.append_nil] at B q
     have I:=qH B
     have w:=qH I.1
     have z:=qH w.2.1
     have D:=g x (by rw [k];exact msQ) s z.1 (q.sub fun m N=>by simp [N]) r
     rw [D] at h ⊢
     have t:zK s e.name=none:=q e.name (by simp)
     have u:Fresh (jP s e.name (zI T x s).1) (zN y):=fun m N=>by
      rw [xD,if_neg]
      ·exact q m (by simp [N])
      ·rintro rfl
       exact w.2.2 e.name (by simp) (by simp [N])
     have e2:=g y (by rw [k];simp) _ z.2.1 u h
     simp only [e2]
     rw [uV t,y5q t,List.append_nil]
   ·exact absurd rfl h
  by_cases Q:e.kind=7
  ·rw [sM T e s Q] at h ⊢
   unfold xK at h ⊢
   split at h
   ·rename_i hb
    rw [if_pos hb]
    have hl:=pD (n:=1) hb
    obtain ⟨x,o⟩:=zZ (l:=e.args) (i:=0) (by omega)
    have k:e.args=[x]:=by
     cases c:e.args with
     | nil=>rw [c] at hl;simp at hl
     | cons a l=>
      rw [c] at hl o
      simp only [lcQ] at hl
      have:l=[]:=List.eq_nil_of_length_eq_zero (by omega)
      subst this
      simp only [List.getElem?_cons_zero,Option.some.injEq] at o
      rw [o]
    rw [jV o] at h ⊢
    split at h
    ·exact absurd rfl h
    ·rename_i d F
     try simp only [F]
     split at h
     ·rename_i v
      rw [if_pos v]
      by_cases r:(zI T x s).1=sNo
      ·rw [r,p] at F;cases F
      ·rw [k] at j f
       simp only [bindPs,List.append_nil] at j f
       have D:=g x (by rw [k];exact msQ) s j.2.1 f r
       rw [D] at h ⊢
       exact (z5f h H v A.2.1 G rfl).1
     ·exact absurd rfl h
   ·exact absurd rfl h
  by_cases R:e.kind=8
  ·rw [uE T e s R] at h ⊢
   unfold nX at h ⊢
   split at h
   ·rename_i hb
    rw [if_pos hb]
    by_cases c:(vT T e.args s [yU,yU]).1=true
    ·exact (z5r g j.2.1 f c).1
    ·simp [c] at h
   ·exact absurd rfl h
  rw [dL T e s h1 K L M P E Q R]
end Go.Sw

namespace Go.Sw
theorem sInt_ne:yU≠sNo:=by decide
theorem z3l (ps:List Param):sW ps=putAll [] (ps.map Param.name) (ps.map Param.type):=by
 have:∀(ps:List Param) (s:Scope),ps.foldl (fun s p=>jP s p.name p.type) s=putAll s (ps.map Param.name) (ps.map Param.type):=by
  intro ps
  induction ps with
  | nil=>intro s;simp [vJ]
  | cons p ps a=>intro s;simp only [List.foldl_cons,List.map_cons,dD,a]
 exact this ps []
theorem pC {nm:Bs->Bool}:∀{l ds:List Bs},pT nm ds l=true->l.Nodup/\(∀n∈l,n∉ds)/\∀n∈l,nm n=true
 | [],_,_=>by simp
 | s::l,ds,h=>by
  simp only [pT,baQ,Bool.not_eq_true'] at h
  obtain ⟨⟨h1,b⟩,d⟩:=h
  obtain ⟨e,c,f⟩:=pC d
  have O:s∉ds:=fun N=>by
   have:has ds s=true:=by simp only [has,List.any_eq_true,decide_eq_true_eq];exact ⟨s,N,rfl⟩
   rw [this] at b;cases b
  refine ⟨List.nodup_cons.2 ⟨fun N=>c s N (by simp),e⟩,fun n a=>?_,fun n a=>?_⟩
  ·rcases List.mem_cons.1 a with rfl | a
   ·exact O
   ·exact fun N=>c n a (List.mem_append.2 (.inl N))
  ·rcases List.mem_cons.1 a with rfl | a
   ·exact h1
   ·exact f n a
section
variable {α:Type}
def kM {β:Type} (key:β->Bs) (val:β->α) (l:List β):List (Bs×α):=l.map fun x=>(key x,val x)
theorem q6q {β:Type} {key:β->Bs} {val:β->α}:∀{l:List β} {x:β},(l.map key).Nodup->x∈l->zK (kM key val l) (key x)=some (val x)
 | y::l,x,a,h=>by
  simp only [List.map_cons,List.nodup_cons] at a
  simp only [kM,List.map_cons,zK]
  rcases List.mem_cons.1 h with rfl | h
  ·rw [if_pos rfl]
  ·rw [if_neg (fun e=>a.1 (by rw [<- e];exact List.mem_map_of_mem h))]
   exact q6q a.2 h
theorem vL {β:Type} {key:β->Bs} {val:β->α}:∀{l:List β} {n:Bs} {v:α},zK (kM key val l) n=some v->∃x∈l,key x=n/\val x=v
 | [],_,_,h=>by simp [kM,zK] at h
 | y::l,n,v,h=>by
  simp only [kM,List.map_cons,zK] at h
  split at h
  ·simp only [Option.some.injEq] at h;rename_i e;exact ⟨y,msQ,e.symm,h⟩
  ·obtain ⟨x,h1,a⟩:=vL h;exact ⟨x,mcQ _ h1,a⟩
theorem xI {s r:List (Bs×α)} {n:Bs} (h:zK (s++r) n=none):zK s n=none/\zK r n=none:=by
 induction s with
 | nil=>exact ⟨rfl,h⟩
 | cons p s b=>
  obtain ⟨k,x⟩:=p
  simp only [List.cons_append,zK] at h ⊢
  split at h
  ·cases h
  ·rename_i a;rw [if_neg a];exact b h
theorem lget_single {k n:Bs} {x:α}:zK [(k,x)] n=none↔n≠k:=by
 simp [zK]
end
theorem aH {α:Type} {m:List (Bs×α)} {s:Bs} {x:α} (h:zK m s=none):jL m s x=m++[(s,x)]:=by
 unfold jL;rw [h];exact uV h
theorem z2m (dn:Bs):∀{l:List Con} {ok:Bool} {m:List (Bs×Maker)},(xY dn ok m l).1=true ->
  ok=true/\(xY dn ok m l).2=m++kM Con.name (fun x=>⟨dn,x⟩) l/\(∀x∈l,qB x.name=true/\zK m x.name=none)/\(l.map Con.name).Nodup
 | [],ok,m,h=>⟨h,by simp [xY,kM],by simp,by simp⟩
 | x::l,ok,m,h=>by
  simp only [xY] at h ⊢
  split at h
  ·rename_i c
   rw [if_pos c]
   simp only [baQ] at c
   obtain ⟨h1,d,b,g⟩:=z2m dn h
   have f:zK m x.name=none:=by simpa using h1
   rw [aH f] at d b ⊢
   refine ⟨c.1,by rw [d];simp [kM],fun y a=>?_,?_⟩
   ·rcases List.mem_cons.1 a with rfl | a
    ·exact ⟨c.2,f⟩
    ·exact ⟨(b y a).1,(xI (b y a).2).1⟩
   ·simp only [List.map_cons,List.nodup_cons]
    refine ⟨fun N=>?_,g⟩
    obtain ⟨y,a,e⟩:=List.mem_map.1 N
    have:=(xI (b y a).2).2
    rw [lget_single] at this
    exact this e
  ·have:=(z2m dn h).1;cases this
def z3u (l:List Data):List (Bs×Maker):=(l.map fun d=>kM Con.name (fun x=>(⟨d.name,x⟩:Maker)) d.cons).flatten
theorem z7i:∀{l:List Data} {ok:Bool} {ds:List (Bs×Data)} {m:List (Bs×Maker)},(uB ok ds m l).1=true ->
  ok=true/\(uB ok ds m l).2.1=ds++kM Data.name id l/\(uB ok ds m l).2.2=m++z3u l /\
  (∀d∈l,qB d.name=true/\d.name≠yU/\zK ds d.name=none/\(d.cons.map Con.name).Nodup/\∀x∈d.cons,qB x.name=true/\zK m x.name=none)/\(l.map Data.name).Nodup /\
  ((l.map fun d=>d.cons.map Con.name).flatten).Nodup
 | [],ok,ds,m,h=>⟨h,by simp [uB,kM],by simp [uB,z3u],by simp,by simp,by simp⟩
 | d::l,ok,ds,m,h=>by
  simp only [uB] at h ⊢
  obtain ⟨h1,i,j,b,u,v⟩:=z7i h
  obtain ⟨g1,t,g3,g4⟩:=z2m d.name h1
  simp only [aK,baQ,decide_eq_true_eq,Bool.not_eq_true',decide_eq_false_iff_not,Option.isNone_iff_eq_none] at g1
  obtain ⟨⟨⟨⟨o,p⟩,q⟩,r⟩,G⟩:=g1
  have A:pW ok ds d=ds++[(d.name,d)]:=by
   unfold pW
   rw [if_pos (by simp [o,p,q])]
   exact aH r
  rw [A,t] at i j b ⊢
  refine ⟨o,by rw [i];simp [kM],by rw [j];simp [z3u],fun e J=>?_,?_,?_⟩
  ·rcases List.mem_cons.1 J with rfl | J
   ·exact ⟨p,q,r,g4,fun x a=>g3 x a⟩
   ·obtain ⟨C,D,E,F,k⟩:=b e J
    exact ⟨C,D,(xI E).1,F,fun x a=>⟨(k x a).1,(xI (k x a).2).1⟩⟩
  ·simp only [List.map_cons,List.nodup_cons]
   refine ⟨fun N=>?_,u⟩
   obtain ⟨e,J,s⟩:=List.mem_map.1 N
   have:=(xI (b e J).2.2.1).2
   rw [lget_single] at this
   exact this s
  ·simp only [List.map_cons,List.flatten_cons]
   rw [List.nodup_append]
   refine ⟨g4,v,fun n z m' hm' e=>?_⟩
   subst e
   obtain ⟨x,a,rfl⟩:=List.mem_map.1 z
   obtain ⟨ns,c,f⟩:=List.mem_flatten.1 hm'
   obtain ⟨e,J,rfl⟩:=List.mem_map.1 c
   obtain ⟨y,B,g⟩:=List.mem_map.1 f
   have:=(xI ((b e J).2.2.2.2 y B).2).2
   rw [g] at this
   have w:zK (kM Con.name (fun x=>(⟨d.name,x⟩:Maker)) d.cons) x.name=some ⟨d.name,x⟩:=q6q (val:=fun x=>(⟨d.name,x⟩:Maker)) g4 a
   rw [w] at this;cases this
theorem z2n:∀{l:List Fun} {ok:Bool} {m:List (Bs×Fun)},(uC ok m l).1=true ->
  ok=true/\(uC ok m l).2=m++kM Fun.name id l/\(∀f∈l,yQ f.name=true/\zK m f.name=none)/\(l.map Fun.name).Nodup
 | [],ok,m,h=>⟨h,by simp [uC,kM],by simp,by simp⟩
 | x::l,ok,m,h=>by
  simp only [uC] at h ⊢
  split at h
  ·rename_i c
   rw [if_pos c]
   simp only [baQ] at c
   obtain ⟨h1,d,b,i⟩:=z2n h
   have g:zK m x.name=none:=by simpa using h1
   rw [aH g] at d b ⊢
   refine ⟨c.1,by rw [d];simp [kM],fun y a=>?_,?_⟩
   ·rcases List.mem_cons.1 a with rfl | a
    ·exact ⟨c.2,g⟩
    ·exact ⟨(b y a).1,(xI (b y a).2).1⟩
   ·simp only [List.map_cons,List.nodup_cons]
    refine ⟨fun N=>?_,i⟩
    obtain ⟨y,a,e⟩:=List.mem_map.1 N
    have:=(xI (b y a).2).2
    rw [lget_single] at this
    exact this e
  ·have:=(z2n h).1;cases this
theorem z2o:∀{l:List Param} {ok:Bool} {m:List (Bs×Bs)},(uD ok m l).1=true ->
  ok=true/\(uD ok m l).2=m++kM Param.name Param.type l/\(∀p∈l,yQ p.name=true/\zK m p.name=none)/\(l.map Param.name).Nodup
 | [],ok,m,h=>⟨h,by simp [uD,kM],by simp,by simp⟩
 | x::l,ok,m,h=>by
  simp only [uD] at h ⊢
  split at h
  ·rename_i c
   rw [if_pos c]
   simp only [baQ] at c
   obtain ⟨h1,d,b,g⟩:=z2o h
   have f:zK m x.name=none:=by simpa using h1
   rw [aH f] at d b ⊢
   refine ⟨c.1,by rw [d];simp [kM],fun y a=>?_,?_⟩
   ·rcases List.mem_cons.1 a with rfl | a
    ·exact ⟨c.2,f⟩
    ·exact ⟨(b y a).1,(xI (b y a).2).1⟩
   ·simp only [List.map_cons,List.nodup_cons]
    refine ⟨fun N=>?_,g⟩
    obtain ⟨y,a,e⟩:=List.mem_map.1 N
    have:=(xI (b y a).2).2
    rw [lget_single] at this
    exact this e
  ·have:=(z2o h).1;cases this
structure Right (c:Core):Prop where
 datas:(yK c).datas=kM Data.name id (truthsD::c.datas)
 cons:(yK c).cons=z3u (truthsD::c.datas)
 funs:(yK c).funs=kM Fun.name id c.funs
 inputs:(yK c).inputs=kM Param.name Param.type c.inputs
 dN:∀d∈truthsD::c.datas,qB d.name=true/\d.name≠yU/\(d.cons.map Con.name).Nodup/\∀x∈d.cons,qB x.name=true
 dU:((truthsD::c.datas).map Data.name).Nodup
 cU:(((truthsD::c.datas).map fun d=>d.cons.map Con.name).flatten).Nodup
 fN:∀f∈c.funs,yQ f.name=true
 fU:(c.funs.map Fun.name).Nodup
 iN:∀p∈c.inputs,yQ p.name=true
 iU:(c.inputs.map Param.name).Nodup
 outs:c.outputs≠[]
 fields:∀d∈c.datas,aT (yK c) d=true
 inT:∀p∈c.inputs,vI c.datas p.type=true
 fOk:∀f∈c.funs,nI (yK c) f=true
 oOk:nE (yK c) [] c.outputs=true
theorem x8d {c:Core} (h:jD c=true):Right c:=by
 simp only [jD,baQ,decide_eq_true_eq,List.all_eq_true] at h
 obtain ⟨⟨⟨⟨⟨h1,l⟩,m⟩,n⟩,o⟩,q⟩:=h
 obtain ⟨u,i2,i3,i4⟩:=z2o (show (uD (fsP c).1 [] c.inputs).1=true from h1)
 obtain ⟨g,i,j,k⟩:=z2n (show (uC (dsP c).1 [] c.funs).1=true from u)
 obtain ⟨_,d2,d3,d4,b,e⟩:=z7i (show (uB true [] [] (truthsD::c.datas)).1=true from g)
 exact { datas:=d2,cons:=d3,funs:=i,inputs:=i2,dN:=fun d a=>⟨(d4 d a).1,(d4 d a).2.1,(d4 d a).2.2.2.1,fun x t=>((d4 d a).2.2.2.2 x t).1⟩,dU:=b,cU:=e,fN:=fun f r=>(j f r).1,fU:=k,iN:=fun p s=>(i3 p s).1,iU:=i4,outs:=l,fields:=m,inT:=n,fOk:=o,oOk:=q }
theorem z6h:qB sNo=false:=by decide
theorem y9r {l:List Data} {n:Bs} {m:Maker} (h:zK (z3u l) n=some m):∃d∈l,m.data=d.name/\m.con∈d.cons/\m.con.name=n:=by
 induction l with
 | nil=>simp [z3u,zK] at h
 | cons e l c=>
  simp only [z3u,List.map_cons,List.flatten_cons] at h
  cases a:zK (kM Con.name (fun x=>(⟨e.name,x⟩:Maker)) e.cons) n with
  | none=>
   rw [dB a] at h
   obtain ⟨d,g,r⟩:=c h
   exact ⟨d,mcQ _ g,r⟩
  | some v=>
   have i:zK (kM Con.name (fun x=>(⟨e.name,x⟩:Maker)) e.cons++(l.map fun d=>kM Con.name (fun x=>(⟨d.name,x⟩:Maker)) d.cons).flatten) n=some v:=by
    clear h c
    generalize kM Con.name (fun x=>(⟨e.name,x⟩:Maker)) e.cons=s at a ⊢
    induction s with
    | nil=>cases a
    | cons p s b=>
     obtain ⟨k,y⟩:=p
     simp only [List.cons_append,zK] at a ⊢
     split at a
     ·rename_i h;rw [if_pos h];exact a
     ·rename_i h;rw [if_neg h];exact b a
   rw [i] at h
   simp only [Option.some.injEq] at h;subst h
   obtain ⟨y,j,h1,f⟩:=vL a
   subst f
   exact ⟨e,msQ,rfl,j,h1⟩
theorem type_ne {c:Core} (a:Right c) {t:Bs} (h:wI (yK c) t=true):t≠sNo:=by
 rintro rfl
 simp only [wI,Bool.or_eq_true,decide_eq_true_eq] at h
 rcases h with h | h
 ·rw [a.datas] at h
  cases b:zK (kM Data.name id (truthsD::c.datas)) sNo with
  | none=>rw [b] at h;cases h
  | some d=>
   obtain ⟨x,e,h1,_⟩:=vL b
   have:=(a.dN x e).1
   rw [h1,z6h] at this;cases this
 ·exact sInt_ne h.symm
theorem oC {c:Core} (h:yG c=0):Right c:=by
 unfold yG at h
 split at h
 ·cases h
 split at h
 ·cases h
 split at h
 ·rename_i hr;exact x8d hr
 ·cases h
end Go.Sw

namespace Go.Sw
end Go.Sw
