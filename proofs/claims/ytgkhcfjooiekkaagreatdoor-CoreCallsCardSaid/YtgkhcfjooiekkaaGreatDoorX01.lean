import GoSem.Instr.MapUpdate
import Derived.Lib.LaidTab
import Derived.Lib.ItoaNum
import Derived.Test.YtgkhcfjooiekkaaGreatDoorProg
import GoSem.Builtin.Delete
import Derived.Defers
import Derived.Lib.AtoiAll
import Derived.Lib.Replace
import Derived.Test.YtgkhcfjooiekkaaGreatDoorX00
set_option linter.unusedVariables false
set_option linter.unusedSimpArgs false
namespace Go.Sw
variable {P:Program} {n:Nat} {E:List (Nat×Value)} {D:List Deferred} {a:Act} {V Ψ:Fz} {K:List Res} {w:World}
variable {dst:Option Tmp} {ty:TypeId} {pos:String} {aft:Array Edge} {g:Option (Nat×Bool)}
variable {Kn:Value->World->Prop} {Qp:List PanicEntry->World->Prop}
def yY:List (Bs×Value)->Bs->Option Value
 | [],_=>none
 | (k,v)::m,s=>if s=k then some v else yY m s
def cI:List (Bs×Value)->Bs->Value->List (Bs×Value)
 | [],s,x=>[(s,x)]
 | (k,v)::m,s,x=>if s=k then (k,x)::m else (k,v)::cI m s x
def z9m:List (Bs×Value)->Bs->List (Bs×Value)
 | [],_=>[]
 | (k,v)::m,s=>if s=k then m else (k,v)::z9m m s
def MapAt (V:Fz) (b:Nat) (m:List (Bs×Value)):Prop:=∃es clock,V.obj b=some (.map es clock)/\MapOk es clock m
theorem MapAt.mono {b:Nat} {m:List (Bs×Value)} (h:MapAt V b m) (hl:V.Le Ψ):MapAt Ψ b m:=let ⟨es,c,h1,a⟩:=h;⟨es,c,hl.obj _ _ h1,a⟩
def sU:List (Bs×Value)->Bs->Nat->Option (Nat×Value)
 | [],_,_=>none
 | (k,v)::m,s,i=>if s=k then some (i,v) else sU m s (i+1)
theorem tM (s t:ByteArray):(s==t)=decide (s=t):=by
 show (s.data==t.data)=_
 rw [Bool.eq_iff_iff];simp
 constructor
 ·intro h;cases s;cases t;simp_all
 ·rintro rfl;rfl
theorem z6o:∀(es:List MapEntry) (m:List (Bs×Value)) (s:Bs) (i:Nat),es.map (fun e=>(e.key,e.val))=m.map (fun p=>(Value.string p.1,p.2)) ->
  Instr.findNow .string (.string s) es i=some (sU m s i)
 | [],[],_,_,_=>rfl
 | [],_::_,_,_,h=>by simp at h
 | _::_,[],_,_,h=>by simp at h
 | e::es,(k,v)::m,s,i,h=>by
  simp only [List.map_cons,List.cons.injEq,Prod.mk.injEq] at h
  obtain ⟨⟨h1,a⟩,b⟩:=h
  simp only [Instr.findNow,h1,Instr.sameNow,tM,sU]
  by_cases O:s=k
  ·simp [O,a]
  ·simp only [O,decide_false,if_false]
   exact z6o es m s (i+1) b
theorem q2c:∀(m:List (Bs×Value)) (s:Bs) (i:Nat),(sU m s i).map (·.2)=yY m s
 | [],_,_=>rfl
 | (k,v)::m,s,i=>by
  simp only [sU,yY]
  split
  ·rfl
  ·exact q2c m s (i+1)
theorem pP {kt:TypeId} (a:Under P kt .string) (e:Bool) (v:Value) (j:Nat):(Instr.checkKey e (j+1) kt v).run P w=.ok () w:=by
 simp [Instr.checkKey,Sem.run_bind,a w]
theorem aY {kt:TypeId} (a:Under P kt .string) {es:Array MapEntry} {m:List (Bs×Value)} (h:es.toList.map (fun e=>(e.key,e.val))=m.map (fun p=>(Value.string p.1,p.2))) (s:Bs) :
  (Instr.findKey kt (.string s) es.toList).run P w=.ok (sU m s 0) w:=by
 simp [Instr.findKey,Sem.run_bind,a w,z6o _ _ _ _ h]
def zN (ok:Bool) (z:Value):Option Value->Value
 | some v=>if ok then .tuple #[v,.bool true] else v
 | none=>if ok then .tuple #[z,.bool false] else z
theorem y6j {t kt et:TypeId} {b:Nat} {es:Array MapEntry} {clock:Nat} {m:List (Bs×Value)} {z:Value} (c:Under P t (.map kt et)) (a:Under P kt .string) (d:ZeroT P et z)
  (hb:w.heap[b]? = some (.map es clock)) (h:MapOk es clock m) (s:Bs) (ok:Bool) :
  (Instr.lookup t (.map (some b)) (.string s) ok).run P w=.ok (zN ok z (yY m s)) w:=by
 have h1:(getObj b).run P w=.ok (.map es clock) w:=by simp [getObj,Sem.run,hb]
 simp only [Instr.lookup,Sem.run_bind,c w,Result.andThen_ok,h1,Sem.run_pure,pP a,aY a h.eq]
 have:=q2c m s 0
 cases N:sU m s 0 with
 | none=>rw [N] at this;simp only [Option.map_none] at this;rw [<- this];simp [d w,zN]
 | some p=>rw [N] at this;simp only [Option.map_some] at this;rw [<- this];simp [zN]
theorem yB {t kt et:TypeId} {x y:Operand} {b:Nat} {m:List (Bs×Value)} {z:Value} {s:Bs} {ok:Bool} (f:Under P t (.map kt et)) (e:Under P kt .string) (i:ZeroT P et z)
  (J:EnvR n E D a) (N:Sees V K w) (g:ev E x=some (.map (some b))) (h:ev E y=some (.string s)) (c:MapAt V b m):Ok P a (.lookup t x y ok) ty w (zN ok z (yY m s)):=fun _ _ _ _=>by
 obtain ⟨es,clock,h1,d⟩:=c
 simp only [execOp,J.ev g,J.ev h]
 simp [Sem.run_bind,y6j f e i (N.fz _ _ h1) d]
theorem qP (i:Nat) {t kt et:TypeId} {x y:Operand} {b:Nat} {m:List (Bs×Value)} {z:Value} {s:Bs} {ok:Bool} (f:Under P t (.map kt et)) (e:Under P kt .string) (j:ZeroT P et z)
  (J:EnvR n E D a) (N:Sees V K w) (g:ev E x=some (.map (some b))) (h:ev E y=some (.string s)) (d:qS K i=some (.mp b m)):Ok P a (.lookup t x y ok) ty w (zN ok z (yY m s)):=fun _ _ _ _=>by
 obtain ⟨es,clock,h1,c⟩:=N.own _ (yU d)
 simp only [execOp,J.ev g,J.ev h]
 simp [Sem.run_bind,y6j f e j h1 c]
theorem q7b {t kt et:TypeId} {x y:Operand} {z:Value} {s:Bs} {ok:Bool} (d:Under P t (.map kt et)) (b:Under P kt .string) (c:ZeroT P et z)
  (J:EnvR n E D a) (e:ev E x=some (.map none)) (f:ev E y=some (.string s)):Ok P a (.lookup t x y ok) ty w (zN ok z none):=fun _ _ _ _=>by
 simp only [execOp,J.ev e,J.ev f]
 simp only [Instr.lookup,Sem.run_bind,d w,Result.andThen_ok,Sem.run_pure,pP b,Instr.findKey,b w,Instr.findNow,c w,bind_pure_comp,Sem.run_map]
 cases ok <;> simp [zN,Sem.run_bind,Instr.findNow,c w]
theorem q8y {t:TypeId} (N:Mem V K w) (k:∀b w',Mem V (.mp b []::K) w'->Kn (.map (some b)) w'):Oper.eff P ⟨dst,.makeMap t none,ty,pos,aft,g⟩ a w Kn Qp:=by
 unfold Oper.eff
 have:(execOp a.eval ⟨dst,.makeMap t none,ty,pos,aft,g⟩).run P w=.ok (.value (.map (some w.heap.size))) { w with heap:=w.heap.push (.map #[] 0) }:=by
  simp [execOp,Instr.makeMap]
 rw [this]
 refine k _ _ (N.more rfl rfl (fun b hb=>gG hb) ⟨#[],0,by simp,by simp,by simp,by simp⟩ (by simp [Res.foot]))
theorem j8o:∀(m:List (Bs×Value)) (s:Bs) (v:Value) (j:Nat),cI m s v=match sU m s j with | none=>m++[(s,v)] | some (i,_)=>m.set (i - j) (s,v)
 | [],_,_,_=>rfl
 | (k,x)::m,s,v,j=>by
  simp only [cI,sU]
  split
  ·subst_vars;simp
  ·have:=j8o m s v (j+1)
   rw [this]
   have a:∀(m:List (Bs×Value)) (j i:Nat) (y:Value),sU m s j=some (i,y)->j<=i:=by
    intro m
    induction m with
    | nil=>intro j i y h;simp [sU] at h
    | cons p m b=>
     intro j i y h
     obtain ⟨k,x⟩:=p
     simp only [sU] at h
     split at h
     ·simp only [Option.some.injEq,Prod.mk.injEq] at h;omega
     ·have:=b (j+1) i y h;omega
   cases N:sU m s (j+1) with
   | none=>simp
   | some p=>
    obtain ⟨i,y⟩:=p
    have h1:=a m (j+1) i y N
    have e:i - j=(i - (j+1))+1:=by omega
    simp only [e,List.set_cons_succ]
theorem y5k:∀(m:List (Bs×Value)) (s:Bs) (j i:Nat) (y:Value),sU m s j=some (i,y)->m[i - j]? = some (s,y)/\j<=i
 | [],_,_,_,_,h=>by simp [sU] at h
 | (k,x)::m,s,j,i,y,h=>by
  simp only [sU] at h
  split at h
  ·simp only [Option.some.injEq,Prod.mk.injEq] at h
   obtain ⟨rfl,rfl⟩:=h;subst_vars;simp
  ·obtain ⟨h1,a⟩:=y5k m s (j+1) i y h
   have e:i - j=(i - (j+1))+1:=by omega
   exact ⟨by rw [e];simpa using h1,by omega⟩
theorem y9c (i:Nat) {t kt et:TypeId} {x y z:Operand} {b:Nat} {m:List (Bs×Value)} {s:Bs} {v:Value} (X:Under P t (.map kt et)) (T:Under P kt .string)
  (J:EnvR n E D a) (N:Mem V K w) (F:ev E x=some (.map (some b))) (Y:ev E y=some (.string s)) (Z:ev E z=some v) (R:qS K i=some (.mp b m))
  (k:∀w',Mem V (pB K i (.mp b (cI m s v))) w'->Kn undef w'):Oper.eff P ⟨dst,.mapUpdate t x y z,ty,pos,aft,g⟩ a w Kn Qp:=by
 obtain ⟨es,clock,hb,f⟩:=N.own _ (yU R)
 have h1:(getObj b).run P w=.ok (.map es clock) w:=by simp [getObj,Sem.run,hb]
 have L:b < w.heap.size:=(Array.getElem?_eq_some_iff.1 hb).1
 have u:∀o,(setObj b o).run P w=.ok () { w with heap:=w.heap.setIfInBounds b o }:=fun o=>by simp only [setObj,Sem.run,hb]
 have fin:∀es' clock',MapOk es' clock' (cI m s v)->Mem V (pB K i (.mp b (cI m s v))) { w with heap:=w.heap.setIfInBounds b (.map es' clock') }:=fun es' clock' h=>
  N.upd R rfl rfl (fun c S M=>by simp only;rw [Array.getElem?_setIfInBounds_ne (fun e=>M (by simp [Res.foot,e]))]) ⟨es',clock',by simp [L],h⟩ (.inl rfl)
 unfold Oper.eff
 simp only [execOp,J.ev F,J.ev Y,J.ev Z,Instr.mapUpdate,Sem.run_bind,X w,Result.andThen_ok,h1,pP T,aY T f.eq]
 have d:=j8o m s v 0
 cases C:sU m s 0 with
 | none=>
  rw [C] at d
  simp only at d
  simp only [u,Result.andThen_ok,Sem.run_pure,mK]
  refine k _ (fin _ _ ⟨?_,?_,?_⟩)
  ·rw [d];simp [f.eq]
  ·intro e J
   simp only [Array.toList_push,List.mem_append,List.mem_singleton] at J
   rcases J with J | rfl
   ·have:=f.old e J;omega
   ·simp
  ·simp only [Array.toList_push,List.map_append,List.map_cons,List.map_nil]
   rw [List.nodup_append]
   refine ⟨f.nodup,by simp,fun b hb c S U=>?_⟩
   simp only [List.mem_singleton] at S
   obtain ⟨e,J,rfl⟩:=List.mem_map.1 hb
   have:=f.old e J
   omega
 | some p=>
  obtain ⟨j,y⟩:=p
  rw [C] at d
  simp only [Nat.sub_zero] at d
  obtain ⟨H,_⟩:=y5k m s 0 j y C
  simp only [Nat.sub_zero] at H
  have l:es.toList[j]?.map (fun e=>(e.key,e.val))=some (Value.string s,y):=by
   rw [<- List.getElem?_map,f.eq,List.getElem?_map,H];rfl
  obtain ⟨e,A,G⟩:∃e,es[j]? = some e/\e.key=.string s:=by
   cases h:es[j]? with
   | none=>
    have h':es.toList[j]? = none:=by simpa using h
    rw [h'] at l;cases l
   | some e=>
    have h':es.toList[j]? = some e:=by simpa using h
    rw [h'] at l;simp only [Option.map_some,Option.some.injEq,Prod.mk.injEq] at l;exact ⟨e,rfl,l.1⟩
  have I:(Instr.keyThatStays (((es[j]?).map (·.key)).getD (.string s)) (.string s)).run P w=.ok (.string s) w:=by
   simp [A,G,Instr.keyThatStays,Instr.sameBits,tM]
  simp only [Sem.run_bind,I,u,Result.andThen_ok,Sem.run_pure,mK]
  have W:j < es.size:=(Array.getElem?_eq_some_iff.1 A).1
  have B:(es.modify j fun e=>{ e with key:=Value.string s,val:=v }).toList=es.toList.modify j (fun e=>{ e with key:=Value.string s,val:=v }):=by simp
  refine k _ (fin _ _ ⟨?_,?_,?_⟩)
  ·rw [B,d]
   apply List.ext_getElem?
   intro q
   have hq:es.toList[q]?.map (fun e=>(e.key,e.val))=m[q]?.map (fun p=>(Value.string p.1,p.2)):=by rw [<- List.getElem?_map,f.eq,List.getElem?_map]
   simp only [List.getElem?_map,List.getElem?_modify,List.getElem?_set]
   by_cases r:j=q
   ·subst r
    have hml':j < m.length:=(List.getElem?_eq_some_iff.1 H).1
    have h':es.toList[j]? = some e:=by simpa using A
    simp [h',hml']
   ·have hq':=hq
    simp only [Array.getElem?_toList] at hq'
    simp [r,hq']
  ·intro x F
   rw [B] at F
   obtain ⟨q,hq⟩:=List.mem_iff_getElem?.1 F
   rw [List.getElem?_modify] at hq
   cases hz':es.toList[q]? with
   | none=>rw [hz'] at hq;simp at hq
   | some e'=>
    rw [hz'] at hq
    have hb':=f.old e' (mgQ hz')
    have Q:=Option.some.inj hq
    rw [<- Q]
    show (if j=q then _ else _:MapEntry).born < clock
    by_cases r:j=q
    ·rw [if_pos r];exact hb'
    ·rw [if_neg r];exact hb'
  ·rw [B]
   have:(es.toList.modify j (fun e=>{ e with key:=Value.string s,val:=v })).map (·.born)=es.toList.map (·.born):=by
    apply List.ext_getElem?
    intro q
    simp only [List.getElem?_map,List.getElem?_modify]
    cases es.toList[q]? with
    | none=>simp
    | some e'=>simp;split <;> rfl
   rw [this];exact f.nodup
end Go.Sw

namespace Go.Sw
noncomputable def Ex.sz (e:Ex):Nat:=SizeOf.sizeOf e
noncomputable def Val.sz (e:Val):Nat:=SizeOf.sizeOf e
theorem Ex.lt_args {e x:Ex} (h:x∈e.args):x.sz < e.sz:=by
 cases e with
 | mk k n s args arms=>
  have:=List.sizeOf_lt_of_mem (show x∈args from h)
  simp only [Ex.sz,Ex.mk.sizeOf_spec];omega
theorem Ex.lt_arms {e:Ex} {a:Arm} (h:a∈e.arms):a.body.sz < e.sz:=by
 cases e with
 | mk k n s args arms=>
  have:=List.sizeOf_lt_of_mem (show a∈arms from h)
  cases a with
  | mk c v b=>simp only [Ex.sz,Ex.mk.sizeOf_spec,Arm.mk.sizeOf_spec,Arm.body] at *;omega
theorem Val.lt_args {e x:Val} (h:x∈e.args):x.sz < e.sz:=by
 cases e with
 | mk c n args=>
  have:=List.sizeOf_lt_of_mem (show x∈args from h)
  simp only [Val.sz,Val.mk.sizeOf_spec];omega
mutual
def jB:Ex->Int->Bool×Int
 | .mk _ _ _ args arms,l=>if l - 1 < 0 then (true,l - 1) else
  match meass args (l - 1) with
  | (true,q)=>(true,q)
  | (false,q)=>measa arms q
def meass:List Ex->Int->Bool×Int
 | [],l=>(false,l)
 | e::es,l=>match jB e l with
  | (true,q)=>(true,q)
  | (false,q)=>meass es q
def measa:List Arm->Int->Bool×Int
 | [],l=>(false,l)
 | .mk _ vs b::es,l=>if 16 < vs.length then (true,l) else match jB b l with
  | (true,q)=>(true,q)
  | (false,q)=>measa es q
end
mutual
theorem wC:∀(e:Ex) (l:Int),(jB e l).1=false->0<=(jB e l).2/\(jB e l).2<=l
 | .mk _ _ _ args arms,l=>by
  intro h
  simp only [jB] at h ⊢
  split at h
  ·cases h
  ·rename_i hl
   simp only [if_neg hl]
   have h1:=meass_le args (l - 1)
   cases N:meass args (l - 1) with
   | mk b q=>
    rw [N] at h h1
    cases b with
    | true=>cases h
    | false=>
     have a:=measa_le arms q h (by have:=h1 rfl (by omega);simp only at this;omega)
     have:=h1 rfl (by omega)
     simp only at this a ⊢
     omega
theorem meass_le:∀(es:List Ex) (l:Int),(meass es l).1=false->0<=l->0<=(meass es l).2/\(meass es l).2<=l
 | [],l=>by intro _ h;simp [meass,h]
 | e::es,l=>by
  intro h f
  simp only [meass] at h ⊢
  have h1:=wC e l
  cases N:jB e l with
  | mk b q=>
   rw [N] at h h1
   cases b with
   | true=>cases h
   | false=>
    have d:=h1 rfl
    have a:=meass_le es q h (by simp only at d;omega)
    simp only at d a ⊢
    omega
theorem measa_le:∀(es:List Arm) (l:Int),(measa es l).1=false->0<=l->0<=(measa es l).2/\(measa es l).2<=l
 | [],l=>by intro _ h;simp [measa,h]
 | .mk _ vs b::es,l=>by
  intro h f
  simp only [measa] at h ⊢
  split at h
  ·cases h
  ·rename_i g
   simp only [if_neg g]
   have h1:=wC b l
   cases N:jB b l with
   | mk c q=>
    rw [N] at h h1
    cases c with
    | true=>cases h
    | false=>
     have d:=h1 rfl
     have a:=measa_le es q h (by simp only at d;omega)
     simp only at d a ⊢
     omega
end
def z2r (arms:List Arm):Bool×Int->Bool×Int
 | (true,q)=>(true,q)
 | (false,q)=>measa arms q
theorem z6z (e:Ex) (l:Int):jB e l=if l - 1 < 0 then (true,l - 1) else z2r e.arms (meass e.args (l - 1)):=by
 cases e with
 | mk k n s args arms=>
  simp only [jB,Ex.args,Ex.arms]
  by_cases h:l - 1 < 0
  ·rw [if_pos h,if_pos h]
  ·rw [if_neg h,if_neg h]
   cases meass args (l - 1) with
   | mk b q=>cases b <;> rfl
theorem z0m (e:Ex) (es:List Ex) (l:Int):meass (e::es) l=if (jB e l).1 then (true,(jB e l).2) else meass es (jB e l).2:=by
 simp only [meass]
 cases jB e l with
 | mk b q=>cases b <;> rfl
theorem sN (a:Arm) (es:List Arm) (l:Int):measa (a::es) l=if 16 < a.vars.length then (true,l) else if (jB a.body l).1 then (true,(jB a.body l).2) else measa es (jB a.body l).2:=by
 cases a with
 | mk c vs b=>
  simp only [measa]
  change (if 16 < vs.length then _ else _)=(if 16 < vs.length then (true,l) else if (jB b l).1 then (true,(jB b l).2) else measa es (jB b l).2)
  by_cases h:16 < vs.length
  ·rw [if_pos h,if_pos h]
  ·rw [if_neg h,if_neg h]
   cases jB b l with
   | mk b q=>cases b <;> rfl
def cQ:List Fun->Int->Bool
 | [],_=>false
 | f::fs,l=>decide (16 < f.params.length) || (jB f.body l).1 || cQ fs (jB f.body l).2
def hO (d:Data):Bool:=decide (16 < d.cons.length) || d.cons.any (fun x=>decide (16 < x.fields.length))
def vO (c:Core):Bool :=
 decide (60 < c.datas.length) || decide (6 < c.inputs.length) || decide (300 < c.funs.length) || decide (6 < c.outputs.length) || c.datas.any hO || cQ c.funs 6000
def yH:Bs:=⟨#[73,110,116]⟩
def inF (name:Bs) (s:Bs):Bool := !decide (s=yH) && !decide (s=name)
def gT (name:Bs):List Con->Bool->Bool
 | [],ok=>ok
 | x::xs,ok=>gT name xs (ok && !x.fields.any (inF name))
def mN (name:Bs):List Data->Int->Bool->Int×Bool
 | [],n,ok=>(n,ok)
 | d::ds,n,ok=>if d.name=name then mN name ds (IntKind.i64.wrap (n+1)) (gT name d.cons ok) else mN name ds n ok
def jM (ds:List Data) (name:Bs):Bool :=
 if name=yH then true else decide ((mN name ds 0 true).1=1)&&(mN name ds 0 true).2
def strs (l:List Bs):List Value:=l.map .string
theorem yW (l m:List Bs):strs (l++m)=strs l++strs m:=by simp [strs]
theorem yG (l:List Bs):(strs l).length=l.length:=by simp [strs]
theorem aN (l:List Bs):(strs l).all Value.oneCell'=true:=by simp [strs,Value.oneCell']
theorem chunks_str {V:Fz}:∀{l:List Bs} {cs:List Value},Chunks (RStr V) 1 cs l↔cs=strs l
 | [],cs=>by simp [Chunks,strs]
 | s::l,cs=>by
  simp only [Chunks,RStr]
  constructor
  ·rintro ⟨c,rest,rfl,_,rfl,a⟩
   have:=chunks_str.1 a
   subst this;rfl
  ·rintro rfl
   exact ⟨[.string s],strs l,rfl,rfl,rfl,chunks_str.2 rfl⟩
theorem SliceOf.strs {V:Fz} {v:Value} {l:List Bs}:SliceOf RStr V 1 v l↔Row V v 1 (strs l) :=
 ⟨fun ⟨_,h1,a⟩=>chunks_str.1 a▸h1,fun h=>⟨_,h,chunks_str.2 rfl⟩⟩
theorem y3a {P:Program} {t e:TypeId} {len k:Nat} {z:Value} {parts:List (Nat×Value)} {cs:List Value} (f:Under P t (.slice e)) (O:SizeT P e k) (g:ZeroT P e z) (d:Nat.ble (len * k) 16777216=true) (a:len * k≠0)
  (b:Instr.fill (fun i=>some (i * k,k)) ((List.range (len * k)).map (fun x=>z.cells[x % z.cells.size]!)).toArray parts=some cs.toArray):built P t parts len cs e:=fun w=>by
 have hn':¬len * k > 2 ^ 24:=by
  have:len * k<=16777216:=by simpa using d
  omega
 have c:(Array.range (len * k)).map (z.cells[· % z.cells.size]!)=((List.range (len * k)).map (fun x=>z.cells[x % z.cells.size]!)).toArray:=by
  apply Array.ext'
  simp
 simp only [Instr.buildSlice,Sem.run_bind,f w,O w,Result.andThen_ok,if_neg hn',if_neg a,g w,Sem.run_pure,c,b,newRow,run_newObj]
 simp [ob]
theorem dK {P:Program} {t e:TypeId} {k:Nat} (a:Under P t (.slice e)) (O:SizeT P e k):built P t [] 0 [] e:=fun w=>by
 simp only [Instr.buildSlice,Sem.run_bind,a w,O w,Result.andThen_ok]
 have hr:Array.range 0=(#[]:Array Nat):=by simp
 simp [Instr.fill,newRow,ob,hr]
mutual
def zP:Ex->List Bs
 | .mk k _ s args arms=>(if k=6 then [s] else [])++bindPs args++bindPa arms
def bindPs:List Ex->List Bs
 | []=>[]
 | e::es=>zP e++bindPs es
def bindPa:List Arm->List Bs
 | []=>[]
 | .mk _ vs b::es=>vs++zP b++bindPa es
end
theorem wX (e:Ex):zP e=(if e.kind=6 then [e.name] else [])++bindPs e.args++bindPa e.arms:=by
 cases e;simp only [zP,Ex.args,Ex.arms];rfl
theorem qK (a:Arm) (es:List Arm):bindPa (a::es)=a.vars++zP a.body++bindPa es:=by
 cases a;rfl
theorem wM {t:Bs} {i:Nat} (h:i < t.size):∃c,t[i]? = some c:=⟨t[i],by simp [h]⟩
def zH (t:Bs) (i:Nat):Nat:=match t[i]? with | some c=>c.toNat | none=>0
theorem qC {t:Bs} {i:Nat} {c:UInt8} (h:t[i]? = some c):zH t i=c.toNat:=by simp [zH,h]
theorem y0m {t:Bs} {i:Nat} (h:¬i < t.size):zH t i=0:=by
 have:t[i]? = none:=by simp;omega
 simp [zH,this]
def qT (c:Nat):Bool:=decide (97<=c)&&decide (c<=122)
def qZ (c:Nat):Bool:=decide (65<=c)&&decide (c<=90)
def yC (c:Nat):Bool:=decide (48<=c)&&decide (c<=57)
def yT (c:Nat):Bool:=qT c || qZ c || yC c || decide (c=95)
def xZ (c:Nat):Bool:=decide (c=32) || decide (c=9) || decide (c=10) || decide (c=13)
def wF (s p:Bs):Bool:=decide (p.size<=s.size)&&decide (s.extract 0 p.size=p)
def yV (p:Nat->Bool) (t:Bs):Nat->Nat->Nat
 | 0,_=>0
 | f+1,i=>if i < t.size/\p (zH t i)=true then yV p t f (i+1)+1 else 0
theorem q2n (p:Nat->Bool) (t:Bs):∀(f g i:Nat),t.size<=i+f->t.size<=i+g->yV p t f i=yV p t g i
 | 0,0,_,_,_=>rfl
 | 0,g+1,i,h,_=>by simp only [yV];rw [if_neg (by omega)]
 | f+1,0,i,_,h=>by simp only [yV];rw [if_neg (by omega)]
 | f+1,g+1,i,h,h'=>by
  simp only [yV]
  split
  ·rw [q2n p t f g (i+1) (by omega) (by omega)]
  ·rfl
theorem vF (p:Nat->Bool) (t:Bs) (i:Nat):yV p t t.size i=if i < t.size/\p (zH t i)=true then yV p t t.size (i+1)+1 else 0:=by
 rw [q2n p t t.size (t.size+1) i (by omega) (by omega)]
 simp only [yV]
theorem wG (p:Nat->Bool) (t:Bs):∀(f i:Nat),i<=t.size->i+yV p t f i<=t.size
 | 0,i,h=>by simpa [yV] using h
 | f+1,i,h=>by
  simp only [yV]
  split
  ·rename_i a
   have:=wG p t f (i+1) (by omega)
   omega
  ·omega
end Go.Sw

namespace Go.Sw
variable {P:Program} {n:Nat} {E:List (Nat×Value)} {D:List Deferred} {a:Act} {V Ψ:Fz} {K:List Res} {w:World}
variable {Kn:Value->World->Prop} {Qp:List PanicEntry->World->Prop} {dst:Option Tmp} {ty:TypeId} {pos:String} {aft:Array Edge} {g:Option (Nat×Bool)}
def Out {ε α:Type} (r:Except ε α) (A:α->Prop) (B:ε->Prop):Prop:=match r with | .ok x=>A x | .error c=>B c
theorem z8t {α ε:Type} {f:FuncId} {xs:Array Operand} {ts:Array TypeId} {vs:List Value} {r:Except ε α} {X:α->Value} {C:ε->List PanicEntry} {b d:Fz} {KO:α->List Res} {KE:List Res}
  (J:EnvR n E D a) (m:evs E xs.toList=some vs) (l:∀args w,(callFunc f args).run P w=.ok (.enter f args) w)
  (j:Calls P f vs.toArray w (fun e w'=>Out r (fun x=>e=.returned (X x)/\Mem b (KO x) w') (fun c=>e=.panicked (C c)/\Mem d KE w')))
  (k:∀x w',r=.ok x->Mem b (KO x) w'->Kn (X x) w') (kp:∀c w',r=.error c->Mem d KE w'->Qp (C c) w') :
  Oper.eff P ⟨dst,.call { callee:=.value (.func f),args:=xs,argTypes:=ts },ty,pos,aft,g⟩ a w Kn Qp:=by
 refine cM J m l j (fun v w' h=>?_) (fun c w' h=>?_) (fun w' h=>?_)
 ·cases r with
  | ok x=>obtain ⟨h1,i⟩:=h;cases h1;exact k _ _ rfl i
  | error c=>obtain ⟨h1,_⟩:=h;cases h1
 ·cases r with
  | ok x=>obtain ⟨h1,_⟩:=h;cases h1
  | error c=>obtain ⟨h1,i⟩:=h;cases h1;exact kp _ _ rfl i
 ·cases r with
  | ok x=>obtain ⟨h1,_⟩:=h;cases h1
  | error c=>obtain ⟨h1,_⟩:=h;cases h1
theorem gN {md:Region.Mode} {kd:List Nat} {o:Oper} {B:Prop} (h:sL md kd o=false) (hl:sL md kd o=true):B:=by rw [h] at hl;cases hl
theorem kH {t:TypeId} {v:Value} (w:World):(Instr.panic (.iface t v)).run P w=.halt (.panic (.iface t v)) w:=rfl
theorem retcA {fn:Func} {R:Ending->World->Prop} {t T b k i:Nat} {cs:List Value} {d:TypeId} (J:EnvR n E [] a) (N:Sees V K w) (hr:fn.results=#[.cell t T]) (o:get E t=some (.pointer (some ⟨b,0,none⟩)))
  (m:qS K i=some (.blk b (ob cs d))) (f:AggT P T) (e:SizeT P T k) (hl:cs.length=k) (h:R (.returned (.agg cs.toArray)) w):bodyPost P fn R .ret a w:=by
 refine ⟨J.defs,.agg cs.toArray,?_,h⟩
 have g:∀j v,cs[j]? = some v->w.cell? ((⟨b,0,none⟩:Addr).add j)=some v:=fun j v l=>by
  have h1:=N.cell m j
  rw [z5l,l] at h1
  unfold Addr.add;split
  ·subst_vars;exact h1
  ·simpa using h1
 have c:=run_loadCells_list (P:=P) (w:=w) ⟨b,0,none⟩ cs g
 rw [hl] at c
 simp [results,hr,Array.getD_eq_getD_getElem?,J.env t _ o,asAddr,loadVar,f w,e w,c]
theorem qB {fn:Func} {R:Ending->World->Prop} {c:List PanicEntry} (b:a.defers=[]) (h:R (.panicked c) w):bodyPost P fn R (.panic c) a w:=⟨b,h⟩
def wY (t:Bs) (org:Nat):Nat->Nat->Int->Except (Nat×Int) Nat
 | 0,_,_=>.error (org,12)
 | f+1,i,o=>
  if t.size<=i then .error (org,12) else
  if wF (t.extract i t.size) (⟨#[40,42]⟩:Bs) then (if 100<=o then .error (i,6) else wY t org f (i+2) (o+1)) else
  if wF (t.extract i t.size) (⟨#[42,41]⟩:Bs) then (if o - 1=0 then .ok (i+2) else wY t org f (i+2) (o - 1)) else
  wY t org f (i+1) o
theorem jX {t p:Bs} {i:Nat} (h:wF (t.extract i t.size) p=true):p.size<=t.size - i:=by
 simp only [wF,baQ,decide_eq_true_eq,ByteArray.size_extract] at h
 have:=h.1
 simp only [Nat.min_self] at this
 exact this
theorem gF (t:Bs) (org:Nat):∀(f g i:Nat) (o:Int),t.size < i+f->t.size < i+g->wY t org f i o=wY t org g i o
 | 0,0,_,_,_,_=>rfl
 | 0,g+1,i,o,h,_=>by simp only [wY];rw [if_pos (by omega)]
 | f+1,0,i,o,_,h=>by simp only [wY];rw [if_pos (by omega)]
 | f+1,g+1,i,o,h,h'=>by
  simp only [wY]
  rw [gF t org f g (i+2) (o+1) (by omega) (by omega),gF t org f g (i+2) (o - 1) (by omega) (by omega),gF t org f g (i+1) o (by omega) (by omega)]
def kJ (t:Bs) (org i:Nat) (o:Int):Except (Nat×Int) Nat:=wY t org (t.size+1) i o
theorem aQ (t:Bs) (org i:Nat) (o:Int):kJ t org i o =
  if t.size<=i then .error (org,12) else
  if wF (t.extract i t.size) (⟨#[40,42]⟩:Bs) then (if 100<=o then .error (i,6) else kJ t org (i+2) (o+1)) else
  if wF (t.extract i t.size) (⟨#[42,41]⟩:Bs) then (if o - 1=0 then .ok (i+2) else kJ t org (i+2) (o - 1)) else
  kJ t org (i+1) o:=by
 unfold kJ
 rw [gF t org (t.size+1) (t.size+2) i o (by omega) (by omega)]
 simp only [wY]
theorem mX (t:Bs) (org:Nat):∀(f i q:Nat) (o:Int),wY t org f i o=.ok q->i < q/\q<=t.size
 | 0,_,_,_,h=>by simp [wY] at h
 | f+1,i,q,o,h=>by
  simp only [wY] at h
  split at h
  ·cases h
  ·split at h
   ·split at h
    ·cases h
    ·have:=mX t org f _ _ _ h;omega
   ·split at h
    ·rename_i O
     have a:=jX O
     have:(⟨#[42,41]⟩:Bs).size=2:=rfl
     split at h
     ·simp only [Except.ok.injEq] at h;omega
     ·have:=mX t org f _ _ _ h;omega
    ·have:=mX t org f _ _ _ h;omega
def tW (c:Nat×Int):List PanicEntry:=[{ v:=.iface 270 (.agg #[.int .i64 ((c.1:Nat):Int),.int .i64 c.2]),recovered:=false }]
theorem z8u {α β ε:Type} {f:FuncId} {xs:Array Operand} {ts:Array TypeId} {vs:List Value} {r:Except ε α} {X:α->β->Value} {C:ε->List PanicEntry} {F1:α->β->Fz} {b:Fz} {KO:α->β->List Res} {KE:List Res} {G:α->β->Prop}
  (J:EnvR n E D a) (m:evs E xs.toList=some vs) (l:∀args w,(callFunc f args).run P w=.ok (.enter f args) w)
  (j:Calls P f vs.toArray w (fun e w'=>Out r (fun x=>∃y,e=.returned (X x y)/\G x y/\Mem (F1 x y) (KO x y) w') (fun c=>e=.panicked (C c)/\Mem b KE w')))
  (k:∀x y w',r=.ok x->G x y->Mem (F1 x y) (KO x y) w'->Kn (X x y) w') (kp:∀c w',r=.error c->Mem b KE w'->Qp (C c) w') :
  Oper.eff P ⟨dst,.call { callee:=.value (.func f),args:=xs,argTypes:=ts },ty,pos,aft,g⟩ a w Kn Qp:=by
 refine cM J m l j (fun v w' h=>?_) (fun c w' h=>?_) (fun w' h=>?_)
 ·cases r with
  | ok x=>obtain ⟨y,h1,d,i⟩:=h;cases h1;exact k _ _ _ rfl d i
  | error c=>obtain ⟨h1,_⟩:=h;cases h1
 ·cases r with
  | ok x=>obtain ⟨y,h1,_⟩:=h;cases h1
  | error c=>obtain ⟨h1,d⟩:=h;cases h1;exact kp _ _ rfl d
 ·cases r with
  | ok x=>obtain ⟨y,h1,_⟩:=h;cases h1
  | error c=>obtain ⟨h1,_⟩:=h;cases h1
theorem z3v {β:Type} {f:FuncId} {xs:Array Operand} {ts:Array TypeId} {vs:List Value} {X:β->Value} {F1:β->Fz} {KO:β->List Res} {G:β->Prop}
  (J:EnvR n E D a) (l:evs E xs.toList=some vs) (j:∀args w,(callFunc f args).run P w=.ok (.enter f args) w)
  (i:Calls P f vs.toArray w (fun e w'=>∃y,e=.returned (X y)/\G y/\Mem (F1 y) (KO y) w'))
  (k:∀y w',G y->Mem (F1 y) (KO y) w'->Kn (X y) w') :
  Oper.eff P ⟨dst,.call { callee:=.value (.func f),args:=xs,argTypes:=ts },ty,pos,aft,g⟩ a w Kn Qp :=
 cM J l j i (fun v w' h=>by obtain ⟨y,h1,b,d⟩:=h;cases h1;exact k _ _ b d) (fun c w' h=>by obtain ⟨y,h1,_⟩:=h;cases h1) (fun w' h=>by obtain ⟨y,h1,_⟩:=h;cases h1)
def z2u (t:Bs):Nat->Nat->Except (Nat×Int) Nat
 | 0,i=>.ok i
 | f+1,i=>
  if wF (t.extract (i+yV xZ t t.size i) t.size) (⟨#[40,42]⟩:Bs)=true then
   match kJ t (i+yV xZ t t.size i) (i+yV xZ t t.size i) 0 with
   | .error c=>.error c
   | .ok q=>z2u t f q
  else .ok (i+yV xZ t t.size i)
theorem y5x (t:Bs):∀(f g i:Nat),i<=t.size->t.size < i+f->t.size < i+g->z2u t f i=z2u t g i
 | 0,_,i,a,h,_=>by omega
 | _+1,0,i,a,_,h=>by omega
 | f+1,g+1,i,a,h,h'=>by
  simp only [z2u]
  split
  ·cases b:kJ t (i+yV xZ t t.size i) (i+yV xZ t t.size i) 0 with
   | error c=>rfl
   | ok q=>
    have:=mX _ _ _ _ _ _ b
    exact y5x t f g q this.2 (by omega) (by omega)
  ·rfl
def dD (t:Bs) (i:Nat):Except (Nat×Int) Nat:=z2u t (t.size+1) i
theorem y5v (t:Bs) (i:Nat) (h:i<=t.size):dD t i =
  if wF (t.extract (i+yV xZ t t.size i) t.size) (⟨#[40,42]⟩:Bs)=true then
   match kJ t (i+yV xZ t t.size i) (i+yV xZ t t.size i) 0 with
   | .error c=>.error c
   | .ok q=>dD t q
  else .ok (i+yV xZ t t.size i):=by
 unfold dD
 rw [y5x t (t.size+1) (t.size+2) i h (by omega) (by omega)]
 simp only [z2u]
end Go.Sw

namespace Go.Sw
def kw (l:List UInt8):Bs:=⟨l.toArray⟩
def wordsL:List Bs:=[kw [97,110,100],kw [99,97,115,101],kw [100,97,116,97],kw [101,108,115,101],kw [101,110,100],kw [102,110],kw [102,117,110],kw [105,102],kw [105,110],kw [105,110,112,117,116],kw [108,101,116],kw [111,102],kw [111,117,116,112,117,116],kw [116,104,101,110],kw [118,97,108]]
def wordsM:List (Bs×Value):=wordsL.map (fun s=>(s,.int .i64 5))
theorem z5u {s:Bs} {v:Value} (h:yY wordsM s=some v):v=.int .i64 ((5:Nat):Int):=by
 have:∀(l:List Bs),yY (l.map (fun s=>(s,Value.int .i64 5))) s=some v->v=.int .i64 ((5:Nat):Int):=by
  intro l
  induction l with
  | nil=>intro h;simp [yY] at h
  | cons x l a=>
   intro h
   simp only [List.map_cons,yY] at h
   split at h
   ·simp only [Option.some.injEq] at h;rw [<- h];rfl
   ·exact a h
 exact this _ h
def z2e (s:Bs):Bool:=(yY wordsM s).isSome
structure Tok where
 kind:Int
 num:Int
 text:Bs
 org:Nat
def y7a (k:Tok):Value:=.agg #[.int .i64 k.kind,.int .i64 k.num,.string k.text,.int .i64 ((k.org:Nat):Int)]
def wS (t:Bs) (pos:Nat) (kind:Int) (n:Nat):Except (Nat×Int) Tok:=if 24 < n then .error (pos,2) else .ok ⟨kind,0,t.extract pos (pos+n),pos⟩
def qE (t:Bs) (pos:Nat):Nat :=
 if zH t (pos+yV yT t t.size pos)=39 then
  (if 0 < yV yC t t.size (pos+(yV yT t t.size pos+1)) then yV yT t t.size pos+(1+yV yC t t.size (pos+(yV yT t t.size pos+1))) else yV yT t t.size pos)
 else yV yT t t.size pos
def wD (t:Bs) (pos:Nat) (kind:Int):Except (Nat×Int) Tok :=
 if 24 < qE t pos then .error (pos,2)
 else .ok ⟨if z2e (t.extract pos (pos+qE t pos)) then 5 else kind,0,t.extract pos (pos+qE t pos),pos⟩
theorem uI {t:Bs} {pos n:Nat} {kd:Int} {q:Tok} (hq:wS t pos kd n=.ok q):¬24 < n/\q=⟨kd,0,t.extract pos (pos+n),pos⟩:=by
 unfold wS at hq
 split at hq
 ·cases hq
 ·rename_i h;simp only [Except.ok.injEq] at hq;exact ⟨h,hq.symm⟩
theorem x1z {t:Bs} {pos n:Nat} {kd:Int} {c:Nat×Int} (hq:wS t pos kd n=.error c):24 < n/\c=(pos,2):=by
 unfold wS at hq
 split at hq
 ·rename_i h;simp only [Except.error.injEq] at hq;exact ⟨h,hq.symm⟩
 ·cases hq
theorem uK {t:Bs} {pos n:Nat} {kd:Int} {q:Tok} (hq:wS t pos kd n=.ok q) (a:yY wordsM q.text=none) (b:qE t pos=n):wD t pos kd=.ok q:=by
 obtain ⟨h1,rfl⟩:=uI hq
 simp only at a
 unfold wD
 rw [b,if_neg h1]
 simp [z2e,a]
theorem uL {t:Bs} {pos n:Nat} {kd:Int} {q:Tok} {v:Value} (hq:wS t pos kd n=.ok q) (a:yY wordsM q.text=some v) (b:qE t pos=n):wD t pos kd=.ok ⟨5,q.num,q.text,q.org⟩:=by
 obtain ⟨h1,rfl⟩:=uI hq
 simp only at a
 unfold wD
 rw [b,if_neg h1]
 simp [z2e,a]
theorem y5m {t:Bs} {pos n:Nat} {kd:Int} {c:Nat×Int} (hq:wS t pos kd n=.error c) (a:qE t pos=n):wD t pos kd=.error c:=by
 obtain ⟨h1,rfl⟩:=x1z hq
 unfold wD
 rw [a,if_pos h1]
theorem uA {t:Bs} {i:Nat} (h:zH t i≠0):i < t.size:=by
 by_cases a:i < t.size
 ·exact a
 ·exact absurd (y0m a) h
theorem y5l (t:Bs) (pos:Nat) (h:pos<=t.size):pos+qE t pos<=t.size:=by
 have h1:=wG yT t t.size pos h
 unfold qE
 split
 ·rename_i a
  have b:=uA (t:=t) (i:=pos+yV yT t t.size pos) (by omega)
  have c:=wG yC t t.size (pos+(yV yT t t.size pos+1)) (by omega)
  split
  ·omega
  ·omega
 ·omega
end Go.Sw

namespace Go.Sw
open Go.Proofs
def Tabs (V:Fz):Prop:=∀w,Sees V [] w->Lib.TabIs Tryz.prog w "internal/strconv.uint64pow10" .u64 Lib.pow10Tab
theorem Tabs.mono {V Ψ:Fz} (h:Tabs V) (hl:V.Le Ψ):Tabs Ψ:=fun w a=>h w ⟨fun b o hb=>a.fz b o (hl.obj b o hb),by simp⟩
def ErrAt (V:Fz) (g:Nat):Prop:=∃v,At V ⟨g,0,none⟩ [v]/\(v=.nilIface∨∃t p,v=.iface t p)
theorem ErrAt.mono {V Ψ:Fz} {g:Nat} (h:ErrAt V g) (hl:V.Le Ψ):ErrAt Ψ g:=let ⟨v,h1,a⟩:=h;⟨v,h1.mono hl,a⟩
structure Glob (V:Fz):Prop where
 maxLen:∃m,At V ⟨0,0,none⟩ [.int .i64 m]
 tabs:Tabs V
 err4:ErrAt V 4
 err5:ErrAt V 5
theorem Glob.mono {V Ψ:Fz} (h:Glob V) (hl:V.Le Ψ):Glob Ψ:=⟨let ⟨m,N⟩:=h.maxLen;⟨m,N.mono hl⟩,h.tabs.mono hl,h.err4.mono hl,h.err5.mono hl⟩
def jO (l:List Bs):List (Bs×Value):=l.foldl (fun m s=>cI m s (.bool true)) []
theorem z0v (l:List Bs) (s:Bs):jO (l++[s])=cI (jO l) s (.bool true):=by simp [jO]
theorem x2b (m:List (Bs×Value)) (k s:Bs) (v:Value):yY (cI m k v) s=if s=k then some v else yY m s:=by
 induction m with
 | nil=>simp [cI,yY]
 | cons p m b=>
  obtain ⟨q,x⟩:=p
  simp only [cI]
  split
  ·subst_vars;simp only [yY]
   split <;> rfl
  ·simp only [yY,b]
   by_cases h1:s=q
   ·subst h1
    rename_i a
    rw [if_pos rfl,if_pos rfl,if_neg (fun e=>a e.symm)]
   ·rw [if_neg h1,if_neg h1]
def has (l:List Bs) (s:Bs):Bool:=l.any (fun x=>decide (x=s))
theorem x6y (l:List Bs) (x s:Bs):has (l++[x]) s=(has l s || decide (x=s)):=by simp [has]
theorem q2o (l:List Bs) (s:Bs):yY (jO l) s=if has l s then some (Value.bool true) else none:=by
 have:∀(l m:List Bs) (acc:List (Bs×Value)),(∀s,yY acc s=if has m s then some (Value.bool true) else none)->∀s,yY (l.foldl (fun m s=>cI m s (.bool true)) acc) s=if has (m++l) s then some (Value.bool true) else none:=by
  intro l
  induction l with
  | nil=>intro m acc h s;simpa using h s
  | cons x l b=>
   intro m acc h s
   simp only [List.foldl_cons]
   have:=b (m++[x]) (cI acc x (.bool true)) (fun s=>by
    rw [x2b,h,x6y]
    by_cases a:s=x
    ·simp [a]
    ·have hx':¬x=s:=fun e=>a e.symm
     simp [a,hx']) s
   simpa using this
 have h:=this l [] [] (fun s=>by simp [yY,has]) s
 simpa [jO] using h
theorem z7o {l:List Bs} {s:Bs} {v:Value} (h:yY (jO l) s=some v):v=.bool true/\has l s=true:=by
 rw [q2o] at h
 split at h
 ·simp only [Option.some.injEq] at h;exact ⟨h.symm,by assumption⟩
 ·cases h
theorem z7n {l:List Bs} {s:Bs} (h:yY (jO l) s=none):has l s=false:=by
 rw [q2o] at h
 split at h
 ·cases h
 ·simpa using (by assumption:¬has l s=true)
def mD (nm:Bs->Bool):List Bs->List Bs->Bool
 | _,[]=>true
 | ds,s::l=>nm s && !has ds s&&mD nm (ds++[s]) l
end Go.Sw

namespace Go.Sw
section
variable {α:Type}
def zJ:List (Bs×α)->Bs->Option α
 | [],_=>none
 | (k,x)::l,s=>if s=k then some x else zJ l s
def pD:List (Bs×α)->Bs->α->List (Bs×α)
 | [],s,x=>[(s,x)]
 | (k,y)::l,s,x=>if s=k then (k,x)::l else (k,y)::pD l s x
def kA (m:List (Bs×Value)) (s:Bs) (v:Value):List (Bs×Value):=match yY m s with | some _=>m | none=>cI m s v
def jH (l:List (Bs×α)) (s:Bs) (x:α):List (Bs×α):=match zJ l s with | some _=>l | none=>pD l s x
inductive MapRel (R:Value->α->Prop):List (Bs×Value)->List (Bs×α)->Prop
 | nil:MapRel R [] []
 | cons {k v x m l}:R v x->MapRel R m l->MapRel R ((k,v)::m) ((k,x)::l)
variable {R R':Value->α->Prop} {m:List (Bs×Value)} {l:List (Bs×α)}
theorem MapRel.mono (h:MapRel R m l) (a:∀v x,R v x->R' v x):MapRel R' m l:=by
 induction h with
 | nil=>exact .nil
 | cons h1 _ b=>exact .cons (a _ _ h1) b
theorem MapRel.get (h:MapRel R m l) {s:Bs} {v:Value} (a:yY m s=some v):∃x,zJ l s=some x/\R v x:=by
 induction h with
 | nil=>cases a
 | cons h1 _ c=>
  simp only [yY] at a
  simp only [zJ]
  split at a
  ·rename_i O;simp only [Option.some.injEq] at a;subst a;exact ⟨_,by rw [if_pos O],h1⟩
  ·rename_i O
   obtain ⟨x,b,e2⟩:=c a
   exact ⟨x,by rw [if_neg O];exact b,e2⟩
theorem MapRel.none (h:MapRel R m l) {s:Bs} (a:yY m s=none):zJ l s=none:=by
 induction h with
 | nil=>rfl
 | cons h1 _ b=>
  simp only [yY] at a
  simp only [zJ]
  split at a
  ·cases a
  ·rename_i O;rw [if_neg O];exact b a
theorem MapRel.put (h:MapRel R m l) {s:Bs} {v:Value} {x:α} (a:R v x):MapRel R (cI m s v) (pD l s x):=by
 induction h with
 | nil=>exact .cons a .nil
 | cons h1 b c=>
  simp only [cI,pD]
  split
  ·exact .cons a b
  ·exact .cons h1 c
theorem MapRel.once (h:MapRel R m l) {s:Bs} {v:Value} {x:α} (a:R v x):MapRel R (kA m s v) (jH l s x):=by
 unfold kA jH
 cases N:yY m s with
 | none=>rw [h.none N];exact h.put a
 | some u=>obtain ⟨y,e,_⟩:=h.get N;rw [e];exact h
end
def RVa {α:Type} (R:Fz->List Value->α->Prop) (V:Fz) (v:Value) (x:α):Prop:=∃cs,v=.agg cs.toArray/\R V cs x
def RVs (v:Value) (x:Bs):Prop:=v=.string x
structure Maker where
 data:Bs
 con:Con
def RMaker (V:Fz) (cs:List Value) (x:Maker):Prop:=∃b,cs=.string x.data::b/\RCon V b x.con
theorem RMaker.mono (V Ψ:Fz) (c:List Value) (x:Maker) (hl:V.Le Ψ) (h:RMaker V c x):RMaker Ψ c x:=let ⟨b,h1,a⟩:=h;⟨b,h1,RCon.mono _ _ _ _ hl a⟩
structure Table where
 core:Core
 datas:List (Bs×Data)
 cons:List (Bs×Maker)
 funs:List (Bs×Fun)
 inputs:List (Bs×Bs)
structure RTable (V:Fz) (p:Addr) (T:Table):Prop where
 ex:∃cs m1 m2 m3 m4 d1 d2 d3 d4,At V p (cs++[.map (some m1),.map (some m2),.map (some m3),.map (some m4)])/\cs.length=4/\RCore V cs T.core /\
  MapAt V m1 d1/\MapRel (RVa RData V) d1 T.datas/\MapAt V m2 d2/\MapRel (RVa RMaker V) d2 T.cons/\MapAt V m3 d3/\MapRel (RVa RFun V) d3 T.funs/\MapAt V m4 d4/\MapRel RVs d4 T.inputs
theorem RVa.mono {α:Type} {R:Fz->List Value->α->Prop} (b:∀V Ψ c x,V.Le Ψ->R V c x->R Ψ c x) {V Ψ:Fz} (hl:V.Le Ψ) (v:Value) (x:α) (h:RVa R V v x):RVa R Ψ v x:=let ⟨cs,h1,a⟩:=h;⟨cs,h1,b _ _ _ _ hl a⟩
theorem RTable.mono {V Ψ:Fz} {p:Addr} {T:Table} (h:RTable V p T) (hl:V.Le Ψ):RTable Ψ p T :=
 let ⟨cs,m1,m2,m3,m4,d1,d2,d3,d4,f,h1,g,a,b,a2,c,a3,d,a4,e⟩:=h.ex
 ⟨cs,m1,m2,m3,m4,d1,d2,d3,d4,f.mono hl,h1,RCore.mono _ _ _ _ hl g,a.mono hl,b.mono (RVa.mono RData.mono hl),a2.mono hl,c.mono (RVa.mono RMaker.mono hl),a3.mono hl,d.mono (RVa.mono RFun.mono hl),a4.mono hl,e⟩
def qM (e:Ex) (num name:Bool) (args arms:Int):Bool :=
 (num || decide (e.num=0))&&(name || decide (e.name=(⟨#[]⟩:Bs)))&&(decide (args < 0) || decide ((e.args.length:Int)=args))&&(decide (arms < 0) || decide ((e.arms.length:Int)=arms))
def kQ (T:Table) (name:Bs):Bool:=(zJ T.datas name).isSome || decide (name=yH)
end Go.Sw

namespace Go.Sw
abbrev Scope:=List (Bs×Bs)
def xN (s:Scope):List (Bs×Value):=s.map (fun p=>(p.1,.string p.2))
def y2d {α:Type}:List (Bs×α)->Bs->List (Bs×α)
 | [],_=>[]
 | (k,y)::l,s=>if s=k then l else (k,y)::y2d l s
theorem y6t:∀(s:Scope) (k:Bs),yY (xN s) k=(zJ s k).map .string
 | [],_=>rfl
 | (q,x)::s,k=>by
  simp only [xN,List.map_cons,yY,zJ]
  split
  ·rfl
  ·exact y6t s k
theorem x3d {s:Scope} {k:Bs} {v:Value} (h:yY (xN s) k=some v):∃y,zJ s k=some y/\v=.string y:=by
 rw [y6t] at h
 cases hl:zJ s k with
 | none=>rw [hl] at h;cases h
 | some y=>rw [hl] at h;simp only [Option.map_some,Option.some.injEq] at h;exact ⟨y,rfl,h.symm⟩
theorem x3c {s:Scope} {k:Bs} (h:yY (xN s) k=none):zJ s k=none:=by
 rw [y6t] at h
 cases hl:zJ s k with
 | none=>rfl
 | some y=>rw [hl] at h;cases h
theorem z3b:∀(s:Scope) (k x:Bs),cI (xN s) k (.string x)=xN (pD s k x)
 | [],_,_=>rfl
 | (q,y)::s,k,x=>by
  simp only [xN,List.map_cons,cI,pD]
  split
  ·rfl
  ·simp only [List.map_cons];exact congrArg _ (z3b s k x)
theorem z7q:∀(s:Scope) (k:Bs),z9m (xN s) k=xN (y2d s k)
 | [],_=>rfl
 | (q,y)::s,k=>by
  simp only [xN,List.map_cons,z9m,y2d]
  split
  ·rfl
  ·simp only [List.map_cons];exact congrArg _ (z7q s k)
def sNo:Bs:=⟨#[]⟩
def kO:Bs:=⟨#[66,111,111,108]⟩
def oP (e:Ex):Bs:=if qM e true false 0 0 then yH else sNo
def pF (e:Ex) (s:Scope):Bs:=if qM e false true 0 0 then (zJ s e.name).getD sNo else sNo
def sI (T:Table) (e:Ex):Bs:=if qM e false true 0 0 then (zJ T.inputs e.name).getD sNo else sNo
def putAll:Scope->List Bs->List Bs->Scope
 | s,v::vs,f::fs=>putAll (pD s v f) vs fs
 | s,_,_=>s
def sE:Scope->List Bs->Scope
 | s,v::vs=>sE (y2d s v) vs
 | s,[]=>s
def opT (name:Bs):Bs :=
 if name=⟨#[43]⟩∨name=⟨#[45]⟩∨name=⟨#[42]⟩∨name=⟨#[47]⟩∨name=⟨#[37]⟩ then yH
 else if name=⟨#[60]⟩∨name=⟨#[61]⟩ then kO else sNo
mutual
def zG (T:Table):Ex->Scope->Bs×Scope
 | .mk kind num name args arms,s=>
  if kind=1 then (oP (.mk kind num name args arms),s)
  else if kind=2 then (pF (.mk kind num name args arms) s,s)
  else if kind=3 then (sI T (.mk kind num name args arms),s)
  else if kind=4 then
   match zJ T.cons name with
   | none=>(sNo,s)
   | some m=>if qM (.mk kind num name args arms) false true (-1) 0=true/\args.length=m.con.fields.length then ((if (allQ T args s m.con.fields).1 then m.data else sNo),(allQ T args s m.con.fields).2) else (sNo,s)
  else if kind=5 then
   match zJ T.funs name with
   | none=>(sNo,s)
   | some f=>if qM (.mk kind num name args arms) false true (-1) 0=true/\args.length=f.params.length then ((if (allQ T args s (f.params.map Param.type)).1 then f.result else sNo),(allQ T args s (f.params.map Param.type)).2) else (sNo,s)
  else if kind=6 then (if qM (.mk kind num name args arms) false true 2 0 then letP T name args s else (sNo,s))
  else if kind=7 then
   if qM (.mk kind num name args arms) false false 1 (-1) then
    match zJ T.datas (firstP T args s).1 with
    | none=>(sNo,(firstP T args s).2)
    | some d=>if d.cons.length=arms.length then splitP T arms d.cons true sNo (firstP T args s).2 else (sNo,(firstP T args s).2)
   else (sNo,s)
  else if kind=8 then
   if qM (.mk kind num name args arms) false true 2 0 then ((if (allQ T args s [yH,yH]).1 then opT name else sNo),(allQ T args s [yH,yH]).2) else (sNo,s)
  else (sNo,s)
def allQ (T:Table):List Ex->Scope->List Bs->Bool×Scope
 | [],s,_=>(true,s)
 | x::xs,s,ts=>
  if (zG T x s).1=sNo∨(zG T x s).1≠ts.headD sNo then (false,(zG T x s).2) else allQ T xs (zG T x s).2 ts.tail
def firstP (T:Table):List Ex->Scope->Bs×Scope
 | [],s=>(sNo,s)
 | a::_,s=>zG T a s
def restP (T:Table):List Ex->Scope->Bs×Scope
 | [],s=>(sNo,s)
 | _::l,s=>firstP T l s
def letP (T:Table) (name:Bs):List Ex->Scope->Bs×Scope
 | [],s=>(sNo,s)
 | a::l,s=>if (zG T a s).1=sNo then (sNo,(zG T a s).2) else
   ((firstP T l (pD (zG T a s).2 name (zG T a s).1)).1,y2d (firstP T l (pD (zG T a s).2 name (zG T a s).1)).2 name)
def splitP (T:Table):List Arm->List Con->Bool->Bs->Scope->Bs×Scope
 | [],_,_,out,s=>(out,s)
 | .mk con vars body::az,cs,first,out,s=>
  if con≠(cs.headD ⟨sNo,[]⟩).name∨vars.length≠(cs.headD ⟨sNo,[]⟩).fields.length then (sNo,s) else
  if (zG T body (putAll s vars (cs.headD ⟨sNo,[]⟩).fields)).1=sNo∨(first=false/\(zG T body (putAll s vars (cs.headD ⟨sNo,[]⟩).fields)).1≠out)
  then (sNo,sE (zG T body (putAll s vars (cs.headD ⟨sNo,[]⟩).fields)).2 vars)
  else splitP T az cs.tail false (zG T body (putAll s vars (cs.headD ⟨sNo,[]⟩).fields)).1 (sE (zG T body (putAll s vars (cs.headD ⟨sNo,[]⟩).fields)).2 vars)
end
theorem z3o (T:Table) (x:Ex) (xs:List Ex) (s:Scope) (t:Bs) (ts:List Bs):allQ T (x::xs) s (t::ts) =
  if (zG T x s).1=sNo∨(zG T x s).1≠t then (false,(zG T x s).2) else allQ T xs (zG T x s).2 ts:=rfl
def vR (T:Table) (xs:List Ex) (s:Scope) (ts:List Bs):Bool×Scope:=if xs.length=ts.length then allQ T xs s ts else (false,s)
def tO (T:Table) (e:Ex) (s:Scope):Bs×Scope :=
 match zJ T.cons e.name with
 | none=>(sNo,s)
 | some m=>if qM e false true (-1) 0=true then ((if (vR T e.args s m.con.fields).1 then m.data else sNo),(vR T e.args s m.con.fields).2) else (sNo,s)
def nS (T:Table) (e:Ex) (s:Scope):Bs×Scope :=
 match zJ T.funs e.name with
 | none=>(sNo,s)
 | some f=>if qM e false true (-1) 0=true then ((if (vR T e.args s (f.params.map Param.type)).1 then f.result else sNo),(vR T e.args s (f.params.map Param.type)).2) else (sNo,s)
def nV (T:Table) (e:Ex) (s:Scope):Bs×Scope :=
 if qM e false true 2 0=true then ((if (vR T e.args s [yH,yH]).1 then opT e.name else sNo),(vR T e.args s [yH,yH]).2) else (sNo,s)
theorem nK (T:Table) (e:Ex) (s:Scope) (h:e.kind=4):zG T e s=tO T e s:=by
 cases e with
 | mk k n nm args arms=>
  simp only [Ex.kind] at h
  subst h
  simp only [zG,tO,Ex.name,Ex.args,vR]
  simp only [show ¬(4:Int)=1 by decide,show ¬(4:Int)=2 by decide,show ¬(4:Int)=3 by decide,if_false,if_true]
  cases zJ T.cons nm with
  | none=>rfl
  | some m=>
   simp only
   by_cases hb:qM (.mk 4 n nm args arms) false true (-1) 0=true
   ·by_cases hl:args.length=m.con.fields.length
    ·simp [hb,hl]
    ·simp [hb,hl]
   ·simp [hb]
def truthsD:Data:=⟨kO,[⟨⟨#[70,97,108,115,101]⟩,[]⟩,⟨⟨#[84,114,117,101]⟩,[]⟩]⟩
end Go.Sw

namespace Go.Sw
variable {P:Program} {n:Nat} {E:List (Nat×Value)} {D:List Deferred} {a:Act} {V Ψ:Fz} {K:List Res} {w:World}
variable {dst:Option Tmp} {ty:TypeId} {pos:String} {aft:Array Edge} {g:Option (Nat×Bool)}
variable {Kn:Value->World->Prop} {Qp:List PanicEntry->World->Prop}
theorem q5z:∀(m:List (Bs×Value)) (s:Bs) (j:Nat),z9m m s=match sU m s j with | none=>m | some (i,_)=>m.eraseIdx (i - j)
 | [],_,_=>rfl
 | (k,x)::m,s,j=>by
  simp only [z9m,sU]
  split
  ·simp
  ·rw [q5z m s (j+1)]
   cases N:sU m s (j+1) with
   | none=>simp
   | some p=>
    obtain ⟨i,y⟩:=p
    obtain ⟨_,h1⟩:=y5k m s (j+1) i y N
    have e:i - j=(i - (j+1))+1:=by omega
    simp only [e,List.eraseIdx_cons_succ]
theorem uJ {α β:Type} (f:α->β):∀(l:List α) (i:Nat),(l.eraseIdx i).map f=(l.map f).eraseIdx i
 | [],_=>rfl
 | _::_,0=>rfl
 | x::l,i+1=>by simp [uJ f l i]
theorem j5x (i:Nat) {t kt et t2 ty:TypeId} {b:Nat} {m:List (Bs×Value)} {s:Bs} (u:Under P t (.map kt et)) (l:Under P kt .string) (N:Mem V K w) (r:qS K i=some (.mp b m)) :
  ∃w',(Builtin.delete_ #[t,t2] ty #[.map (some b),.string s]).run P w=.ok (.tuple #[]) w'/\Mem V (pB K i (.mp b (z9m m s))) w':=by
 obtain ⟨es,clock,hb,d⟩:=N.own _ (yU r)
 have h1:(getObj b).run P w=.ok (.map es clock) w:=by simp [getObj,Sem.run,hb]
 have n:b < w.heap.size:=(Array.getElem?_eq_some_iff.1 hb).1
 have g:∀o,(setObj b o).run P w=.ok () { w with heap:=w.heap.setIfInBounds b o }:=fun o=>by simp only [setObj,Sem.run,hb]
 have fin:∀es',MapOk es' clock (z9m m s)->Mem V (pB K i (.mp b (z9m m s))) { w with heap:=w.heap.setIfInBounds b (.map es' clock) }:=fun es' h=>
  N.upd r rfl rfl (fun c v q=>by simp only;rw [Array.getElem?_setIfInBounds_ne (fun e=>q (by simp [Res.foot,e]))]) ⟨es',clock,by simp [n],h⟩ (.inl rfl)
 have a:=q5z m s 0
 cases f:sU m s 0 with
 | none=>
  rw [f] at a
  simp only at a
  refine ⟨_,?_,fin es (by rw [a];exact d)⟩
  simp [Builtin.delete_,Sem.run_bind,u w,h1,pP l,aY l d.eq,f,g]
 | some p=>
  obtain ⟨j,y⟩:=p
  rw [f] at a
  simp only [Nat.sub_zero] at a
  have hl:(es.eraseIdxIfInBounds j).toList=es.toList.eraseIdx j:=by simp
  have k:(es.toList.eraseIdx j).Sublist es.toList:=List.eraseIdx_sublist _ _
  refine ⟨_,?_,fin (es.eraseIdxIfInBounds j) ⟨by rw [hl,a,uJ,uJ,d.eq],fun e J=>d.old e (k.subset (hl▸J)),by rw [hl];exact d.nodup.sublist (k.map _)⟩⟩
  simp [Builtin.delete_,Sem.run_bind,u w,h1,pP l,aY l d.eq,f,g]
theorem y3u (i:Nat) {t kt et t2:TypeId} {x y:Operand} {b:Nat} {m:List (Bs×Value)} {s:Bs} (C:Under P t (.map kt et)) (v:Under P kt .string)
  (J:EnvR n E D a) (N:Mem V K w) (H:ev E x=some (.map (some b))) (I:ev E y=some (.string s)) (B:qS K i=some (.mp b m))
  (k:∀w',Mem V (pB K i (.mp b (z9m m s))) w'->Kn (.tuple #[]) w'):Oper.eff P ⟨dst,.call { callee:=.builtin .delete,args:=#[x,y],argTypes:=#[t,t2] },ty,pos,aft,g⟩ a w Kn Qp:=by
 obtain ⟨es,clock,hb,f⟩:=N.own _ (yU B)
 have h1:(getObj b).run P w=.ok (.map es clock) w:=by simp [getObj,Sem.run,hb]
 have z:b < w.heap.size:=(Array.getElem?_eq_some_iff.1 hb).1
 have q:∀o,(setObj b o).run P w=.ok () { w with heap:=w.heap.setIfInBounds b o }:=fun o=>by simp only [setObj,Sem.run,hb]
 have fin:∀es',MapOk es' clock (z9m m s)->Mem V (pB K i (.mp b (z9m m s))) { w with heap:=w.heap.setIfInBounds b (.map es' clock) }:=fun es' h=>
  N.upd B rfl rfl (fun c L A=>by simp only;rw [Array.getElem?_setIfInBounds_ne (fun e=>A (by simp [Res.foot,e]))]) ⟨es',clock,by simp [z],h⟩ (.inl rfl)
 have d:=q5z m s 0
 have u:∃es',MapOk es' clock (z9m m s)/\(Builtin.delete_ #[t,t2] ty #[.map (some b),.string s]).run P w=.ok (.tuple #[]) { w with heap:=w.heap.setIfInBounds b (.map es' clock) }:=by
  cases l:sU m s 0 with
  | none=>
   rw [l] at d
   simp only at d
   refine ⟨es,by rw [d];exact f,?_⟩
   simp [Builtin.delete_,Sem.run_bind,C w,h1,pP v,aY v f.eq,l,q]
  | some p=>
   obtain ⟨j,y⟩:=p
   rw [l] at d
   simp only [Nat.sub_zero] at d
   refine ⟨es.eraseIdxIfInBounds j,?_,?_⟩
   ·have hl:(es.eraseIdxIfInBounds j).toList=es.toList.eraseIdx j:=by simp
    have r:(es.toList.eraseIdx j).Sublist es.toList:=List.eraseIdx_sublist _ _
    refine ⟨?_,fun e J=>f.old e (r.subset (hl▸J)),?_⟩
    ·rw [hl,d,uJ,uJ,f.eq]
    ·rw [hl];exact f.nodup.sublist (r.map _)
   ·simp [Builtin.delete_,Sem.run_bind,C w,h1,pP v,aY v f.eq,l,q]
 obtain ⟨es',F,G⟩:=u
 unfold Oper.eff
 have:(execOp a.eval ⟨dst,.call { callee:=.builtin .delete,args:=#[x,y],argTypes:=#[t,t2] },ty,pos,aft,g⟩).run P w=.ok (.value (.tuple #[])) { w with heap:=w.heap.setIfInBounds b (.map es' clock) }:=by
  simp only [execOp,resolve,invoke,builtin,Sem.run_bind,Sem.run_pure,Result.andThen_ok,List.map_toArray,List.map_cons,List.map_nil,J.ev H,J.ev I,G]
 rw [this]
 exact k _ (fin _ F)
end Go.Sw

namespace Go.Sw
theorem vC {e:Ex} {a b:Bool} {n:Nat} {r:Int} (h:qM e a b (n:Int) r=true):e.args.length=n:=by
 simp only [qM,baQ,Bool.or_eq_true,decide_eq_true_eq] at h
 omega
theorem jG {T:Table} {l:List Ex} {x:Ex} {s:Scope} (h:l[0]? = some x):firstP T l s=zG T x s:=by
 cases l with
 | nil=>simp at h
 | cons y l=>simp only [List.getElem?_cons_zero,Option.some.injEq] at h;subst h;rfl
def xH (T:Table) (e:Ex) (s:Scope):Bs×Scope :=
 if qM e false false 1 (-1)=true then
  match zJ T.datas (firstP T e.args s).1 with
  | none=>(sNo,(firstP T e.args s).2)
  | some d=>if d.cons.length=e.arms.length then splitP T e.arms d.cons true sNo (firstP T e.args s).2 else (sNo,(firstP T e.args s).2)
 else (sNo,s)
def nU (T:Table) (a:Arm) (c:Con) (s:Scope):Bs×Scope:=((zG T a.body (putAll s a.vars c.fields)).1,sE (zG T a.body (putAll s a.vars c.fields)).2 a.vars)
theorem jE (T:Table) (a:Arm) (az:List Arm) (c:Con) (cs:List Con) (first:Bool) (out:Bs) (s:Scope):splitP T (a::az) (c::cs) first out s =
  if a.con≠c.name∨a.vars.length≠c.fields.length then (sNo,s) else
  if (nU T a c s).1=sNo∨(first=false/\(nU T a c s).1≠out) then (sNo,(nU T a c s).2)
  else splitP T az cs false (nU T a c s).1 (nU T a c s).2:=by
 cases a;rfl
theorem aW (s:Scope) (v:Bs) (vs:List Bs) (f:Bs) (fs:List Bs):putAll s (v::vs) (f::fs)=putAll (pD s v f) vs fs:=rfl
theorem xU (s:Scope) (fs:List Bs):putAll s [] fs=s:=by cases fs <;> rfl
end Go.Sw

namespace Go.Sw
variable {P:Program}
theorem z5r {fr:Frame} {cs:List Frame} {w w':World} {d:Deferred} {ds:List Deferred} {b:Builtin} {ts:Array TypeId} {ty:TypeId} {k:Array Bool} {v:Value}
  (N:fr.mode≠.run) (f:fr.defers=d::ds) (g:d.target=.builtin b ts ty k) (e:(invoke d.target d.args).run P w=.ok (.value v) w') :
  step P (lone fr cs w)=.next (lone { fr with defers:=ds } cs w'):=by
 obtain ⟨t,a⟩:=d
 simp only at g e
 subst g
 refine step_lone_go ?_
 cases c:fr.mode with
 | run=>exact absurd c N
 | returning=>simp [stepG,unwind,callDeferred,c,f,e]
 | panicking chain=>simp [stepG,unwind,callDeferred,c,f,e]
def j8x (P:Program) (fn:Func) (R:Ending->World->Prop):Exit->Act->World->Prop
 | .ret,a,w=>(a.defers=[]/\∃x,(results fn a.tmps).run P w=.ok x w/\R (.returned x) w) ∨
   ∃d b ts ty k v w',a.defers=[d]/\d.target=.builtin b ts ty k/\(invoke d.target d.args).run P w=.ok (.value v) w'/\∃x,(results fn a.tmps).run P w'=.ok x w'/\R (.returned x) w'
 | _,_,_=>False
theorem y3f {f:FuncId} {fn:Func} {c:Code} {args:Array Value} {w:World} {R:Ending->World->Prop} (j:P.funcs[f]? = some fn) (hb:fn.body=some c)
  (h:c.wp P (j8x P fn R) { tmps:=args++Array.replicate (fn.ntmps - args.size) undef,defers:=[] } w):Calls P f args w R:=by
 intro cs
 let b:Frame:={ (default:Frame) with fn:=f,kind:=.normal }
 have henter:Frame.enter P f args .normal=b.at { tmps:=args++Array.replicate (fn.ntmps - args.size) undef,defers:=[] } [.code c]:=by
  simp [Frame.enter,Frame.at,j,hb,b]
 obtain ⟨e,a',w',hq,a⟩:=h b [] cs
 rw [<- henter] at a
 cases e with
 | ret=>
  obtain ⟨todo,O⟩:=a
  rcases hq with ⟨i,x,hr,g⟩ | ⟨d,bb,ts,ty,k,v,w'',i,n,m,x,hr,g⟩
  ·exact ⟨.returned x,w',_,g,O,rfl,rfl,i,rfl,fn,j,hr⟩
  ·have h1:=z5r (fr:={ b.at a' todo with mode:=.returning }) (cs:=cs) (by simp) i n m
   exact ⟨.returned x,w'',_,g,Steps.trans O (.one h1),rfl,rfl,rfl,rfl,fn,j,hr⟩
 | normal=>exact hq.elim
 | panic chain=>exact hq.elim
 | exit id=>exact hq.elim
 | goto l=>exact hq.elim
 | outgrown=>exact hq.elim
theorem enterB {n:Nat} {w:World} {f:FuncId} {fn:Func} {c:Code} {vs:List Value} {R:Ending->World->Prop} (g:P.funcs[f]? = some fn) (hb:fn.body=some c) (i:fn.ntmps=n) (hl:Nat.ble vs.length n=true)
  (k:∀Q:Exit->Act->World->Prop,(∀e a w,j8x P fn R e a w->Q e a w)->∀a,EnvR n (oD 0 vs) [] a->c.wp P Q a w):Calls P f vs.toArray w R:=by
 have hl':vs.length<=n:=by simpa using hl
 refine y3f g hb (k _ (fun _ _ _ h=>h) _ ⟨by simp [i];omega,fun t v j=>?_,rfl⟩)
 obtain ⟨_,b⟩:=gI vs 0 t v j
 simp only [Nat.sub_zero] at b
 have d:t < vs.length:=(List.getElem?_eq_some_iff.1 b).1
 simp only [List.getElem?_toArray,Array.getElem?_append,List.size_toArray,d,↓reduceIte]
 exact b
section
variable {n:Nat} {E:List (Nat×Value)} {D:List Deferred} {a:Act} {w:World} {ops:Array Oper} {rest:List Oper} {Q:Exit->Act->World->Prop} {ty:TypeId} {pos:String} {aft:Array Edge}
theorem z9p {b:Builtin} {xs:Array Operand} {ts:Array TypeId} {vs:List Value} (J:EnvR n E D a) (d:evs E xs.toList=some vs)
  (k:∀a fl,EnvR n E ({ target:=.builtin b ts ty fl,args:=vs.toArray }::D) a->wpList P ops Q rest a w) :
  wpList P ops Q (⟨none,.defer { callee:=.builtin b,args:=xs,argTypes:=ts },ty,pos,aft,none⟩::rest) a w:=by
 refine wpList_plain rfl fun L c=>?_
 unfold Oper.wp
 simp only [execOp,resolve,J.evsA d]
 exact c _ _ (k _ _ ⟨J.size,J.env,congrArg (List.cons _) J.defs⟩)
end
section
variable {n:Nat} {E:List (Nat×Value)} {a:Act} {w:World} {V:Fz} {K:List Res}
theorem ret1B {fn:Func} {R:Ending->World->Prop} {t:Nat} {v:Value} (J:EnvR n E [] a) (hr:fn.results=#[.tmp t]) (b:get E t=some v) (h:R (.returned v) w):j8x P fn R .ret a w :=
 .inl ⟨J.defs,v,by simp [results,hr,Array.getD_eq_getD_getElem?,J.env t v b],h⟩
theorem q6l (i:Nat) {fn:Func} {R:Ending->World->Prop} {t:Nat} {v:Value} {tm kt et t2 ty:TypeId} {fl:Array Bool} {b:Nat} {m:List (Bs×Value)} {s:Bs} (f:Under P tm (.map kt et)) (e:Under P kt .string)
  (J:EnvR n E [⟨.builtin .delete #[tm,t2] ty fl,#[.map (some b),.string s]⟩] a) (hr:fn.results=#[.tmp t]) (g:get E t=some v) (N:Mem V K w) (d:qS K i=some (.mp b m))
  (h:∀w',Mem V (pB K i (.mp b (z9m m s))) w'->R (.returned v) w'):j8x P fn R .ret a w:=by
 obtain ⟨w',h1,c⟩:=j5x (t2:=t2) (ty:=ty) i f e N d (s:=s)
 exact .inr ⟨_,_,_,_,_,_,w',J.defs,rfl,(by simp only [invoke,builtin,Sem.run_bind,h1];rfl),v,by simp [results,hr,Array.getD_eq_getD_getElem?,J.env t v g],h w' c⟩
end
def z1p (T:Table) (e:Ex) (s:Scope):Bs×Scope:=if qM e false true 2 0=true then letP T e.name e.args s else (sNo,s)
theorem z4a {T:Table} {nm:Bs} {l:List Ex} {x:Ex} {s:Scope} (h:l[0]? = some x) (a:(zG T x s).1=sNo):letP T nm l s=(sNo,(zG T x s).2):=by
 cases l with
 | nil=>simp at h
 | cons y l=>simp only [List.getElem?_cons_zero,Option.some.injEq] at h;subst h;simp only [letP];rw [if_pos a]
theorem sM {T:Table} {nm:Bs} {l:List Ex} {x y:Ex} {s:Scope} (h:l[0]? = some x) (h1:l[1]? = some y) (a:¬(zG T x s).1=sNo) :
  letP T nm l s=((zG T y (pD (zG T x s).2 nm (zG T x s).1)).1,y2d (zG T y (pD (zG T x s).2 nm (zG T x s).1)).2 nm):=by
 cases l with
 | nil=>simp at h
 | cons z l=>
  simp only [List.getElem?_cons_zero,Option.some.injEq] at h;subst h
  simp only [letP];rw [if_neg a]
  simp only [List.getElem?_cons_succ] at h1
  rw [jG h1]
end Go.Sw

namespace Go.Sw
open Go.Proofs
def z6h:Nat->Nat->List UInt8
 | 0,_=>[]
 | f+1,n=>if n < 10 then [(48+n).toUInt8] else (48+n % 10).toUInt8::z6h f (n / 10)
def q8x (n:Nat):List UInt8:=(z6h (n+1) n).reverse
def y0v (i:Int):List UInt8:=if i < 0 then 45::q8x (-i).toNat else q8x i.toNat
def z2f (n:Int):Bs:=⟨(Lib.itoa n).toArray⟩
def y6e (s old new:Bs):Bs:=⟨(Lib.replace s.data.toList old.data.toList new.data.toList 1).toArray⟩
def z1e (s:Bs):Except Unit Int:=match Lib.atoiAll s.data.toList with
 | .ok v=>.ok v
 | _=>.error ()
def z6g (n:Int):Bs:=y6e (z2f n) ⟨#[45]⟩ ⟨#[126]⟩
def z0n (s:Bs):Option Int:=match z1e (y6e s ⟨#[126]⟩ ⟨#[45]⟩) with
 | .ok v=>if z6g v=s then some v else none
 | .error _=>none
def z0e (s:Bs):Option Int:=match z1e s with
 | .ok v=>if z2f v=s then some v else none
 | .error _=>none
def wH (t:Bs) (pos:Nat):Nat:=if zH t pos=126 then 1 else 0
def kV (t:Bs) (pos:Nat):Nat:=yV yC t t.size (pos+wH t pos)
def cS (t:Bs) (pos:Nat):Bs:=t.extract pos (pos+(wH t pos+kV t pos))
def z2t (t:Bs) (pos:Nat):Except (Nat×Int) Tok :=
 match z0n (cS t pos) with
 | none=>.error (pos,13)
 | some v=>
  if yT (zH t (pos+(wH t pos+kV t pos)))=true∨zH t (pos+(wH t pos+kV t pos))=39 then .error (pos,13)
  else .ok ⟨1,v,cS t pos,pos⟩
def y6p (c:Nat):Bool:=[40,41,44,59,58,124,61,60,43,45,42,47,37,95].contains c
def yA (t:Bs) (pos:Nat):Except (Nat×Int) Tok :=
 if yC (zH t pos)=true∨zH t pos=126 then z2t t pos
 else if qT (zH t pos)=true then wD t pos 2
 else if qZ (zH t pos)=true then wD t pos 3
 else if zH t pos=39/\qT (zH t (pos+1))=true then wS t pos 4 (1+yV yT t t.size (pos+1))
 else if wF (t.extract pos t.size) ⟨#[61,62]⟩=true∨wF (t.extract pos t.size) ⟨#[45,62]⟩=true then wS t pos 6 2
 else if y6p (zH t pos)=true then wS t pos 6 1
 else .error (pos,11)
def hY (t:Bs):Nat->Nat->Except (Nat×Int) (List Tok)
 | 0,_=>.ok []
 | f+1,i=>
  match dD t i with
  | .error c=>.error c
  | .ok q=>if q < t.size then
    match yA t q with
    | .error c=>.error c
    | .ok k=>match hY t f (q+k.text.size) with
     | .error c=>.error c
     | .ok l=>.ok (k::l)
   else .ok []
def cE (t:Bs):Except (Nat×Int) (List Tok):=hY t (t.size+1) 0
def wR (s:Bs):Int :=
 if 24 < s.size then 0 else
 match cE s with
 | .ok [k]=>if k.text=s then k.kind else 0
 | _=>0
def qO (s:Bs):Bool:=decide (wR s=2)
def qL (s:Bs):Bool:=decide (wR s=3)
end Go.Sw

namespace Go.Sw
mutual
def xL:Val->Int->Bool×Int
 | .mk _ _ args,l=>if IntKind.i64.wrap (l - 1) < 0 then (true,IntKind.i64.wrap (l - 1)) else larges args (IntKind.i64.wrap (l - 1))
def larges:List Val->Int->Bool×Int
 | [],l=>(false,l)
 | v::vs,l=>match xL v l with
  | (true,q)=>(true,q)
  | (false,q)=>larges vs q
end
def vX (v:Val):Bool:=(xL v 4000).1
mutual
def mR (T:Table):Val->Bs->Bool
 | .mk con num args,name=>
  if con=sNo∨name=yH then decide (con=sNo)&&decide (name=yH)&&decide (args.length=0)
  else match zJ T.cons con with
   | none=>false
   | some m=>decide (m.data=name)&&decide (num=0)&&decide (m.con.fields.length=args.length)&&hasL T args m.con.fields
def hasL (T:Table):List Val->List Bs->Bool
 | [],_=>true
 | v::vs,fs=>mR T v (fs.headD sNo)&&hasL T vs fs.tail
end
def kL (T:Table):List Named->List Param->Bool
 | [],[]=>true
 | v::vs,p::ps=>decide (v.name=p.name) && !vX v.value&&mR T v.value p.type&&kL T vs ps
 | _,_=>false
def nC (T:Table):List Val->List Param->Bool
 | [],[]=>true
 | v::vs,p::ps=> !vX v&&mR T v p.type&&nC T vs ps
 | _,_=>false
inductive Ev (α:Type) where
 | ok (x:α) (g:Nat)
 | spent
 | stuck
abbrev Env:=List (Bs×Val)
def v0:Val:=.mk sNo 0 []
def gQ (n:Int):Val:=.mk sNo n []
def nT:Bs:=⟨#[84,114,117,101]⟩
def kR:Bs:=⟨#[70,97,108,115,101]⟩
def pY (b:Bool):Val:=.mk (if b then nT else kR) 0 []
def yJ (op:Bs) (a b:Int):Val :=
 if op=⟨#[43]⟩ then gQ (IntKind.i64.wrap (a+b))
 else if op=⟨#[45]⟩ then gQ (IntKind.i64.wrap (a - b))
 else if op=⟨#[42]⟩ then gQ (IntKind.i64.wrap (a * b))
 else if op=⟨#[60]⟩ then pY (decide (a < b))
 else if op=⟨#[61]⟩ then pY (decide (a=b))
 else if b=0 then v0
 else if op=⟨#[47]⟩ then gQ (IntKind.i64.wrap (a.tdiv b))
 else gQ (a.tmod b)
structure Ctx where
 funs:List (Bs×Fun)
 inp:List (Bs×Val)
def Ev.bind {α β:Type} (r:Ev α) (f:α->Nat->Ev β):Ev β:=match r with
 | .ok x g=>f x g
 | .spent=>.spent
 | .stuck=>.stuck
def jZ (ev:Nat->Ex->Env->Ev Val) (env:Env):List Ex->Nat->Ev (List Val)
 | [],g=>.ok [] g
 | e::es,g=>(ev g e env).bind fun v g=>(jZ ev env es g).bind fun l g=>.ok (v::l) g
def mU:List Bs->List Val->Env->Option Env
 | [],_,env=>some env
 | n::ns,a::az,env=>mU ns az ((n,a)::env)
 | _::_,[],_=>none
def nX (ev:Nat->Ex->Env->Ev Val) (names:List Bs) (args:List Val) (env:Env) (body:Ex) (g:Nat):Ev Val :=
 match mU names args env with
 | none=>.stuck
 | some env=>ev g body env
def xC (ev:Nat->Ex->Env->Ev Val) (f:Fun) (args:List Val) (g:Nat):Ev Val:=nX ev (f.params.map Param.name) args [] f.body g
def vA:List Arm->Bs->Option Arm
 | [],_=>none
 | a::az,c=>if a.con=c then some a else vA az c
def xE (ev:Nat->Ex->Env->Ev Val) (C:Ctx) (g:Nat) (e:Ex) (env:Env):Ev Val :=
 if e.kind=1 then .ok (gQ e.num) g
 else if e.kind=2 then .ok ((zJ env e.name).getD v0) g
 else if e.kind=3 then .ok ((zJ C.inp e.name).getD v0) g
 else if e.kind=4 then (jZ ev env e.args g).bind fun l g=>.ok (.mk e.name 0 l) g
 else if e.kind=5 then match zJ C.funs e.name with
  | none=>.stuck
  | some f=>(jZ ev env e.args g).bind fun l g=>xC ev f l g
 else if e.kind=6 then match e.args with
  | a::b::_=>(ev g a env).bind fun x g=>ev g b ((e.name,x)::env)
  | _=>.stuck
 else if e.kind=7 then match e.args with
  | a::_=>(ev g a env).bind fun x g=>match vA e.arms x.con with
   | none=>.stuck
   | some m=>nX ev m.vars x.args env m.body g
  | _=>.stuck
 else if e.kind=8 then (jZ ev env e.args g).bind fun l g=>match l with
  | a::b::_=>if opT e.name=sNo then .stuck else .ok (yJ e.name a.num b.num) g
  | _=>.stuck
 else .stuck
def z1h (C:Ctx):Nat->Nat->Ex->Env->Ev Val
 | 0,_,_,_=>.spent
 | _+1,0,_,_=>.spent
 | n+1,g+1,e,env=>xE (z1h C n) C g e env
def yM (C:Ctx) (g:Nat) (e:Ex) (env:Env):Ev Val:=z1h C (g+1) g e env
def z5y (ev:Nat->Ex->Env->Ev Val):Prop:=∀g e env v g',ev g e env=.ok v g'->g' < g
theorem Ev.bind_ok {α β:Type} {r:Ev α} {f:α->Nat->Ev β} {y:β} {g:Nat} (h:r.bind f=.ok y g):∃x g1,r=.ok x g1/\f x g1=.ok y g:=by
 cases r with
 | ok x g1=>exact ⟨x,g1,rfl,h⟩
 | spent=>cases h
 | stuck=>cases h
theorem gL {ev:Nat->Ex->Env->Ev Val} (a:z5y ev) {env:Env}:∀{l:List Ex} {g g':Nat} {vs:List Val},jZ ev env l g=.ok vs g'->g'<=g
 | [],g,g',vs,h=>by simp only [jZ,Ev.ok.injEq] at h;omega
 | e::es,g,g',vs,h=>by
  obtain ⟨v,g1,h1,b⟩:=Ev.bind_ok h
  obtain ⟨w,f,c,d⟩:=Ev.bind_ok b
  have:=a _ _ _ _ _ h1
  have:=gL a c
  simp only [Ev.ok.injEq] at d
  omega
theorem z1s {ev:Nat->Ex->Env->Ev Val} (a:z5y ev) {ns:List Bs} {az:List Val} {env:Env} {b:Ex} {g g':Nat} {v:Val} (h:nX ev ns az env b g=.ok v g'):g' < g:=by
 unfold nX at h
 split at h
 ·cases h
 ·exact a _ _ _ _ _ h
theorem y6u {ev:Nat->Ex->Env->Ev Val} (b:z5y ev) {C:Ctx} {g g':Nat} {e:Ex} {env:Env} {v:Val} (h:xE ev C g e env=.ok v g'):g'<=g:=by
 unfold xE at h
 split at h
 ·simp only [Ev.ok.injEq] at h;omega
 split at h
 ·simp only [Ev.ok.injEq] at h;omega
 split at h
 ·simp only [Ev.ok.injEq] at h;omega
 split at h
 ·obtain ⟨l,g1,h1,a⟩:=Ev.bind_ok h
  have:=gL b h1
  simp only [Ev.ok.injEq] at a;omega
 split at h
 ·split at h
  ·cases h
  ·obtain ⟨l,g1,h1,a⟩:=Ev.bind_ok h
   have:=gL b h1
   have:=z1s b a;omega
 split at h
 ·split at h
  ·obtain ⟨l,g1,h1,a⟩:=Ev.bind_ok h
   have:=b _ _ _ _ _ h1
   have:=b _ _ _ _ _ a
   omega
  ·cases h
 split at h
 ·split at h
  ·obtain ⟨l,g1,h1,a⟩:=Ev.bind_ok h
   have:=b _ _ _ _ _ h1
   split at a
   ·cases a
   ·have:=z1s b a;omega
  ·cases h
 split at h
 ·obtain ⟨l,g1,h1,a⟩:=Ev.bind_ok h
  have:=gL b h1
  split at a
  ·split at a
   ·cases a
   ·simp only [Ev.ok.injEq] at a;omega
  ·cases a
 ·cases h
theorem sY (C:Ctx):∀n,z5y (z1h C n)
 | 0=>fun g e env v g' h=>by cases h
 | n+1=>fun g e env v g' h=>by
  cases g with
  | zero=>cases h
  | succ g=>have:=y6u (sY C n) (show xE (z1h C n) C g e env=.ok v g' from h);omega
def Agree (G:Nat) (ev ev':Nat->Ex->Env->Ev Val):Prop:=∀g e env,g < G->ev g e env=ev' g e env
theorem z1z {G:Nat} {ev ev':Nat->Ex->Env->Ev Val} (a:Agree G ev ev') (b:z5y ev) {env:Env}:∀{l:List Ex} {g:Nat},g < G->jZ ev env l g=jZ ev' env l g
 | [],_,_=>rfl
 | e::es,g,c=>by
  simp only [jZ]
  rw [<- a g e env c]
  cases h:ev g e env with
  | ok v g1=>
   have:=b _ _ _ _ _ h
   simp only [Ev.bind]
   rw [z1z a b (by omega)]
  | spent=>rfl
  | stuck=>rfl
theorem y0k {G:Nat} {ev ev':Nat->Ex->Env->Ev Val} (a:Agree G ev ev') {ns:List Bs} {az:List Val} {env:Env} {b:Ex} {g:Nat} (c:g < G):nX ev ns az env b g=nX ev' ns az env b g:=by
 unfold nX
 split
 ·rfl
 ·exact a _ _ _ c
theorem y1k {G:Nat} {ev ev':Nat->Ex->Env->Ev Val} (c:Agree G ev ev') (d:z5y ev) (C:Ctx) {g:Nat} (e:Ex) (env:Env) (i:g < G):xE ev C g e env=xE ev' C g e env:=by
 have hb:∀{α β:Type} (r:Ev α) (f f':α->Nat->Ev β),(∀x g1,r=.ok x g1->f x g1=f' x g1)->r.bind f=r.bind f':=by
  intro α β r f f' h
  cases r with
  | ok x g1=>exact h x g1 rfl
  | spent=>rfl
  | stuck=>rfl
 unfold xE
 rw [z1z c d i]
 have j:∀{l g1},jZ ev' env e.args g=.ok l g1->g1 < G:=fun h=>by
  rw [<- z1z c d i] at h
  have:=gL d h;omega
 congr 4
 congr 1
 ·split
  ·rfl
  ·refine hb _ _ _ fun l g1 h=>?_
   exact y0k c (j h)
 congr 1
 ·split
  ·rename_i a b _ _
   rw [<- c g a env i]
   refine hb _ _ _ fun x g1 h=>?_
   have:=d _ _ _ _ _ h
   exact c _ _ _ (by omega)
  ·rfl
 congr 1
 ·split
  ·rename_i a _ _
   rw [<- c g a env i]
   refine hb _ _ _ fun x g1 h=>?_
   have:=d _ _ _ _ _ h
   split
   ·rfl
   ·exact y0k c (by omega)
  ·rfl
theorem y3z (C:Ctx):∀(n m g:Nat) (e:Ex) (env:Env),g < n->g < m->z1h C n g e env=z1h C m g e env
 | 0,_,_,_,_,h,_=>by omega
 | _+1,0,_,_,_,_,h=>by omega
 | n+1,m+1,0,e,env,_,_=>rfl
 | n+1,m+1,g+1,e,env,h,h'=>by
  simp only [z1h]
  exact y1k (G:=g+1) (fun g1 b a h1=>y3z C n m g1 b a (by omega) (by omega)) (sY C n) C e env (by omega)
theorem q9a (C:Ctx) {n g:Nat} (h:g < n) (e:Ex) (env:Env):z1h C n g e env=yM C g e env:=y3z C n (g+1) g e env h (by omega)
theorem dP (C:Ctx) (e:Ex) (env:Env):yM C 0 e env=.spent:=rfl
theorem zT (C:Ctx) (g:Nat) (e:Ex) (env:Env):yM C (g+1) e env=xE (yM C) C g e env :=
 y1k (G:=g+1) (ev:=z1h C (g+1)) (ev':=yM C) (fun g1 b a h1=>q9a C h1 b a) (sY C (g+1)) C e env (by omega)
theorem yF (C:Ctx):z5y (yM C):=fun g e env v g' h=>sY C (g+1) g e env v g' h
def jI (C:Ctx):List Bs->Nat->Ev (List Val)
 | [],g=>.ok [] g
 | o::os,g=>match zJ C.funs o with
  | none=>.stuck
  | some f=>(xC (yM C) f [] g).bind fun v g=>(jI C os g).bind fun l g=>.ok (v::l) g
mutual
def zY:Ex->List Bs
 | .mk k _ s args arms=>(if k=5 then [s] else [])++calledPs args++calledPa arms
def calledPs:List Ex->List Bs
 | []=>[]
 | e::es=>zY e++calledPs es
def calledPa:List Arm->List Bs
 | []=>[]
 | .mk _ _ b::es=>zY b++calledPa es
end
theorem mW (e:Ex):zY e=(if e.kind=5 then [e.name] else [])++calledPs e.args++calledPa e.arms:=by
 cases e;simp only [zY,Ex.args,Ex.arms];rfl
theorem mA (a:Arm) (es:List Arm):calledPa (a::es)=zY a.body++calledPa es:=by
 cases a;rfl
def y6o (c:Nat):Bool:=decide (c=32) || decide (c=10) || decide (c=40) || decide (c=41)
def yZ (t:Bs) (i:Nat):Nat:=yV (fun c=> !y6o c) t t.size i
def kS (t:Bs):Nat->Nat->List Bs
 | 0,_=>[]
 | f+1,i=>if i < t.size then
   if zH t i=32∨zH t i=10 then kS t f (i+1)
   else if zH t i=40∨zH t i=41 then t.extract i (i+1)::kS t f (i+1)
   else t.extract i (i+yZ t i)::kS t f (i+yZ t i)
  else []
def tV (t:Bs):List Bs:=kS t t.size 0
def zD (ws:List Bs) (i:Nat):Bs:=ws.getD i sNo
abbrev Rd (α:Type):=Except Nat (α×Nat)
def qA {α β:Type} (r:Rd α) (f:α->Nat->Rd β):Rd β:=match r with
 | .ok (x,i)=>f x i
 | .error n=>.error n
def aC (ws:List Bs) (p:Bs->Bool) (i:Nat):Rd Bs:=if zD ws i=sNo∨p (zD ws i)=false then .error (i+1) else .ok (zD ws i,i+1)
def pJ (ws:List Bs) (w:Bs) (i:Nat):Rd Unit:=qA (aC ws (fun s=>decide (s=w)) i) fun _ i=>.ok ((),i)
def z0t (ws:List Bs) (i:Nat):Rd Bs:=aC ws qL i
def cV (ws:List Bs) (i:Nat):Rd Bs:=aC ws qO i
def oR:Bs:=⟨#[40]⟩
def sCls:Bs:=⟨#[41]⟩
def y6k:Bs:=⟨#[45,62]⟩
def sEq:Bs:=⟨#[61]⟩
def sBar:Bs:=⟨#[124]⟩
def j6b:Bs:=⟨#[58]⟩
def sLet:Bs:=⟨#[108,101,116]⟩
def sCase:Bs:=⟨#[99,97,115,101]⟩
def pC (ws:List Bs) (ex:Nat->Rd Ex):Nat->Nat->Nat->Rd (List Ex)
 | 0,_,i=>.error (i+1)
 | f+1,least,i=>if 0 < least∨zD ws i≠sCls then qA (ex i) fun e i=>qA (pC ws ex f (least - 1) i) fun l i=>.ok (e::l,i)
  else .ok ([],i)
def z7t (ex:Nat->Rd Ex) (i:Nat):Rd (List Ex):=qA (ex i) fun a i=>qA (ex i) fun b i=>.ok ([a,b],i)
def oA (ws:List Bs):Nat->Nat->Rd (List Bs)
 | 0,i=>.error (i+1)
 | f+1,i=>if zD ws i≠y6k then qA (cV ws i) fun s i=>qA (oA ws f i) fun l i=>.ok (s::l,i) else .ok ([],i)
def armP (ws:List Bs) (ex:Nat->Rd Ex) (i:Nat):Rd Arm :=
 qA (pJ ws oR i) fun _ i=>qA (z0t ws i) fun c i=>qA (oA ws (ws.length+1) i) fun vs i=>
  qA (pJ ws y6k i) fun _ i=>qA (ex i) fun b i=>qA (pJ ws sCls i) fun _ i=>.ok (.mk c vs b,i)
def sC (ws:List Bs) (ex:Nat->Rd Ex):Nat->Bool->Nat->Rd (List Arm)
 | 0,_,i=>.error (i+1)
 | f+1,first,i=>if first=true∨zD ws i=oR then qA (armP ws ex i) fun a i=>qA (sC ws ex f false i) fun l i=>.ok (a::l,i)
  else .ok ([],i)
def z1j (s:Bs):Bool:=decide (s=⟨#[43]⟩) || decide (s=⟨#[45]⟩) || decide (s=⟨#[42]⟩) || decide (s=⟨#[47]⟩) || decide (s=⟨#[37]⟩) || decide (s=⟨#[60]⟩) || decide (s=⟨#[61]⟩)
def qD (ws:List Bs) (ex:Nat->Rd Ex) (i:Nat):Rd Ex :=
 if z1j (zD ws i)=true then qA (z7t ex (i+1)) fun l j=>.ok (.mk 8 0 (zD ws i) l [],j)
 else if zD ws i=sLet then qA (cV ws (i+1)) fun x j=>qA (z7t ex j) fun l j=>.ok (.mk 6 0 x l [],j)
 else if zD ws i=sCase then qA (ex (i+1)) fun a j=>qA (sC ws ex (ws.length+1) true j) fun l j=>.ok (.mk 7 0 sNo [a] l,j)
 else if qL (zD ws i)=true then qA (pC ws ex (ws.length+1) 1 (i+1)) fun l j=>.ok (.mk 4 0 (zD ws i) l [],j)
 else qA (cV ws i) fun x j=>qA (pC ws ex (ws.length+1) 0 j) fun l j=>.ok (.mk 5 0 x l [],j)
def zW (ws:List Bs):Nat->Nat->Rd Ex
 | 0,i=>.error (i+1)
 | d+1,i=>if zD ws i=sNo then .error (i+1) else
  match z0e (zD ws i) with
  | some n=>.ok (.mk 1 n sNo [] [],i+1)
  | none=>
   if zD ws i=oR then qA (qD ws (zW ws d) (i+1)) fun e j=>qA (pJ ws sCls j) fun _ j=>.ok (e,j)
   else if qL (zD ws i)=true then .ok (.mk 4 0 (zD ws i) [] [],i+1)
   else if zH (zD ws i) 0=33/\qO ((zD ws i).extract 1 (zD ws i).size)=true then .ok (.mk 3 0 ((zD ws i).extract 1 (zD ws i).size) [] [],i+1)
   else qA (cV ws i) fun x j=>.ok (.mk 2 0 x [] [],j)
def kX (ws:List Bs):Nat->Nat->Rd (List Bs)
 | 0,i=>.error (i+1)
 | f+1,i=>if qL (zD ws i)=true then qA (z0t ws i) fun s i=>qA (kX ws f i) fun l i=>.ok (s::l,i) else .ok ([],i)
def sD (ws:List Bs):Nat->Nat->Rd (List Con)
 | 0,i=>.error (i+1)
 | f+1,i=>qA (z0t ws i) fun n i=>qA (kX ws (ws.length+1) i) fun l i=>
   if zD ws i≠sBar then .ok ([⟨n,l⟩],i) else qA (sD ws f (i+1)) fun cs i=>.ok (⟨n,l⟩::cs,i)
def gK (ws:List Bs) (i:Nat):Rd Data:=qA (z0t ws i) fun n i=>qA (pJ ws sEq i) fun _ i=>qA (sD ws (ws.length+1) i) fun l i=>.ok (⟨n,l⟩,i)
def pO (ws:List Bs) (i:Nat):Rd Param:=qA (cV ws i) fun n i=>qA (pJ ws j6b i) fun _ i=>qA (z0t ws i) fun t i=>.ok (⟨n,t⟩,i)
def wV (ws:List Bs):Nat->Nat->Rd (List Param)
 | 0,i=>.error (i+1)
 | f+1,i=>if zD ws i=oR then qA (pO ws (i+1)) fun p i=>qA (pJ ws sCls i) fun _ i=>qA (wV ws f i) fun l i=>.ok (p::l,i)
  else .ok ([],i)
def sG (ws:List Bs) (i:Nat):Rd Fun:=qA (cV ws i) fun n i=>qA (wV ws (ws.length+1) i) fun ps i=>qA (pJ ws j6b i) fun _ i=>
 qA (z0t ws i) fun r i=>qA (pJ ws sEq i) fun _ i=>qA (zW ws 250 i) fun b i=>.ok (⟨n,ps,r,b⟩,i)
def z4o:Bs:=⟨#[100,97,116,97]⟩
def z2g:Bs:=⟨#[105,110,112,117,116]⟩
def kFun:Bs:=⟨#[102,117,110]⟩
def y2k:Bs:=⟨#[111,117,116,112,117,116]⟩
def jK (ws:List Bs):Nat->Core->Nat->Except Nat Core
 | 0,_,i=>.error (i+1)
 | f+1,c,i=>if i < ws.length then
   if zD ws i=z4o then match gK ws (i+1) with
    | .ok (d,j)=>jK ws f { c with datas:=c.datas++[d] } j
    | .error n=>.error n
   else if zD ws i=z2g then match pO ws (i+1) with
    | .ok (d,j)=>jK ws f { c with inputs:=c.inputs++[d] } j
    | .error n=>.error n
   else if zD ws i=kFun then match sG ws (i+1) with
    | .ok (d,j)=>jK ws f { c with funs:=c.funs++[d] } j
    | .error n=>.error n
   else if zD ws i=y2k then match cV ws (i+1) with
    | .ok (d,j)=>jK ws f { c with outputs:=c.outputs++[d] } j
    | .error n=>.error n
   else .error (i+1)
  else .ok c
def z1k (t:Bs):Except Nat Core:=jK (tV t) ((tV t).length+1) ⟨[],[],[],[]⟩ 0
abbrev Tx:=List UInt8
def tx (s:Bs):Tx:=s.data.toList
mutual
def vV:Ex->Tx
 | .mk k n s args arms=>
  if k=1 then y0v n
  else if k=2 then tx s
  else if k=3 then 33::tx s
  else if k=4 then (match args with | []=>tx s | _=>40::tx s++writePs args++[41])
  else if k=6 then 40::[108,101,116,32]++tx s++writePs args++[41]
  else if k=7 then [40,99,97,115,101,32]++writeH args++writePa arms++[41]
  else 40::tx s++writePs args++[41]
def writePs:List Ex->Tx
 | []=>[]
 | e::es=>32::vV e++writePs es
def writeH:List Ex->Tx
 | []=>[]
 | e::_=>vV e
def writePa:List Arm->Tx
 | []=>[]
 | .mk c vs b::es=>[32,40]++(tx c++(vs.map fun v=>32::tx v).flatten)++[32,45,62,32]++vV b++[41]++writePa es
end
def vI (dn:Bs):Bool->List (Bs×Maker)->List Con->Bool×List (Bs×Maker)
 | ok,m,[]=>(ok,m)
 | ok,m,x::xs=>if (ok&&qL x.name)=true then vI dn (zJ m x.name).isNone (jH m x.name ⟨dn,x⟩) xs else vI dn false m xs
def cB (ok:Bool) (ds:List (Bs×Data)) (d:Data):Bool:=ok&&qL d.name && !decide (d.name=yH)&&(zJ ds d.name).isNone&&decide (0 < d.cons.length)
def mJ (ok:Bool) (ds:List (Bs×Data)) (d:Data):List (Bs×Data):=if (ok&&qL d.name && !decide (d.name=yH))=true then jH ds d.name d else ds
def tS:Bool->List (Bs×Data)->List (Bs×Maker)->List Data->Bool×List (Bs×Data)×List (Bs×Maker)
 | ok,ds,m,[]=>(ok,ds,m)
 | ok,ds,m,d::l=>tS (vI d.name (cB ok ds d) m d.cons).1 (mJ ok ds d) (vI d.name (cB ok ds d) m d.cons).2 l
def tT:Bool->List (Bs×Fun)->List Fun->Bool×List (Bs×Fun)
 | ok,m,[]=>(ok,m)
 | ok,m,f::l=>if (ok&&qO f.name)=true then tT (zJ m f.name).isNone (jH m f.name f) l else tT false m l
def tU:Bool->List (Bs×Bs)->List Param->Bool×List (Bs×Bs)
 | ok,m,[]=>(ok,m)
 | ok,m,p::l=>if (ok&&qO p.name)=true then tU (zJ m p.name).isNone (jH m p.name p.type) l else tU false m l
def dsP (c:Core):Bool×List (Bs×Data)×List (Bs×Maker):=tS true [] [] (truthsD::c.datas)
def fsP (c:Core):Bool×List (Bs×Fun):=tT (dsP c).1 [] c.funs
def isP (c:Core):Bool×List (Bs×Bs):=tU (fsP c).1 [] c.inputs
def zE (c:Core):Table:=⟨c,(dsP c).2.1,(dsP c).2.2,(fsP c).2,(isP c).2⟩
def wI (c:Core):Bool:=(isP c).1
def sQ (ps:List Param):Scope:=ps.foldl (fun s p=>pD s p.name p.type) []
def pI (T:Table) (f:Fun):Bool :=
 f.params.all (fun p=>kQ T p.type)&&kQ T f.result&&mD qO [] (f.params.map Param.name++zP f.body)&&decide ((zG T f.body (sQ f.params)).1=f.result)
def wO (T:Table):List Bs->List Bs->Bool
 | _,[]=>true
 | seen,o::os=>match zJ T.funs o with
  | none=>false
  | some f=>decide (f.params.length=0) && !has seen o&&wO T (seen++[o]) os
def nZ (T:Table) (d:Data):Bool:=d.cons.all fun x=>x.fields.all fun s=>kQ T s
def qX (c:Core):Bool :=
 wI c&&decide (c.outputs≠[])&&c.datas.all (nZ (zE c))&&c.inputs.all (fun p=>jM c.datas p.type)&&c.funs.all (pI (zE c))&&wO (zE c) [] c.outputs
def yR (c:Core):Int:=if c.funs.any (fun f=>vB 250 f.body) then 6 else if vO c then 2 else if qX c then 0 else 80
section
variable (T:Table) (e:Ex) (s:Scope)
theorem aO (h:e.kind=1):zG T e s=(oP e,s):=by
 cases e with | mk k n nm args arms=>simp only [Ex.kind] at h;subst h;simp [zG]
theorem nO (h:e.kind=2):zG T e s=(pF e s,s):=by
 cases e with | mk k n nm args arms=>simp only [Ex.kind] at h;subst h;simp [zG]
theorem nL (h:e.kind=3):zG T e s=(sI T e,s):=by
 cases e with | mk k n nm args arms=>simp only [Ex.kind] at h;subst h;simp [zG]
theorem wK (h:e.kind=5):zG T e s=nS T e s:=by
 cases e with
 | mk k n nm args arms=>
  simp only [Ex.kind] at h;subst h
  simp only [zG,nS,Ex.name,Ex.args,vR]
  simp only [show ¬(5:Int)=1 by decide,show ¬(5:Int)=2 by decide,show ¬(5:Int)=3 by decide,show ¬(5:Int)=4 by decide,if_false,if_true]
  cases zJ T.funs nm with
  | none=>rfl
  | some m=>
   simp only
   by_cases hb:qM (.mk 5 n nm args arms) false true (-1) 0=true
   ·by_cases hl:args.length=m.params.length
    ·simp [hb,hl]
    ·simp [hb,hl]
   ·simp [hb]
theorem nM (h:e.kind=6):zG T e s=z1p T e s:=by
 cases e with
 | mk k n nm args arms=>simp only [Ex.kind] at h;subst h;simp [zG,z1p,Ex.name,Ex.args]
theorem nJ (h:e.kind=7):zG T e s=xH T e s:=by
 cases e with
 | mk k n nm args arms=>simp only [Ex.kind] at h;subst h;simp [zG,xH,Ex.args,Ex.arms];rfl
theorem cG (h:e.kind=8):zG T e s=nV T e s:=by
 cases e with
 | mk k n nm args arms=>
  simp only [Ex.kind] at h;subst h
  simp only [zG,nV,Ex.name,Ex.args,vR]
  simp only [show ¬(8:Int)=1 by decide,show ¬(8:Int)=2 by decide,show ¬(8:Int)=3 by decide,show ¬(8:Int)=4 by decide,show ¬(8:Int)=5 by decide,show ¬(8:Int)=6 by decide,show ¬(8:Int)=7 by decide,if_false,if_true]
  by_cases hb:qM (.mk 8 n nm args arms) false true 2 0=true
  ·have hl:args.length=2:=vC (n:=2) hb
   simp [hb,hl]
  ·simp [hb]
theorem nN (h1:e.kind≠1) (a:e.kind≠2) (b:e.kind≠3) (c:e.kind≠4) (d:e.kind≠5) (f:e.kind≠6) (g:e.kind≠7) (h:e.kind≠8):zG T e s=(sNo,s):=by
 cases e with
 | mk k n nm args arms=>simp only [Ex.kind] at *;simp [zG, *]
end
theorem kG {α:Type} (s:List (Bs×α)) (k n:Bs) (x:α):zJ (pD s k x) n=if n=k then some x else zJ s n:=by
 induction s with
 | nil=>simp [pD,zJ]
 | cons p s b=>
  obtain ⟨q,y⟩:=p
  simp only [pD]
  split
  ·subst_vars;simp only [zJ];split <;> rfl
  ·simp only [zJ,b]
   by_cases h1:n=q
   ·subst h1
    rename_i a
    rw [if_pos rfl,if_pos rfl,if_neg (fun e=>a e.symm)]
   ·rw [if_neg h1,if_neg h1]
theorem z0k {α:Type}:∀{s:List (Bs×α)} {k:Bs} {x:α},zJ s k=none->pD s k x=s++[(k,x)]
 | [],_,_,_=>rfl
 | (q,y)::s,k,x,h=>by
  simp only [zJ] at h
  split at h
  ·cases h
  ·rename_i a
   simp only [pD,if_neg a,List.cons_append,z0k h]
theorem y5e {α:Type}:∀{s:List (Bs×α)} {k:Bs} {x:α} {r:List (Bs×α)},zJ s k=none->y2d (s++(k,x)::r) k=s++r
 | [],_,_,_,_=>by simp [y2d]
 | (q,y)::s,k,x,r,h=>by
  simp only [zJ] at h
  split at h
  ·cases h
  ·rename_i a
   simp only [List.cons_append,y2d,if_neg a,y5e h]
theorem cO {α:Type}:∀{s:List (Bs×α)} {k:Bs} {r:List (Bs×α)},zJ s k=none->zJ (s++r) k=zJ r k
 | [],_,_,_=>rfl
 | (q,y)::s,k,r,h=>by
  simp only [zJ] at h
  split at h
  ·cases h
  ·rename_i a
   simp only [List.cons_append,zJ,if_neg a,cO h]
def Fresh (s:Scope) (l:List Bs):Prop:=∀n∈l,zJ s n=none
theorem Fresh.sub {s:Scope} {l m:List Bs} (h:Fresh s l) (O:∀n∈m,n∈l):Fresh s m:=fun n a=>h n (O n a)
theorem z7g:∀{vs fs:List Bs} {s:Scope},vs.length=fs.length->vs.Nodup->Fresh s vs->putAll s vs fs=s++vs.zip fs
 | [],[],s,_,_,_=>by simp [putAll]
 | v::vs,f::fs,s,hl,b,a=>by
  have h1:=a v msQ
  rw [aW,z0k h1,z7g (by simpa using hl) (List.nodup_cons.1 b).2]
  ·simp
  ·intro n hn'
   rw [cO (a n (mcQ _ hn'))]
   have:n≠v:=fun e=>(List.nodup_cons.1 b).1 (e▸hn')
   simp [zJ,this]
 | [],_::_,_,hl,_,_=>by simp at hl
 | _::_,[],_,hl,_,_=>by simp at hl
theorem y3r:∀{vs fs:List Bs} {s:Scope},vs.length=fs.length->vs.Nodup->Fresh s vs->sE (s++vs.zip fs) vs=s
 | [],[],s,_,_,_=>by simp [sE]
 | v::vs,f::fs,s,hl,b,a=>by
  simp only [List.zip_cons_cons,sE]
  rw [y5e (a v msQ)]
  exact y3r (by simpa using hl) (List.nodup_cons.1 b).2 (a.sub fun n h=>mcQ _ h)
 | [],_::_,_,hl,_,_=>by simp at hl
 | _::_,[],_,hl,_,_=>by simp at hl
theorem vE:∀{vs fs:List Bs} {s:Scope} {n:Bs},n∉vs->zJ (putAll s vs fs) n=zJ s n
 | [],_,_,_,_=>by rw [xU]
 | v::vs,[],_,_,_=>rfl
 | v::vs,f::fs,s,n,h=>by
  rw [aW,vE (fun e=>h (mcQ _ e)),kG,if_neg (fun e=>h (by rw [e];exact msQ))]
def All2 {α β:Type} (R:α->β->Prop):List α->List β->Prop
 | [],[]=>True
 | x::xs,y::ys=>R x y/\All2 R xs ys
 | _,_=>False
theorem All2.length {α β:Type} {R:α->β->Prop}:∀{xs:List α} {ys:List β},All2 R xs ys->xs.length=ys.length
 | [],[],_=>rfl
 | _::_,_::_,h=>by simp [All2.length h.2]
 | [],_::_,h=>h.elim
 | _::_,[],h=>h.elim
def Ty (T:Table) (e:Ex) (s:Scope) (t:Bs):Prop:=(zG T e s).1=t/\t≠sNo
def nW (T:Table) (e:Ex):Prop:=∀s,(zP e).Nodup->Fresh s (zP e)->(zG T e s).1≠sNo->(zG T e s).2=s
theorem zV {l m:List Bs} (h:(l++m).Nodup):l.Nodup/\m.Nodup/\∀n∈l,n∉m:=by
 rw [List.nodup_append] at h
 exact ⟨h.1,h.2.1,fun n hl N=>h.2.2 n hl n N rfl⟩
theorem q7k {T:Table}:∀{xs:List Ex} {s:Scope} {ts:List Bs},(∀x∈xs,nW T x)->xs.length=ts.length->(bindPs xs).Nodup->Fresh s (bindPs xs)->(allQ T xs s ts).1=true ->
  (allQ T xs s ts).2=s/\All2 (fun x t=>Ty T x s t) xs ts
 | [],s,[],_,_,_,_,_=>⟨rfl,trivial⟩
 | x::xs,s,t::ts,f,hl,i,d,h=>by
  rw [z3o] at h ⊢
  split at h
  ·cases h
  ·rename_i a
   rw [if_neg a]
   have hn':=zV (show (zP x++bindPs xs).Nodup from i)
   have h1:(zG T x s).1≠sNo:=fun e=>a (.inl e)
   have b:(zG T x s).1=t:=Classical.byContradiction fun e=>a (.inr e)
   have g:=f x msQ s hn'.1 (d.sub fun n h=>List.mem_append.2 (.inl h)) h1
   rw [g] at h ⊢
   have c:=q7k (fun y j=>f y (mcQ _ j)) (by simpa using hl) hn'.2.1 (d.sub fun n h=>List.mem_append.2 (.inr h)) h
   exact ⟨c.1,⟨b,b▸h1⟩,c.2⟩
 | [],_,_::_,_,hl,_,_,_=>by simp at hl
 | _::_,_,[],_,hl,_,_,_=>by simp at hl
theorem cJ {T:Table} {xs:List Ex} {s:Scope} {ts:List Bs} (b:∀x∈xs,nW T x) (c:(bindPs xs).Nodup) (a:Fresh s (bindPs xs)) (h:(vR T xs s ts).1=true) :
  (vR T xs s ts).2=s/\All2 (fun x t=>Ty T x s t) xs ts:=by
 unfold vR at h ⊢
 split at h
 ·rename_i hl;rw [if_pos hl];exact q7k b hl c a h
 ·cases h
def ArmOk (T:Table) (s:Scope) (t:Bs) (a:Arm) (c:Con):Prop:=a.con=c.name/\a.vars.length=c.fields.length/\Ty T a.body (putAll s a.vars c.fields) t
theorem z3r {T:Table} {a:Arm} {c:Con} {s:Scope} (e:nW T a.body) (hl:a.vars.length=c.fields.length) (f:(a.vars++zP a.body).Nodup) (b:Fresh s (a.vars++zP a.body))
  (h:(nU T a c s).1≠sNo):(nU T a c s).2=s:=by
 have hn':=zV f
 have d:Fresh s a.vars:=b.sub fun n h=>List.mem_append.2 (.inl h)
 have h1:=e (putAll s a.vars c.fields) hn'.2.1 (fun n hb=>by
  rw [vE (fun N=>hn'.2.2 n N hb)];exact b n (List.mem_append.2 (.inr hb))) h
 simp only [nU,h1]
 rw [z7g hl hn'.1 d]
 exact y3r hl hn'.1 d
theorem z0w {T:Table} {t:Bs} (g:t≠sNo):∀{az:List Arm} {cs:List Con} {first:Bool} {out:Bs} {s:Scope},(∀a∈az,nW T a.body)->cs.length=az.length->(bindPa az).Nodup->Fresh s (bindPa az) ->
  (splitP T az cs first out s).1=t->(splitP T az cs first out s).2=s/\All2 (fun a c=>ArmOk T s t a c) az cs/\(first=false∨az=[]->out=t)
 | [],[],first,out,s,_,_,_,_,h=>⟨rfl,trivial,fun _=>h⟩
 | a::az,c::cs,first,out,s,p,hl,q,m,h=>by
  rw [qK] at q m
  have hn':=zV q
  rw [jE] at h ⊢
  split at h
  ·exact absurd h.symm g
  ·rename_i j
   rw [if_neg j]
   split at h
   ·exact absurd h.symm g
   ·rename_i l
    rw [if_neg l]
    have k:a.con=c.name:=Classical.byContradiction fun e=>j (.inl e)
    have d:a.vars.length=c.fields.length:=Classical.byContradiction fun e=>j (.inr e)
    have h1:(nU T a c s).1≠sNo:=fun e=>l (.inl e)
    have r:=z3r (p a msQ) d hn'.1 (m.sub fun n h=>List.mem_append.2 (.inl h)) h1
    rw [r] at h ⊢
    have i:=z0w g (fun b hb=>p b (mcQ _ hb)) (by simpa using hl) hn'.2.1 (m.sub fun n h=>List.mem_append.2 (.inr h)) h
    have o:(nU T a c s).1=t:=i.2.2 (.inl rfl)
    refine ⟨i.1,⟨⟨k,d,o,g⟩,i.2.1⟩,fun f=>?_⟩
    rcases f with f | f
    ·rw [<- o]
     exact (Classical.byContradiction fun e=>l (.inr ⟨f,e⟩):(nU T a c s).1=out).symm
    ·cases f
 | [],_::_,_,_,_,_,hl,_,_,_=>by simp at hl
 | _::_,[],_,_,_,_,hl,_,_,_=>by simp at hl
theorem cN (T:Table) (p:zJ T.datas sNo=none):∀(n:Nat) (e:Ex),e.sz < n->nW T e
 | 0,_,h=>by omega
 | n+1,e,S=>by
  intro s B q h
  have g:∀x∈e.args,nW T x:=fun x o=>cN T p n x (by have:=Ex.lt_args o;omega)
  have H:∀a∈e.arms,nW T a.body:=fun a c=>cN T p n a.body (by have:=Ex.lt_arms c;omega)
  rw [wX] at B q
  have A:=zV B
  have j:=zV A.1
  have f:Fresh s (bindPs e.args):=q.sub fun m N=>List.mem_append.2 (.inl (List.mem_append.2 (.inr N)))
  have G:Fresh s (bindPa e.arms):=q.sub fun m N=>List.mem_append.2 (.inr N)
  by_cases h1:e.kind=1
  ·rw [aO T e s h1]
  by_cases K:e.kind=2
  ·rw [nO T e s K]
  by_cases L:e.kind=3
  ·rw [nL T e s L]
  by_cases M:e.kind=4
  ·rw [nK T e s M] at h ⊢
   unfold tO at h ⊢
   split at h
   ·rename_i N;simp only [N] at h ⊢
   ·rename_i m N
    try simp only [N]
    split at h
    ·rename_i hb
     rw [if_pos hb]
     by_cases c:(vR T e.args s m.con.fields).1=true
     ·exact (cJ g j.2.1 f c).1
     ·simp [c] at h
    ·exact absurd rfl h
  by_cases P:e.kind=5
  ·rw [wK T e s P] at h ⊢
   unfold nS at h ⊢
   split at h
   ·rename_i N;simp only [N] at h ⊢
   ·rename_i m N
    try simp only [N]
    split at h
    ·rename_i hb
     rw [if_pos hb]
     by_cases c:(vR T e.args s (m.params.map Param.type)).1=true
     ·exact (cJ g j.2.1 f c).1
     ·simp [c] at h
    ·exact absurd rfl h
  by_cases E:e.kind=6
  ·rw [nM T e s E] at h ⊢
   unfold z1p at h ⊢
   split at h
   ·rename_i hb
    rw [if_pos hb]
    have hl:=vC (n:=2) hb
    obtain ⟨x,o⟩:=qR (l:=e.args) (i:=0) (by omega)
    obtain ⟨y,C⟩:=qR (l:=e.args) (i:=1) (by omega)
    have k:e.args=[x,y]:=by
     cases c:e.args with
     | nil=>rw [c] at hl;simp at hl
     | cons a l=>
      cases l with
      | nil=>rw [c] at hl;simp at hl
      | cons b l=>
       rw [c] at hl o C
       simp only [lcQ] at hl
       have:l=[]:=List.eq_nil_of_length_eq_zero (by omega)
       subst this
       simp only [List.getElem?_cons_zero,List.getElem?_cons_succ,Option.some.injEq] at o C
       rw [o,C]
    by_cases r:(zG T x s).1=sNo
    ·rw [z4a o r] at h;exact absurd rfl h
    ·rw [sM o C r] at h ⊢
     simp only [if_pos E,k,bindPs,List.append_nil] at B q
     have I:=zV B
     have w:=zV I.1
     have z:=zV w.2.1
     have D:=g x (by rw [k];exact msQ) s z.1 (q.sub fun m N=>by simp [N]) r
     rw [D] at h ⊢
     have t:zJ s e.name=none:=q e.name (by simp)
     have u:Fresh (pD s e.name (zG T x s).1) (zP y):=fun m N=>by
      rw [kG,if_neg]
      ·exact q m (by simp [N])
      ·rintro rfl
       exact w.2.2 e.name (by simp) (by simp [N])
     have e2:=g y (by rw [k];simp) _ z.2.1 u h
     simp only [e2]
     rw [z0k t,y5e t,List.append_nil]
   ·exact absurd rfl h
  by_cases Q:e.kind=7
  ·rw [nJ T e s Q] at h ⊢
   unfold xH at h ⊢
   split at h
   ·rename_i hb
    rw [if_pos hb]
    have hl:=vC (n:=1) hb
    obtain ⟨x,o⟩:=qR (l:=e.args) (i:=0) (by omega)
    have k:e.args=[x]:=by
     cases c:e.args with
     | nil=>rw [c] at hl;simp at hl
     | cons a l=>
      rw [c] at hl o
      simp only [lcQ] at hl
      have:l=[]:=List.eq_nil_of_length_eq_zero (by omega)
      subst this
      simp only [List.getElem?_cons_zero,Option.some.injEq] at o
      rw [o]
    rw [jG o] at h ⊢
    split at h
    ·exact absurd rfl h
    ·rename_i d F
     try simp only [F]
     split at h
     ·rename_i v
      rw [if_pos v]
      by_cases r:(zG T x s).1=sNo
      ·rw [r,p] at F;cases F
      ·rw [k] at j f
       simp only [bindPs,List.append_nil] at j f
       have D:=g x (by rw [k];exact msQ) s j.2.1 f r
       rw [D] at h ⊢
       exact (z0w h H v A.2.1 G rfl).1
     ·exact absurd rfl h
   ·exact absurd rfl h
  by_cases R:e.kind=8
  ·rw [cG T e s R] at h ⊢
   unfold nV at h ⊢
   split at h
   ·rename_i hb
    rw [if_pos hb]
    by_cases c:(vR T e.args s [yH,yH]).1=true
    ·exact (cJ g j.2.1 f c).1
    ·simp [c] at h
   ·exact absurd rfl h
  rw [nN T e s h1 K L M P E Q R]
end Go.Sw
