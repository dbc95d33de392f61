import GoSem.Instr.MapUpdate
import Derived.Lib.LaidTab
import Derived.Lib.ItoaNum
import Derived.Test.YtghdfphedgcpdaaGreatDoorProg
import GoSem.Builtin.Delete
import Derived.Defers
import Derived.Lib.AtoiAll
import Derived.Lib.Replace
import Derived.Test.YtghdfphedgcpdaaGreatDoorX00
set_option linter.unusedVariables false
set_option linter.unusedSimpArgs false
namespace Go.Sw
variable {P:Program} {n:Nat} {E:List (Nat×Value)} {D:List Deferred} {a:Act} {Φ Ψ:Fz} {K:List Res} {w:World}
variable {dst:Option Tmp} {ty:TypeId} {pos:String} {aft:Array Edge} {g:Option (Nat×Bool)}
variable {Kn:Value→World→Prop} {Qp:List PanicEntry→World→Prop}
def yD:List (Bs×Value)→Bs→Option Value
 | [],_=>none
 | (k,v)::m,s=>if s=k then some v else yD m s
def mQ:List (Bs×Value)→Bs→Value→List (Bs×Value)
 | [],s,x=>[(s,x)]
 | (k,v)::m,s,x=>if s=k then (k,x)::m else (k,v)::mQ m s x
def z4k:List (Bs×Value)→Bs→List (Bs×Value)
 | [],_=>[]
 | (k,v)::m,s=>if s=k then m else (k,v)::z4k m s
def MapAt (Φ:Fz) (b:Nat) (m:List (Bs×Value)):Prop:=∃es clock,Φ.obj b=some (.map es clock)∧MapOk es clock m
theorem MapAt.mono {b:Nat} {m:List (Bs×Value)} (h:MapAt Φ b m) (hl:Φ.Le Ψ):MapAt Ψ b m:=let ⟨es,c,h1,h2⟩:=h;⟨es,c,hl.obj _ _ h1,h2⟩
def cJ:List (Bs×Value)→Bs→Nat→Option (Nat×Value)
 | [],_,_=>none
 | (k,v)::m,s,i=>if s=k then some (i,v) else cJ m s (i+1)
theorem dE (s t:ByteArray):(s==t)=decide (s=t):=by
 show (s.data==t.data)=_
 rw [Bool.eq_iff_iff];simp
 constructor
 ·intro h;cases s;cases t;simp_all
 ·rintro rfl;rfl
theorem z1a:∀(es:List MapEntry) (m:List (Bs×Value)) (s:Bs) (i:Nat),es.map (fun e=>(e.key,e.val))=m.map (fun p=>(Value.string p.1,p.2)) →
  Instr.findNow .string (.string s) es i=some (cJ m s i)
 | [],[],_,_,_=>rfl
 | [],_::_,_,_,h=>by simp at h
 | _::_,[],_,_,h=>by simp at h
 | e::es,(k,v)::m,s,i,h=>by
  simp only [List.map_cons,List.cons.injEq,Prod.mk.injEq] at h
  obtain ⟨⟨h1,h2⟩,h3⟩:=h
  simp only [Instr.findNow,h1,Instr.sameNow,dE,cJ]
  by_cases hs:s=k
  ·simp [hs,h2]
  ·simp only [hs,decide_false,if_false]
   exact z1a es m s (i+1) h3
theorem q0h:∀(m:List (Bs×Value)) (s:Bs) (i:Nat),(cJ m s i).map (·.2)=yD m s
 | [],_,_=>rfl
 | (k,v)::m,s,i=>by
  simp only [cJ,yD]
  split
  ·rfl
  ·exact q0h m s (i+1)
theorem wR {kt:TypeId} (hk:Under P kt .string) (e:Bool) (v:Value) (j:Nat):(Instr.checkKey e (j+1) kt v).run P w=.ok () w:=by
 simp [Instr.checkKey,Sem.run_bind,hk w]
theorem pU {kt:TypeId} (hk:Under P kt .string) {es:Array MapEntry} {m:List (Bs×Value)} (h:es.toList.map (fun e=>(e.key,e.val))=m.map (fun p=>(Value.string p.1,p.2))) (s:Bs) :
  (Instr.findKey kt (.string s) es.toList).run P w=.ok (cJ m s 0) w:=by
 simp [Instr.findKey,Sem.run_bind,hk w,z1a _ _ _ _ h]
def zG (ok:Bool) (z:Value):Option Value→Value
 | some v=>if ok then .tuple #[v,.bool true] else v
 | none=>if ok then .tuple #[z,.bool false] else z
theorem y5l {t kt et:TypeId} {b:Nat} {es:Array MapEntry} {clock:Nat} {m:List (Bs×Value)} {z:Value} (ht:Under P t (.map kt et)) (hk:Under P kt .string) (hz:ZeroT P et z)
  (hb:w.heap[b]? = some (.map es clock)) (h:MapOk es clock m) (s:Bs) (ok:Bool) :
  (Instr.lookup t (.map (some b)) (.string s) ok).run P w=.ok (zG ok z (yD m s)) w:=by
 have h1:(getObj b).run P w=.ok (.map es clock) w:=by simp [getObj,Sem.run,hb]
 simp only [Instr.lookup,Sem.run_bind,ht w,Result.andThen_ok,h1,Sem.run_pure,wR hk,pU hk h.eq]
 have:=q0h m s 0
 cases hm:cJ m s 0 with
 | none=>rw [hm] at this;simp only [Option.map_none] at this;rw [← this];simp [hz w,zG]
 | some p=>rw [hm] at this;simp only [Option.map_some] at this;rw [← this];simp [zG]
theorem yP {t kt et:TypeId} {x y:Operand} {b:Nat} {m:List (Bs×Value)} {z:Value} {s:Bs} {ok:Bool} (ht:Under P t (.map kt et)) (hk:Under P kt .string) (hz:ZeroT P et z)
  (he:EnvR n E D a) (hm:Sees Φ K w) (hx:ev E x=some (.map (some b))) (hy:ev E y=some (.string s)) (hat:MapAt Φ b m):Ok P a (.lookup t x y ok) ty w (zG ok z (yD m s)):=fun _ _ _ _=>by
 obtain ⟨es,clock,h1,h2⟩:=hat
 simp only [execOp,he.ev hx,he.ev hy]
 simp [Sem.run_bind,y5l ht hk hz (hm.fz _ _ h1) h2]
theorem zQ (i:Nat) {t kt et:TypeId} {x y:Operand} {b:Nat} {m:List (Bs×Value)} {z:Value} {s:Bs} {ok:Bool} (ht:Under P t (.map kt et)) (hk:Under P kt .string) (hz:ZeroT P et z)
  (he:EnvR n E D a) (hm:Sees Φ K w) (hx:ev E x=some (.map (some b))) (hy:ev E y=some (.string s)) (hK:qI K i=some (.mp b m)):Ok P a (.lookup t x y ok) ty w (zG ok z (yD m s)):=fun _ _ _ _=>by
 obtain ⟨es,clock,h1,h2⟩:=hm.own _ (qJ hK)
 simp only [execOp,he.ev hx,he.ev hy]
 simp [Sem.run_bind,y5l ht hk hz h1 h2]
theorem zW {t:TypeId} (hm:Mem Φ K w) (k:∀b w',Mem Φ (.mp b []::K) w'→Kn (.map (some b)) w'):Oper.eff P ⟨dst,.makeMap t none,ty,pos,aft,g⟩ a w Kn Qp:=by
 unfold Oper.eff
 have:(execOp a.eval ⟨dst,.makeMap t none,ty,pos,aft,g⟩).run P w=.ok (.value (.map (some w.heap.size))) { w with heap:=w.heap.push (.map #[] 0) }:=by
  simp [execOp,Instr.makeMap]
 rw [this]
 refine k _ _ (hm.more rfl rfl (fun b hb=>wX hb) ⟨#[],0,by simp,by simp,by simp,by simp⟩ (by simp [Res.foot]))
theorem j2s:∀(m:List (Bs×Value)) (s:Bs) (v:Value) (j:Nat),mQ m s v=match cJ m s j with | none=>m++[(s,v)] | some (i,_)=>m.set (i - j) (s,v)
 | [],_,_,_=>rfl
 | (k,x)::m,s,v,j=>by
  simp only [mQ,cJ]
  split
  ·subst_vars;simp
  ·have:=j2s m s v (j+1)
   rw [this]
   have hge:∀(m:List (Bs×Value)) (j i:Nat) (y:Value),cJ m s j=some (i,y)→j≤i:=by
    intro m
    induction m with
    | nil=>intro j i y h;simp [cJ] at h
    | cons p m ih =>
     intro j i y h
     obtain ⟨k,x⟩:=p
     simp only [cJ] at h
     split at h
     ·simp only [Option.some.injEq,Prod.mk.injEq] at h;omega
     ·have:=ih (j+1) i y h;omega
   cases hm:cJ m s (j+1) with
   | none=>simp
   | some p =>
    obtain ⟨i,y⟩:=p
    have h1:=hge m (j+1) i y hm
    have e:i - j=(i - (j+1))+1:=by omega
    simp only [e,List.set_cons_succ]
theorem y4o:∀(m:List (Bs×Value)) (s:Bs) (j i:Nat) (y:Value),cJ m s j=some (i,y)→m[i - j]? = some (s,y)∧j≤i
 | [],_,_,_,_,h=>by simp [cJ] at h
 | (k,x)::m,s,j,i,y,h=>by
  simp only [cJ] at h
  split at h
  ·simp only [Option.some.injEq,Prod.mk.injEq] at h
   obtain ⟨rfl,rfl⟩:=h;subst_vars;simp
  ·obtain ⟨h1,h2⟩:=y4o m s (j+1) i y h
   have e:i - j=(i - (j+1))+1:=by omega
   exact ⟨by rw [e];simpa using h1,by omega⟩
theorem dF (i:Nat) {t kt et:TypeId} {x y z:Operand} {b:Nat} {m:List (Bs×Value)} {s:Bs} {v:Value} (ht:Under P t (.map kt et)) (hk:Under P kt .string)
  (he:EnvR n E D a) (hm:Mem Φ K w) (hx:ev E x=some (.map (some b))) (hy:ev E y=some (.string s)) (hz:ev E z=some v) (hK:qI K i=some (.mp b m))
  (k:∀w',Mem Φ (kR K i (.mp b (mQ m s v))) w'→Kn undef w'):Oper.eff P ⟨dst,.mapUpdate t x y z,ty,pos,aft,g⟩ a w Kn Qp:=by
 obtain ⟨es,clock,hb,hok⟩:=hm.own _ (qJ hK)
 have h1:(getObj b).run P w=.ok (.map es clock) w:=by simp [getObj,Sem.run,hb]
 have hlt:b < w.heap.size:=(Array.getElem?_eq_some_iff.1 hb).1
 have hset:∀o,(setObj b o).run P w=.ok () { w with heap:=w.heap.setIfInBounds b o }:=fun o=>by simp only [setObj,Sem.run,hb]
 have fin:∀es' clock',MapOk es' clock' (mQ m s v)→Mem Φ (kR K i (.mp b (mQ m s v))) { w with heap:=w.heap.setIfInBounds b (.map es' clock') }:=fun es' clock' h =>
  hm.upd hK rfl rfl (fun c hc hne=>by simp only;rw [Array.getElem?_setIfInBounds_ne (fun e=>hne (by simp [Res.foot,e]))]) ⟨es',clock',by simp [hlt],h⟩ (.inl rfl)
 unfold Oper.eff
 simp only [execOp,he.ev hx,he.ev hy,he.ev hz,Instr.mapUpdate,Sem.run_bind,ht w,Result.andThen_ok,h1,wR hk,pU hk hok.eq]
 have hput:=j2s m s v 0
 cases hmx:cJ m s 0 with
 | none =>
  rw [hmx] at hput
  simp only at hput
  simp only [hset,Result.andThen_ok,Sem.run_pure,vO]
  refine k _ (fin _ _ ⟨?_,?_,?_⟩)
  ·rw [hput];simp [hok.eq]
  ·intro e he
   simp only [Array.toList_push,List.mem_append,List.mem_singleton] at he
   rcases he with he | rfl
   ·have:=hok.old e he;omega
   ·simp
  ·simp only [Array.toList_push,List.map_append,List.map_cons,List.map_nil]
   rw [List.nodup_append]
   refine ⟨hok.nodup,by simp,fun b hb c hc hbc =>?_⟩
   simp only [List.mem_singleton] at hc
   obtain ⟨e,he,rfl⟩:=List.mem_map.1 hb
   have:=hok.old e he
   omega
 | some p =>
  obtain ⟨j,y⟩:=p
  rw [hmx] at hput
  simp only [Nat.sub_zero] at hput
  obtain ⟨hj,_⟩:=y4o m s 0 j y hmx
  simp only [Nat.sub_zero] at hj
  have hes:es.toList[j]?.map (fun e=>(e.key,e.val))=some (Value.string s,y):=by
   rw [← List.getElem?_map,hok.eq,List.getElem?_map,hj];rfl
  obtain ⟨e,hje,hee⟩:∃e,es[j]? = some e∧e.key=.string s:=by
   cases h:es[j]? with
   | none =>
    have h':es.toList[j]? = none:=by simpa using h
    rw [h'] at hes;cases hes
   | some e =>
    have h':es.toList[j]? = some e:=by simpa using h
    rw [h'] at hes;simp only [Option.map_some,Option.some.injEq,Prod.mk.injEq] at hes;exact ⟨e,rfl,hes.1⟩
  have hks:(Instr.keyThatStays (((es[j]?).map (·.key)).getD (.string s)) (.string s)).run P w=.ok (.string s) w:=by
   simp [hje,hee,Instr.keyThatStays,Instr.sameBits,dE]
  simp only [Sem.run_bind,hks,hset,Result.andThen_ok,Sem.run_pure,vO]
  have hjl:j < es.size:=(Array.getElem?_eq_some_iff.1 hje).1
  have hml:(es.modify j fun e=>{ e with key:=Value.string s,val:=v }).toList=es.toList.modify j (fun e=>{ e with key:=Value.string s,val:=v }):=by simp
  refine k _ (fin _ _ ⟨?_,?_,?_⟩)
  ·rw [hml,hput]
   apply List.ext_getElem?
   intro q
   have hq:es.toList[q]?.map (fun e=>(e.key,e.val))=m[q]?.map (fun p=>(Value.string p.1,p.2)):=by rw [← List.getElem?_map,hok.eq,List.getElem?_map]
   simp only [List.getElem?_map,List.getElem?_modify,List.getElem?_set]
   by_cases hjq:j=q
   ·subst hjq
    have hml':j < m.length:=(List.getElem?_eq_some_iff.1 hj).1
    have h':es.toList[j]? = some e:=by simpa using hje
    simp [h',hml']
   ·have hq':=hq
    simp only [Array.getElem?_toList] at hq'
    simp [hjq,hq']
  ·intro x hx
   rw [hml] at hx
   obtain ⟨q,hq⟩:=List.mem_iff_getElem?.1 hx
   rw [List.getElem?_modify] at hq
   cases hz':es.toList[q]? with
   | none=>rw [hz'] at hq;simp at hq
   | some e' =>
    rw [hz'] at hq
    have hb':=hok.old e' (List.mem_of_getElem? hz')
    have hq2:=Option.some.inj hq
    rw [← hq2]
    show (if j=q then _ else _:MapEntry).born < clock
    by_cases hjq:j=q
    ·rw [if_pos hjq];exact hb'
    ·rw [if_neg hjq];exact hb'
  ·rw [hml]
   have:(es.toList.modify j (fun e=>{ e with key:=Value.string s,val:=v })).map (·.born)=es.toList.map (·.born):=by
    apply List.ext_getElem?
    intro q
    simp only [List.getElem?_map,List.getElem?_modify]
    cases es.toList[q]? with
    | none=>simp
    | some e'=>simp;split <;> rfl
   rw [this];exact hok.nodup
end Go.Sw

namespace Go.Sw
noncomputable def Ex.sz (e:Ex):Nat:=SizeOf.sizeOf e
noncomputable def Val.sz (e:Val):Nat:=SizeOf.sizeOf e
theorem Ex.lt_args {e x:Ex} (h:x∈e.args):x.sz < e.sz:=by
 cases e with
 | mk k n s args arms =>
  have:=List.sizeOf_lt_of_mem (show x∈args from h)
  simp only [Ex.sz,Ex.mk.sizeOf_spec];omega
theorem Ex.lt_arms {e:Ex} {a:Arm} (h:a∈e.arms):a.body.sz < e.sz:=by
 cases e with
 | mk k n s args arms =>
  have:=List.sizeOf_lt_of_mem (show a∈arms from h)
  cases a with
  | mk c v b=>simp only [Ex.sz,Ex.mk.sizeOf_spec,Arm.mk.sizeOf_spec,Arm.body] at *;omega
theorem Val.lt_args {e x:Val} (h:x∈e.args):x.sz < e.sz:=by
 cases e with
 | mk c n args =>
  have:=List.sizeOf_lt_of_mem (show x∈args from h)
  simp only [Val.sz,Val.mk.sizeOf_spec];omega
mutual
def jD:Ex→Int→Bool×Int
 | .mk _ _ _ args arms,l=>if l - 1 < 0 then (true,l - 1) else
  match meass args (l - 1) with
  | (true,q)=>(true,q)
  | (false,q)=>measa arms q
def meass:List Ex→Int→Bool×Int
 | [],l=>(false,l)
 | e::es,l=>match jD e l with
  | (true,q)=>(true,q)
  | (false,q)=>meass es q
def measa:List Arm→Int→Bool×Int
 | [],l=>(false,l)
 | .mk _ vs b::es,l=>if 16 < vs.length then (true,l) else match jD b l with
  | (true,q)=>(true,q)
  | (false,q)=>measa es q
end
mutual
theorem nF:∀(e:Ex) (l:Int),(jD e l).1=false→0≤(jD e l).2∧(jD e l).2≤l
 | .mk _ _ _ args arms,l=>by
  intro h
  simp only [jD] at h ⊢
  split at h
  ·cases h
  ·rename_i hl
   simp only [if_neg hl]
   have h1:=meass_le args (l - 1)
   cases hm:meass args (l - 1) with
   | mk b q =>
    rw [hm] at h h1
    cases b with
    | true=>cases h
    | false =>
     have h2:=measa_le arms q h (by have:=h1 rfl (by omega);simp only at this;omega)
     have:=h1 rfl (by omega)
     simp only at this h2 ⊢
     omega
theorem meass_le:∀(es:List Ex) (l:Int),(meass es l).1=false→0≤l→0≤(meass es l).2∧(meass es l).2≤l
 | [],l=>by intro _ h;simp [meass,h]
 | e::es,l=>by
  intro h h0
  simp only [meass] at h ⊢
  have h1:=nF e l
  cases hm:jD e l with
  | mk b q =>
   rw [hm] at h h1
   cases b with
   | true=>cases h
   | false =>
    have h3:=h1 rfl
    have h2:=meass_le es q h (by simp only at h3;omega)
    simp only at h3 h2 ⊢
    omega
theorem measa_le:∀(es:List Arm) (l:Int),(measa es l).1=false→0≤l→0≤(measa es l).2∧(measa es l).2≤l
 | [],l=>by intro _ h;simp [measa,h]
 | .mk _ vs b::es,l=>by
  intro h h0
  simp only [measa] at h ⊢
  split at h
  ·cases h
  ·rename_i hv
   simp only [if_neg hv]
   have h1:=nF b l
   cases hm:jD b l with
   | mk c q =>
    rw [hm] at h h1
    cases c with
    | true=>cases h
    | false =>
     have h3:=h1 rfl
     have h2:=measa_le es q h (by simp only at h3;omega)
     simp only at h3 h2 ⊢
     omega
end
def y4m (arms:List Arm):Bool×Int→Bool×Int
 | (true,q)=>(true,q)
 | (false,q)=>measa arms q
theorem q2s (e:Ex) (l:Int):jD e l=if l - 1 < 0 then (true,l - 1) else y4m e.arms (meass e.args (l - 1)):=by
 cases e with
 | mk k n s args arms =>
  simp only [jD,Ex.args,Ex.arms]
  by_cases h:l - 1 < 0
  ·rw [if_pos h,if_pos h]
  ·rw [if_neg h,if_neg h]
   cases meass args (l - 1) with
   | mk b q=>cases b <;> rfl
theorem uS (e:Ex) (es:List Ex) (l:Int):meass (e::es) l=if (jD e l).1 then (true,(jD e l).2) else meass es (jD e l).2:=by
 simp only [meass]
 cases jD e l with
 | mk b q=>cases b <;> rfl
theorem gU (a:Arm) (es:List Arm) (l:Int):measa (a::es) l=if 16 < a.vars.length then (true,l) else if (jD a.body l).1 then (true,(jD a.body l).2) else measa es (jD a.body l).2:=by
 cases a with
 | mk c vs b =>
  simp only [measa]
  change (if 16 < vs.length then _ else _)=(if 16 < vs.length then (true,l) else if (jD b l).1 then (true,(jD b l).2) else measa es (jD b l).2)
  by_cases h:16 < vs.length
  ·rw [if_pos h,if_pos h]
  ·rw [if_neg h,if_neg h]
   cases jD b l with
   | mk b q=>cases b <;> rfl
end Go.Sw

namespace Go.Sw
def sJ:List Fun→Int→Bool
 | [],_=>false
 | f::fs,l=>decide (16 < f.params.length) || (jD f.body l).1 || sJ fs (jD f.body l).2
def z5o (d:Data):Bool:=decide (16 < d.cons.length) || d.cons.any (fun x=>decide (16 < x.fields.length))
def xF (c:Core):Bool :=
 decide (60 < c.datas.length) || decide (6 < c.inputs.length) || decide (300 < c.funs.length) || decide (6 < c.outputs.length) || c.datas.any z5o || sJ c.funs 6000
def qY:Bs:=⟨#[73,110,116]⟩
def inF (name:Bs) (s:Bs):Bool := !decide (s=qY) && !decide (s=name)
def gO (name:Bs):List Con→Bool→Bool
 | [],ok=>ok
 | x::xs,ok=>gO name xs (ok && !x.fields.any (inF name))
def nE (name:Bs):List Data→Int→Bool→Int×Bool
 | [],n,ok=>(n,ok)
 | d::ds,n,ok=>if d.name=name then nE name ds (IntKind.i64.wrap (n+1)) (gO name d.cons ok) else nE name ds n ok
def kF (ds:List Data) (name:Bs):Bool :=
 if name=qY then true else decide ((nE name ds 0 true).1=1)&&(nE name ds 0 true).2
end Go.Sw

namespace Go.Sw
def strs (l:List Bs):List Value:=l.map .string
theorem yZ (l m:List Bs):strs (l++m)=strs l++strs m:=by simp [strs]
theorem yA (l:List Bs):(strs l).length=l.length:=by simp [strs]
theorem pM (l:List Bs):(strs l).all Value.oneCell'=true:=by simp [strs,Value.oneCell']
theorem chunks_str {Φ:Fz}:∀{l:List Bs} {cs:List Value},Chunks (RStr Φ) 1 cs l↔cs=strs l
 | [],cs=>by simp [Chunks,strs]
 | s::l,cs=>by
  simp only [Chunks,RStr]
  constructor
  ·rintro ⟨c,rest,rfl,_,rfl,h4⟩
   have:=chunks_str.1 h4
   subst this;rfl
  ·rintro rfl
   exact ⟨[.string s],strs l,rfl,rfl,rfl,chunks_str.2 rfl⟩
theorem SliceOf.strs {Φ:Fz} {v:Value} {l:List Bs}:SliceOf RStr Φ 1 v l↔Row Φ v 1 (strs l) :=
 ⟨fun ⟨_,h1,h2⟩=>chunks_str.1 h2▸h1,fun h=>⟨_,h,chunks_str.2 rfl⟩⟩
theorem oP {P:Program} {t e:TypeId} {len k:Nat} {z:Value} {parts:List (Nat×Value)} {cs:List Value} (hu:Under P t (.slice e)) (hs:SizeT P e k) (hz:ZeroT P e z) (hn:Nat.ble (len * k) 16777216=true) (h0:len * k≠0)
  (hf:Instr.fill (fun i=>some (i * k,k)) ((List.range (len * k)).map (fun x=>z.cells[x % z.cells.size]!)).toArray parts=some cs.toArray):built P t parts len cs e:=fun w=>by
 have hn':¬len * k > 2 ^ 24:=by
  have:len * k≤16777216:=by simpa using hn
  omega
 have hi:(Array.range (len * k)).map (z.cells[· % z.cells.size]!)=((List.range (len * k)).map (fun x=>z.cells[x % z.cells.size]!)).toArray:=by
  apply Array.ext'
  simp
 simp only [Instr.buildSlice,Sem.run_bind,hu w,hs w,Result.andThen_ok,if_neg hn',if_neg h0,hz w,Sem.run_pure,hi,hf,newRow,run_newObj]
 simp [ob]
theorem y8t {P:Program} {t e:TypeId} {k:Nat} (hu:Under P t (.slice e)) (hs:SizeT P e k):built P t [] 0 [] e:=fun w=>by
 simp only [Instr.buildSlice,Sem.run_bind,hu w,hs w,Result.andThen_ok]
 have hr:Array.range 0=(#[]:Array Nat):=by simp
 simp [Instr.fill,newRow,ob,hr]
mutual
def yC:Ex→List Bs
 | .mk k _ s args arms=>(if k=6 then [s] else [])++bindPs args++bindPa arms
def bindPs:List Ex→List Bs
 | []=>[]
 | e::es=>yC e++bindPs es
def bindPa:List Arm→List Bs
 | []=>[]
 | .mk _ vs b::es=>vs++yC b++bindPa es
end
theorem nI (e:Ex):yC e=(if e.kind=6 then [e.name] else [])++bindPs e.args++bindPa e.arms:=by
 cases e;simp only [yC,Ex.args,Ex.arms];rfl
theorem jS (a:Arm) (es:List Arm):bindPa (a::es)=a.vars++yC a.body++bindPa es:=by
 cases a;rfl
end Go.Sw

namespace Go.Sw
theorem pI {t:Bs} {i:Nat} (h:i < t.size):∃c,t[i]? = some c:=⟨t[i],by simp [h]⟩
def zJ (t:Bs) (i:Nat):Nat:=match t[i]? with | some c=>c.toNat | none=>0
theorem qR {t:Bs} {i:Nat} {c:UInt8} (h:t[i]? = some c):zJ t i=c.toNat:=by simp [zJ,h]
theorem z5h {t:Bs} {i:Nat} (h:¬i < t.size):zJ t i=0:=by
 have:t[i]? = none:=by simp;omega
 simp [zJ,this]
def nB (c:Nat):Bool:=decide (97≤c)&&decide (c≤122)
def nP (c:Nat):Bool:=decide (65≤c)&&decide (c≤90)
def yW (c:Nat):Bool:=decide (48≤c)&&decide (c≤57)
def qE (c:Nat):Bool:=nB c || nP c || yW c || decide (c=95)
def xV (c:Nat):Bool:=decide (c=32) || decide (c=9) || decide (c=10) || decide (c=13)
def kH (s p:Bs):Bool:=decide (p.size≤s.size)&&decide (s.extract 0 p.size=p)
def yQ (p:Nat→Bool) (t:Bs):Nat→Nat→Nat
 | 0,_=>0
 | f+1,i=>if i < t.size∧p (zJ t i)=true then yQ p t f (i+1)+1 else 0
theorem q0x (p:Nat→Bool) (t:Bs):∀(f g i:Nat),t.size≤i+f→t.size≤i+g→yQ p t f i=yQ p t g i
 | 0,0,_,_,_=>rfl
 | 0,g+1,i,h,_=>by simp only [yQ];rw [if_neg (by omega)]
 | f+1,0,i,_,h=>by simp only [yQ];rw [if_neg (by omega)]
 | f+1,g+1,i,h,h'=>by
  simp only [yQ]
  split
  ·rw [q0x p t f g (i+1) (by omega) (by omega)]
  ·rfl
theorem gD (p:Nat→Bool) (t:Bs) (i:Nat):yQ p t t.size i=if i < t.size∧p (zJ t i)=true then yQ p t t.size (i+1)+1 else 0:=by
 rw [q0x p t t.size (t.size+1) i (by omega) (by omega)]
 simp only [yQ]
theorem vQ (p:Nat→Bool) (t:Bs):∀(f i:Nat),i≤t.size→i+yQ p t f i≤t.size
 | 0,i,h=>by simpa [yQ] using h
 | f+1,i,h=>by
  simp only [yQ]
  split
  ·rename_i hc
   have:=vQ p t f (i+1) (by omega)
   omega
  ·omega
end Go.Sw

namespace Go.Sw
variable {P:Program} {n:Nat} {E:List (Nat×Value)} {D:List Deferred} {a:Act} {Φ Ψ:Fz} {K:List Res} {w:World}
variable {Kn:Value→World→Prop} {Qp:List PanicEntry→World→Prop} {dst:Option Tmp} {ty:TypeId} {pos:String} {aft:Array Edge} {g:Option (Nat×Bool)}
def Out {ε α:Type} (r:Except ε α) (A:α→Prop) (B:ε→Prop):Prop:=match r with | .ok x=>A x | .error c=>B c
theorem z3k {α ε:Type} {f:FuncId} {xs:Array Operand} {ts:Array TypeId} {vs:List Value} {r:Except ε α} {X:α→Value} {C:ε→List PanicEntry} {Φ1 Φ2:Fz} {KO:α→List Res} {KE:List Res}
  (he:EnvR n E D a) (hx:evs E xs.toList=some vs) (hf:∀args w,(callFunc f args).run P w=.ok (.enter f args) w)
  (hc:Calls P f vs.toArray w (fun e w'=>Out r (fun x=>e=.returned (X x)∧Mem Φ1 (KO x) w') (fun c=>e=.panicked (C c)∧Mem Φ2 KE w')))
  (k:∀x w',r=.ok x→Mem Φ1 (KO x) w'→Kn (X x) w') (kp:∀c w',r=.error c→Mem Φ2 KE w'→Qp (C c) w') :
  Oper.eff P ⟨dst,.call { callee:=.value (.func f),args:=xs,argTypes:=ts },ty,pos,aft,g⟩ a w Kn Qp:=by
 refine mB he hx hf hc (fun v w' h =>?_) (fun c w' h =>?_) (fun w' h =>?_)
 ·cases r with
  | ok x=>obtain ⟨h1,h2⟩:=h;cases h1;exact k _ _ rfl h2
  | error c=>obtain ⟨h1,_⟩:=h;cases h1
 ·cases r with
  | ok x=>obtain ⟨h1,_⟩:=h;cases h1
  | error c=>obtain ⟨h1,h2⟩:=h;cases h1;exact kp _ _ rfl h2
 ·cases r with
  | ok x=>obtain ⟨h1,_⟩:=h;cases h1
  | error c=>obtain ⟨h1,_⟩:=h;cases h1
theorem zU {md:Region.Mode} {kd:List Nat} {o:Oper} {B:Prop} (h:aZ md kd o=false) (hl:aZ md kd o=true):B:=by rw [h] at hl;cases hl
theorem vB {t:TypeId} {v:Value} (w:World):(Instr.panic (.iface t v)).run P w=.halt (.panic (.iface t v)) w:=rfl
theorem retcA {fn:Func} {R:Ending→World→Prop} {t T b k i:Nat} {cs:List Value} {T0:TypeId} (he:EnvR n E [] a) (hm:Sees Φ K w) (hr:fn.results=#[.cell t T]) (hv:get E t=some (.pointer (some ⟨b,0,none⟩)))
  (hk:qI K i=some (.blk b (ob cs T0))) (hT:AggT P T) (hS:SizeT P T k) (hl:cs.length=k) (h:R (.returned (.agg cs.toArray)) w):bodyPost P fn R .ret a w:=by
 refine ⟨he.defs,.agg cs.toArray,?_,h⟩
 have hc:∀j v,cs[j]? = some v→w.cell? ((⟨b,0,none⟩:Addr).add j)=some v:=fun j v hj=>by
  have h1:=hm.cell hk j
  rw [uV,hj] at h1
  unfold Addr.add;split
  ·subst_vars;exact h1
  ·simpa using h1
 have h2:=run_loadCells_list (P:=P) (w:=w) ⟨b,0,none⟩ cs hc
 rw [hl] at h2
 simp [results,hr,Array.getD_eq_getD_getElem?,he.env t _ hv,asAddr,loadVar,hT w,hS w,h2]
theorem yV {fn:Func} {R:Ending→World→Prop} {c:List PanicEntry} (hd:a.defers=[]) (h:R (.panicked c) w):bodyPost P fn R (.panic c) a w:=⟨hd,h⟩
def vS (t:Bs) (org:Nat):Nat→Nat→Int→Except (Nat×Int) Nat
 | 0,_,_=>.error (org,12)
 | f+1,i,o =>
  if t.size≤i then .error (org,12) else
  if kH (t.extract i t.size) (⟨#[40,42]⟩:ByteArray) then (if 100≤o then .error (i,6) else vS t org f (i+2) (o+1)) else
  if kH (t.extract i t.size) (⟨#[42,41]⟩:ByteArray) then (if o - 1=0 then .ok (i+2) else vS t org f (i+2) (o - 1)) else
  vS t org f (i+1) o
theorem jH {t p:Bs} {i:Nat} (h:kH (t.extract i t.size) p=true):p.size≤t.size - i:=by
 simp only [kH,Bool.and_eq_true,decide_eq_true_eq,ByteArray.size_extract] at h
 have:=h.1
 simp only [Nat.min_self] at this
 exact this
theorem nD (t:Bs) (org:Nat):∀(f g i:Nat) (o:Int),t.size < i+f→t.size < i+g→vS t org f i o=vS t org g i o
 | 0,0,_,_,_,_=>rfl
 | 0,g+1,i,o,h,_=>by simp only [vS];rw [if_pos (by omega)]
 | f+1,0,i,o,_,h=>by simp only [vS];rw [if_pos (by omega)]
 | f+1,g+1,i,o,h,h'=>by
  simp only [vS]
  rw [nD t org f g (i+2) (o+1) (by omega) (by omega),nD t org f g (i+2) (o - 1) (by omega) (by omega),nD t org f g (i+1) o (by omega) (by omega)]
def xR (t:Bs) (org i:Nat) (o:Int):Except (Nat×Int) Nat:=vS t org (t.size+1) i o
theorem pR (t:Bs) (org i:Nat) (o:Int):xR t org i o =
  if t.size≤i then .error (org,12) else
  if kH (t.extract i t.size) (⟨#[40,42]⟩:ByteArray) then (if 100≤o then .error (i,6) else xR t org (i+2) (o+1)) else
  if kH (t.extract i t.size) (⟨#[42,41]⟩:ByteArray) then (if o - 1=0 then .ok (i+2) else xR t org (i+2) (o - 1)) else
  xR t org (i+1) o:=by
 unfold xR
 rw [nD t org (t.size+1) (t.size+2) i o (by omega) (by omega)]
 simp only [vS]
theorem wC (t:Bs) (org:Nat):∀(f i q:Nat) (o:Int),vS t org f i o=.ok q→i < q∧q≤t.size
 | 0,_,_,_,h=>by simp [vS] at h
 | f+1,i,q,o,h=>by
  simp only [vS] at h
  split at h
  ·cases h
  ·split at h
   ·split at h
    ·cases h
    ·have:=wC t org f _ _ _ h;omega
   ·split at h
    ·rename_i hs
     have h2:=jH hs
     have:(⟨#[42,41]⟩:ByteArray).size=2:=rfl
     split at h
     ·simp only [Except.ok.injEq] at h;omega
     ·have:=wC t org f _ _ _ h;omega
    ·have:=wC t org f _ _ _ h;omega
def dI (c:Nat×Int):List PanicEntry:=[{ v:=.iface 257 (.agg #[.int .i64 ((c.1:Nat):Int),.int .i64 c.2]),recovered:=false }]
end Go.Sw

namespace Go.Sw
variable {P:Program} {n:Nat} {E:List (Nat×Value)} {D:List Deferred} {a:Act} {Φ Ψ:Fz} {K:List Res} {w:World}
variable {Kn:Value→World→Prop} {Qp:List PanicEntry→World→Prop} {dst:Option Tmp} {ty:TypeId} {pos:String} {aft:Array Edge} {g:Option (Nat×Bool)}
theorem z3l {α β ε:Type} {f:FuncId} {xs:Array Operand} {ts:Array TypeId} {vs:List Value} {r:Except ε α} {X:α→β→Value} {C:ε→List PanicEntry} {F1:α→β→Fz} {Φ2:Fz} {KO:α→β→List Res} {KE:List Res} {G:α→β→Prop}
  (he:EnvR n E D a) (hx:evs E xs.toList=some vs) (hf:∀args w,(callFunc f args).run P w=.ok (.enter f args) w)
  (hc:Calls P f vs.toArray w (fun e w'=>Out r (fun x=>∃y,e=.returned (X x y)∧G x y∧Mem (F1 x y) (KO x y) w') (fun c=>e=.panicked (C c)∧Mem Φ2 KE w')))
  (k:∀x y w',r=.ok x→G x y→Mem (F1 x y) (KO x y) w'→Kn (X x y) w') (kp:∀c w',r=.error c→Mem Φ2 KE w'→Qp (C c) w') :
  Oper.eff P ⟨dst,.call { callee:=.value (.func f),args:=xs,argTypes:=ts },ty,pos,aft,g⟩ a w Kn Qp:=by
 refine mB he hx hf hc (fun v w' h =>?_) (fun c w' h =>?_) (fun w' h =>?_)
 ·cases r with
  | ok x=>obtain ⟨y,h1,h2,h3⟩:=h;cases h1;exact k _ _ _ rfl h2 h3
  | error c=>obtain ⟨h1,_⟩:=h;cases h1
 ·cases r with
  | ok x=>obtain ⟨y,h1,_⟩:=h;cases h1
  | error c=>obtain ⟨h1,h2⟩:=h;cases h1;exact kp _ _ rfl h2
 ·cases r with
  | ok x=>obtain ⟨y,h1,_⟩:=h;cases h1
  | error c=>obtain ⟨h1,_⟩:=h;cases h1
theorem qQ {β:Type} {f:FuncId} {xs:Array Operand} {ts:Array TypeId} {vs:List Value} {X:β→Value} {F1:β→Fz} {KO:β→List Res} {G:β→Prop}
  (he:EnvR n E D a) (hx:evs E xs.toList=some vs) (hf:∀args w,(callFunc f args).run P w=.ok (.enter f args) w)
  (hc:Calls P f vs.toArray w (fun e w'=>∃y,e=.returned (X y)∧G y∧Mem (F1 y) (KO y) w'))
  (k:∀y w',G y→Mem (F1 y) (KO y) w'→Kn (X y) w') :
  Oper.eff P ⟨dst,.call { callee:=.value (.func f),args:=xs,argTypes:=ts },ty,pos,aft,g⟩ a w Kn Qp :=
 mB he hx hf hc (fun v w' h=>by obtain ⟨y,h1,h2,h3⟩:=h;cases h1;exact k _ _ h2 h3) (fun c w' h=>by obtain ⟨y,h1,_⟩:=h;cases h1) (fun w' h=>by obtain ⟨y,h1,_⟩:=h;cases h1)
def z2h (t:Bs):Nat→Nat→Except (Nat×Int) Nat
 | 0,i=>.ok i
 | f+1,i =>
  if kH (t.extract (i+yQ xV t t.size i) t.size) (⟨#[40,42]⟩:ByteArray)=true then
   match xR t (i+yQ xV t t.size i) (i+yQ xV t t.size i) 0 with
   | .error c=>.error c
   | .ok q=>z2h t f q
  else .ok (i+yQ xV t t.size i)
theorem y4z (t:Bs):∀(f g i:Nat),i≤t.size→t.size < i+f→t.size < i+g→z2h t f i=z2h t g i
 | 0,_,i,h0,h,_=>by omega
 | _+1,0,i,h0,_,h=>by omega
 | f+1,g+1,i,h0,h,h'=>by
  simp only [z2h]
  split
  ·cases hc:xR t (i+yQ xV t t.size i) (i+yQ xV t t.size i) 0 with
   | error c=>rfl
   | ok q =>
    have:=wC _ _ _ _ _ _ hc
    exact y4z t f g q this.2 (by omega) (by omega)
  ·rfl
def cX (t:Bs) (i:Nat):Except (Nat×Int) Nat:=z2h t (t.size+1) i
theorem y4x (t:Bs) (i:Nat) (h:i≤t.size):cX t i =
  if kH (t.extract (i+yQ xV t t.size i) t.size) (⟨#[40,42]⟩:ByteArray)=true then
   match xR t (i+yQ xV t t.size i) (i+yQ xV t t.size i) 0 with
   | .error c=>.error c
   | .ok q=>cX t q
  else .ok (i+yQ xV t t.size i):=by
 unfold cX
 rw [y4z t (t.size+1) (t.size+2) i h (by omega) (by omega)]
 simp only [z2h]
end Go.Sw

namespace Go.Sw
def kw (l:List UInt8):Bs:=⟨l.toArray⟩
def wordsL:List Bs:=[kw [97,110,100],kw [99,97,115,101],kw [100,97,116,97],kw [101,108,115,101],kw [101,110,100],kw [102,110],kw [102,117,110],kw [105,102],kw [105,110],kw [105,110,112,117,116],kw [108,101,116],kw [111,102],kw [111,117,116,112,117,116],kw [116,104,101,110],kw [118,97,108]]
def wordsM:List (Bs×Value):=wordsL.map (fun s=>(s,.int .i64 5))
theorem z0k {s:Bs} {v:Value} (h:yD wordsM s=some v):v=.int .i64 ((5:Nat):Int):=by
 have:∀(l:List Bs),yD (l.map (fun s=>(s,Value.int .i64 5))) s=some v→v=.int .i64 ((5:Nat):Int):=by
  intro l
  induction l with
  | nil=>intro h;simp [yD] at h
  | cons x l ih =>
   intro h
   simp only [List.map_cons,yD] at h
   split at h
   ·simp only [Option.some.injEq] at h;rw [← h];rfl
   ·exact ih h
 exact this _ h
def q9m (s:Bs):Bool:=(yD wordsM s).isSome
structure Tok where
 kind:Int
 num:Int
 text:Bs
 org:Nat
def y6c (k:Tok):Value:=.agg (List.toArray [.int .i64 k.kind,.int .i64 k.num,.string k.text,.int .i64 ((k.org:Nat):Int)])
def vN (t:Bs) (pos:Nat) (kind:Int) (n:Nat):Except (Nat×Int) Tok:=if 24 < n then .error (pos,2) else .ok ⟨kind,0,t.extract pos (pos+n),pos⟩
def qP (t:Bs) (pos:Nat):Nat :=
 if zJ t (pos+yQ qE t t.size pos)=39 then
  (if 0 < yQ yW t t.size (pos+(yQ qE t t.size pos+1)) then yQ qE t t.size pos+(1+yQ yW t t.size (pos+(yQ qE t t.size pos+1))) else yQ qE t t.size pos)
 else yQ qE t t.size pos
def vY (t:Bs) (pos:Nat) (kind:Int):Except (Nat×Int) Tok :=
 if 24 < qP t pos then .error (pos,2)
 else .ok ⟨if q9m (t.extract pos (pos+qP t pos)) then 5 else kind,0,t.extract pos (pos+qP t pos),pos⟩
theorem dS {t:Bs} {pos n:Nat} {kd:Int} {q:Tok} (hq:vN t pos kd n=.ok q):¬24 < n∧q=⟨kd,0,t.extract pos (pos+n),pos⟩:=by
 unfold vN at hq
 split at hq
 ·cases hq
 ·rename_i h;simp only [Except.ok.injEq] at hq;exact ⟨h,hq.symm⟩
theorem j5w {t:Bs} {pos n:Nat} {kd:Int} {c:Nat×Int} (hq:vN t pos kd n=.error c):24 < n∧c=(pos,2):=by
 unfold vN at hq
 split at hq
 ·rename_i h;simp only [Except.error.injEq] at hq;exact ⟨h,hq.symm⟩
 ·cases hq
theorem dV {t:Bs} {pos n:Nat} {kd:Int} {q:Tok} (hq:vN t pos kd n=.ok q) (hf:yD wordsM q.text=none) (hn:qP t pos=n):vY t pos kd=.ok q:=by
 obtain ⟨h1,rfl⟩:=dS hq
 simp only at hf
 unfold vY
 rw [hn,if_neg h1]
 simp [q9m,hf]
theorem dW {t:Bs} {pos n:Nat} {kd:Int} {q:Tok} {v:Value} (hq:vN t pos kd n=.ok q) (hf:yD wordsM q.text=some v) (hn:qP t pos=n):vY t pos kd=.ok ⟨5,q.num,q.text,q.org⟩:=by
 obtain ⟨h1,rfl⟩:=dS hq
 simp only at hf
 unfold vY
 rw [hn,if_neg h1]
 simp [q9m,hf]
theorem y4p {t:Bs} {pos n:Nat} {kd:Int} {c:Nat×Int} (hq:vN t pos kd n=.error c) (hn:qP t pos=n):vY t pos kd=.error c:=by
 obtain ⟨h1,rfl⟩:=j5w hq
 unfold vY
 rw [hn,if_pos h1]
theorem tD {t:Bs} {i:Nat} (h:zJ t i≠0):i < t.size:=by
 by_cases hi:i < t.size
 ·exact hi
 ·exact absurd (z5h hi) h
theorem q9u (t:Bs) (pos:Nat) (h:pos≤t.size):pos+qP t pos≤t.size:=by
 have h1:=vQ qE t t.size pos h
 unfold qP
 split
 ·rename_i h39
  have h2:=tD (t:=t) (i:=pos+yQ qE t t.size pos) (by omega)
  have h3:=vQ yW t t.size (pos+(yQ qE t t.size pos+1)) (by omega)
  split
  ·omega
  ·omega
 ·omega
end Go.Sw

namespace Go.Sw
open Go.Proofs
def Tabs (Φ:Fz):Prop:=∀w,Sees Φ [] w→Lib.TabIs Tryz.prog w "internal/strconv.uint64pow10" .u64 Lib.pow10Tab
theorem Tabs.mono {Φ Ψ:Fz} (h:Tabs Φ) (hl:Φ.Le Ψ):Tabs Ψ:=fun w hw=>h w ⟨fun b o hb=>hw.fz b o (hl.obj b o hb),by simp⟩
def ErrAt (Φ:Fz) (g:Nat):Prop:=∃v,At Φ ⟨g,0,none⟩ [v]∧(v=.nilIface∨∃t p,v=.iface t p)
theorem ErrAt.mono {Φ Ψ:Fz} {g:Nat} (h:ErrAt Φ g) (hl:Φ.Le Ψ):ErrAt Ψ g:=let ⟨v,h1,h2⟩:=h;⟨v,h1.mono hl,h2⟩
structure Glob (Φ:Fz):Prop where
 maxLen:∃m,At Φ ⟨1,0,none⟩ [.int .i64 m]
 tabs:Tabs Φ
 err4:ErrAt Φ 4
 err5:ErrAt Φ 5
theorem Glob.mono {Φ Ψ:Fz} (h:Glob Φ) (hl:Φ.Le Ψ):Glob Ψ:=⟨let ⟨m,hm⟩:=h.maxLen;⟨m,hm.mono hl⟩,h.tabs.mono hl,h.err4.mono hl,h.err5.mono hl⟩
def wU (l:List Bs):List (Bs×Value):=l.foldl (fun m s=>mQ m s (.bool true)) []
theorem z0a (l:List Bs) (s:Bs):wU (l++[s])=mQ (wU l) s (.bool true):=by simp [wU]
theorem j5y (m:List (Bs×Value)) (k s:Bs) (v:Value):yD (mQ m k v) s=if s=k then some v else yD m s:=by
 induction m with
 | nil=>simp [mQ,yD]
 | cons p m ih =>
  obtain ⟨q,x⟩:=p
  simp only [mQ]
  split
  ·subst_vars;simp only [yD]
   split <;> rfl
  ·simp only [yD,ih]
   by_cases h1:s=q
   ·subst h1
    rename_i h2
    rw [if_pos rfl,if_pos rfl,if_neg (fun e=>h2 e.symm)]
   ·rw [if_neg h1,if_neg h1]
def has (l:List Bs) (s:Bs):Bool:=l.any (fun x=>decide (x=s))
theorem x1d (l:List Bs) (x s:Bs):has (l++[x]) s=(has l s || decide (x=s)):=by simp [has]
theorem q1a (l:List Bs) (s:Bs):yD (wU l) s=if has l s then some (Value.bool true) else none:=by
 have:∀(l m:List Bs) (acc:List (Bs×Value)),(∀s,yD acc s=if has m s then some (Value.bool true) else none)→∀s,yD (l.foldl (fun m s=>mQ m s (.bool true)) acc) s=if has (m++l) s then some (Value.bool true) else none:=by
  intro l
  induction l with
  | nil=>intro m acc h s;simpa using h s
  | cons x l ih =>
   intro m acc h s
   simp only [List.foldl_cons]
   have:=ih (m++[x]) (mQ acc x (.bool true)) (fun s=>by
    rw [j5y,h,x1d]
    by_cases hx:s=x
    ·simp [hx]
    ·have hx':¬x=s:=fun e=>hx e.symm
     simp [hx,hx']) s
   simpa using this
 have h:=this l [] [] (fun s=>by simp [yD,has]) s
 simpa [wU] using h
theorem y5o {l:List Bs} {s:Bs} {v:Value} (h:yD (wU l) s=some v):v=.bool true∧has l s=true:=by
 rw [q1a] at h
 split at h
 ·simp only [Option.some.injEq] at h;exact ⟨h.symm,by assumption⟩
 ·cases h
theorem y5n {l:List Bs} {s:Bs} (h:yD (wU l) s=none):has l s=false:=by
 rw [q1a] at h
 split at h
 ·cases h
 ·simpa using (by assumption:¬has l s=true)
def dD (nm:Bs→Bool):List Bs→List Bs→Bool
 | _,[]=>true
 | ds,s::l=>nm s && !has ds s&&dD nm (ds++[s]) l
end Go.Sw

namespace Go.Sw
section
variable {α:Type}
def zK:List (Bs×α)→Bs→Option α
 | [],_=>none
 | (k,x)::l,s=>if s=k then some x else zK l s
def qX:List (Bs×α)→Bs→α→List (Bs×α)
 | [],s,x=>[(s,x)]
 | (k,y)::l,s,x=>if s=k then (k,x)::l else (k,y)::qX l s x
def xM (m:List (Bs×Value)) (s:Bs) (v:Value):List (Bs×Value):=match yD m s with | some _=>m | none=>mQ m s v
def qS (l:List (Bs×α)) (s:Bs) (x:α):List (Bs×α):=match zK l s with | some _=>l | none=>qX l s x
inductive MapRel (R:Value→α→Prop):List (Bs×Value)→List (Bs×α)→Prop
 | nil:MapRel R [] []
 | cons {k v x m l}:R v x→MapRel R m l→MapRel R ((k,v)::m) ((k,x)::l)
variable {R R':Value→α→Prop} {m:List (Bs×Value)} {l:List (Bs×α)}
theorem MapRel.mono (h:MapRel R m l) (hR:∀v x,R v x→R' v x):MapRel R' m l:=by
 induction h with
 | nil=>exact .nil
 | cons h1 _ ih=>exact .cons (hR _ _ h1) ih
theorem MapRel.get (h:MapRel R m l) {s:Bs} {v:Value} (hv:yD m s=some v):∃x,zK l s=some x∧R v x:=by
 induction h with
 | nil=>cases hv
 | cons h1 _ ih =>
  simp only [yD] at hv
  simp only [zK]
  split at hv
  ·rename_i hs;simp only [Option.some.injEq] at hv;subst hv;exact ⟨_,by rw [if_pos hs],h1⟩
  ·rename_i hs
   obtain ⟨x,e1,e2⟩:=ih hv
   exact ⟨x,by rw [if_neg hs];exact e1,e2⟩
theorem MapRel.none (h:MapRel R m l) {s:Bs} (hv:yD m s=none):zK l s=none:=by
 induction h with
 | nil=>rfl
 | cons h1 _ ih =>
  simp only [yD] at hv
  simp only [zK]
  split at hv
  ·cases hv
  ·rename_i hs;rw [if_neg hs];exact ih hv
theorem MapRel.put (h:MapRel R m l) {s:Bs} {v:Value} {x:α} (hv:R v x):MapRel R (mQ m s v) (qX l s x):=by
 induction h with
 | nil=>exact .cons hv .nil
 | cons h1 h2 ih =>
  simp only [mQ,qX]
  split
  ·exact .cons hv h2
  ·exact .cons h1 ih
theorem MapRel.once (h:MapRel R m l) {s:Bs} {v:Value} {x:α} (hv:R v x):MapRel R (xM m s v) (qS l s x):=by
 unfold xM qS
 cases hm:yD m s with
 | none=>rw [h.none hm];exact h.put hv
 | some u=>obtain ⟨y,e,_⟩:=h.get hm;rw [e];exact h
end
def RVa {α:Type} (R:Fz→List Value→α→Prop) (Φ:Fz) (v:Value) (x:α):Prop:=∃cs,v=.agg cs.toArray∧R Φ cs x
def RVs (v:Value) (x:Bs):Prop:=v=.string x
structure Maker where
 data:Bs
 con:Con
def RMaker (Φ:Fz) (cs:List Value) (x:Maker):Prop:=∃b,cs=.string x.data::b∧RCon Φ b x.con
theorem RMaker.mono (Φ Ψ:Fz) (c:List Value) (x:Maker) (hl:Φ.Le Ψ) (h:RMaker Φ c x):RMaker Ψ c x:=let ⟨b,h1,h2⟩:=h;⟨b,h1,RCon.mono _ _ _ _ hl h2⟩
structure Table where
 core:Core
 datas:List (Bs×Data)
 cons:List (Bs×Maker)
 funs:List (Bs×Fun)
 inputs:List (Bs×Bs)
structure RTable (Φ:Fz) (p:Addr) (T:Table):Prop where
 ex:∃cs m1 m2 m3 m4 d1 d2 d3 d4,At Φ p (cs++[.map (some m1),.map (some m2),.map (some m3),.map (some m4)])∧cs.length=4∧RCore Φ cs T.core ∧
  MapAt Φ m1 d1∧MapRel (RVa RData Φ) d1 T.datas∧MapAt Φ m2 d2∧MapRel (RVa RMaker Φ) d2 T.cons∧MapAt Φ m3 d3∧MapRel (RVa RFun Φ) d3 T.funs∧MapAt Φ m4 d4∧MapRel RVs d4 T.inputs
theorem RVa.mono {α:Type} {R:Fz→List Value→α→Prop} (hR:∀Φ Ψ c x,Φ.Le Ψ→R Φ c x→R Ψ c x) {Φ Ψ:Fz} (hl:Φ.Le Ψ) (v:Value) (x:α) (h:RVa R Φ v x):RVa R Ψ v x:=let ⟨cs,h1,h2⟩:=h;⟨cs,h1,hR _ _ _ _ hl h2⟩
theorem RTable.mono {Φ Ψ:Fz} {p:Addr} {T:Table} (h:RTable Φ p T) (hl:Φ.Le Ψ):RTable Ψ p T :=
 let ⟨cs,m1,m2,m3,m4,d1,d2,d3,d4,h0,h1,h2,a1,b1,a2,b2,a3,b3,a4,b4⟩:=h.ex
 ⟨cs,m1,m2,m3,m4,d1,d2,d3,d4,h0.mono hl,h1,RCore.mono _ _ _ _ hl h2,a1.mono hl,b1.mono (RVa.mono RData.mono hl),a2.mono hl,b2.mono (RVa.mono RMaker.mono hl),a3.mono hl,b3.mono (RVa.mono RFun.mono hl),a4.mono hl,b4⟩
def qN (e:Ex) (num name:Bool) (args arms:Int):Bool :=
 (num || decide (e.num=0))&&(name || decide (e.name=(⟨#[]⟩:ByteArray)))&&(decide (args < 0) || decide ((e.args.length:Int)=args))&&(decide (arms < 0) || decide ((e.arms.length:Int)=arms))
def kT (T:Table) (name:Bs):Bool:=(zK T.datas name).isSome || decide (name=qY)
end Go.Sw

namespace Go.Sw
abbrev Scope:=List (Bs×Bs)
def yK (s:Scope):List (Bs×Value):=s.map (fun p=>(p.1,.string p.2))
def z6k {α:Type}:List (Bs×α)→Bs→List (Bs×α)
 | [],_=>[]
 | (k,y)::l,s=>if s=k then l else (k,y)::z6k l s
theorem y5r:∀(s:Scope) (k:Bs),yD (yK s) k=(zK s k).map .string
 | [],_=>rfl
 | (q,x)::s,k=>by
  simp only [yK,List.map_cons,yD,zK]
  split
  ·rfl
  ·exact y5r s k
theorem vD {s:Scope} {k:Bs} {v:Value} (h:yD (yK s) k=some v):∃y,zK s k=some y∧v=.string y:=by
 rw [y5r] at h
 cases hl:zK s k with
 | none=>rw [hl] at h;cases h
 | some y=>rw [hl] at h;simp only [Option.map_some,Option.some.injEq] at h;exact ⟨y,rfl,h.symm⟩
theorem vC {s:Scope} {k:Bs} (h:yD (yK s) k=none):zK s k=none:=by
 rw [y5r] at h
 cases hl:zK s k with
 | none=>rfl
 | some y=>rw [hl] at h;cases h
theorem nM:∀(s:Scope) (k x:Bs),mQ (yK s) k (.string x)=yK (qX s k x)
 | [],_,_=>rfl
 | (q,y)::s,k,x=>by
  simp only [yK,List.map_cons,mQ,qX]
  split
  ·rfl
  ·simp only [List.map_cons];exact congrArg _ (nM s k x)
theorem z2t:∀(s:Scope) (k:Bs),z4k (yK s) k=yK (z6k s k)
 | [],_=>rfl
 | (q,y)::s,k=>by
  simp only [yK,List.map_cons,z4k,z6k]
  split
  ·rfl
  ·simp only [List.map_cons];exact congrArg _ (z2t s k)
def sNo:Bs:=⟨#[]⟩
def oL:Bs:=⟨#[66,111,111,108]⟩
def gY (e:Ex):Bs:=if qN e true false 0 0 then qY else sNo
def pV (e:Ex) (s:Scope):Bs:=if qN e false true 0 0 then (zK s e.name).getD sNo else sNo
def sA (T:Table) (e:Ex):Bs:=if qN e false true 0 0 then (zK T.inputs e.name).getD sNo else sNo
def putAll:Scope→List Bs→List Bs→Scope
 | s,v::vs,f::fs=>putAll (qX s v f) vs fs
 | s,_,_=>s
def aP:Scope→List Bs→Scope
 | s,v::vs=>aP (z6k s v) vs
 | s,[]=>s
def opT (name:Bs):Bs :=
 if name=⟨#[43]⟩∨name=⟨#[45]⟩∨name=⟨#[42]⟩∨name=⟨#[47]⟩∨name=⟨#[37]⟩ then qY
 else if name=⟨#[60]⟩∨name=⟨#[61]⟩ then oL else sNo
mutual
def zI (T:Table):Ex→Scope→Bs×Scope
 | .mk kind num name args arms,s =>
  if kind=1 then (gY (.mk kind num name args arms),s)
  else if kind=2 then (pV (.mk kind num name args arms) s,s)
  else if kind=3 then (sA T (.mk kind num name args arms),s)
  else if kind=4 then
   match zK T.cons name with
   | none=>(sNo,s)
   | some m=>if qN (.mk kind num name args arms) false true (-1) 0=true∧args.length=m.con.fields.length then ((if (allQ T args s m.con.fields).1 then m.data else sNo),(allQ T args s m.con.fields).2) else (sNo,s)
  else if kind=5 then
   match zK T.funs name with
   | none=>(sNo,s)
   | some f=>if qN (.mk kind num name args arms) false true (-1) 0=true∧args.length=f.params.length then ((if (allQ T args s (f.params.map Param.type)).1 then f.result else sNo),(allQ T args s (f.params.map Param.type)).2) else (sNo,s)
  else if kind=6 then (if qN (.mk kind num name args arms) false true 2 0 then letP T name args s else (sNo,s))
  else if kind=7 then
   if qN (.mk kind num name args arms) false false 1 (-1) then
    match zK T.datas (firstP T args s).1 with
    | none=>(sNo,(firstP T args s).2)
    | some d=>if d.cons.length=arms.length then splitP T arms d.cons true sNo (firstP T args s).2 else (sNo,(firstP T args s).2)
   else (sNo,s)
  else if kind=8 then
   if qN (.mk kind num name args arms) false true 2 0 then ((if (allQ T args s [qY,qY]).1 then opT name else sNo),(allQ T args s [qY,qY]).2) else (sNo,s)
  else (sNo,s)
def allQ (T:Table):List Ex→Scope→List Bs→Bool×Scope
 | [],s,_=>(true,s)
 | x::xs,s,ts =>
  if (zI T x s).1=sNo∨(zI T x s).1≠ts.headD sNo then (false,(zI T x s).2) else allQ T xs (zI T x s).2 ts.tail
def firstP (T:Table):List Ex→Scope→Bs×Scope
 | [],s=>(sNo,s)
 | a::_,s=>zI T a s
def restP (T:Table):List Ex→Scope→Bs×Scope
 | [],s=>(sNo,s)
 | _::l,s=>firstP T l s
def letP (T:Table) (name:Bs):List Ex→Scope→Bs×Scope
 | [],s=>(sNo,s)
 | a::l,s=>if (zI T a s).1=sNo then (sNo,(zI T a s).2) else
   ((firstP T l (qX (zI T a s).2 name (zI T a s).1)).1,z6k (firstP T l (qX (zI T a s).2 name (zI T a s).1)).2 name)
def splitP (T:Table):List Arm→List Con→Bool→Bs→Scope→Bs×Scope
 | [],_,_,out,s=>(out,s)
 | .mk con vars body::az,cs,first,out,s =>
  if con≠(cs.headD ⟨sNo,[]⟩).name∨vars.length≠(cs.headD ⟨sNo,[]⟩).fields.length then (sNo,s) else
  if (zI T body (putAll s vars (cs.headD ⟨sNo,[]⟩).fields)).1=sNo∨(first=false∧(zI T body (putAll s vars (cs.headD ⟨sNo,[]⟩).fields)).1≠out)
  then (sNo,aP (zI T body (putAll s vars (cs.headD ⟨sNo,[]⟩).fields)).2 vars)
  else splitP T az cs.tail false (zI T body (putAll s vars (cs.headD ⟨sNo,[]⟩).fields)).1 (aP (zI T body (putAll s vars (cs.headD ⟨sNo,[]⟩).fields)).2 vars)
end
theorem y8o (T:Table) (x:Ex) (xs:List Ex) (s:Scope) (t:Bs) (ts:List Bs):allQ T (x::xs) s (t::ts) =
  if (zI T x s).1=sNo∨(zI T x s).1≠t then (false,(zI T x s).2) else allQ T xs (zI T x s).2 ts:=rfl
def vR (T:Table) (xs:List Ex) (s:Scope) (ts:List Bs):Bool×Scope:=if xs.length=ts.length then allQ T xs s ts else (false,s)
def tP (T:Table) (e:Ex) (s:Scope):Bs×Scope :=
 match zK T.cons e.name with
 | none=>(sNo,s)
 | some m=>if qN e false true (-1) 0=true then ((if (vR T e.args s m.con.fields).1 then m.data else sNo),(vR T e.args s m.con.fields).2) else (sNo,s)
def nR (T:Table) (e:Ex) (s:Scope):Bs×Scope :=
 match zK T.funs e.name with
 | none=>(sNo,s)
 | some f=>if qN e false true (-1) 0=true then ((if (vR T e.args s (f.params.map Param.type)).1 then f.result else sNo),(vR T e.args s (f.params.map Param.type)).2) else (sNo,s)
def mR (T:Table) (e:Ex) (s:Scope):Bs×Scope :=
 if qN e false true 2 0=true then ((if (vR T e.args s [qY,qY]).1 then opT e.name else sNo),(vR T e.args s [qY,qY]).2) else (sNo,s)
theorem z0e (T:Table) (e:Ex) (s:Scope) (h:e.kind=4):zI T e s=tP T e s:=by
 cases e with
 | mk k n nm args arms =>
  simp only [Ex.kind] at h
  subst h
  simp only [zI,tP,Ex.name,Ex.args,vR]
  simp only [show ¬(4:Int)=1 by decide,show ¬(4:Int)=2 by decide,show ¬(4:Int)=3 by decide,if_false,if_true]
  cases zK T.cons nm with
  | none=>rfl
  | some m =>
   simp only
   by_cases hb:qN (.mk 4 n nm args arms) false true (-1) 0=true
   ·by_cases hl:args.length=m.con.fields.length
    ·simp [hb,hl]
    ·simp [hb,hl]
   ·simp [hb]
def truthsD:Data:=⟨oL,[⟨⟨#[70,97,108,115,101]⟩,[]⟩,⟨⟨#[84,114,117,101]⟩,[]⟩]⟩
end Go.Sw

namespace Go.Sw
variable {P:Program} {n:Nat} {E:List (Nat×Value)} {D:List Deferred} {a:Act} {Φ Ψ:Fz} {K:List Res} {w:World}
variable {dst:Option Tmp} {ty:TypeId} {pos:String} {aft:Array Edge} {g:Option (Nat×Bool)}
variable {Kn:Value→World→Prop} {Qp:List PanicEntry→World→Prop}
theorem q2r:∀(m:List (Bs×Value)) (s:Bs) (j:Nat),z4k m s=match cJ m s j with | none=>m | some (i,_)=>m.eraseIdx (i - j)
 | [],_,_=>rfl
 | (k,x)::m,s,j=>by
  simp only [z4k,cJ]
  split
  ·simp
  ·rw [q2r m s (j+1)]
   cases hm:cJ m s (j+1) with
   | none=>simp
   | some p =>
    obtain ⟨i,y⟩:=p
    obtain ⟨_,h1⟩:=y4o m s (j+1) i y hm
    have e:i - j=(i - (j+1))+1:=by omega
    simp only [e,List.eraseIdx_cons_succ]
theorem dT {α β:Type} (f:α→β):∀(l:List α) (i:Nat),(l.eraseIdx i).map f=(l.map f).eraseIdx i
 | [],_=>rfl
 | _::_,0=>rfl
 | x::l,i+1=>by simp [dT f l i]
theorem j0p (i:Nat) {t kt et t2 ty:TypeId} {b:Nat} {m:List (Bs×Value)} {s:Bs} (ht:Under P t (.map kt et)) (hk:Under P kt .string) (hm:Mem Φ K w) (hK:qI K i=some (.mp b m)) :
  ∃w',(Builtin.delete_ #[t,t2] ty #[.map (some b),.string s]).run P w=.ok (.tuple #[]) w'∧Mem Φ (kR K i (.mp b (z4k m s))) w':=by
 obtain ⟨es,clock,hb,hok⟩:=hm.own _ (qJ hK)
 have h1:(getObj b).run P w=.ok (.map es clock) w:=by simp [getObj,Sem.run,hb]
 have hlt:b < w.heap.size:=(Array.getElem?_eq_some_iff.1 hb).1
 have hset:∀o,(setObj b o).run P w=.ok () { w with heap:=w.heap.setIfInBounds b o }:=fun o=>by simp only [setObj,Sem.run,hb]
 have fin:∀es',MapOk es' clock (z4k m s)→Mem Φ (kR K i (.mp b (z4k m s))) { w with heap:=w.heap.setIfInBounds b (.map es' clock) }:=fun es' h =>
  hm.upd hK rfl rfl (fun c hc hne=>by simp only;rw [Array.getElem?_setIfInBounds_ne (fun e=>hne (by simp [Res.foot,e]))]) ⟨es',clock,by simp [hlt],h⟩ (.inl rfl)
 have hdel:=q2r m s 0
 cases hmx:cJ m s 0 with
 | none =>
  rw [hmx] at hdel
  simp only at hdel
  refine ⟨_,?_,fin es (by rw [hdel];exact hok)⟩
  simp [Builtin.delete_,Sem.run_bind,ht w,h1,wR hk,pU hk hok.eq,hmx,hset]
 | some p =>
  obtain ⟨j,y⟩:=p
  rw [hmx] at hdel
  simp only [Nat.sub_zero] at hdel
  have hl:(es.eraseIdxIfInBounds j).toList=es.toList.eraseIdx j:=by simp
  have hsub:(es.toList.eraseIdx j).Sublist es.toList:=List.eraseIdx_sublist _ _
  refine ⟨_,?_,fin (es.eraseIdxIfInBounds j) ⟨by rw [hl,hdel,dT,dT,hok.eq],fun e he=>hok.old e (hsub.subset (hl▸he)),by rw [hl];exact hok.nodup.sublist (hsub.map _)⟩⟩
  simp [Builtin.delete_,Sem.run_bind,ht w,h1,wR hk,pU hk hok.eq,hmx,hset]
theorem z9q (i:Nat) {t kt et t2:TypeId} {x y:Operand} {b:Nat} {m:List (Bs×Value)} {s:Bs} (ht:Under P t (.map kt et)) (hk:Under P kt .string)
  (he:EnvR n E D a) (hm:Mem Φ K w) (hx:ev E x=some (.map (some b))) (hy:ev E y=some (.string s)) (hK:qI K i=some (.mp b m))
  (k:∀w',Mem Φ (kR K i (.mp b (z4k m s))) w'→Kn (.tuple #[]) w'):Oper.eff P ⟨dst,.call { callee:=.builtin .delete,args:=#[x,y],argTypes:=#[t,t2] },ty,pos,aft,g⟩ a w Kn Qp:=by
 obtain ⟨es,clock,hb,hok⟩:=hm.own _ (qJ hK)
 have h1:(getObj b).run P w=.ok (.map es clock) w:=by simp [getObj,Sem.run,hb]
 have hlt:b < w.heap.size:=(Array.getElem?_eq_some_iff.1 hb).1
 have hset:∀o,(setObj b o).run P w=.ok () { w with heap:=w.heap.setIfInBounds b o }:=fun o=>by simp only [setObj,Sem.run,hb]
 have fin:∀es',MapOk es' clock (z4k m s)→Mem Φ (kR K i (.mp b (z4k m s))) { w with heap:=w.heap.setIfInBounds b (.map es' clock) }:=fun es' h =>
  hm.upd hK rfl rfl (fun c hc hne=>by simp only;rw [Array.getElem?_setIfInBounds_ne (fun e=>hne (by simp [Res.foot,e]))]) ⟨es',clock,by simp [hlt],h⟩ (.inl rfl)
 have hdel:=q2r m s 0
 have hrun:∃es',MapOk es' clock (z4k m s)∧(Builtin.delete_ #[t,t2] ty #[.map (some b),.string s]).run P w=.ok (.tuple #[]) { w with heap:=w.heap.setIfInBounds b (.map es' clock) }:=by
  cases hmx:cJ m s 0 with
  | none =>
   rw [hmx] at hdel
   simp only at hdel
   refine ⟨es,by rw [hdel];exact hok,?_⟩
   simp [Builtin.delete_,Sem.run_bind,ht w,h1,wR hk,pU hk hok.eq,hmx,hset]
  | some p =>
   obtain ⟨j,y⟩:=p
   rw [hmx] at hdel
   simp only [Nat.sub_zero] at hdel
   refine ⟨es.eraseIdxIfInBounds j,?_,?_⟩
   ·have hl:(es.eraseIdxIfInBounds j).toList=es.toList.eraseIdx j:=by simp
    have hsub:(es.toList.eraseIdx j).Sublist es.toList:=List.eraseIdx_sublist _ _
    refine ⟨?_,fun e he=>hok.old e (hsub.subset (hl▸he)),?_⟩
    ·rw [hl,hdel,dT,dT,hok.eq]
    ·rw [hl];exact hok.nodup.sublist (hsub.map _)
   ·simp [Builtin.delete_,Sem.run_bind,ht w,h1,wR hk,pU hk hok.eq,hmx,hset]
 obtain ⟨es',h2,h3⟩:=hrun
 unfold Oper.eff
 have:(execOp a.eval ⟨dst,.call { callee:=.builtin .delete,args:=#[x,y],argTypes:=#[t,t2] },ty,pos,aft,g⟩).run P w=.ok (.value (.tuple #[])) { w with heap:=w.heap.setIfInBounds b (.map es' clock) }:=by
  simp only [execOp,resolve,invoke,builtin,Sem.run_bind,Sem.run_pure,Result.andThen_ok,List.map_toArray,List.map_cons,List.map_nil,he.ev hx,he.ev hy,h3]
 rw [this]
 exact k _ (fin _ h2)
end Go.Sw

namespace Go.Sw
theorem kZ {e:Ex} {a b:Bool} {n:Nat} {r:Int} (h:qN e a b (n:Int) r=true):e.args.length=n:=by
 simp only [qN,Bool.and_eq_true,Bool.or_eq_true,decide_eq_true_eq] at h
 omega
theorem jE {T:Table} {l:List Ex} {x:Ex} {s:Scope} (h:l[0]? = some x):firstP T l s=zI T x s:=by
 cases l with
 | nil=>simp at h
 | cons y l=>simp only [List.getElem?_cons_zero,Option.some.injEq] at h;subst h;rfl
def jT (T:Table) (e:Ex) (s:Scope):Bs×Scope :=
 if qN e false false 1 (-1)=true then
  match zK T.datas (firstP T e.args s).1 with
  | none=>(sNo,(firstP T e.args s).2)
  | some d=>if d.cons.length=e.arms.length then splitP T e.arms d.cons true sNo (firstP T e.args s).2 else (sNo,(firstP T e.args s).2)
 else (sNo,s)
def mT (T:Table) (a:Arm) (c:Con) (s:Scope):Bs×Scope:=((zI T a.body (putAll s a.vars c.fields)).1,aP (zI T a.body (putAll s a.vars c.fields)).2 a.vars)
theorem jI (T:Table) (a:Arm) (az:List Arm) (c:Con) (cs:List Con) (first:Bool) (out:Bs) (s:Scope):splitP T (a::az) (c::cs) first out s =
  if a.con≠c.name∨a.vars.length≠c.fields.length then (sNo,s) else
  if (mT T a c s).1=sNo∨(first=false∧(mT T a c s).1≠out) then (sNo,(mT T a c s).2)
  else splitP T az cs false (mT T a c s).1 (mT T a c s).2:=by
 cases a;rfl
theorem cY (s:Scope) (v:Bs) (vs:List Bs) (f:Bs) (fs:List Bs):putAll s (v::vs) (f::fs)=putAll (qX s v f) vs fs:=rfl
theorem xU (s:Scope) (fs:List Bs):putAll s [] fs=s:=by cases fs <;> rfl
end Go.Sw

namespace Go.Sw
variable {P:Program}
theorem z0c {fr:Frame} {cs:List Frame} {w w':World} {d:Deferred} {ds:List Deferred} {b:Builtin} {ts:Array TypeId} {ty:TypeId} {k:Array Bool} {v:Value}
  (hm:fr.mode≠.run) (hd:fr.defers=d::ds) (ht:d.target=.builtin b ts ty k) (hi:(invoke d.target d.args).run P w=.ok (.value v) w') :
  step P (lone fr cs w)=.next (lone { fr with defers:=ds } cs w'):=by
 obtain ⟨t,a⟩:=d
 simp only at ht hi
 subst ht
 refine step_lone_go ?_
 cases hmode:fr.mode with
 | run=>exact absurd hmode hm
 | returning=>simp [stepG,unwind,callDeferred,hmode,hd,hi]
 | panicking chain=>simp [stepG,unwind,callDeferred,hmode,hd,hi]
def j3b (P:Program) (fn:Func) (R:Ending→World→Prop):Exit→Act→World→Prop
 | .ret,a,w=>(a.defers=[]∧∃x,(results fn a.tmps).run P w=.ok x w∧R (.returned x) w) ∨
   ∃d b ts ty k v w',a.defers=[d]∧d.target=.builtin b ts ty k∧(invoke d.target d.args).run P w=.ok (.value v) w'∧∃x,(results fn a.tmps).run P w'=.ok x w'∧R (.returned x) w'
 | _,_,_=>False
theorem z9f {f:FuncId} {fn:Func} {c:Code} {args:Array Value} {w:World} {R:Ending→World→Prop} (hf:P.funcs[f]? = some fn) (hb:fn.body=some c)
  (h:c.wp P (j3b P fn R) { tmps:=args++Array.replicate (fn.ntmps - args.size) undef,defers:=[] } w):Calls P f args w R:=by
 intro cs
 let b:Frame:={ (default:Frame) with fn:=f,kind:=.normal }
 have henter:Frame.enter P f args .normal=b.at { tmps:=args++Array.replicate (fn.ntmps - args.size) undef,defers:=[] } [.code c]:=by
  simp [Frame.enter,Frame.at,hf,hb,b]
 obtain ⟨e,a',w',hq,harr⟩:=h b [] cs
 rw [← henter] at harr
 cases e with
 | ret =>
  obtain ⟨todo,hs⟩:=harr
  rcases hq with ⟨hd,x,hr,hR⟩ | ⟨d,bb,ts,ty,k,v,w'',hd,ht,hi,x,hr,hR⟩
  ·exact ⟨.returned x,w',_,hR,hs,rfl,rfl,hd,rfl,fn,hf,hr⟩
  ·have h1:=z0c (fr:={ b.at a' todo with mode:=.returning }) (cs:=cs) (by simp) hd ht hi
   exact ⟨.returned x,w'',_,hR,Steps.trans hs (.one h1),rfl,rfl,rfl,rfl,fn,hf,hr⟩
 | normal=>exact hq.elim
 | panic chain=>exact hq.elim
 | exit id=>exact hq.elim
 | goto l=>exact hq.elim
 | outgrown=>exact hq.elim
theorem enterB {n:Nat} {w:World} {f:FuncId} {fn:Func} {c:Code} {vs:List Value} {R:Ending→World→Prop} (hf:P.funcs[f]? = some fn) (hb:fn.body=some c) (hn:fn.ntmps=n) (hl:Nat.ble vs.length n=true)
  (k:∀Q:Exit→Act→World→Prop,(∀e a w,j3b P fn R e a w→Q e a w)→∀a,EnvR n (cL 0 vs) [] a→c.wp P Q a w):Calls P f vs.toArray w R:=by
 have hl':vs.length≤n:=by simpa using hl
 refine z9f hf hb (k _ (fun _ _ _ h=>h) _ ⟨by simp [hn];omega,fun t v ht =>?_,rfl⟩)
 obtain ⟨_,h2⟩:=cM vs 0 t v ht
 simp only [Nat.sub_zero] at h2
 have hlt:t < vs.length:=(List.getElem?_eq_some_iff.1 h2).1
 simp only [List.getElem?_toArray,Array.getElem?_append,List.size_toArray,hlt,↓reduceIte]
 exact h2
section
variable {n:Nat} {E:List (Nat×Value)} {D:List Deferred} {a:Act} {w:World} {ops:Array Oper} {rest:List Oper} {Q:Exit→Act→World→Prop} {ty:TypeId} {pos:String} {aft:Array Edge}
theorem z4u {b:Builtin} {xs:Array Operand} {ts:Array TypeId} {vs:List Value} (he:EnvR n E D a) (hx:evs E xs.toList=some vs)
  (k:∀a fl,EnvR n E ({ target:=.builtin b ts ty fl,args:=vs.toArray }::D) a→wpList P ops Q rest a w) :
  wpList P ops Q (⟨none,.defer { callee:=.builtin b,args:=xs,argTypes:=ts },ty,pos,aft,none⟩::rest) a w:=by
 refine wpList_plain rfl fun L hL =>?_
 unfold Oper.wp
 simp only [execOp,resolve,he.evsA hx]
 exact hL _ _ (k _ _ ⟨he.size,he.env,congrArg (List.cons _) he.defs⟩)
end
section
variable {n:Nat} {E:List (Nat×Value)} {a:Act} {w:World} {Φ:Fz} {K:List Res}
theorem ret1B {fn:Func} {R:Ending→World→Prop} {t:Nat} {v:Value} (he:EnvR n E [] a) (hr:fn.results=#[.tmp t]) (hv:get E t=some v) (h:R (.returned v) w):j3b P fn R .ret a w :=
 .inl ⟨he.defs,v,by simp [results,hr,Array.getD_eq_getD_getElem?,he.env t v hv],h⟩
theorem q3f (i:Nat) {fn:Func} {R:Ending→World→Prop} {t:Nat} {v:Value} {tm kt et t2 ty:TypeId} {fl:Array Bool} {b:Nat} {m:List (Bs×Value)} {s:Bs} (ht:Under P tm (.map kt et)) (hk:Under P kt .string)
  (he:EnvR n E [⟨.builtin .delete #[tm,t2] ty fl,#[.map (some b),.string s]⟩] a) (hr:fn.results=#[.tmp t]) (hv:get E t=some v) (hm:Mem Φ K w) (hK:qI K i=some (.mp b m))
  (h:∀w',Mem Φ (kR K i (.mp b (z4k m s))) w'→R (.returned v) w'):j3b P fn R .ret a w:=by
 obtain ⟨w',h1,h2⟩:=j0p (t2:=t2) (ty:=ty) i ht hk hm hK (s:=s)
 exact .inr ⟨_,_,_,_,_,_,w',he.defs,rfl,(by simp only [invoke,builtin,Sem.run_bind,h1];rfl),v,by simp [results,hr,Array.getD_eq_getD_getElem?,he.env t v hv],h w' h2⟩
end
def z1k (T:Table) (e:Ex) (s:Scope):Bs×Scope:=if qN e false true 2 0=true then letP T e.name e.args s else (sNo,s)
theorem q2q {T:Table} {nm:Bs} {l:List Ex} {x:Ex} {s:Scope} (h:l[0]? = some x) (hn:(zI T x s).1=sNo):letP T nm l s=(sNo,(zI T x s).2):=by
 cases l with
 | nil=>simp at h
 | cons y l=>simp only [List.getElem?_cons_zero,Option.some.injEq] at h;subst h;simp only [letP];rw [if_pos hn]
theorem y0y {T:Table} {nm:Bs} {l:List Ex} {x y:Ex} {s:Scope} (h:l[0]? = some x) (h1:l[1]? = some y) (hn:¬(zI T x s).1=sNo) :
  letP T nm l s=((zI T y (qX (zI T x s).2 nm (zI T x s).1)).1,z6k (zI T y (qX (zI T x s).2 nm (zI T x s).1)).2 nm):=by
 cases l with
 | nil=>simp at h
 | cons z l =>
  simp only [List.getElem?_cons_zero,Option.some.injEq] at h;subst h
  simp only [letP];rw [if_neg hn]
  simp only [List.getElem?_cons_succ] at h1
  rw [jE h1]
end Go.Sw

namespace Go.Sw
open Go.Proofs
def y9b:Nat→Nat→List UInt8
 | 0,_=>[]
 | f+1,n=>if n < 10 then [(48+n).toUInt8] else (48+n % 10).toUInt8::y9b f (n / 10)
def j2i (n:Nat):List UInt8:=(y9b (n+1) n).reverse
def y0s (i:Int):List UInt8:=if i < 0 then 45::j2i (-i).toNat else j2i i.toNat
def nS (n:Int):Bs:=⟨(Lib.itoa n).toArray⟩
def y5i (s old new:Bs):Bs:=⟨(Lib.replace s.data.toList old.data.toList new.data.toList 1).toArray⟩
def cN (s:Bs):Except Unit Int:=match Lib.atoiAll s.data.toList with
 | .ok v=>.ok v
 | _=>.error ()
def z0w (n:Int):Bs:=y5i (nS n) ⟨#[45]⟩ ⟨#[126]⟩
def gX (s:Bs):Option Int:=match cN (y5i s ⟨#[126]⟩ ⟨#[45]⟩) with
 | .ok v=>if z0w v=s then some v else none
 | .error _=>none
def dG (s:Bs):Option Int:=match cN s with
 | .ok v=>if nS v=s then some v else none
 | .error _=>none
def vH (t:Bs) (pos:Nat):Nat:=if zJ t pos=126 then 1 else 0
def xZ (t:Bs) (pos:Nat):Nat:=yQ yW t t.size (pos+vH t pos)
def mH (t:Bs) (pos:Nat):Bs:=t.extract pos (pos+(vH t pos+xZ t pos))
def sL (t:Bs) (pos:Nat):Except (Nat×Int) Tok :=
 match gX (mH t pos) with
 | none=>.error (pos,13)
 | some v =>
  if qE (zJ t (pos+(vH t pos+xZ t pos)))=true∨zJ t (pos+(vH t pos+xZ t pos))=39 then .error (pos,13)
  else .ok ⟨1,v,mH t pos,pos⟩
def y5q (c:Nat):Bool:=[40,41,44,59,58,124,61,60,43,45,42,47,37,95].contains c
def zV (t:Bs) (pos:Nat):Except (Nat×Int) Tok :=
 if yW (zJ t pos)=true∨zJ t pos=126 then sL t pos
 else if nB (zJ t pos)=true then vY t pos 2
 else if nP (zJ t pos)=true then vY t pos 3
 else if zJ t pos=39∧nB (zJ t (pos+1))=true then vN t pos 4 (1+yQ qE t t.size (pos+1))
 else if kH (t.extract pos t.size) ⟨#[61,62]⟩=true∨kH (t.extract pos t.size) ⟨#[45,62]⟩=true then vN t pos 6 2
 else if y5q (zJ t pos)=true then vN t pos 6 1
 else .error (pos,11)
def oM (t:Bs):Nat→Nat→Except (Nat×Int) (List Tok)
 | 0,_=>.ok []
 | f+1,i =>
  match cX t i with
  | .error c=>.error c
  | .ok q=>if q < t.size then
    match zV t q with
    | .error c=>.error c
    | .ok k=>match oM t f (q+k.text.size) with
     | .error c=>.error c
     | .ok l=>.ok (k::l)
   else .ok []
def mM (t:Bs):Except (Nat×Int) (List Tok):=oM t (t.size+1) 0
def vT (s:Bs):Int :=
 if 24 < s.size then 0 else
 match mM s with
 | .ok [k]=>if k.text=s then k.kind else 0
 | _=>0
def yU (s:Bs):Bool:=decide (vT s=2)
def qC (s:Bs):Bool:=decide (vT s=3)
end Go.Sw

namespace Go.Sw
inductive Ev (α:Type) where
 | ok (x:α) (g:Nat)
 | spent
 | stuck
abbrev Env:=List (Bs×Val)
def v0:Val:=.mk sNo 0 []
structure Ctx where
 funs:List (Bs×Fun)
 inp:List (Bs×Val)
def Ev.bind {α β:Type} (r:Ev α) (f:α→Nat→Ev β):Ev β:=match r with
 | .ok x g=>f x g
 | .spent=>.spent
 | .stuck=>.stuck
theorem Ev.bind_ok {α β:Type} {r:Ev α} {f:α→Nat→Ev β} {y:β} {g:Nat} (h:r.bind f=.ok y g):∃x g1,r=.ok x g1∧f x g1=.ok y g:=by
 cases r with
 | ok x g1=>exact ⟨x,g1,rfl,h⟩
 | spent=>cases h
 | stuck=>cases h
end Go.Sw

namespace Go.Sw
def y5p (c:Nat):Bool:=decide (c=32) || decide (c=10) || decide (c=40) || decide (c=41)
def qB (t:Bs) (i:Nat):Nat:=yQ (fun c => !y5p c) t t.size i
def vM (t:Bs):Nat→Nat→List Bs
 | 0,_=>[]
 | f+1,i=>if i < t.size then
   if zJ t i=32∨zJ t i=10 then vM t f (i+1)
   else if zJ t i=40∨zJ t i=41 then t.extract i (i+1)::vM t f (i+1)
   else t.extract i (i+qB t i)::vM t f (i+qB t i)
  else []
def dH (t:Bs):List Bs:=vM t t.size 0
def zC (ws:List Bs) (i:Nat):Bs:=ws.getD i sNo
abbrev Rd (α:Type):=Except Nat (α×Nat)
def yN {α β:Type} (r:Rd α) (f:α→Nat→Rd β):Rd β:=match r with
 | .ok (x,i)=>f x i
 | .error n=>.error n
def pA (ws:List Bs) (p:Bs→Bool) (i:Nat):Rd Bs:=if zC ws i=sNo∨p (zC ws i)=false then .error (i+1) else .ok (zC ws i,i+1)
def vZ (ws:List Bs) (w:Bs) (i:Nat):Rd Unit:=yN (pA ws (fun s=>decide (s=w)) i) fun _ i=>.ok ((),i)
def hM (ws:List Bs) (i:Nat):Rd Bs:=pA ws qC i
def mI (ws:List Bs) (i:Nat):Rd Bs:=pA ws yU i
def aB:Bs:=⟨#[40]⟩
def sCls:Bs:=⟨#[41]⟩
def y5m:Bs:=⟨#[45,62]⟩
def sEq:Bs:=⟨#[61]⟩
def sBar:Bs:=⟨#[124]⟩
def j0q:Bs:=⟨#[58]⟩
def sLet:Bs:=⟨#[108,101,116]⟩
def sCase:Bs:=⟨#[99,97,115,101]⟩
def vU (ws:List Bs) (ex:Nat→Rd Ex):Nat→Nat→Nat→Rd (List Ex)
 | 0,_,i=>.error (i+1)
 | f+1,least,i=>if 0 < least∨zC ws i≠sCls then yN (ex i) fun e i=>yN (vU ws ex f (least - 1) i) fun l i=>.ok (e::l,i)
  else .ok ([],i)
def z3b (ex:Nat→Rd Ex) (i:Nat):Rd (List Ex):=yN (ex i) fun a i=>yN (ex i) fun b i=>.ok ([a,b],i)
def nU (ws:List Bs):Nat→Nat→Rd (List Bs)
 | 0,i=>.error (i+1)
 | f+1,i=>if zC ws i≠y5m then yN (mI ws i) fun s i=>yN (nU ws f i) fun l i=>.ok (s::l,i) else .ok ([],i)
def armP (ws:List Bs) (ex:Nat→Rd Ex) (i:Nat):Rd Arm :=
 yN (vZ ws aB i) fun _ i=>yN (hM ws i) fun c i=>yN (nU ws (ws.length+1) i) fun vs i =>
  yN (vZ ws y5m i) fun _ i=>yN (ex i) fun b i=>yN (vZ ws sCls i) fun _ i=>.ok (.mk c vs b,i)
def aM (ws:List Bs) (ex:Nat→Rd Ex):Nat→Bool→Nat→Rd (List Arm)
 | 0,_,i=>.error (i+1)
 | f+1,first,i=>if first=true∨zC ws i=aB then yN (armP ws ex i) fun a i=>yN (aM ws ex f false i) fun l i=>.ok (a::l,i)
  else .ok ([],i)
def oH (s:Bs):Bool:=decide (s=⟨#[43]⟩) || decide (s=⟨#[45]⟩) || decide (s=⟨#[42]⟩) || decide (s=⟨#[47]⟩) || decide (s=⟨#[37]⟩) || decide (s=⟨#[60]⟩) || decide (s=⟨#[61]⟩)
def yS (ws:List Bs) (ex:Nat→Rd Ex) (i:Nat):Rd Ex :=
 if oH (zC ws i)=true then yN (z3b ex (i+1)) fun l j=>.ok (.mk 8 0 (zC ws i) l [],j)
 else if zC ws i=sLet then yN (mI ws (i+1)) fun x j=>yN (z3b ex j) fun l j=>.ok (.mk 6 0 x l [],j)
 else if zC ws i=sCase then yN (ex (i+1)) fun a j=>yN (aM ws ex (ws.length+1) true j) fun l j=>.ok (.mk 7 0 sNo [a] l,j)
 else if qC (zC ws i)=true then yN (vU ws ex (ws.length+1) 1 (i+1)) fun l j=>.ok (.mk 4 0 (zC ws i) l [],j)
 else yN (mI ws i) fun x j=>yN (vU ws ex (ws.length+1) 0 j) fun l j=>.ok (.mk 5 0 x l [],j)
def zR (ws:List Bs):Nat→Nat→Rd Ex
 | 0,i=>.error (i+1)
 | d+1,i=>if zC ws i=sNo then .error (i+1) else
  match dG (zC ws i) with
  | some n=>.ok (.mk 1 n sNo [] [],i+1)
  | none =>
   if zC ws i=aB then yN (yS ws (zR ws d) (i+1)) fun e j=>yN (vZ ws sCls j) fun _ j=>.ok (e,j)
   else if qC (zC ws i)=true then .ok (.mk 4 0 (zC ws i) [] [],i+1)
   else if zJ (zC ws i) 0=33∧yU ((zC ws i).extract 1 (zC ws i).size)=true then .ok (.mk 3 0 ((zC ws i).extract 1 (zC ws i).size) [] [],i+1)
   else yN (mI ws i) fun x j=>.ok (.mk 2 0 x [] [],j)
def vF (ws:List Bs):Nat→Nat→Rd (List Bs)
 | 0,i=>.error (i+1)
 | f+1,i=>if qC (zC ws i)=true then yN (hM ws i) fun s i=>yN (vF ws f i) fun l i=>.ok (s::l,i) else .ok ([],i)
def aN (ws:List Bs):Nat→Nat→Rd (List Con)
 | 0,i=>.error (i+1)
 | f+1,i=>yN (hM ws i) fun n i=>yN (vF ws (ws.length+1) i) fun l i =>
   if zC ws i≠sBar then .ok ([⟨n,l⟩],i) else yN (aN ws f (i+1)) fun cs i=>.ok (⟨n,l⟩::cs,i)
def nJ (ws:List Bs) (i:Nat):Rd Data:=yN (hM ws i) fun n i=>yN (vZ ws sEq i) fun _ i=>yN (aN ws (ws.length+1) i) fun l i=>.ok (⟨n,l⟩,i)
def kG (ws:List Bs) (i:Nat):Rd Param:=yN (mI ws i) fun n i=>yN (vZ ws j0q i) fun _ i=>yN (hM ws i) fun t i=>.ok (⟨n,t⟩,i)
def vP (ws:List Bs):Nat→Nat→Rd (List Param)
 | 0,i=>.error (i+1)
 | f+1,i=>if zC ws i=aB then yN (kG ws (i+1)) fun p i=>yN (vZ ws sCls i) fun _ i=>yN (vP ws f i) fun l i=>.ok (p::l,i)
  else .ok ([],i)
def aV (ws:List Bs) (i:Nat):Rd Fun:=yN (mI ws i) fun n i=>yN (vP ws (ws.length+1) i) fun ps i=>yN (vZ ws j0q i) fun _ i =>
 yN (hM ws i) fun r i=>yN (vZ ws sEq i) fun _ i=>yN (zR ws 250 i) fun b i=>.ok (⟨n,ps,r,b⟩,i)
def tV:Bs:=⟨#[100,97,116,97]⟩
def sB:Bs:=⟨#[105,110,112,117,116]⟩
def kFun:Bs:=⟨#[102,117,110]⟩
def z8t:Bs:=⟨#[111,117,116,112,117,116]⟩
def qU (ws:List Bs):Nat→Core→Nat→Except Nat Core
 | 0,_,i=>.error (i+1)
 | f+1,c,i=>if i < ws.length then
   if zC ws i=tV then match nJ ws (i+1) with
    | .ok (d,j)=>qU ws f { c with datas:=c.datas++[d] } j
    | .error n=>.error n
   else if zC ws i=sB then match kG ws (i+1) with
    | .ok (d,j)=>qU ws f { c with inputs:=c.inputs++[d] } j
    | .error n=>.error n
   else if zC ws i=kFun then match aV ws (i+1) with
    | .ok (d,j)=>qU ws f { c with funs:=c.funs++[d] } j
    | .error n=>.error n
   else if zC ws i=z8t then match mI ws (i+1) with
    | .ok (d,j)=>qU ws f { c with outputs:=c.outputs++[d] } j
    | .error n=>.error n
   else .error (i+1)
  else .ok c
def oK (t:Bs):Except Nat Core:=qU (dH t) ((dH t).length+1) ⟨[],[],[],[]⟩ 0
abbrev Tx:=List UInt8
def tx (s:Bs):Tx:=s.data.toList
end Go.Sw

namespace Go.Sw
def xD (dn:Bs):Bool→List (Bs×Maker)→List Con→Bool×List (Bs×Maker)
 | ok,m,[]=>(ok,m)
 | ok,m,x::xs=>if (ok&&qC x.name)=true then xD dn (zK m x.name).isNone (qS m x.name ⟨dn,x⟩) xs else xD dn false m xs
def nN (ok:Bool) (ds:List (Bs×Data)) (d:Data):Bool:=ok&&qC d.name && !decide (d.name=qY)&&(zK ds d.name).isNone&&decide (0 < d.cons.length)
def wW (ok:Bool) (ds:List (Bs×Data)) (d:Data):List (Bs×Data):=if (ok&&qC d.name && !decide (d.name=qY))=true then qS ds d.name d else ds
def z0d:Bool→List (Bs×Data)→List (Bs×Maker)→List Data→Bool×List (Bs×Data)×List (Bs×Maker)
 | ok,ds,m,[]=>(ok,ds,m)
 | ok,ds,m,d::l=>z0d (xD d.name (nN ok ds d) m d.cons).1 (wW ok ds d) (xD d.name (nN ok ds d) m d.cons).2 l
def sQ:Bool→List (Bs×Fun)→List Fun→Bool×List (Bs×Fun)
 | ok,m,[]=>(ok,m)
 | ok,m,f::l=>if (ok&&yU f.name)=true then sQ (zK m f.name).isNone (qS m f.name f) l else sQ false m l
def sR:Bool→List (Bs×Bs)→List Param→Bool×List (Bs×Bs)
 | ok,m,[]=>(ok,m)
 | ok,m,p::l=>if (ok&&yU p.name)=true then sR (zK m p.name).isNone (qS m p.name p.type) l else sR false m l
def dsP (c:Core):Bool×List (Bs×Data)×List (Bs×Maker):=z0d true [] [] (truthsD::c.datas)
def fsP (c:Core):Bool×List (Bs×Fun):=sQ (dsP c).1 [] c.funs
def isP (c:Core):Bool×List (Bs×Bs):=sR (fsP c).1 [] c.inputs
def yL (c:Core):Table:=⟨c,(dsP c).2.1,(dsP c).2.2,(fsP c).2,(isP c).2⟩
def aD (c:Core):Bool:=(isP c).1
def sN (ps:List Param):Scope:=ps.foldl (fun s p=>qX s p.name p.type) []
def mE (T:Table) (f:Fun):Bool :=
 f.params.all (fun p=>kT T p.type)&&kT T f.result&&dD yU [] (f.params.map Param.name++yC f.body)&&decide ((zI T f.body (sN f.params)).1=f.result)
def mZ (T:Table):List Bs→List Bs→Bool
 | _,[]=>true
 | seen,o::os=>match zK T.funs o with
  | none=>false
  | some f=>decide (f.params.length=0) && !has seen o&&mZ T (seen++[o]) os
def aT (T:Table) (d:Data):Bool:=d.cons.all fun x=>x.fields.all fun s=>kT T s
def jA (c:Core):Bool :=
 aD c&&decide (c.outputs≠[])&&c.datas.all (aT (yL c))&&c.inputs.all (fun p=>kF c.datas p.type)&&c.funs.all (mE (yL c))&&mZ (yL c) [] c.outputs
def zP (c:Core):Int:=if c.funs.any (fun f=>wS 250 f.body) then 6 else if xF c then 2 else if jA c then 0 else 80
end Go.Sw

namespace Go.Sw
section
variable (T:Table) (e:Ex) (s:Scope)
theorem z0h (h:e.kind=1):zI T e s=(gY e,s):=by
 cases e with | mk k n nm args arms=>simp only [Ex.kind] at h;subst h;simp [zI]
theorem z0i (h:e.kind=2):zI T e s=(pV e s,s):=by
 cases e with | mk k n nm args arms=>simp only [Ex.kind] at h;subst h;simp [zI]
theorem z0f (h:e.kind=3):zI T e s=(sA T e,s):=by
 cases e with | mk k n nm args arms=>simp only [Ex.kind] at h;subst h;simp [zI]
theorem sS (h:e.kind=5):zI T e s=nR T e s:=by
 cases e with
 | mk k n nm args arms =>
  simp only [Ex.kind] at h;subst h
  simp only [zI,nR,Ex.name,Ex.args,vR]
  simp only [show ¬(5:Int)=1 by decide,show ¬(5:Int)=2 by decide,show ¬(5:Int)=3 by decide,show ¬(5:Int)=4 by decide,if_false,if_true]
  cases zK T.funs nm with
  | none=>rfl
  | some m =>
   simp only
   by_cases hb:qN (.mk 5 n nm args arms) false true (-1) 0=true
   ·by_cases hl:args.length=m.params.length
    ·simp [hb,hl]
    ·simp [hb,hl]
   ·simp [hb]
theorem z0g (h:e.kind=6):zI T e s=z1k T e s:=by
 cases e with
 | mk k n nm args arms=>simp only [Ex.kind] at h;subst h;simp [zI,z1k,Ex.name,Ex.args]
theorem sT (h:e.kind=7):zI T e s=jT T e s:=by
 cases e with
 | mk k n nm args arms=>simp only [Ex.kind] at h;subst h;simp [zI,jT,Ex.args,Ex.arms];rfl
theorem z4z (h:e.kind=8):zI T e s=mR T e s:=by
 cases e with
 | mk k n nm args arms =>
  simp only [Ex.kind] at h;subst h
  simp only [zI,mR,Ex.name,Ex.args,vR]
  simp only [show ¬(8:Int)=1 by decide,show ¬(8:Int)=2 by decide,show ¬(8:Int)=3 by decide,show ¬(8:Int)=4 by decide,show ¬(8:Int)=5 by decide,show ¬(8:Int)=6 by decide,show ¬(8:Int)=7 by decide,if_false,if_true]
  by_cases hb:qN (.mk 8 n nm args arms) false true 2 0=true
  ·have hl:args.length=2:=kZ (n:=2) hb
   simp [hb,hl]
  ·simp [hb]
theorem sU (h1:e.kind≠1) (h2:e.kind≠2) (h3:e.kind≠3) (h4:e.kind≠4) (h5:e.kind≠5) (h6:e.kind≠6) (h7:e.kind≠7) (h8:e.kind≠8):zI T e s=(sNo,s):=by
 cases e with
 | mk k n nm args arms=>simp only [Ex.kind] at *;simp [zI, *]
end
theorem jX {α:Type} (s:List (Bs×α)) (k n:Bs) (x:α):zK (qX s k x) n=if n=k then some x else zK s n:=by
 induction s with
 | nil=>simp [qX,zK]
 | cons p s ih =>
  obtain ⟨q,y⟩:=p
  simp only [qX]
  split
  ·subst_vars;simp only [zK];split <;> rfl
  ·simp only [zK,ih]
   by_cases h1:n=q
   ·subst h1
    rename_i h2
    rw [if_pos rfl,if_pos rfl,if_neg (fun e=>h2 e.symm)]
   ·rw [if_neg h1,if_neg h1]
theorem gT {α:Type}:∀{s:List (Bs×α)} {k:Bs} {x:α},zK s k=none→qX s k x=s++[(k,x)]
 | [],_,_,_=>rfl
 | (q,y)::s,k,x,h=>by
  simp only [zK] at h
  split at h
  ·cases h
  ·rename_i hne
   simp only [qX,if_neg hne,List.cons_append,gT h]
theorem y0x {α:Type}:∀{s:List (Bs×α)} {k:Bs} {x:α} {r:List (Bs×α)},zK s k=none→z6k (s++(k,x)::r) k=s++r
 | [],_,_,_,_=>by simp [z6k]
 | (q,y)::s,k,x,r,h=>by
  simp only [zK] at h
  split at h
  ·cases h
  ·rename_i hne
   simp only [List.cons_append,z6k,if_neg hne,y0x h]
theorem y4j {α:Type}:∀{s:List (Bs×α)} {k:Bs} {r:List (Bs×α)},zK s k=none→zK (s++r) k=zK r k
 | [],_,_,_=>rfl
 | (q,y)::s,k,r,h=>by
  simp only [zK] at h
  split at h
  ·cases h
  ·rename_i hne
   simp only [List.cons_append,zK,if_neg hne,y4j h]
def Fresh (s:Scope) (l:List Bs):Prop:=∀n∈l,zK s n=none
theorem Fresh.sub {s:Scope} {l m:List Bs} (h:Fresh s l) (hs:∀n∈m,n∈l):Fresh s m:=fun n hn=>h n (hs n hn)
theorem z2k:∀{vs fs:List Bs} {s:Scope},vs.length=fs.length→vs.Nodup→Fresh s vs→putAll s vs fs=s++vs.zip fs
 | [],[],s,_,_,_=>by simp [putAll]
 | v::vs,f::fs,s,hl,hn,hf=>by
  have h1:=hf v List.mem_cons_self
  rw [cY,gT h1,z2k (by simpa using hl) (List.nodup_cons.1 hn).2]
  ·simp
  ·intro n hn'
   rw [y4j (hf n (List.mem_cons_of_mem _ hn'))]
   have:n≠v:=fun e=>(List.nodup_cons.1 hn).1 (e▸hn')
   simp [zK,this]
 | [],_::_,_,hl,_,_=>by simp at hl
 | _::_,[],_,hl,_,_=>by simp at hl
theorem z9n:∀{vs fs:List Bs} {s:Scope},vs.length=fs.length→vs.Nodup→Fresh s vs→aP (s++vs.zip fs) vs=s
 | [],[],s,_,_,_=>by simp [aP]
 | v::vs,f::fs,s,hl,hn,hf=>by
  simp only [List.zip_cons_cons,aP]
  rw [y0x (hf v List.mem_cons_self)]
  exact z9n (by simpa using hl) (List.nodup_cons.1 hn).2 (hf.sub fun n h=>List.mem_cons_of_mem _ h)
 | [],_::_,_,hl,_,_=>by simp at hl
 | _::_,[],_,hl,_,_=>by simp at hl
theorem cD:∀{vs fs:List Bs} {s:Scope} {n:Bs},n∉vs→zK (putAll s vs fs) n=zK s n
 | [],_,_,_,_=>by rw [xU]
 | v::vs,[],_,_,_=>rfl
 | v::vs,f::fs,s,n,h=>by
  rw [cY,cD (fun e=>h (List.mem_cons_of_mem _ e)),jX,if_neg (fun e=>h (by rw [e];exact List.mem_cons_self))]
def All2 {α β:Type} (R:α→β→Prop):List α→List β→Prop
 | [],[]=>True
 | x::xs,y::ys=>R x y∧All2 R xs ys
 | _,_=>False
theorem All2.length {α β:Type} {R:α→β→Prop}:∀{xs:List α} {ys:List β},All2 R xs ys→xs.length=ys.length
 | [],[],_=>rfl
 | _::_,_::_,h=>by simp [All2.length h.2]
 | [],_::_,h=>h.elim
 | _::_,[],h=>h.elim
theorem All2.get {α β:Type} {R:α→β→Prop}:∀{xs:List α} {ys:List β} {i:Nat} {x:α} {y:β},All2 R xs ys→xs[i]? = some x→ys[i]? = some y→R x y
 | [],_,_,_,_,_,h,_=>by simp at h
 | _::_,[],_,_,_,h,_,_=>h.elim
 | _::_,_::_,0,_,_,h,h1,h2=>by
  simp only [List.getElem?_cons_zero,Option.some.injEq] at h1 h2
  subst h1;subst h2;exact h.1
 | _::_,_::_,i+1,_,_,h,h1,h2=>by
  simp only [List.getElem?_cons_succ] at h1 h2
  exact All2.get h.2 h1 h2
theorem All2.mono {α β:Type} {R R':α→β→Prop}:∀{xs:List α} {ys:List β},All2 R xs ys→(∀x∈xs,∀y,R x y→R' x y)→All2 R' xs ys
 | [],[],_,_=>trivial
 | x::_,_::_,h,hR=>⟨hR x List.mem_cons_self _ h.1,h.2.mono fun x hx y=>hR x (List.mem_cons_of_mem _ hx) y⟩
 | [],_::_,h,_=>h.elim
 | _::_,[],h,_=>h.elim
def Ty (T:Table) (e:Ex) (s:Scope) (t:Bs):Prop:=(zI T e s).1=t∧t≠sNo
def z0p (T:Table) (e:Ex):Prop:=∀s,(yC e).Nodup→Fresh s (yC e)→(zI T e s).1≠sNo→(zI T e s).2=s
theorem jG {l m:List Bs} (h:(l++m).Nodup):l.Nodup∧m.Nodup∧∀n∈l,n∉m:=by
 rw [List.nodup_append] at h
 exact ⟨h.1,h.2.1,fun n hl hm=>h.2.2 n hl n hm rfl⟩
theorem q3y {T:Table}:∀{xs:List Ex} {s:Scope} {ts:List Bs},(∀x∈xs,z0p T x)→xs.length=ts.length→(bindPs xs).Nodup→Fresh s (bindPs xs)→(allQ T xs s ts).1=true →
  (allQ T xs s ts).2=s∧All2 (fun x t=>Ty T x s t) xs ts
 | [],s,[],_,_,_,_,_=>⟨rfl,trivial⟩
 | x::xs,s,t::ts,hk,hl,hn,hf,h=>by
  rw [y8o] at h ⊢
  split at h
  ·cases h
  ·rename_i hc
   rw [if_neg hc]
   have hn':=jG (show (yC x++bindPs xs).Nodup from hn)
   have h1:(zI T x s).1≠sNo:=fun e=>hc (.inl e)
   have h2:(zI T x s).1=t:=Classical.byContradiction fun e=>hc (.inr e)
   have h3:=hk x List.mem_cons_self s hn'.1 (hf.sub fun n h=>List.mem_append.2 (.inl h)) h1
   rw [h3] at h ⊢
   have h4:=q3y (fun y hy=>hk y (List.mem_cons_of_mem _ hy)) (by simpa using hl) hn'.2.1 (hf.sub fun n h=>List.mem_append.2 (.inr h)) h
   exact ⟨h4.1,⟨h2,h2▸h1⟩,h4.2⟩
 | [],_,_::_,_,hl,_,_,_=>by simp at hl
 | _::_,_,[],_,hl,_,_,_=>by simp at hl
theorem z0q {T:Table} {xs:List Ex} {s:Scope} {ts:List Bs} (hk:∀x∈xs,z0p T x) (hn:(bindPs xs).Nodup) (hf:Fresh s (bindPs xs)) (h:(vR T xs s ts).1=true) :
  (vR T xs s ts).2=s∧All2 (fun x t=>Ty T x s t) xs ts:=by
 unfold vR at h ⊢
 split at h
 ·rename_i hl;rw [if_pos hl];exact q3y hk hl hn hf h
 ·cases h
def ArmOk (T:Table) (s:Scope) (t:Bs) (a:Arm) (c:Con):Prop:=a.con=c.name∧a.vars.length=c.fields.length∧Ty T a.body (putAll s a.vars c.fields) t
theorem j3u {T:Table} {a:Arm} {c:Con} {s:Scope} (hk:z0p T a.body) (hl:a.vars.length=c.fields.length) (hn:(a.vars++yC a.body).Nodup) (hf:Fresh s (a.vars++yC a.body))
  (h:(mT T a c s).1≠sNo):(mT T a c s).2=s:=by
 have hn':=jG hn
 have hv:Fresh s a.vars:=hf.sub fun n h=>List.mem_append.2 (.inl h)
 have h1:=hk (putAll s a.vars c.fields) hn'.2.1 (fun n hb=>by
  rw [cD (fun hm=>hn'.2.2 n hm hb)];exact hf n (List.mem_append.2 (.inr hb))) h
 simp only [mT,h1]
 rw [z2k hl hn'.1 hv]
 exact z9n hl hn'.1 hv
theorem z0b {T:Table} {t:Bs} (ht:t≠sNo):∀{az:List Arm} {cs:List Con} {first:Bool} {out:Bs} {s:Scope},(∀a∈az,z0p T a.body)→cs.length=az.length→(bindPa az).Nodup→Fresh s (bindPa az) →
  (splitP T az cs first out s).1=t→(splitP T az cs first out s).2=s∧All2 (fun a c=>ArmOk T s t a c) az cs∧(first=false∨az=[]→out=t)
 | [],[],first,out,s,_,_,_,_,h=>⟨rfl,trivial,fun _=>h⟩
 | a::az,c::cs,first,out,s,hk,hl,hn,hf,h=>by
  rw [jS] at hn hf
  have hn':=jG hn
  rw [jI] at h ⊢
  split at h
  ·exact absurd h.symm ht
  ·rename_i hc
   rw [if_neg hc]
   split at h
   ·exact absurd h.symm ht
   ·rename_i hd
    rw [if_neg hd]
    have hc1:a.con=c.name:=Classical.byContradiction fun e=>hc (.inl e)
    have hc2:a.vars.length=c.fields.length:=Classical.byContradiction fun e=>hc (.inr e)
    have h1:(mT T a c s).1≠sNo:=fun e=>hd (.inl e)
    have h3:=j3u (hk a List.mem_cons_self) hc2 hn'.1 (hf.sub fun n h=>List.mem_append.2 (.inl h)) h1
    rw [h3] at h ⊢
    have h4:=z0b ht (fun b hb=>hk b (List.mem_cons_of_mem _ hb)) (by simpa using hl) hn'.2.1 (hf.sub fun n h=>List.mem_append.2 (.inr h)) h
    have h5:(mT T a c s).1=t:=h4.2.2 (.inl rfl)
    refine ⟨h4.1,⟨⟨hc1,hc2,h5,ht⟩,h4.2.1⟩,fun hx =>?_⟩
    rcases hx with hx | hx
    ·rw [← h5]
     exact (Classical.byContradiction fun e=>hd (.inr ⟨hx,e⟩):(mT T a c s).1=out).symm
    ·cases hx
 | [],_::_,_,_,_,_,hl,_,_,_=>by simp at hl
 | _::_,[],_,_,_,_,hl,_,_,_=>by simp at hl
theorem z1f (T:Table) (hT0:zK T.datas sNo=none):∀(n:Nat) (e:Ex),e.sz < n→z0p T e
 | 0,_,h=>by omega
 | n+1,e,hsz=>by
  intro s hn hf h
  have hka:∀x∈e.args,z0p T x:=fun x hx=>z1f T hT0 n x (by have:=Ex.lt_args hx;omega)
  have hkb:∀a∈e.arms,z0p T a.body:=fun a ha=>z1f T hT0 n a.body (by have:=Ex.lt_arms ha;omega)
  rw [nI] at hn hf
  have hn1:=jG hn
  have hn2:=jG hn1.1
  have hfa:Fresh s (bindPs e.args):=hf.sub fun m hm=>List.mem_append.2 (.inl (List.mem_append.2 (.inr hm)))
  have hfb:Fresh s (bindPa e.arms):=hf.sub fun m hm=>List.mem_append.2 (.inr hm)
  by_cases h1:e.kind=1
  ·rw [z0h T e s h1]
  by_cases h2:e.kind=2
  ·rw [z0i T e s h2]
  by_cases h3:e.kind=3
  ·rw [z0f T e s h3]
  by_cases h4:e.kind=4
  ·rw [z0e T e s h4] at h ⊢
   unfold tP at h ⊢
   split at h
   ·rename_i hm;simp only [hm] at h ⊢
   ·rename_i m hm
    try simp only [hm]
    split at h
    ·rename_i hb
     rw [if_pos hb]
     by_cases ha:(vR T e.args s m.con.fields).1=true
     ·exact (z0q hka hn2.2.1 hfa ha).1
     ·simp [ha] at h
    ·exact absurd rfl h
  by_cases h5:e.kind=5
  ·rw [sS T e s h5] at h ⊢
   unfold nR at h ⊢
   split at h
   ·rename_i hm;simp only [hm] at h ⊢
   ·rename_i m hm
    try simp only [hm]
    split at h
    ·rename_i hb
     rw [if_pos hb]
     by_cases ha:(vR T e.args s (m.params.map Param.type)).1=true
     ·exact (z0q hka hn2.2.1 hfa ha).1
     ·simp [ha] at h
    ·exact absurd rfl h
  by_cases h6:e.kind=6
  ·rw [z0g T e s h6] at h ⊢
   unfold z1k at h ⊢
   split at h
   ·rename_i hb
    rw [if_pos hb]
    have hl:=kZ (n:=2) hb
    obtain ⟨x,hx⟩:=yF (l:=e.args) (i:=0) (by omega)
    obtain ⟨y,hy⟩:=yF (l:=e.args) (i:=1) (by omega)
    have hxy:e.args=[x,y]:=by
     cases ha:e.args with
     | nil=>rw [ha] at hl;simp at hl
     | cons a l =>
      cases l with
      | nil=>rw [ha] at hl;simp at hl
      | cons b l =>
       rw [ha] at hl hx hy
       simp only [List.length_cons] at hl
       have:l=[]:=List.eq_nil_of_length_eq_zero (by omega)
       subst this
       simp only [List.getElem?_cons_zero,List.getElem?_cons_succ,Option.some.injEq] at hx hy
       rw [hx,hy]
    by_cases h0:(zI T x s).1=sNo
    ·rw [q2q hx h0] at h;exact absurd rfl h
    ·rw [y0y hx hy h0] at h ⊢
     simp only [if_pos h6,hxy,bindPs,List.append_nil] at hn hf
     have hm1:=jG hn
     have hm2:=jG hm1.1
     have hm3:=jG hm2.2.1
     have e1:=hka x (by rw [hxy];exact List.mem_cons_self) s hm3.1 (hf.sub fun m hm=>by simp [hm]) h0
     rw [e1] at h ⊢
     have hfe:zK s e.name=none:=hf e.name (by simp)
     have hkey:Fresh (qX s e.name (zI T x s).1) (yC y):=fun m hm=>by
      rw [jX,if_neg]
      ·exact hf m (by simp [hm])
      ·rintro rfl
       exact hm2.2.2 e.name (by simp) (by simp [hm])
     have e2:=hka y (by rw [hxy];simp) _ hm3.2.1 hkey h
     simp only [e2]
     rw [gT hfe,y0x hfe,List.append_nil]
   ·exact absurd rfl h
  by_cases h7:e.kind=7
  ·rw [sT T e s h7] at h ⊢
   unfold jT at h ⊢
   split at h
   ·rename_i hb
    rw [if_pos hb]
    have hl:=kZ (n:=1) hb
    obtain ⟨x,hx⟩:=yF (l:=e.args) (i:=0) (by omega)
    have hxy:e.args=[x]:=by
     cases ha:e.args with
     | nil=>rw [ha] at hl;simp at hl
     | cons a l =>
      rw [ha] at hl hx
      simp only [List.length_cons] at hl
      have:l=[]:=List.eq_nil_of_length_eq_zero (by omega)
      subst this
      simp only [List.getElem?_cons_zero,Option.some.injEq] at hx
      rw [hx]
    rw [jE hx] at h ⊢
    split at h
    ·exact absurd rfl h
    ·rename_i d hd
     try simp only [hd]
     split at h
     ·rename_i hle
      rw [if_pos hle]
      by_cases h0:(zI T x s).1=sNo
      ·rw [h0,hT0] at hd;cases hd
      ·rw [hxy] at hn2 hfa
       simp only [bindPs,List.append_nil] at hn2 hfa
       have e1:=hka x (by rw [hxy];exact List.mem_cons_self) s hn2.2.1 hfa h0
       rw [e1] at h ⊢
       exact (z0b h hkb hle hn1.2.1 hfb rfl).1
     ·exact absurd rfl h
   ·exact absurd rfl h
  by_cases h8:e.kind=8
  ·rw [z4z T e s h8] at h ⊢
   unfold mR at h ⊢
   split at h
   ·rename_i hb
    rw [if_pos hb]
    by_cases ha:(vR T e.args s [qY,qY]).1=true
    ·exact (z0q hka hn2.2.1 hfa ha).1
    ·simp [ha] at h
   ·exact absurd rfl h
  rw [sU T e s h1 h2 h3 h4 h5 h6 h7 h8]
end Go.Sw

namespace Go.Sw
theorem sInt_ne:qY≠sNo:=by decide
theorem q0z (ps:List Param):sN ps=putAll [] (ps.map Param.name) (ps.map Param.type):=by
 have:∀(ps:List Param) (s:Scope),ps.foldl (fun s p=>qX s p.name p.type) s=putAll s (ps.map Param.name) (ps.map Param.type):=by
  intro ps
  induction ps with
  | nil=>intro s;simp [xU]
  | cons p ps ih=>intro s;simp only [List.foldl_cons,List.map_cons,cY,ih]
 exact this ps []
theorem z0r {nm:Bs→Bool}:∀{l ds:List Bs},dD nm ds l=true→l.Nodup∧(∀n∈l,n∉ds)∧∀n∈l,nm n=true
 | [],_,_=>by simp
 | s::l,ds,h=>by
  simp only [dD,Bool.and_eq_true,Bool.not_eq_true'] at h
  obtain ⟨⟨h1,h2⟩,h3⟩:=h
  obtain ⟨k1,k2,k3⟩:=z0r h3
  have hs:s∉ds:=fun hm=>by
   have:has ds s=true:=by simp only [has,List.any_eq_true,decide_eq_true_eq];exact ⟨s,hm,rfl⟩
   rw [this] at h2;cases h2
  refine ⟨List.nodup_cons.2 ⟨fun hm=>k2 s hm (by simp),k1⟩,fun n hn =>?_,fun n hn =>?_⟩
  ·rcases List.mem_cons.1 hn with rfl | hn
   ·exact hs
   ·exact fun hm=>k2 n hn (List.mem_append.2 (.inl hm))
  ·rcases List.mem_cons.1 hn with rfl | hn
   ·exact h1
   ·exact k3 n hn
end Go.Sw

namespace Go.Sw
section
variable {α:Type}
def mO {β:Type} (key:β→Bs) (val:β→α) (l:List β):List (Bs×α):=l.map fun x=>(key x,val x)
theorem q4u {β:Type} {key:β→Bs} {val:β→α}:∀{l:List β} {x:β},(l.map key).Nodup→x∈l→zK (mO key val l) (key x)=some (val x)
 | y::l,x,hn,h=>by
  simp only [List.map_cons,List.nodup_cons] at hn
  simp only [mO,List.map_cons,zK]
  rcases List.mem_cons.1 h with rfl | h
  ·rw [if_pos rfl]
  ·rw [if_neg (fun e=>hn.1 (by rw [← e];exact List.mem_map_of_mem h))]
   exact q4u hn.2 h
theorem kJ {β:Type} {key:β→Bs} {val:β→α}:∀{l:List β} {n:Bs} {v:α},zK (mO key val l) n=some v→∃x∈l,key x=n∧val x=v
 | [],_,_,h=>by simp [mO,zK] at h
 | y::l,n,v,h=>by
  simp only [mO,List.map_cons,zK] at h
  split at h
  ·simp only [Option.some.injEq] at h;rename_i e;exact ⟨y,List.mem_cons_self,e.symm,h⟩
  ·obtain ⟨x,h1,h2⟩:=kJ h;exact ⟨x,List.mem_cons_of_mem _ h1,h2⟩
theorem jL {s r:List (Bs×α)} {n:Bs} (h:zK (s++r) n=none):zK s n=none∧zK r n=none:=by
 induction s with
 | nil=>exact ⟨rfl,h⟩
 | cons p s ih =>
  obtain ⟨k,x⟩:=p
  simp only [List.cons_append,zK] at h ⊢
  split at h
  ·cases h
  ·rename_i hne;rw [if_neg hne];exact ih h
theorem cV {k n:Bs} {x:α}:zK [(k,x)] n=none↔n≠k:=by
 simp [zK]
end
theorem tJ {α:Type} {m:List (Bs×α)} {s:Bs} {x:α} (h:zK m s=none):qS m s x=m++[(s,x)]:=by
 unfold qS;rw [h];exact gT h
theorem y5y (dn:Bs):∀{l:List Con} {ok:Bool} {m:List (Bs×Maker)},(xD dn ok m l).1=true →
  ok=true∧(xD dn ok m l).2=m++mO Con.name (fun x=>⟨dn,x⟩) l∧(∀x∈l,qC x.name=true∧zK m x.name=none)∧(l.map Con.name).Nodup
 | [],ok,m,h=>⟨h,by simp [xD,mO],by simp,by simp⟩
 | x::l,ok,m,h=>by
  simp only [xD] at h ⊢
  split at h
  ·rename_i hc
   rw [if_pos hc]
   simp only [Bool.and_eq_true] at hc
   obtain ⟨h1,h2,h3,h4⟩:=y5y dn h
   have hx:zK m x.name=none:=by simpa using h1
   rw [tJ hx] at h2 h3 ⊢
   refine ⟨hc.1,by rw [h2];simp [mO],fun y hy =>?_,?_⟩
   ·rcases List.mem_cons.1 hy with rfl | hy
    ·exact ⟨hc.2,hx⟩
    ·exact ⟨(h3 y hy).1,(jL (h3 y hy).2).1⟩
   ·simp only [List.map_cons,List.nodup_cons]
    refine ⟨fun hm =>?_,h4⟩
    obtain ⟨y,hy,e⟩:=List.mem_map.1 hm
    have:=(jL (h3 y hy).2).2
    rw [cV] at this
    exact this e
  ·have:=(y5y dn h).1;cases this
def z9k (l:List Data):List (Bs×Maker):=(l.map fun d=>mO Con.name (fun x=>(⟨d.name,x⟩:Maker)) d.cons).flatten
theorem q7l:∀{l:List Data} {ok:Bool} {ds:List (Bs×Data)} {m:List (Bs×Maker)},(z0d ok ds m l).1=true →
  ok=true∧(z0d ok ds m l).2.1=ds++mO Data.name id l∧(z0d ok ds m l).2.2=m++z9k l ∧
  (∀d∈l,qC d.name=true∧d.name≠qY∧zK ds d.name=none∧(d.cons.map Con.name).Nodup∧∀x∈d.cons,qC x.name=true∧zK m x.name=none)∧(l.map Data.name).Nodup ∧
  ((l.map fun d=>d.cons.map Con.name).flatten).Nodup
 | [],ok,ds,m,h=>⟨h,by simp [z0d,mO],by simp [z0d,z9k],by simp,by simp,by simp⟩
 | d::l,ok,ds,m,h=>by
  simp only [z0d] at h ⊢
  obtain ⟨h1,h2,h3,h4,h5,h6⟩:=q7l h
  obtain ⟨g1,g2,g3,g4⟩:=y5y d.name h1
  simp only [nN,Bool.and_eq_true,decide_eq_true_eq,Bool.not_eq_true',decide_eq_false_iff_not,Option.isNone_iff_eq_none] at g1
  obtain ⟨⟨⟨⟨k1,k2⟩,k3⟩,k4⟩,k5⟩:=g1
  have hp:wW ok ds d=ds++[(d.name,d)]:=by
   unfold wW
   rw [if_pos (by simp [k1,k2,k3])]
   exact tJ k4
  rw [hp,g2] at h2 h3 h4 ⊢
  refine ⟨k1,by rw [h2];simp [mO],by rw [h3];simp [z9k],fun e he =>?_,?_,?_⟩
  ·rcases List.mem_cons.1 he with rfl | he
   ·exact ⟨k2,k3,k4,g4,fun x hx=>g3 x hx⟩
   ·obtain ⟨j1,j2,j3,j4,j5⟩:=h4 e he
    exact ⟨j1,j2,(jL j3).1,j4,fun x hx=>⟨(j5 x hx).1,(jL (j5 x hx).2).1⟩⟩
  ·simp only [List.map_cons,List.nodup_cons]
   refine ⟨fun hm =>?_,h5⟩
   obtain ⟨e,he,e1⟩:=List.mem_map.1 hm
   have:=(jL (h4 e he).2.2.1).2
   rw [cV] at this
   exact this e1
  ·simp only [List.map_cons,List.flatten_cons]
   rw [List.nodup_append]
   refine ⟨g4,h6,fun n hn m' hm' e =>?_⟩
   subst e
   obtain ⟨x,hx,rfl⟩:=List.mem_map.1 hn
   obtain ⟨ns,hns,hx2⟩:=List.mem_flatten.1 hm'
   obtain ⟨e,he,rfl⟩:=List.mem_map.1 hns
   obtain ⟨y,hy,hxy⟩:=List.mem_map.1 hx2
   have:=(jL ((h4 e he).2.2.2.2 y hy).2).2
   rw [hxy] at this
   have h7:zK (mO Con.name (fun x=>(⟨d.name,x⟩:Maker)) d.cons) x.name=some ⟨d.name,x⟩:=q4u (val:=fun x=>(⟨d.name,x⟩:Maker)) g4 hx
   rw [h7] at this;cases this
theorem z2x:∀{l:List Fun} {ok:Bool} {m:List (Bs×Fun)},(sQ ok m l).1=true →
  ok=true∧(sQ ok m l).2=m++mO Fun.name id l∧(∀f∈l,yU f.name=true∧zK m f.name=none)∧(l.map Fun.name).Nodup
 | [],ok,m,h=>⟨h,by simp [sQ,mO],by simp,by simp⟩
 | x::l,ok,m,h=>by
  simp only [sQ] at h ⊢
  split at h
  ·rename_i hc
   rw [if_pos hc]
   simp only [Bool.and_eq_true] at hc
   obtain ⟨h1,h2,h3,h4⟩:=z2x h
   have hx:zK m x.name=none:=by simpa using h1
   rw [tJ hx] at h2 h3 ⊢
   refine ⟨hc.1,by rw [h2];simp [mO],fun y hy =>?_,?_⟩
   ·rcases List.mem_cons.1 hy with rfl | hy
    ·exact ⟨hc.2,hx⟩
    ·exact ⟨(h3 y hy).1,(jL (h3 y hy).2).1⟩
   ·simp only [List.map_cons,List.nodup_cons]
    refine ⟨fun hm =>?_,h4⟩
    obtain ⟨y,hy,e⟩:=List.mem_map.1 hm
    have:=(jL (h3 y hy).2).2
    rw [cV] at this
    exact this e
  ·have:=(z2x h).1;cases this
theorem z2y:∀{l:List Param} {ok:Bool} {m:List (Bs×Bs)},(sR ok m l).1=true →
  ok=true∧(sR ok m l).2=m++mO Param.name Param.type l∧(∀p∈l,yU p.name=true∧zK m p.name=none)∧(l.map Param.name).Nodup
 | [],ok,m,h=>⟨h,by simp [sR,mO],by simp,by simp⟩
 | x::l,ok,m,h=>by
  simp only [sR] at h ⊢
  split at h
  ·rename_i hc
   rw [if_pos hc]
   simp only [Bool.and_eq_true] at hc
   obtain ⟨h1,h2,h3,h4⟩:=z2y h
   have hx:zK m x.name=none:=by simpa using h1
   rw [tJ hx] at h2 h3 ⊢
   refine ⟨hc.1,by rw [h2];simp [mO],fun y hy =>?_,?_⟩
   ·rcases List.mem_cons.1 hy with rfl | hy
    ·exact ⟨hc.2,hx⟩
    ·exact ⟨(h3 y hy).1,(jL (h3 y hy).2).1⟩
   ·simp only [List.map_cons,List.nodup_cons]
    refine ⟨fun hm =>?_,h4⟩
    obtain ⟨y,hy,e⟩:=List.mem_map.1 hm
    have:=(jL (h3 y hy).2).2
    rw [cV] at this
    exact this e
  ·have:=(z2y h).1;cases this
structure Right (c:Core):Prop where
 datas:(yL c).datas=mO Data.name id (truthsD::c.datas)
 cons:(yL c).cons=z9k (truthsD::c.datas)
 funs:(yL c).funs=mO Fun.name id c.funs
 inputs:(yL c).inputs=mO Param.name Param.type c.inputs
 dN:∀d∈truthsD::c.datas,qC d.name=true∧d.name≠qY∧(d.cons.map Con.name).Nodup∧∀x∈d.cons,qC x.name=true
 dU:((truthsD::c.datas).map Data.name).Nodup
 cU:(((truthsD::c.datas).map fun d=>d.cons.map Con.name).flatten).Nodup
 fN:∀f∈c.funs,yU f.name=true
 fU:(c.funs.map Fun.name).Nodup
 iN:∀p∈c.inputs,yU p.name=true
 iU:(c.inputs.map Param.name).Nodup
 outs:c.outputs≠[]
 fields:∀d∈c.datas,aT (yL c) d=true
 inT:∀p∈c.inputs,kF c.datas p.type=true
 fOk:∀f∈c.funs,mE (yL c) f=true
 oOk:mZ (yL c) [] c.outputs=true
theorem x2m {c:Core} (h:jA c=true):Right c:=by
 simp only [jA,Bool.and_eq_true,decide_eq_true_eq,List.all_eq_true] at h
 obtain ⟨⟨⟨⟨⟨h1,h2⟩,h3⟩,h4⟩,h5⟩,h6⟩:=h
 obtain ⟨i1,i2,i3,i4⟩:=z2y (show (sR (fsP c).1 [] c.inputs).1=true from h1)
 obtain ⟨f1,f2,f3,f4⟩:=z2x (show (sQ (dsP c).1 [] c.funs).1=true from i1)
 obtain ⟨_,d2,d3,d4,d5,d6⟩:=q7l (show (z0d true [] [] (truthsD::c.datas)).1=true from f1)
 exact { datas:=d2,cons:=d3,funs:=f2,inputs:=i2,dN:=fun d hd=>⟨(d4 d hd).1,(d4 d hd).2.1,(d4 d hd).2.2.2.1,fun x hx=>((d4 d hd).2.2.2.2 x hx).1⟩,dU:=d5,cU:=d6,fN:=fun f hf=>(f3 f hf).1,fU:=f4,iN:=fun p hp=>(i3 p hp).1,iU:=i4,outs:=h2,fields:=h3,inT:=h4,fOk:=h5,oOk:=h6 }
theorem q5x:qC sNo=false:=by decide
theorem y8x {l:List Data} {n:Bs} {m:Maker} (h:zK (z9k l) n=some m):∃d∈l,m.data=d.name∧m.con∈d.cons∧m.con.name=n:=by
 induction l with
 | nil=>simp [z9k,zK] at h
 | cons e l ih =>
  simp only [z9k,List.map_cons,List.flatten_cons] at h
  cases hg:zK (mO Con.name (fun x=>(⟨e.name,x⟩:Maker)) e.cons) n with
  | none =>
   rw [y4j hg] at h
   obtain ⟨d,hd,r⟩:=ih h
   exact ⟨d,List.mem_cons_of_mem _ hd,r⟩
  | some v =>
   have hv:zK (mO Con.name (fun x=>(⟨e.name,x⟩:Maker)) e.cons++(l.map fun d=>mO Con.name (fun x=>(⟨d.name,x⟩:Maker)) d.cons).flatten) n=some v:=by
    clear h ih
    generalize mO Con.name (fun x=>(⟨e.name,x⟩:Maker)) e.cons=s at hg ⊢
    induction s with
    | nil=>cases hg
    | cons p s ih2 =>
     obtain ⟨k,y⟩:=p
     simp only [List.cons_append,zK] at hg ⊢
     split at hg
     ·rename_i h;rw [if_pos h];exact hg
     ·rename_i h;rw [if_neg h];exact ih2 hg
   rw [hv] at h
   simp only [Option.some.injEq] at h;subst h
   obtain ⟨y,hy,h1,h2⟩:=kJ hg
   subst h2
   exact ⟨e,List.mem_cons_self,rfl,hy,h1⟩
theorem type_ne {c:Core} (hR:Right c) {t:Bs} (h:kT (yL c) t=true):t≠sNo:=by
 rintro rfl
 simp only [kT,Bool.or_eq_true,decide_eq_true_eq] at h
 rcases h with h | h
 ·rw [hR.datas] at h
  cases hg:zK (mO Data.name id (truthsD::c.datas)) sNo with
  | none=>rw [hg] at h;cases h
  | some d =>
   obtain ⟨x,hx,h1,_⟩:=kJ hg
   have:=(hR.dN x hx).1
   rw [h1,q5x] at this;cases this
 ·exact sInt_ne h.symm
theorem gS {c:Core} (h:zP c=0):Right c:=by
 unfold zP at h
 split at h
 ·cases h
 split at h
 ·cases h
 split at h
 ·rename_i hr;exact x2m hr
 ·cases h
end Go.Sw

namespace Go.Sw
end Go.Sw
