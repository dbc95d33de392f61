import GoSem.Instr.MapUpdate
import Derived.Lib.LaidTab
import Derived.Lib.ItoaNum
import Derived.Test.YtgkhcfjooiekkaaGreatDoorProg
import GoSem.Builtin.Delete
import Derived.Defers
import Derived.Lib.AtoiAll
import Derived.Lib.Replace
import Derived.Test.YtgkhcfjooiekkaaGreatDoorX00
set_option linter.unusedVariables false
set_option linter.unusedSimpArgs false
namespace Go.Sw
variable {P:Program} {n:Nat} {E:List (Nat×Value)} {D:List Deferred} {a:Act} {Φ Ψ:Fz} {K:List Res} {w:World}
variable {dst:Option Tmp} {ty:TypeId} {pos:String} {aft:Array Edge} {g:Option (Nat×Bool)}
variable {Kn:Value→World→Prop} {Qp:List PanicEntry→World→Prop}
def mget:List (Bs×Value)→Bs→Option Value
 | [],_=>none
 | (k,v)::m,s=>if s=k then some v else mget m s
def mput:List (Bs×Value)→Bs→Value→List (Bs×Value)
 | [],s,x=>[(s,x)]
 | (k,v)::m,s,x=>if s=k then (k,x)::m else (k,v)::mput m s x
def mdel:List (Bs×Value)→Bs→List (Bs×Value)
 | [],_=>[]
 | (k,v)::m,s=>if s=k then m else (k,v)::mdel m s
def MapAt (Φ:Fz) (b:Nat) (m:List (Bs×Value)):Prop:=∃es clock,Φ.obj b=some (.map es clock)∧MapOk es clock m
theorem MapAt.mono {b:Nat} {m:List (Bs×Value)} (h:MapAt Φ b m) (hl:Φ.Le Ψ):MapAt Ψ b m:=let ⟨es,c,h1,h2⟩:=h;⟨es,c,hl.obj _ _ h1,h2⟩
def midx:List (Bs×Value)→Bs→Nat→Option (Nat×Value)
 | [],_,_=>none
 | (k,v)::m,s,i=>if s=k then some (i,v) else midx m s (i+1)
theorem y0k (s t:ByteArray):(s==t)=decide (s=t):=by
 show (s.data==t.data)=_
 rw [Bool.eq_iff_iff];simp
 constructor
 ·intro h;cases s;cases t;simp_all
 ·rintro rfl;rfl
theorem findNow_midx:∀(es:List MapEntry) (m:List (Bs×Value)) (s:Bs) (i:Nat),es.map (fun e=>(e.key,e.val))=m.map (fun p=>(Value.string p.1,p.2)) →
  Instr.findNow .string (.string s) es i=some (midx m s i)
 | [],[],_,_,_=>rfl
 | [],_::_,_,_,h=>by simp at h
 | _::_,[],_,_,h=>by simp at h
 | e::es,(k,v)::m,s,i,h=>by
  simp only [List.map_cons,List.cons.injEq,Prod.mk.injEq] at h
  obtain ⟨⟨h1,h2⟩,h3⟩:=h
  simp only [Instr.findNow,h1,Instr.sameNow,y0k,midx]
  by_cases hs:s=k
  ·simp [hs,h2]
  ·simp only [hs,decide_false,if_false]
   exact findNow_midx es m s (i+1) h3
theorem midx_mget:∀(m:List (Bs×Value)) (s:Bs) (i:Nat),(midx m s i).map (·.2)=mget m s
 | [],_,_=>rfl
 | (k,v)::m,s,i=>by
  simp only [midx,mget]
  split
  ·rfl
  ·exact midx_mget m s (i+1)
theorem z4o {kt:TypeId} (hk:Under P kt .string) (e:Bool) (v:Value) (j:Nat):(Instr.checkKey e (j+1) kt v).run P w=.ok () w:=by
 simp [Instr.checkKey,Sem.run_bind,hk w]
theorem z6r {kt:TypeId} (hk:Under P kt .string) {es:Array MapEntry} {m:List (Bs×Value)} (h:es.toList.map (fun e=>(e.key,e.val))=m.map (fun p=>(Value.string p.1,p.2))) (s:Bs) :
  (Instr.findKey kt (.string s) es.toList).run P w=.ok (midx m s 0) w:=by
 simp [Instr.findKey,Sem.run_bind,hk w,findNow_midx _ _ _ _ h]
def z0i (ok:Bool) (z:Value):Option Value→Value
 | some v=>if ok then .tuple #[v,.bool true] else v
 | none=>if ok then .tuple #[z,.bool false] else z
theorem run_lookup {t kt et:TypeId} {b:Nat} {es:Array MapEntry} {clock:Nat} {m:List (Bs×Value)} {z:Value} (ht:Under P t (.map kt et)) (hk:Under P kt .string) (hz:ZeroT P et z)
  (hb:w.heap[b]? = some (.map es clock)) (h:MapOk es clock m) (s:Bs) (ok:Bool) :
  (Instr.lookup t (.map (some b)) (.string s) ok).run P w=.ok (z0i ok z (mget m s)) w:=by
 have h1:(getObj b).run P w=.ok (.map es clock) w:=by simp [getObj,Sem.run,hb]
 simp only [Instr.lookup,Sem.run_bind,ht w,Result.andThen_ok,h1,Sem.run_pure,z4o hk,z6r hk h.eq]
 have:=midx_mget m s 0
 cases hm:midx m s 0 with
 | none=>rw [hm] at this;simp only [Option.map_none] at this;rw [← this];simp [hz w,z0i]
 | some p=>rw [hm] at this;simp only [Option.map_some] at this;rw [← this];simp [z0i]
theorem z0o {t kt et:TypeId} {x y:Operand} {b:Nat} {m:List (Bs×Value)} {z:Value} {s:Bs} {ok:Bool} (ht:Under P t (.map kt et)) (hk:Under P kt .string) (hz:ZeroT P et z)
  (he:EnvR n E D a) (hm:Sees Φ K w) (hx:ev E x=some (.map (some b))) (hy:ev E y=some (.string s)) (hat:MapAt Φ b m):Ok P a (.lookup t x y ok) ty w (z0i ok z (mget m s)):=fun _ _ _ _=>by
 obtain ⟨es,clock,h1,h2⟩:=hat
 simp only [execOp,he.ev hx,he.ev hy]
 simp [Sem.run_bind,run_lookup ht hk hz (hm.fz _ _ h1) h2]
theorem z1c (i:Nat) {t kt et:TypeId} {x y:Operand} {b:Nat} {m:List (Bs×Value)} {z:Value} {s:Bs} {ok:Bool} (ht:Under P t (.map kt et)) (hk:Under P kt .string) (hz:ZeroT P et z)
  (he:EnvR n E D a) (hm:Sees Φ K w) (hx:ev E x=some (.map (some b))) (hy:ev E y=some (.string s)) (hK:kget K i=some (.mp b m)):Ok P a (.lookup t x y ok) ty w (z0i ok z (mget m s)):=fun _ _ _ _=>by
 obtain ⟨es,clock,h1,h2⟩:=hm.own _ (z1a hK)
 simp only [execOp,he.ev hx,he.ev hy]
 simp [Sem.run_bind,run_lookup ht hk hz h1 h2]
theorem y_lookup_nil {t kt et:TypeId} {x y:Operand} {z:Value} {s:Bs} {ok:Bool} (ht:Under P t (.map kt et)) (hk:Under P kt .string) (hz:ZeroT P et z)
  (he:EnvR n E D a) (hx:ev E x=some (.map none)) (hy:ev E y=some (.string s)):Ok P a (.lookup t x y ok) ty w (z0i ok z none):=fun _ _ _ _=>by
 simp only [execOp,he.ev hx,he.ev hy]
 simp only [Instr.lookup,Sem.run_bind,ht w,Result.andThen_ok,Sem.run_pure,z4o hk,Instr.findKey,hk w,Instr.findNow,hz w,bind_pure_comp,Sem.run_map]
 cases ok <;> simp [z0i,Sem.run_bind,Instr.findNow,hz w]
theorem eff_makeMap {t:TypeId} (hm:Mem Φ K w) (k:∀b w',Mem Φ (.mp b []::K) w'→Kn (.map (some b)) w'):Oper.eff P ⟨dst,.makeMap t none,ty,pos,aft,g⟩ a w Kn Qp:=by
 unfold Oper.eff
 have:(execOp a.eval ⟨dst,.makeMap t none,ty,pos,aft,g⟩).run P w=.ok (.value (.map (some w.heap.size))) { w with heap:=w.heap.push (.map #[] 0) }:=by
  simp [execOp,Instr.makeMap]
 rw [this]
 refine k _ _ (hm.more rfl rfl (fun b hb=>z7m hb) ⟨#[],0,by simp,by simp,by simp,by simp⟩ (by simp [Res.foot]))
theorem mput_eq:∀(m:List (Bs×Value)) (s:Bs) (v:Value) (j:Nat),mput m s v=match midx m s j with | none=>m++[(s,v)] | some (i,_)=>m.set (i - j) (s,v)
 | [],_,_,_=>rfl
 | (k,x)::m,s,v,j=>by
  simp only [mput,midx]
  split
  ·subst_vars;simp
  ·have:=mput_eq m s v (j+1)
   rw [this]
   have hge:∀(m:List (Bs×Value)) (j i:Nat) (y:Value),midx m s j=some (i,y)→j≤i:=by
    intro m
    induction m with
    | nil=>intro j i y h;simp [midx] at h
    | cons p m ih =>
     intro j i y h
     obtain ⟨k,x⟩:=p
     simp only [midx] at h
     split at h
     ·simp only [Option.some.injEq,Prod.mk.injEq] at h;omega
     ·have:=ih (j+1) i y h;omega
   cases hm:midx m s (j+1) with
   | none=>simp
   | some p =>
    obtain ⟨i,y⟩:=p
    have h1:=hge m (j+1) i y hm
    have e:i - j=(i - (j+1))+1:=by omega
    simp only [e,List.set_cons_succ]
theorem midx_key:∀(m:List (Bs×Value)) (s:Bs) (j i:Nat) (y:Value),midx m s j=some (i,y)→m[i - j]? = some (s,y)∧j≤i
 | [],_,_,_,_,h=>by simp [midx] at h
 | (k,x)::m,s,j,i,y,h=>by
  simp only [midx] at h
  split at h
  ·simp only [Option.some.injEq,Prod.mk.injEq] at h
   obtain ⟨rfl,rfl⟩:=h;subst_vars;simp
  ·obtain ⟨h1,h2⟩:=midx_key m s (j+1) i y h
   have e:i - j=(i - (j+1))+1:=by omega
   exact ⟨by rw [e];simpa using h1,by omega⟩
theorem eff_mapUpdate (i:Nat) {t kt et:TypeId} {x y z:Operand} {b:Nat} {m:List (Bs×Value)} {s:Bs} {v:Value} (ht:Under P t (.map kt et)) (hk:Under P kt .string)
  (he:EnvR n E D a) (hm:Mem Φ K w) (hx:ev E x=some (.map (some b))) (hy:ev E y=some (.string s)) (hz:ev E z=some v) (hK:kget K i=some (.mp b m))
  (k:∀w',Mem Φ (kset K i (.mp b (mput m s v))) w'→Kn undef w'):Oper.eff P ⟨dst,.mapUpdate t x y z,ty,pos,aft,g⟩ a w Kn Qp:=by
 obtain ⟨es,clock,hb,hok⟩:=hm.own _ (z1a hK)
 have h1:(getObj b).run P w=.ok (.map es clock) w:=by simp [getObj,Sem.run,hb]
 have hlt:b < w.heap.size:=(Array.getElem?_eq_some_iff.1 hb).1
 have hset:∀o,(setObj b o).run P w=.ok () { w with heap:=w.heap.setIfInBounds b o }:=fun o=>by simp only [setObj,Sem.run,hb]
 have fin:∀es' clock',MapOk es' clock' (mput m s v)→Mem Φ (kset K i (.mp b (mput m s v))) { w with heap:=w.heap.setIfInBounds b (.map es' clock') }:=fun es' clock' h =>
  hm.upd hK rfl rfl (fun c hc hne=>by simp only;rw [Array.getElem?_setIfInBounds_ne (fun e=>hne (by simp [Res.foot,e]))]) ⟨es',clock',by simp [hlt],h⟩ (.inl rfl)
 unfold Oper.eff
 simp only [execOp,he.ev hx,he.ev hy,he.ev hz,Instr.mapUpdate,Sem.run_bind,ht w,Result.andThen_ok,h1,z4o hk,z6r hk hok.eq]
 have hput:=mput_eq m s v 0
 cases hmx:midx m s 0 with
 | none =>
  rw [hmx] at hput
  simp only at hput
  simp only [hset,Result.andThen_ok,Sem.run_pure,z6a]
  refine k _ (fin _ _ ⟨?_,?_,?_⟩)
  ·rw [hput];simp [hok.eq]
  ·intro e he
   simp only [Array.toList_push,List.mem_append,List.mem_singleton] at he
   rcases he with he | rfl
   ·have:=hok.old e he;omega
   ·simp
  ·simp only [Array.toList_push,List.map_append,List.map_cons,List.map_nil]
   rw [List.nodup_append]
   refine ⟨hok.nodup,by simp,fun b hb c hc hbc =>?_⟩
   simp only [List.mem_singleton] at hc
   obtain ⟨e,he,rfl⟩:=List.mem_map.1 hb
   have:=hok.old e he
   omega
 | some p =>
  obtain ⟨j,y⟩:=p
  rw [hmx] at hput
  simp only [Nat.sub_zero] at hput
  obtain ⟨hj,_⟩:=midx_key m s 0 j y hmx
  simp only [Nat.sub_zero] at hj
  have hes:es.toList[j]?.map (fun e=>(e.key,e.val))=some (Value.string s,y):=by
   rw [← List.getElem?_map,hok.eq,List.getElem?_map,hj];rfl
  obtain ⟨e,hje,hee⟩:∃e,es[j]? = some e∧e.key=.string s:=by
   cases h:es[j]? with
   | none =>
    have h':es.toList[j]? = none:=by simpa using h
    rw [h'] at hes;cases hes
   | some e =>
    have h':es.toList[j]? = some e:=by simpa using h
    rw [h'] at hes;simp only [Option.map_some,Option.some.injEq,Prod.mk.injEq] at hes;exact ⟨e,rfl,hes.1⟩
  have hks:(Instr.keyThatStays (((es[j]?).map (·.key)).getD (.string s)) (.string s)).run P w=.ok (.string s) w:=by
   simp [hje,hee,Instr.keyThatStays,Instr.sameBits,y0k]
  simp only [Sem.run_bind,hks,hset,Result.andThen_ok,Sem.run_pure,z6a]
  have hjl:j < es.size:=(Array.getElem?_eq_some_iff.1 hje).1
  have hml:(es.modify j fun e=>{ e with key:=Value.string s,val:=v }).toList=es.toList.modify j (fun e=>{ e with key:=Value.string s,val:=v }):=by simp
  refine k _ (fin _ _ ⟨?_,?_,?_⟩)
  ·rw [hml,hput]
   apply List.ext_getElem?
   intro q
   have hq:es.toList[q]?.map (fun e=>(e.key,e.val))=m[q]?.map (fun p=>(Value.string p.1,p.2)):=by rw [← List.getElem?_map,hok.eq,List.getElem?_map]
   simp only [List.getElem?_map,List.getElem?_modify,List.getElem?_set]
   by_cases hjq:j=q
   ·subst hjq
    have hml':j < m.length:=(List.getElem?_eq_some_iff.1 hj).1
    have h':es.toList[j]? = some e:=by simpa using hje
    simp [h',hml']
   ·have hq':=hq
    simp only [Array.getElem?_toList] at hq'
    simp [hjq,hq']
  ·intro x hx
   rw [hml] at hx
   obtain ⟨q,hq⟩:=List.mem_iff_getElem?.1 hx
   rw [List.getElem?_modify] at hq
   cases hz':es.toList[q]? with
   | none=>rw [hz'] at hq;simp at hq
   | some e' =>
    rw [hz'] at hq
    have hb':=hok.old e' (List.mem_of_getElem? hz')
    have hq2:=Option.some.inj hq
    rw [← hq2]
    show (if j=q then _ else _:MapEntry).born < clock
    by_cases hjq:j=q
    ·rw [if_pos hjq];exact hb'
    ·rw [if_neg hjq];exact hb'
  ·rw [hml]
   have:(es.toList.modify j (fun e=>{ e with key:=Value.string s,val:=v })).map (·.born)=es.toList.map (·.born):=by
    apply List.ext_getElem?
    intro q
    simp only [List.getElem?_map,List.getElem?_modify]
    cases es.toList[q]? with
    | none=>simp
    | some e'=>simp;split <;> rfl
   rw [this];exact hok.nodup
end Go.Sw

namespace Go.Sw
noncomputable def Ex.sz (e:Ex):Nat:=SizeOf.sizeOf e
noncomputable def Val.sz (e:Val):Nat:=SizeOf.sizeOf e
theorem Ex.lt_args {e x:Ex} (h:x∈e.args):x.sz < e.sz:=by
 cases e with
 | mk k n s args arms =>
  have:=List.sizeOf_lt_of_mem (show x∈args from h)
  simp only [Ex.sz,Ex.mk.sizeOf_spec];omega
theorem Ex.lt_arms {e:Ex} {a:Arm} (h:a∈e.arms):a.body.sz < e.sz:=by
 cases e with
 | mk k n s args arms =>
  have:=List.sizeOf_lt_of_mem (show a∈arms from h)
  cases a with
  | mk c v b=>simp only [Ex.sz,Ex.mk.sizeOf_spec,Arm.mk.sizeOf_spec,Arm.body] at *;omega
theorem Val.lt_args {e x:Val} (h:x∈e.args):x.sz < e.sz:=by
 cases e with
 | mk c n args =>
  have:=List.sizeOf_lt_of_mem (show x∈args from h)
  simp only [Val.sz,Val.mk.sizeOf_spec];omega
mutual
def meas:Ex→Int→Bool×Int
 | .mk _ _ _ args arms,l=>if l - 1 < 0 then (true,l - 1) else
  match meass args (l - 1) with
  | (true,q)=>(true,q)
  | (false,q)=>measa arms q
def meass:List Ex→Int→Bool×Int
 | [],l=>(false,l)
 | e::es,l=>match meas e l with
  | (true,q)=>(true,q)
  | (false,q)=>meass es q
def measa:List Arm→Int→Bool×Int
 | [],l=>(false,l)
 | .mk _ vs b::es,l=>if 16 < vs.length then (true,l) else match meas b l with
  | (true,q)=>(true,q)
  | (false,q)=>measa es q
end
mutual
theorem z4n:∀(e:Ex) (l:Int),(meas e l).1=false→0≤(meas e l).2∧(meas e l).2≤l
 | .mk _ _ _ args arms,l=>by
  intro h
  simp only [meas] at h ⊢
  split at h
  ·cases h
  ·rename_i hl
   simp only [if_neg hl]
   have h1:=meass_le args (l - 1)
   cases hm:meass args (l - 1) with
   | mk b q =>
    rw [hm] at h h1
    cases b with
    | true=>cases h
    | false =>
     have h2:=measa_le arms q h (by have:=h1 rfl (by omega);simp only at this;omega)
     have:=h1 rfl (by omega)
     simp only at this h2 ⊢
     omega
theorem meass_le:∀(es:List Ex) (l:Int),(meass es l).1=false→0≤l→0≤(meass es l).2∧(meass es l).2≤l
 | [],l=>by intro _ h;simp [meass,h]
 | e::es,l=>by
  intro h h0
  simp only [meass] at h ⊢
  have h1:=z4n e l
  cases hm:meas e l with
  | mk b q =>
   rw [hm] at h h1
   cases b with
   | true=>cases h
   | false =>
    have h3:=h1 rfl
    have h2:=meass_le es q h (by simp only at h3;omega)
    simp only at h3 h2 ⊢
    omega
theorem measa_le:∀(es:List Arm) (l:Int),(measa es l).1=false→0≤l→0≤(measa es l).2∧(measa es l).2≤l
 | [],l=>by intro _ h;simp [measa,h]
 | .mk _ vs b::es,l=>by
  intro h h0
  simp only [measa] at h ⊢
  split at h
  ·cases h
  ·rename_i hv
   simp only [if_neg hv]
   have h1:=z4n b l
   cases hm:meas b l with
   | mk c q =>
    rw [hm] at h h1
    cases c with
    | true=>cases h
    | false =>
     have h3:=h1 rfl
     have h2:=measa_le es q h (by simp only at h3;omega)
     simp only at h3 h2 ⊢
     omega
end
def measThen (arms:List Arm):Bool×Int→Bool×Int
 | (true,q)=>(true,q)
 | (false,q)=>measa arms q
theorem meas_eq (e:Ex) (l:Int):meas e l=if l - 1 < 0 then (true,l - 1) else measThen e.arms (meass e.args (l - 1)):=by
 cases e with
 | mk k n s args arms =>
  simp only [meas,Ex.args,Ex.arms]
  by_cases h:l - 1 < 0
  ·rw [if_pos h,if_pos h]
  ·rw [if_neg h,if_neg h]
   cases meass args (l - 1) with
   | mk b q=>cases b <;> rfl
theorem meass_cons (e:Ex) (es:List Ex) (l:Int):meass (e::es) l=if (meas e l).1 then (true,(meas e l).2) else meass es (meas e l).2:=by
 simp only [meass]
 cases meas e l with
 | mk b q=>cases b <;> rfl
theorem z9x (a:Arm) (es:List Arm) (l:Int):measa (a::es) l=if 16 < a.vars.length then (true,l) else if (meas a.body l).1 then (true,(meas a.body l).2) else measa es (meas a.body l).2:=by
 cases a with
 | mk c vs b =>
  simp only [measa]
  change (if 16 < vs.length then _ else _)=(if 16 < vs.length then (true,l) else if (meas b l).1 then (true,(meas b l).2) else measa es (meas b l).2)
  by_cases h:16 < vs.length
  ·rw [if_pos h,if_pos h]
  ·rw [if_neg h,if_neg h]
   cases meas b l with
   | mk b q=>cases b <;> rfl
end Go.Sw

namespace Go.Sw
def measF:List Fun→Int→Bool
 | [],_=>false
 | f::fs,l=>decide (16 < f.params.length) || (meas f.body l).1 || measF fs (meas f.body l).2
def longD (d:Data):Bool:=decide (16 < d.cons.length) || d.cons.any (fun x=>decide (16 < x.fields.length))
def z4y (c:Core):Bool :=
 decide (60 < c.datas.length) || decide (6 < c.inputs.length) || decide (300 < c.funs.length) || decide (6 < c.outputs.length) || c.datas.any longD || measF c.funs 6000
def sInt:Bs:=⟨#[73,110,116]⟩
def inF (name:Bs) (s:Bs):Bool := !decide (s=sInt) && !decide (s=name)
def inCons (name:Bs):List Con→Bool→Bool
 | [],ok=>ok
 | x::xs,ok=>inCons name xs (ok && !x.fields.any (inF name))
def z7f (name:Bs):List Data→Int→Bool→Int×Bool
 | [],n,ok=>(n,ok)
 | d::ds,n,ok=>if d.name=name then z7f name ds (IntKind.i64.wrap (n+1)) (inCons name d.cons ok) else z7f name ds n ok
def z2p (ds:List Data) (name:Bs):Bool :=
 if name=sInt then true else decide ((z7f name ds 0 true).1=1)&&(z7f name ds 0 true).2
end Go.Sw

namespace Go.Sw
def strs (l:List Bs):List Value:=l.map .string
theorem z1l (l m:List Bs):strs (l++m)=strs l++strs m:=by simp [strs]
theorem z1m (l:List Bs):(strs l).length=l.length:=by simp [strs]
theorem z7t (l:List Bs):(strs l).all Value.oneCell'=true:=by simp [strs,Value.oneCell']
theorem chunks_str {Φ:Fz}:∀{l:List Bs} {cs:List Value},Chunks (RStr Φ) 1 cs l↔cs=strs l
 | [],cs=>by simp [Chunks,strs]
 | s::l,cs=>by
  simp only [Chunks,RStr]
  constructor
  ·rintro ⟨c,rest,rfl,_,rfl,h4⟩
   have:=chunks_str.1 h4
   subst this;rfl
  ·rintro rfl
   exact ⟨[.string s],strs l,rfl,rfl,rfl,chunks_str.2 rfl⟩
theorem SliceOf.strs {Φ:Fz} {v:Value} {l:List Bs}:SliceOf RStr Φ 1 v l↔Row Φ v 1 (strs l) :=
 ⟨fun ⟨_,h1,h2⟩=>chunks_str.1 h2▸h1,fun h=>⟨_,h,chunks_str.2 rfl⟩⟩
theorem built_of {P:Program} {t e:TypeId} {len k:Nat} {z:Value} {parts:List (Nat×Value)} {cs:List Value} (hu:Under P t (.slice e)) (hs:SizeT P e k) (hz:ZeroT P e z) (hn:Nat.ble (len * k) 16777216=true) (h0:len * k≠0)
  (hf:Instr.fill (fun i=>some (i * k,k)) ((List.range (len * k)).map (fun x=>z.cells[x % z.cells.size]!)).toArray parts=some cs.toArray):built P t parts len cs e:=fun w=>by
 have hn':¬len * k > 2 ^ 24:=by
  have:len * k≤16777216:=by simpa using hn
  omega
 have hi:(Array.range (len * k)).map (z.cells[· % z.cells.size]!)=((List.range (len * k)).map (fun x=>z.cells[x % z.cells.size]!)).toArray:=by
  apply Array.ext'
  simp
 simp only [Instr.buildSlice,Sem.run_bind,hu w,hs w,Result.andThen_ok,if_neg hn',if_neg h0,hz w,Sem.run_pure,hi,hf,newRow,run_newObj]
 simp [ob]
theorem built_nil {P:Program} {t e:TypeId} {k:Nat} (hu:Under P t (.slice e)) (hs:SizeT P e k):built P t [] 0 [] e:=fun w=>by
 simp only [Instr.buildSlice,Sem.run_bind,hu w,hs w,Result.andThen_ok]
 have hr:Array.range 0=(#[]:Array Nat):=by simp
 simp [Instr.fill,newRow,ob,hr]
mutual
def z0n:Ex→List Bs
 | .mk k _ s args arms=>(if k=6 then [s] else [])++bindPs args++bindPa arms
def bindPs:List Ex→List Bs
 | []=>[]
 | e::es=>z0n e++bindPs es
def bindPa:List Arm→List Bs
 | []=>[]
 | .mk _ vs b::es=>vs++z0n b++bindPa es
end
theorem z6u (e:Ex):z0n e=(if e.kind=6 then [e.name] else [])++bindPs e.args++bindPa e.arms:=by
 cases e;simp only [z0n,Ex.args,Ex.arms];rfl
theorem z1j (a:Arm) (es:List Arm):bindPa (a::es)=a.vars++z0n a.body++bindPa es:=by
 cases a;rfl
end Go.Sw

namespace Go.Sw
theorem byte_of_lt {t:Bs} {i:Nat} (h:i < t.size):∃c,t[i]? = some c:=⟨t[i],by simp [h]⟩
def z0m (t:Bs) (i:Nat):Nat:=match t[i]? with | some c=>c.toNat | none=>0
theorem z2r {t:Bs} {i:Nat} {c:UInt8} (h:t[i]? = some c):z0m t i=c.toNat:=by simp [z0m,h]
theorem byteAt_none {t:Bs} {i:Nat} (h:¬i < t.size):z0m t i=0:=by
 have:t[i]? = none:=by simp;omega
 simp [z0m,this]
def smallB (c:Nat):Bool:=decide (97≤c)&&decide (c≤122)
def greatB (c:Nat):Bool:=decide (65≤c)&&decide (c≤90)
def z1y (c:Nat):Bool:=decide (48≤c)&&decide (c≤57)
def z3f (c:Nat):Bool:=smallB c || greatB c || z1y c || decide (c=95)
def z4q (c:Nat):Bool:=decide (c=32) || decide (c=9) || decide (c=10) || decide (c=13)
def z5t (s p:Bs):Bool:=decide (p.size≤s.size)&&decide (s.extract 0 p.size=p)
def runB (p:Nat→Bool) (t:Bs):Nat→Nat→Nat
 | 0,_=>0
 | f+1,i=>if i < t.size∧p (z0m t i)=true then runB p t f (i+1)+1 else 0
theorem runB_more (p:Nat→Bool) (t:Bs):∀(f g i:Nat),t.size≤i+f→t.size≤i+g→runB p t f i=runB p t g i
 | 0,0,_,_,_=>rfl
 | 0,g+1,i,h,_=>by simp only [runB];rw [if_neg (by omega)]
 | f+1,0,i,_,h=>by simp only [runB];rw [if_neg (by omega)]
 | f+1,g+1,i,h,h'=>by
  simp only [runB]
  split
  ·rw [runB_more p t f g (i+1) (by omega) (by omega)]
  ·rfl
theorem runB_step (p:Nat→Bool) (t:Bs) (i:Nat):runB p t t.size i=if i < t.size∧p (z0m t i)=true then runB p t t.size (i+1)+1 else 0:=by
 rw [runB_more p t t.size (t.size+1) i (by omega) (by omega)]
 simp only [runB]
theorem z5h (p:Nat→Bool) (t:Bs):∀(f i:Nat),i≤t.size→i+runB p t f i≤t.size
 | 0,i,h=>by simpa [runB] using h
 | f+1,i,h=>by
  simp only [runB]
  split
  ·rename_i hc
   have:=z5h p t f (i+1) (by omega)
   omega
  ·omega
end Go.Sw

namespace Go.Sw
variable {P:Program} {n:Nat} {E:List (Nat×Value)} {D:List Deferred} {a:Act} {Φ Ψ:Fz} {K:List Res} {w:World}
variable {Kn:Value→World→Prop} {Qp:List PanicEntry→World→Prop} {dst:Option Tmp} {ty:TypeId} {pos:String} {aft:Array Edge} {g:Option (Nat×Bool)}
def Out {ε α:Type} (r:Except ε α) (A:α→Prop) (B:ε→Prop):Prop:=match r with | .ok x=>A x | .error c=>B c
theorem eff_callE {α ε:Type} {f:FuncId} {xs:Array Operand} {ts:Array TypeId} {vs:List Value} {r:Except ε α} {X:α→Value} {C:ε→List PanicEntry} {Φ1 Φ2:Fz} {KO:α→List Res} {KE:List Res}
  (he:EnvR n E D a) (hx:evs E xs.toList=some vs) (hf:∀args w,(callFunc f args).run P w=.ok (.enter f args) w)
  (hc:Calls P f vs.toArray w (fun e w'=>Out r (fun x=>e=.returned (X x)∧Mem Φ1 (KO x) w') (fun c=>e=.panicked (C c)∧Mem Φ2 KE w')))
  (k:∀x w',r=.ok x→Mem Φ1 (KO x) w'→Kn (X x) w') (kp:∀c w',r=.error c→Mem Φ2 KE w'→Qp (C c) w') :
  Oper.eff P ⟨dst,.call { callee:=.value (.func f),args:=xs,argTypes:=ts },ty,pos,aft,g⟩ a w Kn Qp:=by
 refine z7l he hx hf hc (fun v w' h =>?_) (fun c w' h =>?_) (fun w' h =>?_)
 ·cases r with
  | ok x=>obtain ⟨h1,h2⟩:=h;cases h1;exact k _ _ rfl h2
  | error c=>obtain ⟨h1,_⟩:=h;cases h1
 ·cases r with
  | ok x=>obtain ⟨h1,_⟩:=h;cases h1
  | error c=>obtain ⟨h1,h2⟩:=h;cases h1;exact kp _ _ rfl h2
 ·cases r with
  | ok x=>obtain ⟨h1,_⟩:=h;cases h1
  | error c=>obtain ⟨h1,_⟩:=h;cases h1
theorem z9d {md:Region.Mode} {kd:List Nat} {o:Oper} {B:Prop} (h:leans md kd o=false) (hl:leans md kd o=true):B:=by rw [h] at hl;cases hl
theorem z3p {t:TypeId} {v:Value} (w:World):(Instr.panic (.iface t v)).run P w=.halt (.panic (.iface t v)) w:=rfl
theorem retcA {fn:Func} {R:Ending→World→Prop} {t T b k i:Nat} {cs:List Value} {T0:TypeId} (he:EnvR n E [] a) (hm:Sees Φ K w) (hr:fn.results=#[.cell t T]) (hv:get E t=some (.pointer (some ⟨b,0,none⟩)))
  (hk:kget K i=some (.blk b (ob cs T0))) (hT:AggT P T) (hS:SizeT P T k) (hl:cs.length=k) (h:R (.returned (.agg cs.toArray)) w):bodyPost P fn R .ret a w:=by
 refine ⟨he.defs,.agg cs.toArray,?_,h⟩
 have hc:∀j v,cs[j]? = some v→w.cell? ((⟨b,0,none⟩:Addr).add j)=some v:=fun j v hj=>by
  have h1:=hm.cell hk j
  rw [nth_eq,hj] at h1
  unfold Addr.add;split
  ·subst_vars;exact h1
  ·simpa using h1
 have h2:=run_loadCells_list (P:=P) (w:=w) ⟨b,0,none⟩ cs hc
 rw [hl] at h2
 simp [results,hr,Array.getD_eq_getD_getElem?,he.env t _ hv,asAddr,loadVar,hT w,hS w,h2]
theorem z0z {fn:Func} {R:Ending→World→Prop} {c:List PanicEntry} (hd:a.defers=[]) (h:R (.panicked c) w):bodyPost P fn R (.panic c) a w:=⟨hd,h⟩
def z4w (t:Bs) (org:Nat):Nat→Nat→Int→Except (Nat×Int) Nat
 | 0,_,_=>.error (org,12)
 | f+1,i,o =>
  if t.size≤i then .error (org,12) else
  if z5t (t.extract i t.size) (⟨#[40,42]⟩:ByteArray) then (if 100≤o then .error (i,6) else z4w t org f (i+2) (o+1)) else
  if z5t (t.extract i t.size) (⟨#[42,41]⟩:ByteArray) then (if o - 1=0 then .ok (i+2) else z4w t org f (i+2) (o - 1)) else
  z4w t org f (i+1) o
theorem z2j {t p:Bs} {i:Nat} (h:z5t (t.extract i t.size) p=true):p.size≤t.size - i:=by
 simp only [z5t,Bool.and_eq_true,decide_eq_true_eq,ByteArray.size_extract] at h
 have:=h.1
 simp only [Nat.min_self] at this
 exact this
theorem z7k (t:Bs) (org:Nat):∀(f g i:Nat) (o:Int),t.size < i+f→t.size < i+g→z4w t org f i o=z4w t org g i o
 | 0,0,_,_,_,_=>rfl
 | 0,g+1,i,o,h,_=>by simp only [z4w];rw [if_pos (by omega)]
 | f+1,0,i,o,_,h=>by simp only [z4w];rw [if_pos (by omega)]
 | f+1,g+1,i,o,h,h'=>by
  simp only [z4w]
  rw [z7k t org f g (i+2) (o+1) (by omega) (by omega),z7k t org f g (i+2) (o - 1) (by omega) (by omega),z7k t org f g (i+1) o (by omega) (by omega)]
def z3w (t:Bs) (org i:Nat) (o:Int):Except (Nat×Int) Nat:=z4w t org (t.size+1) i o
theorem z6p (t:Bs) (org i:Nat) (o:Int):z3w t org i o =
  if t.size≤i then .error (org,12) else
  if z5t (t.extract i t.size) (⟨#[40,42]⟩:ByteArray) then (if 100≤o then .error (i,6) else z3w t org (i+2) (o+1)) else
  if z5t (t.extract i t.size) (⟨#[42,41]⟩:ByteArray) then (if o - 1=0 then .ok (i+2) else z3w t org (i+2) (o - 1)) else
  z3w t org (i+1) o:=by
 unfold z3w
 rw [z7k t org (t.size+1) (t.size+2) i o (by omega) (by omega)]
 simp only [z4w]
theorem z5s (t:Bs) (org:Nat):∀(f i q:Nat) (o:Int),z4w t org f i o=.ok q→i < q∧q≤t.size
 | 0,_,_,_,h=>by simp [z4w] at h
 | f+1,i,q,o,h=>by
  simp only [z4w] at h
  split at h
  ·cases h
  ·split at h
   ·split at h
    ·cases h
    ·have:=z5s t org f _ _ _ h;omega
   ·split at h
    ·rename_i hs
     have h2:=z2j hs
     have:(⟨#[42,41]⟩:ByteArray).size=2:=rfl
     split at h
     ·simp only [Except.ok.injEq] at h;omega
     ·have:=z5s t org f _ _ _ h;omega
    ·have:=z5s t org f _ _ _ h;omega
def wrongC (c:Nat×Int):List PanicEntry:=[{ v:=.iface 270 (.agg #[.int .i64 ((c.1:Nat):Int),.int .i64 c.2]),recovered:=false }]
end Go.Sw

namespace Go.Sw
variable {P:Program} {n:Nat} {E:List (Nat×Value)} {D:List Deferred} {a:Act} {Φ Ψ:Fz} {K:List Res} {w:World}
variable {Kn:Value→World→Prop} {Qp:List PanicEntry→World→Prop} {dst:Option Tmp} {ty:TypeId} {pos:String} {aft:Array Edge} {g:Option (Nat×Bool)}
theorem eff_callX {α β ε:Type} {f:FuncId} {xs:Array Operand} {ts:Array TypeId} {vs:List Value} {r:Except ε α} {X:α→β→Value} {C:ε→List PanicEntry} {F1:α→β→Fz} {Φ2:Fz} {KO:α→β→List Res} {KE:List Res} {G:α→β→Prop}
  (he:EnvR n E D a) (hx:evs E xs.toList=some vs) (hf:∀args w,(callFunc f args).run P w=.ok (.enter f args) w)
  (hc:Calls P f vs.toArray w (fun e w'=>Out r (fun x=>∃y,e=.returned (X x y)∧G x y∧Mem (F1 x y) (KO x y) w') (fun c=>e=.panicked (C c)∧Mem Φ2 KE w')))
  (k:∀x y w',r=.ok x→G x y→Mem (F1 x y) (KO x y) w'→Kn (X x y) w') (kp:∀c w',r=.error c→Mem Φ2 KE w'→Qp (C c) w') :
  Oper.eff P ⟨dst,.call { callee:=.value (.func f),args:=xs,argTypes:=ts },ty,pos,aft,g⟩ a w Kn Qp:=by
 refine z7l he hx hf hc (fun v w' h =>?_) (fun c w' h =>?_) (fun w' h =>?_)
 ·cases r with
  | ok x=>obtain ⟨y,h1,h2,h3⟩:=h;cases h1;exact k _ _ _ rfl h2 h3
  | error c=>obtain ⟨h1,_⟩:=h;cases h1
 ·cases r with
  | ok x=>obtain ⟨y,h1,_⟩:=h;cases h1
  | error c=>obtain ⟨h1,h2⟩:=h;cases h1;exact kp _ _ rfl h2
 ·cases r with
  | ok x=>obtain ⟨y,h1,_⟩:=h;cases h1
  | error c=>obtain ⟨h1,_⟩:=h;cases h1
theorem eff_callY {β:Type} {f:FuncId} {xs:Array Operand} {ts:Array TypeId} {vs:List Value} {X:β→Value} {F1:β→Fz} {KO:β→List Res} {G:β→Prop}
  (he:EnvR n E D a) (hx:evs E xs.toList=some vs) (hf:∀args w,(callFunc f args).run P w=.ok (.enter f args) w)
  (hc:Calls P f vs.toArray w (fun e w'=>∃y,e=.returned (X y)∧G y∧Mem (F1 y) (KO y) w'))
  (k:∀y w',G y→Mem (F1 y) (KO y) w'→Kn (X y) w') :
  Oper.eff P ⟨dst,.call { callee:=.value (.func f),args:=xs,argTypes:=ts },ty,pos,aft,g⟩ a w Kn Qp :=
 z7l he hx hf hc (fun v w' h=>by obtain ⟨y,h1,h2,h3⟩:=h;cases h1;exact k _ _ h2 h3) (fun c w' h=>by obtain ⟨y,h1,_⟩:=h;cases h1) (fun w' h=>by obtain ⟨y,h1,_⟩:=h;cases h1)
def passP (t:Bs):Nat→Nat→Except (Nat×Int) Nat
 | 0,i=>.ok i
 | f+1,i =>
  if z5t (t.extract (i+runB z4q t t.size i) t.size) (⟨#[40,42]⟩:ByteArray)=true then
   match z3w t (i+runB z4q t t.size i) (i+runB z4q t t.size i) 0 with
   | .error c=>.error c
   | .ok q=>passP t f q
  else .ok (i+runB z4q t t.size i)
theorem passP_more (t:Bs):∀(f g i:Nat),i≤t.size→t.size < i+f→t.size < i+g→passP t f i=passP t g i
 | 0,_,i,h0,h,_=>by omega
 | _+1,0,i,h0,_,h=>by omega
 | f+1,g+1,i,h0,h,h'=>by
  simp only [passP]
  split
  ·cases hc:z3w t (i+runB z4q t t.size i) (i+runB z4q t t.size i) 0 with
   | error c=>rfl
   | ok q =>
    have:=z5s _ _ _ _ _ _ hc
    exact passP_more t f g q this.2 (by omega) (by omega)
  ·rfl
def passF (t:Bs) (i:Nat):Except (Nat×Int) Nat:=passP t (t.size+1) i
theorem passF_eq (t:Bs) (i:Nat) (h:i≤t.size):passF t i =
  if z5t (t.extract (i+runB z4q t t.size i) t.size) (⟨#[40,42]⟩:ByteArray)=true then
   match z3w t (i+runB z4q t t.size i) (i+runB z4q t t.size i) 0 with
   | .error c=>.error c
   | .ok q=>passF t q
  else .ok (i+runB z4q t t.size i):=by
 unfold passF
 rw [passP_more t (t.size+1) (t.size+2) i h (by omega) (by omega)]
 simp only [passP]
end Go.Sw

namespace Go.Sw
def kw (l:List UInt8):Bs:=⟨l.toArray⟩
def wordsL:List Bs:=[kw [97,110,100],kw [99,97,115,101],kw [100,97,116,97],kw [101,108,115,101],kw [101,110,100],kw [102,110],kw [102,117,110],kw [105,102],kw [105,110],kw [105,110,112,117,116],kw [108,101,116],kw [111,102],kw [111,117,116,112,117,116],kw [116,104,101,110],kw [118,97,108]]
def wordsM:List (Bs×Value):=wordsL.map (fun s=>(s,.int .i64 5))
theorem wordsM_val {s:Bs} {v:Value} (h:mget wordsM s=some v):v=.int .i64 ((5:Nat):Int):=by
 have:∀(l:List Bs),mget (l.map (fun s=>(s,Value.int .i64 5))) s=some v→v=.int .i64 ((5:Nat):Int):=by
  intro l
  induction l with
  | nil=>intro h;simp [mget] at h
  | cons x l ih =>
   intro h
   simp only [List.map_cons,mget] at h
   split at h
   ·simp only [Option.some.injEq] at h;rw [← h];rfl
   ·exact ih h
 exact this _ h
def isWord (s:Bs):Bool:=(mget wordsM s).isSome
structure Tok where
 kind:Int
 num:Int
 text:Bs
 org:Nat
def tokV (k:Tok):Value:=.agg (List.toArray [.int .i64 k.kind,.int .i64 k.num,.string k.text,.int .i64 ((k.org:Nat):Int)])
def z6l (t:Bs) (pos:Nat) (kind:Int) (n:Nat):Except (Nat×Int) Tok:=if 24 < n then .error (pos,2) else .ok ⟨kind,0,t.extract pos (pos+n),pos⟩
def z2s (t:Bs) (pos:Nat):Nat :=
 if z0m t (pos+runB z3f t t.size pos)=39 then
  (if 0 < runB z1y t t.size (pos+(runB z3f t t.size pos+1)) then runB z3f t t.size pos+(1+runB z1y t t.size (pos+(runB z3f t t.size pos+1))) else runB z3f t t.size pos)
 else runB z3f t t.size pos
def z7n (t:Bs) (pos:Nat) (kind:Int):Except (Nat×Int) Tok :=
 if 24 < z2s t pos then .error (pos,2)
 else .ok ⟨if isWord (t.extract pos (pos+z2s t pos)) then 5 else kind,0,t.extract pos (pos+z2s t pos),pos⟩
theorem madeF_ok {t:Bs} {pos n:Nat} {kd:Int} {q:Tok} (hq:z6l t pos kd n=.ok q):¬24 < n∧q=⟨kd,0,t.extract pos (pos+n),pos⟩:=by
 unfold z6l at hq
 split at hq
 ·cases hq
 ·rename_i h;simp only [Except.ok.injEq] at hq;exact ⟨h,hq.symm⟩
theorem madeF_err {t:Bs} {pos n:Nat} {kd:Int} {c:Nat×Int} (hq:z6l t pos kd n=.error c):24 < n∧c=(pos,2):=by
 unfold z6l at hq
 split at hq
 ·rename_i h;simp only [Except.error.injEq] at hq;exact ⟨h,hq.symm⟩
 ·cases hq
theorem name_ok1 {t:Bs} {pos n:Nat} {kd:Int} {q:Tok} (hq:z6l t pos kd n=.ok q) (hf:mget wordsM q.text=none) (hn:z2s t pos=n):z7n t pos kd=.ok q:=by
 obtain ⟨h1,rfl⟩:=madeF_ok hq
 simp only at hf
 unfold z7n
 rw [hn,if_neg h1]
 simp [isWord,hf]
theorem name_ok2 {t:Bs} {pos n:Nat} {kd:Int} {q:Tok} {v:Value} (hq:z6l t pos kd n=.ok q) (hf:mget wordsM q.text=some v) (hn:z2s t pos=n):z7n t pos kd=.ok ⟨5,q.num,q.text,q.org⟩:=by
 obtain ⟨h1,rfl⟩:=madeF_ok hq
 simp only at hf
 unfold z7n
 rw [hn,if_neg h1]
 simp [isWord,hf]
theorem name_err {t:Bs} {pos n:Nat} {kd:Int} {c:Nat×Int} (hq:z6l t pos kd n=.error c) (hn:z2s t pos=n):z7n t pos kd=.error c:=by
 obtain ⟨h1,rfl⟩:=madeF_err hq
 unfold z7n
 rw [hn,if_pos h1]
theorem byteAt_lt {t:Bs} {i:Nat} (h:z0m t i≠0):i < t.size:=by
 by_cases hi:i < t.size
 ·exact hi
 ·exact absurd (byteAt_none hi) h
theorem nameLen_le (t:Bs) (pos:Nat) (h:pos≤t.size):pos+z2s t pos≤t.size:=by
 have h1:=z5h z3f t t.size pos h
 unfold z2s
 split
 ·rename_i h39
  have h2:=byteAt_lt (t:=t) (i:=pos+runB z3f t t.size pos) (by omega)
  have h3:=z5h z1y t t.size (pos+(runB z3f t t.size pos+1)) (by omega)
  split
  ·omega
  ·omega
 ·omega
end Go.Sw

namespace Go.Sw
open Go.Proofs
def Tabs (Φ:Fz):Prop:=∀w,Sees Φ [] w→Lib.TabIs Tryz.prog w "internal/strconv.uint64pow10" .u64 Lib.pow10Tab
theorem Tabs.mono {Φ Ψ:Fz} (h:Tabs Φ) (hl:Φ.Le Ψ):Tabs Ψ:=fun w hw=>h w ⟨fun b o hb=>hw.fz b o (hl.obj b o hb),by simp⟩
def ErrAt (Φ:Fz) (g:Nat):Prop:=∃v,At Φ ⟨g,0,none⟩ [v]∧(v=.nilIface∨∃t p,v=.iface t p)
theorem ErrAt.mono {Φ Ψ:Fz} {g:Nat} (h:ErrAt Φ g) (hl:Φ.Le Ψ):ErrAt Ψ g:=let ⟨v,h1,h2⟩:=h;⟨v,h1.mono hl,h2⟩
structure Glob (Φ:Fz):Prop where
 maxLen:∃m,At Φ ⟨0,0,none⟩ [.int .i64 m]
 tabs:Tabs Φ
 err4:ErrAt Φ 4
 err5:ErrAt Φ 5
theorem Glob.mono {Φ Ψ:Fz} (h:Glob Φ) (hl:Φ.Le Ψ):Glob Ψ:=⟨let ⟨m,hm⟩:=h.maxLen;⟨m,hm.mono hl⟩,h.tabs.mono hl,h.err4.mono hl,h.err5.mono hl⟩
def z3c (l:List Bs):List (Bs×Value):=l.foldl (fun m s=>mput m s (.bool true)) []
theorem seenM_snoc (l:List Bs) (s:Bs):z3c (l++[s])=mput (z3c l) s (.bool true):=by simp [z3c]
theorem mget_mput (m:List (Bs×Value)) (k s:Bs) (v:Value):mget (mput m k v) s=if s=k then some v else mget m s:=by
 induction m with
 | nil=>simp [mput,mget]
 | cons p m ih =>
  obtain ⟨q,x⟩:=p
  simp only [mput]
  split
  ·subst_vars;simp only [mget]
   split <;> rfl
  ·simp only [mget,ih]
   by_cases h1:s=q
   ·subst h1
    rename_i h2
    rw [if_pos rfl,if_pos rfl,if_neg (fun e=>h2 e.symm)]
   ·rw [if_neg h1,if_neg h1]
def has (l:List Bs) (s:Bs):Bool:=l.any (fun x=>decide (x=s))
theorem has_snoc (l:List Bs) (x s:Bs):has (l++[x]) s=(has l s || decide (x=s)):=by simp [has]
theorem seenM_get (l:List Bs) (s:Bs):mget (z3c l) s=if has l s then some (Value.bool true) else none:=by
 have:∀(l m:List Bs) (acc:List (Bs×Value)),(∀s,mget acc s=if has m s then some (Value.bool true) else none)→∀s,mget (l.foldl (fun m s=>mput m s (.bool true)) acc) s=if has (m++l) s then some (Value.bool true) else none:=by
  intro l
  induction l with
  | nil=>intro m acc h s;simpa using h s
  | cons x l ih =>
   intro m acc h s
   simp only [List.foldl_cons]
   have:=ih (m++[x]) (mput acc x (.bool true)) (fun s=>by
    rw [mget_mput,h,has_snoc]
    by_cases hx:s=x
    ·simp [hx]
    ·have hx':¬x=s:=fun e=>hx e.symm
     simp [hx,hx']) s
   simpa using this
 have h:=this l [] [] (fun s=>by simp [mget,has]) s
 simpa [z3c] using h
theorem seen_val {l:List Bs} {s:Bs} {v:Value} (h:mget (z3c l) s=some v):v=.bool true∧has l s=true:=by
 rw [seenM_get] at h
 split at h
 ·simp only [Option.some.injEq] at h;exact ⟨h.symm,by assumption⟩
 ·cases h
theorem seen_not {l:List Bs} {s:Bs} (h:mget (z3c l) s=none):has l s=false:=by
 rw [seenM_get] at h
 split at h
 ·cases h
 ·simpa using (by assumption:¬has l s=true)
def z5v (nm:Bs→Bool):List Bs→List Bs→Bool
 | _,[]=>true
 | ds,s::l=>nm s && !has ds s&&z5v nm (ds++[s]) l
end Go.Sw

namespace Go.Sw
section
variable {α:Type}
def lget:List (Bs×α)→Bs→Option α
 | [],_=>none
 | (k,x)::l,s=>if s=k then some x else lget l s
def lput:List (Bs×α)→Bs→α→List (Bs×α)
 | [],s,x=>[(s,x)]
 | (k,y)::l,s,x=>if s=k then (k,x)::l else (k,y)::lput l s x
def z5l (m:List (Bs×Value)) (s:Bs) (v:Value):List (Bs×Value):=match mget m s with | some _=>m | none=>mput m s v
def z2z (l:List (Bs×α)) (s:Bs) (x:α):List (Bs×α):=match lget l s with | some _=>l | none=>lput l s x
inductive MapRel (R:Value→α→Prop):List (Bs×Value)→List (Bs×α)→Prop
 | nil:MapRel R [] []
 | cons {k v x m l}:R v x→MapRel R m l→MapRel R ((k,v)::m) ((k,x)::l)
variable {R R':Value→α→Prop} {m:List (Bs×Value)} {l:List (Bs×α)}
theorem MapRel.mono (h:MapRel R m l) (hR:∀v x,R v x→R' v x):MapRel R' m l:=by
 induction h with
 | nil=>exact .nil
 | cons h1 _ ih=>exact .cons (hR _ _ h1) ih
theorem MapRel.get (h:MapRel R m l) {s:Bs} {v:Value} (hv:mget m s=some v):∃x,lget l s=some x∧R v x:=by
 induction h with
 | nil=>cases hv
 | cons h1 _ ih =>
  simp only [mget] at hv
  simp only [lget]
  split at hv
  ·rename_i hs;simp only [Option.some.injEq] at hv;subst hv;exact ⟨_,by rw [if_pos hs],h1⟩
  ·rename_i hs
   obtain ⟨x,e1,e2⟩:=ih hv
   exact ⟨x,by rw [if_neg hs];exact e1,e2⟩
theorem MapRel.none (h:MapRel R m l) {s:Bs} (hv:mget m s=none):lget l s=none:=by
 induction h with
 | nil=>rfl
 | cons h1 _ ih =>
  simp only [mget] at hv
  simp only [lget]
  split at hv
  ·cases hv
  ·rename_i hs;rw [if_neg hs];exact ih hv
theorem MapRel.put (h:MapRel R m l) {s:Bs} {v:Value} {x:α} (hv:R v x):MapRel R (mput m s v) (lput l s x):=by
 induction h with
 | nil=>exact .cons hv .nil
 | cons h1 h2 ih =>
  simp only [mput,lput]
  split
  ·exact .cons hv h2
  ·exact .cons h1 ih
theorem MapRel.once (h:MapRel R m l) {s:Bs} {v:Value} {x:α} (hv:R v x):MapRel R (z5l m s v) (z2z l s x):=by
 unfold z5l z2z
 cases hm:mget m s with
 | none=>rw [h.none hm];exact h.put hv
 | some u=>obtain ⟨y,e,_⟩:=h.get hm;rw [e];exact h
end
def RVa {α:Type} (R:Fz→List Value→α→Prop) (Φ:Fz) (v:Value) (x:α):Prop:=∃cs,v=.agg cs.toArray∧R Φ cs x
def RVs (v:Value) (x:Bs):Prop:=v=.string x
structure Maker where
 data:Bs
 con:Con
def RMaker (Φ:Fz) (cs:List Value) (x:Maker):Prop:=∃b,cs=.string x.data::b∧RCon Φ b x.con
theorem RMaker.mono (Φ Ψ:Fz) (c:List Value) (x:Maker) (hl:Φ.Le Ψ) (h:RMaker Φ c x):RMaker Ψ c x:=let ⟨b,h1,h2⟩:=h;⟨b,h1,RCon.mono _ _ _ _ hl h2⟩
structure Table where
 core:Core
 datas:List (Bs×Data)
 cons:List (Bs×Maker)
 funs:List (Bs×Fun)
 inputs:List (Bs×Bs)
structure RTable (Φ:Fz) (p:Addr) (T:Table):Prop where
 ex:∃cs m1 m2 m3 m4 d1 d2 d3 d4,At Φ p (cs++[.map (some m1),.map (some m2),.map (some m3),.map (some m4)])∧cs.length=4∧RCore Φ cs T.core ∧
  MapAt Φ m1 d1∧MapRel (RVa RData Φ) d1 T.datas∧MapAt Φ m2 d2∧MapRel (RVa RMaker Φ) d2 T.cons∧MapAt Φ m3 d3∧MapRel (RVa RFun Φ) d3 T.funs∧MapAt Φ m4 d4∧MapRel RVs d4 T.inputs
theorem RVa.mono {α:Type} {R:Fz→List Value→α→Prop} (hR:∀Φ Ψ c x,Φ.Le Ψ→R Φ c x→R Ψ c x) {Φ Ψ:Fz} (hl:Φ.Le Ψ) (v:Value) (x:α) (h:RVa R Φ v x):RVa R Ψ v x:=let ⟨cs,h1,h2⟩:=h;⟨cs,h1,hR _ _ _ _ hl h2⟩
theorem RTable.mono {Φ Ψ:Fz} {p:Addr} {T:Table} (h:RTable Φ p T) (hl:Φ.Le Ψ):RTable Ψ p T :=
 let ⟨cs,m1,m2,m3,m4,d1,d2,d3,d4,h0,h1,h2,a1,b1,a2,b2,a3,b3,a4,b4⟩:=h.ex
 ⟨cs,m1,m2,m3,m4,d1,d2,d3,d4,h0.mono hl,h1,RCore.mono _ _ _ _ hl h2,a1.mono hl,b1.mono (RVa.mono RData.mono hl),a2.mono hl,b2.mono (RVa.mono RMaker.mono hl),a3.mono hl,b3.mono (RVa.mono RFun.mono hl),a4.mono hl,b4⟩
def z2o (e:Ex) (num name:Bool) (args arms:Int):Bool :=
 (num || decide (e.num=0))&&(name || decide (e.name=(⟨#[]⟩:ByteArray)))&&(decide (args < 0) || decide ((e.args.length:Int)=args))&&(decide (arms < 0) || decide ((e.arms.length:Int)=arms))
def z2b (T:Table) (name:Bs):Bool:=(lget T.datas name).isSome || decide (name=sInt)
end Go.Sw

namespace Go.Sw
abbrev Scope:=List (Bs×Bs)
def smap (s:Scope):List (Bs×Value):=s.map (fun p=>(p.1,.string p.2))
def ldel {α:Type}:List (Bs×α)→Bs→List (Bs×α)
 | [],_=>[]
 | (k,y)::l,s=>if s=k then l else (k,y)::ldel l s
theorem smap_get:∀(s:Scope) (k:Bs),mget (smap s) k=(lget s k).map .string
 | [],_=>rfl
 | (q,x)::s,k=>by
  simp only [smap,List.map_cons,mget,lget]
  split
  ·rfl
  ·exact smap_get s k
theorem smap_some {s:Scope} {k:Bs} {v:Value} (h:mget (smap s) k=some v):∃y,lget s k=some y∧v=.string y:=by
 rw [smap_get] at h
 cases hl:lget s k with
 | none=>rw [hl] at h;cases h
 | some y=>rw [hl] at h;simp only [Option.map_some,Option.some.injEq] at h;exact ⟨y,rfl,h.symm⟩
theorem smap_none {s:Scope} {k:Bs} (h:mget (smap s) k=none):lget s k=none:=by
 rw [smap_get] at h
 cases hl:lget s k with
 | none=>rfl
 | some y=>rw [hl] at h;cases h
theorem smap_put:∀(s:Scope) (k x:Bs),mput (smap s) k (.string x)=smap (lput s k x)
 | [],_,_=>rfl
 | (q,y)::s,k,x=>by
  simp only [smap,List.map_cons,mput,lput]
  split
  ·rfl
  ·simp only [List.map_cons];exact congrArg _ (smap_put s k x)
theorem smap_del:∀(s:Scope) (k:Bs),mdel (smap s) k=smap (ldel s k)
 | [],_=>rfl
 | (q,y)::s,k=>by
  simp only [smap,List.map_cons,mdel,ldel]
  split
  ·rfl
  ·simp only [List.map_cons];exact congrArg _ (smap_del s k)
def sNo:Bs:=⟨#[]⟩
def sBool:Bs:=⟨#[66,111,111,108]⟩
def numberT (e:Ex):Bs:=if z2o e true false 0 0 then sInt else sNo
def z5n (e:Ex) (s:Scope):Bs:=if z2o e false true 0 0 then (lget s e.name).getD sNo else sNo
def inputT (T:Table) (e:Ex):Bs:=if z2o e false true 0 0 then (lget T.inputs e.name).getD sNo else sNo
def putAll:Scope→List Bs→List Bs→Scope
 | s,v::vs,f::fs=>putAll (lput s v f) vs fs
 | s,_,_=>s
def delAll:Scope→List Bs→Scope
 | s,v::vs=>delAll (ldel s v) vs
 | s,[]=>s
def opT (name:Bs):Bs :=
 if name=⟨#[43]⟩∨name=⟨#[45]⟩∨name=⟨#[42]⟩∨name=⟨#[47]⟩∨name=⟨#[37]⟩ then sInt
 else if name=⟨#[60]⟩∨name=⟨#[61]⟩ then sBool else sNo
mutual
def z0c (T:Table):Ex→Scope→Bs×Scope
 | .mk kind num name args arms,s =>
  if kind=1 then (numberT (.mk kind num name args arms),s)
  else if kind=2 then (z5n (.mk kind num name args arms) s,s)
  else if kind=3 then (inputT T (.mk kind num name args arms),s)
  else if kind=4 then
   match lget T.cons name with
   | none=>(sNo,s)
   | some m=>if z2o (.mk kind num name args arms) false true (-1) 0=true∧args.length=m.con.fields.length then ((if (allQ T args s m.con.fields).1 then m.data else sNo),(allQ T args s m.con.fields).2) else (sNo,s)
  else if kind=5 then
   match lget T.funs name with
   | none=>(sNo,s)
   | some f=>if z2o (.mk kind num name args arms) false true (-1) 0=true∧args.length=f.params.length then ((if (allQ T args s (f.params.map Param.type)).1 then f.result else sNo),(allQ T args s (f.params.map Param.type)).2) else (sNo,s)
  else if kind=6 then (if z2o (.mk kind num name args arms) false true 2 0 then letP T name args s else (sNo,s))
  else if kind=7 then
   if z2o (.mk kind num name args arms) false false 1 (-1) then
    match lget T.datas (firstP T args s).1 with
    | none=>(sNo,(firstP T args s).2)
    | some d=>if d.cons.length=arms.length then splitP T arms d.cons true sNo (firstP T args s).2 else (sNo,(firstP T args s).2)
   else (sNo,s)
  else if kind=8 then
   if z2o (.mk kind num name args arms) false true 2 0 then ((if (allQ T args s [sInt,sInt]).1 then opT name else sNo),(allQ T args s [sInt,sInt]).2) else (sNo,s)
  else (sNo,s)
def allQ (T:Table):List Ex→Scope→List Bs→Bool×Scope
 | [],s,_=>(true,s)
 | x::xs,s,ts =>
  if (z0c T x s).1=sNo∨(z0c T x s).1≠ts.headD sNo then (false,(z0c T x s).2) else allQ T xs (z0c T x s).2 ts.tail
def firstP (T:Table):List Ex→Scope→Bs×Scope
 | [],s=>(sNo,s)
 | a::_,s=>z0c T a s
def restP (T:Table):List Ex→Scope→Bs×Scope
 | [],s=>(sNo,s)
 | _::l,s=>firstP T l s
def letP (T:Table) (name:Bs):List Ex→Scope→Bs×Scope
 | [],s=>(sNo,s)
 | a::l,s=>if (z0c T a s).1=sNo then (sNo,(z0c T a s).2) else
   ((firstP T l (lput (z0c T a s).2 name (z0c T a s).1)).1,ldel (firstP T l (lput (z0c T a s).2 name (z0c T a s).1)).2 name)
def splitP (T:Table):List Arm→List Con→Bool→Bs→Scope→Bs×Scope
 | [],_,_,out,s=>(out,s)
 | .mk con vars body::az,cs,first,out,s =>
  if con≠(cs.headD ⟨sNo,[]⟩).name∨vars.length≠(cs.headD ⟨sNo,[]⟩).fields.length then (sNo,s) else
  if (z0c T body (putAll s vars (cs.headD ⟨sNo,[]⟩).fields)).1=sNo∨(first=false∧(z0c T body (putAll s vars (cs.headD ⟨sNo,[]⟩).fields)).1≠out)
  then (sNo,delAll (z0c T body (putAll s vars (cs.headD ⟨sNo,[]⟩).fields)).2 vars)
  else splitP T az cs.tail false (z0c T body (putAll s vars (cs.headD ⟨sNo,[]⟩).fields)).1 (delAll (z0c T body (putAll s vars (cs.headD ⟨sNo,[]⟩).fields)).2 vars)
end
theorem allQ_cons (T:Table) (x:Ex) (xs:List Ex) (s:Scope) (t:Bs) (ts:List Bs):allQ T (x::xs) s (t::ts) =
  if (z0c T x s).1=sNo∨(z0c T x s).1≠t then (false,(z0c T x s).2) else allQ T xs (z0c T x s).2 ts:=rfl
def allP (T:Table) (xs:List Ex) (s:Scope) (ts:List Bs):Bool×Scope:=if xs.length=ts.length then allQ T xs s ts else (false,s)
def conT (T:Table) (e:Ex) (s:Scope):Bs×Scope :=
 match lget T.cons e.name with
 | none=>(sNo,s)
 | some m=>if z2o e false true (-1) 0=true then ((if (allP T e.args s m.con.fields).1 then m.data else sNo),(allP T e.args s m.con.fields).2) else (sNo,s)
def callT (T:Table) (e:Ex) (s:Scope):Bs×Scope :=
 match lget T.funs e.name with
 | none=>(sNo,s)
 | some f=>if z2o e false true (-1) 0=true then ((if (allP T e.args s (f.params.map Param.type)).1 then f.result else sNo),(allP T e.args s (f.params.map Param.type)).2) else (sNo,s)
def opsT (T:Table) (e:Ex) (s:Scope):Bs×Scope :=
 if z2o e false true 2 0=true then ((if (allP T e.args s [sInt,sInt]).1 then opT e.name else sNo),(allP T e.args s [sInt,sInt]).2) else (sNo,s)
theorem z7u (T:Table) (e:Ex) (s:Scope) (h:e.kind=4):z0c T e s=conT T e s:=by
 cases e with
 | mk k n nm args arms =>
  simp only [Ex.kind] at h
  subst h
  simp only [z0c,conT,Ex.name,Ex.args,allP]
  simp only [show ¬(4:Int)=1 by decide,show ¬(4:Int)=2 by decide,show ¬(4:Int)=3 by decide,if_false,if_true]
  cases lget T.cons nm with
  | none=>rfl
  | some m =>
   simp only
   by_cases hb:z2o (.mk 4 n nm args arms) false true (-1) 0=true
   ·by_cases hl:args.length=m.con.fields.length
    ·simp [hb,hl]
    ·simp [hb,hl]
   ·simp [hb]
def truthsD:Data:=⟨sBool,[⟨⟨#[70,97,108,115,101]⟩,[]⟩,⟨⟨#[84,114,117,101]⟩,[]⟩]⟩
end Go.Sw

namespace Go.Sw
variable {P:Program} {n:Nat} {E:List (Nat×Value)} {D:List Deferred} {a:Act} {Φ Ψ:Fz} {K:List Res} {w:World}
variable {dst:Option Tmp} {ty:TypeId} {pos:String} {aft:Array Edge} {g:Option (Nat×Bool)}
variable {Kn:Value→World→Prop} {Qp:List PanicEntry→World→Prop}
theorem mdel_eq:∀(m:List (Bs×Value)) (s:Bs) (j:Nat),mdel m s=match midx m s j with | none=>m | some (i,_)=>m.eraseIdx (i - j)
 | [],_,_=>rfl
 | (k,x)::m,s,j=>by
  simp only [mdel,midx]
  split
  ·simp
  ·rw [mdel_eq m s (j+1)]
   cases hm:midx m s (j+1) with
   | none=>simp
   | some p =>
    obtain ⟨i,y⟩:=p
    obtain ⟨_,h1⟩:=midx_key m s (j+1) i y hm
    have e:i - j=(i - (j+1))+1:=by omega
    simp only [e,List.eraseIdx_cons_succ]
theorem map_erase {α β:Type} (f:α→β):∀(l:List α) (i:Nat),(l.eraseIdx i).map f=(l.map f).eraseIdx i
 | [],_=>rfl
 | _::_,0=>rfl
 | x::l,i+1=>by simp [map_erase f l i]
theorem run_delete (i:Nat) {t kt et t2 ty:TypeId} {b:Nat} {m:List (Bs×Value)} {s:Bs} (ht:Under P t (.map kt et)) (hk:Under P kt .string) (hm:Mem Φ K w) (hK:kget K i=some (.mp b m)) :
  ∃w',(Builtin.delete_ #[t,t2] ty #[.map (some b),.string s]).run P w=.ok (.tuple #[]) w'∧Mem Φ (kset K i (.mp b (mdel m s))) w':=by
 obtain ⟨es,clock,hb,hok⟩:=hm.own _ (z1a hK)
 have h1:(getObj b).run P w=.ok (.map es clock) w:=by simp [getObj,Sem.run,hb]
 have hlt:b < w.heap.size:=(Array.getElem?_eq_some_iff.1 hb).1
 have hset:∀o,(setObj b o).run P w=.ok () { w with heap:=w.heap.setIfInBounds b o }:=fun o=>by simp only [setObj,Sem.run,hb]
 have fin:∀es',MapOk es' clock (mdel m s)→Mem Φ (kset K i (.mp b (mdel m s))) { w with heap:=w.heap.setIfInBounds b (.map es' clock) }:=fun es' h =>
  hm.upd hK rfl rfl (fun c hc hne=>by simp only;rw [Array.getElem?_setIfInBounds_ne (fun e=>hne (by simp [Res.foot,e]))]) ⟨es',clock,by simp [hlt],h⟩ (.inl rfl)
 have hdel:=mdel_eq m s 0
 cases hmx:midx m s 0 with
 | none =>
  rw [hmx] at hdel
  simp only at hdel
  refine ⟨_,?_,fin es (by rw [hdel];exact hok)⟩
  simp [Builtin.delete_,Sem.run_bind,ht w,h1,z4o hk,z6r hk hok.eq,hmx,hset]
 | some p =>
  obtain ⟨j,y⟩:=p
  rw [hmx] at hdel
  simp only [Nat.sub_zero] at hdel
  have hl:(es.eraseIdxIfInBounds j).toList=es.toList.eraseIdx j:=by simp
  have hsub:(es.toList.eraseIdx j).Sublist es.toList:=List.eraseIdx_sublist _ _
  refine ⟨_,?_,fin (es.eraseIdxIfInBounds j) ⟨by rw [hl,hdel,map_erase,map_erase,hok.eq],fun e he=>hok.old e (hsub.subset (hl▸he)),by rw [hl];exact hok.nodup.sublist (hsub.map _)⟩⟩
  simp [Builtin.delete_,Sem.run_bind,ht w,h1,z4o hk,z6r hk hok.eq,hmx,hset]
theorem eff_delete (i:Nat) {t kt et t2:TypeId} {x y:Operand} {b:Nat} {m:List (Bs×Value)} {s:Bs} (ht:Under P t (.map kt et)) (hk:Under P kt .string)
  (he:EnvR n E D a) (hm:Mem Φ K w) (hx:ev E x=some (.map (some b))) (hy:ev E y=some (.string s)) (hK:kget K i=some (.mp b m))
  (k:∀w',Mem Φ (kset K i (.mp b (mdel m s))) w'→Kn (.tuple #[]) w'):Oper.eff P ⟨dst,.call { callee:=.builtin .delete,args:=#[x,y],argTypes:=#[t,t2] },ty,pos,aft,g⟩ a w Kn Qp:=by
 obtain ⟨es,clock,hb,hok⟩:=hm.own _ (z1a hK)
 have h1:(getObj b).run P w=.ok (.map es clock) w:=by simp [getObj,Sem.run,hb]
 have hlt:b < w.heap.size:=(Array.getElem?_eq_some_iff.1 hb).1
 have hset:∀o,(setObj b o).run P w=.ok () { w with heap:=w.heap.setIfInBounds b o }:=fun o=>by simp only [setObj,Sem.run,hb]
 have fin:∀es',MapOk es' clock (mdel m s)→Mem Φ (kset K i (.mp b (mdel m s))) { w with heap:=w.heap.setIfInBounds b (.map es' clock) }:=fun es' h =>
  hm.upd hK rfl rfl (fun c hc hne=>by simp only;rw [Array.getElem?_setIfInBounds_ne (fun e=>hne (by simp [Res.foot,e]))]) ⟨es',clock,by simp [hlt],h⟩ (.inl rfl)
 have hdel:=mdel_eq m s 0
 have hrun:∃es',MapOk es' clock (mdel m s)∧(Builtin.delete_ #[t,t2] ty #[.map (some b),.string s]).run P w=.ok (.tuple #[]) { w with heap:=w.heap.setIfInBounds b (.map es' clock) }:=by
  cases hmx:midx m s 0 with
  | none =>
   rw [hmx] at hdel
   simp only at hdel
   refine ⟨es,by rw [hdel];exact hok,?_⟩
   simp [Builtin.delete_,Sem.run_bind,ht w,h1,z4o hk,z6r hk hok.eq,hmx,hset]
  | some p =>
   obtain ⟨j,y⟩:=p
   rw [hmx] at hdel
   simp only [Nat.sub_zero] at hdel
   refine ⟨es.eraseIdxIfInBounds j,?_,?_⟩
   ·have hl:(es.eraseIdxIfInBounds j).toList=es.toList.eraseIdx j:=by simp
    have hsub:(es.toList.eraseIdx j).Sublist es.toList:=List.eraseIdx_sublist _ _
    refine ⟨?_,fun e he=>hok.old e (hsub.subset (hl▸he)),?_⟩
    ·rw [hl,hdel,map_erase,map_erase,hok.eq]
    ·rw [hl];exact hok.nodup.sublist (hsub.map _)
   ·simp [Builtin.delete_,Sem.run_bind,ht w,h1,z4o hk,z6r hk hok.eq,hmx,hset]
 obtain ⟨es',h2,h3⟩:=hrun
 unfold Oper.eff
 have:(execOp a.eval ⟨dst,.call { callee:=.builtin .delete,args:=#[x,y],argTypes:=#[t,t2] },ty,pos,aft,g⟩).run P w=.ok (.value (.tuple #[])) { w with heap:=w.heap.setIfInBounds b (.map es' clock) }:=by
  simp only [execOp,resolve,invoke,builtin,Sem.run_bind,Sem.run_pure,Result.andThen_ok,List.map_toArray,List.map_cons,List.map_nil,he.ev hx,he.ev hy,h3]
 rw [this]
 exact k _ (fin _ h2)
end Go.Sw

namespace Go.Sw
theorem z3d {e:Ex} {a b:Bool} {n:Nat} {r:Int} (h:z2o e a b (n:Int) r=true):e.args.length=n:=by
 simp only [z2o,Bool.and_eq_true,Bool.or_eq_true,decide_eq_true_eq] at h
 omega
theorem z2h {T:Table} {l:List Ex} {x:Ex} {s:Scope} (h:l[0]? = some x):firstP T l s=z0c T x s:=by
 cases l with
 | nil=>simp at h
 | cons y l=>simp only [List.getElem?_cons_zero,Option.some.injEq] at h;subst h;rfl
def z3r (T:Table) (e:Ex) (s:Scope):Bs×Scope :=
 if z2o e false false 1 (-1)=true then
  match lget T.datas (firstP T e.args s).1 with
  | none=>(sNo,(firstP T e.args s).2)
  | some d=>if d.cons.length=e.arms.length then splitP T e.arms d.cons true sNo (firstP T e.args s).2 else (sNo,(firstP T e.args s).2)
 else (sNo,s)
def armT (T:Table) (a:Arm) (c:Con) (s:Scope):Bs×Scope:=((z0c T a.body (putAll s a.vars c.fields)).1,delAll (z0c T a.body (putAll s a.vars c.fields)).2 a.vars)
theorem z2e (T:Table) (a:Arm) (az:List Arm) (c:Con) (cs:List Con) (first:Bool) (out:Bs) (s:Scope):splitP T (a::az) (c::cs) first out s =
  if a.con≠c.name∨a.vars.length≠c.fields.length then (sNo,s) else
  if (armT T a c s).1=sNo∨(first=false∧(armT T a c s).1≠out) then (sNo,(armT T a c s).2)
  else splitP T az cs false (armT T a c s).1 (armT T a c s).2:=by
 cases a;rfl
theorem z8i (s:Scope) (v:Bs) (vs:List Bs) (f:Bs) (fs:List Bs):putAll s (v::vs) (f::fs)=putAll (lput s v f) vs fs:=rfl
theorem z3a (s:Scope) (fs:List Bs):putAll s [] fs=s:=by cases fs <;> rfl
end Go.Sw

namespace Go.Sw
variable {P:Program}
theorem step_defer_builtin {fr:Frame} {cs:List Frame} {w w':World} {d:Deferred} {ds:List Deferred} {b:Builtin} {ts:Array TypeId} {ty:TypeId} {k:Array Bool} {v:Value}
  (hm:fr.mode≠.run) (hd:fr.defers=d::ds) (ht:d.target=.builtin b ts ty k) (hi:(invoke d.target d.args).run P w=.ok (.value v) w') :
  step P (lone fr cs w)=.next (lone { fr with defers:=ds } cs w'):=by
 obtain ⟨t,a⟩:=d
 simp only at ht hi
 subst ht
 refine step_lone_go ?_
 cases hmode:fr.mode with
 | run=>exact absurd hmode hm
 | returning=>simp [stepG,unwind,callDeferred,hmode,hd,hi]
 | panicking chain=>simp [stepG,unwind,callDeferred,hmode,hd,hi]
def postB (P:Program) (fn:Func) (R:Ending→World→Prop):Exit→Act→World→Prop
 | .ret,a,w=>(a.defers=[]∧∃x,(results fn a.tmps).run P w=.ok x w∧R (.returned x) w) ∨
   ∃d b ts ty k v w',a.defers=[d]∧d.target=.builtin b ts ty k∧(invoke d.target d.args).run P w=.ok (.value v) w'∧∃x,(results fn a.tmps).run P w'=.ok x w'∧R (.returned x) w'
 | _,_,_=>False
theorem calls_of_postB {f:FuncId} {fn:Func} {c:Code} {args:Array Value} {w:World} {R:Ending→World→Prop} (hf:P.funcs[f]? = some fn) (hb:fn.body=some c)
  (h:c.wp P (postB P fn R) { tmps:=args++Array.replicate (fn.ntmps - args.size) undef,defers:=[] } w):Calls P f args w R:=by
 intro cs
 let b:Frame:={ (default:Frame) with fn:=f,kind:=.normal }
 have henter:Frame.enter P f args .normal=b.at { tmps:=args++Array.replicate (fn.ntmps - args.size) undef,defers:=[] } [.code c]:=by
  simp [Frame.enter,Frame.at,hf,hb,b]
 obtain ⟨e,a',w',hq,harr⟩:=h b [] cs
 rw [← henter] at harr
 cases e with
 | ret =>
  obtain ⟨todo,hs⟩:=harr
  rcases hq with ⟨hd,x,hr,hR⟩ | ⟨d,bb,ts,ty,k,v,w'',hd,ht,hi,x,hr,hR⟩
  ·exact ⟨.returned x,w',_,hR,hs,rfl,rfl,hd,rfl,fn,hf,hr⟩
  ·have h1:=step_defer_builtin (fr:={ b.at a' todo with mode:=.returning }) (cs:=cs) (by simp) hd ht hi
   exact ⟨.returned x,w'',_,hR,Steps.trans hs (.one h1),rfl,rfl,rfl,rfl,fn,hf,hr⟩
 | normal=>exact hq.elim
 | panic chain=>exact hq.elim
 | exit id=>exact hq.elim
 | goto l=>exact hq.elim
 | outgrown=>exact hq.elim
theorem enterB {n:Nat} {w:World} {f:FuncId} {fn:Func} {c:Code} {vs:List Value} {R:Ending→World→Prop} (hf:P.funcs[f]? = some fn) (hb:fn.body=some c) (hn:fn.ntmps=n) (hl:Nat.ble vs.length n=true)
  (k:∀Q:Exit→Act→World→Prop,(∀e a w,postB P fn R e a w→Q e a w)→∀a,EnvR n (y0j 0 vs) [] a→c.wp P Q a w):Calls P f vs.toArray w R:=by
 have hl':vs.length≤n:=by simpa using hl
 refine calls_of_postB hf hb (k _ (fun _ _ _ h=>h) _ ⟨by simp [hn];omega,fun t v ht =>?_,rfl⟩)
 obtain ⟨_,h2⟩:=z8a vs 0 t v ht
 simp only [Nat.sub_zero] at h2
 have hlt:t < vs.length:=(List.getElem?_eq_some_iff.1 h2).1
 simp only [List.getElem?_toArray,Array.getElem?_append,List.size_toArray,hlt,↓reduceIte]
 exact h2
section
variable {n:Nat} {E:List (Nat×Value)} {D:List Deferred} {a:Act} {w:World} {ops:Array Oper} {rest:List Oper} {Q:Exit→Act→World→Prop} {ty:TypeId} {pos:String} {aft:Array Edge}
theorem st_defer_builtin {b:Builtin} {xs:Array Operand} {ts:Array TypeId} {vs:List Value} (he:EnvR n E D a) (hx:evs E xs.toList=some vs)
  (k:∀a fl,EnvR n E ({ target:=.builtin b ts ty fl,args:=vs.toArray }::D) a→wpList P ops Q rest a w) :
  wpList P ops Q (⟨none,.defer { callee:=.builtin b,args:=xs,argTypes:=ts },ty,pos,aft,none⟩::rest) a w:=by
 refine wpList_plain rfl fun L hL =>?_
 unfold Oper.wp
 simp only [execOp,resolve,he.evsA hx]
 exact hL _ _ (k _ _ ⟨he.size,he.env,congrArg (List.cons _) he.defs⟩)
end
section
variable {n:Nat} {E:List (Nat×Value)} {a:Act} {w:World} {Φ:Fz} {K:List Res}
theorem ret1B {fn:Func} {R:Ending→World→Prop} {t:Nat} {v:Value} (he:EnvR n E [] a) (hr:fn.results=#[.tmp t]) (hv:get E t=some v) (h:R (.returned v) w):postB P fn R .ret a w :=
 .inl ⟨he.defs,v,by simp [results,hr,Array.getD_eq_getD_getElem?,he.env t v hv],h⟩
theorem ret1B_delete (i:Nat) {fn:Func} {R:Ending→World→Prop} {t:Nat} {v:Value} {tm kt et t2 ty:TypeId} {fl:Array Bool} {b:Nat} {m:List (Bs×Value)} {s:Bs} (ht:Under P tm (.map kt et)) (hk:Under P kt .string)
  (he:EnvR n E [⟨.builtin .delete #[tm,t2] ty fl,#[.map (some b),.string s]⟩] a) (hr:fn.results=#[.tmp t]) (hv:get E t=some v) (hm:Mem Φ K w) (hK:kget K i=some (.mp b m))
  (h:∀w',Mem Φ (kset K i (.mp b (mdel m s))) w'→R (.returned v) w'):postB P fn R .ret a w:=by
 obtain ⟨w',h1,h2⟩:=run_delete (t2:=t2) (ty:=ty) i ht hk hm hK (s:=s)
 exact .inr ⟨_,_,_,_,_,_,w',he.defs,rfl,(by simp only [invoke,builtin,Sem.run_bind,h1];rfl),v,by simp [results,hr,Array.getD_eq_getD_getElem?,he.env t v hv],h w' h2⟩
end
def letT (T:Table) (e:Ex) (s:Scope):Bs×Scope:=if z2o e false true 2 0=true then letP T e.name e.args s else (sNo,s)
theorem letP_no {T:Table} {nm:Bs} {l:List Ex} {x:Ex} {s:Scope} (h:l[0]? = some x) (hn:(z0c T x s).1=sNo):letP T nm l s=(sNo,(z0c T x s).2):=by
 cases l with
 | nil=>simp at h
 | cons y l=>simp only [List.getElem?_cons_zero,Option.some.injEq] at h;subst h;simp only [letP];rw [if_pos hn]
theorem letP_yes {T:Table} {nm:Bs} {l:List Ex} {x y:Ex} {s:Scope} (h:l[0]? = some x) (h1:l[1]? = some y) (hn:¬(z0c T x s).1=sNo) :
  letP T nm l s=((z0c T y (lput (z0c T x s).2 nm (z0c T x s).1)).1,ldel (z0c T y (lput (z0c T x s).2 nm (z0c T x s).1)).2 nm):=by
 cases l with
 | nil=>simp at h
 | cons z l =>
  simp only [List.getElem?_cons_zero,Option.some.injEq] at h;subst h
  simp only [letP];rw [if_neg hn]
  simp only [List.getElem?_cons_succ] at h1
  rw [z2h h1]
end Go.Sw

namespace Go.Sw
open Go.Proofs
def digsR:Nat→Nat→List UInt8
 | 0,_=>[]
 | f+1,n=>if n < 10 then [(48+n).toUInt8] else (48+n % 10).toUInt8::digsR f (n / 10)
def digsL (n:Nat):List UInt8:=(digsR (n+1) n).reverse
def itoaL (i:Int):List UInt8:=if i < 0 then 45::digsL (-i).toNat else digsL i.toNat
def itoaP (n:Int):Bs:=⟨(Lib.itoa n).toArray⟩
def replB (s old new:Bs):Bs:=⟨(Lib.replace s.data.toList old.data.toList new.data.toList 1).toArray⟩
def atoiC (s:Bs):Except Unit Int:=match Lib.atoiAll s.data.toList with
 | .ok v=>.ok v
 | _=>.error ()
def digitsB (n:Int):Bs:=replB (itoaP n) ⟨#[45]⟩ ⟨#[126]⟩
def numberP (s:Bs):Option Int:=match atoiC (replB s ⟨#[126]⟩ ⟨#[45]⟩) with
 | .ok v=>if digitsB v=s then some v else none
 | .error _=>none
def intP (s:Bs):Option Int:=match atoiC s with
 | .ok v=>if itoaP v=s then some v else none
 | .error _=>none
def z4p (t:Bs) (pos:Nat):Nat:=if z0m t pos=126 then 1 else 0
def z4b (t:Bs) (pos:Nat):Nat:=runB z1y t t.size (pos+z4p t pos)
def z8g (t:Bs) (pos:Nat):Bs:=t.extract pos (pos+(z4p t pos+z4b t pos))
def numF (t:Bs) (pos:Nat):Except (Nat×Int) Tok :=
 match numberP (z8g t pos) with
 | none=>.error (pos,13)
 | some v =>
  if z3f (z0m t (pos+(z4p t pos+z4b t pos)))=true∨z0m t (pos+(z4p t pos+z4b t pos))=39 then .error (pos,13)
  else .ok ⟨1,v,z8g t pos,pos⟩
def signB (c:Nat):Bool:=[40,41,44,59,58,124,61,60,43,45,42,47,37,95].contains c
def z0s (t:Bs) (pos:Nat):Except (Nat×Int) Tok :=
 if z1y (z0m t pos)=true∨z0m t pos=126 then numF t pos
 else if smallB (z0m t pos)=true then z7n t pos 2
 else if greatB (z0m t pos)=true then z7n t pos 3
 else if z0m t pos=39∧smallB (z0m t (pos+1))=true then z6l t pos 4 (1+runB z3f t t.size (pos+1))
 else if z5t (t.extract pos t.size) ⟨#[61,62]⟩=true∨z5t (t.extract pos t.size) ⟨#[45,62]⟩=true then z6l t pos 6 2
 else if signB (z0m t pos)=true then z6l t pos 6 1
 else .error (pos,11)
def toksP (t:Bs):Nat→Nat→Except (Nat×Int) (List Tok)
 | 0,_=>.ok []
 | f+1,i =>
  match passF t i with
  | .error c=>.error c
  | .ok q=>if q < t.size then
    match z0s t q with
    | .error c=>.error c
    | .ok k=>match toksP t f (q+k.text.size) with
     | .error c=>.error c
     | .ok l=>.ok (k::l)
   else .ok []
def toksF (t:Bs):Except (Nat×Int) (List Tok):=toksP t (t.size+1) 0
def kindP (s:Bs):Int :=
 if 24 < s.size then 0 else
 match toksF s with
 | .ok [k]=>if k.text=s then k.kind else 0
 | _=>0
def z1s (s:Bs):Bool:=decide (kindP s=2)
def z2k (s:Bs):Bool:=decide (kindP s=3)
end Go.Sw

namespace Go.Sw
mutual
def z3t:Val→Int→Bool×Int
 | .mk _ _ args,l=>if IntKind.i64.wrap (l - 1) < 0 then (true,IntKind.i64.wrap (l - 1)) else larges args (IntKind.i64.wrap (l - 1))
def larges:List Val→Int→Bool×Int
 | [],l=>(false,l)
 | v::vs,l=>match z3t v l with
  | (true,q)=>(true,q)
  | (false,q)=>larges vs q
end
def z6e (v:Val):Bool:=(z3t v 4000).1
mutual
def hasP (T:Table):Val→Bs→Bool
 | .mk con num args,name =>
  if con=sNo∨name=sInt then decide (con=sNo)&&decide (name=sInt)&&decide (args.length=0)
  else match lget T.cons con with
   | none=>false
   | some m=>decide (m.data=name)&&decide (num=0)&&decide (m.con.fields.length=args.length)&&hasL T args m.con.fields
def hasL (T:Table):List Val→List Bs→Bool
 | [],_=>true
 | v::vs,fs=>hasP T v (fs.headD sNo)&&hasL T vs fs.tail
end
def z9b (T:Table):List Named→List Param→Bool
 | [],[]=>true
 | v::vs,p::ps=>decide (v.name=p.name) && !z6e v.value&&hasP T v.value p.type&&z9b T vs ps
 | _,_=>false
def givenA (T:Table):List Val→List Param→Bool
 | [],[]=>true
 | v::vs,p::ps => !z6e v&&hasP T v p.type&&givenA T vs ps
 | _,_=>false
inductive Ev (α:Type) where
 | ok (x:α) (g:Nat)
 | spent
 | stuck
abbrev Env:=List (Bs×Val)
def v0:Val:=.mk sNo 0 []
def vNum (n:Int):Val:=.mk sNo n []
def sTrue:Bs:=⟨#[84,114,117,101]⟩
def sFalse:Bs:=⟨#[70,97,108,115,101]⟩
def vSaid (b:Bool):Val:=.mk (if b then sTrue else sFalse) 0 []
def z2m (op:Bs) (a b:Int):Val :=
 if op=⟨#[43]⟩ then vNum (IntKind.i64.wrap (a+b))
 else if op=⟨#[45]⟩ then vNum (IntKind.i64.wrap (a - b))
 else if op=⟨#[42]⟩ then vNum (IntKind.i64.wrap (a * b))
 else if op=⟨#[60]⟩ then vSaid (decide (a < b))
 else if op=⟨#[61]⟩ then vSaid (decide (a=b))
 else if b=0 then v0
 else if op=⟨#[47]⟩ then vNum (IntKind.i64.wrap (a.tdiv b))
 else vNum (a.tmod b)
structure Ctx where
 funs:List (Bs×Fun)
 inp:List (Bs×Val)
def Ev.bind {α β:Type} (r:Ev α) (f:α→Nat→Ev β):Ev β:=match r with
 | .ok x g=>f x g
 | .spent=>.spent
 | .stuck=>.stuck
def z4c (ev:Nat→Ex→Env→Ev Val) (env:Env):List Ex→Nat→Ev (List Val)
 | [],g=>.ok [] g
 | e::es,g=>(ev g e env).bind fun v g=>(z4c ev env es g).bind fun l g=>.ok (v::l) g
def bindV:List Bs→List Val→Env→Option Env
 | [],_,env=>some env
 | n::ns,a::az,env=>bindV ns az ((n,a)::env)
 | _::_,[],_=>none
def z9o (ev:Nat→Ex→Env→Ev Val) (names:List Bs) (args:List Val) (env:Env) (body:Ex) (g:Nat):Ev Val :=
 match bindV names args env with
 | none=>.stuck
 | some env=>ev g body env
def z5e (ev:Nat→Ex→Env→Ev Val) (f:Fun) (args:List Val) (g:Nat):Ev Val:=z9o ev (f.params.map Param.name) args [] f.body g
def z4m:List Arm→Bs→Option Arm
 | [],_=>none
 | a::az,c=>if a.con=c then some a else z4m az c
def z3z (ev:Nat→Ex→Env→Ev Val) (C:Ctx) (g:Nat) (e:Ex) (env:Env):Ev Val :=
 if e.kind=1 then .ok (vNum e.num) g
 else if e.kind=2 then .ok ((lget env e.name).getD v0) g
 else if e.kind=3 then .ok ((lget C.inp e.name).getD v0) g
 else if e.kind=4 then (z4c ev env e.args g).bind fun l g=>.ok (.mk e.name 0 l) g
 else if e.kind=5 then match lget C.funs e.name with
  | none=>.stuck
  | some f=>(z4c ev env e.args g).bind fun l g=>z5e ev f l g
 else if e.kind=6 then match e.args with
  | a::b::_=>(ev g a env).bind fun x g=>ev g b ((e.name,x)::env)
  | _=>.stuck
 else if e.kind=7 then match e.args with
  | a::_=>(ev g a env).bind fun x g=>match z4m e.arms x.con with
   | none=>.ok v0 g
   | some m=>z9o ev m.vars x.args env m.body g
  | _=>.stuck
 else if e.kind=8 then (z4c ev env e.args g).bind fun l g=>match l with
  | a::b::_=>.ok (z2m e.name a.num b.num) g
  | _=>.stuck
 else .ok v0 g
def evalP (C:Ctx):Nat→Nat→Ex→Env→Ev Val
 | 0,_,_,_=>.spent
 | _+1,0,_,_=>.spent
 | n+1,g+1,e,env=>z3z (evalP C n) C g e env
def z2g (C:Ctx) (g:Nat) (e:Ex) (env:Env):Ev Val:=evalP C (g+1) g e env
def Downs (ev:Nat→Ex→Env→Ev Val):Prop:=∀g e env v g',ev g e env=.ok v g'→g' < g
theorem Ev.bind_ok {α β:Type} {r:Ev α} {f:α→Nat→Ev β} {y:β} {g:Nat} (h:r.bind f=.ok y g):∃x g1,r=.ok x g1∧f x g1=.ok y g:=by
 cases r with
 | ok x g1=>exact ⟨x,g1,rfl,h⟩
 | spent=>cases h
 | stuck=>cases h
theorem z8z {ev:Nat→Ex→Env→Ev Val} (hd:Downs ev) {env:Env}:∀{l:List Ex} {g g':Nat} {vs:List Val},z4c ev env l g=.ok vs g'→g'≤g
 | [],g,g',vs,h=>by simp only [z4c,Ev.ok.injEq] at h;omega
 | e::es,g,g',vs,h=>by
  obtain ⟨v,g1,h1,h2⟩:=Ev.bind_ok h
  obtain ⟨w,g2,h3,h4⟩:=Ev.bind_ok h2
  have:=hd _ _ _ _ _ h1
  have:=z8z hd h3
  simp only [Ev.ok.injEq] at h4
  omega
theorem bodyP_lt {ev:Nat→Ex→Env→Ev Val} (hd:Downs ev) {ns:List Bs} {az:List Val} {env:Env} {b:Ex} {g g':Nat} {v:Val} (h:z9o ev ns az env b g=.ok v g'):g' < g:=by
 unfold z9o at h
 split at h
 ·cases h
 ·exact hd _ _ _ _ _ h
theorem stepP_le {ev:Nat→Ex→Env→Ev Val} (hd:Downs ev) {C:Ctx} {g g':Nat} {e:Ex} {env:Env} {v:Val} (h:z3z ev C g e env=.ok v g'):g'≤g:=by
 unfold z3z at h
 split at h
 ·simp only [Ev.ok.injEq] at h;omega
 split at h
 ·simp only [Ev.ok.injEq] at h;omega
 split at h
 ·simp only [Ev.ok.injEq] at h;omega
 split at h
 ·obtain ⟨l,g1,h1,h2⟩:=Ev.bind_ok h
  have:=z8z hd h1
  simp only [Ev.ok.injEq] at h2;omega
 split at h
 ·split at h
  ·cases h
  ·obtain ⟨l,g1,h1,h2⟩:=Ev.bind_ok h
   have:=z8z hd h1
   have:=bodyP_lt hd h2;omega
 split at h
 ·split at h
  ·obtain ⟨l,g1,h1,h2⟩:=Ev.bind_ok h
   have:=hd _ _ _ _ _ h1
   have:=hd _ _ _ _ _ h2
   omega
  ·cases h
 split at h
 ·split at h
  ·obtain ⟨l,g1,h1,h2⟩:=Ev.bind_ok h
   have:=hd _ _ _ _ _ h1
   split at h2
   ·simp only [Ev.ok.injEq] at h2;omega
   ·have:=bodyP_lt hd h2;omega
  ·cases h
 split at h
 ·obtain ⟨l,g1,h1,h2⟩:=Ev.bind_ok h
  have:=z8z hd h1
  split at h2
  ·simp only [Ev.ok.injEq] at h2;omega
  ·cases h2
 ·simp only [Ev.ok.injEq] at h;omega
theorem y0n (C:Ctx):∀n,Downs (evalP C n)
 | 0=>fun g e env v g' h=>by cases h
 | n+1=>fun g e env v g' h=>by
  cases g with
  | zero=>cases h
  | succ g=>have:=stepP_le (y0n C n) (show z3z (evalP C n) C g e env=.ok v g' from h);omega
def Agree (G:Nat) (ev ev':Nat→Ex→Env→Ev Val):Prop:=∀g e env,g < G→ev g e env=ev' g e env
theorem eachP_agree {G:Nat} {ev ev':Nat→Ex→Env→Ev Val} (ha:Agree G ev ev') (hd:Downs ev) {env:Env}:∀{l:List Ex} {g:Nat},g < G→z4c ev env l g=z4c ev' env l g
 | [],_,_=>rfl
 | e::es,g,hg=>by
  simp only [z4c]
  rw [← ha g e env hg]
  cases h:ev g e env with
  | ok v g1 =>
   have:=hd _ _ _ _ _ h
   simp only [Ev.bind]
   rw [eachP_agree ha hd (by omega)]
  | spent=>rfl
  | stuck=>rfl
theorem bodyP_agree {G:Nat} {ev ev':Nat→Ex→Env→Ev Val} (ha:Agree G ev ev') {ns:List Bs} {az:List Val} {env:Env} {b:Ex} {g:Nat} (hg:g < G):z9o ev ns az env b g=z9o ev' ns az env b g:=by
 unfold z9o
 split
 ·rfl
 ·exact ha _ _ _ hg
theorem stepP_agree {G:Nat} {ev ev':Nat→Ex→Env→Ev Val} (ha:Agree G ev ev') (hd:Downs ev) (C:Ctx) {g:Nat} (e:Ex) (env:Env) (hg:g < G):z3z ev C g e env=z3z ev' C g e env:=by
 have hb:∀{α β:Type} (r:Ev α) (f f':α→Nat→Ev β),(∀x g1,r=.ok x g1→f x g1=f' x g1)→r.bind f=r.bind f':=by
  intro α β r f f' h
  cases r with
  | ok x g1=>exact h x g1 rfl
  | spent=>rfl
  | stuck=>rfl
 unfold z3z
 rw [eachP_agree ha hd hg]
 have hle:∀{l g1},z4c ev' env e.args g=.ok l g1→g1 < G:=fun h=>by
  rw [← eachP_agree ha hd hg] at h
  have:=z8z hd h;omega
 congr 4
 congr 1
 ·split
  ·rfl
  ·refine hb _ _ _ fun l g1 h =>?_
   exact bodyP_agree ha (hle h)
 congr 1
 ·split
  ·rename_i a b _ _
   rw [← ha g a env hg]
   refine hb _ _ _ fun x g1 h =>?_
   have:=hd _ _ _ _ _ h
   exact ha _ _ _ (by omega)
  ·rfl
 congr 1
 ·split
  ·rename_i a _ _
   rw [← ha g a env hg]
   refine hb _ _ _ fun x g1 h =>?_
   have:=hd _ _ _ _ _ h
   split
   ·rfl
   ·exact bodyP_agree ha (by omega)
  ·rfl
theorem evalP_more (C:Ctx):∀(n m g:Nat) (e:Ex) (env:Env),g < n→g < m→evalP C n g e env=evalP C m g e env
 | 0,_,_,_,_,h,_=>by omega
 | _+1,0,_,_,_,_,h=>by omega
 | n+1,m+1,0,e,env,_,_=>rfl
 | n+1,m+1,g+1,e,env,h,h'=>by
  simp only [evalP]
  exact stepP_agree (G:=g+1) (fun g1 e1 env1 h1=>evalP_more C n m g1 e1 env1 (by omega) (by omega)) (y0n C n) C e env (by omega)
theorem evalF_agree (C:Ctx) {n g:Nat} (h:g < n) (e:Ex) (env:Env):evalP C n g e env=z2g C g e env:=evalP_more C n (g+1) g e env h (by omega)
theorem z9t (C:Ctx) (e:Ex) (env:Env):z2g C 0 e env=.spent:=rfl
theorem z0u (C:Ctx) (g:Nat) (e:Ex) (env:Env):z2g C (g+1) e env=z3z (z2g C) C g e env :=
 stepP_agree (G:=g+1) (ev:=evalP C (g+1)) (ev':=z2g C) (fun g1 e1 env1 h1=>evalF_agree C h1 e1 env1) (y0n C (g+1)) C e env (by omega)
theorem z1u (C:Ctx):Downs (z2g C):=fun g e env v g' h=>y0n C (g+1) g e env v g' h
def z3y (C:Ctx):List Bs→Nat→Ev (List Val)
 | [],g=>.ok [] g
 | o::os,g=>match lget C.funs o with
  | none=>.stuck
  | some f=>(z5e (z2g C) f [] g).bind fun v g=>(z3y C os g).bind fun l g=>.ok (v::l) g
mutual
def z1r:Ex→List Bs
 | .mk k _ s args arms=>(if k=5 then [s] else [])++calledPs args++calledPa arms
def calledPs:List Ex→List Bs
 | []=>[]
 | e::es=>z1r e++calledPs es
def calledPa:List Arm→List Bs
 | []=>[]
 | .mk _ _ b::es=>z1r b++calledPa es
end
theorem z9p (e:Ex):z1r e=(if e.kind=5 then [e.name] else [])++calledPs e.args++calledPa e.arms:=by
 cases e;simp only [z1r,Ex.args,Ex.arms];rfl
theorem y0l (a:Arm) (es:List Arm):calledPa (a::es)=z1r a.body++calledPa es:=by
 cases a;rfl
end Go.Sw

namespace Go.Sw
def sepB (c:Nat):Bool:=decide (c=32) || decide (c=10) || decide (c=40) || decide (c=41)
def z1x (t:Bs) (i:Nat):Nat:=runB (fun c => !sepB c) t t.size i
def z5o (t:Bs):Nat→Nat→List Bs
 | 0,_=>[]
 | f+1,i=>if i < t.size then
   if z0m t i=32∨z0m t i=10 then z5o t f (i+1)
   else if z0m t i=40∨z0m t i=41 then t.extract i (i+1)::z5o t f (i+1)
   else t.extract i (i+z1x t i)::z5o t f (i+z1x t i)
  else []
def wordsF (t:Bs):List Bs:=z5o t t.size 0
def z0e (ws:List Bs) (i:Nat):Bs:=ws.getD i sNo
abbrev Rd (α:Type):=Except Nat (α×Nat)
def z1t {α β:Type} (r:Rd α) (f:α→Nat→Rd β):Rd β:=match r with
 | .ok (x,i)=>f x i
 | .error n=>.error n
def z9l (ws:List Bs) (p:Bs→Bool) (i:Nat):Rd Bs:=if z0e ws i=sNo∨p (z0e ws i)=false then .error (i+1) else .ok (z0e ws i,i+1)
def z7a (ws:List Bs) (w:Bs) (i:Nat):Rd Unit:=z1t (z9l ws (fun s=>decide (s=w)) i) fun _ i=>.ok ((),i)
def rcon (ws:List Bs) (i:Nat):Rd Bs:=z9l ws z2k i
def y0v (ws:List Bs) (i:Nat):Rd Bs:=z9l ws z1s i
def sOpn:Bs:=⟨#[40]⟩
def sCls:Bs:=⟨#[41]⟩
def sArrow:Bs:=⟨#[45,62]⟩
def sEq:Bs:=⟨#[61]⟩
def sBar:Bs:=⟨#[124]⟩
def sColon:Bs:=⟨#[58]⟩
def sLet:Bs:=⟨#[108,101,116]⟩
def sCase:Bs:=⟨#[99,97,115,101]⟩
def z6q (ws:List Bs) (ex:Nat→Rd Ex):Nat→Nat→Nat→Rd (List Ex)
 | 0,_,i=>.error (i+1)
 | f+1,least,i=>if 0 < least∨z0e ws i≠sCls then z1t (ex i) fun e i=>z1t (z6q ws ex f (least - 1) i) fun l i=>.ok (e::l,i)
  else .ok ([],i)
def twoP (ex:Nat→Rd Ex) (i:Nat):Rd (List Ex):=z1t (ex i) fun a i=>z1t (ex i) fun b i=>.ok ([a,b],i)
def varsP (ws:List Bs):Nat→Nat→Rd (List Bs)
 | 0,i=>.error (i+1)
 | f+1,i=>if z0e ws i≠sArrow then z1t (y0v ws i) fun s i=>z1t (varsP ws f i) fun l i=>.ok (s::l,i) else .ok ([],i)
def armP (ws:List Bs) (ex:Nat→Rd Ex) (i:Nat):Rd Arm :=
 z1t (z7a ws sOpn i) fun _ i=>z1t (rcon ws i) fun c i=>z1t (varsP ws (ws.length+1) i) fun vs i =>
  z1t (z7a ws sArrow i) fun _ i=>z1t (ex i) fun b i=>z1t (z7a ws sCls i) fun _ i=>.ok (.mk c vs b,i)
def armsP (ws:List Bs) (ex:Nat→Rd Ex):Nat→Bool→Nat→Rd (List Arm)
 | 0,_,i=>.error (i+1)
 | f+1,first,i=>if first=true∨z0e ws i=sOpn then z1t (armP ws ex i) fun a i=>z1t (armsP ws ex f false i) fun l i=>.ok (a::l,i)
  else .ok ([],i)
def isOpB (s:Bs):Bool:=decide (s=⟨#[43]⟩) || decide (s=⟨#[45]⟩) || decide (s=⟨#[42]⟩) || decide (s=⟨#[47]⟩) || decide (s=⟨#[37]⟩) || decide (s=⟨#[60]⟩) || decide (s=⟨#[61]⟩)
def z1z (ws:List Bs) (ex:Nat→Rd Ex) (i:Nat):Rd Ex :=
 if isOpB (z0e ws i)=true then z1t (twoP ex (i+1)) fun l j=>.ok (.mk 8 0 (z0e ws i) l [],j)
 else if z0e ws i=sLet then z1t (y0v ws (i+1)) fun x j=>z1t (twoP ex j) fun l j=>.ok (.mk 6 0 x l [],j)
 else if z0e ws i=sCase then z1t (ex (i+1)) fun a j=>z1t (armsP ws ex (ws.length+1) true j) fun l j=>.ok (.mk 7 0 sNo [a] l,j)
 else if z2k (z0e ws i)=true then z1t (z6q ws ex (ws.length+1) 1 (i+1)) fun l j=>.ok (.mk 4 0 (z0e ws i) l [],j)
 else z1t (y0v ws i) fun x j=>z1t (z6q ws ex (ws.length+1) 0 j) fun l j=>.ok (.mk 5 0 x l [],j)
def z0q (ws:List Bs):Nat→Nat→Rd Ex
 | 0,i=>.error (i+1)
 | d+1,i=>if z0e ws i=sNo then .error (i+1) else
  match intP (z0e ws i) with
  | some n=>.ok (.mk 1 n sNo [] [],i+1)
  | none =>
   if z0e ws i=sOpn then z1t (z1z ws (z0q ws d) (i+1)) fun e j=>z1t (z7a ws sCls j) fun _ j=>.ok (e,j)
   else if z2k (z0e ws i)=true then .ok (.mk 4 0 (z0e ws i) [] [],i+1)
   else if z0m (z0e ws i) 0=33∧z1s ((z0e ws i).extract 1 (z0e ws i).size)=true then .ok (.mk 3 0 ((z0e ws i).extract 1 (z0e ws i).size) [] [],i+1)
   else z1t (y0v ws i) fun x j=>.ok (.mk 2 0 x [] [],j)
def z4l (ws:List Bs):Nat→Nat→Rd (List Bs)
 | 0,i=>.error (i+1)
 | f+1,i=>if z2k (z0e ws i)=true then z1t (rcon ws i) fun s i=>z1t (z4l ws f i) fun l i=>.ok (s::l,i) else .ok ([],i)
def consP (ws:List Bs):Nat→Nat→Rd (List Con)
 | 0,i=>.error (i+1)
 | f+1,i=>z1t (rcon ws i) fun n i=>z1t (z4l ws (ws.length+1) i) fun l i =>
   if z0e ws i≠sBar then .ok ([⟨n,l⟩],i) else z1t (consP ws f (i+1)) fun cs i=>.ok (⟨n,l⟩::cs,i)
def dataP (ws:List Bs) (i:Nat):Rd Data:=z1t (rcon ws i) fun n i=>z1t (z7a ws sEq i) fun _ i=>z1t (consP ws (ws.length+1) i) fun l i=>.ok (⟨n,l⟩,i)
def z6f (ws:List Bs) (i:Nat):Rd Param:=z1t (y0v ws i) fun n i=>z1t (z7a ws sColon i) fun _ i=>z1t (rcon ws i) fun t i=>.ok (⟨n,t⟩,i)
def z5g (ws:List Bs):Nat→Nat→Rd (List Param)
 | 0,i=>.error (i+1)
 | f+1,i=>if z0e ws i=sOpn then z1t (z6f ws (i+1)) fun p i=>z1t (z7a ws sCls i) fun _ i=>z1t (z5g ws f i) fun l i=>.ok (p::l,i)
  else .ok ([],i)
def funP (ws:List Bs) (i:Nat):Rd Fun:=z1t (y0v ws i) fun n i=>z1t (z5g ws (ws.length+1) i) fun ps i=>z1t (z7a ws sColon i) fun _ i =>
 z1t (rcon ws i) fun r i=>z1t (z7a ws sEq i) fun _ i=>z1t (z0q ws 250 i) fun b i=>.ok (⟨n,ps,r,b⟩,i)
def kData:Bs:=⟨#[100,97,116,97]⟩
def kInput:Bs:=⟨#[105,110,112,117,116]⟩
def kFun:Bs:=⟨#[102,117,110]⟩
def kOutput:Bs:=⟨#[111,117,116,112,117,116]⟩
def z2n (ws:List Bs):Nat→Core→Nat→Except Nat Core
 | 0,_,i=>.error (i+1)
 | f+1,c,i=>if i < ws.length then
   if z0e ws i=kData then match dataP ws (i+1) with
    | .ok (d,j)=>z2n ws f { c with datas:=c.datas++[d] } j
    | .error n=>.error n
   else if z0e ws i=kInput then match z6f ws (i+1) with
    | .ok (d,j)=>z2n ws f { c with inputs:=c.inputs++[d] } j
    | .error n=>.error n
   else if z0e ws i=kFun then match funP ws (i+1) with
    | .ok (d,j)=>z2n ws f { c with funs:=c.funs++[d] } j
    | .error n=>.error n
   else if z0e ws i=kOutput then match y0v ws (i+1) with
    | .ok (d,j)=>z2n ws f { c with outputs:=c.outputs++[d] } j
    | .error n=>.error n
   else .error (i+1)
  else .ok c
def readP (t:Bs):Except Nat Core:=z2n (wordsF t) ((wordsF t).length+1) ⟨[],[],[],[]⟩ 0
abbrev Tx:=List UInt8
def tx (s:Bs):Tx:=s.data.toList
mutual
def z4f:Ex→Tx
 | .mk k n s args arms =>
  if k=1 then itoaL n
  else if k=2 then tx s
  else if k=3 then 33::tx s
  else if k=4 then (match args with | []=>tx s | _=>40::tx s++writePs args++[41])
  else if k=6 then 40::[108,101,116,32]++tx s++writePs args++[41]
  else if k=7 then [40,99,97,115,101,32]++writeH args++writePa arms++[41]
  else 40::tx s++writePs args++[41]
def writePs:List Ex→Tx
 | []=>[]
 | e::es=>32::z4f e++writePs es
def writeH:List Ex→Tx
 | []=>[]
 | e::_=>z4f e
def writePa:List Arm→Tx
 | []=>[]
 | .mk c vs b::es=>[32,40]++(tx c++(vs.map fun v=>32::tx v).flatten)++[32,45,62,32]++z4f b++[41]++writePa es
end
end Go.Sw

namespace Go.Sw
def tabC (dn:Bs):Bool→List (Bs×Maker)→List Con→Bool×List (Bs×Maker)
 | ok,m,[]=>(ok,m)
 | ok,m,x::xs=>if (ok&&z2k x.name)=true then tabC dn (lget m x.name).isNone (z2z m x.name ⟨dn,x⟩) xs else tabC dn false m xs
def tabOk (ok:Bool) (ds:List (Bs×Data)) (d:Data):Bool:=ok&&z2k d.name && !decide (d.name=sInt)&&(lget ds d.name).isNone&&decide (0 < d.cons.length)
def z7i (ok:Bool) (ds:List (Bs×Data)) (d:Data):List (Bs×Data):=if (ok&&z2k d.name && !decide (d.name=sInt))=true then z2z ds d.name d else ds
def tabD:Bool→List (Bs×Data)→List (Bs×Maker)→List Data→Bool×List (Bs×Data)×List (Bs×Maker)
 | ok,ds,m,[]=>(ok,ds,m)
 | ok,ds,m,d::l=>tabD (tabC d.name (tabOk ok ds d) m d.cons).1 (z7i ok ds d) (tabC d.name (tabOk ok ds d) m d.cons).2 l
def tabF:Bool→List (Bs×Fun)→List Fun→Bool×List (Bs×Fun)
 | ok,m,[]=>(ok,m)
 | ok,m,f::l=>if (ok&&z1s f.name)=true then tabF (lget m f.name).isNone (z2z m f.name f) l else tabF false m l
def tabI:Bool→List (Bs×Bs)→List Param→Bool×List (Bs×Bs)
 | ok,m,[]=>(ok,m)
 | ok,m,p::l=>if (ok&&z1s p.name)=true then tabI (lget m p.name).isNone (z2z m p.name p.type) l else tabI false m l
def dsP (c:Core):Bool×List (Bs×Data)×List (Bs×Maker):=tabD true [] [] (truthsD::c.datas)
def fsP (c:Core):Bool×List (Bs×Fun):=tabF (dsP c).1 [] c.funs
def isP (c:Core):Bool×List (Bs×Bs):=tabI (fsP c).1 [] c.inputs
def z0f (c:Core):Table:=⟨c,(dsP c).2.1,(dsP c).2.2,(fsP c).2,(isP c).2⟩
def z4s (c:Core):Bool:=(isP c).1
def z3q (ps:List Param):Scope:=ps.foldl (fun s p=>lput s p.name p.type) []
def z6k (T:Table) (f:Fun):Bool :=
 f.params.all (fun p=>z2b T p.type)&&z2b T f.result&&z5v z1s [] (f.params.map Param.name++z0n f.body)&&decide ((z0c T f.body (z3q f.params)).1=f.result)
def z6m (T:Table):List Bs→List Bs→Bool
 | _,[]=>true
 | seen,o::os=>match lget T.funs o with
  | none=>false
  | some f=>decide (f.params.length=0) && !has seen o&&z6m T (seen++[o]) os
def z4x (T:Table) (d:Data):Bool:=d.cons.all fun x=>x.fields.all fun s=>z2b T s
def z2a (c:Core):Bool :=
 z4s c&&decide (c.outputs≠[])&&c.datas.all (z4x (z0f c))&&c.inputs.all (fun p=>z2p c.datas p.type)&&c.funs.all (z6k (z0f c))&&z6m (z0f c) [] c.outputs
def z1g (c:Core):Int:=if c.funs.any (fun f=>z5i 250 f.body) then 6 else if z4y c then 2 else if z2a c then 0 else 80
def z2c (c:Core) (vars:List Param) (e:Ex):Bs×Int :=
 if z1g c≠0 then (sNo,z1g c)
 else if z5i 250 e then (sNo,6)
 else if (meas e 6000).1 then (sNo,2)
 else if vars.any (fun p => !z2b (z0f c) p.type) then (sNo,80)
 else if z5v z1s [] (vars.map Param.name++z0n e)=false then (sNo,80)
 else if (z0c (z0f c) e (z3q vars)).1=sNo then (sNo,80)
 else ((z0c (z0f c) e (z3q vars)).1,0)
end Go.Sw

namespace Go.Sw
section
variable (T:Table) (e:Ex) (s:Scope)
theorem z7x (h:e.kind=1):z0c T e s=(numberT e,s):=by
 cases e with | mk k n nm args arms=>simp only [Ex.kind] at h;subst h;simp [z0c]
theorem z7y (h:e.kind=2):z0c T e s=(z5n e s,s):=by
 cases e with | mk k n nm args arms=>simp only [Ex.kind] at h;subst h;simp [z0c]
theorem z7v (h:e.kind=3):z0c T e s=(inputT T e,s):=by
 cases e with | mk k n nm args arms=>simp only [Ex.kind] at h;subst h;simp [z0c]
theorem z6s (h:e.kind=5):z0c T e s=callT T e s:=by
 cases e with
 | mk k n nm args arms =>
  simp only [Ex.kind] at h;subst h
  simp only [z0c,callT,Ex.name,Ex.args,allP]
  simp only [show ¬(5:Int)=1 by decide,show ¬(5:Int)=2 by decide,show ¬(5:Int)=3 by decide,show ¬(5:Int)=4 by decide,if_false,if_true]
  cases lget T.funs nm with
  | none=>rfl
  | some m =>
   simp only
   by_cases hb:z2o (.mk 5 n nm args arms) false true (-1) 0=true
   ·by_cases hl:args.length=m.params.length
    ·simp [hb,hl]
    ·simp [hb,hl]
   ·simp [hb]
theorem z7w (h:e.kind=6):z0c T e s=letT T e s:=by
 cases e with
 | mk k n nm args arms=>simp only [Ex.kind] at h;subst h;simp [z0c,letT,Ex.name,Ex.args]
theorem z6t (h:e.kind=7):z0c T e s=z3r T e s:=by
 cases e with
 | mk k n nm args arms=>simp only [Ex.kind] at h;subst h;simp [z0c,z3r,Ex.args,Ex.arms];rfl
theorem y0d (h:e.kind=8):z0c T e s=opsT T e s:=by
 cases e with
 | mk k n nm args arms =>
  simp only [Ex.kind] at h;subst h
  simp only [z0c,opsT,Ex.name,Ex.args,allP]
  simp only [show ¬(8:Int)=1 by decide,show ¬(8:Int)=2 by decide,show ¬(8:Int)=3 by decide,show ¬(8:Int)=4 by decide,show ¬(8:Int)=5 by decide,show ¬(8:Int)=6 by decide,show ¬(8:Int)=7 by decide,if_false,if_true]
  by_cases hb:z2o (.mk 8 n nm args arms) false true 2 0=true
  ·have hl:args.length=2:=z3d (n:=2) hb
   simp [hb,hl]
  ·simp [hb]
theorem z8q (h1:e.kind≠1) (h2:e.kind≠2) (h3:e.kind≠3) (h4:e.kind≠4) (h5:e.kind≠5) (h6:e.kind≠6) (h7:e.kind≠7) (h8:e.kind≠8):z0c T e s=(sNo,s):=by
 cases e with
 | mk k n nm args arms=>simp only [Ex.kind] at *;simp [z0c, *]
end
theorem z4e {α:Type} (s:List (Bs×α)) (k n:Bs) (x:α):lget (lput s k x) n=if n=k then some x else lget s n:=by
 induction s with
 | nil=>simp [lput,lget]
 | cons p s ih =>
  obtain ⟨q,y⟩:=p
  simp only [lput]
  split
  ·subst_vars;simp only [lget];split <;> rfl
  ·simp only [lget,ih]
   by_cases h1:n=q
   ·subst h1
    rename_i h2
    rw [if_pos rfl,if_pos rfl,if_neg (fun e=>h2 e.symm)]
   ·rw [if_neg h1,if_neg h1]
theorem lput_fresh {α:Type}:∀{s:List (Bs×α)} {k:Bs} {x:α},lget s k=none→lput s k x=s++[(k,x)]
 | [],_,_,_=>rfl
 | (q,y)::s,k,x,h=>by
  simp only [lget] at h
  split at h
  ·cases h
  ·rename_i hne
   simp only [lput,if_neg hne,List.cons_append,lput_fresh h]
theorem ldel_app {α:Type}:∀{s:List (Bs×α)} {k:Bs} {x:α} {r:List (Bs×α)},lget s k=none→ldel (s++(k,x)::r) k=s++r
 | [],_,_,_,_=>by simp [ldel]
 | (q,y)::s,k,x,r,h=>by
  simp only [lget] at h
  split at h
  ·cases h
  ·rename_i hne
   simp only [List.cons_append,ldel,if_neg hne,ldel_app h]
theorem lget_app {α:Type}:∀{s:List (Bs×α)} {k:Bs} {r:List (Bs×α)},lget s k=none→lget (s++r) k=lget r k
 | [],_,_,_=>rfl
 | (q,y)::s,k,r,h=>by
  simp only [lget] at h
  split at h
  ·cases h
  ·rename_i hne
   simp only [List.cons_append,lget,if_neg hne,lget_app h]
def Fresh (s:Scope) (l:List Bs):Prop:=∀n∈l,lget s n=none
theorem Fresh.sub {s:Scope} {l m:List Bs} (h:Fresh s l) (hs:∀n∈m,n∈l):Fresh s m:=fun n hn=>h n (hs n hn)
theorem putAll_fresh:∀{vs fs:List Bs} {s:Scope},vs.length=fs.length→vs.Nodup→Fresh s vs→putAll s vs fs=s++vs.zip fs
 | [],[],s,_,_,_=>by simp [putAll]
 | v::vs,f::fs,s,hl,hn,hf=>by
  have h1:=hf v List.mem_cons_self
  rw [z8i,lput_fresh h1,putAll_fresh (by simpa using hl) (List.nodup_cons.1 hn).2]
  ·simp
  ·intro n hn'
   rw [lget_app (hf n (List.mem_cons_of_mem _ hn'))]
   have:n≠v:=fun e=>(List.nodup_cons.1 hn).1 (e▸hn')
   simp [lget,this]
 | [],_::_,_,hl,_,_=>by simp at hl
 | _::_,[],_,hl,_,_=>by simp at hl
theorem delAll_app:∀{vs fs:List Bs} {s:Scope},vs.length=fs.length→vs.Nodup→Fresh s vs→delAll (s++vs.zip fs) vs=s
 | [],[],s,_,_,_=>by simp [delAll]
 | v::vs,f::fs,s,hl,hn,hf=>by
  simp only [List.zip_cons_cons,delAll]
  rw [ldel_app (hf v List.mem_cons_self)]
  exact delAll_app (by simpa using hl) (List.nodup_cons.1 hn).2 (hf.sub fun n h=>List.mem_cons_of_mem _ h)
 | [],_::_,_,hl,_,_=>by simp at hl
 | _::_,[],_,hl,_,_=>by simp at hl
theorem z3o:∀{vs fs:List Bs} {s:Scope} {n:Bs},n∉vs→lget (putAll s vs fs) n=lget s n
 | [],_,_,_,_=>by rw [z3a]
 | v::vs,[],_,_,_=>rfl
 | v::vs,f::fs,s,n,h=>by
  rw [z8i,z3o (fun e=>h (List.mem_cons_of_mem _ e)),z4e,if_neg (fun e=>h (by rw [e];exact List.mem_cons_self))]
def All2 {α β:Type} (R:α→β→Prop):List α→List β→Prop
 | [],[]=>True
 | x::xs,y::ys=>R x y∧All2 R xs ys
 | _,_=>False
theorem All2.length {α β:Type} {R:α→β→Prop}:∀{xs:List α} {ys:List β},All2 R xs ys→xs.length=ys.length
 | [],[],_=>rfl
 | _::_,_::_,h=>by simp [All2.length h.2]
 | [],_::_,h=>h.elim
 | _::_,[],h=>h.elim
theorem All2.get {α β:Type} {R:α→β→Prop}:∀{xs:List α} {ys:List β} {i:Nat} {x:α} {y:β},All2 R xs ys→xs[i]? = some x→ys[i]? = some y→R x y
 | [],_,_,_,_,_,h,_=>by simp at h
 | _::_,[],_,_,_,h,_,_=>h.elim
 | _::_,_::_,0,_,_,h,h1,h2=>by
  simp only [List.getElem?_cons_zero,Option.some.injEq] at h1 h2
  subst h1;subst h2;exact h.1
 | _::_,_::_,i+1,_,_,h,h1,h2=>by
  simp only [List.getElem?_cons_succ] at h1 h2
  exact All2.get h.2 h1 h2
theorem All2.mono {α β:Type} {R R':α→β→Prop}:∀{xs:List α} {ys:List β},All2 R xs ys→(∀x∈xs,∀y,R x y→R' x y)→All2 R' xs ys
 | [],[],_,_=>trivial
 | x::_,_::_,h,hR=>⟨hR x List.mem_cons_self _ h.1,h.2.mono fun x hx y=>hR x (List.mem_cons_of_mem _ hx) y⟩
 | [],_::_,h,_=>h.elim
 | _::_,[],h,_=>h.elim
def Ty (T:Table) (e:Ex) (s:Scope) (t:Bs):Prop:=(z0c T e s).1=t∧t≠sNo
def Keeps (T:Table) (e:Ex):Prop:=∀s,(z0n e).Nodup→Fresh s (z0n e)→(z0c T e s).1≠sNo→(z0c T e s).2=s
theorem z0p {l m:List Bs} (h:(l++m).Nodup):l.Nodup∧m.Nodup∧∀n∈l,n∉m:=by
 rw [List.nodup_append] at h
 exact ⟨h.1,h.2.1,fun n hl hm=>h.2.2 n hl n hm rfl⟩
theorem allQ_inv {T:Table}:∀{xs:List Ex} {s:Scope} {ts:List Bs},(∀x∈xs,Keeps T x)→xs.length=ts.length→(bindPs xs).Nodup→Fresh s (bindPs xs)→(allQ T xs s ts).1=true →
  (allQ T xs s ts).2=s∧All2 (fun x t=>Ty T x s t) xs ts
 | [],s,[],_,_,_,_,_=>⟨rfl,trivial⟩
 | x::xs,s,t::ts,hk,hl,hn,hf,h=>by
  rw [allQ_cons] at h ⊢
  split at h
  ·cases h
  ·rename_i hc
   rw [if_neg hc]
   have hn':=z0p (show (z0n x++bindPs xs).Nodup from hn)
   have h1:(z0c T x s).1≠sNo:=fun e=>hc (.inl e)
   have h2:(z0c T x s).1=t:=Classical.byContradiction fun e=>hc (.inr e)
   have h3:=hk x List.mem_cons_self s hn'.1 (hf.sub fun n h=>List.mem_append.2 (.inl h)) h1
   rw [h3] at h ⊢
   have h4:=allQ_inv (fun y hy=>hk y (List.mem_cons_of_mem _ hy)) (by simpa using hl) hn'.2.1 (hf.sub fun n h=>List.mem_append.2 (.inr h)) h
   exact ⟨h4.1,⟨h2,h2▸h1⟩,h4.2⟩
 | [],_,_::_,_,hl,_,_,_=>by simp at hl
 | _::_,_,[],_,hl,_,_,_=>by simp at hl
theorem z7j {T:Table} {xs:List Ex} {s:Scope} {ts:List Bs} (hk:∀x∈xs,Keeps T x) (hn:(bindPs xs).Nodup) (hf:Fresh s (bindPs xs)) (h:(allP T xs s ts).1=true) :
  (allP T xs s ts).2=s∧All2 (fun x t=>Ty T x s t) xs ts:=by
 unfold allP at h ⊢
 split at h
 ·rename_i hl;rw [if_pos hl];exact allQ_inv hk hl hn hf h
 ·cases h
def ArmOk (T:Table) (s:Scope) (t:Bs) (a:Arm) (c:Con):Prop:=a.con=c.name∧a.vars.length=c.fields.length∧Ty T a.body (putAll s a.vars c.fields) t
theorem arm_keeps {T:Table} {a:Arm} {c:Con} {s:Scope} (hk:Keeps T a.body) (hl:a.vars.length=c.fields.length) (hn:(a.vars++z0n a.body).Nodup) (hf:Fresh s (a.vars++z0n a.body))
  (h:(armT T a c s).1≠sNo):(armT T a c s).2=s:=by
 have hn':=z0p hn
 have hv:Fresh s a.vars:=hf.sub fun n h=>List.mem_append.2 (.inl h)
 have h1:=hk (putAll s a.vars c.fields) hn'.2.1 (fun n hb=>by
  rw [z3o (fun hm=>hn'.2.2 n hm hb)];exact hf n (List.mem_append.2 (.inr hb))) h
 simp only [armT,h1]
 rw [putAll_fresh hl hn'.1 hv]
 exact delAll_app hl hn'.1 hv
theorem splitP_inv {T:Table} {t:Bs} (ht:t≠sNo):∀{az:List Arm} {cs:List Con} {first:Bool} {out:Bs} {s:Scope},(∀a∈az,Keeps T a.body)→cs.length=az.length→(bindPa az).Nodup→Fresh s (bindPa az) →
  (splitP T az cs first out s).1=t→(splitP T az cs first out s).2=s∧All2 (fun a c=>ArmOk T s t a c) az cs∧(first=false∨az=[]→out=t)
 | [],[],first,out,s,_,_,_,_,h=>⟨rfl,trivial,fun _=>h⟩
 | a::az,c::cs,first,out,s,hk,hl,hn,hf,h=>by
  rw [z1j] at hn hf
  have hn':=z0p hn
  rw [z2e] at h ⊢
  split at h
  ·exact absurd h.symm ht
  ·rename_i hc
   rw [if_neg hc]
   split at h
   ·exact absurd h.symm ht
   ·rename_i hd
    rw [if_neg hd]
    have hc1:a.con=c.name:=Classical.byContradiction fun e=>hc (.inl e)
    have hc2:a.vars.length=c.fields.length:=Classical.byContradiction fun e=>hc (.inr e)
    have h1:(armT T a c s).1≠sNo:=fun e=>hd (.inl e)
    have h3:=arm_keeps (hk a List.mem_cons_self) hc2 hn'.1 (hf.sub fun n h=>List.mem_append.2 (.inl h)) h1
    rw [h3] at h ⊢
    have h4:=splitP_inv ht (fun b hb=>hk b (List.mem_cons_of_mem _ hb)) (by simpa using hl) hn'.2.1 (hf.sub fun n h=>List.mem_append.2 (.inr h)) h
    have h5:(armT T a c s).1=t:=h4.2.2 (.inl rfl)
    refine ⟨h4.1,⟨⟨hc1,hc2,h5,ht⟩,h4.2.1⟩,fun hx =>?_⟩
    rcases hx with hx | hx
    ·rw [← h5]
     exact (Classical.byContradiction fun e=>hd (.inr ⟨hx,e⟩):(armT T a c s).1=out).symm
    ·cases hx
 | [],_::_,_,_,_,_,hl,_,_,_=>by simp at hl
 | _::_,[],_,_,_,_,hl,_,_,_=>by simp at hl
theorem y0p (T:Table) (hT0:lget T.datas sNo=none):∀(n:Nat) (e:Ex),e.sz < n→Keeps T e
 | 0,_,h=>by omega
 | n+1,e,hsz=>by
  intro s hn hf h
  have hka:∀x∈e.args,Keeps T x:=fun x hx=>y0p T hT0 n x (by have:=Ex.lt_args hx;omega)
  have hkb:∀a∈e.arms,Keeps T a.body:=fun a ha=>y0p T hT0 n a.body (by have:=Ex.lt_arms ha;omega)
  rw [z6u] at hn hf
  have hn1:=z0p hn
  have hn2:=z0p hn1.1
  have hfa:Fresh s (bindPs e.args):=hf.sub fun m hm=>List.mem_append.2 (.inl (List.mem_append.2 (.inr hm)))
  have hfb:Fresh s (bindPa e.arms):=hf.sub fun m hm=>List.mem_append.2 (.inr hm)
  by_cases h1:e.kind=1
  ·rw [z7x T e s h1]
  by_cases h2:e.kind=2
  ·rw [z7y T e s h2]
  by_cases h3:e.kind=3
  ·rw [z7v T e s h3]
  by_cases h4:e.kind=4
  ·rw [z7u T e s h4] at h ⊢
   unfold conT at h ⊢
   split at h
   ·rename_i hm;simp only [hm] at h ⊢
   ·rename_i m hm
    try simp only [hm]
    split at h
    ·rename_i hb
     rw [if_pos hb]
     by_cases ha:(allP T e.args s m.con.fields).1=true
     ·exact (z7j hka hn2.2.1 hfa ha).1
     ·simp [ha] at h
    ·exact absurd rfl h
  by_cases h5:e.kind=5
  ·rw [z6s T e s h5] at h ⊢
   unfold callT at h ⊢
   split at h
   ·rename_i hm;simp only [hm] at h ⊢
   ·rename_i m hm
    try simp only [hm]
    split at h
    ·rename_i hb
     rw [if_pos hb]
     by_cases ha:(allP T e.args s (m.params.map Param.type)).1=true
     ·exact (z7j hka hn2.2.1 hfa ha).1
     ·simp [ha] at h
    ·exact absurd rfl h
  by_cases h6:e.kind=6
  ·rw [z7w T e s h6] at h ⊢
   unfold letT at h ⊢
   split at h
   ·rename_i hb
    rw [if_pos hb]
    have hl:=z3d (n:=2) hb
    obtain ⟨x,hx⟩:=z2d (l:=e.args) (i:=0) (by omega)
    obtain ⟨y,hy⟩:=z2d (l:=e.args) (i:=1) (by omega)
    have hxy:e.args=[x,y]:=by
     cases ha:e.args with
     | nil=>rw [ha] at hl;simp at hl
     | cons a l =>
      cases l with
      | nil=>rw [ha] at hl;simp at hl
      | cons b l =>
       rw [ha] at hl hx hy
       simp only [List.length_cons] at hl
       have:l=[]:=List.eq_nil_of_length_eq_zero (by omega)
       subst this
       simp only [List.getElem?_cons_zero,List.getElem?_cons_succ,Option.some.injEq] at hx hy
       rw [hx,hy]
    by_cases h0:(z0c T x s).1=sNo
    ·rw [letP_no hx h0] at h;exact absurd rfl h
    ·rw [letP_yes hx hy h0] at h ⊢
     simp only [if_pos h6,hxy,bindPs,List.append_nil] at hn hf
     have hm1:=z0p hn
     have hm2:=z0p hm1.1
     have hm3:=z0p hm2.2.1
     have e1:=hka x (by rw [hxy];exact List.mem_cons_self) s hm3.1 (hf.sub fun m hm=>by simp [hm]) h0
     rw [e1] at h ⊢
     have hfe:lget s e.name=none:=hf e.name (by simp)
     have hkey:Fresh (lput s e.name (z0c T x s).1) (z0n y):=fun m hm=>by
      rw [z4e,if_neg]
      ·exact hf m (by simp [hm])
      ·rintro rfl
       exact hm2.2.2 e.name (by simp) (by simp [hm])
     have e2:=hka y (by rw [hxy];simp) _ hm3.2.1 hkey h
     simp only [e2]
     rw [lput_fresh hfe,ldel_app hfe,List.append_nil]
   ·exact absurd rfl h
  by_cases h7:e.kind=7
  ·rw [z6t T e s h7] at h ⊢
   unfold z3r at h ⊢
   split at h
   ·rename_i hb
    rw [if_pos hb]
    have hl:=z3d (n:=1) hb
    obtain ⟨x,hx⟩:=z2d (l:=e.args) (i:=0) (by omega)
    have hxy:e.args=[x]:=by
     cases ha:e.args with
     | nil=>rw [ha] at hl;simp at hl
     | cons a l =>
      rw [ha] at hl hx
      simp only [List.length_cons] at hl
      have:l=[]:=List.eq_nil_of_length_eq_zero (by omega)
      subst this
      simp only [List.getElem?_cons_zero,Option.some.injEq] at hx
      rw [hx]
    rw [z2h hx] at h ⊢
    split at h
    ·exact absurd rfl h
    ·rename_i d hd
     try simp only [hd]
     split at h
     ·rename_i hle
      rw [if_pos hle]
      by_cases h0:(z0c T x s).1=sNo
      ·rw [h0,hT0] at hd;cases hd
      ·rw [hxy] at hn2 hfa
       simp only [bindPs,List.append_nil] at hn2 hfa
       have e1:=hka x (by rw [hxy];exact List.mem_cons_self) s hn2.2.1 hfa h0
       rw [e1] at h ⊢
       exact (splitP_inv h hkb hle hn1.2.1 hfb rfl).1
     ·exact absurd rfl h
   ·exact absurd rfl h
  by_cases h8:e.kind=8
  ·rw [y0d T e s h8] at h ⊢
   unfold opsT at h ⊢
   split at h
   ·rename_i hb
    rw [if_pos hb]
    by_cases ha:(allP T e.args s [sInt,sInt]).1=true
    ·exact (z7j hka hn2.2.1 hfa ha).1
    ·simp [ha] at h
   ·exact absurd rfl h
  rw [z8q T e s h1 h2 h3 h4 h5 h6 h7 h8]
end Go.Sw
