import GoSem.Instr.MapUpdate
import Derived.Lib.LaidTab
import Derived.Lib.ItoaNum
import Derived.Test.YtghdfphedgcpdaaGreatDoorProg
import GoSem.Builtin.Delete
import Derived.Defers
import Derived.Lib.AtoiAll
import Derived.Lib.Replace
import Derived.Test.YtghdfphedgcpdaaGreatDoorZ00
set_option linter.unusedVariables false
set_option linter.unusedSimpArgs false
namespace Go.Sw
mutual
def pJ:Nat→Ex→Bool
 | 0,_=>true
 | n+1,.mk _ _ _ args arms=>deepPs n args || deepPa n arms
def deepPs:Nat→List Ex→Bool
 | _,[]=>false
 | n,e::es=>pJ n e || deepPs n es
def deepPa:Nat→List Arm→Bool
 | _,[]=>false
 | n,.mk _ _ b::es=>pJ n b || deepPa n es
end
theorem y4f (n:Nat):∀l:List Ex,deepPs n l=l.any (pJ n)
 | []=>rfl
 | e::es=>by simp only [deepPs,List.any_cons,y4f n es]
theorem y4e (n:Nat):∀l:List Arm,deepPa n l=l.any (fun a=>pJ n a.body)
 | []=>rfl
 | .mk _ _ b::es=>by simp only [deepPa,List.any_cons,y4e n es,Arm.body]
theorem z8w (n:Nat) (e:Ex):pJ (n+1) e=(e.args.any (pJ n) || e.arms.any (fun a=>pJ n a.body)):=by
 cases e;simp only [pJ,y4f,y4e,Ex.args,Ex.arms]
theorem q4i (e:Ex):pJ 0 e=true:=by cases e;rfl
end Go.Sw

namespace Go.Sw
variable {P:Program} {n:Nat} {E:List (Nat×Value)} {D:List Deferred} {a:Act} {Φ Ψ:Fz} {K:List Res} {w:World}
variable {dst:Option Tmp} {ty:TypeId} {pos:String} {aft:Array Edge} {g:Option (Nat×Bool)}
variable {Kn:Value→World→Prop} {Qp:List PanicEntry→World→Prop}
def yA:List (Bs×Value)→Bs→Option Value
 | [],_=>none
 | (k,v)::m,s=>if s=k then some v else yA m s
def mZ:List (Bs×Value)→Bs→Value→List (Bs×Value)
 | [],s,x=>[(s,x)]
 | (k,v)::m,s,x=>if s=k then (k,x)::m else (k,v)::mZ m s x
def z4r:List (Bs×Value)→Bs→List (Bs×Value)
 | [],_=>[]
 | (k,v)::m,s=>if s=k then m else (k,v)::z4r m s
def MapAt (Φ:Fz) (b:Nat) (m:List (Bs×Value)):Prop:=∃es clock,Φ.obj b=some (.map es clock)∧MapOk es clock m
theorem MapAt.mono {b:Nat} {m:List (Bs×Value)} (h:MapAt Φ b m) (hl:Φ.Le Ψ):MapAt Ψ b m:=let ⟨es,c,h1,h2⟩:=h;⟨es,c,hl.obj _ _ h1,h2⟩
def dG:List (Bs×Value)→Bs→Nat→Option (Nat×Value)
 | [],_,_=>none
 | (k,v)::m,s,i=>if s=k then some (i,v) else dG m s (i+1)
theorem gE (s t:ByteArray):(s==t)=decide (s=t):=by
 show (s.data==t.data)=_
 rw [Bool.eq_iff_iff];simp
 constructor
 ·intro h;cases s;cases t;simp_all
 ·rintro rfl;rfl
theorem z1z:∀(es:List MapEntry) (m:List (Bs×Value)) (s:Bs) (i:Nat),es.map (fun e=>(e.key,e.val))=m.map (fun p=>(Value.string p.1,p.2)) →
  Instr.findNow .string (.string s) es i=some (dG m s i)
 | [],[],_,_,_=>rfl
 | [],_::_,_,_,h=>by simp at h
 | _::_,[],_,_,h=>by simp at h
 | e::es,(k,v)::m,s,i,h=>by
  simp only [List.map_cons,List.cons.injEq,Prod.mk.injEq] at h
  obtain ⟨⟨h1,h2⟩,h3⟩:=h
  simp only [Instr.findNow,h1,Instr.sameNow,gE,dG]
  by_cases hs:s=k
  ·simp [hs,h2]
  ·simp only [hs,decide_false,if_false]
   exact z1z es m s (i+1) h3
theorem y5k:∀(m:List (Bs×Value)) (s:Bs) (i:Nat),(dG m s i).map (·.2)=yA m s
 | [],_,_=>rfl
 | (k,v)::m,s,i=>by
  simp only [dG,yA]
  split
  ·rfl
  ·exact y5k m s (i+1)
theorem kZ {kt:TypeId} (hk:Under P kt .string) (e:Bool) (v:Value) (j:Nat):(Instr.checkKey e (j+1) kt v).run P w=.ok () w:=by
 simp [Instr.checkKey,Sem.run_bind,hk w]
theorem mO {kt:TypeId} (hk:Under P kt .string) {es:Array MapEntry} {m:List (Bs×Value)} (h:es.toList.map (fun e=>(e.key,e.val))=m.map (fun p=>(Value.string p.1,p.2))) (s:Bs) :
  (Instr.findKey kt (.string s) es.toList).run P w=.ok (dG m s 0) w:=by
 simp [Instr.findKey,Sem.run_bind,hk w,z1z _ _ _ _ h]
def zF (ok:Bool) (z:Value):Option Value→Value
 | some v=>if ok then .tuple #[v,.bool true] else v
 | none=>if ok then .tuple #[z,.bool false] else z
theorem y1y {t kt et:TypeId} {b:Nat} {es:Array MapEntry} {clock:Nat} {m:List (Bs×Value)} {z:Value} (ht:Under P t (.map kt et)) (hk:Under P kt .string) (hz:ZeroT P et z)
  (hb:w.heap[b]? = some (.map es clock)) (h:MapOk es clock m) (s:Bs) (ok:Bool) :
  (Instr.lookup t (.map (some b)) (.string s) ok).run P w=.ok (zF ok z (yA m s)) w:=by
 have h1:(getObj b).run P w=.ok (.map es clock) w:=by simp [getObj,Sem.run,hb]
 simp only [Instr.lookup,Sem.run_bind,ht w,Result.andThen_ok,h1,Sem.run_pure,kZ hk,mO hk h.eq]
 have:=y5k m s 0
 cases hm:dG m s 0 with
 | none=>rw [hm] at this;simp only [Option.map_none] at this;rw [← this];simp [hz w,zF]
 | some p=>rw [hm] at this;simp only [Option.map_some] at this;rw [← this];simp [zF]
theorem yD {t kt et:TypeId} {x y:Operand} {b:Nat} {m:List (Bs×Value)} {z:Value} {s:Bs} {ok:Bool} (ht:Under P t (.map kt et)) (hk:Under P kt .string) (hz:ZeroT P et z)
  (he:EnvR n E D a) (hm:Sees Φ K w) (hx:ev E x=some (.map (some b))) (hy:ev E y=some (.string s)) (hat:MapAt Φ b m):Ok P a (.lookup t x y ok) ty w (zF ok z (yA m s)):=fun _ _ _ _=>by
 obtain ⟨es,clock,h1,h2⟩:=hat
 simp only [execOp,he.ev hx,he.ev hy]
 simp [Sem.run_bind,y1y ht hk hz (hm.fz _ _ h1) h2]
theorem zQ (i:Nat) {t kt et:TypeId} {x y:Operand} {b:Nat} {m:List (Bs×Value)} {z:Value} {s:Bs} {ok:Bool} (ht:Under P t (.map kt et)) (hk:Under P kt .string) (hz:ZeroT P et z)
  (he:EnvR n E D a) (hm:Sees Φ K w) (hx:ev E x=some (.map (some b))) (hy:ev E y=some (.string s)) (hK:qJ K i=some (.mp b m)):Ok P a (.lookup t x y ok) ty w (zF ok z (yA m s)):=fun _ _ _ _=>by
 obtain ⟨es,clock,h1,h2⟩:=hm.own _ (qH hK)
 simp only [execOp,he.ev hx,he.ev hy]
 simp [Sem.run_bind,y1y ht hk hz h1 h2]
theorem y9d {t kt et:TypeId} {x y:Operand} {z:Value} {s:Bs} {ok:Bool} (ht:Under P t (.map kt et)) (hk:Under P kt .string) (hz:ZeroT P et z)
  (he:EnvR n E D a) (hx:ev E x=some (.map none)) (hy:ev E y=some (.string s)):Ok P a (.lookup t x y ok) ty w (zF ok z none):=fun _ _ _ _=>by
 simp only [execOp,he.ev hx,he.ev hy]
 simp only [Instr.lookup,Sem.run_bind,ht w,Result.andThen_ok,Sem.run_pure,kZ hk,Instr.findKey,hk w,Instr.findNow,hz w,bind_pure_comp,Sem.run_map]
 cases ok <;> simp [zF,Sem.run_bind,Instr.findNow,hz w]
theorem zU {t:TypeId} (hm:Mem Φ K w) (k:∀b w',Mem Φ (.mp b []::K) w'→Kn (.map (some b)) w'):Oper.eff P ⟨dst,.makeMap t none,ty,pos,aft,g⟩ a w Kn Qp:=by
 unfold Oper.eff
 have:(execOp a.eval ⟨dst,.makeMap t none,ty,pos,aft,g⟩).run P w=.ok (.value (.map (some w.heap.size))) { w with heap:=w.heap.push (.map #[] 0) }:=by
  simp [execOp,Instr.makeMap]
 rw [this]
 refine k _ _ (hm.more rfl rfl (fun b hb=>pR hb) ⟨#[],0,by simp,by simp,by simp,by simp⟩ (by simp [Res.foot]))
theorem q9c:∀(m:List (Bs×Value)) (s:Bs) (v:Value) (j:Nat),mZ m s v=match dG m s j with | none=>m++[(s,v)] | some (i,_)=>m.set (i - j) (s,v)
 | [],_,_,_=>rfl
 | (k,x)::m,s,v,j=>by
  simp only [mZ,dG]
  split
  ·subst_vars;simp
  ·have:=q9c m s v (j+1)
   rw [this]
   have hge:∀(m:List (Bs×Value)) (j i:Nat) (y:Value),dG m s j=some (i,y)→j≤i:=by
    intro m
    induction m with
    | nil=>intro j i y h;simp [dG] at h
    | cons p m ih =>
     intro j i y h
     obtain ⟨k,x⟩:=p
     simp only [dG] at h
     split at h
     ·simp only [Option.some.injEq,Prod.mk.injEq] at h;omega
     ·have:=ih (j+1) i y h;omega
   cases hm:dG m s (j+1) with
   | none=>simp
   | some p =>
    obtain ⟨i,y⟩:=p
    have h1:=hge m (j+1) i y hm
    have e:i - j=(i - (j+1))+1:=by omega
    simp only [e,List.set_cons_succ]
theorem y0x:∀(m:List (Bs×Value)) (s:Bs) (j i:Nat) (y:Value),dG m s j=some (i,y)→m[i - j]? = some (s,y)∧j≤i
 | [],_,_,_,_,h=>by simp [dG] at h
 | (k,x)::m,s,j,i,y,h=>by
  simp only [dG] at h
  split at h
  ·simp only [Option.some.injEq,Prod.mk.injEq] at h
   obtain ⟨rfl,rfl⟩:=h;subst_vars;simp
  ·obtain ⟨h1,h2⟩:=y0x m s (j+1) i y h
   have e:i - j=(i - (j+1))+1:=by omega
   exact ⟨by rw [e];simpa using h1,by omega⟩
theorem gF (i:Nat) {t kt et:TypeId} {x y z:Operand} {b:Nat} {m:List (Bs×Value)} {s:Bs} {v:Value} (ht:Under P t (.map kt et)) (hk:Under P kt .string)
  (he:EnvR n E D a) (hm:Mem Φ K w) (hx:ev E x=some (.map (some b))) (hy:ev E y=some (.string s)) (hz:ev E z=some v) (hK:qJ K i=some (.mp b m))
  (k:∀w',Mem Φ (wK K i (.mp b (mZ m s v))) w'→Kn undef w'):Oper.eff P ⟨dst,.mapUpdate t x y z,ty,pos,aft,g⟩ a w Kn Qp:=by
 obtain ⟨es,clock,hb,hok⟩:=hm.own _ (qH hK)
 have h1:(getObj b).run P w=.ok (.map es clock) w:=by simp [getObj,Sem.run,hb]
 have hlt:b < w.heap.size:=(Array.getElem?_eq_some_iff.1 hb).1
 have hset:∀o,(setObj b o).run P w=.ok () { w with heap:=w.heap.setIfInBounds b o }:=fun o=>by simp only [setObj,Sem.run,hb]
 have fin:∀es' clock',MapOk es' clock' (mZ m s v)→Mem Φ (wK K i (.mp b (mZ m s v))) { w with heap:=w.heap.setIfInBounds b (.map es' clock') }:=fun es' clock' h =>
  hm.upd hK rfl rfl (fun c hc hne=>by simp only;rw [Array.getElem?_setIfInBounds_ne (fun e=>hne (by simp [Res.foot,e]))]) ⟨es',clock',by simp [hlt],h⟩ (.inl rfl)
 unfold Oper.eff
 simp only [execOp,he.ev hx,he.ev hy,he.ev hz,Instr.mapUpdate,Sem.run_bind,ht w,Result.andThen_ok,h1,kZ hk,mO hk hok.eq]
 have hput:=q9c m s v 0
 cases hmx:dG m s 0 with
 | none =>
  rw [hmx] at hput
  simp only at hput
  simp only [hset,Result.andThen_ok,Sem.run_pure,vZ]
  refine k _ (fin _ _ ⟨?_,?_,?_⟩)
  ·rw [hput];simp [hok.eq]
  ·intro e he
   simp only [Array.toList_push,List.mem_append,List.mem_singleton] at he
   rcases he with he | rfl
   ·have:=hok.old e he;omega
   ·simp
  ·simp only [Array.toList_push,List.map_append,List.map_cons,List.map_nil]
   rw [List.nodup_append]
   refine ⟨hok.nodup,by simp,fun b hb c hc hbc =>?_⟩
   simp only [List.mem_singleton] at hc
   obtain ⟨e,he,rfl⟩:=List.mem_map.1 hb
   have:=hok.old e he
   omega
 | some p =>
  obtain ⟨j,y⟩:=p
  rw [hmx] at hput
  simp only [Nat.sub_zero] at hput
  obtain ⟨hj,_⟩:=y0x m s 0 j y hmx
  simp only [Nat.sub_zero] at hj
  have hes:es.toList[j]?.map (fun e=>(e.key,e.val))=some (Value.string s,y):=by
   rw [← List.getElem?_map,hok.eq,List.getElem?_map,hj];rfl
  obtain ⟨e,hje,hee⟩:∃e,es[j]? = some e∧e.key=.string s:=by
   cases h:es[j]? with
   | none =>
    have h':es.toList[j]? = none:=by simpa using h
    rw [h'] at hes;cases hes
   | some e =>
    have h':es.toList[j]? = some e:=by simpa using h
    rw [h'] at hes;simp only [Option.map_some,Option.some.injEq,Prod.mk.injEq] at hes;exact ⟨e,rfl,hes.1⟩
  have hks:(Instr.keyThatStays (((es[j]?).map (·.key)).getD (.string s)) (.string s)).run P w=.ok (.string s) w:=by
   simp [hje,hee,Instr.keyThatStays,Instr.sameBits,gE]
  simp only [Sem.run_bind,hks,hset,Result.andThen_ok,Sem.run_pure,vZ]
  have hjl:j < es.size:=(Array.getElem?_eq_some_iff.1 hje).1
  have hml:(es.modify j fun e=>{ e with key:=Value.string s,val:=v }).toList=es.toList.modify j (fun e=>{ e with key:=Value.string s,val:=v }):=by simp
  refine k _ (fin _ _ ⟨?_,?_,?_⟩)
  ·rw [hml,hput]
   apply List.ext_getElem?
   intro q
   have hq:es.toList[q]?.map (fun e=>(e.key,e.val))=m[q]?.map (fun p=>(Value.string p.1,p.2)):=by rw [← List.getElem?_map,hok.eq,List.getElem?_map]
   simp only [List.getElem?_map,List.getElem?_modify,List.getElem?_set]
   by_cases hjq:j=q
   ·subst hjq
    have hml':j < m.length:=(List.getElem?_eq_some_iff.1 hj).1
    have h':es.toList[j]? = some e:=by simpa using hje
    simp [h',hml']
   ·have hq':=hq
    simp only [Array.getElem?_toList] at hq'
    simp [hjq,hq']
  ·intro x hx
   rw [hml] at hx
   obtain ⟨q,hq⟩:=List.mem_iff_getElem?.1 hx
   rw [List.getElem?_modify] at hq
   cases hz':es.toList[q]? with
   | none=>rw [hz'] at hq;simp at hq
   | some e' =>
    rw [hz'] at hq
    have hb':=hok.old e' (List.mem_of_getElem? hz')
    have hq2:=Option.some.inj hq
    rw [← hq2]
    show (if j=q then _ else _:MapEntry).born < clock
    by_cases hjq:j=q
    ·rw [if_pos hjq];exact hb'
    ·rw [if_neg hjq];exact hb'
  ·rw [hml]
   have:(es.toList.modify j (fun e=>{ e with key:=Value.string s,val:=v })).map (·.born)=es.toList.map (·.born):=by
    apply List.ext_getElem?
    intro q
    simp only [List.getElem?_map,List.getElem?_modify]
    cases es.toList[q]? with
    | none=>simp
    | some e'=>simp;split <;> rfl
   rw [this];exact hok.nodup
end Go.Sw

namespace Go.Sw
noncomputable def Ex.sz (e:Ex):Nat:=SizeOf.sizeOf e
noncomputable def Val.sz (e:Val):Nat:=SizeOf.sizeOf e
theorem Ex.lt_args {e x:Ex} (h:x∈e.args):x.sz < e.sz:=by
 cases e with
 | mk k n s args arms =>
  have:=List.sizeOf_lt_of_mem (show x∈args from h)
  simp only [Ex.sz,Ex.mk.sizeOf_spec];omega
theorem Ex.lt_arms {e:Ex} {a:Arm} (h:a∈e.arms):a.body.sz < e.sz:=by
 cases e with
 | mk k n s args arms =>
  have:=List.sizeOf_lt_of_mem (show a∈arms from h)
  cases a with
  | mk c v b=>simp only [Ex.sz,Ex.mk.sizeOf_spec,Arm.mk.sizeOf_spec,Arm.body] at *;omega
theorem Val.lt_args {e x:Val} (h:x∈e.args):x.sz < e.sz:=by
 cases e with
 | mk c n args =>
  have:=List.sizeOf_lt_of_mem (show x∈args from h)
  simp only [Val.sz,Val.mk.sizeOf_spec];omega
mutual
def jC:Ex→Int→Bool×Int
 | .mk _ _ _ args arms,l=>if l - 1 < 0 then (true,l - 1) else
  match meass args (l - 1) with
  | (true,q)=>(true,q)
  | (false,q)=>measa arms q
def meass:List Ex→Int→Bool×Int
 | [],l=>(false,l)
 | e::es,l=>match jC e l with
  | (true,q)=>(true,q)
  | (false,q)=>meass es q
def measa:List Arm→Int→Bool×Int
 | [],l=>(false,l)
 | .mk _ vs b::es,l=>if 16 < vs.length then (true,l) else match jC b l with
  | (true,q)=>(true,q)
  | (false,q)=>measa es q
end
mutual
theorem mB:∀(e:Ex) (l:Int),(jC e l).1=false→0≤(jC e l).2∧(jC e l).2≤l
 | .mk _ _ _ args arms,l=>by
  intro h
  simp only [jC] at h ⊢
  split at h
  ·cases h
  ·rename_i hl
   simp only [if_neg hl]
   have h1:=meass_le args (l - 1)
   cases hm:meass args (l - 1) with
   | mk b q =>
    rw [hm] at h h1
    cases b with
    | true=>cases h
    | false =>
     have h2:=measa_le arms q h (by have:=h1 rfl (by omega);simp only at this;omega)
     have:=h1 rfl (by omega)
     simp only at this h2 ⊢
     omega
theorem meass_le:∀(es:List Ex) (l:Int),(meass es l).1=false→0≤l→0≤(meass es l).2∧(meass es l).2≤l
 | [],l=>by intro _ h;simp [meass,h]
 | e::es,l=>by
  intro h h0
  simp only [meass] at h ⊢
  have h1:=mB e l
  cases hm:jC e l with
  | mk b q =>
   rw [hm] at h h1
   cases b with
   | true=>cases h
   | false =>
    have h3:=h1 rfl
    have h2:=meass_le es q h (by simp only at h3;omega)
    simp only at h3 h2 ⊢
    omega
theorem measa_le:∀(es:List Arm) (l:Int),(measa es l).1=false→0≤l→0≤(measa es l).2∧(measa es l).2≤l
 | [],l=>by intro _ h;simp [measa,h]
 | .mk _ vs b::es,l=>by
  intro h h0
  simp only [measa] at h ⊢
  split at h
  ·cases h
  ·rename_i hv
   simp only [if_neg hv]
   have h1:=mB b l
   cases hm:jC b l with
   | mk c q =>
    rw [hm] at h h1
    cases c with
    | true=>cases h
    | false =>
     have h3:=h1 rfl
     have h2:=measa_le es q h (by simp only at h3;omega)
     simp only at h3 h2 ⊢
     omega
end
def tP (arms:List Arm):Bool×Int→Bool×Int
 | (true,q)=>(true,q)
 | (false,q)=>measa arms q
theorem z2p (e:Ex) (l:Int):jC e l=if l - 1 < 0 then (true,l - 1) else tP e.arms (meass e.args (l - 1)):=by
 cases e with
 | mk k n s args arms =>
  simp only [jC,Ex.args,Ex.arms]
  by_cases h:l - 1 < 0
  ·rw [if_pos h,if_pos h]
  ·rw [if_neg h,if_neg h]
   cases meass args (l - 1) with
   | mk b q=>cases b <;> rfl
theorem oR (e:Ex) (es:List Ex) (l:Int):meass (e::es) l=if (jC e l).1 then (true,(jC e l).2) else meass es (jC e l).2:=by
 simp only [meass]
 cases jC e l with
 | mk b q=>cases b <;> rfl
theorem dA (a:Arm) (es:List Arm) (l:Int):measa (a::es) l=if 16 < a.vars.length then (true,l) else if (jC a.body l).1 then (true,(jC a.body l).2) else measa es (jC a.body l).2:=by
 cases a with
 | mk c vs b =>
  simp only [measa]
  change (if 16 < vs.length then _ else _)=(if 16 < vs.length then (true,l) else if (jC b l).1 then (true,(jC b l).2) else measa es (jC b l).2)
  by_cases h:16 < vs.length
  ·rw [if_pos h,if_pos h]
  ·rw [if_neg h,if_neg h]
   cases jC b l with
   | mk b q=>cases b <;> rfl
end Go.Sw

namespace Go.Sw
def tO:List Fun→Int→Bool
 | [],_=>false
 | f::fs,l=>decide (16 < f.params.length) || (jC f.body l).1 || tO fs (jC f.body l).2
def z5y (d:Data):Bool:=decide (16 < d.cons.length) || d.cons.any (fun x=>decide (16 < x.fields.length))
def xL (c:Core):Bool :=
 decide (60 < c.datas.length) || decide (6 < c.inputs.length) || decide (300 < c.funs.length) || decide (6 < c.outputs.length) || c.datas.any z5y || tO c.funs 6000
def qC:Bs:=⟨#[73,110,116]⟩
def inF (name:Bs) (s:Bs):Bool := !decide (s=qC) && !decide (s=name)
def oL (name:Bs):List Con→Bool→Bool
 | [],ok=>ok
 | x::xs,ok=>oL name xs (ok && !x.fields.any (inF name))
def nW (name:Bs):List Data→Int→Bool→Int×Bool
 | [],n,ok=>(n,ok)
 | d::ds,n,ok=>if d.name=name then nW name ds (IntKind.i64.wrap (n+1)) (oL name d.cons ok) else nW name ds n ok
def kU (ds:List Data) (name:Bs):Bool :=
 if name=qC then true else decide ((nW name ds 0 true).1=1)&&(nW name ds 0 true).2
end Go.Sw

namespace Go.Sw
def strs (l:List Bs):List Value:=l.map .string
theorem qU (l m:List Bs):strs (l++m)=strs l++strs m:=by simp [strs]
theorem yH (l:List Bs):(strs l).length=l.length:=by simp [strs]
theorem y2k (l:List Bs):(strs l).all Value.oneCell'=true:=by simp [strs,Value.oneCell']
theorem chunks_str {Φ:Fz}:∀{l:List Bs} {cs:List Value},Chunks (RStr Φ) 1 cs l↔cs=strs l
 | [],cs=>by simp [Chunks,strs]
 | s::l,cs=>by
  simp only [Chunks,RStr]
  constructor
  ·rintro ⟨c,rest,rfl,_,rfl,h4⟩
   have:=chunks_str.1 h4
   subst this;rfl
  ·rintro rfl
   exact ⟨[.string s],strs l,rfl,rfl,rfl,chunks_str.2 rfl⟩
theorem SliceOf.strs {Φ:Fz} {v:Value} {l:List Bs}:SliceOf RStr Φ 1 v l↔Row Φ v 1 (strs l) :=
 ⟨fun ⟨_,h1,h2⟩=>chunks_str.1 h2▸h1,fun h=>⟨_,h,chunks_str.2 rfl⟩⟩
theorem sX {P:Program} {t e:TypeId} {len k:Nat} {z:Value} {parts:List (Nat×Value)} {cs:List Value} (hu:Under P t (.slice e)) (hs:SizeT P e k) (hz:ZeroT P e z) (hn:Nat.ble (len * k) 16777216=true) (h0:len * k≠0)
  (hf:Instr.fill (fun i=>some (i * k,k)) ((List.range (len * k)).map (fun x=>z.cells[x % z.cells.size]!)).toArray parts=some cs.toArray):built P t parts len cs e:=fun w=>by
 have hn':¬len * k > 2 ^ 24:=by
  have:len * k≤16777216:=by simpa using hn
  omega
 have hi:(Array.range (len * k)).map (z.cells[· % z.cells.size]!)=((List.range (len * k)).map (fun x=>z.cells[x % z.cells.size]!)).toArray:=by
  apply Array.ext'
  simp
 simp only [Instr.buildSlice,Sem.run_bind,hu w,hs w,Result.andThen_ok,if_neg hn',if_neg h0,hz w,Sem.run_pure,hi,hf,newRow,run_newObj]
 simp [ob]
mutual
def zS:Ex→List Bs
 | .mk k _ s args arms=>(if k=6 then [s] else [])++bindPs args++bindPa arms
def bindPs:List Ex→List Bs
 | []=>[]
 | e::es=>zS e++bindPs es
def bindPa:List Arm→List Bs
 | []=>[]
 | .mk _ vs b::es=>vs++zS b++bindPa es
end
theorem mT (e:Ex):zS e=(if e.kind=6 then [e.name] else [])++bindPs e.args++bindPa e.arms:=by
 cases e;simp only [zS,Ex.args,Ex.arms];rfl
theorem jN (a:Arm) (es:List Arm):bindPa (a::es)=a.vars++zS a.body++bindPa es:=by
 cases a;rfl
end Go.Sw

namespace Go.Sw
theorem wU {t:Bs} {i:Nat} (h:i < t.size):∃c,t[i]? = some c:=⟨t[i],by simp [h]⟩
def zJ (t:Bs) (i:Nat):Nat:=match t[i]? with | some c=>c.toNat | none=>0
theorem qT {t:Bs} {i:Nat} {c:UInt8} (h:t[i]? = some c):zJ t i=c.toNat:=by simp [zJ,h]
theorem z5r {t:Bs} {i:Nat} (h:¬i < t.size):zJ t i=0:=by
 have:t[i]? = none:=by simp;omega
 simp [zJ,this]
def nS (c:Nat):Bool:=decide (97≤c)&&decide (c≤122)
def aJ (c:Nat):Bool:=decide (65≤c)&&decide (c≤90)
def yZ (c:Nat):Bool:=decide (48≤c)&&decide (c≤57)
def qI (c:Nat):Bool:=nS c || aJ c || yZ c || decide (c=95)
def vI (c:Nat):Bool:=decide (c=32) || decide (c=9) || decide (c=10) || decide (c=13)
def kY (s p:Bs):Bool:=decide (p.size≤s.size)&&decide (s.extract 0 p.size=p)
def yP (p:Nat→Bool) (t:Bs):Nat→Nat→Nat
 | 0,_=>0
 | f+1,i=>if i < t.size∧p (zJ t i)=true then yP p t f (i+1)+1 else 0
theorem y6c (p:Nat→Bool) (t:Bs):∀(f g i:Nat),t.size≤i+f→t.size≤i+g→yP p t f i=yP p t g i
 | 0,0,_,_,_=>rfl
 | 0,g+1,i,h,_=>by simp only [yP];rw [if_neg (by omega)]
 | f+1,0,i,_,h=>by simp only [yP];rw [if_neg (by omega)]
 | f+1,g+1,i,h,h'=>by
  simp only [yP]
  split
  ·rw [y6c p t f g (i+1) (by omega) (by omega)]
  ·rfl
theorem oA (p:Nat→Bool) (t:Bs) (i:Nat):yP p t t.size i=if i < t.size∧p (zJ t i)=true then yP p t t.size (i+1)+1 else 0:=by
 rw [y6c p t t.size (t.size+1) i (by omega) (by omega)]
 simp only [yP]
theorem kC (p:Nat→Bool) (t:Bs):∀(f i:Nat),i≤t.size→i+yP p t f i≤t.size
 | 0,i,h=>by simpa [yP] using h
 | f+1,i,h=>by
  simp only [yP]
  split
  ·rename_i hc
   have:=kC p t f (i+1) (by omega)
   omega
  ·omega
end Go.Sw

namespace Go.Sw
variable {P:Program} {n:Nat} {E:List (Nat×Value)} {D:List Deferred} {a:Act} {Φ Ψ:Fz} {K:List Res} {w:World}
variable {Kn:Value→World→Prop} {Qp:List PanicEntry→World→Prop} {dst:Option Tmp} {ty:TypeId} {pos:String} {aft:Array Edge} {g:Option (Nat×Bool)}
def Out {ε α:Type} (r:Except ε α) (A:α→Prop) (B:ε→Prop):Prop:=match r with | .ok x=>A x | .error c=>B c
theorem z3x {α ε:Type} {f:FuncId} {xs:Array Operand} {ts:Array TypeId} {vs:List Value} {r:Except ε α} {X:α→Value} {C:ε→List PanicEntry} {Φ1 Φ2:Fz} {KO:α→List Res} {KE:List Res}
  (he:EnvR n E D a) (hx:evs E xs.toList=some vs) (hf:∀args w,(callFunc f args).run P w=.ok (.enter f args) w)
  (hc:Calls P f vs.toArray w (fun e w'=>Out r (fun x=>e=.returned (X x)∧Mem Φ1 (KO x) w') (fun c=>e=.panicked (C c)∧Mem Φ2 KE w')))
  (k:∀x w',r=.ok x→Mem Φ1 (KO x) w'→Kn (X x) w') (kp:∀c w',r=.error c→Mem Φ2 KE w'→Qp (C c) w') :
  Oper.eff P ⟨dst,.call { callee:=.value (.func f),args:=xs,argTypes:=ts },ty,pos,aft,g⟩ a w Kn Qp:=by
 refine mW he hx hf hc (fun v w' h =>?_) (fun c w' h =>?_) (fun w' h =>?_)
 ·cases r with
  | ok x=>obtain ⟨h1,h2⟩:=h;cases h1;exact k _ _ rfl h2
  | error c=>obtain ⟨h1,_⟩:=h;cases h1
 ·cases r with
  | ok x=>obtain ⟨h1,_⟩:=h;cases h1
  | error c=>obtain ⟨h1,h2⟩:=h;cases h1;exact kp _ _ rfl h2
 ·cases r with
  | ok x=>obtain ⟨h1,_⟩:=h;cases h1
  | error c=>obtain ⟨h1,_⟩:=h;cases h1
theorem zY {md:Region.Mode} {kd:List Nat} {o:Oper} {B:Prop} (h:cY md kd o=false) (hl:cY md kd o=true):B:=by rw [h] at hl;cases hl
theorem vF {t:TypeId} {v:Value} (w:World):(Instr.panic (.iface t v)).run P w=.halt (.panic (.iface t v)) w:=rfl
theorem retcA {fn:Func} {R:Ending→World→Prop} {t T b k i:Nat} {cs:List Value} {T0:TypeId} (he:EnvR n E [] a) (hm:Sees Φ K w) (hr:fn.results=#[.cell t T]) (hv:get E t=some (.pointer (some ⟨b,0,none⟩)))
  (hk:qJ K i=some (.blk b (ob cs T0))) (hT:AggT P T) (hS:SizeT P T k) (hl:cs.length=k) (h:R (.returned (.agg cs.toArray)) w):bodyPost P fn R .ret a w:=by
 refine ⟨he.defs,.agg cs.toArray,?_,h⟩
 have hc:∀j v,cs[j]? = some v→w.cell? ((⟨b,0,none⟩:Addr).add j)=some v:=fun j v hj=>by
  have h1:=hm.cell hk j
  rw [z0z,hj] at h1
  unfold Addr.add;split
  ·subst_vars;exact h1
  ·simpa using h1
 have h2:=run_loadCells_list (P:=P) (w:=w) ⟨b,0,none⟩ cs hc
 rw [hl] at h2
 simp [results,hr,Array.getD_eq_getD_getElem?,he.env t _ hv,asAddr,loadVar,hT w,hS w,h2]
theorem yQ {fn:Func} {R:Ending→World→Prop} {c:List PanicEntry} (hd:a.defers=[]) (h:R (.panicked c) w):bodyPost P fn R (.panic c) a w:=⟨hd,h⟩
def kE (t:Bs) (org:Nat):Nat→Nat→Int→Except (Nat×Int) Nat
 | 0,_,_=>.error (org,12)
 | f+1,i,o =>
  if t.size≤i then .error (org,12) else
  if kY (t.extract i t.size) (⟨#[40,42]⟩:ByteArray) then (if 100≤o then .error (i,6) else kE t org f (i+2) (o+1)) else
  if kY (t.extract i t.size) (⟨#[42,41]⟩:ByteArray) then (if o - 1=0 then .ok (i+2) else kE t org f (i+2) (o - 1)) else
  kE t org f (i+1) o
theorem jQ {t p:Bs} {i:Nat} (h:kY (t.extract i t.size) p=true):p.size≤t.size - i:=by
 simp only [kY,Bool.and_eq_true,decide_eq_true_eq,ByteArray.size_extract] at h
 have:=h.1
 simp only [Nat.min_self] at this
 exact this
theorem nV (t:Bs) (org:Nat):∀(f g i:Nat) (o:Int),t.size < i+f→t.size < i+g→kE t org f i o=kE t org g i o
 | 0,0,_,_,_,_=>rfl
 | 0,g+1,i,o,h,_=>by simp only [kE];rw [if_pos (by omega)]
 | f+1,0,i,o,_,h=>by simp only [kE];rw [if_pos (by omega)]
 | f+1,g+1,i,o,h,h'=>by
  simp only [kE]
  rw [nV t org f g (i+2) (o+1) (by omega) (by omega),nV t org f g (i+2) (o - 1) (by omega) (by omega),nV t org f g (i+1) o (by omega) (by omega)]
def vG (t:Bs) (org i:Nat) (o:Int):Except (Nat×Int) Nat:=kE t org (t.size+1) i o
theorem mM (t:Bs) (org i:Nat) (o:Int):vG t org i o =
  if t.size≤i then .error (org,12) else
  if kY (t.extract i t.size) (⟨#[40,42]⟩:ByteArray) then (if 100≤o then .error (i,6) else vG t org (i+2) (o+1)) else
  if kY (t.extract i t.size) (⟨#[42,41]⟩:ByteArray) then (if o - 1=0 then .ok (i+2) else vG t org (i+2) (o - 1)) else
  vG t org (i+1) o:=by
 unfold vG
 rw [nV t org (t.size+1) (t.size+2) i o (by omega) (by omega)]
 simp only [kE]
theorem wV (t:Bs) (org:Nat):∀(f i q:Nat) (o:Int),kE t org f i o=.ok q→i < q∧q≤t.size
 | 0,_,_,_,h=>by simp [kE] at h
 | f+1,i,q,o,h=>by
  simp only [kE] at h
  split at h
  ·cases h
  ·split at h
   ·split at h
    ·cases h
    ·have:=wV t org f _ _ _ h;omega
   ·split at h
    ·rename_i hs
     have h2:=jQ hs
     have:(⟨#[42,41]⟩:ByteArray).size=2:=rfl
     split at h
     ·simp only [Except.ok.injEq] at h;omega
     ·have:=wV t org f _ _ _ h;omega
    ·have:=wV t org f _ _ _ h;omega
def gK (c:Nat×Int):List PanicEntry:=[{ v:=.iface 257 (.agg #[.int .i64 ((c.1:Nat):Int),.int .i64 c.2]),recovered:=false }]
end Go.Sw

namespace Go.Sw
variable {P:Program} {n:Nat} {E:List (Nat×Value)} {D:List Deferred} {a:Act} {Φ Ψ:Fz} {K:List Res} {w:World}
variable {Kn:Value→World→Prop} {Qp:List PanicEntry→World→Prop} {dst:Option Tmp} {ty:TypeId} {pos:String} {aft:Array Edge} {g:Option (Nat×Bool)}
theorem z3y {α β ε:Type} {f:FuncId} {xs:Array Operand} {ts:Array TypeId} {vs:List Value} {r:Except ε α} {X:α→β→Value} {C:ε→List PanicEntry} {F1:α→β→Fz} {Φ2:Fz} {KO:α→β→List Res} {KE:List Res} {G:α→β→Prop}
  (he:EnvR n E D a) (hx:evs E xs.toList=some vs) (hf:∀args w,(callFunc f args).run P w=.ok (.enter f args) w)
  (hc:Calls P f vs.toArray w (fun e w'=>Out r (fun x=>∃y,e=.returned (X x y)∧G x y∧Mem (F1 x y) (KO x y) w') (fun c=>e=.panicked (C c)∧Mem Φ2 KE w')))
  (k:∀x y w',r=.ok x→G x y→Mem (F1 x y) (KO x y) w'→Kn (X x y) w') (kp:∀c w',r=.error c→Mem Φ2 KE w'→Qp (C c) w') :
  Oper.eff P ⟨dst,.call { callee:=.value (.func f),args:=xs,argTypes:=ts },ty,pos,aft,g⟩ a w Kn Qp:=by
 refine mW he hx hf hc (fun v w' h =>?_) (fun c w' h =>?_) (fun w' h =>?_)
 ·cases r with
  | ok x=>obtain ⟨y,h1,h2,h3⟩:=h;cases h1;exact k _ _ _ rfl h2 h3
  | error c=>obtain ⟨h1,_⟩:=h;cases h1
 ·cases r with
  | ok x=>obtain ⟨y,h1,_⟩:=h;cases h1
  | error c=>obtain ⟨h1,h2⟩:=h;cases h1;exact kp _ _ rfl h2
 ·cases r with
  | ok x=>obtain ⟨y,h1,_⟩:=h;cases h1
  | error c=>obtain ⟨h1,_⟩:=h;cases h1
theorem qS {β:Type} {f:FuncId} {xs:Array Operand} {ts:Array TypeId} {vs:List Value} {X:β→Value} {F1:β→Fz} {KO:β→List Res} {G:β→Prop}
  (he:EnvR n E D a) (hx:evs E xs.toList=some vs) (hf:∀args w,(callFunc f args).run P w=.ok (.enter f args) w)
  (hc:Calls P f vs.toArray w (fun e w'=>∃y,e=.returned (X y)∧G y∧Mem (F1 y) (KO y) w'))
  (k:∀y w',G y→Mem (F1 y) (KO y) w'→Kn (X y) w') :
  Oper.eff P ⟨dst,.call { callee:=.value (.func f),args:=xs,argTypes:=ts },ty,pos,aft,g⟩ a w Kn Qp :=
 mW he hx hf hc (fun v w' h=>by obtain ⟨y,h1,h2,h3⟩:=h;cases h1;exact k _ _ h2 h3) (fun c w' h=>by obtain ⟨y,h1,_⟩:=h;cases h1) (fun w' h=>by obtain ⟨y,h1,_⟩:=h;cases h1)
def z2s (t:Bs):Nat→Nat→Except (Nat×Int) Nat
 | 0,i=>.ok i
 | f+1,i =>
  if kY (t.extract (i+yP vI t t.size i) t.size) (⟨#[40,42]⟩:ByteArray)=true then
   match vG t (i+yP vI t t.size i) (i+yP vI t t.size i) 0 with
   | .error c=>.error c
   | .ok q=>z2s t f q
  else .ok (i+yP vI t t.size i)
theorem y1n (t:Bs):∀(f g i:Nat),i≤t.size→t.size < i+f→t.size < i+g→z2s t f i=z2s t g i
 | 0,_,i,h0,h,_=>by omega
 | _+1,0,i,h0,_,h=>by omega
 | f+1,g+1,i,h0,h,h'=>by
  simp only [z2s]
  split
  ·cases hc:vG t (i+yP vI t t.size i) (i+yP vI t t.size i) 0 with
   | error c=>rfl
   | ok q =>
    have:=wV _ _ _ _ _ _ hc
    exact y1n t f g q this.2 (by omega) (by omega)
  ·rfl
def dT (t:Bs) (i:Nat):Except (Nat×Int) Nat:=z2s t (t.size+1) i
theorem y1l (t:Bs) (i:Nat) (h:i≤t.size):dT t i =
  if kY (t.extract (i+yP vI t t.size i) t.size) (⟨#[40,42]⟩:ByteArray)=true then
   match vG t (i+yP vI t t.size i) (i+yP vI t t.size i) 0 with
   | .error c=>.error c
   | .ok q=>dT t q
  else .ok (i+yP vI t t.size i):=by
 unfold dT
 rw [y1n t (t.size+1) (t.size+2) i h (by omega) (by omega)]
 simp only [z2s]
end Go.Sw

namespace Go.Sw
def kw (l:List UInt8):Bs:=⟨l.toArray⟩
def wordsL:List Bs:=[kw [97,110,100],kw [99,97,115,101],kw [100,97,116,97],kw [101,108,115,101],kw [101,110,100],kw [102,110],kw [102,117,110],kw [105,102],kw [105,110],kw [105,110,112,117,116],kw [108,101,116],kw [111,102],kw [111,117,116,112,117,116],kw [116,104,101,110],kw [118,97,108]]
def wordsM:List (Bs×Value):=wordsL.map (fun s=>(s,.int .i64 5))
theorem z1j {s:Bs} {v:Value} (h:yA wordsM s=some v):v=.int .i64 ((5:Nat):Int):=by
 have:∀(l:List Bs),yA (l.map (fun s=>(s,Value.int .i64 5))) s=some v→v=.int .i64 ((5:Nat):Int):=by
  intro l
  induction l with
  | nil=>intro h;simp [yA] at h
  | cons x l ih =>
   intro h
   simp only [List.map_cons,yA] at h
   split at h
   ·simp only [Option.some.injEq] at h;rw [← h];rfl
   ·exact ih h
 exact this _ h
def q5c (s:Bs):Bool:=(yA wordsM s).isSome
structure Tok where
 kind:Int
 num:Int
 text:Bs
 org:Nat
def y2p (k:Tok):Value:=.agg (List.toArray [.int .i64 k.kind,.int .i64 k.num,.string k.text,.int .i64 ((k.org:Nat):Int)])
def vY (t:Bs) (pos:Nat) (kind:Int) (n:Nat):Except (Nat×Int) Tok:=if 24 < n then .error (pos,2) else .ok ⟨kind,0,t.extract pos (pos+n),pos⟩
def qR (t:Bs) (pos:Nat):Nat :=
 if zJ t (pos+yP qI t t.size pos)=39 then
  (if 0 < yP yZ t t.size (pos+(yP qI t t.size pos+1)) then yP qI t t.size pos+(1+yP yZ t t.size (pos+(yP qI t t.size pos+1))) else yP qI t t.size pos)
 else yP qI t t.size pos
def kO (t:Bs) (pos:Nat) (kind:Int):Except (Nat×Int) Tok :=
 if 24 < qR t pos then .error (pos,2)
 else .ok ⟨if q5c (t.extract pos (pos+qR t pos)) then 5 else kind,0,t.extract pos (pos+qR t pos),pos⟩
theorem gV {t:Bs} {pos n:Nat} {kd:Int} {q:Tok} (hq:vY t pos kd n=.ok q):¬24 < n∧q=⟨kd,0,t.extract pos (pos+n),pos⟩:=by
 unfold vY at hq
 split at hq
 ·cases hq
 ·rename_i h;simp only [Except.ok.injEq] at hq;exact ⟨h,hq.symm⟩
theorem j2j {t:Bs} {pos n:Nat} {kd:Int} {c:Nat×Int} (hq:vY t pos kd n=.error c):24 < n∧c=(pos,2):=by
 unfold vY at hq
 split at hq
 ·rename_i h;simp only [Except.error.injEq] at hq;exact ⟨h,hq.symm⟩
 ·cases hq
theorem gX {t:Bs} {pos n:Nat} {kd:Int} {q:Tok} (hq:vY t pos kd n=.ok q) (hf:yA wordsM q.text=none) (hn:qR t pos=n):kO t pos kd=.ok q:=by
 obtain ⟨h1,rfl⟩:=gV hq
 simp only at hf
 unfold kO
 rw [hn,if_neg h1]
 simp [q5c,hf]
theorem gY {t:Bs} {pos n:Nat} {kd:Int} {q:Tok} {v:Value} (hq:vY t pos kd n=.ok q) (hf:yA wordsM q.text=some v) (hn:qR t pos=n):kO t pos kd=.ok ⟨5,q.num,q.text,q.org⟩:=by
 obtain ⟨h1,rfl⟩:=gV hq
 simp only at hf
 unfold kO
 rw [hn,if_neg h1]
 simp [q5c,hf]
theorem y0y {t:Bs} {pos n:Nat} {kd:Int} {c:Nat×Int} (hq:vY t pos kd n=.error c) (hn:qR t pos=n):kO t pos kd=.error c:=by
 obtain ⟨h1,rfl⟩:=j2j hq
 unfold kO
 rw [hn,if_pos h1]
theorem uG {t:Bs} {i:Nat} (h:zJ t i≠0):i < t.size:=by
 by_cases hi:i < t.size
 ·exact hi
 ·exact absurd (z5r hi) h
theorem q5m (t:Bs) (pos:Nat) (h:pos≤t.size):pos+qR t pos≤t.size:=by
 have h1:=kC qI t t.size pos h
 unfold qR
 split
 ·rename_i h39
  have h2:=uG (t:=t) (i:=pos+yP qI t t.size pos) (by omega)
  have h3:=kC yZ t t.size (pos+(yP qI t t.size pos+1)) (by omega)
  split
  ·omega
  ·omega
 ·omega
end Go.Sw

namespace Go.Sw
open Go.Proofs
def Tabs (Φ:Fz):Prop:=∀w,Sees Φ [] w→Lib.TabIs Tryz.prog w "internal/strconv.uint64pow10" .u64 Lib.pow10Tab
theorem Tabs.mono {Φ Ψ:Fz} (h:Tabs Φ) (hl:Φ.Le Ψ):Tabs Ψ:=fun w hw=>h w ⟨fun b o hb=>hw.fz b o (hl.obj b o hb),by simp⟩
def ErrAt (Φ:Fz) (g:Nat):Prop:=∃v,At Φ ⟨g,0,none⟩ [v]∧(v=.nilIface∨∃t p,v=.iface t p)
theorem ErrAt.mono {Φ Ψ:Fz} {g:Nat} (h:ErrAt Φ g) (hl:Φ.Le Ψ):ErrAt Ψ g:=let ⟨v,h1,h2⟩:=h;⟨v,h1.mono hl,h2⟩
structure Glob (Φ:Fz):Prop where
 maxLen:∃m,At Φ ⟨1,0,none⟩ [.int .i64 m]
 tabs:Tabs Φ
 err4:ErrAt Φ 4
 err5:ErrAt Φ 5
theorem Glob.mono {Φ Ψ:Fz} (h:Glob Φ) (hl:Φ.Le Ψ):Glob Ψ:=⟨let ⟨m,hm⟩:=h.maxLen;⟨m,hm.mono hl⟩,h.tabs.mono hl,h.err4.mono hl,h.err5.mono hl⟩
def pL (l:List Bs):List (Bs×Value):=l.foldl (fun m s=>mZ m s (.bool true)) []
theorem z1e (l:List Bs) (s:Bs):pL (l++[s])=mZ (pL l) s (.bool true):=by simp [pL]
theorem j2m (m:List (Bs×Value)) (k s:Bs) (v:Value):yA (mZ m k v) s=if s=k then some v else yA m s:=by
 induction m with
 | nil=>simp [mZ,yA]
 | cons p m ih =>
  obtain ⟨q,x⟩:=p
  simp only [mZ]
  split
  ·subst_vars;simp only [yA]
   split <;> rfl
  ·simp only [yA,ih]
   by_cases h1:s=q
   ·subst h1
    rename_i h2
    rw [if_pos rfl,if_pos rfl,if_neg (fun e=>h2 e.symm)]
   ·rw [if_neg h1,if_neg h1]
def has (l:List Bs) (s:Bs):Bool:=l.any (fun x=>decide (x=s))
theorem j7z (l:List Bs) (x s:Bs):has (l++[x]) s=(has l s || decide (x=s)):=by simp [has]
theorem y6f (l:List Bs) (s:Bs):yA (pL l) s=if has l s then some (Value.bool true) else none:=by
 have:∀(l m:List Bs) (acc:List (Bs×Value)),(∀s,yA acc s=if has m s then some (Value.bool true) else none)→∀s,yA (l.foldl (fun m s=>mZ m s (.bool true)) acc) s=if has (m++l) s then some (Value.bool true) else none:=by
  intro l
  induction l with
  | nil=>intro m acc h s;simpa using h s
  | cons x l ih =>
   intro m acc h s
   simp only [List.foldl_cons]
   have:=ih (m++[x]) (mZ acc x (.bool true)) (fun s=>by
    rw [j2m,h,j7z]
    by_cases hx:s=x
    ·simp [hx]
    ·have hx':¬x=s:=fun e=>hx e.symm
     simp [hx,hx']) s
   simpa using this
 have h:=this l [] [] (fun s=>by simp [yA,has]) s
 simpa [pL] using h
theorem y2d {l:List Bs} {s:Bs} {v:Value} (h:yA (pL l) s=some v):v=.bool true∧has l s=true:=by
 rw [y6f] at h
 split at h
 ·simp only [Option.some.injEq] at h;exact ⟨h.symm,by assumption⟩
 ·cases h
theorem y2c {l:List Bs} {s:Bs} (h:yA (pL l) s=none):has l s=false:=by
 rw [y6f] at h
 split at h
 ·cases h
 ·simpa using (by assumption:¬has l s=true)
def gD (nm:Bs→Bool):List Bs→List Bs→Bool
 | _,[]=>true
 | ds,s::l=>nm s && !has ds s&&gD nm (ds++[s]) l
end Go.Sw

namespace Go.Sw
section
variable {α:Type}
def zH:List (Bs×α)→Bs→Option α
 | [],_=>none
 | (k,x)::l,s=>if s=k then some x else zH l s
def qM:List (Bs×α)→Bs→α→List (Bs×α)
 | [],s,x=>[(s,x)]
 | (k,y)::l,s,x=>if s=k then (k,x)::l else (k,y)::qM l s x
def vA (m:List (Bs×Value)) (s:Bs) (v:Value):List (Bs×Value):=match yA m s with | some _=>m | none=>mZ m s v
def qX (l:List (Bs×α)) (s:Bs) (x:α):List (Bs×α):=match zH l s with | some _=>l | none=>qM l s x
inductive MapRel (R:Value→α→Prop):List (Bs×Value)→List (Bs×α)→Prop
 | nil:MapRel R [] []
 | cons {k v x m l}:R v x→MapRel R m l→MapRel R ((k,v)::m) ((k,x)::l)
variable {R R':Value→α→Prop} {m:List (Bs×Value)} {l:List (Bs×α)}
theorem MapRel.mono (h:MapRel R m l) (hR:∀v x,R v x→R' v x):MapRel R' m l:=by
 induction h with
 | nil=>exact .nil
 | cons h1 _ ih=>exact .cons (hR _ _ h1) ih
theorem MapRel.get (h:MapRel R m l) {s:Bs} {v:Value} (hv:yA m s=some v):∃x,zH l s=some x∧R v x:=by
 induction h with
 | nil=>cases hv
 | cons h1 _ ih =>
  simp only [yA] at hv
  simp only [zH]
  split at hv
  ·rename_i hs;simp only [Option.some.injEq] at hv;subst hv;exact ⟨_,by rw [if_pos hs],h1⟩
  ·rename_i hs
   obtain ⟨x,e1,e2⟩:=ih hv
   exact ⟨x,by rw [if_neg hs];exact e1,e2⟩
theorem MapRel.none (h:MapRel R m l) {s:Bs} (hv:yA m s=none):zH l s=none:=by
 induction h with
 | nil=>rfl
 | cons h1 _ ih =>
  simp only [yA] at hv
  simp only [zH]
  split at hv
  ·cases hv
  ·rename_i hs;rw [if_neg hs];exact ih hv
theorem MapRel.put (h:MapRel R m l) {s:Bs} {v:Value} {x:α} (hv:R v x):MapRel R (mZ m s v) (qM l s x):=by
 induction h with
 | nil=>exact .cons hv .nil
 | cons h1 h2 ih =>
  simp only [mZ,qM]
  split
  ·exact .cons hv h2
  ·exact .cons h1 ih
theorem MapRel.once (h:MapRel R m l) {s:Bs} {v:Value} {x:α} (hv:R v x):MapRel R (vA m s v) (qX l s x):=by
 unfold vA qX
 cases hm:yA m s with
 | none=>rw [h.none hm];exact h.put hv
 | some u=>obtain ⟨y,e,_⟩:=h.get hm;rw [e];exact h
end
def RVa {α:Type} (R:Fz→List Value→α→Prop) (Φ:Fz) (v:Value) (x:α):Prop:=∃cs,v=.agg cs.toArray∧R Φ cs x
def RVs (v:Value) (x:Bs):Prop:=v=.string x
structure Maker where
 data:Bs
 con:Con
def RMaker (Φ:Fz) (cs:List Value) (x:Maker):Prop:=∃b,cs=.string x.data::b∧RCon Φ b x.con
theorem RMaker.mono (Φ Ψ:Fz) (c:List Value) (x:Maker) (hl:Φ.Le Ψ) (h:RMaker Φ c x):RMaker Ψ c x:=let ⟨b,h1,h2⟩:=h;⟨b,h1,RCon.mono _ _ _ _ hl h2⟩
structure Table where
 core:Core
 datas:List (Bs×Data)
 cons:List (Bs×Maker)
 funs:List (Bs×Fun)
 inputs:List (Bs×Bs)
structure RTable (Φ:Fz) (p:Addr) (T:Table):Prop where
 ex:∃cs m1 m2 m3 m4 d1 d2 d3 d4,At Φ p (cs++[.map (some m1),.map (some m2),.map (some m3),.map (some m4)])∧cs.length=4∧RCore Φ cs T.core ∧
  MapAt Φ m1 d1∧MapRel (RVa RData Φ) d1 T.datas∧MapAt Φ m2 d2∧MapRel (RVa RMaker Φ) d2 T.cons∧MapAt Φ m3 d3∧MapRel (RVa RFun Φ) d3 T.funs∧MapAt Φ m4 d4∧MapRel RVs d4 T.inputs
theorem RVa.mono {α:Type} {R:Fz→List Value→α→Prop} (hR:∀Φ Ψ c x,Φ.Le Ψ→R Φ c x→R Ψ c x) {Φ Ψ:Fz} (hl:Φ.Le Ψ) (v:Value) (x:α) (h:RVa R Φ v x):RVa R Ψ v x:=let ⟨cs,h1,h2⟩:=h;⟨cs,h1,hR _ _ _ _ hl h2⟩
theorem RTable.mono {Φ Ψ:Fz} {p:Addr} {T:Table} (h:RTable Φ p T) (hl:Φ.Le Ψ):RTable Ψ p T :=
 let ⟨cs,m1,m2,m3,m4,d1,d2,d3,d4,h0,h1,h2,a1,b1,a2,b2,a3,b3,a4,b4⟩:=h.ex
 ⟨cs,m1,m2,m3,m4,d1,d2,d3,d4,h0.mono hl,h1,RCore.mono _ _ _ _ hl h2,a1.mono hl,b1.mono (RVa.mono RData.mono hl),a2.mono hl,b2.mono (RVa.mono RMaker.mono hl),a3.mono hl,b3.mono (RVa.mono RFun.mono hl),a4.mono hl,b4⟩
def qN (e:Ex) (num name:Bool) (args arms:Int):Bool :=
 (num || decide (e.num=0))&&(name || decide (e.name=(⟨#[]⟩:ByteArray)))&&(decide (args < 0) || decide ((e.args.length:Int)=args))&&(decide (arms < 0) || decide ((e.arms.length:Int)=arms))
def wM (T:Table) (name:Bs):Bool:=(zH T.datas name).isSome || decide (name=qC)
end Go.Sw

namespace Go.Sw
abbrev Scope:=List (Bs×Bs)
def yM (s:Scope):List (Bs×Value):=s.map (fun p=>(p.1,.string p.2))
def z6s {α:Type}:List (Bs×α)→Bs→List (Bs×α)
 | [],_=>[]
 | (k,y)::l,s=>if s=k then l else (k,y)::z6s l s
theorem y2h:∀(s:Scope) (k:Bs),yA (yM s) k=(zH s k).map .string
 | [],_=>rfl
 | (q,x)::s,k=>by
  simp only [yM,List.map_cons,yA,zH]
  split
  ·rfl
  ·exact y2h s k
theorem kJ {s:Scope} {k:Bs} {v:Value} (h:yA (yM s) k=some v):∃y,zH s k=some y∧v=.string y:=by
 rw [y2h] at h
 cases hl:zH s k with
 | none=>rw [hl] at h;cases h
 | some y=>rw [hl] at h;simp only [Option.map_some,Option.some.injEq] at h;exact ⟨y,rfl,h.symm⟩
theorem kI {s:Scope} {k:Bs} (h:yA (yM s) k=none):zH s k=none:=by
 rw [y2h] at h
 cases hl:zH s k with
 | none=>rfl
 | some y=>rw [hl] at h;cases h
theorem aD:∀(s:Scope) (k x:Bs),mZ (yM s) k (.string x)=yM (qM s k x)
 | [],_,_=>rfl
 | (q,y)::s,k,x=>by
  simp only [yM,List.map_cons,mZ,qM]
  split
  ·rfl
  ·simp only [List.map_cons];exact congrArg _ (aD s k x)
theorem z3a:∀(s:Scope) (k:Bs),z4r (yM s) k=yM (z6s s k)
 | [],_=>rfl
 | (q,y)::s,k=>by
  simp only [yM,List.map_cons,z4r,z6s]
  split
  ·rfl
  ·simp only [List.map_cons];exact congrArg _ (z3a s k)
def sNo:Bs:=⟨#[]⟩
def dE:Bs:=⟨#[66,111,111,108]⟩
def dS (e:Ex):Bs:=if qN e true false 0 0 then qC else sNo
def pH (e:Ex) (s:Scope):Bs:=if qN e false true 0 0 then (zH s e.name).getD sNo else sNo
def oN (T:Table) (e:Ex):Bs:=if qN e false true 0 0 then (zH T.inputs e.name).getD sNo else sNo
def putAll:Scope→List Bs→List Bs→Scope
 | s,v::vs,f::fs=>putAll (qM s v f) vs fs
 | s,_,_=>s
def cN:Scope→List Bs→Scope
 | s,v::vs=>cN (z6s s v) vs
 | s,[]=>s
def opT (name:Bs):Bs :=
 if name=⟨#[43]⟩∨name=⟨#[45]⟩∨name=⟨#[42]⟩∨name=⟨#[47]⟩∨name=⟨#[37]⟩ then qC
 else if name=⟨#[60]⟩∨name=⟨#[61]⟩ then dE else sNo
mutual
def zG (T:Table):Ex→Scope→Bs×Scope
 | .mk kind num name args arms,s =>
  if kind=1 then (dS (.mk kind num name args arms),s)
  else if kind=2 then (pH (.mk kind num name args arms) s,s)
  else if kind=3 then (oN T (.mk kind num name args arms),s)
  else if kind=4 then
   match zH T.cons name with
   | none=>(sNo,s)
   | some m=>if qN (.mk kind num name args arms) false true (-1) 0=true∧args.length=m.con.fields.length then ((if (allQ T args s m.con.fields).1 then m.data else sNo),(allQ T args s m.con.fields).2) else (sNo,s)
  else if kind=5 then
   match zH T.funs name with
   | none=>(sNo,s)
   | some f=>if qN (.mk kind num name args arms) false true (-1) 0=true∧args.length=f.params.length then ((if (allQ T args s (f.params.map Param.type)).1 then f.result else sNo),(allQ T args s (f.params.map Param.type)).2) else (sNo,s)
  else if kind=6 then (if qN (.mk kind num name args arms) false true 2 0 then letP T name args s else (sNo,s))
  else if kind=7 then
   if qN (.mk kind num name args arms) false false 1 (-1) then
    match zH T.datas (firstP T args s).1 with
    | none=>(sNo,(firstP T args s).2)
    | some d=>if d.cons.length=arms.length then splitP T arms d.cons true sNo (firstP T args s).2 else (sNo,(firstP T args s).2)
   else (sNo,s)
  else if kind=8 then
   if qN (.mk kind num name args arms) false true 2 0 then ((if (allQ T args s [qC,qC]).1 then opT name else sNo),(allQ T args s [qC,qC]).2) else (sNo,s)
  else (sNo,s)
def allQ (T:Table):List Ex→Scope→List Bs→Bool×Scope
 | [],s,_=>(true,s)
 | x::xs,s,ts =>
  if (zG T x s).1=sNo∨(zG T x s).1≠ts.headD sNo then (false,(zG T x s).2) else allQ T xs (zG T x s).2 ts.tail
def firstP (T:Table):List Ex→Scope→Bs×Scope
 | [],s=>(sNo,s)
 | a::_,s=>zG T a s
def restP (T:Table):List Ex→Scope→Bs×Scope
 | [],s=>(sNo,s)
 | _::l,s=>firstP T l s
def letP (T:Table) (name:Bs):List Ex→Scope→Bs×Scope
 | [],s=>(sNo,s)
 | a::l,s=>if (zG T a s).1=sNo then (sNo,(zG T a s).2) else
   ((firstP T l (qM (zG T a s).2 name (zG T a s).1)).1,z6s (firstP T l (qM (zG T a s).2 name (zG T a s).1)).2 name)
def splitP (T:Table):List Arm→List Con→Bool→Bs→Scope→Bs×Scope
 | [],_,_,out,s=>(out,s)
 | .mk con vars body::az,cs,first,out,s =>
  if con≠(cs.headD ⟨sNo,[]⟩).name∨vars.length≠(cs.headD ⟨sNo,[]⟩).fields.length then (sNo,s) else
  if (zG T body (putAll s vars (cs.headD ⟨sNo,[]⟩).fields)).1=sNo∨(first=false∧(zG T body (putAll s vars (cs.headD ⟨sNo,[]⟩).fields)).1≠out)
  then (sNo,cN (zG T body (putAll s vars (cs.headD ⟨sNo,[]⟩).fields)).2 vars)
  else splitP T az cs.tail false (zG T body (putAll s vars (cs.headD ⟨sNo,[]⟩).fields)).1 (cN (zG T body (putAll s vars (cs.headD ⟨sNo,[]⟩).fields)).2 vars)
end
theorem y3r (T:Table) (x:Ex) (xs:List Ex) (s:Scope) (t:Bs) (ts:List Bs):allQ T (x::xs) s (t::ts) =
  if (zG T x s).1=sNo∨(zG T x s).1≠t then (false,(zG T x s).2) else allQ T xs (zG T x s).2 ts:=rfl
def kD (T:Table) (xs:List Ex) (s:Scope) (ts:List Bs):Bool×Scope:=if xs.length=ts.length then allQ T xs s ts else (false,s)
def sY (T:Table) (e:Ex) (s:Scope):Bs×Scope :=
 match zH T.cons e.name with
 | none=>(sNo,s)
 | some m=>if qN e false true (-1) 0=true then ((if (kD T e.args s m.con.fields).1 then m.data else sNo),(kD T e.args s m.con.fields).2) else (sNo,s)
def aA (T:Table) (e:Ex) (s:Scope):Bs×Scope :=
 match zH T.funs e.name with
 | none=>(sNo,s)
 | some f=>if qN e false true (-1) 0=true then ((if (kD T e.args s (f.params.map Param.type)).1 then f.result else sNo),(kD T e.args s (f.params.map Param.type)).2) else (sNo,s)
def nC (T:Table) (e:Ex) (s:Scope):Bs×Scope :=
 if qN e false true 2 0=true then ((if (kD T e.args s [qC,qC]).1 then opT e.name else sNo),(kD T e.args s [qC,qC]).2) else (sNo,s)
theorem sF (T:Table) (e:Ex) (s:Scope) (h:e.kind=4):zG T e s=sY T e s:=by
 cases e with
 | mk k n nm args arms =>
  simp only [Ex.kind] at h
  subst h
  simp only [zG,sY,Ex.name,Ex.args,kD]
  simp only [show ¬(4:Int)=1 by decide,show ¬(4:Int)=2 by decide,show ¬(4:Int)=3 by decide,if_false,if_true]
  cases zH T.cons nm with
  | none=>rfl
  | some m =>
   simp only
   by_cases hb:qN (.mk 4 n nm args arms) false true (-1) 0=true
   ·by_cases hl:args.length=m.con.fields.length
    ·simp [hb,hl]
    ·simp [hb,hl]
   ·simp [hb]
def truthsD:Data:=⟨dE,[⟨⟨#[70,97,108,115,101]⟩,[]⟩,⟨⟨#[84,114,117,101]⟩,[]⟩]⟩
end Go.Sw

namespace Go.Sw
variable {P:Program} {n:Nat} {E:List (Nat×Value)} {D:List Deferred} {a:Act} {Φ Ψ:Fz} {K:List Res} {w:World}
variable {dst:Option Tmp} {ty:TypeId} {pos:String} {aft:Array Edge} {g:Option (Nat×Bool)}
variable {Kn:Value→World→Prop} {Qp:List PanicEntry→World→Prop}
theorem y7z:∀(m:List (Bs×Value)) (s:Bs) (j:Nat),z4r m s=match dG m s j with | none=>m | some (i,_)=>m.eraseIdx (i - j)
 | [],_,_=>rfl
 | (k,x)::m,s,j=>by
  simp only [z4r,dG]
  split
  ·simp
  ·rw [y7z m s (j+1)]
   cases hm:dG m s (j+1) with
   | none=>simp
   | some p =>
    obtain ⟨i,y⟩:=p
    obtain ⟨_,h1⟩:=y0x m s (j+1) i y hm
    have e:i - j=(i - (j+1))+1:=by omega
    simp only [e,List.eraseIdx_cons_succ]
theorem gW {α β:Type} (f:α→β):∀(l:List α) (i:Nat),(l.eraseIdx i).map f=(l.map f).eraseIdx i
 | [],_=>rfl
 | _::_,0=>rfl
 | x::l,i+1=>by simp [gW f l i]
theorem q6o (i:Nat) {t kt et t2 ty:TypeId} {b:Nat} {m:List (Bs×Value)} {s:Bs} (ht:Under P t (.map kt et)) (hk:Under P kt .string) (hm:Mem Φ K w) (hK:qJ K i=some (.mp b m)) :
  ∃w',(Builtin.delete_ #[t,t2] ty #[.map (some b),.string s]).run P w=.ok (.tuple #[]) w'∧Mem Φ (wK K i (.mp b (z4r m s))) w':=by
 obtain ⟨es,clock,hb,hok⟩:=hm.own _ (qH hK)
 have h1:(getObj b).run P w=.ok (.map es clock) w:=by simp [getObj,Sem.run,hb]
 have hlt:b < w.heap.size:=(Array.getElem?_eq_some_iff.1 hb).1
 have hset:∀o,(setObj b o).run P w=.ok () { w with heap:=w.heap.setIfInBounds b o }:=fun o=>by simp only [setObj,Sem.run,hb]
 have fin:∀es',MapOk es' clock (z4r m s)→Mem Φ (wK K i (.mp b (z4r m s))) { w with heap:=w.heap.setIfInBounds b (.map es' clock) }:=fun es' h =>
  hm.upd hK rfl rfl (fun c hc hne=>by simp only;rw [Array.getElem?_setIfInBounds_ne (fun e=>hne (by simp [Res.foot,e]))]) ⟨es',clock,by simp [hlt],h⟩ (.inl rfl)
 have hdel:=y7z m s 0
 cases hmx:dG m s 0 with
 | none =>
  rw [hmx] at hdel
  simp only at hdel
  refine ⟨_,?_,fin es (by rw [hdel];exact hok)⟩
  simp [Builtin.delete_,Sem.run_bind,ht w,h1,kZ hk,mO hk hok.eq,hmx,hset]
 | some p =>
  obtain ⟨j,y⟩:=p
  rw [hmx] at hdel
  simp only [Nat.sub_zero] at hdel
  have hl:(es.eraseIdxIfInBounds j).toList=es.toList.eraseIdx j:=by simp
  have hsub:(es.toList.eraseIdx j).Sublist es.toList:=List.eraseIdx_sublist _ _
  refine ⟨_,?_,fin (es.eraseIdxIfInBounds j) ⟨by rw [hl,hdel,gW,gW,hok.eq],fun e he=>hok.old e (hsub.subset (hl▸he)),by rw [hl];exact hok.nodup.sublist (hsub.map _)⟩⟩
  simp [Builtin.delete_,Sem.run_bind,ht w,h1,kZ hk,mO hk hok.eq,hmx,hset]
theorem z9a (i:Nat) {t kt et t2:TypeId} {x y:Operand} {b:Nat} {m:List (Bs×Value)} {s:Bs} (ht:Under P t (.map kt et)) (hk:Under P kt .string)
  (he:EnvR n E D a) (hm:Mem Φ K w) (hx:ev E x=some (.map (some b))) (hy:ev E y=some (.string s)) (hK:qJ K i=some (.mp b m))
  (k:∀w',Mem Φ (wK K i (.mp b (z4r m s))) w'→Kn (.tuple #[]) w'):Oper.eff P ⟨dst,.call { callee:=.builtin .delete,args:=#[x,y],argTypes:=#[t,t2] },ty,pos,aft,g⟩ a w Kn Qp:=by
 obtain ⟨es,clock,hb,hok⟩:=hm.own _ (qH hK)
 have h1:(getObj b).run P w=.ok (.map es clock) w:=by simp [getObj,Sem.run,hb]
 have hlt:b < w.heap.size:=(Array.getElem?_eq_some_iff.1 hb).1
 have hset:∀o,(setObj b o).run P w=.ok () { w with heap:=w.heap.setIfInBounds b o }:=fun o=>by simp only [setObj,Sem.run,hb]
 have fin:∀es',MapOk es' clock (z4r m s)→Mem Φ (wK K i (.mp b (z4r m s))) { w with heap:=w.heap.setIfInBounds b (.map es' clock) }:=fun es' h =>
  hm.upd hK rfl rfl (fun c hc hne=>by simp only;rw [Array.getElem?_setIfInBounds_ne (fun e=>hne (by simp [Res.foot,e]))]) ⟨es',clock,by simp [hlt],h⟩ (.inl rfl)
 have hdel:=y7z m s 0
 have hrun:∃es',MapOk es' clock (z4r m s)∧(Builtin.delete_ #[t,t2] ty #[.map (some b),.string s]).run P w=.ok (.tuple #[]) { w with heap:=w.heap.setIfInBounds b (.map es' clock) }:=by
  cases hmx:dG m s 0 with
  | none =>
   rw [hmx] at hdel
   simp only at hdel
   refine ⟨es,by rw [hdel];exact hok,?_⟩
   simp [Builtin.delete_,Sem.run_bind,ht w,h1,kZ hk,mO hk hok.eq,hmx,hset]
  | some p =>
   obtain ⟨j,y⟩:=p
   rw [hmx] at hdel
   simp only [Nat.sub_zero] at hdel
   refine ⟨es.eraseIdxIfInBounds j,?_,?_⟩
   ·have hl:(es.eraseIdxIfInBounds j).toList=es.toList.eraseIdx j:=by simp
    have hsub:(es.toList.eraseIdx j).Sublist es.toList:=List.eraseIdx_sublist _ _
    refine ⟨?_,fun e he=>hok.old e (hsub.subset (hl▸he)),?_⟩
    ·rw [hl,hdel,gW,gW,hok.eq]
    ·rw [hl];exact hok.nodup.sublist (hsub.map _)
   ·simp [Builtin.delete_,Sem.run_bind,ht w,h1,kZ hk,mO hk hok.eq,hmx,hset]
 obtain ⟨es',h2,h3⟩:=hrun
 unfold Oper.eff
 have:(execOp a.eval ⟨dst,.call { callee:=.builtin .delete,args:=#[x,y],argTypes:=#[t,t2] },ty,pos,aft,g⟩).run P w=.ok (.value (.tuple #[])) { w with heap:=w.heap.setIfInBounds b (.map es' clock) }:=by
  simp only [execOp,resolve,invoke,builtin,Sem.run_bind,Sem.run_pure,Result.andThen_ok,List.map_toArray,List.map_cons,List.map_nil,he.ev hx,he.ev hy,h3]
 rw [this]
 exact k _ (fin _ h2)
end Go.Sw

namespace Go.Sw
theorem vV {e:Ex} {a b:Bool} {n:Nat} {r:Int} (h:qN e a b (n:Int) r=true):e.args.length=n:=by
 simp only [qN,Bool.and_eq_true,Bool.or_eq_true,decide_eq_true_eq] at h
 omega
theorem jO {T:Table} {l:List Ex} {x:Ex} {s:Scope} (h:l[0]? = some x):firstP T l s=zG T x s:=by
 cases l with
 | nil=>simp at h
 | cons y l=>simp only [List.getElem?_cons_zero,Option.some.injEq] at h;subst h;rfl
def jY (T:Table) (e:Ex) (s:Scope):Bs×Scope :=
 if qN e false false 1 (-1)=true then
  match zH T.datas (firstP T e.args s).1 with
  | none=>(sNo,(firstP T e.args s).2)
  | some d=>if d.cons.length=e.arms.length then splitP T e.arms d.cons true sNo (firstP T e.args s).2 else (sNo,(firstP T e.args s).2)
 else (sNo,s)
def nO (T:Table) (a:Arm) (c:Con) (s:Scope):Bs×Scope:=((zG T a.body (putAll s a.vars c.fields)).1,cN (zG T a.body (putAll s a.vars c.fields)).2 a.vars)
theorem jR (T:Table) (a:Arm) (az:List Arm) (c:Con) (cs:List Con) (first:Bool) (out:Bs) (s:Scope):splitP T (a::az) (c::cs) first out s =
  if a.con≠c.name∨a.vars.length≠c.fields.length then (sNo,s) else
  if (nO T a c s).1=sNo∨(first=false∧(nO T a c s).1≠out) then (sNo,(nO T a c s).2)
  else splitP T az cs false (nO T a c s).1 (nO T a c s).2:=by
 cases a;rfl
theorem dV (s:Scope) (v:Bs) (vs:List Bs) (f:Bs) (fs:List Bs):putAll s (v::vs) (f::fs)=putAll (qM s v f) vs fs:=rfl
theorem xV (s:Scope) (fs:List Bs):putAll s [] fs=s:=by cases fs <;> rfl
end Go.Sw

namespace Go.Sw
variable {P:Program}
theorem z1f {fr:Frame} {cs:List Frame} {w w':World} {d:Deferred} {ds:List Deferred} {b:Builtin} {ts:Array TypeId} {ty:TypeId} {k:Array Bool} {v:Value}
  (hm:fr.mode≠.run) (hd:fr.defers=d::ds) (ht:d.target=.builtin b ts ty k) (hi:(invoke d.target d.args).run P w=.ok (.value v) w') :
  step P (lone fr cs w)=.next (lone { fr with defers:=ds } cs w'):=by
 obtain ⟨t,a⟩:=d
 simp only at ht hi
 subst ht
 refine step_lone_go ?_
 cases hmode:fr.mode with
 | run=>exact absurd hmode hm
 | returning=>simp [stepG,unwind,callDeferred,hmode,hd,hi]
 | panicking chain=>simp [stepG,unwind,callDeferred,hmode,hd,hi]
def q9l (P:Program) (fn:Func) (R:Ending→World→Prop):Exit→Act→World→Prop
 | .ret,a,w=>(a.defers=[]∧∃x,(results fn a.tmps).run P w=.ok x w∧R (.returned x) w) ∨
   ∃d b ts ty k v w',a.defers=[d]∧d.target=.builtin b ts ty k∧(invoke d.target d.args).run P w=.ok (.value v) w'∧∃x,(results fn a.tmps).run P w'=.ok x w'∧R (.returned x) w'
 | _,_,_=>False
theorem z8q {f:FuncId} {fn:Func} {c:Code} {args:Array Value} {w:World} {R:Ending→World→Prop} (hf:P.funcs[f]? = some fn) (hb:fn.body=some c)
  (h:c.wp P (q9l P fn R) { tmps:=args++Array.replicate (fn.ntmps - args.size) undef,defers:=[] } w):Calls P f args w R:=by
 intro cs
 let b:Frame:={ (default:Frame) with fn:=f,kind:=.normal }
 have henter:Frame.enter P f args .normal=b.at { tmps:=args++Array.replicate (fn.ntmps - args.size) undef,defers:=[] } [.code c]:=by
  simp [Frame.enter,Frame.at,hf,hb,b]
 obtain ⟨e,a',w',hq,harr⟩:=h b [] cs
 rw [← henter] at harr
 cases e with
 | ret =>
  obtain ⟨todo,hs⟩:=harr
  rcases hq with ⟨hd,x,hr,hR⟩ | ⟨d,bb,ts,ty,k,v,w'',hd,ht,hi,x,hr,hR⟩
  ·exact ⟨.returned x,w',_,hR,hs,rfl,rfl,hd,rfl,fn,hf,hr⟩
  ·have h1:=z1f (fr:={ b.at a' todo with mode:=.returning }) (cs:=cs) (by simp) hd ht hi
   exact ⟨.returned x,w'',_,hR,Steps.trans hs (.one h1),rfl,rfl,rfl,rfl,fn,hf,hr⟩
 | normal=>exact hq.elim
 | panic chain=>exact hq.elim
 | exit id=>exact hq.elim
 | goto l=>exact hq.elim
 | outgrown=>exact hq.elim
theorem enterB {n:Nat} {w:World} {f:FuncId} {fn:Func} {c:Code} {vs:List Value} {R:Ending→World→Prop} (hf:P.funcs[f]? = some fn) (hb:fn.body=some c) (hn:fn.ntmps=n) (hl:Nat.ble vs.length n=true)
  (k:∀Q:Exit→Act→World→Prop,(∀e a w,q9l P fn R e a w→Q e a w)→∀a,EnvR n (aP 0 vs) [] a→c.wp P Q a w):Calls P f vs.toArray w R:=by
 have hl':vs.length≤n:=by simpa using hl
 refine z8q hf hb (k _ (fun _ _ _ h=>h) _ ⟨by simp [hn];omega,fun t v ht =>?_,rfl⟩)
 obtain ⟨_,h2⟩:=nZ vs 0 t v ht
 simp only [Nat.sub_zero] at h2
 have hlt:t < vs.length:=(List.getElem?_eq_some_iff.1 h2).1
 simp only [List.getElem?_toArray,Array.getElem?_append,List.size_toArray,hlt,↓reduceIte]
 exact h2
section
variable {n:Nat} {E:List (Nat×Value)} {D:List Deferred} {a:Act} {w:World} {ops:Array Oper} {rest:List Oper} {Q:Exit→Act→World→Prop} {ty:TypeId} {pos:String} {aft:Array Edge}
theorem z5a {b:Builtin} {xs:Array Operand} {ts:Array TypeId} {vs:List Value} (he:EnvR n E D a) (hx:evs E xs.toList=some vs)
  (k:∀a fl,EnvR n E ({ target:=.builtin b ts ty fl,args:=vs.toArray }::D) a→wpList P ops Q rest a w) :
  wpList P ops Q (⟨none,.defer { callee:=.builtin b,args:=xs,argTypes:=ts },ty,pos,aft,none⟩::rest) a w:=by
 refine wpList_plain rfl fun L hL =>?_
 unfold Oper.wp
 simp only [execOp,resolve,he.evsA hx]
 exact hL _ _ (k _ _ ⟨he.size,he.env,congrArg (List.cons _) he.defs⟩)
end
section
variable {n:Nat} {E:List (Nat×Value)} {a:Act} {w:World} {Φ:Fz} {K:List Res}
theorem ret1B {fn:Func} {R:Ending→World→Prop} {t:Nat} {v:Value} (he:EnvR n E [] a) (hr:fn.results=#[.tmp t]) (hv:get E t=some v) (h:R (.returned v) w):q9l P fn R .ret a w :=
 .inl ⟨he.defs,v,by simp [results,hr,Array.getD_eq_getD_getElem?,he.env t v hv],h⟩
theorem y8p (i:Nat) {fn:Func} {R:Ending→World→Prop} {t:Nat} {v:Value} {tm kt et t2 ty:TypeId} {fl:Array Bool} {b:Nat} {m:List (Bs×Value)} {s:Bs} (ht:Under P tm (.map kt et)) (hk:Under P kt .string)
  (he:EnvR n E [⟨.builtin .delete #[tm,t2] ty fl,#[.map (some b),.string s]⟩] a) (hr:fn.results=#[.tmp t]) (hv:get E t=some v) (hm:Mem Φ K w) (hK:qJ K i=some (.mp b m))
  (h:∀w',Mem Φ (wK K i (.mp b (z4r m s))) w'→R (.returned v) w'):q9l P fn R .ret a w:=by
 obtain ⟨w',h1,h2⟩:=q6o (t2:=t2) (ty:=ty) i ht hk hm hK (s:=s)
 exact .inr ⟨_,_,_,_,_,_,w',he.defs,rfl,(by simp only [invoke,builtin,Sem.run_bind,h1];rfl),v,by simp [results,hr,Array.getD_eq_getD_getElem?,he.env t v hv],h w' h2⟩
end
def z0p (T:Table) (e:Ex) (s:Scope):Bs×Scope:=if qN e false true 2 0=true then letP T e.name e.args s else (sNo,s)
theorem z7z {T:Table} {nm:Bs} {l:List Ex} {x:Ex} {s:Scope} (h:l[0]? = some x) (hn:(zG T x s).1=sNo):letP T nm l s=(sNo,(zG T x s).2):=by
 cases l with
 | nil=>simp at h
 | cons y l=>simp only [List.getElem?_cons_zero,Option.some.injEq] at h;subst h;simp only [letP];rw [if_pos hn]
theorem z2i {T:Table} {nm:Bs} {l:List Ex} {x y:Ex} {s:Scope} (h:l[0]? = some x) (h1:l[1]? = some y) (hn:¬(zG T x s).1=sNo) :
  letP T nm l s=((zG T y (qM (zG T x s).2 nm (zG T x s).1)).1,z6s (zG T y (qM (zG T x s).2 nm (zG T x s).1)).2 nm):=by
 cases l with
 | nil=>simp at h
 | cons z l =>
  simp only [List.getElem?_cons_zero,Option.some.injEq] at h;subst h
  simp only [letP];rw [if_neg hn]
  simp only [List.getElem?_cons_succ] at h1
  rw [jO h1]
end Go.Sw

namespace Go.Sw
open Go.Proofs
def y4g:Nat→Nat→List UInt8
 | 0,_=>[]
 | f+1,n=>if n < 10 then [(48+n).toUInt8] else (48+n % 10).toUInt8::y4g f (n / 10)
def q8p (n:Nat):List UInt8:=(y4g (n+1) n).reverse
def y0d (i:Int):List UInt8:=if i < 0 then 45::q8p (-i).toNat else q8p i.toNat
def aM (n:Int):Bs:=⟨(Lib.itoa n).toArray⟩
def y1v (s old new:Bs):Bs:=⟨(Lib.replace s.data.toList old.data.toList new.data.toList 1).toArray⟩
def dI (s:Bs):Except Unit Int:=match Lib.atoiAll s.data.toList with
 | .ok v=>.ok v
 | _=>.error ()
def z1t (n:Int):Bs:=y1v (aM n) ⟨#[45]⟩ ⟨#[126]⟩
def oT (s:Bs):Option Int:=match dI (y1v s ⟨#[126]⟩ ⟨#[45]⟩) with
 | .ok v=>if z1t v=s then some v else none
 | .error _=>none
def gG (s:Bs):Option Int:=match dI s with
 | .ok v=>if aM v=s then some v else none
 | .error _=>none
def vS (t:Bs) (pos:Nat):Nat:=if zJ t pos=126 then 1 else 0
def vP (t:Bs) (pos:Nat):Nat:=yP yZ t t.size (pos+vS t pos)
def nB (t:Bs) (pos:Nat):Bs:=t.extract pos (pos+(vS t pos+vP t pos))
def tR (t:Bs) (pos:Nat):Except (Nat×Int) Tok :=
 match oT (nB t pos) with
 | none=>.error (pos,13)
 | some v =>
  if qI (zJ t (pos+(vS t pos+vP t pos)))=true∨zJ t (pos+(vS t pos+vP t pos))=39 then .error (pos,13)
  else .ok ⟨1,v,nB t pos,pos⟩
def y2f (c:Nat):Bool:=[40,41,44,59,58,124,61,60,43,45,42,47,37,95].contains c
def zT (t:Bs) (pos:Nat):Except (Nat×Int) Tok :=
 if yZ (zJ t pos)=true∨zJ t pos=126 then tR t pos
 else if nS (zJ t pos)=true then kO t pos 2
 else if aJ (zJ t pos)=true then kO t pos 3
 else if zJ t pos=39∧nS (zJ t (pos+1))=true then vY t pos 4 (1+yP qI t t.size (pos+1))
 else if kY (t.extract pos t.size) ⟨#[61,62]⟩=true∨kY (t.extract pos t.size) ⟨#[45,62]⟩=true then vY t pos 6 2
 else if y2f (zJ t pos)=true then vY t pos 6 1
 else .error (pos,11)
def sT (t:Bs):Nat→Nat→Except (Nat×Int) (List Tok)
 | 0,_=>.ok []
 | f+1,i =>
  match dT t i with
  | .error c=>.error c
  | .ok q=>if q < t.size then
    match zT t q with
    | .error c=>.error c
    | .ok k=>match sT t f (q+k.text.size) with
     | .error c=>.error c
     | .ok l=>.ok (k::l)
   else .ok []
def nI (t:Bs):Except (Nat×Int) (List Tok):=sT t (t.size+1) 0
def kF (s:Bs):Int :=
 if 24 < s.size then 0 else
 match nI s with
 | .ok [k]=>if k.text=s then k.kind else 0
 | _=>0
def yY (s:Bs):Bool:=decide (kF s=2)
def qG (s:Bs):Bool:=decide (kF s=3)
end Go.Sw

namespace Go.Sw
mutual
def xK:Val→Int→Bool×Int
 | .mk _ _ args,l=>if IntKind.i64.wrap (l - 1) < 0 then (true,IntKind.i64.wrap (l - 1)) else larges args (IntKind.i64.wrap (l - 1))
def larges:List Val→Int→Bool×Int
 | [],l=>(false,l)
 | v::vs,l=>match xK v l with
  | (true,q)=>(true,q)
  | (false,q)=>larges vs q
end
def cX (v:Val):Bool:=(xK v 4000).1
mutual
def nP (T:Table):Val→Bs→Bool
 | .mk con num args,name =>
  if con=sNo∨name=qC then decide (con=sNo)&&decide (name=qC)&&decide (args.length=0)
  else match zH T.cons con with
   | none=>false
   | some m=>decide (m.data=name)&&decide (num=0)&&decide (m.con.fields.length=args.length)&&hasL T args m.con.fields
def hasL (T:Table):List Val→List Bs→Bool
 | [],_=>true
 | v::vs,fs=>nP T v (fs.headD sNo)&&hasL T vs fs.tail
end
def aH (T:Table):List Named→List Param→Bool
 | [],[]=>true
 | v::vs,p::ps=>decide (v.name=p.name) && !cX v.value&&nP T v.value p.type&&aH T vs ps
 | _,_=>false
inductive Ev (α:Type) where
 | ok (x:α) (g:Nat)
 | spent
 | stuck
abbrev Env:=List (Bs×Val)
def v0:Val:=.mk sNo 0 []
def z1h (n:Int):Val:=.mk sNo n []
def y6d:Bs:=⟨#[84,114,117,101]⟩
def z4z:Bs:=⟨#[70,97,108,115,101]⟩
def gA (b:Bool):Val:=.mk (if b then y6d else z4z) 0 []
def jK (op:Bs) (a b:Int):Val :=
 if op=⟨#[43]⟩ then z1h (IntKind.i64.wrap (a+b))
 else if op=⟨#[45]⟩ then z1h (IntKind.i64.wrap (a - b))
 else if op=⟨#[42]⟩ then z1h (IntKind.i64.wrap (a * b))
 else if op=⟨#[60]⟩ then gA (decide (a < b))
 else if op=⟨#[61]⟩ then gA (decide (a=b))
 else if b=0 then v0
 else if op=⟨#[47]⟩ then z1h (IntKind.i64.wrap (a.tdiv b))
 else z1h (a.tmod b)
structure Ctx where
 funs:List (Bs×Fun)
 inp:List (Bs×Val)
def Ev.bind {α β:Type} (r:Ev α) (f:α→Nat→Ev β):Ev β:=match r with
 | .ok x g=>f x g
 | .spent=>.spent
 | .stuck=>.stuck
def xC (ev:Nat→Ex→Env→Ev Val) (env:Env):List Ex→Nat→Ev (List Val)
 | [],g=>.ok [] g
 | e::es,g=>(ev g e env).bind fun v g=>(xC ev env es g).bind fun l g=>.ok (v::l) g
def kL:List Bs→List Val→Env→Option Env
 | [],_,env=>some env
 | n::ns,a::az,env=>kL ns az ((n,a)::env)
 | _::_,[],_=>none
def mJ (ev:Nat→Ex→Env→Ev Val) (names:List Bs) (args:List Val) (env:Env) (body:Ex) (g:Nat):Ev Val :=
 match kL names args env with
 | none=>.stuck
 | some env=>ev g body env
def pI (ev:Nat→Ex→Env→Ev Val) (f:Fun) (args:List Val) (g:Nat):Ev Val:=mJ ev (f.params.map Param.name) args [] f.body g
def xQ:List Arm→Bs→Option Arm
 | [],_=>none
 | a::az,c=>if a.con=c then some a else xQ az c
def xE (ev:Nat→Ex→Env→Ev Val) (C:Ctx) (g:Nat) (e:Ex) (env:Env):Ev Val :=
 if e.kind=1 then .ok (z1h e.num) g
 else if e.kind=2 then .ok ((zH env e.name).getD v0) g
 else if e.kind=3 then .ok ((zH C.inp e.name).getD v0) g
 else if e.kind=4 then (xC ev env e.args g).bind fun l g=>.ok (.mk e.name 0 l) g
 else if e.kind=5 then match zH C.funs e.name with
  | none=>.stuck
  | some f=>(xC ev env e.args g).bind fun l g=>pI ev f l g
 else if e.kind=6 then match e.args with
  | a::b::_=>(ev g a env).bind fun x g=>ev g b ((e.name,x)::env)
  | _=>.stuck
 else if e.kind=7 then match e.args with
  | a::_=>(ev g a env).bind fun x g=>match xQ e.arms x.con with
   | none=>.stuck
   | some m=>mJ ev m.vars x.args env m.body g
  | _=>.stuck
 else if e.kind=8 then (xC ev env e.args g).bind fun l g=>match l with
  | a::b::_=>if opT e.name=sNo then .stuck else .ok (jK e.name a.num b.num) g
  | _=>.stuck
 else .stuck
def pQ (C:Ctx):Nat→Nat→Ex→Env→Ev Val
 | 0,_,_,_=>.spent
 | _+1,0,_,_=>.spent
 | n+1,g+1,e,env=>xE (pQ C n) C g e env
def jJ (C:Ctx) (g:Nat) (e:Ex) (env:Env):Ev Val:=pQ C (g+1) g e env
def z8d (ev:Nat→Ex→Env→Ev Val):Prop:=∀g e env v g',ev g e env=.ok v g'→g' < g
theorem Ev.bind_ok {α β:Type} {r:Ev α} {f:α→Nat→Ev β} {y:β} {g:Nat} (h:r.bind f=.ok y g):∃x g1,r=.ok x g1∧f x g1=.ok y g:=by
 cases r with
 | ok x g1=>exact ⟨x,g1,rfl,h⟩
 | spent=>cases h
 | stuck=>cases h
theorem gN {ev:Nat→Ex→Env→Ev Val} (hd:z8d ev) {env:Env}:∀{l:List Ex} {g g':Nat} {vs:List Val},xC ev env l g=.ok vs g'→g'≤g
 | [],g,g',vs,h=>by simp only [xC,Ev.ok.injEq] at h;omega
 | e::es,g,g',vs,h=>by
  obtain ⟨v,g1,h1,h2⟩:=Ev.bind_ok h
  obtain ⟨w,g2,h3,h4⟩:=Ev.bind_ok h2
  have:=hd _ _ _ _ _ h1
  have:=gN hd h3
  simp only [Ev.ok.injEq] at h4
  omega
theorem z8n {ev:Nat→Ex→Env→Ev Val} (hd:z8d ev) {ns:List Bs} {az:List Val} {env:Env} {b:Ex} {g g':Nat} {v:Val} (h:mJ ev ns az env b g=.ok v g'):g' < g:=by
 unfold mJ at h
 split at h
 ·cases h
 ·exact hd _ _ _ _ _ h
theorem x0z {ev:Nat→Ex→Env→Ev Val} (hd:z8d ev) {C:Ctx} {g g':Nat} {e:Ex} {env:Env} {v:Val} (h:xE ev C g e env=.ok v g'):g'≤g:=by
 unfold xE at h
 split at h
 ·simp only [Ev.ok.injEq] at h;omega
 split at h
 ·simp only [Ev.ok.injEq] at h;omega
 split at h
 ·simp only [Ev.ok.injEq] at h;omega
 split at h
 ·obtain ⟨l,g1,h1,h2⟩:=Ev.bind_ok h
  have:=gN hd h1
  simp only [Ev.ok.injEq] at h2;omega
 split at h
 ·split at h
  ·cases h
  ·obtain ⟨l,g1,h1,h2⟩:=Ev.bind_ok h
   have:=gN hd h1
   have:=z8n hd h2;omega
 split at h
 ·split at h
  ·obtain ⟨l,g1,h1,h2⟩:=Ev.bind_ok h
   have:=hd _ _ _ _ _ h1
   have:=hd _ _ _ _ _ h2
   omega
  ·cases h
 split at h
 ·split at h
  ·obtain ⟨l,g1,h1,h2⟩:=Ev.bind_ok h
   have:=hd _ _ _ _ _ h1
   split at h2
   ·cases h2
   ·have:=z8n hd h2;omega
  ·cases h
 split at h
 ·obtain ⟨l,g1,h1,h2⟩:=Ev.bind_ok h
  have:=gN hd h1
  split at h2
  ·split at h2
   ·cases h2
   ·simp only [Ev.ok.injEq] at h2;omega
  ·cases h2
 ·cases h
theorem dL (C:Ctx):∀n,z8d (pQ C n)
 | 0=>fun g e env v g' h=>by cases h
 | n+1=>fun g e env v g' h=>by
  cases g with
  | zero=>cases h
  | succ g=>have:=x0z (dL C n) (show xE (pQ C n) C g e env=.ok v g' from h);omega
def Agree (G:Nat) (ev ev':Nat→Ex→Env→Ev Val):Prop:=∀g e env,g < G→ev g e env=ev' g e env
theorem tB {G:Nat} {ev ev':Nat→Ex→Env→Ev Val} (ha:Agree G ev ev') (hd:z8d ev) {env:Env}:∀{l:List Ex} {g:Nat},g < G→xC ev env l g=xC ev' env l g
 | [],_,_=>rfl
 | e::es,g,hg=>by
  simp only [xC]
  rw [← ha g e env hg]
  cases h:ev g e env with
  | ok v g1 =>
   have:=hd _ _ _ _ _ h
   simp only [Ev.bind]
   rw [tB ha hd (by omega)]
  | spent=>rfl
  | stuck=>rfl
theorem z5q {G:Nat} {ev ev':Nat→Ex→Env→Ev Val} (ha:Agree G ev ev') {ns:List Bs} {az:List Val} {env:Env} {b:Ex} {g:Nat} (hg:g < G):mJ ev ns az env b g=mJ ev' ns az env b g:=by
 unfold mJ
 split
 ·rfl
 ·exact ha _ _ _ hg
theorem z6j {G:Nat} {ev ev':Nat→Ex→Env→Ev Val} (ha:Agree G ev ev') (hd:z8d ev) (C:Ctx) {g:Nat} (e:Ex) (env:Env) (hg:g < G):xE ev C g e env=xE ev' C g e env:=by
 have hb:∀{α β:Type} (r:Ev α) (f f':α→Nat→Ev β),(∀x g1,r=.ok x g1→f x g1=f' x g1)→r.bind f=r.bind f':=by
  intro α β r f f' h
  cases r with
  | ok x g1=>exact h x g1 rfl
  | spent=>rfl
  | stuck=>rfl
 unfold xE
 rw [tB ha hd hg]
 have hle:∀{l g1},xC ev' env e.args g=.ok l g1→g1 < G:=fun h=>by
  rw [← tB ha hd hg] at h
  have:=gN hd h;omega
 congr 4
 congr 1
 ·split
  ·rfl
  ·refine hb _ _ _ fun l g1 h =>?_
   exact z5q ha (hle h)
 congr 1
 ·split
  ·rename_i a b _ _
   rw [← ha g a env hg]
   refine hb _ _ _ fun x g1 h =>?_
   have:=hd _ _ _ _ _ h
   exact ha _ _ _ (by omega)
  ·rfl
 congr 1
 ·split
  ·rename_i a _ _
   rw [← ha g a env hg]
   refine hb _ _ _ fun x g1 h =>?_
   have:=hd _ _ _ _ _ h
   split
   ·rfl
   ·exact z5q ha (by omega)
  ·rfl
theorem z9f (C:Ctx):∀(n m g:Nat) (e:Ex) (env:Env),g < n→g < m→pQ C n g e env=pQ C m g e env
 | 0,_,_,_,_,h,_=>by omega
 | _+1,0,_,_,_,_,h=>by omega
 | n+1,m+1,0,e,env,_,_=>rfl
 | n+1,m+1,g+1,e,env,h,h'=>by
  simp only [pQ]
  exact z6j (G:=g+1) (fun g1 e1 env1 h1=>z9f C n m g1 e1 env1 (by omega) (by omega)) (dL C n) C e env (by omega)
theorem q0p (C:Ctx) {n g:Nat} (h:g < n) (e:Ex) (env:Env):pQ C n g e env=jJ C g e env:=z9f C n (g+1) g e env h (by omega)
theorem z0j (C:Ctx) (e:Ex) (env:Env):jJ C 0 e env=.spent:=rfl
theorem yR (C:Ctx) (g:Nat) (e:Ex) (env:Env):jJ C (g+1) e env=xE (jJ C) C g e env :=
 z6j (G:=g+1) (ev:=pQ C (g+1)) (ev':=jJ C) (fun g1 e1 env1 h1=>q0p C h1 e1 env1) (dL C (g+1)) C e env (by omega)
theorem jB (C:Ctx):z8d (jJ C):=fun g e env v g' h=>dL C (g+1) g e env v g' h
def vB (C:Ctx):List Bs→Nat→Ev (List Val)
 | [],g=>.ok [] g
 | o::os,g=>match zH C.funs o with
  | none=>.stuck
  | some f=>(pI (jJ C) f [] g).bind fun v g=>(vB C os g).bind fun l g=>.ok (v::l) g
end Go.Sw

namespace Go.Sw
def y2e (c:Nat):Bool:=decide (c=32) || decide (c=10) || decide (c=40) || decide (c=41)
def qF (t:Bs) (i:Nat):Nat:=yP (fun c => !y2e c) t t.size i
def vX (t:Bs):Nat→Nat→List Bs
 | 0,_=>[]
 | f+1,i=>if i < t.size then
   if zJ t i=32∨zJ t i=10 then vX t f (i+1)
   else if zJ t i=40∨zJ t i=41 then t.extract i (i+1)::vX t f (i+1)
   else t.extract i (i+qF t i)::vX t f (i+qF t i)
  else []
def gJ (t:Bs):List Bs:=vX t t.size 0
def zC (ws:List Bs) (i:Nat):Bs:=ws.getD i sNo
abbrev Rd (α:Type):=Except Nat (α×Nat)
def yL {α β:Type} (r:Rd α) (f:α→Nat→Rd β):Rd β:=match r with
 | .ok (x,i)=>f x i
 | .error n=>.error n
def pT (ws:List Bs) (p:Bs→Bool) (i:Nat):Rd Bs:=if zC ws i=sNo∨p (zC ws i)=false then .error (i+1) else .ok (zC ws i,i+1)
def kP (ws:List Bs) (w:Bs) (i:Nat):Rd Unit:=yL (pT ws (fun s=>decide (s=w)) i) fun _ i=>.ok ((),i)
def oV (ws:List Bs) (i:Nat):Rd Bs:=pT ws qG i
def nD (ws:List Bs) (i:Nat):Rd Bs:=pT ws yY i
def aX:Bs:=⟨#[40]⟩
def sCls:Bs:=⟨#[41]⟩
def y1z:Bs:=⟨#[45,62]⟩
def sEq:Bs:=⟨#[61]⟩
def sBar:Bs:=⟨#[124]⟩
def q6q:Bs:=⟨#[58]⟩
def sLet:Bs:=⟨#[108,101,116]⟩
def sCase:Bs:=⟨#[99,97,115,101]⟩
def kG (ws:List Bs) (ex:Nat→Rd Ex):Nat→Nat→Nat→Rd (List Ex)
 | 0,_,i=>.error (i+1)
 | f+1,least,i=>if 0 < least∨zC ws i≠sCls then yL (ex i) fun e i=>yL (kG ws ex f (least - 1) i) fun l i=>.ok (e::l,i)
  else .ok ([],i)
def z3k (ex:Nat→Rd Ex) (i:Nat):Rd (List Ex):=yL (ex i) fun a i=>yL (ex i) fun b i=>.ok ([a,b],i)
def aN (ws:List Bs):Nat→Nat→Rd (List Bs)
 | 0,i=>.error (i+1)
 | f+1,i=>if zC ws i≠y1z then yL (nD ws i) fun s i=>yL (aN ws f i) fun l i=>.ok (s::l,i) else .ok ([],i)
def armP (ws:List Bs) (ex:Nat→Rd Ex) (i:Nat):Rd Arm :=
 yL (kP ws aX i) fun _ i=>yL (oV ws i) fun c i=>yL (aN ws (ws.length+1) i) fun vs i =>
  yL (kP ws y1z i) fun _ i=>yL (ex i) fun b i=>yL (kP ws sCls i) fun _ i=>.ok (.mk c vs b,i)
def cK (ws:List Bs) (ex:Nat→Rd Ex):Nat→Bool→Nat→Rd (List Arm)
 | 0,_,i=>.error (i+1)
 | f+1,first,i=>if first=true∨zC ws i=aX then yL (armP ws ex i) fun a i=>yL (cK ws ex f false i) fun l i=>.ok (a::l,i)
  else .ok ([],i)
def sR (s:Bs):Bool:=decide (s=⟨#[43]⟩) || decide (s=⟨#[45]⟩) || decide (s=⟨#[42]⟩) || decide (s=⟨#[47]⟩) || decide (s=⟨#[37]⟩) || decide (s=⟨#[60]⟩) || decide (s=⟨#[61]⟩)
def yT (ws:List Bs) (ex:Nat→Rd Ex) (i:Nat):Rd Ex :=
 if sR (zC ws i)=true then yL (z3k ex (i+1)) fun l j=>.ok (.mk 8 0 (zC ws i) l [],j)
 else if zC ws i=sLet then yL (nD ws (i+1)) fun x j=>yL (z3k ex j) fun l j=>.ok (.mk 6 0 x l [],j)
 else if zC ws i=sCase then yL (ex (i+1)) fun a j=>yL (cK ws ex (ws.length+1) true j) fun l j=>.ok (.mk 7 0 sNo [a] l,j)
 else if qG (zC ws i)=true then yL (kG ws ex (ws.length+1) 1 (i+1)) fun l j=>.ok (.mk 4 0 (zC ws i) l [],j)
 else yL (nD ws i) fun x j=>yL (kG ws ex (ws.length+1) 0 j) fun l j=>.ok (.mk 5 0 x l [],j)
def zO (ws:List Bs):Nat→Nat→Rd Ex
 | 0,i=>.error (i+1)
 | d+1,i=>if zC ws i=sNo then .error (i+1) else
  match gG (zC ws i) with
  | some n=>.ok (.mk 1 n sNo [] [],i+1)
  | none =>
   if zC ws i=aX then yL (yT ws (zO ws d) (i+1)) fun e j=>yL (kP ws sCls j) fun _ j=>.ok (e,j)
   else if qG (zC ws i)=true then .ok (.mk 4 0 (zC ws i) [] [],i+1)
   else if zJ (zC ws i) 0=33∧yY ((zC ws i).extract 1 (zC ws i).size)=true then .ok (.mk 3 0 ((zC ws i).extract 1 (zC ws i).size) [] [],i+1)
   else yL (nD ws i) fun x j=>.ok (.mk 2 0 x [] [],j)
def vR (ws:List Bs):Nat→Nat→Rd (List Bs)
 | 0,i=>.error (i+1)
 | f+1,i=>if qG (zC ws i)=true then yL (oV ws i) fun s i=>yL (vR ws f i) fun l i=>.ok (s::l,i) else .ok ([],i)
def cL (ws:List Bs):Nat→Nat→Rd (List Con)
 | 0,i=>.error (i+1)
 | f+1,i=>yL (oV ws i) fun n i=>yL (vR ws (ws.length+1) i) fun l i =>
   if zC ws i≠sBar then .ok ([⟨n,l⟩],i) else yL (cL ws f (i+1)) fun cs i=>.ok (⟨n,l⟩::cs,i)
def aB (ws:List Bs) (i:Nat):Rd Data:=yL (oV ws i) fun n i=>yL (kP ws sEq i) fun _ i=>yL (cL ws (ws.length+1) i) fun l i=>.ok (⟨n,l⟩,i)
def kX (ws:List Bs) (i:Nat):Rd Param:=yL (nD ws i) fun n i=>yL (kP ws q6q i) fun _ i=>yL (oV ws i) fun t i=>.ok (⟨n,t⟩,i)
def kB (ws:List Bs):Nat→Nat→Rd (List Param)
 | 0,i=>.error (i+1)
 | f+1,i=>if zC ws i=aX then yL (kX ws (i+1)) fun p i=>yL (kP ws sCls i) fun _ i=>yL (kB ws f i) fun l i=>.ok (p::l,i)
  else .ok ([],i)
def cR (ws:List Bs) (i:Nat):Rd Fun:=yL (nD ws i) fun n i=>yL (kB ws (ws.length+1) i) fun ps i=>yL (kP ws q6q i) fun _ i =>
 yL (oV ws i) fun r i=>yL (kP ws sEq i) fun _ i=>yL (zO ws 250 i) fun b i=>.ok (⟨n,ps,r,b⟩,i)
def z0d:Bs:=⟨#[100,97,116,97]⟩
def tI:Bs:=⟨#[105,110,112,117,116]⟩
def kFun:Bs:=⟨#[102,117,110]⟩
def z7x:Bs:=⟨#[111,117,116,112,117,116]⟩
def jA (ws:List Bs):Nat→Core→Nat→Except Nat Core
 | 0,_,i=>.error (i+1)
 | f+1,c,i=>if i < ws.length then
   if zC ws i=z0d then match aB ws (i+1) with
    | .ok (d,j)=>jA ws f { c with datas:=c.datas++[d] } j
    | .error n=>.error n
   else if zC ws i=tI then match kX ws (i+1) with
    | .ok (d,j)=>jA ws f { c with inputs:=c.inputs++[d] } j
    | .error n=>.error n
   else if zC ws i=kFun then match cR ws (i+1) with
    | .ok (d,j)=>jA ws f { c with funs:=c.funs++[d] } j
    | .error n=>.error n
   else if zC ws i=z7x then match nD ws (i+1) with
    | .ok (d,j)=>jA ws f { c with outputs:=c.outputs++[d] } j
    | .error n=>.error n
   else .error (i+1)
  else .ok c
def sS (t:Bs):Except Nat Core:=jA (gJ t) ((gJ t).length+1) ⟨[],[],[],[]⟩ 0
abbrev Tx:=List UInt8
def tx (s:Bs):Tx:=s.data.toList
end Go.Sw

namespace Go.Sw
def xP (dn:Bs):Bool→List (Bs×Maker)→List Con→Bool×List (Bs×Maker)
 | ok,m,[]=>(ok,m)
 | ok,m,x::xs=>if (ok&&qG x.name)=true then xP dn (zH m x.name).isNone (qX m x.name ⟨dn,x⟩) xs else xP dn false m xs
def aF (ok:Bool) (ds:List (Bs×Data)) (d:Data):Bool:=ok&&qG d.name && !decide (d.name=qC)&&(zH ds d.name).isNone&&decide (0 < d.cons.length)
def pO (ok:Bool) (ds:List (Bs×Data)) (d:Data):List (Bs×Data):=if (ok&&qG d.name && !decide (d.name=qC))=true then qX ds d.name d else ds
def z1g:Bool→List (Bs×Data)→List (Bs×Maker)→List Data→Bool×List (Bs×Data)×List (Bs×Maker)
 | ok,ds,m,[]=>(ok,ds,m)
 | ok,ds,m,d::l=>z1g (xP d.name (aF ok ds d) m d.cons).1 (pO ok ds d) (xP d.name (aF ok ds d) m d.cons).2 l
def tX:Bool→List (Bs×Fun)→List Fun→Bool×List (Bs×Fun)
 | ok,m,[]=>(ok,m)
 | ok,m,f::l=>if (ok&&yY f.name)=true then tX (zH m f.name).isNone (qX m f.name f) l else tX false m l
def tY:Bool→List (Bs×Bs)→List Param→Bool×List (Bs×Bs)
 | ok,m,[]=>(ok,m)
 | ok,m,p::l=>if (ok&&yY p.name)=true then tY (zH m p.name).isNone (qX m p.name p.type) l else tY false m l
def dsP (c:Core):Bool×List (Bs×Data)×List (Bs×Maker):=z1g true [] [] (truthsD::c.datas)
def fsP (c:Core):Bool×List (Bs×Fun):=tX (dsP c).1 [] c.funs
def isP (c:Core):Bool×List (Bs×Bs):=tY (fsP c).1 [] c.inputs
def zR (c:Core):Table:=⟨c,(dsP c).2.1,(dsP c).2.2,(fsP c).2,(isP c).2⟩
def nY (c:Core):Bool:=(isP c).1
def gI (ps:List Param):Scope:=ps.foldl (fun s p=>qM s p.name p.type) []
def pK (T:Table) (f:Fun):Bool :=
 f.params.all (fun p=>wM T p.type)&&wM T f.result&&gD yY [] (f.params.map Param.name++zS f.body)&&decide ((zG T f.body (gI f.params)).1=f.result)
def mF (T:Table):List Bs→List Bs→Bool
 | _,[]=>true
 | seen,o::os=>match zH T.funs o with
  | none=>false
  | some f=>decide (f.params.length=0) && !has seen o&&mF T (seen++[o]) os
def cP (T:Table) (d:Data):Bool:=d.cons.all fun x=>x.fields.all fun s=>wM T s
def jH (c:Core):Bool :=
 nY c&&decide (c.outputs≠[])&&c.datas.all (cP (zR c))&&c.inputs.all (fun p=>kU c.datas p.type)&&c.funs.all (pK (zR c))&&mF (zR c) [] c.outputs
def yC (c:Core):Int:=if c.funs.any (fun f=>pJ 250 f.body) then 6 else if xL c then 2 else if jH c then 0 else 80
end Go.Sw

namespace Go.Sw
section
variable (T:Table) (e:Ex) (s:Scope)
theorem sI (h:e.kind=1):zG T e s=(dS e,s):=by
 cases e with | mk k n nm args arms=>simp only [Ex.kind] at h;subst h;simp [zG]
theorem sJ (h:e.kind=2):zG T e s=(pH e s,s):=by
 cases e with | mk k n nm args arms=>simp only [Ex.kind] at h;subst h;simp [zG]
theorem sG (h:e.kind=3):zG T e s=(oN T e,s):=by
 cases e with | mk k n nm args arms=>simp only [Ex.kind] at h;subst h;simp [zG]
theorem dX (h:e.kind=5):zG T e s=aA T e s:=by
 cases e with
 | mk k n nm args arms =>
  simp only [Ex.kind] at h;subst h
  simp only [zG,aA,Ex.name,Ex.args,kD]
  simp only [show ¬(5:Int)=1 by decide,show ¬(5:Int)=2 by decide,show ¬(5:Int)=3 by decide,show ¬(5:Int)=4 by decide,if_false,if_true]
  cases zH T.funs nm with
  | none=>rfl
  | some m =>
   simp only
   by_cases hb:qN (.mk 5 n nm args arms) false true (-1) 0=true
   ·by_cases hl:args.length=m.params.length
    ·simp [hb,hl]
    ·simp [hb,hl]
   ·simp [hb]
theorem sH (h:e.kind=6):zG T e s=z0p T e s:=by
 cases e with
 | mk k n nm args arms=>simp only [Ex.kind] at h;subst h;simp [zG,z0p,Ex.name,Ex.args]
theorem dY (h:e.kind=7):zG T e s=jY T e s:=by
 cases e with
 | mk k n nm args arms=>simp only [Ex.kind] at h;subst h;simp [zG,jY,Ex.args,Ex.arms];rfl
theorem uV (h:e.kind=8):zG T e s=nC T e s:=by
 cases e with
 | mk k n nm args arms =>
  simp only [Ex.kind] at h;subst h
  simp only [zG,nC,Ex.name,Ex.args,kD]
  simp only [show ¬(8:Int)=1 by decide,show ¬(8:Int)=2 by decide,show ¬(8:Int)=3 by decide,show ¬(8:Int)=4 by decide,show ¬(8:Int)=5 by decide,show ¬(8:Int)=6 by decide,show ¬(8:Int)=7 by decide,if_false,if_true]
  by_cases hb:qN (.mk 8 n nm args arms) false true 2 0=true
  ·have hl:args.length=2:=vV (n:=2) hb
   simp [hb,hl]
  ·simp [hb]
theorem dZ (h1:e.kind≠1) (h2:e.kind≠2) (h3:e.kind≠3) (h4:e.kind≠4) (h5:e.kind≠5) (h6:e.kind≠6) (h7:e.kind≠7) (h8:e.kind≠8):zG T e s=(sNo,s):=by
 cases e with
 | mk k n nm args arms=>simp only [Ex.kind] at *;simp [zG, *]
end
theorem jE {α:Type} (s:List (Bs×α)) (k n:Bs) (x:α):zH (qM s k x) n=if n=k then some x else zH s n:=by
 induction s with
 | nil=>simp [qM,zH]
 | cons p s ih =>
  obtain ⟨q,y⟩:=p
  simp only [qM]
  split
  ·subst_vars;simp only [zH];split <;> rfl
  ·simp only [zH,ih]
   by_cases h1:n=q
   ·subst h1
    rename_i h2
    rw [if_pos rfl,if_pos rfl,if_neg (fun e=>h2 e.symm)]
   ·rw [if_neg h1,if_neg h1]
theorem oQ {α:Type}:∀{s:List (Bs×α)} {k:Bs} {x:α},zH s k=none→qM s k x=s++[(k,x)]
 | [],_,_,_=>rfl
 | (q,y)::s,k,x,h=>by
  simp only [zH] at h
  split at h
  ·cases h
  ·rename_i hne
   simp only [qM,if_neg hne,List.cons_append,oQ h]
theorem y0h {α:Type}:∀{s:List (Bs×α)} {k:Bs} {x:α} {r:List (Bs×α)},zH s k=none→z6s (s++(k,x)::r) k=s++r
 | [],_,_,_,_=>by simp [z6s]
 | (q,y)::s,k,x,r,h=>by
  simp only [zH] at h
  split at h
  ·cases h
  ·rename_i hne
   simp only [List.cons_append,z6s,if_neg hne,y0h h]
theorem z2l {α:Type}:∀{s:List (Bs×α)} {k:Bs} {r:List (Bs×α)},zH s k=none→zH (s++r) k=zH r k
 | [],_,_,_=>rfl
 | (q,y)::s,k,r,h=>by
  simp only [zH] at h
  split at h
  ·cases h
  ·rename_i hne
   simp only [List.cons_append,zH,if_neg hne,z2l h]
def Fresh (s:Scope) (l:List Bs):Prop:=∀n∈l,zH s n=none
theorem Fresh.sub {s:Scope} {l m:List Bs} (h:Fresh s l) (hs:∀n∈m,n∈l):Fresh s m:=fun n hn=>h n (hs n hn)
theorem z2v:∀{vs fs:List Bs} {s:Scope},vs.length=fs.length→vs.Nodup→Fresh s vs→putAll s vs fs=s++vs.zip fs
 | [],[],s,_,_,_=>by simp [putAll]
 | v::vs,f::fs,s,hl,hn,hf=>by
  have h1:=hf v List.mem_cons_self
  rw [dV,oQ h1,z2v (by simpa using hl) (List.nodup_cons.1 hn).2]
  ·simp
  ·intro n hn'
   rw [z2l (hf n (List.mem_cons_of_mem _ hn'))]
   have:n≠v:=fun e=>(List.nodup_cons.1 hn).1 (e▸hn')
   simp [zH,this]
 | [],_::_,_,hl,_,_=>by simp at hl
 | _::_,[],_,hl,_,_=>by simp at hl
theorem z8x:∀{vs fs:List Bs} {s:Scope},vs.length=fs.length→vs.Nodup→Fresh s vs→cN (s++vs.zip fs) vs=s
 | [],[],s,_,_,_=>by simp [cN]
 | v::vs,f::fs,s,hl,hn,hf=>by
  simp only [List.zip_cons_cons,cN]
  rw [y0h (hf v List.mem_cons_self)]
  exact z8x (by simpa using hl) (List.nodup_cons.1 hn).2 (hf.sub fun n h=>List.mem_cons_of_mem _ h)
 | [],_::_,_,hl,_,_=>by simp at hl
 | _::_,[],_,hl,_,_=>by simp at hl
theorem mG:∀{vs fs:List Bs} {s:Scope} {n:Bs},n∉vs→zH (putAll s vs fs) n=zH s n
 | [],_,_,_,_=>by rw [xV]
 | v::vs,[],_,_,_=>rfl
 | v::vs,f::fs,s,n,h=>by
  rw [dV,mG (fun e=>h (List.mem_cons_of_mem _ e)),jE,if_neg (fun e=>h (by rw [e];exact List.mem_cons_self))]
def All2 {α β:Type} (R:α→β→Prop):List α→List β→Prop
 | [],[]=>True
 | x::xs,y::ys=>R x y∧All2 R xs ys
 | _,_=>False
theorem All2.length {α β:Type} {R:α→β→Prop}:∀{xs:List α} {ys:List β},All2 R xs ys→xs.length=ys.length
 | [],[],_=>rfl
 | _::_,_::_,h=>by simp [All2.length h.2]
 | [],_::_,h=>h.elim
 | _::_,[],h=>h.elim
theorem All2.get {α β:Type} {R:α→β→Prop}:∀{xs:List α} {ys:List β} {i:Nat} {x:α} {y:β},All2 R xs ys→xs[i]? = some x→ys[i]? = some y→R x y
 | [],_,_,_,_,_,h,_=>by simp at h
 | _::_,[],_,_,_,h,_,_=>h.elim
 | _::_,_::_,0,_,_,h,h1,h2=>by
  simp only [List.getElem?_cons_zero,Option.some.injEq] at h1 h2
  subst h1;subst h2;exact h.1
 | _::_,_::_,i+1,_,_,h,h1,h2=>by
  simp only [List.getElem?_cons_succ] at h1 h2
  exact All2.get h.2 h1 h2
theorem All2.mono {α β:Type} {R R':α→β→Prop}:∀{xs:List α} {ys:List β},All2 R xs ys→(∀x∈xs,∀y,R x y→R' x y)→All2 R' xs ys
 | [],[],_,_=>trivial
 | x::_,_::_,h,hR=>⟨hR x List.mem_cons_self _ h.1,h.2.mono fun x hx y=>hR x (List.mem_cons_of_mem _ hx) y⟩
 | [],_::_,h,_=>h.elim
 | _::_,[],h,_=>h.elim
def Ty (T:Table) (e:Ex) (s:Scope) (t:Bs):Prop:=(zG T e s).1=t∧t≠sNo
def z0b (T:Table) (e:Ex):Prop:=∀s,(zS e).Nodup→Fresh s (zS e)→(zG T e s).1≠sNo→(zG T e s).2=s
theorem yV {l m:List Bs} (h:(l++m).Nodup):l.Nodup∧m.Nodup∧∀n∈l,n∉m:=by
 rw [List.nodup_append] at h
 exact ⟨h.1,h.2.1,fun n hl hm=>h.2.2 n hl n hm rfl⟩
theorem y9k {T:Table}:∀{xs:List Ex} {s:Scope} {ts:List Bs},(∀x∈xs,z0b T x)→xs.length=ts.length→(bindPs xs).Nodup→Fresh s (bindPs xs)→(allQ T xs s ts).1=true →
  (allQ T xs s ts).2=s∧All2 (fun x t=>Ty T x s t) xs ts
 | [],s,[],_,_,_,_,_=>⟨rfl,trivial⟩
 | x::xs,s,t::ts,hk,hl,hn,hf,h=>by
  rw [y3r] at h ⊢
  split at h
  ·cases h
  ·rename_i hc
   rw [if_neg hc]
   have hn':=yV (show (zS x++bindPs xs).Nodup from hn)
   have h1:(zG T x s).1≠sNo:=fun e=>hc (.inl e)
   have h2:(zG T x s).1=t:=Classical.byContradiction fun e=>hc (.inr e)
   have h3:=hk x List.mem_cons_self s hn'.1 (hf.sub fun n h=>List.mem_append.2 (.inl h)) h1
   rw [h3] at h ⊢
   have h4:=y9k (fun y hy=>hk y (List.mem_cons_of_mem _ hy)) (by simpa using hl) hn'.2.1 (hf.sub fun n h=>List.mem_append.2 (.inr h)) h
   exact ⟨h4.1,⟨h2,h2▸h1⟩,h4.2⟩
 | [],_,_::_,_,hl,_,_,_=>by simp at hl
 | _::_,_,[],_,hl,_,_,_=>by simp at hl
theorem cJ {T:Table} {xs:List Ex} {s:Scope} {ts:List Bs} (hk:∀x∈xs,z0b T x) (hn:(bindPs xs).Nodup) (hf:Fresh s (bindPs xs)) (h:(kD T xs s ts).1=true) :
  (kD T xs s ts).2=s∧All2 (fun x t=>Ty T x s t) xs ts:=by
 unfold kD at h ⊢
 split at h
 ·rename_i hl;rw [if_pos hl];exact y9k hk hl hn hf h
 ·cases h
def q8b (T:Table) (s:Scope) (t:Bs) (a:Arm) (c:Con):Prop:=a.con=c.name∧a.vars.length=c.fields.length∧Ty T a.body (putAll s a.vars c.fields) t
theorem j0c {T:Table} {a:Arm} {c:Con} {s:Scope} (hk:z0b T a.body) (hl:a.vars.length=c.fields.length) (hn:(a.vars++zS a.body).Nodup) (hf:Fresh s (a.vars++zS a.body))
  (h:(nO T a c s).1≠sNo):(nO T a c s).2=s:=by
 have hn':=yV hn
 have hv:Fresh s a.vars:=hf.sub fun n h=>List.mem_append.2 (.inl h)
 have h1:=hk (putAll s a.vars c.fields) hn'.2.1 (fun n hb=>by
  rw [mG (fun hm=>hn'.2.2 n hm hb)];exact hf n (List.mem_append.2 (.inr hb))) h
 simp only [nO,h1]
 rw [z2v hl hn'.1 hv]
 exact z8x hl hn'.1 hv
theorem sC {T:Table} {t:Bs} (ht:t≠sNo):∀{az:List Arm} {cs:List Con} {first:Bool} {out:Bs} {s:Scope},(∀a∈az,z0b T a.body)→cs.length=az.length→(bindPa az).Nodup→Fresh s (bindPa az) →
  (splitP T az cs first out s).1=t→(splitP T az cs first out s).2=s∧All2 (fun a c=>q8b T s t a c) az cs∧(first=false∨az=[]→out=t)
 | [],[],first,out,s,_,_,_,_,h=>⟨rfl,trivial,fun _=>h⟩
 | a::az,c::cs,first,out,s,hk,hl,hn,hf,h=>by
  rw [jN] at hn hf
  have hn':=yV hn
  rw [jR] at h ⊢
  split at h
  ·exact absurd h.symm ht
  ·rename_i hc
   rw [if_neg hc]
   split at h
   ·exact absurd h.symm ht
   ·rename_i hd
    rw [if_neg hd]
    have hc1:a.con=c.name:=Classical.byContradiction fun e=>hc (.inl e)
    have hc2:a.vars.length=c.fields.length:=Classical.byContradiction fun e=>hc (.inr e)
    have h1:(nO T a c s).1≠sNo:=fun e=>hd (.inl e)
    have h3:=j0c (hk a List.mem_cons_self) hc2 hn'.1 (hf.sub fun n h=>List.mem_append.2 (.inl h)) h1
    rw [h3] at h ⊢
    have h4:=sC ht (fun b hb=>hk b (List.mem_cons_of_mem _ hb)) (by simpa using hl) hn'.2.1 (hf.sub fun n h=>List.mem_append.2 (.inr h)) h
    have h5:(nO T a c s).1=t:=h4.2.2 (.inl rfl)
    refine ⟨h4.1,⟨⟨hc1,hc2,h5,ht⟩,h4.2.1⟩,fun hx =>?_⟩
    rcases hx with hx | hx
    ·rw [← h5]
     exact (Classical.byContradiction fun e=>hd (.inr ⟨hx,e⟩):(nO T a c s).1=out).symm
    ·cases hx
 | [],_::_,_,_,_,_,hl,_,_,_=>by simp at hl
 | _::_,[],_,_,_,_,hl,_,_,_=>by simp at hl
theorem tJ (T:Table) (hT0:zH T.datas sNo=none):∀(n:Nat) (e:Ex),e.sz < n→z0b T e
 | 0,_,h=>by omega
 | n+1,e,hsz=>by
  intro s hn hf h
  have hka:∀x∈e.args,z0b T x:=fun x hx=>tJ T hT0 n x (by have:=Ex.lt_args hx;omega)
  have hkb:∀a∈e.arms,z0b T a.body:=fun a ha=>tJ T hT0 n a.body (by have:=Ex.lt_arms ha;omega)
  rw [mT] at hn hf
  have hn1:=yV hn
  have hn2:=yV hn1.1
  have hfa:Fresh s (bindPs e.args):=hf.sub fun m hm=>List.mem_append.2 (.inl (List.mem_append.2 (.inr hm)))
  have hfb:Fresh s (bindPa e.arms):=hf.sub fun m hm=>List.mem_append.2 (.inr hm)
  by_cases h1:e.kind=1
  ·rw [sI T e s h1]
  by_cases h2:e.kind=2
  ·rw [sJ T e s h2]
  by_cases h3:e.kind=3
  ·rw [sG T e s h3]
  by_cases h4:e.kind=4
  ·rw [sF T e s h4] at h ⊢
   unfold sY at h ⊢
   split at h
   ·rename_i hm;simp only [hm] at h ⊢
   ·rename_i m hm
    try simp only [hm]
    split at h
    ·rename_i hb
     rw [if_pos hb]
     by_cases ha:(kD T e.args s m.con.fields).1=true
     ·exact (cJ hka hn2.2.1 hfa ha).1
     ·simp [ha] at h
    ·exact absurd rfl h
  by_cases h5:e.kind=5
  ·rw [dX T e s h5] at h ⊢
   unfold aA at h ⊢
   split at h
   ·rename_i hm;simp only [hm] at h ⊢
   ·rename_i m hm
    try simp only [hm]
    split at h
    ·rename_i hb
     rw [if_pos hb]
     by_cases ha:(kD T e.args s (m.params.map Param.type)).1=true
     ·exact (cJ hka hn2.2.1 hfa ha).1
     ·simp [ha] at h
    ·exact absurd rfl h
  by_cases h6:e.kind=6
  ·rw [sH T e s h6] at h ⊢
   unfold z0p at h ⊢
   split at h
   ·rename_i hb
    rw [if_pos hb]
    have hl:=vV (n:=2) hb
    obtain ⟨x,hx⟩:=zX (l:=e.args) (i:=0) (by omega)
    obtain ⟨y,hy⟩:=zX (l:=e.args) (i:=1) (by omega)
    have hxy:e.args=[x,y]:=by
     cases ha:e.args with
     | nil=>rw [ha] at hl;simp at hl
     | cons a l =>
      cases l with
      | nil=>rw [ha] at hl;simp at hl
      | cons b l =>
       rw [ha] at hl hx hy
       simp only [List.length_cons] at hl
       have:l=[]:=List.eq_nil_of_length_eq_zero (by omega)
       subst this
       simp only [List.getElem?_cons_zero,List.getElem?_cons_succ,Option.some.injEq] at hx hy
       rw [hx,hy]
    by_cases h0:(zG T x s).1=sNo
    ·rw [z7z hx h0] at h;exact absurd rfl h
    ·rw [z2i hx hy h0] at h ⊢
     simp only [if_pos h6,hxy,bindPs,List.append_nil] at hn hf
     have hm1:=yV hn
     have hm2:=yV hm1.1
     have hm3:=yV hm2.2.1
     have e1:=hka x (by rw [hxy];exact List.mem_cons_self) s hm3.1 (hf.sub fun m hm=>by simp [hm]) h0
     rw [e1] at h ⊢
     have hfe:zH s e.name=none:=hf e.name (by simp)
     have hkey:Fresh (qM s e.name (zG T x s).1) (zS y):=fun m hm=>by
      rw [jE,if_neg]
      ·exact hf m (by simp [hm])
      ·rintro rfl
       exact hm2.2.2 e.name (by simp) (by simp [hm])
     have e2:=hka y (by rw [hxy];simp) _ hm3.2.1 hkey h
     simp only [e2]
     rw [oQ hfe,y0h hfe,List.append_nil]
   ·exact absurd rfl h
  by_cases h7:e.kind=7
  ·rw [dY T e s h7] at h ⊢
   unfold jY at h ⊢
   split at h
   ·rename_i hb
    rw [if_pos hb]
    have hl:=vV (n:=1) hb
    obtain ⟨x,hx⟩:=zX (l:=e.args) (i:=0) (by omega)
    have hxy:e.args=[x]:=by
     cases ha:e.args with
     | nil=>rw [ha] at hl;simp at hl
     | cons a l =>
      rw [ha] at hl hx
      simp only [List.length_cons] at hl
      have:l=[]:=List.eq_nil_of_length_eq_zero (by omega)
      subst this
      simp only [List.getElem?_cons_zero,Option.some.injEq] at hx
      rw [hx]
    rw [jO hx] at h ⊢
    split at h
    ·exact absurd rfl h
    ·rename_i d hd
     try simp only [hd]
     split at h
     ·rename_i hle
      rw [if_pos hle]
      by_cases h0:(zG T x s).1=sNo
      ·rw [h0,hT0] at hd;cases hd
      ·rw [hxy] at hn2 hfa
       simp only [bindPs,List.append_nil] at hn2 hfa
       have e1:=hka x (by rw [hxy];exact List.mem_cons_self) s hn2.2.1 hfa h0
       rw [e1] at h ⊢
       exact (sC h hkb hle hn1.2.1 hfb rfl).1
     ·exact absurd rfl h
   ·exact absurd rfl h
  by_cases h8:e.kind=8
  ·rw [uV T e s h8] at h ⊢
   unfold nC at h ⊢
   split at h
   ·rename_i hb
    rw [if_pos hb]
    by_cases ha:(kD T e.args s [qC,qC]).1=true
    ·exact (cJ hka hn2.2.1 hfa ha).1
    ·simp [ha] at h
   ·exact absurd rfl h
  rw [dZ T e s h1 h2 h3 h4 h5 h6 h7 h8]
end Go.Sw
