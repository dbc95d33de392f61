import Derived.Test.YtghdfphedgcpdaaGreatDoorProg
import Derived.RangeFuncRecord
import Derived.RangeFuncSeq
import Derived.RangeFuncLeaves
import Derived.RangeFuncCalls
import Derived.OwnWalkIn
import Derived.Recover
import Derived.ChangeArms
import Derived.OpenShut
import Derived.Deep.Slices
import Derived.Test.YtghdfphedgcpdaaGreatDoorCards
import Derived.Test.YtghdfphedgcpdaaGreatDoorTie
import Derived.PinnedBridge
import Derived.Lay
import Derived.LaidOnce
import Derived.SevenTiedAt
import Derived.HandedShaped
import Derived.Carry
import Derived.ProofKit
import Derived.Shelf.Vars
import Derived.Stop.LaidErr
import Derived.Lib.LaidTab
import Derived.JoinedOf
import Derived.Test.YtghdfphedgcpdaaGreatDoorX00
import Derived.Test.YtghdfphedgcpdaaGreatDoorX01
set_option linter.unusedVariables false
set_option linter.unusedSimpArgs false
namespace Go.Sw
variable {P:Program} {n:Nat} {E:List (Nat×Value)} {D:List Deferred} {a:Act} {Φ Ψ:Fz} {K:List Res} {w:World}
variable {dst:Option Tmp} {ty:TypeId} {pos:String} {aft:Array Edge} {g:Option (Nat×Bool)}
variable {Kn:Value→World→Prop} {Qp:List PanicEntry→World→Prop}
def nW:List (Int×Value)→Int→Option Value
 | [],_=>none
 | (k,v)::m,s=>if s=k then some v else nW m s
def iput:List (Int×Value)→Int→Value→List (Int×Value)
 | [],s,x=>[(s,x)]
 | (k,v)::m,s,x=>if s=k then (k,x)::m else (k,v)::iput m s x
def oW:List (Int×Value)→Int→Nat→Option (Nat×Value)
 | [],_,_=>none
 | (k,v)::m,s,i=>if s=k then some (i,v) else oW m s (i+1)
theorem z0z:∀(es:List MapEntry) (m:List (Int×Value)) (s:Int) (i:Nat),es.map (fun e=>(e.key,e.val))=m.map (fun p=>(Value.int .i64 p.1,p.2)) →
  Instr.findNow (.int .i64) (.int .i64 s) es i=some (oW m s i)
 | [],[],_,_,_=>rfl
 | [],_::_,_,_,h=>by simp at h
 | _::_,[],_,_,h=>by simp at h
 | e::es,(k,v)::m,s,i,h=>by
  simp only [List.map_cons,List.cons.injEq,Prod.mk.injEq] at h
  obtain ⟨⟨h1,h2⟩,h3⟩:=h
  simp only [Instr.findNow,h1,Instr.sameNow,if_true,oW]
  by_cases hs:s=k
  ·subst hs;simp [h2]
  ·have hb:(s==k)=false:=by simpa using hs
   simp only [hb,if_neg hs]
   exact z0z es m s (i+1) h3
theorem y9s:∀(m:List (Int×Value)) (s:Int) (i:Nat),(oW m s i).map (·.2)=nW m s
 | [],_,_=>rfl
 | (k,v)::m,s,i=>by
  simp only [oW,nW]
  split
  ·rfl
  ·exact y9s m s (i+1)
theorem tX {kt:TypeId} (hk:Under P kt (.int .i64)) (e:Bool) (v:Value) (j:Nat):(Instr.checkKey e (j+1) kt v).run P w=.ok () w:=by
 simp [Instr.checkKey,Sem.run_bind,hk w]
theorem z2r {kt:TypeId} (hk:Under P kt (.int .i64)) {es:Array MapEntry} {m:List (Int×Value)} (h:es.toList.map (fun e=>(e.key,e.val))=m.map (fun p=>(Value.int .i64 p.1,p.2))) (s:Int) :
  (Instr.findKey kt (.int .i64 s) es.toList).run P w=.ok (oW m s 0) w:=by
 simp [Instr.findKey,Sem.run_bind,hk w,z0z _ _ _ _ h]
theorem q7h {t kt et:TypeId} {b:Nat} {es:Array MapEntry} {clock:Nat} {m:List (Int×Value)} {z:Value} (ht:Under P t (.map kt et)) (hk:Under P kt (.int .i64)) (hz:ZeroT P et z)
  (hb:w.heap[b]? = some (.map es clock)) (h:MapOkI es clock m) (s:Int) (ok:Bool) :
  (Instr.lookup t (.map (some b)) (.int .i64 s) ok).run P w=.ok (zG ok z (nW m s)) w:=by
 have h1:(getObj b).run P w=.ok (.map es clock) w:=by simp [getObj,Sem.run,hb]
 simp only [Instr.lookup,Sem.run_bind,ht w,Result.andThen_ok,h1,Sem.run_pure,tX hk,z2r hk h.eq]
 have:=y9s m s 0
 cases hm:oW m s 0 with
 | none=>rw [hm] at this;simp only [Option.map_none] at this;rw [← this];simp [hz w,zG]
 | some p=>rw [hm] at this;simp only [Option.map_some] at this;rw [← this];simp [zG]
theorem xA (i:Nat) {t kt et:TypeId} {x y:Operand} {b:Nat} {m:List (Int×Value)} {z:Value} {s:Int} {ok:Bool} (ht:Under P t (.map kt et)) (hk:Under P kt (.int .i64)) (hz:ZeroT P et z)
  (he:EnvR n E D a) (hm:Sees Φ K w) (hx:ev E x=some (.map (some b))) (hy:ev E y=some (.int .i64 s)) (hK:qI K i=some (.imp b m)):Ok P a (.lookup t x y ok) ty w (zG ok z (nW m s)):=fun _ _ _ _=>by
 obtain ⟨es,clock,h1,h2⟩:=hm.own _ (qJ hK)
 simp only [execOp,he.ev hx,he.ev hy]
 simp [Sem.run_bind,q7h ht hk hz h1 h2]
theorem q2d {t:TypeId} (hm:Mem Φ K w) (k:∀b w',Mem Φ (.imp b []::K) w'→Kn (.map (some b)) w'):Oper.eff P ⟨dst,.makeMap t none,ty,pos,aft,g⟩ a w Kn Qp:=by
 unfold Oper.eff
 have:(execOp a.eval ⟨dst,.makeMap t none,ty,pos,aft,g⟩).run P w=.ok (.value (.map (some w.heap.size))) { w with heap:=w.heap.push (.map #[] 0) }:=by
  simp [execOp,Instr.makeMap]
 rw [this]
 refine k _ _ (hm.more rfl rfl (fun b hb=>wX hb) ⟨#[],0,by simp,by simp,by simp,by simp⟩ (by simp [Res.foot]))
theorem j2m:∀(m:List (Int×Value)) (s:Int) (v:Value) (j:Nat),iput m s v=match oW m s j with | none=>m++[(s,v)] | some (i,_)=>m.set (i - j) (s,v)
 | [],_,_,_=>rfl
 | (k,x)::m,s,v,j=>by
  simp only [iput,oW]
  split
  ·subst_vars;simp
  ·have:=j2m m s v (j+1)
   rw [this]
   have hge:∀(m:List (Int×Value)) (j i:Nat) (y:Value),oW m s j=some (i,y)→j≤i:=by
    intro m
    induction m with
    | nil=>intro j i y h;simp [oW] at h
    | cons p m ih =>
     intro j i y h
     obtain ⟨k,x⟩:=p
     simp only [oW] at h
     split at h
     ·simp only [Option.some.injEq,Prod.mk.injEq] at h;omega
     ·have:=ih (j+1) i y h;omega
   cases hm:oW m s (j+1) with
   | none=>simp
   | some p =>
    obtain ⟨i,y⟩:=p
    have h1:=hge m (j+1) i y hm
    have e:i - j=(i - (j+1))+1:=by omega
    simp only [e,List.set_cons_succ]
theorem q5p:∀(m:List (Int×Value)) (s:Int) (j i:Nat) (y:Value),oW m s j=some (i,y)→m[i - j]? = some (s,y)∧j≤i
 | [],_,_,_,_,h=>by simp [oW] at h
 | (k,x)::m,s,j,i,y,h=>by
  simp only [oW] at h
  split at h
  ·simp only [Option.some.injEq,Prod.mk.injEq] at h
   obtain ⟨rfl,rfl⟩:=h;subst_vars;simp
  ·obtain ⟨h1,h2⟩:=q5p m s (j+1) i y h
   have e:i - j=(i - (j+1))+1:=by omega
   exact ⟨by rw [e];simpa using h1,by omega⟩
theorem z9t (i:Nat) {t kt et:TypeId} {x y z:Operand} {b:Nat} {m:List (Int×Value)} {s:Int} {v:Value} (ht:Under P t (.map kt et)) (hk:Under P kt (.int .i64))
  (he:EnvR n E D a) (hm:Mem Φ K w) (hx:ev E x=some (.map (some b))) (hy:ev E y=some (.int .i64 s)) (hz:ev E z=some v) (hK:qI K i=some (.imp b m))
  (k:∀w',Mem Φ (kR K i (.imp b (iput m s v))) w'→Kn undef w'):Oper.eff P ⟨dst,.mapUpdate t x y z,ty,pos,aft,g⟩ a w Kn Qp:=by
 obtain ⟨es,clock,hb,hok⟩:=hm.own _ (qJ hK)
 have h1:(getObj b).run P w=.ok (.map es clock) w:=by simp [getObj,Sem.run,hb]
 have hlt:b < w.heap.size:=(Array.getElem?_eq_some_iff.1 hb).1
 have hset:∀o,(setObj b o).run P w=.ok () { w with heap:=w.heap.setIfInBounds b o }:=fun o=>by simp only [setObj,Sem.run,hb]
 have fin:∀es' clock',MapOkI es' clock' (iput m s v)→Mem Φ (kR K i (.imp b (iput m s v))) { w with heap:=w.heap.setIfInBounds b (.map es' clock') }:=fun es' clock' h =>
  hm.upd hK rfl rfl (fun c hc hne=>by simp only;rw [Array.getElem?_setIfInBounds_ne (fun e=>hne (by simp [Res.foot,e]))]) ⟨es',clock',by simp [hlt],h⟩ (.inl rfl)
 unfold Oper.eff
 simp only [execOp,he.ev hx,he.ev hy,he.ev hz,Instr.mapUpdate,Sem.run_bind,ht w,Result.andThen_ok,h1,tX hk,z2r hk hok.eq]
 have hput:=j2m m s v 0
 cases hmx:oW m s 0 with
 | none =>
  rw [hmx] at hput
  simp only at hput
  simp only [hset,Result.andThen_ok,Sem.run_pure,vO]
  refine k _ (fin _ _ ⟨?_,?_,?_⟩)
  ·rw [hput];simp [hok.eq]
  ·intro e he
   simp only [Array.toList_push,List.mem_append,List.mem_singleton] at he
   rcases he with he | rfl
   ·have:=hok.old e he;omega
   ·simp
  ·simp only [Array.toList_push,List.map_append,List.map_cons,List.map_nil]
   rw [List.nodup_append]
   refine ⟨hok.nodup,by simp,fun b hb c hc hbc =>?_⟩
   simp only [List.mem_singleton] at hc
   obtain ⟨e,he,rfl⟩:=List.mem_map.1 hb
   have:=hok.old e he
   omega
 | some p =>
  obtain ⟨j,y⟩:=p
  rw [hmx] at hput
  simp only [Nat.sub_zero] at hput
  obtain ⟨hj,_⟩:=q5p m s 0 j y hmx
  simp only [Nat.sub_zero] at hj
  have hes:es.toList[j]?.map (fun e=>(e.key,e.val))=some (Value.int .i64 s,y):=by
   rw [← List.getElem?_map,hok.eq,List.getElem?_map,hj];rfl
  obtain ⟨e,hje,hee⟩:∃e,es[j]? = some e∧e.key=.int .i64 s:=by
   cases h:es[j]? with
   | none =>
    have h':es.toList[j]? = none:=by simpa using h
    rw [h'] at hes;cases hes
   | some e =>
    have h':es.toList[j]? = some e:=by simpa using h
    rw [h'] at hes;simp only [Option.map_some,Option.some.injEq,Prod.mk.injEq] at hes;exact ⟨e,rfl,hes.1⟩
  have hks:(Instr.keyThatStays (((es[j]?).map (·.key)).getD (.int .i64 s)) (.int .i64 s)).run P w=.ok (.int .i64 s) w:=by
   simp [hje,hee,Instr.keyThatStays,Instr.sameBits,dE]
  simp only [Sem.run_bind,hks,hset,Result.andThen_ok,Sem.run_pure,vO]
  have hjl:j < es.size:=(Array.getElem?_eq_some_iff.1 hje).1
  have hml:(es.modify j fun e=>{ e with key:=Value.int .i64 s,val:=v }).toList=es.toList.modify j (fun e=>{ e with key:=Value.int .i64 s,val:=v }):=by simp
  refine k _ (fin _ _ ⟨?_,?_,?_⟩)
  ·rw [hml,hput]
   apply List.ext_getElem?
   intro q
   have hq:es.toList[q]?.map (fun e=>(e.key,e.val))=m[q]?.map (fun p=>(Value.int .i64 p.1,p.2)):=by rw [← List.getElem?_map,hok.eq,List.getElem?_map]
   simp only [List.getElem?_map,List.getElem?_modify,List.getElem?_set]
   by_cases hjq:j=q
   ·subst hjq
    have hml':j < m.length:=(List.getElem?_eq_some_iff.1 hj).1
    have h':es.toList[j]? = some e:=by simpa using hje
    simp [h',hml']
   ·have hq':=hq
    simp only [Array.getElem?_toList] at hq'
    simp [hjq,hq']
  ·intro x hx
   rw [hml] at hx
   obtain ⟨q,hq⟩:=List.mem_iff_getElem?.1 hx
   rw [List.getElem?_modify] at hq
   cases hz':es.toList[q]? with
   | none=>rw [hz'] at hq;simp at hq
   | some e' =>
    rw [hz'] at hq
    have hb':=hok.old e' (List.mem_of_getElem? hz')
    have hq2:=Option.some.inj hq
    rw [← hq2]
    show (if j=q then _ else _:MapEntry).born < clock
    by_cases hjq:j=q
    ·rw [if_pos hjq];exact hb'
    ·rw [if_neg hjq];exact hb'
  ·rw [hml]
   have:(es.toList.modify j (fun e=>{ e with key:=Value.int .i64 s,val:=v })).map (·.born)=es.toList.map (·.born):=by
    apply List.ext_getElem?
    intro q
    simp only [List.getElem?_map,List.getElem?_modify]
    cases es.toList[q]? with
    | none=>simp
    | some e'=>simp;split <;> rfl
   rw [this];exact hok.nodup
theorem vX (i:Nat) {t kt et:TypeId} {x y z:Operand} {b:Nat} {m:List (Int×Value)} {s:Int} {v:Value} (ht:Under P t (.map kt et)) (hk:Under P kt (.int .i64))
  (he:EnvR n E D a) (hm:Mem Φ K w) (hx:ev E x=some (.map (some b))) (hy:ev E y=some (.int .i64 s)) (hz:ev E z=some v) (hK:qI K i=some (.imp b m))
  (k:∀w',Mem Φ (kR K i (.imp b (iput m s v))) w'→Kn undef w'):Oper.eff P ⟨dst,.insert t x y z,ty,pos,aft,g⟩ a w Kn Qp :=
 show Oper.eff P ⟨dst,.mapUpdate t x y z,ty,pos,aft,g⟩ a w Kn Qp from z9t i ht hk he hm hx hy hz hK k
end Go.Sw

namespace Go.Sw
theorem Row.one {Φ:Fz} {v:Value} {k:Nat} {cs:List Value} (h:Row Φ v k cs):Value.oneCell' v=true:=by
 rcases h with ⟨rfl,_⟩ | ⟨q,m,c,rfl,_⟩ <;> rfl
theorem SliceOf.one {α:Type} {R:Fz→List Value→α→Prop} {Φ:Fz} {k:Nat} {v:Value} {xs:List α} (h:SliceOf R Φ k v xs):Value.oneCell' v=true :=
 let ⟨_,h1,_⟩:=h;h1.one
def y6p {α:Type} (R:Fz→List Value→α→Prop):Prop:=∀Φ c x,R Φ c x→c.all Value.oneCell'=true
theorem Chunks.ones {α:Type} {R:Fz→List Value→α→Prop} (hR:y6p R) {Φ:Fz} {k:Nat}:∀{xs:List α} {cs:List Value},Chunks (R Φ) k cs xs→cs.all Value.oneCell'=true
 | [],cs,h=>by simp only [Chunks] at h;subst h;rfl
 | x::xs,cs,⟨c,rest,h1,_,h3,h4⟩=>by
  subst h1
  rw [List.all_append,hR _ _ _ h3,Chunks.ones hR h4];rfl
theorem RStr.ones:y6p RStr:=fun _ c x h=>by cases h;rfl
theorem RVal.ones:y6p RVal:=fun _ c x h=>by
 obtain ⟨s,rfl,_,h1⟩:=RVal.iff.1 h
 simp only [List.all_cons,h1.one];rfl
theorem REx.ones:y6p REx:=fun _ c x h=>by
 obtain ⟨s,t,rfl,_,h1,h2⟩:=REx.iff.1 h
 simp only [List.all_cons,h1.one,h2.one];rfl
theorem RArm.ones:y6p RArm:=fun Φ c x h=>by
 obtain ⟨s,b,rfl,h1,h2⟩:=RArm.iff.1 h
 have:=REx.ones Φ b x.body h2
 simp only [List.all_cons,h1.one,this];rfl
theorem RParam.ones:y6p RParam:=fun _ c x h=>by cases h;rfl
theorem RCon.ones:y6p RCon:=fun _ c x h=>by
 obtain ⟨s,rfl,h1⟩:=h
 simp only [List.all_cons,h1.one];rfl
theorem RData.ones:y6p RData:=fun _ c x h=>by
 obtain ⟨s,rfl,h1⟩:=h
 simp only [List.all_cons,h1.one];rfl
theorem RFun.ones:y6p RFun:=fun Φ c x h=>by
 obtain ⟨s,b,rfl,h1,h2⟩:=h
 have:=REx.ones Φ b x.body h2
 simp only [List.all_cons,h1.one,this];rfl
theorem RNamed.ones:y6p RNamed:=fun Φ c x h=>by
 obtain ⟨b,rfl,h2⟩:=h
 have:=RVal.ones Φ b x.value h2
 simp only [List.all_cons,this];rfl
section
variable {P:Program} {n:Nat} {E:List (Nat×Value)} {D:List Deferred} {a:Act} {Φ Ψ:Fz} {K:List Res} {w:World}
end
theorem aK (ok:Bool) (ds:List (Bs×Data)) (m:List (Bs×Maker)) (d:Data) (l:List Data) :
  z0d ok ds m (d::l)=z0d (xD d.name (nN ok ds d) m d.cons).1 (wW ok ds d) (xD d.name (nN ok ds d) m d.cons).2 l:=rfl
theorem x3m {c:Core} {l1:List (Bs×Data)} {l2:List (Bs×Maker)} {o1 o2 o3:Bool} {l3:List (Bs×Fun)} {l4:List (Bs×Bs)} (h1:z0d true [] [] (truthsD::c.datas)=(o1,l1,l2)) (h2:sQ o1 [] c.funs=(o2,l3)) (h3:sR o2 [] c.inputs=(o3,l4)) :
  yL c=⟨c,l1,l2,l3,l4⟩∧aD c=o3:=by
 have e1:dsP c=(o1,l1,l2):=h1
 have e2:fsP c=(o2,l3):=by unfold fsP;rw [e1];exact h2
 have e3:isP c=(o3,l4):=by unfold isP;rw [e2];exact h3
 unfold yL aD
 rw [e1,e2,e3];exact ⟨rfl,rfl⟩
end Go.Sw

namespace Go.Sw
mutual
theorem z4l:∀(e:Ex) (l:Int),(jD e l).1=false→((yC e).length:Int)+16+17 * (jD e l).2≤17 * l
 | .mk k n s args arms,l=>by
  intro h
  rw [q2s] at h ⊢
  by_cases hl:l - 1 < 0
  ·rw [if_pos hl] at h;cases h
  ·rw [if_neg hl] at h ⊢
   simp only [Ex.args,Ex.arms] at h ⊢
   have h1:=meass_bind args (l - 1)
   cases hm:meass args (l - 1) with
   | mk b q =>
    rw [hm] at h h1
    cases b with
    | true=>cases h
    | false =>
     have h2:=measa_bind arms q h
     have h3:=h1 rfl
     simp only [y4m] at h h2 h3 ⊢
     simp only [yC,List.length_append]
     split <;> simp <;> omega
theorem meass_bind:∀(es:List Ex) (l:Int),(meass es l).1=false→((bindPs es).length:Int)+17 * (meass es l).2≤17 * l
 | [],l=>by intro _;simp [meass,bindPs]
 | e::es,l=>by
  intro h
  rw [uS] at h ⊢
  by_cases hb:(jD e l).1=true
  ·rw [if_pos hb] at h;cases h
  ·rw [if_neg hb] at h ⊢
   have h1:=z4l e l (by simpa using hb)
   have h2:=meass_bind es _ h
   simp only [bindPs,List.length_append]
   omega
theorem measa_bind:∀(es:List Arm) (l:Int),(measa es l).1=false→((bindPa es).length:Int)+17 * (measa es l).2≤17 * l
 | [],l=>by intro _;simp [measa,bindPa]
 | .mk c vs b::es,l=>by
  intro h
  have e:=gU (.mk c vs b) es l
  change measa (.mk c vs b::es) l=(if 16 < vs.length then (true,l) else if (jD b l).1 then (true,(jD b l).2) else measa es (jD b l).2) at e
  rw [e] at h ⊢
  by_cases hv:16 < vs.length
  ·rw [if_pos hv] at h;cases h
  ·rw [if_neg hv] at h ⊢
   by_cases hb:(jD b l).1=true
   ·rw [if_pos hb] at h;cases h
   ·rw [if_neg hb] at h ⊢
    have h1:=z4l b l (by simpa using hb)
    have h2:=measa_bind es _ h
    simp only [bindPa,List.length_append]
    omega
end
theorem q0e:∀{fs:List Fun} {l:Int},sJ fs l=false→l≤6000→∀f∈fs,f.params.length≤16∧(yC f.body).length≤102000
 | [],_,_,_,_,h=>by cases h
 | g::fs,l,h,hl,f,hf=>by
  simp only [sJ,Bool.or_eq_false_iff,decide_eq_false_iff_not] at h
  have h1:=z4l g.body l h.1.2
  have h2:=nF g.body l h.1.2
  rcases List.mem_cons.1 hf with rfl | hf
  ·exact ⟨by omega,by omega⟩
  ·exact q0e h.2 (by omega) f hf
theorem sG {c:Core} (h:xF c=false) {f:Fun} (hf:f∈c.funs):f.params.length≤16∧(yC f.body).length≤102000:=by
 simp only [xF,Bool.or_eq_false_iff] at h
 exact q0e h.2 (by omega) f hf
theorem q7m {c:Core} (h:aD c=true) {n:Bs} {f:Fun} (hf:zK (yL c).funs n=some f):f∈c.funs:=by
 obtain ⟨i1,_⟩:=z2y (show (sR (fsP c).1 [] c.inputs).1=true from h)
 obtain ⟨_,f2,_⟩:=z2x (show (sQ (dsP c).1 [] c.funs).1=true from i1)
 have e:(yL c).funs=mO Fun.name id c.funs:=f2
 rw [e] at hf
 obtain ⟨x,hx,_,rfl⟩:=kJ hf
 exact hx
theorem q3q {c:Core} (hl:xF c=false) (h:aD c=true):∀n f,zK (yL c).funs n=some f→f.params.length≤1000:=fun n f hf=>by
 have:=(sG hl (q7m h hf)).1;omega
theorem kY {α:Type} {l:List α} {p:α→Bool} {i:Nat} {x:α} (h:l[i]? = some x):(l.drop i).all p=(p x&&(l.drop (i+1)).all p):=by
 rw [zA h];rfl
theorem q1t {α:Type} {l:List α} {p:α→Bool} {i:Nat} (h:¬i < l.length):(l.drop i).all p=true:=by
 rw [zH h];rfl
theorem z5f {α:Type} {l:List α} {p:α→Bool} (h:l.any (fun x => !p x)=false):l.all p=true:=by
 induction l with
 | nil=>rfl
 | cons x l ih =>
  simp only [List.any_cons,Bool.or_eq_false_iff,Bool.not_eq_false'] at h
  simp only [List.all_cons,h.1,ih h.2];rfl
theorem z5g {α:Type} {l:List α} {p:α→Bool} (h:l.any (fun x => !p x)=true):l.all p=false:=by
 induction l with
 | nil=>cases h
 | cons x l ih =>
  simp only [List.any_cons,Bool.or_eq_true,Bool.not_eq_true'] at h
  simp only [List.all_cons]
  rcases h with h | h
  ·rw [h];rfl
  ·rw [ih h];simp
end Go.Sw

namespace Go.Sw
end Go.Sw

namespace Go.Sw
section
variable {P:Program} {n:Nat} {E:List (Nat×Value)} {D:List Deferred} {a:Act} {Φ Ψ:Fz} {K K':List Res} {w:World}
variable {Kn:Value→World→Prop} {Qp:List PanicEntry→World→Prop} {dst:Option Tmp} {ty:TypeId} {pos:String} {aft:Array Edge} {g:Option (Nat×Bool)}
variable {f:FuncId} {xs:Array Operand} {ts:Array TypeId} {vs fs cs:List Value} {y:Operand}
theorem kD {β:Type} {X:β→Value} {F1:β→Fz} {KO:β→List Res} {G:β→Prop} (he:EnvR n E D a) (hy:ev E y=some (.func (.func f) fs.toArray cs.toArray)) (hx:evs E xs.toList=some vs) (hf:∀args w,(callFunc f args).run P w=.ok (.enter f args) w)
  (hc:Calls P f (fs++vs++cs).toArray w (fun e w'=>∃y,e=.returned (X y)∧G y∧Mem (F1 y) (KO y) w')) (k:∀y w',G y→Mem (F1 y) (KO y) w'→Kn (X y) w') :
  Oper.eff P ⟨dst,.call { callee:=.value y,args:=xs,argTypes:=ts },ty,pos,aft,g⟩ a w Kn Qp :=
 y9d he hy hx hf hc (fun v w' h=>by obtain ⟨y,h1,h2,h3⟩:=h;cases h1;exact k _ _ h2 h3) (fun c w' h=>by obtain ⟨y,h1,_⟩:=h;cases h1) (fun w' h=>by obtain ⟨y,h1,_⟩:=h;cases h1)
theorem Sees.gsSome {i j m c k:Nat} {p:Option Addr} {T:TypeId} {cells:List Value} (hm:Sees Φ K w) (hk:qI K i=some (.gs (.slice p m c) T k cells)) (hj:j < m):∃q,p=some q:=by
 obtain ⟨nn,_,h2⟩:=hm.own _ (qJ hk)
 rcases h2 with ⟨h,_⟩ | ⟨b,cap,cur,h,_⟩
 ·simp only [Value.slice.injEq] at h;omega
 ·simp only [Value.slice.injEq] at h;exact ⟨_,h.1⟩
theorem gH (i j:Nat) {x:Operand} {T T0:TypeId} {q:Addr} {m c k:Nat} {cells:List Value} {v:Value} (he:EnvR n E D a) (hm:Sees Φ K w)
  (hx:ev E x=some (.pointer (some (q.add (j * k))))) (hk:qI K i=some (.gs (.slice (some q) m c) T0 k cells)) (hv:cells[j * k]? = some v) (hT:Scalar P T):Ok P a (.load T x) ty w v:=fun _ _ _ _=>by
 have h1:w.cell? (q.add (j * k))=some v:=by
  rcases hm.rowIn hk with ⟨h,_⟩ | ⟨q',m',c',h,_,h3⟩
  ·cases h
  ·simp only [Value.slice.injEq,Option.some.injEq] at h
   obtain ⟨rfl,rfl,rfl⟩:=h
   exact h3 _ _ hv
 simp only [execOp,he.ev hx]
 simp [Instr.loadAt,Instr.sureAddr,loadVar,Sem.run_bind,hT w,Result.andThen,load,Sem.run,h1]
end
def ints (l:List Int):List Value:=l.map (.int .i64)
theorem q5w (l:List Int):(ints l).length=l.length:=by simp [ints]
def Short (e:Ex):Prop:=∃l:Int,l≤6000∧(jD e l).1=false
theorem z5q:∀{fs:List Fun} {l:Int},sJ fs l=false→l≤6000→∀f∈fs,Short f.body
 | [],_,_,_,_,h=>by cases h
 | g::fs,l,h,hl,f,hf=>by
  simp only [sJ,Bool.or_eq_false_iff,decide_eq_false_iff_not] at h
  have h2:=nF g.body l h.1.2
  rcases List.mem_cons.1 hf with rfl | hf
  ·exact ⟨l,hl,h.1.2⟩
  ·exact z5q h.2 (by omega) f hf
theorem q9r {c:Core} (h:xF c=false) {f:Fun} (hf:f∈c.funs):Short f.body:=by
 simp only [xF,Bool.or_eq_false_iff] at h
 exact z5q h.2 (by omega) f hf
end Go.Sw

namespace Go.Sw
theorem RVal.zero {Φ:Fz}:RVal Φ [.string sNo,.int .i64 0,.slice none 0 0] v0:=RVal.iff.2 ⟨_,rfl,⟨by decide,by decide⟩,SliceOf.nil 3⟩
section
variable {P:Program} {n:Nat} {E:List (Nat×Value)} {D:List Deferred} {a:Act} {Φ Ψ:Fz} {K K':List Res} {w:World}
end
section
variable {P:Program} {n:Nat} {E:List (Nat×Value)} {D:List Deferred} {a:Act} {Φ Ψ:Fz} {K K':List Res} {w:World}
variable {Kn:Value→World→Prop} {Qp:List PanicEntry→World→Prop} {dst:Option Tmp} {ty:TypeId} {pos:String} {aft:Array Edge} {g:Option (Nat×Bool)}
end
end Go.Sw

namespace Go.Sw
section
variable {ev:Nat→Ex→Env→Ev Val} {C:Ctx} {g:Nat} {e:Ex} {env:Env}
end
end Go.Sw

namespace Go.Sw
open Go.Proofs.Tryz
open Go.Proofs
theorem mixed:prog.follows .mixedOrders=true:=by kernel_rfl
theorem fo_27_0:zL prog 27 0 0:=zE runUnderlying27 rfl sizeOf22 (by decide) rfl
theorem fo_27_1:zL prog 27 1 1:=zE runUnderlying27 rfl sizeOf23 (by decide) rfl
theorem fo_27_2:zL prog 27 2 2:=zE runUnderlying27 rfl sizeOf24 (by decide) rfl
theorem fo_27_3:zL prog 27 3 3:=zE runUnderlying27 rfl sizeOf25 (by decide) rfl
theorem fo_53_0:zL prog 53 0 0:=zE runUnderlying53 rfl sizeOf51 (by decide) rfl
theorem fo_53_1:zL prog 53 1 1:=zE runUnderlying53 rfl sizeOf3 (by decide) rfl
theorem fo_58_0:zL prog 58 0 0:=zE runUnderlying58 rfl sizeOf9 (by decide) rfl
theorem fo_58_1:zL prog 58 1 1:=zE runUnderlying58 rfl sizeOf3 (by decide) rfl
theorem fo_58_2:zL prog 58 2 2:=zE runUnderlying58 rfl sizeOf56 (by decide) rfl
theorem fo_60_0:zL prog 60 0 0:=zE runUnderlying60 rfl sizeOf9 (by decide) rfl
theorem fo_60_1:zL prog 60 1 1:=zE runUnderlying60 rfl sizeOf58 (by decide) rfl
theorem q5d:zL prog 110 0 0:=zE runUnderlying110 rfl sizeOf3 (by decide) rfl
theorem j9c:zL prog 110 1 1:=zE runUnderlying110 rfl sizeOf3 (by decide) rfl
theorem oU:zL prog 110 2 2:=zE runUnderlying110 rfl sizeOf9 (by decide) rfl
theorem j9d:zL prog 110 3 3:=zE runUnderlying110 rfl sizeOf107 (by decide) rfl
theorem j9e:zL prog 110 4 4:=zE runUnderlying110 rfl sizeOf108 (by decide) rfl
theorem q5e:zL prog 112 0 0:=zE runUnderlying112 rfl sizeOf9 (by decide) rfl
theorem j9f:zL prog 112 1 1:=zE runUnderlying112 rfl sizeOf23 (by decide) rfl
theorem j9g:zL prog 112 2 2:=zE runUnderlying112 rfl sizeOf9 (by decide) rfl
theorem j9h:zL prog 112 3 3:=zE runUnderlying112 rfl sizeOf110 (by decide) rfl
theorem fo_36_0:zL prog 36 0 0:=zE runUnderlying36 rfl sizeOf9 (by decide) rfl
theorem fo_36_1:zL prog 36 1 1:=zE runUnderlying36 rfl sizeOf9 (by decide) rfl
theorem j8y:zL prog 105 0 0:=zE runUnderlying105 rfl sizeOf96 (by decide) rfl
theorem j8z:zL prog 105 1 1:=zE runUnderlying105 rfl sizeOf100 (by decide) rfl
theorem j9a:zL prog 105 2 2:=zE runUnderlying105 rfl sizeOf102 (by decide) rfl
theorem j9b:zL prog 105 3 3:=zE runUnderlying105 rfl sizeOf3 (by decide) rfl
theorem j9i:zL prog 117 0 0:=zE runUnderlying117 rfl sizeOf27 (by decide) rfl
theorem j9j:zL prog 117 1 4:=zE runUnderlying117 rfl sizeOf113 (by decide) rfl
theorem j9k:zL prog 117 2 5:=zE runUnderlying117 rfl sizeOf114 (by decide) rfl
theorem j9l:zL prog 117 3 6:=zE runUnderlying117 rfl sizeOf115 (by decide) rfl
theorem j9m:zL prog 117 4 7:=zE runUnderlying117 rfl sizeOf70 (by decide) rfl
theorem x0l:zL prog 324 0 0:=zE runUnderlying324 rfl sizeOf322 (by decide) rfl
theorem x0m:zL prog 324 1 1:=zE runUnderlying324 rfl sizeOf237 (by decide) rfl
theorem j9n:zL prog 126 0 0:=zE runUnderlying126 rfl sizeOf9 (by decide) rfl
theorem j9o:zL prog 126 1 1:=zE runUnderlying126 rfl sizeOf124 (by decide) rfl
theorem j9p:zL prog 128 0 0:=zE runUnderlying128 rfl sizeOf9 (by decide) rfl
theorem j9q:zL prog 128 1 1:=zE runUnderlying128 rfl sizeOf25 (by decide) rfl
theorem j9s:zL prog 164 0 0:=zE runUnderlying164 rfl sizeOf9 (by decide) rfl
theorem j9t:zL prog 164 1 1:=zE runUnderlying164 rfl sizeOf58 (by decide) rfl
theorem j9u:zL prog 164 2 4:=zE runUnderlying164 rfl sizeOf162 (by decide) rfl
theorem j9y:zL prog 201 0 0:=zE runUnderlying201 rfl sizeOf9 (by decide) rfl
theorem j9z:zL prog 201 1 1:=zE runUnderlying201 rfl sizeOf128 (by decide) rfl
theorem j9v:zL prog 174 0 0:=zE runUnderlying174 rfl sizeOf9 (by decide) rfl
theorem j9w:zL prog 174 1 1:=zE runUnderlying174 rfl sizeOf25 (by decide) rfl
theorem j9x:zL prog 174 2 2:=zE runUnderlying174 rfl sizeOf110 (by decide) rfl
theorem x0b:zL prog 257 1 1:=zE runUnderlying257 rfl sizeOf29 (by decide) rfl
theorem x0c:zL prog 261 0 0:=zE runUnderlying261 rfl sizeOf3 (by decide) rfl
theorem x0e:zL prog 261 2 2:=zE runUnderlying261 rfl sizeOf9 (by decide) rfl
theorem x0g:zL prog 285 0 0:=zE runUnderlying285 rfl sizeOf9 (by decide) rfl
theorem x0h:zL prog 285 1 1:=zE runUnderlying285 rfl sizeOf3 (by decide) rfl
theorem x0i:zL prog 289 0 0:=zE runUnderlying289 rfl sizeOf285 (by decide) rfl
theorem x0j:zL prog 289 1 2:=zE runUnderlying289 rfl sizeOf286 (by decide) rfl
theorem x0k:zL prog 289 2 3:=zE runUnderlying289 rfl sizeOf287 (by decide) rfl
set_option maxRecDepth 20000 in
theorem rt_22:RowT prog 22 126 2 40:=⟨underlying22,⟨_,_,Tryz.type126,rfl,rfl,rfl,rfl⟩,by decide,by decide⟩
set_option maxRecDepth 20000 in
theorem vV:RowT prog 25 9 1 16:=⟨underlying25,⟨_,_,Tryz.type9,rfl,rfl,rfl,rfl⟩,by decide,by decide⟩
set_option maxRecDepth 20000 in
theorem rt_287:RowT prog 287 303 2 16:=⟨underlying287,⟨_,_,Tryz.type303,rfl,rfl,rfl,rfl⟩,by decide,by decide⟩
end Go.Sw

namespace Go.Sw
section
variable {P:Program} {n m:Nat} {E:List (Nat×Value)} {D:List Deferred} {a:Act} {w:World} {ops:Array Oper} {rest:List Oper} {Q:Exit→Act→World→Prop} {r:Option Nat} {d:Nat} {v:Value} {op:Op} {ty:TypeId} {pos:String} {aft:Array Edge}
theorem z6b {o:Oper} {K:Act→World→Prop} (hop:∀c,o.op≠.defer c)
  (h:Oper.eff P o a w (fun v w'=>K (a.put o.dst v) w') (fun c w'=>Q (.panic c) a w')):o.wpIn (FO r) m P a w K Q:=by
 refine ⟨fun f _=>FO.fn f,?_⟩
 rw [Oper.semAt_plain _ _ _ hop]
 unfold Oper.eff at h
 generalize (execOp a.eval o).run P w=q at *
 cases q with
 | ok x w' =>
  cases x <;> simp only [vO] at h <;> simp only [Oper.uponIn]
  case value=>exact h
  case skip=>exact h
  case enter f args=>exact ⟨fun hd=>(FO.depth hd).elim,FO.calls (h.mono fun e w'' he=>by cases e <;> first | exact he | exact he.elim)⟩
 | halt x w'=>cases x <;> simp only [vO] at h;simp only [Oper.uponIn];exact h
theorem y0l {o:Oper} (he:EnvR n E D a) (hd:o.dst=some d) (hlt:Nat.blt d n=true) (hg:o.guard=none) (hop:∀c,o.op≠.defer c)
  (h:Oper.eff P o a w (fun v w'=>∀a,EnvR n ((d,v)::E) D a→wpListIn (FO r) m P ops Q rest a w') (fun _ _=>False)):wpListIn (FO r) m P ops Q (o::rest) a w:=by
 refine wpListIn_plain hg fun L hL=>z6b hop (jN h (fun v w' hv=>hL _ _ ?_) (fun c w' hc=>hc.elim))
 rw [hd];exact hv _ (he.put hlt)
theorem q2l {o:Oper} (he:EnvR n E D a) (hd:o.dst=none) (hg:o.guard=none) (hop:∀c,o.op≠.defer c)
  (h:Oper.eff P o a w (fun _ w'=>∀a,EnvR n E D a→wpListIn (FO r) m P ops Q rest a w') (fun _ _=>False)):wpListIn (FO r) m P ops Q (o::rest) a w:=by
 refine wpListIn_plain hg fun L hL=>z6b hop (jN h (fun v w' hv=>hL _ _ ?_) (fun c w' hc=>hc.elim))
 rw [hd];exact hv _ he.put_none
theorem yO (he:EnvR n E D a) (hop:∀c,op≠.defer c) (ho:Ok P a op ty w v) (hd:Nat.blt d n=true) (k:∀a,EnvR n ((d,v)::E) D a→wpListIn (FO r) m P ops Q rest a w) :
  wpListIn (FO r) m P ops Q (⟨some d,op,ty,pos,aft,none⟩::rest) a w :=
 y0l he rfl hd rfl hop (aR ho k)
theorem jZ {id:Nat} {l:List Oper} (h:wpListIn (FO none) 3 P l.toArray Q l a w):(Code.region id l.toArray false).wp P Q a w:=wpIn_wide.1 (wpIn_region_lit h)
theorem y0m {y x:Operand} {ts:Array TypeId} {l:Nat} {J:World→Prop} (he:EnvR n E D a) (hlt:Nat.blt d n=true) (hy:ev E y=some (.func (.yield l) #[] #[])) (hx:ev E x=some v)
  (hr:YieldAt Fence.wide 2 P l #[v] w (fun e w'=>e=.returned (.bool true)∧J w')) (k:∀w',J w'→∀a,EnvR n ((d,.bool true)::E) D a→wpListIn (FO none) 3 P ops Q rest a w') :
  wpListIn (FO none) 3 P ops Q (⟨some d,.call { callee:=.value y,args:=#[x],argTypes:=ts },ty,pos,aft,none⟩::rest) a w:=by
 obtain ⟨fn,tmps,assign,body,h1,h2⟩:=hr
 refine wpListIn_plain rfl fun L hL=>⟨fun f _=>trivial,?_⟩
 rw [Oper.semAt_plain _ _ _ (by intro c h;cases h)]
 have h3:(execOp a.eval ⟨some d,.call { callee:=.value y,args:=#[x],argTypes:=ts },ty,pos,aft,none⟩).run P w=.ok (.round l fn tmps assign body) w:=by
  simp only [execOp,resolve,Sem.run_bind,List.map_toArray,List.map_cons,List.map_nil,he.ev hx,he.ev hy,Deferred.ofValue]
  simp [invoke,Sem.run_bind,Result.andThen,h1]
 rw [h3,Oper.uponIn_round]
 refine ⟨fun hd=>(by cases hd),h2.mono fun e w' he' =>?_⟩
 obtain ⟨rfl,hJ⟩:=he'
 exact hL _ _ (k _ hJ _ (he.put hlt))
end
section
variable {P:Program} {Φ Ψ:Fz} {K:List Res} {w:World}
theorem Mem.putObj {i l:Nat} {o o':Obj} (hm:Mem Φ K w) (hk:qI K i=some (.blk l o)):Mem Φ (kR K i (.blk l o')) (w.putObj l o'):=by
 have hb:l < w.heap.size:=(Array.getElem?_eq_some_iff.1 (hm.own _ (qJ hk))).1
 exact hm.upd hk rfl rfl (fun c hc hne=>World.putObj_heap_other (fun e=>hne (by simp [Res.foot,e]))) (World.putObj_heap_same hb) (.inl rfl)
theorem q7f {β γ:Type} {l n:Nat} {r:Loop} {tmps:Array Value} {E:List (Nat×Value)} {E1:β→List (Nat×Value)} {K1:β→List Res} {KO:γ→List Res} (hm:Mem Φ (.blk l (.loop r)::K) w) (hst:r.state=.ready) (hpd:r.pending=none)
  (he:EnvR n E [] ⟨tmps,[]⟩)
  (hA:∀a,EnvR n E [] a→r.assign.wpIn (FO (some l)) 2 P (Exit.then (fun a1 w1=>∃y,EnvR n (E1 y) [] a1∧Mem Φ (.blk l (.loop r)::K1 y) w1) (fun _ _ _=>False)) a w)
  (hB:∀y a w,EnvR n (E1 y) [] a→Mem Φ (.blk l (.loop { r with state:=.busy })::K1 y) w→r.body.wpIn (FO (some l)) 2 P (fun e _ w=>e=.normal∧∃z,Mem Φ (.blk l (.loop { r with state:=.busy })::KO z) w) a w) :
  RoundIn Fence.wide 2 P l r.fn tmps r.assign r.body w (fun e w'=>e=.returned (.bool true)∧∃z,Mem Φ (.blk l (.loop r)::KO z) w'):=by
 refine roundIn_of_wpIn trivial (Code.wpIn_mono (fun e a1 w1 h =>?_) (hA _ he))
 cases e with
 | normal =>
  obtain ⟨y,h1,h2⟩:=h
  have hl:w1.heap[l]? = some (.loop r):=h2.own _ List.mem_cons_self
  refine ⟨_,run_beginRound hl hst,?_⟩
  have h3:=h2.putObj (i:=0) (o':=.loop { r with state:=.busy }) rfl
  refine Code.wpIn_mono (fun e a2 w2 h =>?_) (hB y _ _ h1 h3)
  obtain ⟨rfl,z,h4⟩:=h
  have hl2:w2.heap[l]? = some (.loop { r with state:=.busy }):=h4.own _ List.mem_cons_self
  refine ⟨_,_,run_endRound none hl2,rfl,z,?_⟩
  have h5:=h4.putObj (i:=0) (o':=.loop { ({ r with state:=.busy }:Loop) with state:=.ready,pending:=none }) rfl
  have h6:({ ({ r with state:=.busy }:Loop) with state:=.ready,pending:=none }:Loop)=r:=by cases r;simp only at hst hpd;subst hst;subst hpd;rfl
  simp only [kR,h6] at h5;simpa [h6] using h5
 | exit id=>exact h.elim
 | goto l=>exact h.elim
 | ret=>exact h.elim
 | panic c=>exact h.elim
 | outgrown=>exact h.elim
theorem z3d {β δ:Type} {n gf:Nat} {E:List (Nat×Value)} {Dd:List Deferred} {a:Act} {g:Operand} {ps:Array Tmp} {assign body:Code} {Q:Exit→Act→World→Prop} {fs cs:List Value} {F1:β→Fz} {KO:β→List Res} {KE:δ→List Res} {G:β→Prop} {B:δ→List PanicEntry→Prop}
  (he:EnvR n E Dd a) (hm:Mem Φ K w) (hg:ev E g=some (.func (.func gf) fs.toArray cs.toArray)) (hf:∀args w,(callFunc gf args).run P w=.ok (.enter gf args) w)
  (hc:∀Dk l r w,r.params=ps→r.assign=assign→r.body=body→r.state=.ready→r.pending=none→EnvR n E [] ⟨r.tmps,[]⟩→Mem Φ (.blk l (.loop r)::.blk Dk (.deferred (some []))::K) w →
   Calls P gf (fs++[Value.func (.yield l) #[] #[]]++cs).toArray w (fun e w'=>(∃v y,e=.returned v∧G y∧Mem (F1 y) (.blk l (.loop r)::.blk Dk (.deferred (some []))::KO y) w')∨(∃c z,e=.panicked c∧B z c∧Mem Φ (.blk Dk (.deferred (some []))::KE z) w')))
  (kn:∀Dk y a w,G y→EnvR n E ({ target:=.collected Dk,args:=#[] }::Dd) a→Mem (F1 y) (.blk Dk (.deferred (some []))::KO y) w→Q .normal a w)
  (kp:∀Dk z c a w,B z c→EnvR n E ({ target:=.collected Dk,args:=#[] }::Dd) a→Mem Φ (.blk Dk (.deferred (some []))::KE z) w→Q (.panic c) a w):(Code.rangeFunc g ps assign body).wp P Q a w:=by
 refine (wpIn_wide (n:=3)).1 (wpIn_rangeFunc fun fn _ =>?_)
 generalize hw1:((w.alloc (.deferred (some []))).alloc (.loop { state:=.ready,pending:=none,fn,tmps:=a.tmps,params:=ps,assign,body,defers:=w.heap.size }))=w1
 have hm1:Mem Φ (.blk (w.heap.size+1) (.loop { state:=.ready,pending:=none,fn,tmps:=a.tmps,params:=ps,assign,body,defers:=w.heap.size })::.blk w.heap.size (.deferred (some []))::K) w1:=by
  have h1:=hm.push (.deferred (some []))
  have h2:=h1.push (.loop { state:=.ready,pending:=none,fn,tmps:=a.tmps,params:=ps,assign,body,defers:=w.heap.size })
  have h3:({ w with heap:=w.heap.push (.deferred (some [])) }:World).heap.size=w.heap.size+1:=Array.size_push _
  rw [h3] at h2
  rw [← hw1];exact h2
 have hE:EnvR n E ({ target:=.collected w.heap.size,args:=#[] }::Dd) { a with defers:=[{ target:=.collected w.heap.size,args:=#[] }]++a.defers }:=⟨he.size,he.env,by simp [he.defs]⟩
 have hcall:=hc w.heap.size (w.heap.size+1) { state:=.ready,pending:=none,fn,tmps:=a.tmps,params:=ps,assign,body,defers:=w.heap.size } w1 rfl rfl rfl rfl rfl ⟨he.size,he.env,rfl⟩ hm1
 refine ⟨w.heap.size+1,[{ target:=.collected w.heap.size,args:=#[] }],w1,{ target:=.fn (.func gf) cs.toArray,args:=(fs++[Value.func (.yield (w.heap.size+1)) #[] #[]]).toArray },w1,gf,(fs++[Value.func (.yield (w.heap.size+1)) #[] #[]]++cs).toArray,w1,?_,?_,fun f' _=>trivial,?_,fun hd=>(by cases hd),?_⟩
 ·rw [show Fence.wide.round=none from rfl,run_enterLoop_outer,hw1]
 ·have h1:=he.ev hg
  have h2:a.eval (.const (.func (.yield (w.heap.size+1)) #[] #[]))=.func (.yield (w.heap.size+1)) #[] #[]:=rfl
  simp only [resolve,Sem.run_bind,h1,h2,List.map_toArray,List.map_cons,List.map_nil]
  simp [Deferred.ofValue]
 ·have:=hf (fs++[Value.func (.yield (w.heap.size+1)) #[] #[]]++cs).toArray w1
  simp only [invoke]
  simpa using this
 ·refine callsIn_wide.2 (hcall.mono fun e w3 h =>?_)
  rcases h with ⟨v,y,rfl,hG,hm3⟩ | ⟨c,z,rfl,hB,hm3⟩
  ·have hl:w3.heap[w.heap.size+1]? = _:=hm3.own _ List.mem_cons_self
   refine ⟨_,_,run_endLoop hl (by intro h;cases h),?_⟩
   exact kn _ y _ _ hG hE (hm3.putObj (i:=0) rfl).tail
  ·exact kp _ z c _ _ hB hE hm3
def pF (P:Program) (fn:Func) (tmps:Array Value) (R:Ending→World→Prop) (ds:List Deferred) (u:FrameMode) (w:World):Prop :=
 ∀(fr:Frame) (cs:List Frame),fr.mode=u→fr.defers=ds→fr.tmps=tmps→P.funcs[fr.fn]? = some fn→fr.kind=.normal →
  ∃e w' fr',R e w'∧Comes P (lone fr cs w) (lone fr' cs w') e∧fr'.fn=fr.fn∧fr'.leaving P w' e
theorem cA {fn:Func} {tmps:Array Value} {R:Ending→World→Prop} {ds:List Deferred} {u:FrameMode} (h:Leaves P fn tmps R ds u w):pF P fn tmps R ds u w :=
 fun fr cs h1 h2 h3 h4 h5=>leaves_steps ds u w fr cs h1 h2 h3 h4 h5 h
theorem mF {fn:Func} {tmps:Array Value} {R:Ending→World→Prop} {Dk:Nat} {ds:List Deferred} {u:FrameMode} (hu:u≠.run) (hw:w.heap[Dk]? = some (.deferred (some [])))
  (h:pF P fn tmps R ds u (w.putObj Dk (.deferred none))):pF P fn tmps R ({ target:=.collected Dk,args:=#[] }::ds) u w:=by
 intro fr cs h1 h2 h3 h4 h5
 have hs:=step_collected (P:=P) (cs:=cs) (h1▸hu) h2 rfl (run_takeDeferred hw)
 obtain ⟨e,w',fr',hR,hc,hfn,hl⟩:=h { fr with defers:=[]++ds } cs h1 rfl h3 h4 h5
 exact ⟨e,w',fr',hR,Comes.of_steps (.one hs) hc,hfn,hl⟩
def pP (P:Program) (fn:Func) (R:Ending→World→Prop):Exit→Act→World→Prop
 | .normal,a,w | .ret,a,w=>pF P fn a.tmps R a.defers .returning w
 | .panic chain,a,w=>pF P fn a.tmps R a.defers (.panicking chain) w
 | .outgrown,_,w=>R .outgrown w
 | _,_,_=>False
theorem y6r {f:FuncId} {fn:Func} {c:Code} {args:Array Value} {w:World} {R:Ending→World→Prop}
  (hf:P.funcs[f]? = some fn) (hb:fn.body=some c)
  (h:c.wp P (pP P fn R) { tmps:=args++Array.replicate (fn.ntmps - args.size) undef,defers:=[] } w):Calls P f args w R:=by
 intro cs
 let b:Frame:={ (default:Frame) with fn:=f,kind:=.normal }
 have henter:Frame.enter P f args .normal =
   b.at { tmps:=args++Array.replicate (fn.ntmps - args.size) undef,defers:=[] } [.code c]:=by
  simp [Frame.enter,Frame.at,hf,hb,b]
 obtain ⟨e,a',w',hq,harr⟩:=h b [] cs
 rw [← henter] at harr
 cases e with
 | normal =>
  obtain ⟨e',w'',fr',hR,hs,hfn,hl⟩:=hq { b.at a' [] with mode:=.returning } cs rfl rfl rfl hf rfl
  exact ⟨e',w'',fr',hR,Comes.of_steps (Steps.trans harr (.one step_end)) hs,hfn,hl⟩
 | ret =>
  obtain ⟨todo,hs₀⟩:=harr
  obtain ⟨e',w'',fr',hR,hs,hfn,hl⟩:=hq { b.at a' todo with mode:=.returning } cs rfl rfl rfl hf rfl
  exact ⟨e',w'',fr',hR,Comes.of_steps hs₀ hs,hfn,hl⟩
 | panic chain =>
  obtain ⟨todo,hs₀⟩:=harr
  obtain ⟨e',w'',fr',hR,hs,hfn,hl⟩:=hq { b.at a' todo with mode:=.panicking chain } cs rfl rfl rfl hf rfl
  exact ⟨e',w'',fr',hR,Comes.of_steps hs₀ hs,hfn,hl⟩
 | exit id=>exact hq.elim
 | goto l=>exact hq.elim
 | outgrown=>exact ⟨.outgrown,w',b,hq,harr.resolve_left (by simp [b]),rfl,trivial⟩
theorem z3m {n:Nat} {f:FuncId} {fn:Func} {c:Code} {vs:List Value} {R:Ending→World→Prop} (hf:P.funcs[f]? = some fn) (hb:fn.body=some c) (hn:fn.ntmps=n) (hl:Nat.ble vs.length n=true)
  (k:∀Q:Exit→Act→World→Prop,(∀e a w,pP P fn R e a w→Q e a w)→∀a,EnvR n (cL 0 vs) [] a→c.wp P Q a w):Calls P f vs.toArray w R:=by
 have hl':vs.length≤n:=by simpa using hl
 refine y6r hf hb (k _ (fun _ _ _ h=>h) _ ⟨by simp [hn];omega,fun t v ht =>?_,rfl⟩)
 obtain ⟨_,h2⟩:=cM vs 0 t v ht
 simp only [Nat.sub_zero] at h2
 have hlt:t < vs.length:=(List.getElem?_eq_some_iff.1 h2).1
 simp only [List.getElem?_toArray,Array.getElem?_append,List.size_toArray,hlt,↓reduceIte]
 exact h2
end
theorem q0t {P:Program} {n:Nat} {E:List (Nat×Value)} {a:Act} {w:World} {fn:Func} {R:Ending→World→Prop} (he:EnvR n E [] a) (hr:fn.results=#[]) (h:R (.returned (.tuple #[])) w):bodyPost P fn R .normal a w :=
 ⟨he.defs,.tuple #[],by simp [results,hr],h⟩
section
variable {P:Program} {n:Nat} {E:List (Nat×Value)} {D:List Deferred} {a:Act} {w:World} {ops:Array Oper} {rest:List Oper} {Q:Exit→Act→World→Prop} {ty:TypeId} {pos:String} {aft:Array Edge}
theorem z5z {y:Operand} {fv:Fn} {fs cs vs:List Value} {xs:Array Operand} {ts:Array TypeId} (he:EnvR n E D a) (hy:ev E y=some (.func fv fs.toArray cs.toArray)) (hx:evs E xs.toList=some vs)
  (k:∀a,EnvR n E ({ target:=.fn fv cs.toArray,args:=(fs++vs).toArray }::D) a→wpList P ops Q rest a w) :
  wpList P ops Q (⟨none,.defer { callee:=.value y,args:=xs,argTypes:=ts },ty,pos,aft,none⟩::rest) a w:=by
 refine wpList_plain rfl fun L hL =>?_
 unfold Oper.wp
 simp only [execOp,resolve,he.evsA hx,he.ev hy,Deferred.ofValue]
 refine hL _ _ (k _ ⟨he.size,he.env,?_⟩)
 simp [Act.put,he.defs]
end
section
variable {P:Program} {n:Nat} {E:List (Nat×Value)} {D:List Deferred} {a:Act} {w:World} {ty:TypeId}
theorem q7u {x:Operand} {t t0:TypeId} {d:TypeDesc} {v:Value} (he:EnvR n E D a) (hx:ev E x=some (.iface t v)) (hu:Under P t d) (hd:∀ms,d≠.interface ms) :
  Ok P a (.typeAssert x t0 t true) ty w (.tuple (List.toArray [v,.bool true])):=fun _ _ _ _=>by
 simp only [execOp,he.ev hx,Instr.typeAssert]
 simp only [Sem.run_bind,hu _,Result.andThen,if_true]
 cases d <;> first | (exact absurd rfl (hd _)) | simp [Sem.run_bind,Result.andThen]
end
section
variable {P:Program} {n:Nat} {E:List (Nat×Value)} {D:List Deferred} {a:Act} {w:World} {d:Nat} {ops:Array Oper} {rest:List Oper} {Q:Exit→Act→World→Prop}
theorem stP {o:Oper} (he:EnvR n E D a) (hd:o.dst=some d) (hlt:Nat.blt d n=true) (hg:o.guard=none)
  (h:Oper.eff P o a w (fun v w'=>∀a,EnvR n ((d,v)::E) D a→wpList P ops Q rest a w') (fun c w'=>∀a,EnvR n E D a→Q (.panic c) a w')):wpList P ops Q (o::rest) a w:=by
 refine wpList_plain hg fun L hL=>gF (jN h (fun v w' hv=>hL _ _ ?_) (fun c w' hc=>hc _ he))
 rw [hd];exact hv _ (he.put hlt)
end
theorem q3e {P:Program} {fn:Func} {n:Nat} {E:List (Nat×Value)} {D:List Deferred} {a:Act} {Φ:Fz} {K:List Res} {w:World} {t T b i:Nat} {cs:List Value} {T0:TypeId} {v:Value} (he:EnvR n E D a) (hm:Sees Φ K w) (hr:fn.results=#[.cell t T]) (hv:get E t=some (.pointer (some ⟨b,0,none⟩)))
  (hk:qI K i=some (.blk b (ob cs T0))) (hc:nth cs 0=some v) (hT:Scalar P T):(results fn a.tmps).run P w=.ok v w:=by
 have h1:=hm.cell hk 0
 rw [hc] at h1
 simp [results,hr,Array.getD_eq_getD_getElem?,he.env t _ hv,asAddr,loadVar,Sem.run_bind,hT w,Result.andThen,load,Sem.run,h1]
section
variable {P:Program} {n:Nat} {E:List (Nat×Value)} {D:List Deferred} {a:Act} {Φ:Fz} {K:List Res} {w:World}
theorem cellA {t T b k i:Nat} {cs:List Value} {T0:TypeId} (he:EnvR n E D a) (hm:Sees Φ K w) (hv:get E t=some (.pointer (some ⟨b,0,none⟩)))
  (hk:qI K i=some (.blk b (ob cs T0))) (hT:AggT P T) (hS:SizeT P T k) (hl:cs.length=k):(loadVar T ⟨b,0,none⟩).run P w=.ok (.agg cs.toArray) w:=by
 have hc:∀j v,cs[j]? = some v→w.cell? ((⟨b,0,none⟩:Addr).add j)=some v:=fun j v hj=>by
  have h1:=hm.cell hk j
  rw [uV,hj] at h1
  unfold Addr.add;split
  ·subst_vars;exact h1
  ·simpa using h1
 have h2:=run_loadCells_list (P:=P) (w:=w) ⟨b,0,none⟩ cs hc
 rw [hl] at h2
 simp [loadVar,Sem.run_bind,hT w,hS w,h2,Result.andThen]
end
section
variable {P:Program} {n:Nat} {E:List (Nat×Value)} {D:List Deferred} {a:Act} {Φ Ψ:Fz} {K:List Res} {w:World}
theorem Mem.freezeMap {b i:Nat} {m:List (Bs×Value)} (hm:Mem Φ K w) (hk:qI K i=some (.mp b m)):∃Ψ,Φ.Le Ψ∧Mem Ψ (dP K i) w∧MapAt Ψ b m:=by
 have h:=hm.pull hk
 obtain ⟨es,clock,ho,hok⟩:=hm.own _ (qJ hk)
 exact ⟨_,Fz.le_add (h.no rfl) _,h.freezeHead (b:=b) rfl ho,es,clock,by simp [Fz.add],hok⟩
theorem q7b {fn:Func} {t u x T U k i j b c:Nat} {v y:Value} {cs:List Value} {T0 T1:TypeId} (he:EnvR n E D a) (hm:Sees Φ K w) (hr:fn.results=#[.tmp x,.cell t T,.cell u U]) (hx:get E x=some y) (hv:get E t=some (.pointer (some ⟨b,0,none⟩)))
  (hk:qI K i=some (.blk b (ob [v] T0))) (hT:Scalar P T) (hu:get E u=some (.pointer (some ⟨c,0,none⟩))) (hk2:qI K j=some (.blk c (ob cs T1))) (hT2:AggT P U) (hS:SizeT P U k) (hl:cs.length=k) :
  (results fn a.tmps).run P w=.ok (.tuple (List.toArray [y,v,.agg cs.toArray])) w:=by
 have h1:w.cell? ⟨b,0,none⟩=some v:=hm.cell hk 0
 have h2:=cellA (P:=P) he hm hu hk2 hT2 hS hl
 have h3:(loadVar T ⟨b,0,none⟩).run P w=.ok v w:=by simp [loadVar,Sem.run_bind,hT w,Result.andThen,load,Sem.run,h1]
 simp [results,hr,Array.getD_eq_getD_getElem?,he.env t _ hv,he.env u _ hu,he.env x _ hx,asAddr,h2,h3,Sem.run_bind,Result.andThen]
end
theorem j4r {P:Program} {n:Nat} {E:List (Nat×Value)} {D:List Deferred} {a:Act} {w:World} {Kn:Value→World→Prop} {Qp:List PanicEntry→World→Prop} {dst:Option Tmp} {ty:TypeId} {pos:String} {aft:Array Edge} {g:Option (Nat×Bool)}
  {α β ε δ:Type} {f:FuncId} {xs:Array Operand} {ts:Array TypeId} {vs:List Value} {r:Except ε α} {X:α→β→Value} {Z:ε→δ→Value} {Φ1 Φ2:Fz} {KO:α→β→List Res} {KE:ε→δ→List Res}
  (he:EnvR n E D a) (hx:evs E xs.toList=some vs) (hf:∀args w,(callFunc f args).run P w=.ok (.enter f args) w)
  (hc:Calls P f vs.toArray w (fun e w'=>Out r (fun x=>∃y,e=.returned (X x y)∧Mem Φ1 (KO x y) w') (fun c=>∃y,e=.returned (Z c y)∧Mem Φ2 (KE c y) w')))
  (k:∀x y w',r=.ok x→Mem Φ1 (KO x y) w'→Kn (X x y) w') (kp:∀c y w',r=.error c→Mem Φ2 (KE c y) w'→Kn (Z c y) w') :
  Oper.eff P ⟨dst,.call { callee:=.value (.func f),args:=xs,argTypes:=ts },ty,pos,aft,g⟩ a w Kn Qp:=by
 refine mB he hx hf hc (fun v w' h =>?_) (fun c w' h =>?_) (fun w' h =>?_)
 ·cases r with
  | ok x=>obtain ⟨y,h1,h2⟩:=h;cases h1;exact k _ _ _ rfl h2
  | error c=>obtain ⟨y,h1,h2⟩:=h;cases h1;exact kp _ _ _ rfl h2
 ·cases r with
  | ok x=>obtain ⟨y,h1,_⟩:=h;cases h1
  | error c=>obtain ⟨y,h1,_⟩:=h;cases h1
 ·cases r with
  | ok x=>obtain ⟨y,h1,_⟩:=h;cases h1
  | error c=>obtain ⟨y,h1,_⟩:=h;cases h1
end Go.Sw

namespace Go.Sw
open Go.Proofs
end Go.Sw

namespace Go.Sw
open Go.Proofs
end Go.Sw

namespace Go.Sw
open Go.Proofs.Tryz
open Go.Proofs
def Fz.whole (W:World):Fz:=⟨fun b=>W.heap[b]?,W.os,W.output⟩
theorem Mem.whole (W:World):Mem (Fz.whole W) [] W :=
 { fz:=fun _ _ h=>h,own:=fun _ h=>(by cases h),os:=rfl,out:=rfl,nodup:=List.nodup_nil,apart:=fun _ h=>(by cases h) }
theorem z9g {W:World} {a:Addr} {v:Value} (h:W.cell? a=some v):a.spot=none∧∃arr T fr,W.heap[a.block]? = some (.cells arr T fr)∧arr[a.off]? = some v:=by
 unfold World.cell? at h
 split at h
 ·rename_i c T fr he
  split at h
  ·cases h
  ·rename_i hs
   refine ⟨?_,c,T,fr,he,h⟩
   cases hq:a.spot with
   | none=>rfl
   | some x=>simp [hq] at hs
 ·cases h
theorem q4e {W:World} {a:Addr} {cells:List Value} (hne:cells≠[]) (h:∀(j:Nat) (v:Value),cells[j]? = some v→W.cell? (a.add j)=some v):At (Fz.whole W) a cells:=by
 obtain ⟨v0,r,rfl⟩:=List.exists_cons_of_ne_nil hne
 obtain ⟨hs,arr,T,fr,hb,h0⟩:=z9g (h 0 v0 rfl)
 rw [show a.add 0=a from rfl] at hs hb h0
 refine ⟨hs,arr,T,fr,hb,fun j v hj =>?_⟩
 obtain ⟨_,arr',T',fr',hb',h1⟩:=z9g (h j v hj)
 have eb:(a.add j).block=a.block:=by unfold Addr.add;split <;> rfl
 have eo:(a.add j).off=a.off+j:=by unfold Addr.add;split <;> simp_all
 rw [eb,hb] at hb'
 simp only [Option.some.injEq,Obj.cells.injEq] at hb'
 rw [eo,← hb'.1] at h1
 exact h1
section
variable {H:Type} {enc:TypeId×Value→H} {W:World}
noncomputable abbrev trd (enc:TypeId×Value→H) (W:World) (n:Nat) (t:TypeId) (cs:List Value):=DataW.trod enc prog W 0 (fun _=>true) true n t cs
theorem pL {α:Type} {R:Fz→List Value→α→Prop} {t e:TypeId} {k fuel:Nat} {cs:List Value} {x:DataW H×List MemPlace} (ht:prog.underlying t=some (.slice e)) (hc:prog.cellsOf e=k) (hk:0 < k)
  (IH:∀m,m < fuel→∀cs x,trd enc W m e cs=some x→∃a:α,R (Fz.whole W) cs a) (h:trd enc W fuel t cs=some x):∃v l,cs=[v]∧SliceOf R (Fz.whole W) k v l:=by
 rcases DataW.trod_slice ht h with ⟨rfl,_⟩ | ⟨a,len,cap,elems,rest,n,rfl,rfl,_,_,hl,hm,hlen,hel,_⟩
 ·exact ⟨_,[],rfl,SliceOf.nil k⟩
 ·rw [hc] at hel
  have key:∀m,m≤len→∃(cells:List Value) (l:List α),cells.length=m * k∧Chunks (R (Fz.whole W)) k cells l∧∀(j:Nat) (v:Value),cells[j]? = some v→W.cell? (a.add j)=some v:=by
   intro m
   induction m with
   | zero=>exact fun _=>⟨[],[],by simp,rfl,fun j v hj=>by simp at hj⟩
   | succ m ih =>
    intro hm'
    obtain ⟨cells,l,h1,h2,h3⟩:=ih (by omega)
    have he:=hel m (by omega)
    rw [List.getElem?_eq_getElem (by omega)] at he
    obtain ⟨cs',e1,e2⟩:=Option.bind_eq_some_iff.1 he
    obtain ⟨_,hlc,hcell⟩:=World.cells?_some e1
    obtain ⟨y,hy⟩:=IH n (Nat.lt_succ_self n) cs' _ e2
    refine ⟨cells++cs',l++[y],by rw [List.length_append,h1,hlc,Nat.succ_mul],h2.snoc hlc hy,fun j v hj =>?_⟩
    by_cases hlt:j < cells.length
    ·rw [List.getElem?_append_left hlt] at hj
     exact h3 j v hj
    ·rw [List.getElem?_append_right (by omega)] at hj
     have hj2:j - cells.length < k:=by
      have:=(List.getElem?_eq_some_iff.1 hj).1
      omega
     have:=hcell (j - cells.length) hj2
     rw [Deep.add_add,hj] at this
     rw [h1] at this hlt hj2
     rw [show m * k+(j - m * k)=j by omega] at this
     exact this
  obtain ⟨cells,l,h1,h2,h3⟩:=key len (Nat.le_refl _)
  exact ⟨_,l,rfl,cells,.inr ⟨a,len,cap,rfl,h1,by omega,fun hne=>q4e hne h3⟩,h2⟩
theorem jF {α:Type} {l:List α} {n:Nat} (h:l.length=n+1):∃a r,l=a::r∧r.length=n:=by
 cases l with
 | nil=>cases h
 | cons a r=>exact ⟨a,r,rfl,by simpa using h⟩
theorem i64_of {n:Int} (h:(Lit.int .i64 n).wf=true):I64 n:=by
 simp only [Lit.wf,Bool.and_eq_true,decide_eq_true_eq] at h
 have h1:=h.1
 have h2:=h.2
 simp [IntKind.min,IntKind.max,IntKind.signed,IntKind.bits] at h1 h2
 exact ⟨by omega,by omega⟩
theorem mL {n:Nat} {cs:List Value} {x:DataW H×List MemPlace} (h:trd enc W n 9 cs=some x):∃s:Bs,cs=[.string s]:=by
 obtain ⟨s,h1,_⟩:=DataW.trod_string underlying9 h
 exact ⟨s,h1⟩
theorem j7c {n:Nat} {cs:List Value} {x:DataW H×List MemPlace} (h:trd enc W n 9 cs=some x):∃s:Bs,RStr (Fz.whole W) cs s:=mL h
theorem q5v {n:Nat} {cs:List Value} {x:DataW H×List MemPlace} (h:trd enc W n 3 cs=some x):∃i:Int,cs=[.int .i64 i]∧I64 i:=by
 obtain ⟨i,h1,_,h2⟩:=DataW.trod_int underlying3 h
 exact ⟨i,h1,i64_of h2⟩
theorem aS {t:TypeId} {fs:Array Field} {n:Nat} {cs:List Value} {x:DataW H×List MemPlace} (ht:prog.underlying t=some (.struct fs)) (h:trd enc W n t cs=some x) :
  ∃m,n=m+1∧cs.length=prog.cellsOf t∧∀(i:Nat) (u:TypeId) (o:Nat),(fs[i]?).map (fun f=>(f.type,f.offset))=some (u,o)→∃y,trd enc W m u ((cs.drop o).take (prog.cellsOf u))=some y:=by
 obtain ⟨xs,m,h1,_,h2,h3,h4⟩:=DataW.trod_struct ht h
 refine ⟨m,h1,h2,fun i u o hf =>?_⟩
 obtain ⟨f,hf2,e⟩:=Option.map_eq_some_iff.1 hf
 simp only [Prod.mk.injEq] at e
 obtain ⟨rfl,rfl⟩:=e
 have hi:i < xs.length:=by
  rw [h3]
  exact (Array.getElem?_eq_some_iff.1 hf2).1
 exact ⟨xs[i],by rw [← List.getElem?_eq_getElem hi];exact h4 i f hf2⟩
theorem c9:prog.cellsOf 9=1:=by kernel_rfl
theorem c3:prog.cellsOf 3=1:=by kernel_rfl
theorem c66:prog.cellsOf 110=5:=by kernel_rfl
theorem c195:prog.cellsOf 174=7:=by kernel_rfl
theorem c42:prog.cellsOf 58=3:=by kernel_rfl
theorem c72:prog.cellsOf 36=2:=by kernel_rfl
theorem c135:prog.cellsOf 128=2:=by kernel_rfl
theorem c133:prog.cellsOf 126=2:=by kernel_rfl
theorem c68:prog.cellsOf 112=8:=by kernel_rfl
theorem c27:prog.cellsOf 27=4:=by kernel_rfl
theorem c25:prog.cellsOf 25=1:=by kernel_rfl
theorem c63:prog.cellsOf 107=1:=by kernel_rfl
theorem c64:prog.cellsOf 108=1:=by kernel_rfl
theorem c38:prog.cellsOf 56=1:=by kernel_rfl
theorem c23:prog.cellsOf 23=1:=by kernel_rfl
theorem c22:prog.cellsOf 22=1:=by kernel_rfl
theorem c24:prog.cellsOf 24=1:=by kernel_rfl
theorem c131:prog.cellsOf 124=1:=by kernel_rfl
theorem tN {n:Nat} {cs:List Value} {x:DataW H×List MemPlace} (h:trd enc W n 25 cs=some x):∃v l,cs=[v]∧SliceOf RStr (Fz.whole W) 1 v l :=
 pL underlying25 c9 (by decide) (fun _ _ _ _ h=>j7c h) h
theorem j4u:∀(n:Nat) (cs:List Value) (x:DataW H×List MemPlace),trd enc W n 110 cs=some x→∃e:Ex,REx (Fz.whole W) cs e:=by
 intro n
 induction n using Nat.strongRecOn with
 | ind n ih =>
  intro cs x h
  obtain ⟨m,rfl,hl,hf⟩:=aS underlying110 h
  rw [c66] at hl
  obtain ⟨a0,r,rfl,hl1⟩:=jF hl
  obtain ⟨a1,r,rfl,hl2⟩:=jF hl1
  obtain ⟨a2,r,rfl,hl3⟩:=jF hl2
  obtain ⟨a3,r,rfl,hl4⟩:=jF hl3
  obtain ⟨a4,r,rfl,hl5⟩:=jF hl4
  obtain rfl:=List.eq_nil_of_length_eq_zero hl5
  obtain ⟨_,f0⟩:=hf 0 3 0 rfl
  obtain ⟨_,f1⟩:=hf 1 3 1 rfl
  obtain ⟨_,f2⟩:=hf 2 9 2 rfl
  obtain ⟨_,f3⟩:=hf 3 107 3 rfl
  obtain ⟨_,f4⟩:=hf 4 108 4 rfl
  simp only [c3,c9,c63,c64,List.drop_succ_cons,List.drop_zero,List.take_succ_cons,List.take_zero] at f0 f1 f2 f3 f4
  obtain ⟨k,e0,_⟩:=q5v f0
  obtain ⟨nm,e1,h1⟩:=q5v f1
  obtain ⟨s,e2⟩:=mL f2
  obtain ⟨v3,l3,e3,h3⟩:=pL (R:=REx) underlying107 c66 (by decide) (fun j hj cs x h=>ih j (by omega) cs x h) f3
  obtain ⟨v4,l4,e4,h4⟩:=pL (R:=RArm) underlying108 c195 (by decide) (fun j hj cs x h=>by
   obtain ⟨m',rfl,hl,hf⟩:=aS underlying174 h
   rw [c195] at hl
   obtain ⟨b0,r,rfl,hl6⟩:=jF hl
   obtain ⟨b1,r,rfl,hl7⟩:=jF hl6
   obtain ⟨_,g0⟩:=hf 0 9 0 rfl
   obtain ⟨_,g1⟩:=hf 1 25 1 rfl
   obtain ⟨_,g2⟩:=hf 2 110 2 rfl
   simp only [c9,c25,c66,List.drop_succ_cons,List.drop_zero,List.take_succ_cons,List.take_zero] at g0 g1 g2
   rw [List.take_of_length_le (by omega)] at g2
   obtain ⟨s,e0⟩:=mL g0
   obtain ⟨v1,l1,e1,h1⟩:=tN g1
   obtain ⟨b,hb⟩:=ih m' (by omega) _ _ g2
   simp only [List.cons.injEq,and_true] at e0 e1
   subst e0 e1
   exact ⟨.mk s l1 b,⟨_,r,rfl,by omega,h1,hb⟩⟩) f4
  simp only [List.cons.injEq,and_true] at e0 e1 e2 e3 e4
  subst e0 e1 e2 e3 e4
  exact ⟨.mk k nm s l3 l4,REx.iff.2 ⟨_,_,rfl,h1,h3,h4⟩⟩
theorem j0c {n:Nat} {cs:List Value} {x:DataW H×List MemPlace} (h:trd enc W n 36 cs=some x):∃p:Param,RParam (Fz.whole W) cs p:=by
 obtain ⟨m,rfl,hl,hf⟩:=aS underlying36 h
 rw [c72] at hl
 obtain ⟨a0,r,rfl,hl11⟩:=jF hl
 obtain ⟨a1,r,rfl,hl12⟩:=jF hl11
 obtain rfl:=List.eq_nil_of_length_eq_zero hl12
 obtain ⟨_,f0⟩:=hf 0 9 0 rfl
 obtain ⟨_,f1⟩:=hf 1 9 1 rfl
 simp only [c9,List.drop_succ_cons,List.drop_zero,List.take_succ_cons,List.take_zero] at f0 f1
 obtain ⟨s,e0⟩:=mL f0
 obtain ⟨u,e1⟩:=mL f1
 simp only [List.cons.injEq,and_true] at e0 e1
 subst e0 e1
 exact ⟨⟨s,u⟩,rfl⟩
theorem j8d {n:Nat} {cs:List Value} {x:DataW H×List MemPlace} (h:trd enc W n 128 cs=some x):∃p:Con,RCon (Fz.whole W) cs p:=by
 obtain ⟨m,rfl,hl,hf⟩:=aS underlying128 h
 rw [c135] at hl
 obtain ⟨a0,r,rfl,hl13⟩:=jF hl
 obtain ⟨a1,r,rfl,hl14⟩:=jF hl13
 obtain rfl:=List.eq_nil_of_length_eq_zero hl14
 obtain ⟨_,f0⟩:=hf 0 9 0 rfl
 obtain ⟨_,f1⟩:=hf 1 25 1 rfl
 simp only [c9,c25,List.drop_succ_cons,List.drop_zero,List.take_succ_cons,List.take_zero] at f0 f1
 obtain ⟨s,e0⟩:=mL f0
 obtain ⟨v,l,e1,h1⟩:=tN f1
 simp only [List.cons.injEq,and_true] at e0 e1
 subst e0 e1
 exact ⟨⟨s,l⟩,_,rfl,h1⟩
theorem j4g {n:Nat} {cs:List Value} {x:DataW H×List MemPlace} (h:trd enc W n 126 cs=some x):∃p:Data,RData (Fz.whole W) cs p:=by
 obtain ⟨m,rfl,hl,hf⟩:=aS underlying126 h
 rw [c133] at hl
 obtain ⟨a0,r,rfl,hl15⟩:=jF hl
 obtain ⟨a1,r,rfl,hl16⟩:=jF hl15
 obtain rfl:=List.eq_nil_of_length_eq_zero hl16
 obtain ⟨_,f0⟩:=hf 0 9 0 rfl
 obtain ⟨_,f1⟩:=hf 1 124 1 rfl
 simp only [c9,c131,List.drop_succ_cons,List.drop_zero,List.take_succ_cons,List.take_zero] at f0 f1
 obtain ⟨s,e0⟩:=mL f0
 obtain ⟨v,l,e1,h1⟩:=pL (R:=RCon) underlying124 c135 (by decide) (fun _ _ _ _ h=>j8d h) f1
 simp only [List.cons.injEq,and_true] at e0 e1
 subst e0 e1
 exact ⟨⟨s,l⟩,_,rfl,h1⟩
theorem z5t {n:Nat} {cs:List Value} {x:DataW H×List MemPlace} (h:trd enc W n 23 cs=some x):∃v l,cs=[v]∧SliceOf RParam (Fz.whole W) 2 v l :=
 pL underlying23 c72 (by decide) (fun _ _ _ _ h=>j0c h) h
theorem x0p {n:Nat} {cs:List Value} {x:DataW H×List MemPlace} (h:trd enc W n 112 cs=some x):∃p:Fun,RFun (Fz.whole W) cs p:=by
 obtain ⟨m,rfl,hl,hf⟩:=aS underlying112 h
 rw [c68] at hl
 obtain ⟨a0,r,rfl,hl17⟩:=jF hl
 obtain ⟨a1,r,rfl,hl18⟩:=jF hl17
 obtain ⟨a2,r,rfl,hl19⟩:=jF hl18
 obtain ⟨_,f0⟩:=hf 0 9 0 rfl
 obtain ⟨_,f1⟩:=hf 1 23 1 rfl
 obtain ⟨_,f2⟩:=hf 2 9 2 rfl
 obtain ⟨_,f3⟩:=hf 3 110 3 rfl
 simp only [c9,c23,c66,List.drop_succ_cons,List.drop_zero,List.take_succ_cons,List.take_zero] at f0 f1 f2 f3
 rw [List.take_of_length_le (by omega)] at f3
 obtain ⟨s,e0⟩:=mL f0
 obtain ⟨v,l,e1,h1⟩:=z5t f1
 obtain ⟨u,e2⟩:=mL f2
 obtain ⟨b,hb⟩:=j4u _ _ _ f3
 simp only [List.cons.injEq,and_true] at e0 e1 e2
 subst e0 e1 e2
 exact ⟨⟨s,l,u,b⟩,_,r,rfl,h1,hb⟩
theorem j4d {n:Nat} {cs:List Value} {x:DataW H×List MemPlace} (h:trd enc W n 27 cs=some x):∃p:Core,RCore (Fz.whole W) cs p:=by
 obtain ⟨m,rfl,hl,hf⟩:=aS underlying27 h
 rw [c27] at hl
 obtain ⟨a0,r,rfl,hl20⟩:=jF hl
 obtain ⟨a1,r,rfl,hl21⟩:=jF hl20
 obtain ⟨a2,r,rfl,hl22⟩:=jF hl21
 obtain ⟨a3,r,rfl,hl23⟩:=jF hl22
 obtain rfl:=List.eq_nil_of_length_eq_zero hl23
 obtain ⟨_,f0⟩:=hf 0 22 0 rfl
 obtain ⟨_,f1⟩:=hf 1 23 1 rfl
 obtain ⟨_,f2⟩:=hf 2 24 2 rfl
 obtain ⟨_,f3⟩:=hf 3 25 3 rfl
 simp only [c22,c23,c24,c25,List.drop_succ_cons,List.drop_zero,List.take_succ_cons,List.take_zero] at f0 f1 f2 f3
 obtain ⟨v0,l0,e0,h0⟩:=pL (R:=RData) underlying22 c133 (by decide) (fun _ _ _ _ h=>j4g h) f0
 obtain ⟨v1,l1,e1,h1⟩:=z5t f1
 obtain ⟨v2,l2,e2,h2⟩:=pL (R:=RFun) underlying24 c68 (by decide) (fun _ _ _ _ h=>x0p h) f2
 obtain ⟨v3,l3,e3,h3⟩:=tN f3
 simp only [List.cons.injEq,and_true] at e0 e1 e2 e3
 subst e0 e1 e2 e3
 exact ⟨⟨l0,l1,l2,l3⟩,_,_,_,_,rfl,h0,h1,h2,h3⟩
end
end Go.Sw

namespace Go.Proofs.YtghdfphedgcpdaaGreatDoor
open Go.ChangeShapes Go.WideShapes Go.ChangeAt Go.RowKit Go.Sw
theorem own:ownKnob Tryz.prog.godebug=none:=by kernel_rfl
theorem laidOut:laidOutB Tryz.prog=true:=by kernel_rfl
abbrev laidAll:List (String×DataW Unit):=Rows.levelInputsRow.laid
theorem q4n {W:World} {g:Nat} {cs:List Value} (h:∀(i:Nat) (v:Value),cs[i]? = some v→W.cell? ⟨g,i,none⟩=some v) (hne:cs≠[]):At (Fz.whole W) ⟨g,0,none⟩ cs :=
 q4e hne fun j v hj=>by
  have:=h j v hj
  have e:(⟨g,0,none⟩:Addr).add j=⟨g,j,none⟩:=by unfold Addr.add;split <;> simp_all
  rw [e];exact this
theorem j5x {W:World} (hsh:W.ShapedOpen Tryz.prog):∃m,At (Fz.whole W) ⟨1,0,none⟩ [.int .i64 m]:=by
 obtain ⟨m,hm⟩:=cell_of_shapedOpen_int (P:=Tryz.prog) (g:=1) (t:=3) (k:=.i64) (zero:=#[.int .i64 0]) hsh (of_decide_eq_true (by kernel_rfl)) (by kernel_rfl) rfl (by kernel_rfl) (by kernel_rfl) (by kernel_rfl)
 exact ⟨m,q4n (fun i v hi=>by
  cases i with
  | zero=>simp at hi;subst hi;exact hm
  | succ i=>simp at hi) (by simp)⟩
theorem tabs_of {W:World} (hL:laidMet Tryz.prog laidAll W):Tabs (Fz.whole W):=by
 have h2:laidMet Tryz.prog (("internal/strconv.uint64pow10",Lib.tabData .u64 Lib.pow10Tab)::_) W:=hL.tail.tail
 have h3:=Lib.tabIs_of_head (P:=Tryz.prog) (g:=0) (t:=274) (e:=219) (n:=20) (by kernel_rfl) (by kernel_rfl) (by kernel_rfl) (by kernel_rfl) (by kernel_rfl) (by kernel_rfl) h2
 intro w hs
 unfold Lib.TabIs at h3 ⊢
 unfold World.var? at h3 ⊢
 cases hg:Tryz.prog.globalNamed "internal/strconv.uint64pow10" with
 | none=>rw [hg] at h3;cases h3
 | some g =>
  rw [hg] at h3
  simp only [Option.bind_some] at h3 ⊢
  split at h3
  ·rename_i cs t fr he
   rw [hs.fz g _ he]
   exact h3
  ·cases h3
theorem err_at {W:World} {n:String} {d:DataW Unit} {g:Nat} {r:List (String×DataW Unit)} (h:laidMet Tryz.prog ((n,d)::r) W) (hg:Tryz.prog.globalNamed n=some g) (ht:(Tryz.prog.globals[g]?).map (·.type)=some 268):ErrAt (Fz.whole W) g:=by
 obtain ⟨ps,⟨g',t',cs,fuel,p,q,hg',ht',hvar,hd,_,_⟩,_⟩:=h
 obtain rfl:=Option.some.inj (hg.symm.trans hg')
 obtain rfl:=Option.some.inj (ht.symm.trans ht')
 have key:∃v,cs.toList=[v]∧(v=.nilIface∨∃t p,v=.iface t p):=by
  cases fuel with
  | zero=>simp [DataW.trod] at hd
  | succ fuel =>
   unfold DataW.trod at hd
   generalize hu:Tryz.prog.underlying 268=u at hd
   have hu2:∃ms,u=some (.interface ms):=⟨_,hu.symm.trans Tryz.underlying268⟩
   clear hu
   obtain ⟨ms,rfl⟩:=hu2
   split at hd <;> simp_all
 obtain ⟨v,hv,hk⟩:=key
 refine ⟨v,q4n (fun i u hi =>?_) (by simp),hk⟩
 cases i with
 | zero =>
  simp at hi;subst hi
  have:=World.var?_cell hg hvar 0
  rw [this,← Array.getElem?_toList,hv]
  rfl
 | succ i=>simp at hi
theorem z1c {W:World} (hsh:W.ShapedOpen Tryz.prog) (hL:laidMet Tryz.prog laidAll W):Glob (Fz.whole W) :=
 ⟨j5x hsh,tabs_of hL,err_at (g:=4) hL.tail.tail.tail.tail.tail (by kernel_rfl) (by kernel_rfl),err_at (g:=5) hL.tail.tail.tail.tail (by kernel_rfl) (by kernel_rfl)⟩
end Go.Proofs.YtghdfphedgcpdaaGreatDoor

namespace Go.Proofs.YtghdfphedgcpdaaGreatDoor
open Go.ChangeShapes Go.WideShapes Go.ChangeAt Go.RowKit Go.Sw
set_option maxRecDepth 100000
section
variable {H:Type} {enc:TypeId×Value→H}
theorem y6k {a:Assume} {C:Checked} {os:Os} {f:FuncId} {fn:Func} {s:ChangeSpec} {conds:List PathCond} {apart fresh handsOn again:Bool} {X:World→Array Value→Prop}
  (hX:∀(w w':World) (args:Array Value),w.heap=w'.heap→X w args→X w' args)
  (own:ownKnob C.prog.godebug=none) (started:os.Started) (noInit:C.prog.inits.idxOf? f=none) (hfn:C.prog.funcs[f]? = some fn)
  (witness:∃(w:World) (tape:Tape) (i:Input),w.os=os∧(w.forCall tape i).Shaped C.prog∧i.vars=[]∧Input.okWide C.prog (w.forCall tape i) .any w.heap.size f i ∧
   ((s.pre enc C.prog fn conds apart (w.forCall tape i).memory i.args∧X (w.forCall tape i).memory i.args)∧sizedMet enc C.prog fn (OpenSpec.ofChange s) apart (w.forCall tape i).memory i.args)∧a.holds C.prog (lone (Frame.enter C.prog f i.args .normal) [] (w.forCall tape i)))
  (contract:∀(W:World) (base:Nat) (args:Array Value) (ds gs:List (DataW H)) (before:List MemPlace),
   (∀(j:Nat) t v,fn.params[j]? = some t→args[j]? = some v→Value.okWide C.prog W .any base t v) →
   DataW.Whole enc C.prog fn.params.toList s.vars apart W args.toList ds gs before→X W args→sizedMet enc C.prog fn (OpenSpec.ofChange s) apart W args→W.ShapedOpen C.prog →
   Calls C.prog f args W fun e W'=>∃v,e=.returned v∧s.post enc C.prog fn apart fresh handsOn again W args v W') :
  ReturnsInHanded a C os f .any (fun w args=>(s.pre enc C.prog fn conds apart w args∧X w args)∧sizedMet enc C.prog fn (OpenSpec.ofChange s) apart w args) (s.post enc C.prog fn apart fresh handsOn again):=by
 refine returnsInHanded_of_calls own started noInit witness ?_
 intro w tape i _ hsh _ hok hpre _
 obtain ⟨_,_,_,fn',hfn',_,_,_,_,hval⟩:=hok
 have e:fn'=fn:=Option.some.inj (hfn'.symm.trans hfn)
 subst e
 obtain ⟨⟨⟨ds,gs,before,hw,_⟩,hx⟩,hp,ds',gs',before',hz,hz'⟩:=hpre
 have hw':=DataW.Whole.of_heap (w':=w.forCall tape i) (by rfl) hw
 refine (contract (w.forCall tape i) w.heap.size i.args ds gs before hval hw' (hX _ _ _ (by rfl) hx) ⟨hp,ds',gs',before',DataW.Whole.of_heap (w':=w.forCall tape i) (by rfl) hz,hz'⟩ hsh).mono fun e W' ⟨v,he,hp⟩ =>?_
 subst he
 exact ChangeSpec.post_blind hp
theorem sX {a:Assume} {C:Checked} {os:Os} {f:FuncId} {fn:Func} {s:ChangeSpec} {conds:List PathCond} {apart fresh handsOn again:Bool} {X:World→Array Value→Prop}
  (hX:∀(w w':World) (args:Array Value),w.heap=w'.heap→X w args→X w' args)
  (own:ownKnob C.prog.godebug=none) (started:os.Started) (noInit:C.prog.inits.idxOf? f=none) (hfn:C.prog.funcs[f]? = some fn)
  (witness:∃(w:World) (tape:Tape) (i:Input),w.os=os∧(w.forCall tape i).Shaped C.prog∧i.vars=[]∧Input.okWide C.prog (w.forCall tape i) .any w.heap.size f i ∧
   ((s.pre enc C.prog fn conds apart (w.forCall tape i).memory i.args∧X (w.forCall tape i).memory i.args)∧sizedMet enc C.prog fn (OpenSpec.ofChange s) apart (w.forCall tape i).memory i.args)∧a.holds C.prog (lone (Frame.enter C.prog f i.args .normal) [] (w.forCall tape i)))
  (contract:∀(W:World) (base:Nat) (args:Array Value) (ds gs:List (DataW H)) (before:List MemPlace),
   (∀(j:Nat) t v,fn.params[j]? = some t→args[j]? = some v→Value.okWide C.prog W .any base t v) →
   DataW.Whole enc C.prog fn.params.toList s.vars apart W args.toList ds gs before→X W args→W.ShapedOpen C.prog →
   Calls C.prog f args W fun e W'=>∃v,e=.returned v∧s.post enc C.prog fn apart fresh handsOn again W args v W') :
  ReturnsInHanded a C os f .any (fun w args=>(s.pre enc C.prog fn conds apart w args∧X w args)∧sizedMet enc C.prog fn (OpenSpec.ofChange s) apart w args) (s.post enc C.prog fn apart fresh handsOn again):=by
 exact y6k hX own started noInit hfn witness fun W base args ds gs before h1 h2 h3 _ h5=>contract W base args ds gs before h1 h2 h3 h5
theorem uW {W W':World} (hm:Mem (Fz.whole W) [] W'):∀k,k < W.heap.size→W'.heap[k]? = W.heap[k]? := fun k hk=>by
 have h:W.heap[k]? = some W.heap[k]:=Array.getElem?_eq_getElem hk
 rw [h]
 exact hm.fz k _ h
theorem x2d {W W':World} (hm:Mem (Fz.whole W) [] W'):W.heap.size≤W'.heap.size:=by
 rcases Nat.lt_or_ge W'.heap.size W.heap.size with h | h
 ·have h1:=uW hm W'.heap.size h
  rw [Array.getElem?_eq_getElem h] at h1
  simp at h1
 ·exact h
theorem j1g {W W':World} (hm:Mem (Fz.whole W) [] W') {t:TypeId} (hr:Tryz.prog.readableRec t=true) (hrow:t < Tryz.prog.types.size) {v:Value} {d:DataW H} {ps:List MemPlace}
  (h:DataW.Trod enc Tryz.prog W 0 (fun _=>true) true t v d ps) (hlt:∀x∈ps,x.block < W.heap.size):DataW.Trod enc Tryz.prog W' 0 (fun b=>decide (b < W.heap.size)) true t v d ps:=by
 have hs:=x2d hm
 have ho:=uW hm
 have hb:Below W.heap.size W { W with heap:=W'.heap }:={ os:=rfl,tape:=rfl,output:=rfl,size:=hs,block:=ho }
 exact DataW.Trod.of_heap (w:={ W with heap:=W'.heap }) (w':=W') rfl (Below.trod laidOut hr hrow h hb hlt)
theorem z8z {W W':World} (hm:Mem (Fz.whole W) [] W'):∀{ts:List TypeId} {vs:List Value} {ds:List (DataW H)} {p:List MemPlace},(∀t∈ts,Tryz.prog.readableRec t=true∧t < Tryz.prog.types.size) →
  DataW.TrodAll enc Tryz.prog W 0 (fun _=>true) true ts vs ds p→(∀x∈p,x.block < W.heap.size)→DataW.TrodAll enc Tryz.prog W' 0 (fun b=>decide (b < W.heap.size)) true ts vs ds p
 | [],_,_,_,_,h,_=>by
  obtain ⟨rfl,rfl,rfl⟩:=trodAll_nil h
  exact h
 | t::ts,_,_,_,hr,h,hlt=>by
  obtain ⟨v,vs,d,ds,p,q,rfl,rfl,rfl,h1,h2⟩:=trodAll_cons h
  exact ⟨p,q,j1g hm (hr t List.mem_cons_self).1 (hr t List.mem_cons_self).2 h1 (fun x hx=>hlt x (List.mem_append_left _ hx)),
   z8z hm (fun u hu=>hr u (List.mem_cons_of_mem _ hu)) h2 (fun x hx=>hlt x (List.mem_append_right _ hx)),rfl⟩
theorem sF {fn:Func} {s:ChangeSpec} {apart fresh handsOn:Bool} {W W':World} {args:Array Value} {ds gs:List (DataW H)} {before:List MemPlace}
  (hW:DataW.Whole enc Tryz.prog fn.params.toList s.vars apart W args.toList ds gs before) (hv:s.vars=[]) (hfn:∀gs:List (DataW H),gs=[]→s.fn H (ds++gs)={ results:=[.lit (.bool true)],args:=ds }) (hres:fn.resultTypes=#[4])
  (hr:∀t∈fn.params.toList,Tryz.prog.readableRec t=true∧t < Tryz.prog.types.size) (hm:Mem (Fz.whole W) [] W'):s.post enc Tryz.prog fn apart fresh handsOn false W args (.bool true) W':=by
 have hlt:=hW.lt
 have hW':=hW
 obtain ⟨p,q,hA,hV,rfl,_,_⟩:=hW
 rw [hv] at hV
 obtain ⟨rfl,rfl⟩:=trodVars_none hV
 have hf:=hfn [] rfl
 refine ⟨ds,[],_,[],p,[],hW',?_,?_,?_,?_,fun h=>by cases h⟩
 ·rw [hf,hres]
  exact trodAll_mk1 (shut_bool Tryz.underlying4 true)
 ·rw [hf]
  exact z8z hm hr hA (fun x hx=>hlt x (by simpa using hx))
 ·rw [hf,hv]
  exact rfl
 ·exact World.keptBut_mono (fun _ h=>h.elim) (World.keptBut_none_iff.2 ⟨hm.os,hm.out,uW hm⟩)
theorem agg_of {t:TypeId} {W:World} {base:Nat} {v:Value} {fs:Array Field} (hu:Tryz.prog.underlying t=some (.struct fs)) (h:Value.okWide Tryz.prog W .any base t v):∃cs:List Value,v=.agg cs.toArray:=by
 obtain ⟨cs,rfl,_⟩:=okWide_struct hu h
 exact ⟨cs.toList,by simp⟩
theorem oQ {W:World} {base:Nat} {v:Value} {d:DataW H} {p:List MemPlace} (hv:Value.okWide Tryz.prog W .any base 27 v) (h:DataW.Trod enc Tryz.prog W 0 (fun _=>true) true 27 v d p):∃cs c,v=.agg (List.toArray cs)∧RCore (Fz.whole W) cs c:=by
 obtain ⟨cs,rfl⟩:=agg_of Tryz.underlying27 hv
 obtain ⟨fuel,hf⟩:=h
 obtain ⟨c,hc⟩:=j4d (enc:=enc) (W:=W) (n:=fuel) (cs:=cs) hf
 exact ⟨cs,c,rfl,hc⟩
end
end Go.Proofs.YtghdfphedgcpdaaGreatDoor

namespace Go.Proofs.YtghdfphedgcpdaaGreatDoor
open Go.ChangeShapes Go.WideShapes Go.ChangeAt Go.RowKit Go.Sw
set_option maxRecDepth 100000
theorem z2d:Tryz.pinned.checked.prog.mainIs=some (true,"8dfb172be620e644952a3b3fbef38f53abbde8464159391a13788f707abd56a4".toList):=by kernel_rfl
theorem sI:true=Tryz.prog.looks []:=by kernel_rfl
theorem xL (W:World):laidMetH Tryz.prog laidAll W=laidMet Tryz.prog laidAll W:=MakeChecks.laidMetH_plain _ _ _ (by kernel_rfl)
theorem sD (os:Os) (args:Array Value):laidMet Tryz.prog laidAll ((World.laidAll Tryz.prog os laidAll).forCall (fun _ _=>0) ⟨#[],args,[]⟩).memory:=laidMet_laidAll _ (by kernel_rfl) (by kernel_rfl)
theorem z2o {l:List TypeId} (h:(l.all fun t=>Tryz.prog.readableRec t&&decide (t < Tryz.prog.types.size))=true) {t:TypeId} (ht:t∈l):Tryz.prog.readableRec t=true∧t < Tryz.prog.types.size:=by
 have:=List.all_eq_true.1 h t ht
 simpa using this
section
variable {H:Type} {enc:TypeId×Value→H}
end
end Go.Proofs.YtghdfphedgcpdaaGreatDoor

namespace Go.Sw
open Go.Proofs.Tryz
open Go.Proofs
theorem y0b:zL prog 210 0 0:=zE runUnderlying210 rfl sizeOf25 (by decide) rfl
theorem x0a:zL prog 210 1 1:=zE runUnderlying210 rfl sizeOf3 (by decide) rfl
set_option maxRecDepth 20000 in
theorem rt_23:RowT prog 23 36 2 32:=⟨underlying23,⟨_,_,Tryz.type36,rfl,rfl,rfl,rfl⟩,by decide,by decide⟩
set_option maxRecDepth 20000 in
theorem rt_24:RowT prog 24 112 8 136:=⟨underlying24,⟨_,_,Tryz.type112,rfl,rfl,rfl,rfl⟩,by decide,by decide⟩
set_option maxRecDepth 20000 in
theorem rt_107:RowT prog 107 110 5 80:=⟨underlying107,⟨_,_,Tryz.type110,rfl,rfl,rfl,rfl⟩,by decide,by decide⟩
set_option maxRecDepth 20000 in
theorem rt_108:RowT prog 108 174 7 120:=⟨underlying108,⟨_,_,Tryz.type174,rfl,rfl,rfl,rfl⟩,by decide,by decide⟩
set_option maxRecDepth 20000 in
theorem rt_124:RowT prog 124 128 2 40:=⟨underlying124,⟨_,_,Tryz.type128,rfl,rfl,rfl,rfl⟩,by decide,by decide⟩
end Go.Sw
