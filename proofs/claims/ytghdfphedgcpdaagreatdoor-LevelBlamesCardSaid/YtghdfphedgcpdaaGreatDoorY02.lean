import Derived.RangeFuncRecord
import Derived.RangeFuncSeq
import Derived.RangeFuncLeaves
import Derived.Recover
import Derived.ChangeArms
import Derived.OpenShut
import Derived.Deep.Slices
import Derived.Test.YtghdfphedgcpdaaGreatDoorCards
import Derived.Test.YtghdfphedgcpdaaGreatDoorTie
import Derived.PinnedBridge
import Derived.Lay
import Derived.LaidOnce
import Derived.SevenTiedAt
import Derived.HandedShaped
import Derived.Carry
import Derived.ProofKit
import Derived.Shelf.Vars
import Derived.Stop.LaidErr
import Derived.JoinedOf
import Derived.Test.YtghdfphedgcpdaaGreatDoorY01
set_option linter.unusedVariables false
set_option linter.unusedSimpArgs false
namespace Go.Sw
variable {P:Program} {n:Nat} {E:List (Nat×Value)} {D:List Deferred} {a:Act} {Φ Ψ:Fz} {K:List Res} {w:World}
variable {dst:Option Tmp} {ty:TypeId} {pos:String} {aft:Array Edge} {g:Option (Nat×Bool)}
variable {Kn:Value->World->Prop} {Qp:List PanicEntry->World->Prop}
def gD:List (Int×Value)->Int->Option Value
 | [],_=>none
 | (k,v)::m,s=>if s=k then some v else gD m s
def iput:List (Int×Value)->Int->Value->List (Int×Value)
 | [],s,x=>[(s,x)]
 | (k,v)::m,s,x=>if s=k then (k,x)::m else (k,v)::iput m s x
def z1p:List (Int×Value)->Int->Nat->Option (Nat×Value)
 | [],_,_=>none
 | (k,v)::m,s,i=>if s=k then some (i,v) else z1p m s (i+1)
theorem z6a:∀(es:List MapEntry) (m:List (Int×Value)) (s:Int) (i:Nat),es.map (fun e=>(e.key,e.val))=m.map (fun p=>(Value.int .i64 p.1,p.2)) ->
  Instr.findNow (.int .i64) (.int .i64 s) es i=some (z1p m s i)
 | [],[],_,_,_=>rfl
 | [],_::_,_,_,h=>by simp at h
 | _::_,[],_,_,h=>by simp at h
 | e::es,(k,v)::m,s,i,h=>by
  simp only [List.map_cons,List.cons.injEq,Prod.mk.injEq] at h
  obtain ⟨⟨h1,a⟩,b⟩:=h
  simp only [Instr.findNow,h1,Instr.sameNow,if_true,z1p]
  by_cases O:s=k
  ·subst O;simp [a]
  ·have hb:(s==k)=false:=by simpa using O
   simp only [hb,if_neg O]
   exact z6a es m s (i+1) b
theorem q0r:∀(m:List (Int×Value)) (s:Int) (i:Nat),(z1p m s i).map (·.2)=gD m s
 | [],_,_=>rfl
 | (k,v)::m,s,i=>by
  simp only [z1p,gD]
  split
  ·rfl
  ·exact q0r m s (i+1)
theorem z3z {kt:TypeId} (a:Under P kt (.int .i64)) (e:Bool) (v:Value) (j:Nat):(Instr.checkKey e (j+1) kt v).run P w=.ok () w:=by
 simp [Instr.checkKey,Sem.run_bind,a w]
theorem z7e {kt:TypeId} (a:Under P kt (.int .i64)) {es:Array MapEntry} {m:List (Int×Value)} (h:es.toList.map (fun e=>(e.key,e.val))=m.map (fun p=>(Value.int .i64 p.1,p.2))) (s:Int) :
  (Instr.findKey kt (.int .i64 s) es.toList).run P w=.ok (z1p m s 0) w:=by
 simp [Instr.findKey,Sem.run_bind,a w,z6a _ _ _ _ h]
theorem q9p {t kt et:TypeId} {b:Nat} {es:Array MapEntry} {clock:Nat} {m:List (Int×Value)} {z:Value} (c:Under P t (.map kt et)) (a:Under P kt (.int .i64)) (d:ZeroT P et z)
  (hb:w.heap[b]? = some (.map es clock)) (h:MapOkI es clock m) (s:Int) (ok:Bool) :
  (Instr.lookup t (.map (some b)) (.int .i64 s) ok).run P w=.ok (zJ ok z (gD m s)) w:=by
 have h1:(getObj b).run P w=.ok (.map es clock) w:=by simp [getObj,Sem.run,hb]
 simp only [Instr.lookup,Sem.run_bind,c w,Result.andThen_ok,h1,Sem.run_pure,z3z a,z7e a h.eq]
 have:=q0r m s 0
 cases N:z1p m s 0 with
 | none=>rw [N] at this;simp only [Option.map_none] at this;rw [<- this];simp [d w,zJ]
 | some p=>rw [N] at this;simp only [Option.map_some] at this;rw [<- this];simp [zJ]
theorem vA (i:Nat) {t kt et:TypeId} {x y:Operand} {b:Nat} {m:List (Int×Value)} {z:Value} {s:Int} {ok:Bool} (f:Under P t (.map kt et)) (e:Under P kt (.int .i64)) (j:ZeroT P et z)
  (J:EnvR n E D a) (N:Sees Φ K w) (g:ev E x=some (.map (some b))) (h:ev E y=some (.int .i64 s)) (d:qU K i=some (.imp b m)):Ok P a (.lookup t x y ok) ty w (zJ ok z (gD m s)):=fun _ _ _ _=>by
 obtain ⟨es,clock,h1,c⟩:=N.own _ (qV d)
 simp only [execOp,J.ev g,J.ev h]
 simp [Sem.run_bind,q9p f e j h1 c]
theorem q3p {t:TypeId} (N:Mem Φ K w) (k:∀b w',Mem Φ (.imp b []::K) w'->Kn (.map (some b)) w'):Oper.eff P ⟨dst,.makeMap t none,ty,pos,aft,g⟩ a w Kn Qp:=by
 unfold Oper.eff
 have:(execOp a.eval ⟨dst,.makeMap t none,ty,pos,aft,g⟩).run P w=.ok (.value (.map (some w.heap.size))) { w with heap:=w.heap.push (.map #[] 0) }:=by
  simp [execOp,Instr.makeMap]
 rw [this]
 refine k _ _ (N.more rfl rfl (fun b hb=>pO hb) ⟨#[],0,by simp,by simp,by simp,by simp⟩ (by simp [Res.foot]))
theorem j6o:∀(m:List (Int×Value)) (s:Int) (v:Value) (j:Nat),iput m s v=match z1p m s j with | none=>m++[(s,v)] | some (i,_)=>m.set (i - j) (s,v)
 | [],_,_,_=>rfl
 | (k,x)::m,s,v,j=>by
  simp only [iput,z1p]
  split
  ·subst_vars;simp
  ·have:=j6o m s v (j+1)
   rw [this]
   have a:∀(m:List (Int×Value)) (j i:Nat) (y:Value),z1p m s j=some (i,y)->j<=i:=by
    intro m
    induction m with
    | nil=>intro j i y h;simp [z1p] at h
    | cons p m b=>
     intro j i y h
     obtain ⟨k,x⟩:=p
     simp only [z1p] at h
     split at h
     ·simp only [Option.some.injEq,Prod.mk.injEq] at h;omega
     ·have:=b (j+1) i y h;omega
   cases N:z1p m s (j+1) with
   | none=>simp
   | some p=>
    obtain ⟨i,y⟩:=p
    have h1:=a m (j+1) i y N
    have e:i - j=(i - (j+1))+1:=by omega
    simp only [e,List.set_cons_succ]
theorem q7n:∀(m:List (Int×Value)) (s:Int) (j i:Nat) (y:Value),z1p m s j=some (i,y)->m[i - j]? = some (s,y)/\j<=i
 | [],_,_,_,_,h=>by simp [z1p] at h
 | (k,x)::m,s,j,i,y,h=>by
  simp only [z1p] at h
  split at h
  ·simp only [Option.some.injEq,Prod.mk.injEq] at h
   obtain ⟨rfl,rfl⟩:=h;subst_vars;simp
  ·obtain ⟨h1,a⟩:=q7n m s (j+1) i y h
   have e:i - j=(i - (j+1))+1:=by omega
   exact ⟨by rw [e];simpa using h1,by omega⟩
theorem y4h (i:Nat) {t kt et:TypeId} {x y z:Operand} {b:Nat} {m:List (Int×Value)} {s:Int} {v:Value} (W:Under P t (.map kt et)) (T:Under P kt (.int .i64))
  (J:EnvR n E D a) (N:Mem Φ K w) (F:ev E x=some (.map (some b))) (X:ev E y=some (.int .i64 s)) (Y:ev E z=some v) (R:qU K i=some (.imp b m))
  (k:∀w',Mem Φ (pU K i (.imp b (iput m s v))) w'->Kn undef w'):Oper.eff P ⟨dst,.mapUpdate t x y z,ty,pos,aft,g⟩ a w Kn Qp:=by
 obtain ⟨es,clock,hb,f⟩:=N.own _ (qV R)
 have h1:(getObj b).run P w=.ok (.map es clock) w:=by simp [getObj,Sem.run,hb]
 have L:b < w.heap.size:=(Array.getElem?_eq_some_iff.1 hb).1
 have u:∀o,(setObj b o).run P w=.ok () { w with heap:=w.heap.setIfInBounds b o }:=fun o=>by simp only [setObj,Sem.run,hb]
 have fin:∀es' clock',MapOkI es' clock' (iput m s v)->Mem Φ (pU K i (.imp b (iput m s v))) { w with heap:=w.heap.setIfInBounds b (.map es' clock') }:=fun es' clock' h=>
  N.upd R rfl rfl (fun c S M=>by simp only;rw [Array.getElem?_setIfInBounds_ne (fun e=>M (by simp [Res.foot,e]))]) ⟨es',clock',by simp [L],h⟩ (.inl rfl)
 unfold Oper.eff
 simp only [execOp,J.ev F,J.ev X,J.ev Y,Instr.mapUpdate,Sem.run_bind,W w,Result.andThen_ok,h1,z3z T,z7e T f.eq]
 have d:=j6o m s v 0
 cases C:z1p m s 0 with
 | none=>
  rw [C] at d
  simp only at d
  simp only [u,Result.andThen_ok,Sem.run_pure,wH]
  refine k _ (fin _ _ ⟨?_,?_,?_⟩)
  ·rw [d];simp [f.eq]
  ·intro e J
   simp only [Array.toList_push,List.mem_append,List.mem_singleton] at J
   rcases J with J | rfl
   ·have:=f.old e J;omega
   ·simp
  ·simp only [Array.toList_push,List.map_append,List.map_cons,List.map_nil]
   rw [List.nodup_append]
   refine ⟨f.nodup,by simp,fun b hb c S U=>?_⟩
   simp only [List.mem_singleton] at S
   obtain ⟨e,J,rfl⟩:=List.mem_map.1 hb
   have:=f.old e J
   omega
 | some p=>
  obtain ⟨j,y⟩:=p
  rw [C] at d
  simp only [Nat.sub_zero] at d
  obtain ⟨H,_⟩:=q7n m s 0 j y C
  simp only [Nat.sub_zero] at H
  have l:es.toList[j]?.map (fun e=>(e.key,e.val))=some (Value.int .i64 s,y):=by
   rw [<- List.getElem?_map,f.eq,List.getElem?_map,H];rfl
  obtain ⟨e,A,G⟩:∃e,es[j]? = some e/\e.key=.int .i64 s:=by
   cases h:es[j]? with
   | none=>
    have h':es.toList[j]? = none:=by simpa using h
    rw [h'] at l;cases l
   | some e=>
    have h':es.toList[j]? = some e:=by simpa using h
    rw [h'] at l;simp only [Option.map_some,Option.some.injEq,Prod.mk.injEq] at l;exact ⟨e,rfl,l.1⟩
  have I:(Instr.keyThatStays (((es[j]?).map (·.key)).getD (.int .i64 s)) (.int .i64 s)).run P w=.ok (.int .i64 s) w:=by
   simp [A,G,Instr.keyThatStays,Instr.sameBits,sP]
  simp only [Sem.run_bind,I,u,Result.andThen_ok,Sem.run_pure,wH]
  have V:j < es.size:=(Array.getElem?_eq_some_iff.1 A).1
  have B:(es.modify j fun e=>{ e with key:=Value.int .i64 s,val:=v }).toList=es.toList.modify j (fun e=>{ e with key:=Value.int .i64 s,val:=v }):=by simp
  refine k _ (fin _ _ ⟨?_,?_,?_⟩)
  ·rw [B,d]
   apply List.ext_getElem?
   intro q
   have hq:es.toList[q]?.map (fun e=>(e.key,e.val))=m[q]?.map (fun p=>(Value.int .i64 p.1,p.2)):=by rw [<- List.getElem?_map,f.eq,List.getElem?_map]
   simp only [List.getElem?_map,List.getElem?_modify,List.getElem?_set]
   by_cases r:j=q
   ·subst r
    have hml':j < m.length:=(List.getElem?_eq_some_iff.1 H).1
    have h':es.toList[j]? = some e:=by simpa using A
    simp [h',hml']
   ·have hq':=hq
    simp only [Array.getElem?_toList] at hq'
    simp [r,hq']
  ·intro x F
   rw [B] at F
   obtain ⟨q,hq⟩:=List.mem_iff_getElem?.1 F
   rw [List.getElem?_modify] at hq
   cases hz':es.toList[q]? with
   | none=>rw [hz'] at hq;simp at hq
   | some e'=>
    rw [hz'] at hq
    have hb':=f.old e' (mgQ hz')
    have Q:=Option.some.inj hq
    rw [<- Q]
    show (if j=q then _ else _:MapEntry).born < clock
    by_cases r:j=q
    ·rw [if_pos r];exact hb'
    ·rw [if_neg r];exact hb'
  ·rw [B]
   have:(es.toList.modify j (fun e=>{ e with key:=Value.int .i64 s,val:=v })).map (·.born)=es.toList.map (·.born):=by
    apply List.ext_getElem?
    intro q
    simp only [List.getElem?_map,List.getElem?_modify]
    cases es.toList[q]? with
    | none=>simp
    | some e'=>simp;split <;> rfl
   rw [this];exact f.nodup
theorem wV (i:Nat) {t kt et:TypeId} {x y z:Operand} {b:Nat} {m:List (Int×Value)} {s:Int} {v:Value} (e:Under P t (.map kt et)) (d:Under P kt (.int .i64))
  (J:EnvR n E D a) (N:Mem Φ K w) (f:ev E x=some (.map (some b))) (h:ev E y=some (.int .i64 s)) (j:ev E z=some v) (c:qU K i=some (.imp b m))
  (k:∀w',Mem Φ (pU K i (.imp b (iput m s v))) w'->Kn undef w'):Oper.eff P ⟨dst,.insert t x y z,ty,pos,aft,g⟩ a w Kn Qp :=
 show Oper.eff P ⟨dst,.mapUpdate t x y z,ty,pos,aft,g⟩ a w Kn Qp from y4h i e d J N f h j c k
end Go.Sw

namespace Go.Sw
theorem Row.one {Φ:Fz} {v:Value} {k:Nat} {cs:List Value} (h:Row Φ v k cs):Value.oneCell' v=true:=by
 rcases h with ⟨rfl,_⟩ | ⟨q,m,c,rfl,_⟩ <;> rfl
theorem SliceOf.one {α:Type} {R:Fz->List Value->α->Prop} {Φ:Fz} {k:Nat} {v:Value} {xs:List α} (h:SliceOf R Φ k v xs):Value.oneCell' v=true :=
 let ⟨_,h1,_⟩:=h;h1.one
def y8r {α:Type} (R:Fz->List Value->α->Prop):Prop:=∀Φ c x,R Φ c x->c.all Value.oneCell'=true
theorem Chunks.ones {α:Type} {R:Fz->List Value->α->Prop} (a:y8r R) {Φ:Fz} {k:Nat}:∀{xs:List α} {cs:List Value},Chunks (R Φ) k cs xs->cs.all Value.oneCell'=true
 | [],cs,h=>by simp only [Chunks] at h;subst h;rfl
 | x::xs,cs,⟨c,rest,h1,_,b,d⟩=>by
  subst h1
  rw [List.all_append,a _ _ _ b,Chunks.ones a d];rfl
theorem RStr.ones:y8r RStr:=fun _ c x h=>by cases h;rfl
theorem RVal.ones:y8r RVal:=fun _ c x h=>by
 obtain ⟨s,rfl,_,h1⟩:=RVal.iff.1 h
 simp only [List.all_cons,h1.one];rfl
theorem REx.ones:y8r REx:=fun _ c x h=>by
 obtain ⟨s,t,rfl,_,h1,a⟩:=REx.iff.1 h
 simp only [List.all_cons,h1.one,a.one];rfl
theorem RArm.ones:y8r RArm:=fun Φ c x h=>by
 obtain ⟨s,b,rfl,h1,a⟩:=RArm.iff.1 h
 have:=REx.ones Φ b x.body a
 simp only [List.all_cons,h1.one,this];rfl
theorem RParam.ones:y8r RParam:=fun _ c x h=>by cases h;rfl
theorem RCon.ones:y8r RCon:=fun _ c x h=>by
 obtain ⟨s,rfl,h1⟩:=h
 simp only [List.all_cons,h1.one];rfl
theorem RData.ones:y8r RData:=fun _ c x h=>by
 obtain ⟨s,rfl,h1⟩:=h
 simp only [List.all_cons,h1.one];rfl
theorem RFun.ones:y8r RFun:=fun Φ c x h=>by
 obtain ⟨s,b,rfl,h1,a⟩:=h
 have:=REx.ones Φ b x.body a
 simp only [List.all_cons,h1.one,this];rfl
theorem RNamed.ones:y8r RNamed:=fun Φ c x h=>by
 obtain ⟨b,rfl,a⟩:=h
 have:=RVal.ones Φ b x.value a
 simp only [List.all_cons,this];rfl
section
variable {P:Program} {n:Nat} {E:List (Nat×Value)} {D:List Deferred} {a:Act} {Φ Ψ:Fz} {K:List Res} {w:World}
end
theorem gR (ok:Bool) (ds:List (Bs×Data)) (m:List (Bs×Maker)) (d:Data) (l:List Data) :
  uB ok ds m (d::l)=uB (xY d.name (aK ok ds d) m d.cons).1 (pW ok ds d) (xY d.name (aK ok ds d) m d.cons).2 l:=rfl
theorem x9k {c:Core} {a:List (Bs×Data)} {b:List (Bs×Maker)} {f o2 g:Bool} {d:List (Bs×Fun)} {e:List (Bs×Bs)} (h1:uB true [] [] (truthsD::c.datas)=(f,a,b)) (i:uC f [] c.funs=(o2,d)) (j:uD o2 [] c.inputs=(g,e)) :
  yK c=⟨c,a,b,d,e⟩/\nS c=g:=by
 have h:dsP c=(f,a,b):=h1
 have e2:fsP c=(o2,d):=by unfold fsP;rw [h];exact i
 have e3:isP c=(g,e):=by unfold isP;rw [e2];exact j
 unfold yK nS
 rw [h,e2,e3];exact ⟨rfl,rfl⟩
end Go.Sw

namespace Go.Sw
mutual
theorem z3g:∀(e:Ex) (l:Int),(jC e l).1=false->((zN e).length:Int)+16+17 * (jC e l).2<=17 * l
 | .mk k n s args arms,l=>by
  intro h
  rw [z6u] at h ⊢
  by_cases hl:l - 1 < 0
  ·rw [if_pos hl] at h;cases h
  ·rw [if_neg hl] at h ⊢
   simp only [Ex.args,Ex.arms] at h ⊢
   have h1:=meass_bind args (l - 1)
   cases N:meass args (l - 1) with
   | mk b q=>
    rw [N] at h h1
    cases b with
    | true=>cases h
    | false=>
     have a:=measa_bind arms q h
     have f:=h1 rfl
     simp only [z2b] at h a f ⊢
     simp only [zN,laQ]
     split <;> simp <;> omega
theorem meass_bind:∀(es:List Ex) (l:Int),(meass es l).1=false->((bindPs es).length:Int)+17 * (meass es l).2<=17 * l
 | [],l=>by intro _;simp [meass,bindPs]
 | e::es,l=>by
  intro h
  rw [uW] at h ⊢
  by_cases hb:(jC e l).1=true
  ·rw [if_pos hb] at h;cases h
  ·rw [if_neg hb] at h ⊢
   have h1:=z3g e l (by simpa using hb)
   have a:=meass_bind es _ h
   simp only [bindPs,laQ]
   omega
theorem measa_bind:∀(es:List Arm) (l:Int),(measa es l).1=false->((bindPa es).length:Int)+17 * (measa es l).2<=17 * l
 | [],l=>by intro _;simp [measa,bindPa]
 | .mk c vs b::es,l=>by
  intro h
  have e:=oD (.mk c vs b) es l
  change measa (.mk c vs b::es) l=(if 16 < vs.length then (true,l) else if (jC b l).1 then (true,(jC b l).2) else measa es (jC b l).2) at e
  rw [e] at h ⊢
  by_cases d:16 < vs.length
  ·rw [if_pos d] at h;cases h
  ·rw [if_neg d] at h ⊢
   by_cases hb:(jC b l).1=true
   ·rw [if_pos hb] at h;cases h
   ·rw [if_neg hb] at h ⊢
    have h1:=z3g b l (by simpa using hb)
    have a:=measa_bind es _ h
    simp only [bindPa,laQ]
    omega
end
theorem q1d:∀{fs:List Fun} {l:Int},dZ fs l=false->l<=6000->∀f∈fs,f.params.length<=16/\(zN f.body).length<=102000
 | [],_,_,_,_,h=>by cases h
 | g::fs,l,h,hl,f,a=>by
  simp only [dZ,Bool.or_eq_false_iff,decide_eq_false_iff_not] at h
  have h1:=z3g g.body l h.1.2
  have b:=wJ g.body l h.1.2
  rcases List.mem_cons.1 a with rfl | a
  ·exact ⟨by omega,by omega⟩
  ·exact q1d h.2 (by omega) f a
theorem z1z {c:Core} (h:xN c=false) {f:Fun} (a:f∈c.funs):f.params.length<=16/\(zN f.body).length<=102000:=by
 simp only [xN,Bool.or_eq_false_iff] at h
 exact q1d h.2 (by omega) f a
theorem j0c {c:Core} (h:nS c=true) {n:Bs} {f:Fun} (a:zK (yK c).funs n=some f):f∈c.funs:=by
 obtain ⟨g,_⟩:=z2o (show (uD (fsP c).1 [] c.inputs).1=true from h)
 obtain ⟨_,b,_⟩:=z2n (show (uC (dsP c).1 [] c.funs).1=true from g)
 have e:(yK c).funs=kM Fun.name id c.funs:=b
 rw [e] at a
 obtain ⟨x,d,_,rfl⟩:=vL a
 exact d
theorem q5e {c:Core} (hl:xN c=false) (h:nS c=true):∀n f,zK (yK c).funs n=some f->f.params.length<=1000:=fun n f a=>by
 have:=(z1z hl (j0c h a)).1;omega
theorem pZ {α:Type} {l:List α} {p:α->Bool} {i:Nat} {x:α} (h:l[i]? = some x):(l.drop i).all p=(p x&&(l.drop (i+1)).all p):=by
 rw [zA h];rfl
theorem q3d {α:Type} {l:List α} {p:α->Bool} {i:Nat} (h:¬i < l.length):(l.drop i).all p=true:=by
 rw [zB h];rfl
theorem z9x {α:Type} {l:List α} {p:α->Bool} (h:l.any (fun x=> !p x)=false):l.all p=true:=by
 induction l with
 | nil=>rfl
 | cons x l a=>
  simp only [List.any_cons,Bool.or_eq_false_iff,Bool.not_eq_false'] at h
  simp only [List.all_cons,h.1,a h.2];rfl
theorem z9y {α:Type} {l:List α} {p:α->Bool} (h:l.any (fun x=> !p x)=true):l.all p=false:=by
 induction l with
 | nil=>cases h
 | cons x l a=>
  simp only [List.any_cons,Bool.or_eq_true,Bool.not_eq_true'] at h
  simp only [List.all_cons]
  rcases h with h | h
  ·rw [h];rfl
  ·rw [a h];simp
section
variable {P:Program} {n:Nat} {E:List (Nat×Value)} {D:List Deferred} {a:Act} {Φ Ψ:Fz} {K K':List Res} {w:World}
variable {Kn:Value->World->Prop} {Qp:List PanicEntry->World->Prop} {dst:Option Tmp} {ty:TypeId} {pos:String} {aft:Array Edge} {g:Option (Nat×Bool)}
variable {f:FuncId} {xs:Array Operand} {ts:Array TypeId} {vs fs cs:List Value} {y:Operand}
theorem mG {β:Type} {X:β->Value} {F1:β->Fz} {KO:β->List Res} {G:β->Prop} (J:EnvR n E D a) (m:ev E y=some (.func (.func f) fs.toArray cs.toArray)) (l:evs E xs.toList=some vs) (j:∀args w,(callFunc f args).run P w=.ok (.enter f args) w)
  (i:Calls P f (fs++vs++cs).toArray w (fun e w'=>∃y,e=.returned (X y)/\G y/\Mem (F1 y) (KO y) w')) (k:∀y w',G y->Mem (F1 y) (KO y) w'->Kn (X y) w') :
  Oper.eff P ⟨dst,.call { callee:=.value y,args:=xs,argTypes:=ts },ty,pos,aft,g⟩ a w Kn Qp :=
 q0b J m l j i (fun v w' h=>by obtain ⟨y,h1,b,d⟩:=h;cases h1;exact k _ _ b d) (fun c w' h=>by obtain ⟨y,h1,_⟩:=h;cases h1) (fun w' h=>by obtain ⟨y,h1,_⟩:=h;cases h1)
theorem Sees.gsSome {i j m c k:Nat} {p:Option Addr} {T:TypeId} {cells:List Value} (N:Sees Φ K w) (d:qU K i=some (.gs (.slice p m c) T k cells)) (e:j < m):∃q,p=some q:=by
 obtain ⟨nn,_,a⟩:=N.own _ (qV d)
 rcases a with ⟨h,_⟩ | ⟨b,cap,cur,h,_⟩
 ·simp only [Value.slice.injEq] at h;omega
 ·simp only [Value.slice.injEq] at h;exact ⟨_,h.1⟩
theorem pR (i j:Nat) {x:Operand} {T b:TypeId} {q:Addr} {m c k:Nat} {cells:List Value} {v:Value} (J:EnvR n E D a) (N:Sees Φ K w)
  (l:ev E x=some (.pointer (some (q.add (j * k))))) (f:qU K i=some (.gs (.slice (some q) m c) b k cells)) (g:cells[j * k]? = some v) (e:Scalar P T):Ok P a (.load T x) ty w v:=fun _ _ _ _=>by
 have h1:w.cell? (q.add (j * k))=some v:=by
  rcases N.rowIn f with ⟨h,_⟩ | ⟨q',m',c',h,_,d⟩
  ·cases h
  ·simp only [Value.slice.injEq,Option.some.injEq] at h
   obtain ⟨rfl,rfl,rfl⟩:=h
   exact d _ _ g
 simp only [execOp,J.ev l]
 simp [Instr.loadAt,Instr.sureAddr,loadVar,Sem.run_bind,e w,Result.andThen,load,Sem.run,h1]
end
def tH (l:List Int):List Value:=l.map (.int .i64)
theorem wY (l:List Int):(tH l).length=l.length:=by simp [tH]
def dW (e:Ex):Prop:=∃l:Int,l<=6000/\(jC e l).1=false
theorem y0r:∀{es:List Ex} {l:Int},l<=6000->(meass es l).1=false->0<=l->((es.length:Int)<=l)/\∀x∈es,dW x
 | [],l,_,_,g=>⟨by simpa using g,fun x a=>by cases a⟩
 | e::es,l,h1,h,g=>by
  rw [uW] at h
  by_cases hb:(jC e l).1=true
  ·rw [if_pos hb] at h;cases h
  ·have hb':(jC e l).1=false:=by simpa using hb
   rw [if_neg hb] at h
   have c:=wJ e l hb'
   have i:(jC e l).2 < l:=by
    rw [z6u] at hb' c ⊢
    by_cases hl:l - 1 < 0
    ·rw [if_pos hl] at hb';cases hb'
    ·rw [if_neg hl] at hb' c ⊢
     cases N:meass e.args (l - 1) with
     | mk b q=>
      have d:=meass_le e.args (l - 1)
      rw [N] at hb' c d
      cases b with
      | true=>cases hb'
      | false=>
       have f:=d rfl (by omega)
       simp only [z2b] at hb' c f ⊢
       have j:=measa_le e.arms q hb' (by omega)
       omega
   obtain ⟨d,f⟩:=y0r (l:=(jC e l).2) (by omega) h (by omega)
   refine ⟨by simp only [lcQ];omega,fun x a=>?_⟩
   rcases List.mem_cons.1 a with rfl | a
   ·exact ⟨l,h1,hb'⟩
   ·exact f x a
theorem y0q:∀{es:List Arm} {l:Int},l<=6000->(measa es l).1=false->0<=l->∀a∈es,dW a.body/\a.vars.length<=16
 | [],l,_,_,_,a,c=>by cases c
 | b::es,l,h1,h,e,a,c=>by
  rw [oD] at h
  by_cases d:16 < b.vars.length
  ·rw [if_pos d] at h;cases h
  ·rw [if_neg d] at h
   by_cases hb:(jC b.body l).1=true
   ·rw [if_pos hb] at h;cases h
   ·rw [if_neg hb] at h
    have hb':(jC b.body l).1=false:=by simpa using hb
    have f:=wJ b.body l hb'
    rcases List.mem_cons.1 c with rfl | c
    ·exact ⟨⟨l,h1,hb'⟩,by omega⟩
    ·exact y0q (l:=(jC b.body l).2) (by omega) h (by omega) a c
theorem aJ {e:Ex} (h:dW e):e.args.length<=6000/\(∀x∈e.args,dW x)/\∀a∈e.arms,dW a.body/\a.vars.length<=16:=by
 obtain ⟨l,h1,h⟩:=h
 rw [z6u] at h
 by_cases hl:l - 1 < 0
 ·rw [if_pos hl] at h;cases h
 ·rw [if_neg hl] at h
  cases N:meass e.args (l - 1) with
  | mk b q=>
   rw [N] at h
   cases b with
   | true=>cases h
   | false=>
    have d:=y0r (es:=e.args) (l:=l - 1) (by omega) (by rw [N]) (by omega)
    have c:=meass_le e.args (l - 1) (by rw [N]) (by omega)
    rw [N] at c
    simp only [z2b] at h c
    exact ⟨by omega,d.2,y0q (by omega) h (by omega)⟩
theorem y0p:∀{fs:List Fun} {l:Int},dZ fs l=false->l<=6000->∀f∈fs,dW f.body
 | [],_,_,_,_,h=>by cases h
 | g::fs,l,h,hl,f,a=>by
  simp only [dZ,Bool.or_eq_false_iff,decide_eq_false_iff_not] at h
  have b:=wJ g.body l h.1.2
  rcases List.mem_cons.1 a with rfl | a
  ·exact ⟨l,hl,h.1.2⟩
  ·exact y0p h.2 (by omega) f a
theorem z4v {c:Core} (h:xN c=false) {f:Fun} (a:f∈c.funs):dW f.body:=by
 simp only [xN,Bool.or_eq_false_iff] at h
 exact y0p h.2 (by omega) f a
end Go.Sw

namespace Go.Sw
theorem RVal.zero {Φ:Fz}:RVal Φ [.string sNo,.int .i64 0,.slice none 0 0] v0:=RVal.iff.2 ⟨_,rfl,⟨by decide,by decide⟩,SliceOf.nil 3⟩
section
variable {P:Program} {n:Nat} {E:List (Nat×Value)} {D:List Deferred} {a:Act} {Φ Ψ:Fz} {K K':List Res} {w:World}
end
section
variable {P:Program} {n:Nat} {E:List (Nat×Value)} {D:List Deferred} {a:Act} {Φ Ψ:Fz} {K K':List Res} {w:World}
variable {Kn:Value->World->Prop} {Qp:List PanicEntry->World->Prop} {dst:Option Tmp} {ty:TypeId} {pos:String} {aft:Array Edge} {g:Option (Nat×Bool)}
end
theorem z1s {l:List Int} {i:Nat} {x:Int} (h:l[i]? = some x):(tH l)[i * 1]? = some (.int .i64 x):=by
 simp [tH,h]
theorem jM {α:Type} {l:List α} {i:Nat} {x:α} (h:l[i]? = some x):l.take (i+1)=l.take i++[x]:=by
 rw [List.take_add_one,h];rfl
theorem z7j {α:Type} {l:List α} {i:Nat} (h:¬i < l.length):l.take i=l:=List.take_of_length_le (by omega)
end Go.Sw

namespace Go.Sw
section
variable {ev:Nat->Ex->Env->Ev Val} {C:Ctx} {g:Nat} {e:Ex} {env:Env}
end
end Go.Sw

namespace Go.Sw
open Go.Proofs.Tryz
open Go.Proofs
theorem mixed:prog.follows .mixedOrders=true:=by kernel_rfl
theorem fo_27_0:zM prog 27 0 0:=zH runUnderlying27 rfl sizeOf22 (by decide) rfl
theorem fo_27_1:zM prog 27 1 1:=zH runUnderlying27 rfl sizeOf23 (by decide) rfl
theorem fo_27_2:zM prog 27 2 2:=zH runUnderlying27 rfl sizeOf24 (by decide) rfl
theorem fo_27_3:zM prog 27 3 3:=zH runUnderlying27 rfl sizeOf25 (by decide) rfl
theorem fo_53_0:zM prog 53 0 0:=zH runUnderlying53 rfl sizeOf51 (by decide) rfl
theorem fo_53_1:zM prog 53 1 1:=zH runUnderlying53 rfl sizeOf3 (by decide) rfl
theorem fo_58_0:zM prog 58 0 0:=zH runUnderlying58 rfl sizeOf9 (by decide) rfl
theorem fo_58_1:zM prog 58 1 1:=zH runUnderlying58 rfl sizeOf3 (by decide) rfl
theorem fo_58_2:zM prog 58 2 2:=zH runUnderlying58 rfl sizeOf56 (by decide) rfl
theorem fo_60_0:zM prog 60 0 0:=zH runUnderlying60 rfl sizeOf9 (by decide) rfl
theorem fo_60_1:zM prog 60 1 1:=zH runUnderlying60 rfl sizeOf58 (by decide) rfl
theorem q7b:zM prog 110 0 0:=zH runUnderlying110 rfl sizeOf3 (by decide) rfl
theorem x4n:zM prog 110 1 1:=zH runUnderlying110 rfl sizeOf3 (by decide) rfl
theorem z1m:zM prog 110 2 2:=zH runUnderlying110 rfl sizeOf9 (by decide) rfl
theorem x4o:zM prog 110 3 3:=zH runUnderlying110 rfl sizeOf107 (by decide) rfl
theorem x4p:zM prog 110 4 4:=zH runUnderlying110 rfl sizeOf108 (by decide) rfl
theorem q7c:zM prog 112 0 0:=zH runUnderlying112 rfl sizeOf9 (by decide) rfl
theorem x4q:zM prog 112 1 1:=zH runUnderlying112 rfl sizeOf23 (by decide) rfl
theorem x4r:zM prog 112 2 2:=zH runUnderlying112 rfl sizeOf9 (by decide) rfl
theorem x4s:zM prog 112 3 3:=zH runUnderlying112 rfl sizeOf110 (by decide) rfl
theorem fo_36_0:zM prog 36 0 0:=zH runUnderlying36 rfl sizeOf9 (by decide) rfl
theorem fo_36_1:zM prog 36 1 1:=zH runUnderlying36 rfl sizeOf9 (by decide) rfl
theorem x4j:zM prog 105 0 0:=zH runUnderlying105 rfl sizeOf96 (by decide) rfl
theorem x4k:zM prog 105 1 1:=zH runUnderlying105 rfl sizeOf100 (by decide) rfl
theorem x4l:zM prog 105 2 2:=zH runUnderlying105 rfl sizeOf102 (by decide) rfl
theorem x4m:zM prog 105 3 3:=zH runUnderlying105 rfl sizeOf3 (by decide) rfl
theorem x4t:zM prog 117 0 0:=zH runUnderlying117 rfl sizeOf27 (by decide) rfl
theorem x4u:zM prog 117 1 4:=zH runUnderlying117 rfl sizeOf113 (by decide) rfl
theorem x4v:zM prog 117 2 5:=zH runUnderlying117 rfl sizeOf114 (by decide) rfl
theorem x4w:zM prog 117 3 6:=zH runUnderlying117 rfl sizeOf115 (by decide) rfl
theorem x4x:zM prog 117 4 7:=zH runUnderlying117 rfl sizeOf70 (by decide) rfl
theorem x5w:zM prog 324 0 0:=zH runUnderlying324 rfl sizeOf322 (by decide) rfl
theorem x5x:zM prog 324 1 1:=zH runUnderlying324 rfl sizeOf237 (by decide) rfl
theorem x4y:zM prog 126 0 0:=zH runUnderlying126 rfl sizeOf9 (by decide) rfl
theorem x4z:zM prog 126 1 1:=zH runUnderlying126 rfl sizeOf124 (by decide) rfl
theorem x5a:zM prog 128 0 0:=zH runUnderlying128 rfl sizeOf9 (by decide) rfl
theorem x5b:zM prog 128 1 1:=zH runUnderlying128 rfl sizeOf25 (by decide) rfl
theorem x5d:zM prog 164 0 0:=zH runUnderlying164 rfl sizeOf9 (by decide) rfl
theorem x5e:zM prog 164 1 1:=zH runUnderlying164 rfl sizeOf58 (by decide) rfl
theorem x5f:zM prog 164 2 4:=zH runUnderlying164 rfl sizeOf162 (by decide) rfl
theorem x5j:zM prog 201 0 0:=zH runUnderlying201 rfl sizeOf9 (by decide) rfl
theorem x5k:zM prog 201 1 1:=zH runUnderlying201 rfl sizeOf128 (by decide) rfl
theorem x5g:zM prog 174 0 0:=zH runUnderlying174 rfl sizeOf9 (by decide) rfl
theorem x5h:zM prog 174 1 1:=zH runUnderlying174 rfl sizeOf25 (by decide) rfl
theorem x5i:zM prog 174 2 2:=zH runUnderlying174 rfl sizeOf110 (by decide) rfl
theorem x5m:zM prog 257 1 1:=zH runUnderlying257 rfl sizeOf29 (by decide) rfl
theorem x5n:zM prog 261 0 0:=zH runUnderlying261 rfl sizeOf3 (by decide) rfl
theorem x5p:zM prog 261 2 2:=zH runUnderlying261 rfl sizeOf9 (by decide) rfl
theorem x5r:zM prog 285 0 0:=zH runUnderlying285 rfl sizeOf9 (by decide) rfl
theorem x5s:zM prog 285 1 1:=zH runUnderlying285 rfl sizeOf3 (by decide) rfl
theorem x5t:zM prog 289 0 0:=zH runUnderlying289 rfl sizeOf285 (by decide) rfl
theorem x5u:zM prog 289 1 2:=zH runUnderlying289 rfl sizeOf286 (by decide) rfl
theorem x5v:zM prog 289 2 3:=zH runUnderlying289 rfl sizeOf287 (by decide) rfl
set_option maxRecDepth 20000 in
theorem rt_22:RowT prog 22 126 2 40:=⟨underlying22,⟨_,_,Tryz.type126,rfl,rfl,rfl,rfl⟩,by decide,by decide⟩
set_option maxRecDepth 20000 in
theorem xQ:RowT prog 25 9 1 16:=⟨underlying25,⟨_,_,Tryz.type9,rfl,rfl,rfl,rfl⟩,by decide,by decide⟩
set_option maxRecDepth 20000 in
theorem j7f:RowT prog 84 3 1 8:=⟨underlying84,⟨_,_,Tryz.type3,rfl,rfl,rfl,rfl⟩,by decide,by decide⟩
set_option maxRecDepth 20000 in
theorem rt_287:RowT prog 287 303 2 16:=⟨underlying287,⟨_,_,Tryz.type303,rfl,rfl,rfl,rfl⟩,by decide,by decide⟩
end Go.Sw

namespace Go.Sw
section
variable {P:Program} {n m:Nat} {E:List (Nat×Value)} {D:List Deferred} {a:Act} {w:World} {ops:Array Oper} {rest:List Oper} {Q:Exit->Act->World->Prop} {r:Option Nat} {d:Nat} {v:Value} {op:Op} {ty:TypeId} {pos:String} {aft:Array Edge}
theorem y1d {o:Oper} {K:Act->World->Prop} (b:∀c,o.op≠.defer c)
  (h:Oper.eff P o a w (fun v w'=>K (a.put o.dst v) w') (fun c w'=>Q (.panic c) a w')):o.wpIn (FO r) m P a w K Q:=by
 refine ⟨fun f _=>FO.fn f,?_⟩
 rw [Oper.semAt_plain _ _ _ b]
 unfold Oper.eff at h
 generalize (execOp a.eval o).run P w=q at *
 cases q with
 | ok x w'=>
  cases x <;> simp only [wH] at h <;> simp only [Oper.uponIn]
  case value=>exact h
  case skip=>exact h
  case enter f args=>exact ⟨fun d=>(FO.depth d).elim,FO.calls (h.mono fun e w'' J=>by cases e <;> first | exact J | exact J.elim)⟩
 | halt x w'=>cases x <;> simp only [wH] at h;simp only [Oper.uponIn];exact h
theorem y5c {o:Oper} (J:EnvR n E D a) (i:o.dst=some d) (b:Nat.blt d n=true) (j:o.guard=none) (e:∀c,o.op≠.defer c)
  (h:Oper.eff P o a w (fun v w'=>∀a,EnvR n ((d,v)::E) D a->wpListIn (FO r) m P ops Q rest a w') (fun _ _=>False)):wpListIn (FO r) m P ops Q (o::rest) a w:=by
 refine wpListIn_plain j fun L f=>y1d e (xL h (fun v w' k=>f _ _ ?_) (fun c w' g=>g.elim))
 rw [i];exact k _ (J.put b)
theorem q4b {o:Oper} (J:EnvR n E D a) (f:o.dst=none) (g:o.guard=none) (b:∀c,o.op≠.defer c)
  (h:Oper.eff P o a w (fun _ w'=>∀a,EnvR n E D a->wpListIn (FO r) m P ops Q rest a w') (fun _ _=>False)):wpListIn (FO r) m P ops Q (o::rest) a w:=by
 refine wpListIn_plain g fun L d=>y1d b (xL h (fun v w' i=>d _ _ ?_) (fun c w' e=>e.elim))
 rw [f];exact i _ J.put_none
theorem yZ (J:EnvR n E D a) (b:∀c,op≠.defer c) (f:Ok P a op ty w v) (e:Nat.blt d n=true) (k:∀a,EnvR n ((d,v)::E) D a->wpListIn (FO r) m P ops Q rest a w) :
  wpListIn (FO r) m P ops Q (⟨some d,op,ty,pos,aft,none⟩::rest) a w :=
 y5c J rfl e rfl b (dO f k)
theorem xZ {id:Nat} {l:List Oper} (h:wpListIn (FO none) 3 P l.toArray Q l a w):(Code.region id l.toArray false).wp P Q a w:=wpIn_wide.1 (wpIn_region_lit h)
theorem y5d {y x:Operand} {ts:Array TypeId} {l:Nat} {JJ:World->Prop} (J:EnvR n E D a) (b:Nat.blt d n=true) (q:ev E y=some (.func (.yield l) #[] #[])) (p:ev E x=some v)
  (hr:YieldAt Fence.wide 2 P l #[v] w (fun e w'=>e=.returned (.bool true)/\JJ w')) (k:∀w',JJ w'->∀a,EnvR n ((d,.bool true)::E) D a->wpListIn (FO none) 3 P ops Q rest a w') :
  wpListIn (FO none) 3 P ops Q (⟨some d,.call { callee:=.value y,args:=#[x],argTypes:=ts },ty,pos,aft,none⟩::rest) a w:=by
 obtain ⟨fn,tmps,assign,body,h1,g⟩:=hr
 refine wpListIn_plain rfl fun L m=>⟨fun f _=>trivial,?_⟩
 rw [Oper.semAt_plain _ _ _ (by intro c h;cases h)]
 have i:(execOp a.eval ⟨some d,.call { callee:=.value y,args:=#[x],argTypes:=ts },ty,pos,aft,none⟩).run P w=.ok (.round l fn tmps assign body) w:=by
  simp only [execOp,resolve,Sem.run_bind,List.map_toArray,List.map_cons,List.map_nil,J.ev p,J.ev q,Deferred.ofValue]
  simp [invoke,Sem.run_bind,Result.andThen,h1]
 rw [i,Oper.uponIn_round]
 refine ⟨fun o=>(by cases o),g.mono fun e w' he'=>?_⟩
 obtain ⟨rfl,j⟩:=he'
 exact m _ _ (k _ j _ (J.put b))
end
section
variable {P:Program} {Φ Ψ:Fz} {K:List Res} {w:World}
theorem Mem.putObj {i l:Nat} {o o':Obj} (N:Mem Φ K w) (b:qU K i=some (.blk l o)):Mem Φ (pU K i (.blk l o')) (w.putObj l o'):=by
 have hb:l < w.heap.size:=(Array.getElem?_eq_some_iff.1 (N.own _ (qV b))).1
 exact N.upd b rfl rfl (fun c d a=>World.putObj_heap_other (fun e=>a (by simp [Res.foot,e]))) (World.putObj_heap_same hb) (.inl rfl)
theorem q9n {β γ:Type} {l n:Nat} {r:Loop} {tmps:Array Value} {E:List (Nat×Value)} {E1:β->List (Nat×Value)} {K1:β->List Res} {KO:γ->List Res} (N:Mem Φ (.blk l (.loop r)::K) w) (b:r.state=.ready) (d:r.pending=none)
  (J:EnvR n E [] ⟨tmps,[]⟩)
  (s:∀a,EnvR n E [] a->r.assign.wpIn (FO (some l)) 2 P (Exit.then (fun j g=>∃y,EnvR n (E1 y) [] j/\Mem Φ (.blk l (.loop r)::K1 y) g) (fun _ _ _=>False)) a w)
  (t:∀y a w,EnvR n (E1 y) [] a->Mem Φ (.blk l (.loop { r with state:=.busy })::K1 y) w->r.body.wpIn (FO (some l)) 2 P (fun e _ w=>e=.normal/\∃z,Mem Φ (.blk l (.loop { r with state:=.busy })::KO z) w) a w) :
  RoundIn Fence.wide 2 P l r.fn tmps r.assign r.body w (fun e w'=>e=.returned (.bool true)/\∃z,Mem Φ (.blk l (.loop r)::KO z) w'):=by
 refine roundIn_of_wpIn trivial (Code.wpIn_mono (fun e j g h=>?_) (s _ J))
 cases e with
 | normal=>
  obtain ⟨y,h1,k⟩:=h
  have hl:g.heap[l]? = some (.loop r):=k.own _ msQ
  refine ⟨_,run_beginRound hl b,?_⟩
  have q:=k.putObj (i:=0) (o':=.loop { r with state:=.busy }) rfl
  refine Code.wpIn_mono (fun e a2 u h=>?_) (t y _ _ h1 q)
  obtain ⟨rfl,z,m⟩:=h
  have f:u.heap[l]? = some (.loop { r with state:=.busy }):=m.own _ msQ
  refine ⟨_,_,run_endRound none f,rfl,z,?_⟩
  have o:=m.putObj (i:=0) (o':=.loop { ({ r with state:=.busy }:Loop) with state:=.ready,pending:=none }) rfl
  have p:({ ({ r with state:=.busy }:Loop) with state:=.ready,pending:=none }:Loop)=r:=by cases r;simp only at b d;subst b;subst d;rfl
  simp only [pU,p] at o;simpa [p] using o
 | exit id=>exact h.elim
 | goto l=>exact h.elim
 | ret=>exact h.elim
 | panic c=>exact h.elim
 | outgrown=>exact h.elim
theorem z7q {β δ:Type} {n gf:Nat} {E:List (Nat×Value)} {Dd:List Deferred} {a:Act} {g:Operand} {ps:Array Tmp} {assign body:Code} {Q:Exit->Act->World->Prop} {fs cs:List Value} {F1:β->Fz} {KO:β->List Res} {KE:δ->List Res} {G:β->Prop} {B:δ->List PanicEntry->Prop}
  (J:EnvR n E Dd a) (N:Mem Φ K w) (A:ev E g=some (.func (.func gf) fs.toArray cs.toArray)) (u:∀args w,(callFunc gf args).run P w=.ok (.enter gf args) w)
  (s:∀Dk l r w,r.params=ps->r.assign=assign->r.body=body->r.state=.ready->r.pending=none->EnvR n E [] ⟨r.tmps,[]⟩->Mem Φ (.blk l (.loop r)::.blk Dk (.deferred (some []))::K) w ->
   Calls P gf (fs++[Value.func (.yield l) #[] #[]]++cs).toArray w (fun e w'=>(∃v y,e=.returned v/\G y/\Mem (F1 y) (.blk l (.loop r)::.blk Dk (.deferred (some []))::KO y) w')∨(∃c z,e=.panicked c/\B z c/\Mem Φ (.blk Dk (.deferred (some []))::KE z) w')))
  (kn:∀Dk y a w,G y->EnvR n E ({ target:=.collected Dk,args:=#[] }::Dd) a->Mem (F1 y) (.blk Dk (.deferred (some []))::KO y) w->Q .normal a w)
  (kp:∀Dk z c a w,B z c->EnvR n E ({ target:=.collected Dk,args:=#[] }::Dd) a->Mem Φ (.blk Dk (.deferred (some []))::KE z) w->Q (.panic c) a w):(Code.rangeFunc g ps assign body).wp P Q a w:=by
 refine (wpIn_wide (n:=3)).1 (wpIn_rangeFunc fun fn _=>?_)
 generalize j:((w.alloc (.deferred (some []))).alloc (.loop { state:=.ready,pending:=none,fn,tmps:=a.tmps,params:=ps,assign,body,defers:=w.heap.size }))=f
 have m:Mem Φ (.blk (w.heap.size+1) (.loop { state:=.ready,pending:=none,fn,tmps:=a.tmps,params:=ps,assign,body,defers:=w.heap.size })::.blk w.heap.size (.deferred (some []))::K) f:=by
  have h1:=N.push (.deferred (some []))
  have k:=h1.push (.loop { state:=.ready,pending:=none,fn,tmps:=a.tmps,params:=ps,assign,body,defers:=w.heap.size })
  have p:({ w with heap:=w.heap.push (.deferred (some [])) }:World).heap.size=w.heap.size+1:=Array.size_push _
  rw [p] at k
  rw [<- j];exact k
 have o:EnvR n E ({ target:=.collected w.heap.size,args:=#[] }::Dd) { a with defers:=[{ target:=.collected w.heap.size,args:=#[] }]++a.defers }:=⟨J.size,J.env,by simp [J.defs]⟩
 have d:=s w.heap.size (w.heap.size+1) { state:=.ready,pending:=none,fn,tmps:=a.tmps,params:=ps,assign,body,defers:=w.heap.size } f rfl rfl rfl rfl rfl ⟨J.size,J.env,rfl⟩ m
 refine ⟨w.heap.size+1,[{ target:=.collected w.heap.size,args:=#[] }],f,{ target:=.fn (.func gf) cs.toArray,args:=(fs++[Value.func (.yield (w.heap.size+1)) #[] #[]]).toArray },f,gf,(fs++[Value.func (.yield (w.heap.size+1)) #[] #[]]++cs).toArray,f,?_,?_,fun f' _=>trivial,?_,fun t=>(by cases t),?_⟩
 ·rw [show Fence.wide.round=none from rfl,run_enterLoop_outer,j]
 ·have h1:=J.ev A
  have k:a.eval (.const (.func (.yield (w.heap.size+1)) #[] #[]))=.func (.yield (w.heap.size+1)) #[] #[]:=rfl
  simp only [resolve,Sem.run_bind,h1,k,List.map_toArray,List.map_cons,List.map_nil]
  simp [Deferred.ofValue]
 ·have:=u (fs++[Value.func (.yield (w.heap.size+1)) #[] #[]]++cs).toArray f
  simp only [invoke]
  simpa using this
 ·refine callsIn_wide.2 (d.mono fun e C h=>?_)
  rcases h with ⟨v,y,rfl,hG,b⟩ | ⟨c,z,rfl,q,b⟩
  ·have hl:C.heap[w.heap.size+1]? = _:=b.own _ msQ
   refine ⟨_,_,run_endLoop hl (by intro h;cases h),?_⟩
   exact kn _ y _ _ hG o (b.putObj (i:=0) rfl).tail
  ·exact kp _ z c _ _ q o b
def nN (P:Program) (fn:Func) (tmps:Array Value) (R:Ending->World->Prop) (ds:List Deferred) (u:FrameMode) (w:World):Prop :=
 ∀(fr:Frame) (cs:List Frame),fr.mode=u->fr.defers=ds->fr.tmps=tmps->P.funcs[fr.fn]? = some fn->fr.kind=.normal ->
  ∃e w' fr',R e w'/\Comes P (lone fr cs w) (lone fr' cs w') e/\fr'.fn=fr.fn/\fr'.leaving P w' e
theorem oB {fn:Func} {tmps:Array Value} {R:Ending->World->Prop} {ds:List Deferred} {u:FrameMode} (h:Leaves P fn tmps R ds u w):nN P fn tmps R ds u w :=
 fun fr cs h1 a b c d=>leaves_steps ds u w fr cs h1 a b c d h
theorem aV {fn:Func} {tmps:Array Value} {R:Ending->World->Prop} {Dk:Nat} {ds:List Deferred} {u:FrameMode} (j:u≠.run) (k:w.heap[Dk]? = some (.deferred (some [])))
  (h:nN P fn tmps R ds u (w.putObj Dk (.deferred none))):nN P fn tmps R ({ target:=.collected Dk,args:=#[] }::ds) u w:=by
 intro fr cs h1 b c d f
 have O:=step_collected (P:=P) (cs:=cs) (h1▸j) b rfl (run_takeDeferred k)
 obtain ⟨e,w',fr',g,i,a,hl⟩:=h { fr with defers:=[]++ds } cs h1 rfl c d f
 exact ⟨e,w',fr',g,Comes.of_steps (.one O) i,a,hl⟩
def aC (P:Program) (fn:Func) (R:Ending->World->Prop):Exit->Act->World->Prop
 | .normal,a,w | .ret,a,w=>nN P fn a.tmps R a.defers .returning w
 | .panic chain,a,w=>nN P fn a.tmps R a.defers (.panicking chain) w
 | .outgrown,_,w=>R .outgrown w
 | _,_,_=>False
theorem y8t {f:FuncId} {fn:Func} {c:Code} {args:Array Value} {w:World} {R:Ending->World->Prop}
  (i:P.funcs[f]? = some fn) (hb:fn.body=some c)
  (h:c.wp P (aC P fn R) { tmps:=args++Array.replicate (fn.ntmps - args.size) undef,defers:=[] } w):Calls P f args w R:=by
 intro cs
 let b:Frame:={ (default:Frame) with fn:=f,kind:=.normal }
 have henter:Frame.enter P f args .normal =
   b.at { tmps:=args++Array.replicate (fn.ntmps - args.size) undef,defers:=[] } [.code c]:=by
  simp [Frame.enter,Frame.at,i,hb,b]
 obtain ⟨e,a',w',hq,a⟩:=h b [] cs
 rw [<- henter] at a
 cases e with
 | normal=>
  obtain ⟨e',w'',fr',g,O,d,hl⟩:=hq { b.at a' [] with mode:=.returning } cs rfl rfl rfl i rfl
  exact ⟨e',w'',fr',g,Comes.of_steps (Steps.trans a (.one step_end)) O,d,hl⟩
 | ret=>
  obtain ⟨todo,hs₀⟩:=a
  obtain ⟨e',w'',fr',g,O,d,hl⟩:=hq { b.at a' todo with mode:=.returning } cs rfl rfl rfl i rfl
  exact ⟨e',w'',fr',g,Comes.of_steps hs₀ O,d,hl⟩
 | panic chain=>
  obtain ⟨todo,hs₀⟩:=a
  obtain ⟨e',w'',fr',g,O,d,hl⟩:=hq { b.at a' todo with mode:=.panicking chain } cs rfl rfl rfl i rfl
  exact ⟨e',w'',fr',g,Comes.of_steps hs₀ O,d,hl⟩
 | exit id=>exact hq.elim
 | goto l=>exact hq.elim
 | outgrown=>exact ⟨.outgrown,w',b,hq,a.resolve_left (by simp [b]),rfl,trivial⟩
theorem z8h {n:Nat} {f:FuncId} {fn:Func} {c:Code} {vs:List Value} {R:Ending->World->Prop} (g:P.funcs[f]? = some fn) (hb:fn.body=some c) (i:fn.ntmps=n) (hl:Nat.ble vs.length n=true)
  (k:∀Q:Exit->Act->World->Prop,(∀e a w,aC P fn R e a w->Q e a w)->∀a,EnvR n (oU 0 vs) [] a->c.wp P Q a w):Calls P f vs.toArray w R:=by
 have hl':vs.length<=n:=by simpa using hl
 refine y8t g hb (k _ (fun _ _ _ h=>h) _ ⟨by simp [i];omega,fun t v j=>?_,rfl⟩)
 obtain ⟨_,b⟩:=oV vs 0 t v j
 simp only [Nat.sub_zero] at b
 have d:t < vs.length:=(List.getElem?_eq_some_iff.1 b).1
 simp only [List.getElem?_toArray,Array.getElem?_append,List.size_toArray,d,↓reduceIte]
 exact b
end
theorem q2a {P:Program} {n:Nat} {E:List (Nat×Value)} {a:Act} {w:World} {fn:Func} {R:Ending->World->Prop} (J:EnvR n E [] a) (hr:fn.results=#[]) (h:R (.returned (.tuple #[])) w):bodyPost P fn R .normal a w :=
 ⟨J.defs,.tuple #[],by simp [results,hr],h⟩
section
variable {P:Program} {n:Nat} {E:List (Nat×Value)} {D:List Deferred} {a:Act} {w:World} {ops:Array Oper} {rest:List Oper} {Q:Exit->Act->World->Prop} {ty:TypeId} {pos:String} {aft:Array Edge}
theorem y1b {y:Operand} {fv:Fn} {fs cs vs:List Value} {xs:Array Operand} {ts:Array TypeId} (J:EnvR n E D a) (d:ev E y=some (.func fv fs.toArray cs.toArray)) (c:evs E xs.toList=some vs)
  (k:∀a,EnvR n E ({ target:=.fn fv cs.toArray,args:=(fs++vs).toArray }::D) a->wpList P ops Q rest a w) :
  wpList P ops Q (⟨none,.defer { callee:=.value y,args:=xs,argTypes:=ts },ty,pos,aft,none⟩::rest) a w:=by
 refine wpList_plain rfl fun L b=>?_
 unfold Oper.wp
 simp only [execOp,resolve,J.evsA c,J.ev d,Deferred.ofValue]
 refine b _ _ (k _ ⟨J.size,J.env,?_⟩)
 simp [Act.put,J.defs]
end
section
variable {P:Program} {n:Nat} {E:List (Nat×Value)} {D:List Deferred} {a:Act} {w:World} {ty:TypeId}
theorem j0s {x:Operand} {t t0:TypeId} {d:TypeDesc} {v:Value} (J:EnvR n E D a) (e:ev E x=some (.iface t v)) (c:Under P t d) (b:∀ms,d≠.interface ms) :
  Ok P a (.typeAssert x t0 t true) ty w (.tuple #[v,.bool true]):=fun _ _ _ _=>by
 simp only [execOp,J.ev e,Instr.typeAssert]
 simp only [Sem.run_bind,c _,Result.andThen,if_true]
 cases d <;> first | (exact absurd rfl (b _)) | simp [Sem.run_bind,Result.andThen]
end
section
variable {P:Program} {n:Nat} {E:List (Nat×Value)} {D:List Deferred} {a:Act} {w:World} {d:Nat} {ops:Array Oper} {rest:List Oper} {Q:Exit->Act->World->Prop}
theorem stP {o:Oper} (J:EnvR n E D a) (g:o.dst=some d) (b:Nat.blt d n=true) (i:o.guard=none)
  (h:Oper.eff P o a w (fun v w'=>∀a,EnvR n ((d,v)::E) D a->wpList P ops Q rest a w') (fun c w'=>∀a,EnvR n E D a->Q (.panic c) a w')):wpList P ops Q (o::rest) a w:=by
 refine wpList_plain i fun L e=>uF (xL h (fun v w' j=>e _ _ ?_) (fun c w' f=>f _ J))
 rw [g];exact j _ (J.put b)
end
theorem q4w {P:Program} {fn:Func} {n:Nat} {E:List (Nat×Value)} {D:List Deferred} {a:Act} {Φ:Fz} {K:List Res} {w:World} {t T b i:Nat} {cs:List Value} {c:TypeId} {v:Value} (J:EnvR n E D a) (N:Sees Φ K w) (hr:fn.results=#[.cell t T]) (g:get E t=some (.pointer (some ⟨b,0,none⟩)))
  (f:qU K i=some (.blk b (ob cs c))) (e:nth cs 0=some v) (d:Scalar P T):(results fn a.tmps).run P w=.ok v w:=by
 have h1:=N.cell f 0
 rw [e] at h1
 simp [results,hr,Array.getD_eq_getD_getElem?,J.env t _ g,asAddr,loadVar,Sem.run_bind,d w,Result.andThen,load,Sem.run,h1]
section
variable {P:Program} {n:Nat} {E:List (Nat×Value)} {D:List Deferred} {a:Act} {Φ:Fz} {K:List Res} {w:World}
theorem j5r {t T b k i:Nat} {cs:List Value} {d:TypeId} (J:EnvR n E D a) (N:Sees Φ K w) (m:get E t=some (.pointer (some ⟨b,0,none⟩)))
  (l:qU K i=some (.blk b (ob cs d))) (f:AggT P T) (e:SizeT P T k) (hl:cs.length=k):(loadVar T ⟨b,0,none⟩).run P w=.ok (.agg cs.toArray) w:=by
 have g:∀j v,cs[j]? = some v->w.cell? ((⟨b,0,none⟩:Addr).add j)=some v:=fun j v h=>by
  have h1:=N.cell l j
  rw [z5a,h] at h1
  unfold Addr.add;split
  ·subst_vars;exact h1
  ·simpa using h1
 have c:=run_loadCells_list (P:=P) (w:=w) ⟨b,0,none⟩ cs g
 rw [hl] at c
 simp [loadVar,Sem.run_bind,f w,e w,c,Result.andThen]
end
section
variable {P:Program} {n:Nat} {E:List (Nat×Value)} {D:List Deferred} {a:Act} {Φ Ψ:Fz} {K:List Res} {w:World}
theorem Mem.freezeMap {b i:Nat} {m:List (Bs×Value)} (N:Mem Φ K w) (c:qU K i=some (.mp b m)):∃Ψ,Φ.Le Ψ/\Mem Ψ (tJ K i) w/\MapAt Ψ b m:=by
 have h:=N.pull c
 obtain ⟨es,clock,d,a⟩:=N.own _ (qV c)
 exact ⟨_,Fz.le_add (h.no rfl) _,h.freezeHead (b:=b) rfl d,es,clock,by simp [Fz.add],a⟩
theorem q9h {fn:Func} {t u x T U k i j b c:Nat} {v y:Value} {cs:List Value} {g h:TypeId} (J:EnvR n E D a) (N:Sees Φ K w) (hr:fn.results=#[.tmp x,.cell t T,.cell u U]) (s:get E x=some y) (r:get E t=some (.pointer (some ⟨b,0,none⟩)))
  (q:qU K i=some (.blk b (ob [v] g))) (p:Scalar P T) (f:get E u=some (.pointer (some ⟨c,0,none⟩))) (e:qU K j=some (.blk c (ob cs h))) (d:AggT P U) (o:SizeT P U k) (hl:cs.length=k) :
  (results fn a.tmps).run P w=.ok (.tuple #[y,v,.agg cs.toArray]) w:=by
 have h1:w.cell? ⟨b,0,none⟩=some v:=N.cell q 0
 have l:=j5r (P:=P) J N f e d o hl
 have m:(loadVar T ⟨b,0,none⟩).run P w=.ok v w:=by simp [loadVar,Sem.run_bind,p w,Result.andThen,load,Sem.run,h1]
 simp [results,hr,Array.getD_eq_getD_getElem?,J.env t _ r,J.env u _ f,J.env x _ s,asAddr,l,m,Sem.run_bind,Result.andThen]
end
theorem j8y {P:Program} {n:Nat} {E:List (Nat×Value)} {D:List Deferred} {a:Act} {w:World} {Kn:Value->World->Prop} {Qp:List PanicEntry->World->Prop} {dst:Option Tmp} {ty:TypeId} {pos:String} {aft:Array Edge} {g:Option (Nat×Bool)}
  {α β ε δ:Type} {f:FuncId} {xs:Array Operand} {ts:Array TypeId} {vs:List Value} {r:Except ε α} {X:α->β->Value} {Z:ε->δ->Value} {b d:Fz} {KO:α->β->List Res} {KE:ε->δ->List Res}
  (J:EnvR n E D a) (m:evs E xs.toList=some vs) (l:∀args w,(callFunc f args).run P w=.ok (.enter f args) w)
  (j:Calls P f vs.toArray w (fun e w'=>Out r (fun x=>∃y,e=.returned (X x y)/\Mem b (KO x y) w') (fun c=>∃y,e=.returned (Z c y)/\Mem d (KE c y) w')))
  (k:∀x y w',r=.ok x->Mem b (KO x y) w'->Kn (X x y) w') (kp:∀c y w',r=.error c->Mem d (KE c y) w'->Kn (Z c y) w') :
  Oper.eff P ⟨dst,.call { callee:=.value (.func f),args:=xs,argTypes:=ts },ty,pos,aft,g⟩ a w Kn Qp:=by
 refine aR J m l j (fun v w' h=>?_) (fun c w' h=>?_) (fun w' h=>?_)
 ·cases r with
  | ok x=>obtain ⟨y,h1,i⟩:=h;cases h1;exact k _ _ _ rfl i
  | error c=>obtain ⟨y,h1,i⟩:=h;cases h1;exact kp _ _ _ rfl i
 ·cases r with
  | ok x=>obtain ⟨y,h1,_⟩:=h;cases h1
  | error c=>obtain ⟨y,h1,_⟩:=h;cases h1
 ·cases r with
  | ok x=>obtain ⟨y,h1,_⟩:=h;cases h1
  | error c=>obtain ⟨y,h1,_⟩:=h;cases h1
end Go.Sw

namespace Go.Sw
open Go.Proofs
end Go.Sw

namespace Go.Sw
open Go.Proofs.Tryz
open Go.Proofs
def Fz.whole (W:World):Fz:=⟨fun b=>W.heap[b]?,W.os,W.output⟩
theorem Mem.whole (W:World):Mem (Fz.whole W) [] W :=
 { fz:=fun _ _ h=>h,own:=fun _ h=>(by cases h),os:=rfl,out:=rfl,nodup:=List.nodup_nil,apart:=fun _ h=>(by cases h) }
theorem y3n {W:World} {a:Addr} {v:Value} (h:W.cell? a=some v):a.spot=none/\∃arr T fr,W.heap[a.block]? = some (.cells arr T fr)/\arr[a.off]? = some v:=by
 unfold World.cell? at h
 split at h
 ·rename_i c T fr J
  split at h
  ·cases h
  ·rename_i O
   refine ⟨?_,c,T,fr,J,h⟩
   cases hq:a.spot with
   | none=>rfl
   | some x=>simp [hq] at O
 ·cases h
theorem q5z {W:World} {a:Addr} {cells:List Value} (b:cells≠[]) (h:∀(j:Nat) (v:Value),cells[j]? = some v->W.cell? (a.add j)=some v):At (Fz.whole W) a cells:=by
 obtain ⟨v0,r,rfl⟩:=List.exists_cons_of_ne_nil b
 obtain ⟨O,arr,T,fr,hb,c⟩:=y3n (h 0 v0 rfl)
 rw [show a.add 0=a from rfl] at O hb c
 refine ⟨O,arr,T,fr,hb,fun j v d=>?_⟩
 obtain ⟨_,arr',T',fr',hb',h1⟩:=y3n (h j v d)
 have eb:(a.add j).block=a.block:=by unfold Addr.add;split <;> rfl
 have eo:(a.add j).off=a.off+j:=by unfold Addr.add;split <;> simp_all
 rw [eb,hb] at hb'
 simp only [Option.some.injEq,Obj.cells.injEq] at hb'
 rw [eo,<- hb'.1] at h1
 exact h1
section
variable {H:Type} {enc:TypeId×Value->H} {W:World}
noncomputable abbrev trd (enc:TypeId×Value->H) (W:World) (n:Nat) (t:TypeId) (cs:List Value):=DataW.trod enc prog W 0 (fun _=>true) true n t cs
theorem nZ {α:Type} {R:Fz->List Value->α->Prop} {t e:TypeId} {k fuel:Nat} {cs:List Value} {x:DataW H×List MemPlace} (w:prog.underlying t=some (.slice e)) (u:prog.cellsOf e=k) (B:0 < k)
  (IH:∀m,m < fuel->∀cs x,trd enc W m e cs=some x->∃a:α,R (Fz.whole W) cs a) (h:trd enc W fuel t cs=some x):∃v l,cs=[v]/\SliceOf R (Fz.whole W) k v l:=by
 rcases DataW.trod_slice w h with ⟨rfl,_⟩ | ⟨a,len,cap,elems,rest,n,rfl,rfl,_,_,hl,N,r,d,_⟩
 ·exact ⟨_,[],rfl,SliceOf.nil k⟩
 ·rw [u] at d
  have key:∀m,m<=len->∃(cells:List Value) (l:List α),cells.length=m * k/\Chunks (R (Fz.whole W)) k cells l/\∀(j:Nat) (v:Value),cells[j]? = some v->W.cell? (a.add j)=some v:=by
   intro m
   induction m with
   | zero=>exact fun _=>⟨[],[],by simp,rfl,fun j v c=>by simp at c⟩
   | succ m A=>
    intro hm'
    obtain ⟨cells,l,h1,o,p⟩:=A (by omega)
    have J:=d m (by omega)
    rw [List.getElem?_eq_getElem (by omega)] at J
    obtain ⟨cs',s,e2⟩:=Option.bind_eq_some_iff.1 J
    obtain ⟨_,g,b⟩:=World.cells?_some s
    obtain ⟨y,z⟩:=IH n (Nat.lt_succ_self n) cs' _ e2
    refine ⟨cells++cs',l++[y],by rw [laQ,h1,g,Nat.succ_mul],o.snoc g z,fun j v c=>?_⟩
    by_cases i:j < cells.length
    ·rw [List.getElem?_append_left i] at c
     exact p j v c
    ·rw [List.getElem?_append_right (by omega)] at c
     have f:j - cells.length < k:=by
      have:=(List.getElem?_eq_some_iff.1 c).1
      omega
     have:=b (j - cells.length) f
     rw [Deep.add_add,c] at this
     rw [h1] at this i f
     rw [show m * k+(j - m * k)=j by omega] at this
     exact this
  obtain ⟨cells,l,h1,o,p⟩:=key len (Nat.le_refl _)
  exact ⟨_,l,rfl,cells,.inr ⟨a,len,cap,rfl,h1,by omega,fun q=>q5z q p⟩,o⟩
theorem jJ {α:Type} {l:List α} {n:Nat} (h:l.length=n+1):∃a r,l=a::r/\r.length=n:=by
 cases l with
 | nil=>cases h
 | cons a r=>exact ⟨a,r,rfl,by simpa using h⟩
theorem i64_of {n:Int} (h:(Lit.int .i64 n).wf=true):I64 n:=by
 simp only [Lit.wf,baQ,decide_eq_true_eq] at h
 have h1:=h.1
 have a:=h.2
 simp [IntKind.min,IntKind.max,IntKind.signed,IntKind.bits] at h1 a
 exact ⟨by omega,by omega⟩
theorem cC {n:Nat} {cs:List Value} {x:DataW H×List MemPlace} (h:trd enc W n 9 cs=some x):∃s:Bs,cs=[.string s]:=by
 obtain ⟨s,h1,_⟩:=DataW.trod_string underlying9 h
 exact ⟨s,h1⟩
theorem x2f {n:Nat} {cs:List Value} {x:DataW H×List MemPlace} (h:trd enc W n 9 cs=some x):∃s:Bs,RStr (Fz.whole W) cs s:=cC h
theorem q7q {n:Nat} {cs:List Value} {x:DataW H×List MemPlace} (h:trd enc W n 3 cs=some x):∃i:Int,cs=[.int .i64 i]/\I64 i:=by
 obtain ⟨i,h1,_,a⟩:=DataW.trod_int underlying3 h
 exact ⟨i,h1,i64_of a⟩
theorem cY {t:TypeId} {fs:Array Field} {n:Nat} {cs:List Value} {x:DataW H×List MemPlace} (k:prog.underlying t=some (.struct fs)) (h:trd enc W n t cs=some x) :
  ∃m,n=m+1/\cs.length=prog.cellsOf t/\∀(i:Nat) (u:TypeId) (o:Nat),(fs[i]?).map (fun f=>(f.type,f.offset))=some (u,o)->∃y,trd enc W m u ((cs.drop o).take (prog.cellsOf u))=some y:=by
 obtain ⟨xs,m,h1,_,b,c,d⟩:=DataW.trod_struct k h
 refine ⟨m,h1,b,fun i u o g=>?_⟩
 obtain ⟨f,a,e⟩:=Option.map_eq_some_iff.1 g
 simp only [Prod.mk.injEq] at e
 obtain ⟨rfl,rfl⟩:=e
 have j:i < xs.length:=by
  rw [c]
  exact (Array.getElem?_eq_some_iff.1 a).1
 exact ⟨xs[i],by rw [<- List.getElem?_eq_getElem j];exact d i f a⟩
theorem c9:prog.cellsOf 9=1:=by kernel_rfl
theorem c3:prog.cellsOf 3=1:=by kernel_rfl
theorem c66:prog.cellsOf 110=5:=by kernel_rfl
theorem c195:prog.cellsOf 174=7:=by kernel_rfl
theorem c42:prog.cellsOf 58=3:=by kernel_rfl
theorem c72:prog.cellsOf 36=2:=by kernel_rfl
theorem c135:prog.cellsOf 128=2:=by kernel_rfl
theorem c133:prog.cellsOf 126=2:=by kernel_rfl
theorem c68:prog.cellsOf 112=8:=by kernel_rfl
theorem c27:prog.cellsOf 27=4:=by kernel_rfl
theorem c25:prog.cellsOf 25=1:=by kernel_rfl
theorem c63:prog.cellsOf 107=1:=by kernel_rfl
theorem c64:prog.cellsOf 108=1:=by kernel_rfl
theorem c38:prog.cellsOf 56=1:=by kernel_rfl
theorem c23:prog.cellsOf 23=1:=by kernel_rfl
theorem c22:prog.cellsOf 22=1:=by kernel_rfl
theorem c24:prog.cellsOf 24=1:=by kernel_rfl
theorem c131:prog.cellsOf 124=1:=by kernel_rfl
theorem z3o {n:Nat} {cs:List Value} {x:DataW H×List MemPlace} (h:trd enc W n 25 cs=some x):∃v l,cs=[v]/\SliceOf RStr (Fz.whole W) 1 v l :=
 nZ underlying25 c9 (by decide) (fun _ _ _ _ h=>x2f h) h
theorem j9c:∀(n:Nat) (cs:List Value) (x:DataW H×List MemPlace),trd enc W n 110 cs=some x->∃e:Ex,REx (Fz.whole W) cs e:=by
 intro n
 induction n using Nat.strongRecOn with
 | ind n A=>
  intro cs x h
  obtain ⟨m,rfl,hl,a⟩:=cY underlying110 h
  rw [c66] at hl
  obtain ⟨a0,r,rfl,g⟩:=jJ hl
  obtain ⟨K,r,rfl,i⟩:=jJ g
  obtain ⟨a2,r,rfl,l⟩:=jJ i
  obtain ⟨a3,r,rfl,o⟩:=jJ l
  obtain ⟨a4,r,rfl,p⟩:=jJ o
  obtain rfl:=List.eq_nil_of_length_eq_zero p
  obtain ⟨_,t⟩:=a 0 3 0 rfl
  obtain ⟨_,u⟩:=a 1 3 1 rfl
  obtain ⟨_,v⟩:=a 2 9 2 rfl
  obtain ⟨_,w⟩:=a 3 107 3 rfl
  obtain ⟨_,y⟩:=a 4 108 4 rfl
  simp only [c3,c9,c63,c64,List.drop_succ_cons,List.drop_zero,List.take_succ_cons,List.take_zero] at t u v w y
  obtain ⟨k,c,_⟩:=q7q t
  obtain ⟨nm,d,h1⟩:=q7q u
  obtain ⟨s,e2⟩:=cC v
  obtain ⟨v3,G,e3,B⟩:=nZ (R:=REx) underlying107 c66 (by decide) (fun j D cs x h=>A j (by omega) cs x h) w
  obtain ⟨v4,I,e4,C⟩:=nZ (R:=RArm) underlying108 c195 (by decide) (fun j D cs x h=>by
   obtain ⟨m',rfl,hl,a⟩:=cY underlying174 h
   rw [c195] at hl
   obtain ⟨L,r,rfl,q⟩:=jJ hl
   obtain ⟨M,r,rfl,E⟩:=jJ q
   obtain ⟨_,z⟩:=a 0 9 0 rfl
   obtain ⟨_,g1⟩:=a 1 25 1 rfl
   obtain ⟨_,f⟩:=a 2 110 2 rfl
   simp only [c9,c25,c66,List.drop_succ_cons,List.drop_zero,List.take_succ_cons,List.take_zero] at z g1 f
   rw [List.take_of_length_le (by omega)] at f
   obtain ⟨s,c⟩:=cC z
   obtain ⟨P,F,d,h1⟩:=z3o g1
   obtain ⟨b,hb⟩:=A m' (by omega) _ _ f
   simp only [List.cons.injEq,and_true] at c d
   subst c d
   exact ⟨.mk s F b,⟨_,r,rfl,by omega,h1,hb⟩⟩) y
  simp only [List.cons.injEq,and_true] at c d e2 e3 e4
  subst c d e2 e3 e4
  exact ⟨.mk k nm s G I,REx.iff.2 ⟨_,_,rfl,h1,B,C⟩⟩
theorem j2w {n:Nat} {cs:List Value} {x:DataW H×List MemPlace} (h:trd enc W n 36 cs=some x):∃p:Param,RParam (Fz.whole W) cs p:=by
 obtain ⟨m,rfl,hl,g⟩:=cY underlying36 h
 rw [c72] at hl
 obtain ⟨a0,r,rfl,a⟩:=jJ hl
 obtain ⟨i,r,rfl,b⟩:=jJ a
 obtain rfl:=List.eq_nil_of_length_eq_zero b
 obtain ⟨_,e⟩:=g 0 9 0 rfl
 obtain ⟨_,f⟩:=g 1 9 1 rfl
 simp only [c9,List.drop_succ_cons,List.drop_zero,List.take_succ_cons,List.take_zero] at e f
 obtain ⟨s,c⟩:=cC e
 obtain ⟨u,d⟩:=cC f
 simp only [List.cons.injEq,and_true] at c d
 subst c d
 exact ⟨⟨s,u⟩,rfl⟩
theorem x3l {n:Nat} {cs:List Value} {x:DataW H×List MemPlace} (h:trd enc W n 128 cs=some x):∃p:Con,RCon (Fz.whole W) cs p:=by
 obtain ⟨m,rfl,hl,g⟩:=cY underlying128 h
 rw [c135] at hl
 obtain ⟨a0,r,rfl,a⟩:=jJ hl
 obtain ⟨i,r,rfl,b⟩:=jJ a
 obtain rfl:=List.eq_nil_of_length_eq_zero b
 obtain ⟨_,e⟩:=g 0 9 0 rfl
 obtain ⟨_,f⟩:=g 1 25 1 rfl
 simp only [c9,c25,List.drop_succ_cons,List.drop_zero,List.take_succ_cons,List.take_zero] at e f
 obtain ⟨s,c⟩:=cC e
 obtain ⟨v,l,d,h1⟩:=z3o f
 simp only [List.cons.injEq,and_true] at c d
 subst c d
 exact ⟨⟨s,l⟩,_,rfl,h1⟩
theorem j8n {n:Nat} {cs:List Value} {x:DataW H×List MemPlace} (h:trd enc W n 126 cs=some x):∃p:Data,RData (Fz.whole W) cs p:=by
 obtain ⟨m,rfl,hl,g⟩:=cY underlying126 h
 rw [c133] at hl
 obtain ⟨a0,r,rfl,a⟩:=jJ hl
 obtain ⟨i,r,rfl,b⟩:=jJ a
 obtain rfl:=List.eq_nil_of_length_eq_zero b
 obtain ⟨_,e⟩:=g 0 9 0 rfl
 obtain ⟨_,f⟩:=g 1 124 1 rfl
 simp only [c9,c131,List.drop_succ_cons,List.drop_zero,List.take_succ_cons,List.take_zero] at e f
 obtain ⟨s,c⟩:=cC e
 obtain ⟨v,l,d,h1⟩:=nZ (R:=RCon) underlying124 c135 (by decide) (fun _ _ _ _ h=>x3l h) f
 simp only [List.cons.injEq,and_true] at c d
 subst c d
 exact ⟨⟨s,l⟩,_,rfl,h1⟩
theorem y0v {n:Nat} {cs:List Value} {x:DataW H×List MemPlace} (h:trd enc W n 23 cs=some x):∃v l,cs=[v]/\SliceOf RParam (Fz.whole W) 2 v l :=
 nZ underlying23 c72 (by decide) (fun _ _ _ _ h=>j2w h) h
theorem x6c {n:Nat} {cs:List Value} {x:DataW H×List MemPlace} (h:trd enc W n 112 cs=some x):∃p:Fun,RFun (Fz.whole W) cs p:=by
 obtain ⟨m,rfl,hl,d⟩:=cY underlying112 h
 rw [c68] at hl
 obtain ⟨a0,r,rfl,a⟩:=jJ hl
 obtain ⟨q,r,rfl,c⟩:=jJ a
 obtain ⟨a2,r,rfl,o⟩:=jJ c
 obtain ⟨_,i⟩:=d 0 9 0 rfl
 obtain ⟨_,j⟩:=d 1 23 1 rfl
 obtain ⟨_,k⟩:=d 2 9 2 rfl
 obtain ⟨_,e⟩:=d 3 110 3 rfl
 simp only [c9,c23,c66,List.drop_succ_cons,List.drop_zero,List.take_succ_cons,List.take_zero] at i j k e
 rw [List.take_of_length_le (by omega)] at e
 obtain ⟨s,f⟩:=cC i
 obtain ⟨v,l,g,h1⟩:=y0v j
 obtain ⟨u,e2⟩:=cC k
 obtain ⟨b,hb⟩:=j9c _ _ _ e
 simp only [List.cons.injEq,and_true] at f g e2
 subst f g e2
 exact ⟨⟨s,l,u,b⟩,_,r,rfl,h1,hb⟩
theorem j8k {n:Nat} {cs:List Value} {x:DataW H×List MemPlace} (h:trd enc W n 27 cs=some x):∃p:Core,RCore (Fz.whole W) cs p:=by
 obtain ⟨m,rfl,hl,e⟩:=cY underlying27 h
 rw [c27] at hl
 obtain ⟨a0,r,rfl,a⟩:=jJ hl
 obtain ⟨y,r,rfl,b⟩:=jJ a
 obtain ⟨a2,r,rfl,c⟩:=jJ b
 obtain ⟨a3,r,rfl,d⟩:=jJ c
 obtain rfl:=List.eq_nil_of_length_eq_zero d
 obtain ⟨_,i⟩:=e 0 22 0 rfl
 obtain ⟨_,j⟩:=e 1 23 1 rfl
 obtain ⟨_,k⟩:=e 2 24 2 rfl
 obtain ⟨_,l⟩:=e 3 25 3 rfl
 simp only [c22,c23,c24,c25,List.drop_succ_cons,List.drop_zero,List.take_succ_cons,List.take_zero] at i j k l
 obtain ⟨v0,t,f,o⟩:=nZ (R:=RData) underlying22 c133 (by decide) (fun _ _ _ _ h=>j8n h) i
 obtain ⟨z,u,g,h1⟩:=y0v j
 obtain ⟨v2,v,e2,q⟩:=nZ (R:=RFun) underlying24 c68 (by decide) (fun _ _ _ _ h=>x6c h) k
 obtain ⟨v3,w,e3,s⟩:=z3o l
 simp only [List.cons.injEq,and_true] at f g e2 e3
 subst f g e2 e3
 exact ⟨⟨t,u,v,w⟩,_,_,_,_,rfl,o,h1,q,s⟩
end
end Go.Sw

namespace Go.Proofs.YtghdfphedgcpdaaGreatDoor
open Go.ChangeShapes Go.WideShapes Go.ChangeAt Go.RowKit Go.Sw
theorem own:ownKnob Tryz.prog.godebug=none:=by kernel_rfl
theorem laidOut:laidOutB Tryz.prog=true:=by kernel_rfl
abbrev laidAll:List (String×DataW Unit):=Rows.levelInputsRow.laid
theorem q6i {W:World} {g:Nat} {cs:List Value} (h:∀(i:Nat) (v:Value),cs[i]? = some v->W.cell? ⟨g,i,none⟩=some v) (a:cs≠[]):At (Fz.whole W) ⟨g,0,none⟩ cs :=
 q5z a fun j v b=>by
  have:=h j v b
  have e:(⟨g,0,none⟩:Addr).add j=⟨g,j,none⟩:=by unfold Addr.add;split <;> simp_all
  rw [e];exact this
theorem x0l {W:World} (b:W.ShapedOpen Tryz.prog):∃m,At (Fz.whole W) ⟨1,0,none⟩ [.int .i64 m]:=by
 obtain ⟨m,N⟩:=cell_of_shapedOpen_int (P:=Tryz.prog) (g:=1) (t:=3) (k:=.i64) (zero:=#[.int .i64 0]) b (of_decide_eq_true (by kernel_rfl)) (by kernel_rfl) rfl (by kernel_rfl) (by kernel_rfl) (by kernel_rfl)
 exact ⟨m,q6i (fun i v a=>by
  cases i with
  | zero=>simp at a;subst a;exact N
  | succ i=>simp at a) (by simp)⟩
theorem tabs_of {W:World} (d:laidMet Tryz.prog laidAll W):Tabs (Fz.whole W):=by
 have c:laidMet Tryz.prog (("internal/strconv.uint64pow10",Lib.tabData .u64 Lib.pow10Tab)::_) W:=d.tail.tail
 have a:=Lib.tabIs_of_head (P:=Tryz.prog) (g:=0) (t:=274) (e:=219) (n:=20) (by kernel_rfl) (by kernel_rfl) (by kernel_rfl) (by kernel_rfl) (by kernel_rfl) (by kernel_rfl) c
 intro w O
 unfold Lib.TabIs at a ⊢
 unfold World.var? at a ⊢
 cases b:Tryz.prog.globalNamed "internal/strconv.uint64pow10" with
 | none=>rw [b] at a;cases a
 | some g=>
  rw [b] at a
  simp only [Option.bind_some] at a ⊢
  split at a
  ·rename_i cs t fr J
   rw [O.fz g _ J]
   exact a
  ·cases a
theorem err_at {W:World} {n:String} {d:DataW Unit} {g:Nat} {r:List (String×DataW Unit)} (h:laidMet Tryz.prog ((n,d)::r) W) (f:Tryz.prog.globalNamed n=some g) (l:(Tryz.prog.globals[g]?).map (·.type)=some 268):ErrAt (Fz.whole W) g:=by
 obtain ⟨ps,⟨g',t',cs,fuel,p,q,hg',ht',a,b,_,_⟩,_⟩:=h
 obtain rfl:=Option.some.inj (f.symm.trans hg')
 obtain rfl:=Option.some.inj (l.symm.trans ht')
 have key:∃v,cs.toList=[v]/\(v=.nilIface∨∃t p,v=.iface t p):=by
  cases fuel with
  | zero=>simp [DataW.trod] at b
  | succ fuel=>
   unfold DataW.trod at b
   generalize j:Tryz.prog.underlying 268=u at b
   have e:∃ms,u=some (.interface ms):=⟨_,j.symm.trans Tryz.underlying268⟩
   clear j
   obtain ⟨ms,rfl⟩:=e
   split at b <;> simp_all
 obtain ⟨v,m,k⟩:=key
 refine ⟨v,q6i (fun i u c=>?_) (by simp),k⟩
 cases i with
 | zero=>
  simp at c;subst c
  have:=World.var?_cell f a 0
  rw [this,<- Array.getElem?_toList,m]
  rfl
 | succ i=>simp at c
theorem glob_of {W:World} (b:W.ShapedOpen Tryz.prog) (a:laidMet Tryz.prog laidAll W):Glob (Fz.whole W) :=
 ⟨x0l b,tabs_of a,err_at (g:=4) a.tail.tail.tail.tail.tail (by kernel_rfl) (by kernel_rfl),err_at (g:=5) a.tail.tail.tail.tail (by kernel_rfl) (by kernel_rfl)⟩
end Go.Proofs.YtghdfphedgcpdaaGreatDoor

namespace Go.Proofs.YtghdfphedgcpdaaGreatDoor
open Go.ChangeShapes Go.WideShapes Go.ChangeAt Go.RowKit Go.Sw
set_option maxRecDepth 100000
section
variable {H:Type} {enc:TypeId×Value->H}
theorem j4y {a:Assume} {C:Checked} {os:Os} {f:FuncId} {fn:Func} {s:ChangeSpec} {conds:List PathCond} {apart fresh handsOn again:Bool} {X:World->Array Value->Prop}
  (l:∀(w w':World) (args:Array Value),w.heap=w'.heap->X w args->X w' args)
  (own:ownKnob C.prog.godebug=none) (started:os.Started) (noInit:C.prog.inits.idxOf? f=none) (d:C.prog.funcs[f]? = some fn)
  (witness:∃(w:World) (tape:Tape) (i:Input),w.os=os/\(w.forCall tape i).Shaped C.prog/\i.vars=[]/\Input.okWide C.prog (w.forCall tape i) .any w.heap.size f i /\
   ((s.pre enc C.prog fn conds apart (w.forCall tape i).memory i.args/\X (w.forCall tape i).memory i.args)/\sizedMet enc C.prog fn (OpenSpec.ofChange s) apart (w.forCall tape i).memory i.args)/\a.holds C.prog (lone (Frame.enter C.prog f i.args .normal) [] (w.forCall tape i)))
  (contract:∀(W:World) (base:Nat) (args:Array Value) (ds gs:List (DataW H)) (before:List MemPlace),
   (∀(j:Nat) t v,fn.params[j]? = some t->args[j]? = some v->Value.okWide C.prog W .any base t v) ->
   DataW.Whole enc C.prog fn.params.toList s.vars apart W args.toList ds gs before->X W args->sizedMet enc C.prog fn (OpenSpec.ofChange s) apart W args->W.ShapedOpen C.prog ->
   Calls C.prog f args W fun e W'=>∃v,e=.returned v/\s.post enc C.prog fn apart fresh handsOn again W args v W') :
  ReturnsInHanded a C os f .any (fun w args=>(s.pre enc C.prog fn conds apart w args/\X w args)/\sizedMet enc C.prog fn (OpenSpec.ofChange s) apart w args) (s.post enc C.prog fn apart fresh handsOn again):=by
 refine returnsInHanded_of_calls own started noInit witness ?_
 intro w tape i _ k _ g b _
 obtain ⟨_,_,_,fn',hfn',_,_,_,_,c⟩:=g
 have e:fn'=fn:=Option.some.inj (hfn'.symm.trans d)
 subst e
 obtain ⟨⟨⟨ds,gs,before,m,_⟩,n⟩,h,ds',gs',before',o,hz'⟩:=b
 have hw':=DataW.Whole.of_heap (w':=w.forCall tape i) (by rfl) m
 refine (contract (w.forCall tape i) w.heap.size i.args ds gs before c hw' (l _ _ _ (by rfl) n) ⟨h,ds',gs',before',DataW.Whole.of_heap (w':=w.forCall tape i) (by rfl) o,hz'⟩ k).mono fun e W' ⟨v,J,h⟩=>?_
 subst J
 exact ChangeSpec.post_blind h
theorem j0r {a:Assume} {C:Checked} {os:Os} {f:FuncId} {fn:Func} {s:ChangeSpec} {conds:List PathCond} {apart fresh handsOn again:Bool} {X:World->Array Value->Prop}
  (h:∀(w w':World) (args:Array Value),w.heap=w'.heap->X w args->X w' args)
  (own:ownKnob C.prog.godebug=none) (started:os.Started) (noInit:C.prog.inits.idxOf? f=none) (b:C.prog.funcs[f]? = some fn)
  (witness:∃(w:World) (tape:Tape) (i:Input),w.os=os/\(w.forCall tape i).Shaped C.prog/\i.vars=[]/\Input.okWide C.prog (w.forCall tape i) .any w.heap.size f i /\
   ((s.pre enc C.prog fn conds apart (w.forCall tape i).memory i.args/\X (w.forCall tape i).memory i.args)/\sizedMet enc C.prog fn (OpenSpec.ofChange s) apart (w.forCall tape i).memory i.args)/\a.holds C.prog (lone (Frame.enter C.prog f i.args .normal) [] (w.forCall tape i)))
  (contract:∀(W:World) (base:Nat) (args:Array Value) (ds gs:List (DataW H)) (before:List MemPlace),
   (∀(j:Nat) t v,fn.params[j]? = some t->args[j]? = some v->Value.okWide C.prog W .any base t v) ->
   DataW.Whole enc C.prog fn.params.toList s.vars apart W args.toList ds gs before->X W args->W.ShapedOpen C.prog ->
   Calls C.prog f args W fun e W'=>∃v,e=.returned v/\s.post enc C.prog fn apart fresh handsOn again W args v W') :
  ReturnsInHanded a C os f .any (fun w args=>(s.pre enc C.prog fn conds apart w args/\X w args)/\sizedMet enc C.prog fn (OpenSpec.ofChange s) apart w args) (s.post enc C.prog fn apart fresh handsOn again):=by
 exact j4y h own started noInit b witness fun W base args ds gs before h1 c d _ g=>contract W base args ds gs before h1 c d g
theorem z5b {W W':World} (N:Mem (Fz.whole W) [] W'):∀k,k < W.heap.size->W'.heap[k]? = W.heap[k]? := fun k a=>by
 have h:W.heap[k]? = some W.heap[k]:=Array.getElem?_eq_getElem a
 rw [h]
 exact N.fz k _ h
theorem x7n {W W':World} (N:Mem (Fz.whole W) [] W'):W.heap.size<=W'.heap.size:=by
 rcases Nat.lt_or_ge W'.heap.size W.heap.size with h | h
 ·have h1:=z5b N W'.heap.size h
  rw [Array.getElem?_eq_getElem h] at h1
  simp at h1
 ·exact h
theorem j4p {W W':World} (N:Mem (Fz.whole W) [] W') {t:TypeId} (hr:Tryz.prog.readableRec t=true) (a:t < Tryz.prog.types.size) {v:Value} {d:DataW H} {ps:List MemPlace}
  (h:DataW.Trod enc Tryz.prog W 0 (fun _=>true) true t v d ps) (c:∀x∈ps,x.block < W.heap.size):DataW.Trod enc Tryz.prog W' 0 (fun b=>decide (b < W.heap.size)) true t v d ps:=by
 have O:=x7n N
 have e:=z5b N
 have hb:Below W.heap.size W { W with heap:=W'.heap }:={ os:=rfl,tape:=rfl,output:=rfl,size:=O,block:=e }
 exact DataW.Trod.of_heap (w:={ W with heap:=W'.heap }) (w':=W') rfl (Below.trod laidOut hr a h hb c)
theorem y3e {W W':World} (N:Mem (Fz.whole W) [] W'):∀{ts:List TypeId} {vs:List Value} {ds:List (DataW H)} {p:List MemPlace},(∀t∈ts,Tryz.prog.readableRec t=true/\t < Tryz.prog.types.size) ->
  DataW.TrodAll enc Tryz.prog W 0 (fun _=>true) true ts vs ds p->(∀x∈p,x.block < W.heap.size)->DataW.TrodAll enc Tryz.prog W' 0 (fun b=>decide (b < W.heap.size)) true ts vs ds p
 | [],_,_,_,_,h,_=>by
  obtain ⟨rfl,rfl,rfl⟩:=trodAll_nil h
  exact h
 | t::ts,_,_,_,hr,h,a=>by
  obtain ⟨v,vs,d,ds,p,q,rfl,rfl,rfl,h1,e⟩:=trodAll_cons h
  exact ⟨p,q,j4p N (hr t msQ).1 (hr t msQ).2 h1 (fun x c=>a x (List.mem_append_left _ c)),
   y3e N (fun u f=>hr u (mcQ _ f)) e (fun x c=>a x (List.mem_append_right _ c)),rfl⟩
theorem x6s {fn:Func} {s:ChangeSpec} {apart fresh handsOn:Bool} {W W':World} {args:Array Value} {ds gs:List (DataW H)} {before:List MemPlace}
  (b:DataW.Whole enc Tryz.prog fn.params.toList s.vars apart W args.toList ds gs before) (g:s.vars=[]) (d:∀gs:List (DataW H),gs=[]->s.fn H (ds++gs)={ results:=[.lit (.bool true)],args:=ds }) (a:fn.resultTypes=#[4])
  (hr:∀t∈fn.params.toList,Tryz.prog.readableRec t=true/\t < Tryz.prog.types.size) (N:Mem (Fz.whole W) [] W'):s.post enc Tryz.prog fn apart fresh handsOn false W args (.bool true) W':=by
 have e:=b.lt
 have hW':=b
 obtain ⟨p,q,i,f,rfl,_,_⟩:=b
 rw [g] at f
 obtain ⟨rfl,rfl⟩:=trodVars_none f
 have c:=d [] rfl
 refine ⟨ds,[],_,[],p,[],hW',?_,?_,?_,?_,fun h=>by cases h⟩
 ·rw [c,a]
  exact trodAll_mk1 (shut_bool Tryz.underlying4 true)
 ·rw [c]
  exact y3e N hr i (fun x j=>e x (by simpa using j))
 ·rw [c,g]
  exact rfl
 ·exact World.keptBut_mono (fun _ h=>h.elim) (World.keptBut_none_iff.2 ⟨N.os,N.out,z5b N⟩)
theorem agg_of {t:TypeId} {W:World} {base:Nat} {v:Value} {fs:Array Field} (a:Tryz.prog.underlying t=some (.struct fs)) (h:Value.okWide Tryz.prog W .any base t v):∃cs:List Value,v=.agg cs.toArray:=by
 obtain ⟨cs,rfl,_⟩:=okWide_struct a h
 exact ⟨cs.toList,by simp⟩
theorem x3p {W:World} {base:Nat} {v:Value} {d:DataW H} {p:List MemPlace} (e:Value.okWide Tryz.prog W .any base 27 v) (h:DataW.Trod enc Tryz.prog W 0 (fun _=>true) true 27 v d p):∃cs c,v=.agg (List.toArray cs)/\RCore (Fz.whole W) cs c:=by
 obtain ⟨cs,rfl⟩:=agg_of Tryz.underlying27 e
 obtain ⟨fuel,b⟩:=h
 obtain ⟨c,a⟩:=j8k (enc:=enc) (W:=W) (n:=fuel) (cs:=cs) b
 exact ⟨cs,c,rfl,a⟩
end
end Go.Proofs.YtghdfphedgcpdaaGreatDoor

namespace Go.Proofs.YtghdfphedgcpdaaGreatDoor
open Go.ChangeShapes Go.WideShapes Go.ChangeAt Go.RowKit Go.Sw
set_option maxRecDepth 100000
theorem main_is:Tryz.pinned.checked.prog.mainIs=some (true,"8dfb172be620e644952a3b3fbef38f53abbde8464159391a13788f707abd56a4".toList):=by kernel_rfl
theorem x7b:true=Tryz.prog.looks []:=by kernel_rfl
theorem y0j (W:World):laidMetH Tryz.prog laidAll W=laidMet Tryz.prog laidAll W:=MakeChecks.laidMetH_plain _ _ _ (by kernel_rfl)
theorem x6r (os:Os) (args:Array Value):laidMet Tryz.prog laidAll ((World.laidAll Tryz.prog os laidAll).forCall (fun _ _=>0) ⟨#[],args,[]⟩).memory:=laidMet_laidAll _ (by kernel_rfl) (by kernel_rfl)
theorem read_of {l:List TypeId} (h:(l.all fun t=>Tryz.prog.readableRec t&&decide (t < Tryz.prog.types.size))=true) {t:TypeId} (a:t∈l):Tryz.prog.readableRec t=true/\t < Tryz.prog.types.size:=by
 have:=List.all_eq_true.1 h t a
 simpa using this
section
variable {H:Type} {enc:TypeId×Value->H}
end
end Go.Proofs.YtghdfphedgcpdaaGreatDoor

namespace Go.Sw
open Go.Proofs.Tryz
open Go.Proofs
theorem y4p:zM prog 210 0 0:=zH runUnderlying210 rfl sizeOf25 (by decide) rfl
theorem x5l:zM prog 210 1 1:=zH runUnderlying210 rfl sizeOf3 (by decide) rfl
set_option maxRecDepth 20000 in
theorem z3y:RowT prog 23 36 2 32:=⟨underlying23,⟨_,_,Tryz.type36,rfl,rfl,rfl,rfl⟩,by decide,by decide⟩
set_option maxRecDepth 20000 in
theorem rt_24:RowT prog 24 112 8 136:=⟨underlying24,⟨_,_,Tryz.type112,rfl,rfl,rfl,rfl⟩,by decide,by decide⟩
set_option maxRecDepth 20000 in
theorem rt_107:RowT prog 107 110 5 80:=⟨underlying107,⟨_,_,Tryz.type110,rfl,rfl,rfl,rfl⟩,by decide,by decide⟩
set_option maxRecDepth 20000 in
theorem rt_108:RowT prog 108 174 7 120:=⟨underlying108,⟨_,_,Tryz.type174,rfl,rfl,rfl,rfl⟩,by decide,by decide⟩
set_option maxRecDepth 20000 in
theorem rt_124:RowT prog 124 128 2 40:=⟨underlying124,⟨_,_,Tryz.type128,rfl,rfl,rfl,rfl⟩,by decide,by decide⟩
end Go.Sw
