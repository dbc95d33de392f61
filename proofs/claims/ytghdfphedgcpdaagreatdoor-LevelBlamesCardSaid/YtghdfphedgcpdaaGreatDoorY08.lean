import Derived.Laws.IdiomRangeMap
import Derived.Lib.AppendStr
import Derived.Lib.UnsafeStr
import Derived.Lib.MakeNoZero
import Derived.Laws.IdiomStrings
import Derived.Scope
import Derived.Laws.RangeAny
import Derived.Laws.Runes
import Derived.Laws.StructEq
import Derived.Test.YtghdfphedgcpdaaGreatDoorY07
set_option linter.unusedVariables false
set_option linter.unusedSimpArgs false
namespace Go.Sw
open Go.Proofs Go.Proofs.Tryz
set_option maxRecDepth 20000
set_option maxHeartbeats 4000000
theorem j2l {c:Core} (h:yG c=0):xN c=false/\jD c=true:=by
 unfold yG at h
 split at h
 ·cases h
 split at h
 ·cases h
 split at h
 ·rename_i a hr;exact ⟨by simpa using a,hr⟩
 ·cases h
section
variable {P:Program} {n:Nat} {E:List (Nat×Value)} {D:List Deferred} {a:Act} {Φ:Fz} {K:List Res} {w:World}
variable {Kn:Value->World->Prop} {Qp:List PanicEntry->World->Prop} {dst:Option Tmp} {ty:TypeId} {pos:String} {aft:Array Edge} {g:Option (Nat×Bool)}
theorem xU {α β ε:Type} {f:FuncId} {xs:Array Operand} {ts:Array TypeId} {vs:List Value} {r:Except ε α} {X:α->β->Value} {Z:ε->Value} {F1:α->β->Fz} {b:Fz} {KO:α->β->List Res} {KE:List Res} {G:α->β->Prop}
  (J:EnvR n E D a) (m:evs E xs.toList=some vs) (l:∀args w,(callFunc f args).run P w=.ok (.enter f args) w)
  (j:Calls P f vs.toArray w (fun e w'=>Out r (fun x=>∃y,e=.returned (X x y)/\G x y/\Mem (F1 x y) (KO x y) w') (fun c=>e=.returned (Z c)/\Mem b KE w')))
  (k:∀x y w',r=.ok x->G x y->Mem (F1 x y) (KO x y) w'->Kn (X x y) w') (kp:∀c w',r=.error c->Mem b KE w'->Kn (Z c) w') :
  Oper.eff P ⟨dst,.call { callee:=.value (.func f),args:=xs,argTypes:=ts },ty,pos,aft,g⟩ a w Kn Qp:=by
 refine aR J m l j (fun v w' h=>?_) (fun c w' h=>?_) (fun w' h=>?_)
 ·cases r with
  | ok x=>obtain ⟨y,h1,d,i⟩:=h;cases h1;exact k _ _ _ rfl d i
  | error c=>obtain ⟨h1,d⟩:=h;cases h1;exact kp _ _ rfl d
 ·cases r with
  | ok x=>obtain ⟨y,h1,_⟩:=h;cases h1
  | error c=>obtain ⟨h1,d⟩:=h;cases h1
 ·cases r with
  | ok x=>obtain ⟨y,h1,_⟩:=h;cases h1
  | error c=>obtain ⟨h1,_⟩:=h;cases h1
theorem j3l {fn:Func} {R:Ending->World->Prop} {t u T b k i:Nat} {cs:List Value} {d:TypeId} {x:Value} (J:EnvR n E [] a) (N:Sees Φ K w) (hr:fn.results=#[.cell t T,.tmp u]) (c:get E t=some (.pointer (some ⟨b,0,none⟩)))
  (j:qU K i=some (.blk b (ob cs d))) (g:AggT P T) (f:SizeT P T k) (hl:cs.length=k) (l:get E u=some x) (h:R (.returned (.tuple #[.agg cs.toArray,x])) w):bodyPost P fn R .ret a w:=by
 refine ⟨J.defs,_,?_,h⟩
 have e:=j5r (P:=P) J N c j g f hl
 simp [results,hr,Array.getD_eq_getD_getElem?,J.env t _ c,J.env u _ l,asAddr,e,Sem.run_bind,Result.andThen]
theorem z9j {fn:Func} {R:Ending->World->Prop} {t u d T b k i:Nat} {cs:List Value} {g:TypeId} {x f:Value} (J:EnvR n E [] a) (N:Sees Φ K w) (hr:fn.results=#[.cell t T,.tmp u,.tmp d]) (e:get E t=some (.pointer (some ⟨b,0,none⟩)))
  (o:qU K i=some (.blk b (ob cs g))) (m:AggT P T) (l:SizeT P T k) (hl:cs.length=k) (p:get E u=some x) (c:get E d=some f) (h:R (.returned (.tuple #[.agg cs.toArray,x,f])) w):bodyPost P fn R .ret a w:=by
 refine ⟨J.defs,_,?_,h⟩
 have j:=j5r (P:=P) J N e o m l hl
 simp [results,hr,Array.getD_eq_getD_getElem?,J.env t _ e,J.env u _ p,J.env d _ c,asAddr,j,Sem.run_bind,Result.andThen]
end
section
variable {P:Program} {n:Nat} {E:List (Nat×Value)} {D:List Deferred} {a:Act} {Φ:Fz} {K:List Res} {w:World}
variable {Kn:Value->World->Prop} {Qp:List PanicEntry->World->Prop} {dst:Option Tmp} {ty:TypeId} {pos:String} {aft:Array Edge} {g:Option (Nat×Bool)}
end
section
variable {P:Program} {n:Nat} {E:List (Nat×Value)} {D:List Deferred} {a:Act} {Φ:Fz} {K:List Res} {w:World} {ty:TypeId}
end
theorem has_mem {l:List Bs} {s:Bs}:has l s=true↔s∈l:=by simp [has]
def dA (l:List Bs) (s:Bs):Bool:=l.any fun x=>decide (x=s)
theorem z8p (x:Bs) (l:List Bs) (s:Bs):dA (x::l) s=(decide (x=s) || dA l s):=by simp [dA]
section
variable {c:Core} {ps:List Param} {e:Ex}
end
theorem x9u {l:List Ex} (hl:l.length=2):∃x y,l=[x,y]:=by
 cases l with
 | nil=>simp at hl
 | cons a l=>
  cases l with
  | nil=>simp at hl
  | cons b l=>
   simp only [lcQ] at hl
   have:l=[]:=List.eq_nil_of_length_eq_zero (by omega)
   subst this
   exact ⟨a,b,rfl⟩
theorem one_arg {l:List Ex} (hl:l.length=1):∃x,l=[x]:=by
 cases l with
 | nil=>simp at hl
 | cons a l=>
  simp only [lcQ] at hl
  have:l=[]:=List.eq_nil_of_length_eq_zero (by omega)
  subst this
  exact ⟨a,rfl⟩
theorem y9h {nm:Bs->Bool}:∀{l ds:List Bs},l.Nodup->(∀n∈l,n∉ds)->(∀n∈l,nm n=true)->pT nm ds l=true
 | [],_,_,_,_=>rfl
 | s::l,ds,h1,b,c=>by
  have O:=List.nodup_cons.1 h1
  simp only [pT,baQ,Bool.not_eq_true']
  refine ⟨⟨c s msQ,?_⟩,y9h O.2 (fun n a N=>?_) fun n a=>c n (mcQ _ a)⟩
  ·cases hb:has ds s with
   | false=>rfl
   | true=>
    simp only [has,List.any_eq_true,decide_eq_true_eq] at hb
    obtain ⟨x,d,J⟩:=hb
    first | exact absurd (J▸d) (b s msQ) | exact absurd (J.symm▸d) (b s msQ)
  ·rcases List.mem_append.1 N with N | N
   ·exact b n (mcQ _ a) N
   ·simp only [List.mem_singleton] at N;subst N;exact O.1 a
theorem hasB_mem {l:List Bs} {s:Bs}:dA l s=true↔s∈l:=by
 simp only [dA,List.any_eq_true,decide_eq_true_eq]
 exact ⟨fun ⟨x,a,e⟩=>e▸a,fun h=>⟨s,h,rfl⟩⟩
theorem j7n:∀{l:List Fun} {m:List (Bs×Fun)},(∀f∈l,yQ f.name=true/\zK m f.name=none)->(l.map Fun.name).Nodup->(uC true m l).1=true
 | [],_,_,_=>rfl
 | x::l,m,h,a=>by
  simp only [List.map_cons,List.nodup_cons] at a
  obtain ⟨h1,b⟩:=h x msQ
  simp only [uC,h1,Bool.and_self,if_true,b,Option.isNone_none]
  refine j7n (fun f c=>?_) a.2
  obtain ⟨g1,d⟩:=h f (mcQ _ c)
  refine ⟨g1,?_⟩
  rw [aH b,dB d]
  simp only [zK]
  rw [if_neg]
  intro e
  exact a.1 (List.mem_map.2 ⟨f,c,e⟩)
def xO (s:Bs):Nat:=1+yS yR s s.size 1
def z0z (s:Bs) (lo a:Nat):Bool :=
 if s.size < 1∨24 < s.size∨zG s 0 < lo∨a < zG s 0 then false
 else if xO s=s.size then true
 else if zG s (xO s)≠39∨xO s+1=s.size then false
 else decide (xO s+1+yS yF s s.size (xO s+1)=s.size)
def z3x (s:Bs):Bool:=z0z s 97 122 && !dA wordsL s
def conR (s:Bs):Bool:=z0z s 65 90
def vB:List Data->Bs->Option Data
 | [],_=>none
 | d::l,n=>if d.name=n then some d else vB l n
def qR (ds:List Data) (name:Bs):Option Data:=if name=kV then some truthsD else vB ds name
def uY:Data:=⟨sNo,[]⟩
def oY:List Con->Bs->Option Con
 | [],_=>none
 | x::l,n=>if x.name=n then some x else oY l n
def mT:List Data->Bs->Option Maker
 | [],_=>none
 | d::l,n=>match oY d.cons n with
  | some x=>some ⟨d.name,x⟩
  | none=>mT l n
def nU (ds:List Data) (name:Bs):Option Maker:=mT (truthsD::ds) name
def y0t:Con:=⟨sNo,[]⟩
def sA:List Fun->Bs->Nat->Option Nat
 | [],_,_=>none
 | f::l,n,i=>if f.name=n then some i else sA l n (i+1)
def nH (fs:List Fun) (name:Bs):Option Nat:=sA fs name 0
def nB (fs:List Fun) (name:Bs):Int:=match nH fs name with | some i=>i | none=>-1
def jZ (ds:List Data) (name:Bs):Bool:=(qR ds name).isSome || decide (name=yU)
def mQ (name:Bs) (l:List Con):Bool:=l.any fun x=>x.fields.any fun s=> !decide (s=yU) && !decide (s=name)
def wL (name:Bs) (l:List Data):Bool:=l.any fun d=>decide (d.name=name)&&mQ name d.cons
def kG (name:Bs) (l:List Data):Nat:=(l.filter fun d=>decide (d.name=name)).length
def xM (ds:List Data) (name:Bs):Bool :=
 if name=yU then true else !wL name ds&&(decide (kG name ds=1) && !decide (name=kV))
mutual
def xG:Ex->Nat->Nat
 | .mk _ _ _ args arms,most=>sizeAr arms most (sizeRs args most 1)
def sizeRs:List Ex->Nat->Nat->Nat
 | [],_,n=>n
 | e::es,most,n=>if n<=most then sizeRs es most (n+xG e (most - n)) else n
def sizeAr:List Arm->Nat->Nat->Nat
 | [],_,n=>n
 | .mk _ vs b::es,most,n=>if n<=most then (if 16 < vs.length then most+1 else sizeAr es most (n+xG b (most - n))) else n
end
theorem x8x (e:Ex) (most:Nat):xG e most=sizeAr e.arms most (sizeRs e.args most 1):=by cases e;rfl
theorem q9s (e:Ex) (es:List Ex) (most n:Nat):sizeRs (e::es) most n=if n<=most then sizeRs es most (n+xG e (most - n)) else n:=rfl
theorem z2i (a:Arm) (es:List Arm) (most n:Nat):sizeAr (a::es) most n=if n<=most then (if 16 < a.vars.length then most+1 else sizeAr es most (n+xG a.body (most - n))) else n:=by cases a;rfl
theorem z2j {es:List Ex} {most n:Nat} (h:¬n<=most):sizeRs es most n=n:=by cases es <;> simp [sizeRs,h]
theorem sL {es:List Arm} {most n:Nat} (h:¬n<=most):sizeAr es most n=n:=by
 cases es with
 | nil=>rfl
 | cons a es=>rw [z2i,if_neg h]
theorem y7v {l:List Ex} {i most n:Nat} (h:¬(i < l.length/\n<=most)):sizeRs (l.drop i) most n=n:=by
 by_cases a:i < l.length
 ·exact z2j (fun g=>h ⟨a,g⟩)
 ·rw [List.drop_of_length_le (by omega)];rfl
theorem y7u {l:List Arm} {i most n:Nat} (h:¬(i < l.length/\n<=most)):sizeAr (l.drop i) most n=n:=by
 by_cases a:i < l.length
 ·exact sL (fun g=>h ⟨a,g⟩)
 ·rw [List.drop_of_length_le (by omega)];rfl
mutual
theorem mM:∀(e:Ex) (most:Nat),1<=xG e most/\xG e most<=most+1
 | .mk _ _ _ args arms,most=>by
  have h1:=sizeRs_le args most 1 (by omega) (by omega)
  have a:=sizeAr_le arms most (sizeRs args most 1) h1.1 h1.2
  exact a
theorem sizeRs_le:∀(es:List Ex) (most n:Nat),1<=n->n<=most+1->1<=sizeRs es most n/\sizeRs es most n<=most+1
 | [],most,n,h,h'=>⟨h,h'⟩
 | e::es,most,n,h,h'=>by
  simp only [sizeRs]
  split
  ·have:=mM e (most - n)
   exact sizeRs_le es most _ (by omega) (by omega)
  ·exact ⟨h,h'⟩
theorem sizeAr_le:∀(es:List Arm) (most n:Nat),1<=n->n<=most+1->1<=sizeAr es most n/\sizeAr es most n<=most+1
 | [],most,n,h,h'=>⟨h,h'⟩
 | .mk _ vs b::es,most,n,h,h'=>by
  simp only [sizeAr]
  split
  ·split
   ·omega
   ·have:=mM b (most - n)
    exact sizeAr_le es most _ (by omega) (by omega)
  ·exact ⟨h,h'⟩
end
def dR (ps:List Param) (n:Bs):Option Bs:=ps.foldl (fun r p=>if p.name=n then some p.type else r) none
theorem z1y (ps:List Param) (p:Param) (n:Bs):dR (ps++[p]) n=if p.name=n then some p.type else dR ps n:=by simp [dR]
def z8t (ps:List Param) (n:Bs):Option Bs:=match ps with
 | []=>none
 | p::l=>if p.name=n then some p.type else z8t l n
def noT:Bs×Bool:=(sNo,false)
def opR (name:Bs):Option Bs :=
 if dA [⟨#[43]⟩,⟨#[45]⟩,⟨#[42]⟩,⟨#[47]⟩,⟨#[37]⟩] name=true then some yU
 else if name=⟨#[60]⟩∨name=⟨#[61]⟩ then some kV else none
def wU (c:Core) (kind:Int) (name:Bs):Option (List Bs×Bs) :=
 if kind=4 then (nU c.datas name).map fun m=>(m.con.fields,m.data)
 else if kind=5 then (match nH c.funs name with
  | none=>none
  | some i=>(c.funs[i]?).map fun f=>(f.params.map Param.type,f.result))
 else if kind=8 then (opR name).map fun t=>([yU,yU],t)
 else none
def jR (vs fs:List Bs):List Param:=(vs.zip fs).map fun x=>⟨x.1,x.2⟩
mutual
def zS (c:Core):Ex->List Param->Bs×Bool
 | .mk kind num name args arms,vars=>
  if (kind≠7/\0 < arms.length)∨(kind≠1/\num≠0) then noT
  else if kind=1 then (yU,decide (name=sNo)&&decide (args.length=0))
  else if kind=2 then (match dR vars name with | some t=>(t,decide (args.length=0)) | none=>noT)
  else if kind=3 then (match z8t c.inputs name with | some t=>(t,decide (args.length=0)) | none=>noT)
  else if kind=6 then letR c name args vars
  else if kind=7 then
   if args.length≠1∨name≠sNo then noT
   else if (firstR c args vars).2=false then noT
   else match qR c.datas (firstR c args vars).1 with
    | none=>noT
    | some d=>if d.cons.length≠arms.length then noT else armsR c arms d.cons true sNo vars
  else if (typesR c args vars).2=false then noT
  else match wU c kind name with
   | none=>noT
   | some w=>if w.1=(typesR c args vars).1 then (w.2,true) else noT
def letR (c:Core) (name:Bs):List Ex->List Param->Bs×Bool
 | [],_=>noT
 | a::l,vars=>if (zS c a vars).2=false∨l.length≠1 then noT else firstR c l (vars++[⟨name,(zS c a vars).1⟩])
def firstR (c:Core):List Ex->List Param->Bs×Bool
 | [],_=>noT
 | a::_,vars=>zS c a vars
def typesR (c:Core):List Ex->List Param->List Bs×Bool
 | [],_=>([],true)
 | e::es,vars=>if (zS c e vars).2=false then ([],false) else ((zS c e vars).1::(typesR c es vars).1,(typesR c es vars).2)
def armsR (c:Core):List Arm->List Con->Bool->Bs->List Param->Bs×Bool
 | [],_,_,out,_=>(out,true)
 | .mk con vs body::az,cs,first,out,vars=>
  if con≠(cs.headD y0t).name∨vs.length≠(cs.headD y0t).fields.length then noT
  else if (zS c body (vars++jR vs (cs.headD y0t).fields)).2=false∨(first=false/\(zS c body (vars++jR vs (cs.headD y0t).fields)).1≠out) then noT
  else armsR c az cs.tail false (zS c body (vars++jR vs (cs.headD y0t).fields)).1 vars
end
def z0v (ds:List Data):List Con->List Bs->Bool
 | [],_=>true
 | x::xs,seen=>conR x.name && !dA seen x.name&&x.fields.all (jZ ds)&&z0v ds xs (seen++[x.name])
def cL (ds:List Data):List Data->List Bs->List Bs->Bool
 | [],_,_=>true
 | d::l,names,cons=>conR d.name && !dA names d.name&&decide (d.cons.length≠0)&&z0v ds d.cons cons&&cL ds l (names++[d.name]) (cons++d.cons.map Con.name)
def z2v (ds:List Data):Bool:=cL ds ds [yU,kV] [y7o,q9r]
def dS:List Fun->Nat->Bool
 | [],n=>decide (6000 < n)
 | f::fs,n=>if 16 < f.params.length then true else dS fs (if n<=6000 then n+xG f.body (6000 - n) else n)
def sF (c:Core):Bool :=
 decide (60 < c.datas.length) || decide (6 < c.inputs.length) || decide (300 < c.funs.length) || decide (6 < c.outputs.length) || c.datas.any dC || dS c.funs 0
def cJ (l:List Bs):Bool:=pT z3x [] l
def kP (ds:List Data) (f:Fun):Bool:=f.params.all (fun p=>jZ ds p.type)&&jZ ds f.result&&cJ (f.params.map Param.name++zN f.body)
def mI (c:Core) (f:Fun):Bool:=(zS c f.body f.params).2&&decide ((zS c f.body f.params).1=f.result)
def y2h (fs:List Fun) (o:Bs):Bool:=match nH fs o with
 | none=>false
 | some i=>match fs[i]? with | some f=>decide (f.params.length=0) | none=>false
def kA (c:Core):Bool :=
 z2v c.datas&&decide (c.outputs.length≠0)&&c.inputs.all (fun p=>xM c.datas p.type)&&cJ (c.inputs.map Param.name) &&
 c.funs.all (kP c.datas)&&cJ (c.funs.map Fun.name)&&cJ c.outputs&&c.funs.all (mI c)&&c.outputs.all (y2h c.funs)
def uL (c:Core):Int:=if c.funs.any (fun f=>xS 250 f.body) then 6 else if sF c then 2 else if kA c then 0 else 80
section
variable {c:Core} {name:Bs} {args:List Val} {fuel:Int}
end
section
variable {P:Program} {n:Nat} {E:List (Nat×Value)} {D:List Deferred} {a:Act} {Φ:Fz} {K:List Res} {w:World} {ty:TypeId}
variable {Kn:Value->World->Prop} {Qp:List PanicEntry->World->Prop} {dst:Option Tmp} {pos:String} {aft:Array Edge} {g:Option (Nat×Bool)}
end
section
variable {P:Program} {n:Nat} {E:List (Nat×Value)} {D:List Deferred} {a:Act} {Φ:Fz} {K:List Res} {w:World} {ty:TypeId}
variable {Kn:Value->World->Prop} {Qp:List PanicEntry->World->Prop} {dst:Option Tmp} {pos:String} {aft:Array Edge} {g:Option (Nat×Bool)}
end
def Cap (v:Value):Prop:=∀p n c,v=.slice p n c->n<=c
theorem Cap.nil:Cap (.slice none 0 0):=fun p n c h=>by injection h;omega
theorem Cap.own {Φ:Fz} {K:List Res} {w:World} {v:Value} {T:TypeId} {k i:Nat} {cs:List Value} (N:Mem Φ K w) (a:qU K i=some (.gs v T k cs)):Cap v:=by
 obtain ⟨n,_,h⟩:=N.own _ (qV a)
 rcases h with ⟨rfl,_⟩ | ⟨g,cap,cur,rfl,_,_,e,_⟩
 ·exact Cap.nil
 ·intro p m c h
  injection h with h1 b d
  omega
theorem q9t {Φ:Fz} {l:List Bs} {q:Option Addr} {c i:Nat} (h:SliceOf RStr Φ 1 (.slice q l.length c) l) (r:i < l.length):SliceOf RStr Φ 1 (.slice q i i) (l.take i):=by
 rw [SliceOf.strs] at h ⊢
 rcases h with ⟨h,b⟩ | ⟨p,m,c',e,b,g,k⟩
 ·injection h with h1 b g;omega
 ·injection e with f e2 e3
  subst f;subst e2
  rw [zR] at b
  refine .inr ⟨p,i,i,rfl,by simp [zR];omega,by omega,fun n=>?_⟩
  have hl:strs l≠[]:=fun e=>by have:=congrArg List.length e;rw [zR] at this;simp only [lnQ] at this;omega
  have d:=(k hl).sub (o:=0) (ds:=strs (l.take i)) (fun j v a=>by
   rw [Nat.zero_add]
   simp only [strs,List.map_take,List.getElem?_take] at a ⊢
   split at a
   ·exact a
   ·cases a)
  rw [show p.add 0=p from rfl] at d
  exact d
theorem q5l {n:Nat} {E:List (Nat×Value)} {D:List Deferred} {a:Act} {x d mx:Operand} {t e ty:TypeId} {q:Option Addr} {m c i:Nat} {w:World} {P:Program} (J:EnvR n E D a) (h:ev E x=some (.slice q m c)) (f:ev E d=some (.int .i64 i))
  (b:ev E mx=some (.int .i64 i)) (g:Under P t (.slice e)) (O:SizeT P e 1) (h1:i<=c):Ok P a (.slice t x none (some d) (some mx)) ty w (.slice q i i):=fun _ _ _ _=>by
 simp only [execOp,J.ev h,Option.map_some,Option.map_none,J.ev f,J.ev b,Instr.sliceAt]
 simp [Sem.run_bind,g w,O w,Instr.slice,Instr.sliceBounds,Instr.sliceBound,asIntOf,Result.andThen,Addr.add,h1]
def z1b (l:Tx):Bs:=⟨l.toArray⟩
theorem y0u (a b:Tx):z1b (a++b)=z1b a++z1b b:=by
 apply ByteArray.ext
 simp only [z1b,ByteArray.data_append]
 apply Array.ext';simp
theorem j6z (s:Bs):z1b (tx s)=s:=by
 apply ByteArray.ext;simp [z1b,tx]
theorem z9f (l:Tx):(z1b l).size=l.length:=by
 show l.toArray.size=_;simp
theorem tx_size (s:Bs):(tx s).length=s.size:=by
 simp only [tx,Array.length_toList];rfl
section
variable {e:Ex}
end
theorem z2z:∀(f n:Nat),n < f->(dX f n).reverse=Lib.decDigits n
 | 0,_,h=>by omega
 | f+1,n,h=>by
  rw [Lib.decDigits]
  simp only [dX]
  by_cases a:n < 10
  ·rw [if_pos a,dif_pos a];rfl
  ·rw [if_neg a,dif_neg a,List.reverse_cons,z2z f (n / 10) (by omega)];try rfl
theorem j6p (n:Int):Lib.itoa n=z6i n:=by
 have h:∀u,cX u=Lib.decDigits u:=fun u=>z2z (u+1) u (Nat.lt_succ_self _)
 unfold Lib.itoa z6i
 split
 ·rw [h,show n.natAbs=(-n).toNat by omega]
 ·rw [h]
theorem z1u (n:Int):aU n=z1b (z6i n):=by unfold aU z1b;rw [j6p]
section
variable {e:Ex}
end
def cI (e:Ex):Prop:=(e.kind≠7/\0 < e.arms.length)∨(e.kind≠1/\e.num≠0)
def tyR (c:Core) (e:Ex) (vars:List Param):Option (List Bs×Bs)->Bs×Bool
 | none=>noT
 | some w=>if w.1=(typesR c e.args vars).1 then (w.2,true) else noT
theorem dJ (c:Core) (e:Ex) (vars:List Param):zS c e vars =
  if (e.kind≠7/\0 < e.arms.length)∨(e.kind≠1/\e.num≠0) then noT
  else if e.kind=1 then (yU,decide (e.name=sNo)&&decide (e.args.length=0))
  else if e.kind=2 then (match dR vars e.name with | some t=>(t,decide (e.args.length=0)) | none=>noT)
  else if e.kind=3 then (match z8t c.inputs e.name with | some t=>(t,decide (e.args.length=0)) | none=>noT)
  else if e.kind=6 then letR c e.name e.args vars
  else if e.kind=7 then (if e.args.length≠1∨e.name≠sNo then noT
   else if (firstR c e.args vars).2=false then noT
   else match qR c.datas (firstR c e.args vars).1 with
    | none=>noT
    | some d=>if d.cons.length≠e.arms.length then noT else armsR c e.arms d.cons true sNo vars)
  else if (typesR c e.args vars).2=false then noT
  else tyR c e vars (wU c e.kind e.name):=by cases e;rfl
def nG (c:Core) (e:Ex) (vars:List Param):Bs×Bool :=
 if e.args.length≠1∨e.name≠sNo then noT
 else if (firstR c e.args vars).2=false then noT
 else match qR c.datas (firstR c e.args vars).1 with
  | none=>noT
  | some d=>if d.cons.length≠e.arms.length then noT else armsR c e.arms d.cons true sNo vars
section
variable {c:Core} {e:Ex} {vars:List Param}
theorem y8k (h:cI e):zS c e vars=noT:=by rw [dJ];exact if_pos h
theorem j7r (O:¬cI e) (h:e.kind=1):zS c e vars=(yU,decide (e.name=sNo)&&decide (e.args.length=0)):=by rw [dJ,if_neg (show ¬((e.kind≠7/\0 < e.arms.length)∨(e.kind≠1/\e.num≠0)) from O),if_pos h]
theorem j7s (O:¬cI e) (h:e.kind=2):zS c e vars=(match dR vars e.name with | some t=>(t,decide (e.args.length=0)) | none=>noT):=by
 rw [dJ,if_neg (show ¬((e.kind≠7/\0 < e.arms.length)∨(e.kind≠1/\e.num≠0)) from O),if_neg (by omega),if_pos h]
theorem j7t (O:¬cI e) (h:e.kind=3):zS c e vars=(match z8t c.inputs e.name with | some t=>(t,decide (e.args.length=0)) | none=>noT):=by
 rw [dJ,if_neg (show ¬((e.kind≠7/\0 < e.arms.length)∨(e.kind≠1/\e.num≠0)) from O),if_neg (by omega),if_neg (by omega),if_pos h]
theorem z7m (O:¬cI e) (h:e.kind=6):zS c e vars=letR c e.name e.args vars:=by
 rw [dJ,if_neg (show ¬((e.kind≠7/\0 < e.arms.length)∨(e.kind≠1/\e.num≠0)) from O),if_neg (by omega),if_neg (by omega),if_neg (by omega),if_pos h]
theorem typeR_7 (O:¬cI e) (h:e.kind=7):zS c e vars=nG c e vars:=by
 rw [dJ,if_neg (show ¬((e.kind≠7/\0 < e.arms.length)∨(e.kind≠1/\e.num≠0)) from O),if_neg (by omega),if_neg (by omega),if_neg (by omega),if_neg (by omega),if_pos h];rfl
theorem q5h (O:¬cI e) (h1:¬e.kind=1) (a:¬e.kind=2) (b:¬e.kind=3) (d:¬e.kind=6) (f:¬e.kind=7) :
  zS c e vars=if (typesR c e.args vars).2=false then noT else tyR c e vars (wU c e.kind e.name):=by
 rw [dJ,if_neg (show ¬((e.kind≠7/\0 < e.arms.length)∨(e.kind≠1/\e.num≠0)) from O),if_neg h1,if_neg a,if_neg b,if_neg d,if_neg f]
theorem x2l (O:¬cI e) (h1:¬e.kind=1) (a:¬e.kind=2) (b:¬e.kind=3) (d:¬e.kind=6) (f:¬e.kind=7) (h:(typesR c e.args vars).2=false):zS c e vars=noT:=by
 rw [q5h O h1 a b d f,if_pos h]
theorem z0p (O:¬cI e) (h1:¬e.kind=1) (a:¬e.kind=2) (b:¬e.kind=3) (d:¬e.kind=6) (f:¬e.kind=7) (h:wU c e.kind e.name=none):zS c e vars=noT:=by
 rw [q5h O h1 a b d f,h];split <;> rfl
theorem z5i (O:¬cI e) (h1:¬e.kind=1) (b:¬e.kind=2) (d:¬e.kind=3) (f:¬e.kind=6) (g:¬e.kind=7) {wl ts:List Bs} {o:Bs} (h:wU c e.kind e.name=some (wl,o)) (a:typesR c e.args vars=(ts,true)):zS c e vars=if wl=ts then (o,true) else noT:=by
 rw [q5h O h1 b d f g,h,a,if_neg (by simp)];simp only [tyR,a]
theorem want_4 (h:e.kind=4):wU c e.kind e.name=(nU c.datas e.name).map fun m=>(m.con.fields,m.data):=by rw [wU,if_pos h]
theorem want_5 (h:e.kind=5):wU c e.kind e.name=(match nH c.funs e.name with | none=>none | some i=>(c.funs[i]?).map fun f=>(f.params.map Param.type,f.result)):=by rw [wU,if_neg (by omega),if_pos h]
theorem q5k (h:e.kind=8):wU c e.kind e.name=(opR e.name).map fun t=>([yU,yU],t):=by rw [wU,if_neg (by omega),if_neg (by omega),if_pos h]
theorem want_no (a:¬e.kind=4) (b:¬e.kind=5) (d:¬e.kind=8):wU c e.kind e.name=none:=by rw [wU,if_neg a,if_neg b,if_neg d]
theorem letR_no {n:Bs} {l:List Ex} (h:¬l.length=2):letR c n l vars=noT:=by
 cases l with
 | nil=>rfl
 | cons a l=>simp only [letR];rw [if_pos (.inr (by simp only [lcQ] at h;omega))]
theorem pair_of {α:Type} {l:List α} (h:l.length=2) {x y:α} (b:l[0]? = some x) (c:l[1]? = some y):l=[x,y]:=by
 have a:l=x::l.drop 1:=zA b
 have h1:l.drop 1=y::l.drop 2:=zA c
 exact a.trans (by rw [h1,List.drop_of_length_le (by omega)])
theorem q3z {α:Type} {l:List α} {x:α} (a:l[0]? = some x):l=x::l.drop 1:=zA a
theorem j2k {n:Bs} {l:List Ex} {x:Ex} (a:l[0]? = some x) (h:(zS c x vars).2=false):letR c n l vars=noT:=by
 rw [q3z a];simp only [letR];rw [if_pos (.inl h)]
theorem y5r {n:Bs} {l:List Ex} {x y:Ex} (h:l.length=2) (a:l[0]? = some x) (b:l[1]? = some y) (h1:(zS c x vars).2=true):letR c n l vars=zS c y (vars++[⟨n,(zS c x vars).1⟩]):=by
 rw [pair_of h a b];simp only [letR,firstR];rw [if_neg (by simp [h1])]
theorem y1c (x:Ex) (xs:List Ex):typesR c (x::xs) vars=if (zS c x vars).2=false then ([],false) else ((zS c x vars).1::(typesR c xs vars).1,(typesR c xs vars).2):=rfl
theorem nT (a:Arm) (az:List Arm) (x:Con) (cs:List Con) (first:Bool) (out:Bs):armsR c (a::az) (x::cs) first out vars =
  if a.con≠x.name∨a.vars.length≠x.fields.length then noT
  else if (zS c a.body (vars++jR a.vars x.fields)).2=false∨(first=false/\(zS c a.body (vars++jR a.vars x.fields)).1≠out) then noT
  else armsR c az cs false (zS c a.body (vars++jR a.vars x.fields)).1 vars:=by cases a;rfl
theorem q6g (h:e.args.length≠1∨e.name≠sNo):nG c e vars=noT:=if_pos h
theorem z7y {x:Ex} (h:¬(e.args.length≠1∨e.name≠sNo)) (f:e.args[0]? = some x) (h1:(zS c x vars).2=false∨(qR c.datas (zS c x vars).1).isSome=false∨((qR c.datas (zS c x vars).1).getD uY).cons.length≠e.arms.length):nG c e vars=noT:=by
 have b:firstR c e.args vars=zS c x vars:=by rw [q3z f];rfl
 unfold nG
 rw [if_neg h,b]
 by_cases g:(zS c x vars).2=false
 ·rw [if_pos g]
 ·rw [if_neg g]
  have g:=h1.resolve_left g
  cases a:qR c.datas (zS c x vars).1 with
  | none=>rfl
  | some d=>
   rw [a] at g
   exact if_pos (g.resolve_left (by simp))
theorem x3h {x:Ex} (h:¬(e.args.length≠1∨e.name≠sNo)) (j:e.args[0]? = some x) (h1:(zS c x vars).2=true) (a:(qR c.datas (zS c x vars).1).isSome=true) (b:((qR c.datas (zS c x vars).1).getD uY).cons.length=e.arms.length) :
  nG c e vars=armsR c e.arms ((qR c.datas (zS c x vars).1).getD uY).cons true sNo vars:=by
 have i:firstR c e.args vars=zS c x vars:=by rw [q3z j];rfl
 unfold nG
 rw [if_neg h,i,if_neg (by simp [h1])]
 cases f:qR c.datas (zS c x vars).1 with
 | none=>rw [f] at a;cases a
 | some d=>
  rw [f] at b
  exact if_neg (fun g=>g b)
end
theorem j0k {vs fs:List Bs} {k:Nat} {v f:Bs} (b:vs[k]? = some v) (a:fs[k]? = some f):jR (vs.take (k+1)) (fs.take (k+1))=jR (vs.take k) (fs.take k)++[⟨v,f⟩]:=by
 have h1:=(List.getElem?_eq_some_iff.1 b).1
 have c:=(List.getElem?_eq_some_iff.1 a).1
 rw [jM b,jM a]
 unfold jR
 rw [List.zip_append (by simp only [List.length_take];omega)]
 simp
theorem q7h {l:List Fun} {n:Bs} {j:Nat} (h:nH l n=some j):j < l.length:=by
 have:∀(l:List Fun) (k:Nat),sA l n k=some j->k<=j/\j < k+l.length:=by
  intro l
  induction l with
  | nil=>intro k h;cases h
  | cons f l a=>
   intro k h
   simp only [sA] at h
   split at h
   ·cases h;simp
   ·have:=a _ h;simp only [lcQ];omega
 have:=this l 0 h
 omega
theorem y0i {fs:List Fun} {n:Bs} (h:¬nB fs n < 0):∃j,nH fs n=some j:=by
 unfold nB at h
 cases a:nH fs n with
 | none=>rw [a] at h;exact absurd (by decide) h
 | some j=>exact ⟨j,rfl⟩
theorem y3k:∀{es:List Ex} {x:Ex},x∈es->(zN x).length<=(bindPs es).length
 | e::es,x,h=>by
  simp only [bindPs,laQ]
  rcases List.mem_cons.1 h with rfl | h
  ·omega
  ·have:=y3k h;omega
theorem y3i:∀{es:List Arm} {a:Arm},a∈es->a.vars.length+(zN a.body).length<=(bindPa es).length
 | e::es,x,h=>by
  rw [qE]
  simp only [laQ]
  rcases List.mem_cons.1 h with rfl | h
  ·omega
  ·have:=y3i h;omega
theorem tA {e x:Ex} (h:x∈e.args):(zN x).length+(if e.kind=6 then 1 else 0)<=(zN e).length:=by
 have:=y3k h
 rw [wM e]
 simp only [laQ]
 split <;> simp only [lcQ,lnQ] <;> omega
theorem q6a {e:Ex} {a:Arm} (h:a∈e.arms):a.vars.length+(zN a.body).length<=(zN e).length:=by
 have:=y3i h
 rw [wM e]
 simp only [laQ];omega
def Lim (c:Core):Prop:=c.datas.length<=1000/\∀f∈c.funs,f.params.length<=1000
section
variable {P:Program} {n:Nat} {E:List (Nat×Value)} {D:List Deferred} {a:Act} {Φ:Fz} {K:List Res} {w:World} {ty:TypeId}
theorem z5l {x:Operand} {src dst:TypeId} {k b:IntKind} {i:Int} (z:Int) (J:EnvR n E D a) (e:ev E x=some (.int k i)) (O:P.underlying src=some (.int k)) (c:P.underlying dst=some (.int b)) (f:b.wrap i=z):Ok P a (.convert src dst x) ty w (.int b z):=fun _ _ _ _=>by
 have d:P.intKind dst=b:=by simp [Program.intKind,c]
 have:=run_convert_int (P:=P) w src dst k i (by rw [O];rfl) (by rw [d];exact c)
 rw [d,f] at this
 simp only [execOp,J.ev e]
 simp [Sem.run_bind,this,Result.andThen]
theorem j0t (i:Nat) {x:Operand} {src dst e:TypeId} {v:Value} {b:UInt8} (J:EnvR n E D a) (N:Sees Φ K w) (o:ev E x=some v) (l:qU K i=some (.gs v e 1 [.int .u8 b.toNat])) (O:P.underlying src=some (.slice e)) (he':P.underlying e=some (.int .u8)) (k:P.underlying dst=some .string) :
  Ok P a (.convert src dst x) ty w (.string (z1b [b])):=fun _ _ _ _=>by
 rcases N.rowIn (i:=i) l with ⟨_,h⟩ | ⟨q,m,c,rfl,f,g⟩
 ·cases h
 ·obtain rfl:m=1:=by simpa using f.symm
  have:=run_convert_bytes_back (P:=P) w src dst e q c [b] O he' k (fun j d=>by
   have:j=0:=by simp at d;exact d
   subst this
   exact g 0 _ rfl)
  simp only [execOp,J.ev o]
  simp only [lcQ,lnQ] at this
  simp [Sem.run_bind,this,Result.andThen,z1b]
end
theorem y3z:∀(f g n:Nat),n < f->n < g->dX f n=dX g n
 | 0,_,_,h,_=>by omega
 | _+1,0,_,_,h=>by omega
 | f+1,g+1,n,h,h'=>by
  simp only [dX]
  by_cases a:n < 10
  ·rw [if_pos a,if_pos a]
  ·rw [if_neg a,if_neg a,y3z f g (n / 10) (by omega) (by omega)]
theorem y9y {n:Nat} (h:n < 10):cX n=[(48+n).toUInt8]:=by unfold cX;simp only [dX,if_pos h];rfl
theorem j1s {n:Nat} (h:¬n < 10):cX n=cX (n / 10)++cX (n % 10):=by
 rw [y9y (n:=n % 10) (by omega)]
 have h1:dX (n+1) n=(48+n % 10).toUInt8::dX n (n / 10):=by simp only [dX,if_neg h]
 unfold cX
 rw [h1,List.reverse_cons,y3z n (n / 10+1) (n / 10) (by omega) (by omega)]
section
variable {P:Program} {n:Nat} {E:List (Nat×Value)} {D:List Deferred} {a:Act} {Φ:Fz} {K:List Res} {w:World}
variable {Kn:Value->World->Prop} {Qp:List PanicEntry->World->Prop} {dst:Option Tmp} {ty:TypeId} {pos:String} {aft:Array Edge} {g:Option (Nat×Bool)}
theorem y4i {t:TypeId} {x:Operand} {s:Bs} (b:Under P t .string) (J:EnvR n E D a) (N:Mem Φ K w) (c:ev E x=some (.string s))
  (k:∀r w',Mem Φ (.blk r (.stringIter s 0)::K) w'->Kn (.pointer (some ⟨r,0,none⟩)) w'):Oper.eff P ⟨dst,.range t x,ty,pos,aft,g⟩ a w Kn Qp:=by
 unfold Oper.eff
 have:(execOp a.eval ⟨dst,.range t x,ty,pos,aft,g⟩).run P w=.ok (.value (.pointer (some ⟨w.heap.size,0,none⟩))) { w with heap:=w.heap.push (.stringIter s 0) }:=by
  simp only [execOp,J.ev c,Instr.range,Sem.run_bind,b w,Result.andThen_ok]
  simp [newObj,Sem.run,Sem.run_bind,Result.andThen]
 rw [this]
 exact k _ _ (N.push _)
theorem q0c (i:Nat) {x:Operand} {r q:Nat} {s:Bs} (J:EnvR n E D a) (N:Mem Φ K w) (j:ev E x=some (.pointer (some ⟨r,0,none⟩)))
  (h:qU K i=some (.blk r (.stringIter s q)))
  (k:¬q < s.size->∀w',Mem Φ K w'->Kn (.tuple #[.bool false]) w')
  (l:q < s.size->∀w',Mem Φ (pU K i (.blk r (.stringIter s (q+(Utf8.decode s q).2)))) w'->Kn (.tuple #[.bool true,.int .i64 q,.int .i32 (((Utf8.decode s q).1:Nat):Int)]) w') :
  Oper.eff P ⟨dst,.next x true,ty,pos,aft,g⟩ a w Kn Qp:=by
 have hr:w.heap[r]? = some (.stringIter s q):=N.own _ (qV h)
 have d:r < w.heap.size:=(Array.getElem?_eq_some_iff.1 hr).1
 have b:∀o,(setObj r o).run P w=.ok () { w with heap:=w.heap.setIfInBounds r o }:=fun o=>by simp only [setObj,Sem.run,hr]
 unfold Oper.eff
 by_cases hq:q < s.size
 ·have:(execOp a.eval ⟨dst,.next x true,ty,pos,aft,g⟩).run P w=.ok (.value (.tuple #[.bool true,.int .i64 q,.int .i32 (((Utf8.decode s q).1:Nat):Int)])) { w with heap:=w.heap.setIfInBounds r (.stringIter s (q+(Utf8.decode s q).2)) }:=by
   simp only [execOp,J.ev j,Instr.next,getObj,Sem.run_bind,Sem.run,hr,Result.andThen,hq,if_true,b]
   simp [goInt]
  rw [this]
  refine l hq _ (N.upd h rfl rfl (fun c m f=>?_) ?_ (.inl rfl))
  ·simp only;rw [Array.getElem?_setIfInBounds_ne (fun e=>f (by simp [Res.foot,e]))]
  ·simp [Res.sat,d]
 ·have:(execOp a.eval ⟨dst,.next x true,ty,pos,aft,g⟩).run P w=.ok (.value (.tuple #[.bool false])) w:=by
   simp only [execOp,J.ev j,Instr.next,getObj,Sem.run_bind,Sem.run,hr,Result.andThen,hq,if_false]
   simp [Sem.run_pure]
  rw [this]
  exact k hq _ N
theorem j0u {x:Operand} {src d:TypeId} {k:IntKind} {i:Int} (J:EnvR n E D a) (c:ev E x=some (.int k i)) (O:P.underlying src=some (.int k)) (b:P.underlying d=some .string):Ok P a (.convert src d x) ty w (.string (Utf8.encode i)):=fun _ _ _ _=>by
 have:=run_convert_int_string (P:=P) w src d k i (by rw [O];rfl) b
 simp only [execOp,J.ev c]
 simp [Sem.run_bind,this,Result.andThen]
end
theorem z4n (s:Bs) {i:Nat} (h:i < s.size):(s.get! i).toNat=zG s i:=by
 rw [pM h];congr 1;exact get_at s i h
theorem gX {s:Bs} {q:Nat} (h:q < s.size) (hb:zG s q < 128):Utf8.decode s q=(zG s q,1):=by
 have a:(s.get! (q+0)).toNat=zG s q:=z4n s h
 simp only [Utf8.decode,a]
 rw [if_pos hb]
theorem z1g {s:Bs} {q:Nat} (h:q < s.size) (hb:128<=zG s q):128<=(Utf8.decode s q).1/\(Utf8.decode s q).1<=2147483647/\1<=(Utf8.decode s q).2/\∀j,j < (Utf8.decode s q).2->q+j < s.size/\128<=zG s (q+j):=by
 have d:=decode_high s q h (by rw [<- pM h];exact hb)
 refine ⟨d.1,decode_le s q,d.2,?_⟩
 have e:(s.get! (q+0)).toNat=zG s q:=z4n s h
 have a:∀k,(decide (q+k < s.size)&&((s.get! (q+k)).toNat / 64==2))=true->q+k < s.size/\128<=zG s (q+k):=fun k c=>by
  simp only [baQ,decide_eq_true_eq,beq_iff_eq] at c
  have:=z4n s c.1
  exact ⟨c.1,by omega⟩
 have h1:q+0 < s.size/\128<=zG s (q+0):=⟨h,hb⟩
 simp only [Utf8.decode,e]
 rw [if_neg (by omega)]
 have one:∀j,j < 1->q+j < s.size/\128<=zG s (q+j):=fun j b=>(show 0=j by omega)▸h1
 split
 ·rename_i g
  simp only [baQ] at g
  split
  ·intro j b
   rcases (by omega:j=0∨j=1) with rfl | rfl
   ·exact h1
   ·exact a 1 (by simpa using g.2)
  ·exact one
 ·split
  ·rename_i g
   simp only [baQ] at g
   split
   ·intro j b
    rcases (by omega:j=0∨j=1∨j=2) with rfl | rfl | rfl
    ·exact h1
    ·exact a 1 (by simpa using g.1.2)
    ·exact a 2 (by simpa using g.2)
   ·exact one
  ·split
   ·rename_i g
    simp only [baQ] at g
    split
    ·intro j b
     rcases (by omega:j=0∨j=1∨j=2∨j=3) with rfl | rfl | rfl | rfl
     ·exact h1
     ·exact a 1 (by simpa using g.1.1.2)
     ·exact a 2 (by simpa using g.1.2)
     ·exact a 3 (by simpa using g.2)
    ·exact one
   ·exact one
theorem q6p {r:Int} (h:128<=r):1<=(Utf8.encode r).size/\(Utf8.encode r).size<=4/\128<=zG (Utf8.encode r) ((Utf8.encode r).size - 1):=by
 have a:¬(if Utf8.valid r=true then r.toNat else Utf8.runeError) < 128:=by
  split
  ·omega
  ·simp [Utf8.runeError]
 unfold Utf8.encode
 generalize (if Utf8.valid r=true then r.toNat else Utf8.runeError)=c at a
 simp only
 rw [if_neg a]
 split
 ·refine ⟨(by show 1<=2;omega),(by show 2<=4;omega),?_⟩
  show 128<=(UInt8.ofNat (128+c % 64)).toNat
  simp;omega
 ·split
  ·refine ⟨(by show 1<=3;omega),(by show 3<=4;omega),?_⟩
   show 128<=(UInt8.ofNat (128+c % 64)).toNat
   simp;omega
  ·refine ⟨(by show 1<=4;omega),(by show 4<=4;omega),?_⟩
   show 128<=(UInt8.ofNat (128+c % 64)).toNat
   simp;omega
def z2q (r:Nat):Bool:=decide (r < 55296) || (decide (57343 < r)&&decide (r<=1114111))
theorem x7c {s:Bs} {i:Nat} {c:UInt8} (h:∀j,j < s.size->zG s j < 128) (a:s[i]? = some c):c.toNat < 128:=by
 rw [<- yP a]
 refine h i ?_
 by_cases hl:i < s.size
 exact hl
 have:s[i]? = none:=by simp;omega
 rw [this] at a;cases a
theorem ix_none {s:Bs} {i c:Nat} (h:∀j,j < s.size->zG s j < 128) (h1:128<=c) (g:c < 256):Lib.indexByte (s.extract i s.size).data.toList ((c:Nat):Int).toNat.toUInt8=-1:=by
 have N:¬((c:Nat):Int).toNat.toUInt8∈(s.extract i s.size).data.toList:=fun f=>by
  obtain ⟨j,a⟩:=List.mem_iff_getElem?.1 f
  have b:=q6t a
  rw [y4j b] at a
  injection a with a
  have d:=h (i+j) b
  rw [pM b,a] at d
  simp at d
  omega
 have e:=Lib.contains_iff_indexByte (s.extract i s.size).data.toList ((c:Nat):Int).toNat.toUInt8
 rw [show (s.extract i s.size).data.toList.contains (((c:Nat):Int).toNat.toUInt8)=false by simpa using N] at e
 have k:=of_decide_eq_false e.symm
 have l:=Lib.indexByte_ge (s.extract i s.size).data.toList ((c:Nat):Int).toNat.toUInt8
 omega
theorem q5i {Φ:Fz} {K:List Res} {w:World} {r:Nat} (N:Mem Φ K w) :
  Calls prog 200 #[.int .i32 r] w (fun ee w'=>ee=.returned (.bool (z2q r))/\Mem Φ K w'):=by
 refine zL func200 ntmps200 fun Q hQ a J=>?_
 by_cases d:0<=r
 by_cases e:r < 55296
 rotate_left
 by_cases f:57343 < r
 refine go fun a J=>?_
 by_cases g:r<=1114111
 rotate_left
 rotate_left
 rotate_left
 by_cases b:57343 < r
 by_cases c:r<=1114111
 rotate_left
 rotate_left
 rotate_left
 all_goals (refine zD ?_;exact zP N (by simp [z2q];omega))
theorem y5g {Φ:Fz} {K:List Res} {w:World} {s:Bs} {r:Nat} (hr:128<=r) (M:r<=2147483647) (O:∀j,j < s.size->zG s j < 128) (S:s.size<=1000000) (N:Mem Φ K w) :
  Calls prog 187 #[.string s,.int .i32 r] w (fun ee w'=>ee=.returned (.int .i64 (-1))/\Mem Φ K w'):=by
 refine zL func187 ntmps187 fun Q hQ a J=>?_
 refine Qq (fun a J=>?_) (o:=by exact fun J O=>q2y true J rfl rfl (decide_eq_true (Int.ofNat_le.2 (Nat.zero_le r))))
 by_cases T:r < 128
 refine go fun a J=>?_
 exfalso
 omega
 by_cases U:r=65533
 refine go fun a J=>?_
 refine st J rfl rfl rfl (y4i runUnderlying9 J N rfl fun P w N a J=>?_)
 refine go fun a J=>?_
 refine zU (J.ks [175]) N (fun R mm a w=>∃(q:Nat),mm=s.size - q/\R Φ [] [(0,.blk P (.stringIter s q))] a w/\(True)) (s.size - 0) ⟨0,rfl,⟨J.pk,N⟩,trivial⟩ ?_
 clear N J
 rintro mm a w ⟨q,A,⟨J,N⟩,D⟩ H u
 replace N:=N.nf
 refine go fun a J=>?_
 refine st J rfl rfl rfl (q0c 0 J N rfl rfl (fun G w N a J=>?_) (fun b w N a J=>?_))
 refine zD ?_
 replace N:=N.dl [0]
 exact ⟨rfl,N⟩
 by_cases m:(Utf8.decode s q).1=65533
 refine go fun a J=>?_
 exfalso
 rw [gX b (O _ b)] at m;have h_:=O _ b;have n:=m;simp only at n;omega
 refine go fun a J=>?_
 refine u (s.size - (q+(Utf8.decode s q).2)) _ _ (by subst A;rw [gX b (O _ b)];have h_:=b;omega) ⟨(q+(Utf8.decode s q).2),rfl,⟨J.pk,N⟩,?_⟩
 trivial
 refine yH call200 (fun t w N a J=>?_) (fun t w N a J=>?_) (c:=q5i N)
 refine go fun a J=>?_
 refine wp_scope_straight ?_
 refine Qq (fun a J=>?_) (o:=by exact fun J O=>j0u J rfl underlying21 underlying9)
 refine go fun a J=>?_
 obtain ⟨y,z,h⟩:=q6p (r:=((r:Nat):Int)) (by omega)
 obtain ⟨rs,B⟩:∃rs,rs=Utf8.encode ((r:Nat):Int):=⟨_,rfl⟩
 rw [<- B] at J y z h
 refine Qq (fun a J=>?_) (o:=by exact fun J O=>wG ((rs.size - 1:Nat):Int) J rfl rfl (by rw [jI (by omega)];omega))
 refine go fun a J=>?_
 refine zU (J.ks [0,7,8]) N (fun R mm a w=>∃(i:Nat),mm=s.size - i/\R Φ [(9,.int .i64 i)] [] a w/\(True)) (s.size - (rs.size - 1)) ⟨rs.size - 1,rfl,⟨J.pk,N⟩,trivial⟩ ?_
 clear N J
 rintro mm a w ⟨i,A,⟨J,N⟩,E⟩ I F
 by_cases C:i < s.size
 refine go fun a J=>?_
 refine wp_scope_straight ?_
 refine Reg [1,1,1,1,1,1,1] [] fun w N a J=>?_
 obtain ⟨k,v⟩:=xT C
 refine Qq (fun a J=>?_) (o:=by exact fun J O=>xF i k J rfl rfl runUnderlying9 v)
 have e:rs.size - 1 < rs.size:=by omega
 obtain ⟨l,f⟩:=xT e
 refine Qq (fun a J=>?_) (o:=by exact fun J O=>xF (rs.size - 1) l J rfl rfl runUnderlying9 f)
 by_cases L:k.toNat=l.toNat
 refine go fun a J=>?_
 exfalso
 have h_:=x7c O (show s[i]? = some k by assumption)
 have n:=yP f
 omega
 refine Reg [1,1,1,1,1,1,1,0,1] [] fun w N a J=>?_
 refine Qq (fun a J=>?_) (o:=by exact fun J O=>vE (i+1) (s.size) J rfl runUnderlying9 ⟨_,rfl⟩ rfl (by omega) (by exact Nat.le_refl _))
 obtain ⟨d,g⟩:=xT e
 refine Qq (fun a J=>?_) (o:=by exact fun J O=>xF (rs.size - 1) d J rfl rfl runUnderlying9 g)
 refine zT call199 (fun w N a J=>?_) (c:=uP (s:=(s.extract (i+1) s.size)) (c:=d.toNat) N)
 by_cases p:Lib.indexByte (s.extract (i+1) s.size).data.toList (((d.toNat:Nat):Int)).toNat.toUInt8 < 0
 refine zD ?_
 exact ⟨rfl,N⟩
 refine go fun a J=>?_
 exfalso
 have h_:=ix_none (i:=i+1) O (show 128<=d.toNat by rw [<- yP g];exact h) (UInt8.toNat_lt _)
 rw [h_] at p
 exact p (by decide)
 refine zD ?_
 exact ⟨rfl,N⟩
 refine zD ?_
 exact ⟨rfl,N⟩
section
variable {Φ:Fz} {K:List Res} {w:World}
def ixR (s:Bs) (q:Nat):Int:=if zG s q < 128 then Lib.indexByte [32,10,40,41] ((zG s q:Nat):Int).toNat.toUInt8 else -1
theorem j6s {s:Bs} {q:Nat} (h:q < s.size):decide (0<=ixR s q)=y7s (zG s q):=by
 unfold ixR
 split
 rw [<- Lib.contains_iff_indexByte,pM h]
 have e:(((s[q].toNat:Nat):Int)).toNat.toUInt8=s[q]:=by simp
 rw [e]
 exact cA _
 have:zG s q≠32/\zG s q≠10/\zG s q≠40/\zG s q≠41:=by omega
 simp [y7s,this]
theorem x8u {b:Nat} (h:128<=b):y7s b=false:=by
 have:b≠32/\b≠10/\b≠40/\b≠41:=by omega
 simp [y7s,this]
theorem j2r {s:Bs} {q:Nat} (k:Lib.NoAny s.data.toList [32,10,40,41] q) (hq:q < s.size) (l:¬0<=ixR s q):Lib.NoAny s.data.toList [32,10,40,41] (q+(Utf8.decode s q).2):=by
 have h:y7s (zG s q)=false:=(j6s hq).symm.trans (decide_eq_false l)
 have hb:∀j,j < s.size->∀b,s.data.toList[j]? = some b->b.toNat=zG s j:=fun j d b hb=>by
  rw [Array.getElem?_toList] at hb
  exact (yP (t:=s) (i:=j) (c:=b) hb).symm
 have hl:∀(j:Nat) b,s.data.toList[j]? = some b->j < s.size:=fun j b hb=>by
  have:=(List.getElem?_eq_some_iff.1 hb).1
  rwa [Array.length_toList] at this
 intro j b d f
 by_cases e:j < q
 exact k j b e f
 rw [cA,hb j (hl j b f) b f]
 by_cases a:zG s q < 128
 rw [gX hq a] at d
 simp only at d
 obtain rfl:j=q:=by omega
 exact h
 have g:=(z1g hq (by omega)).2.2.2 (j - q) (by omega)
 rw [show q+(j - q)=j by omega] at g
 exact x8u g.2
theorem x3u {s:Bs} {q:Nat} (h:q < s.size):s.size - (q+(Utf8.decode s q).2) < s.size - q:=by
 by_cases hl:zG s q < 128
 rw [gX h hl];simp only;omega
 have a:=(z1g h (by omega)).2.2.1
 omega
theorem x0t {s:Bs} {q:Nat} (a:Lib.NoAny s.data.toList [32,10,40,41] q) (hq:¬q < s.size):Lib.indexAny s.data.toList [32,10,40,41]=-1 :=
 Lib.indexAny_none fun j b c d=>a j b (by rw [Array.length_toList] at c;have:s.data.size=s.size:=rfl;omega) d
theorem x0u {s:Bs} {q:Nat} (a:Lib.NoAny s.data.toList [32,10,40,41] q) (hq:q < s.size) (b:0<=ixR s q):Lib.indexAny s.data.toList [32,10,40,41]=((q:Nat):Int) :=
 Lib.indexAny_hit (x:=s[q]) a (by rw [Array.getElem?_toList];exact Array.getElem?_eq_getElem hq) (by rw [cA,<- pM hq,<- j6s hq];exact decide_eq_true b)
theorem y8z {s:Bs} {q:Nat} (hq:q < s.size) (N:Mem Φ K w) :
  Calls prog 187 #[.string ⟨#[32,10,40,41]⟩,.int .i32 (((Utf8.decode s q).1:Nat):Int)] w (fun ee w'=>ee=.returned (.int .i64 (ixR s q))/\Mem Φ K w'):=by
 unfold ixR
 by_cases h:zG s q < 128
 rw [gX hq h,if_pos h]
 have L:=Tryz.lays153
 exact (Any.strings_IndexRune_ascii { L with } ⟨#[32,10,40,41]⟩ ((zG s q:Nat):Int) w (by omega) (by omega)).mono fun e w' J=>by obtain ⟨h1,rfl⟩:=J;exact ⟨h1,N⟩
 rw [if_neg h]
 have a:=z1g hq (by omega)
 exact y5g a.1 a.2.1 (by decide) (by decide) N
theorem q5b {n:Nat}  (N:Mem Φ K w) :
  Calls prog 188 #[.int .i64 (n:Int)] w (fun ee w'=>ee=.returned (.bool (decide (8 < n)))/\Mem Φ K w'):=by
 refine zL func188 ntmps188 fun Q hQ a J=>?_
 refine Qq (fun a J=>?_) (o:=by exact fun J O=>j4z (i:=n) (j:=8) J rfl rfl)
 refine zD ?_
 exact zP N (by simp [*])
theorem y5e {s:Bs} (m:s.size<=8) (N:Mem Φ K w) :
  Calls prog 176 #[.string s,.string ⟨#[32,10,40,41]⟩] w (fun ee w'=>ee=.returned (.int .i64 (Lib.indexAny s.data.toList [32,10,40,41]))/\Mem Φ K w'):=by
 obtain ⟨ch,b⟩:∃ch:ByteArray,ch=⟨#[32,10,40,41]⟩:=⟨_,rfl⟩
 rw [<- b]
 refine zL func176 ntmps176 fun Q hQ a J=>?_
 by_cases o:ch=(⟨#[]⟩:Bs)
 refine go fun a J=>?_
 exfalso
 have h_:=o;rw [b] at h_;revert h_;decide
 by_cases m:ch.size=1
 refine go fun a J=>?_
 exfalso
 have h_:=m;rw [b] at h_;revert h_;decide
 refine yH call188 (fun e w N a J=>?_) (fun e w N a J=>?_) (c:=q5b N)
 refine go fun a J=>?_
 exfalso
 have h_:=of_decide_eq_true e;omega
 refine go fun a J=>?_
 refine st J rfl rfl rfl (y4i runUnderlying9 J N rfl fun l w N a J=>?_)
 refine go fun a J=>?_
 refine zU (J.ks [1,45]) N (fun R mm a w=>∃(q:Nat),mm=s.size - q/\R Φ [] [(0,.blk l (.stringIter s q))] a w/\(Lib.NoAny s.data.toList [32,10,40,41] q)) (s.size - 0) ⟨0,rfl,⟨J.pk,N⟩,Lib.NoAny.zero _ _⟩ ?_
 clear N J
 rintro mm a w ⟨q,k,⟨J,N⟩,h⟩ n i
 replace N:=N.nf
 have f:=h
 refine go fun a J=>?_
 refine st J rfl rfl rfl (q0c 0 J N rfl rfl (fun j w N a J=>?_) (fun d w N a J=>?_))
 refine zD ?_
 replace N:=N.dl [0]
 exact ⟨by rw [x0t f j],N⟩
 refine zT call187 (fun w N a J=>?_) (c:=(b▸y8z (s:=s) (q:=q) d N))
 by_cases g:0<=ixR s q
 refine zD ?_
 replace N:=N.dl [0]
 exact ⟨by rw [x0u f d g],N⟩
 refine go fun a J=>?_
 refine i (s.size - (q+(Utf8.decode s q).2)) _ _ (by subst k;exact x3u d) ⟨(q+(Utf8.decode s q).2),rfl,⟨J.pk,N⟩,?_⟩
 exact j2r f d g
theorem j8a {t:Bs} {i:Nat} (g:t.size<=1000000) (f:i<=t.size) (N:Mem Φ K w) :
  Calls prog 176 #[.string (t.extract i t.size),.string ⟨#[32,10,40,41]⟩] w (fun ee w'=>ee=.returned (.int .i64 (if i+qT t i < t.size then ((qT t i:Nat):Int) else -1))/\Mem Φ K w'):=by
 have h:=ByteArray.size_extract (a:=t) (b:=i) (e:=t.size)
 rw [<- j8b f]
 by_cases d:(t.extract i t.size).size<=8
 exact y5e d N
 have L:=Tryz.lays153
 have c:(prog.info? (Tryz.lays153_ren.t 116)).map (fun i=>(i.zero,i.size))=some (some (.agg (Array.replicate 256 (.bool false))),256):=by kernel_rfl
 refine (Any.strings_IndexAny_long L (zero_of_info c).1 (zero_of_info c).2 (t.extract i t.size) ⟨#[32,10,40,41]⟩ w (by decide) (by omega) (by omega) (by decide) ?_).mono fun e w' J=>?_
 intro j b hb
 have hl:(⟨#[32,10,40,41]⟩:Bs).data.toList=[32,10,40,41]:=rfl
 rw [hl] at hb
 have:=mgQ hb
 simp only [List.mem_cons,List.not_mem_nil,or_false] at this
 rcases this with rfl | rfl | rfl | rfl <;> decide
 obtain ⟨rfl,rfl⟩:=J
 exact ⟨rfl,N.below (((Go.RowKit.Below.refl _ _).alloc (Nat.le_refl _) _).alloc (by simp) _)⟩
end
theorem v0d {Φ:Fz} {K:List Res} {w:World} {t:Bs} (N:Mem Φ K w) :
  Calls prog 138 #[.string t] w (fun ee w'=>∃y:Nat,ee=.returned (.func (.func 175) #[] #[.pointer (some ⟨y,0,none⟩)])/\True/\Mem Φ (.blk y (ob [.string t] 9)::K) w'):=by
 refine zL func138 ntmps138 fun Q hQ a J=>?_
 refine Bx fun b w N a J=>?_
 refine zD ?_
 exact ⟨_,rfl,trivial,N⟩
theorem x2p {β:Type} {Φ:Fz} {w:World} {t:Bs} {bx l:Nat} {KY:List Bs->β->List Res} {z:β} (h2:t.size<=1000000)
  (hy:∀pre z K0 (k:Bs) w,pre.length < t.size->Mem Φ (K0++KY pre z) w->YieldAt Fence.wide 2 prog l #[.string k] w (fun e w'=>e=.returned (.bool true)/\∃z',Mem Φ (K0++KY (pre++[k]) z') w'))
  (N:Mem Φ (.blk bx (ob [.string t] 9)::KY [] z) w) :
  Calls prog 175 #[.func (.yield l) #[] #[],.pointer (some ⟨bx,0,none⟩)] w (fun ee w'=>∃y:β,ee=.returned (.tuple #[])/\Mem Φ (KY (sX t) y) w'):=by
 refine zL func175 ntmps175 fun Q hQ a J=>?_
 refine go fun a J=>?_
 refine jS (fun mm a w=>∃(i:Nat) (f:Nat) (pre:List Bs) (z0:β),mm=t.size - i/\EnvR 52 [(0,.func (.yield l) #[] #[]),(1,.pointer (some ⟨bx,0,none⟩)),(3,.int .i64 i)] [] a/\Mem Φ (.blk bx (ob [.string t] 9)::KY pre z0) w/\(i<=t.size/\pre.length<=i/\t.size<=i+f/\sX t=pre++wE t f i)) (t.size - 0) ⟨0,t.size,[],z,rfl,J.pk,N,⟨Nat.zero_le _,Nat.zero_le _,by omega,rfl⟩⟩ ?_
 clear N J
 rintro mm a w ⟨i,f,pre,z0,u,J,N,T⟩ L2 s
 obtain ⟨a0,b0,c0,p⟩:=T
 by_cases B:i < t.size
 obtain ⟨A,b⟩:=xT B
 refine Qq (fun a J=>?_) (o:=by exact fun J O=>xF i A J rfl rfl runUnderlying9 b)
 refine goJ 10 fun a J=>?_
 refine sq fun P K=>?_
 have g:∀a w,(EnvR 52 [(0,.func (.yield l) #[] #[]),(1,.pointer (some ⟨bx,0,none⟩)),(3,.int .i64 i),(11,.int .u8 A.toNat),(34,.bool (decide (zG t i=32∨zG t i=10)))] [] a/\Mem Φ (.blk bx (ob [.string t] 9)::KY pre z0) w/\(True))->P a w:=by
  clear N J
  rintro a w ⟨J,N,X⟩
  apply K
  generalize d:(decide (zG t i=32∨zG t i=10))=C at J
  cases C
  refine goJ 13 fun a J=>?_
  refine sq fun R L=>?_
  have m:∀a w,(EnvR 52 [(0,.func (.yield l) #[] #[]),(1,.pointer (some ⟨bx,0,none⟩)),(3,.int .i64 i),(39,.bool (decide (zG t i=40∨zG t i=41)))] [] a/\Mem Φ (.blk bx (ob [.string t] 9)::KY pre z0) w/\(True))->R a w:=by
   clear N J
   rintro a w ⟨J,N,Y⟩
   apply L
   generalize n:(decide (zG t i=40∨zG t i=41))=D at J
   cases D
   have d0:=z5j (t:=t) (i:=i) (by omega)
   have f0:=j0p B (of_decide_eq_false d) (of_decide_eq_false n)
   refine Qq (fun a J=>?_) (o:=by exact fun J O=>vE i (t.size) J rfl runUnderlying9 ⟨_,rfl⟩ rfl (by omega) (by exact Nat.le_refl _))
   refine zT call176 (fun w N a J=>?_) (c:=j8a (i:=i) (by omega) (by omega) N)
   refine goJ 6 fun a J=>?_
   refine sq fun S M=>?_
   have q:∀a w,(EnvR 52 [(0,.func (.yield l) #[] #[]),(1,.pointer (some ⟨bx,0,none⟩)),(3,.int .i64 i),(4,.int .i64 ((qT t i:Nat):Int))] [] a/\Mem Φ (.blk bx (ob [.string t] 9)::KY pre z0) w/\(True))->S a w:=by
    clear N J
    rintro a w ⟨J,N,Z⟩
    apply M
    refine go1 fun a J=>?_
    refine xZ ?_
    refine yZ J (by intro c h;cases h) (jY J rfl) rfl fun a J=>?_
    refine yZ J (by intro c h;cases h) (qD 0 J N.toSees rfl rfl rfl isAgg9) rfl fun a J=>?_
    refine yZ J (by intro c h;cases h) (jY J rfl) rfl fun a J=>?_
    refine yZ J (by intro c h;cases h) (jY J rfl) rfl fun a J=>?_
    refine yZ J (by intro c h;cases h) (jY J rfl) rfl fun a J=>?_
    refine yZ J (by intro c h;cases h) (nA (i:=i) (j:=qT t i) J rfl rfl (by omega)) rfl fun a J=>?_
    refine yZ J (by intro c h;cases h) (vE i (i+qT t i) J rfl runUnderlying9 ⟨_,rfl⟩ ⟨_,rfl⟩ (by omega) (by omega)) rfl fun a J=>?_
    refine y5d (v:=.string (t.extract i (i+qT t i))) J rfl rfl rfl (hy pre z0 [.blk bx (ob [.string t] 9)] (t.extract i (i+qT t i)) w (by omega) N) fun w r a J=>?_
    obtain ⟨V,N⟩:=r
    replace N:=N.nf
    refine yZ J (by intro c h;cases h) (z4c J rfl) rfl fun a J=>?_
    refine wpListIn_nil ?_
    refine Qq (fun a J=>?_) (o:=by exact fun J O=>nA (i:=i) (j:=(qT t i)) J rfl rfl (by omega))
    refine go fun a J=>?_
    refine s _ _ _ (by subst u;omega) ⟨((i+(qT t i))),(f - 1),(pre++[(t.extract i (i+qT t i))]),(V),rfl,J.pk,N,?_⟩
    exact ⟨by omega,by simp only [laQ,lcQ,lnQ];omega,by omega,by rw [p,j4w B (by omega) (of_decide_eq_false d) (of_decide_eq_false n),List.append_assoc];rfl⟩
   by_cases E:(if i+qT t i < t.size then ((qT t i:Nat):Int) else -1) < 0
   have e0:=v0b (by omega) E
   refine Qq (fun a J=>?_) (o:=by exact fun J O=>wG ((qT t i:Nat):Int) J rfl rfl (by rw [jI (by omega)];omega))
   refine go fun a J=>?_
   exact q _ _ ⟨J.pk,N,trivial⟩
   refine go fun a J=>?_
   rw [v0c E] at J
   exact q _ _ ⟨J.pk,N,trivial⟩
   refine go1 fun a J=>?_
   refine xZ ?_
   refine yZ J (by intro c h;cases h) (jY J rfl) rfl fun a J=>?_
   refine yZ J (by intro c h;cases h) (qD 0 J N.toSees rfl rfl rfl isAgg9) rfl fun a J=>?_
   refine yZ J (by intro c h;cases h) (jY J rfl) rfl fun a J=>?_
   refine yZ J (by intro c h;cases h) (jY J rfl) rfl fun a J=>?_
   refine yZ J (by intro c h;cases h) (nA (i:=i) (j:=1) J rfl rfl (by omega)) rfl fun a J=>?_
   refine yZ J (by intro c h;cases h) (vE i (i+1) J rfl runUnderlying9 ⟨_,rfl⟩ ⟨_,rfl⟩ (by omega) (by omega)) rfl fun a J=>?_
   refine y5d (v:=.string (t.extract i (i+1))) J rfl rfl rfl (hy pre z0 [.blk bx (ob [.string t] 9)] (t.extract i (i+1)) w (by omega) N) fun w r a J=>?_
   obtain ⟨W,N⟩:=r
   replace N:=N.nf
   refine yZ J (by intro c h;cases h) (z4c J rfl) rfl fun a J=>?_
   refine wpListIn_nil ?_
   refine go fun a J=>?_
   refine s _ _ _ (by subst u;omega) ⟨((i+1)),(f - 1),(pre++[(t.extract i (i+1))]),(W),rfl,J.pk,N,?_⟩
   exact ⟨by omega,by simp only [laQ,lcQ,lnQ];omega,by omega,by rw [p,x2r B (by omega) (of_decide_eq_false d) (of_decide_eq_true n),List.append_assoc];rfl⟩
  by_cases F:A.toNat=40
  refine go fun a J=>?_
  exact m _ _ (by rw [show decide (zG t i=40∨zG t i=41)=true from decide_eq_true (.inl ((yP b).trans F))];exact ⟨J.pk,N,trivial⟩)
  by_cases G:A.toNat=41
  refine go fun a J=>?_
  exact m _ _ (by rw [show decide (zG t i=40∨zG t i=41)=true from decide_eq_true (.inr ((yP b).trans G))];exact ⟨J.pk,N,trivial⟩)
  refine go fun a J=>?_
  exact m _ _ (by rw [show decide (zG t i=40∨zG t i=41)=false from decide_eq_false (by rw [yP b];exact fun U=>U.elim F G)];exact ⟨J.pk,N,trivial⟩)
  refine go fun a J=>?_
  refine s _ _ _ (by subst u;omega) ⟨(i+1),(f - 1),(pre),(z0),rfl,J.pk,N,?_⟩
  exact ⟨by omega,by omega,by omega,by rw [p,v0e B (by omega) (of_decide_eq_true d)]⟩
 by_cases H:A.toNat=32
 refine go fun a J=>?_
 exact g _ _ (by rw [show decide (zG t i=32∨zG t i=10)=true from decide_eq_true (.inl ((yP b).trans H))];exact ⟨J.pk,N,trivial⟩)
 by_cases I:A.toNat=10
 refine go fun a J=>?_
 exact g _ _ (by rw [show decide (zG t i=32∨zG t i=10)=true from decide_eq_true (.inr ((yP b).trans I))];exact ⟨J.pk,N,trivial⟩)
 refine go fun a J=>?_
 exact g _ _ (by rw [show decide (zG t i=32∨zG t i=10)=false from decide_eq_false (by rw [yP b];exact fun U=>U.elim H I)];exact ⟨J.pk,N,trivial⟩)
 refine go fun a J=>?_
 replace N:=N.dl [0]
 refine hQ _ _ _ (q2a J results175 ?_)
 rw [p,x2q B,List.append_nil];exact ⟨z0,rfl,N⟩
abbrev wrongRE (n:Nat) (r:Bool):PanicEntry:={ v:=.iface 206 (.agg #[.int .i64 n]),recovered:=r }
theorem q7e:zM prog 206 0 0:=zH runUnderlying206 rfl sizeOf3 (by decide) rfl
set_option maxRecDepth 20000 in
set_option maxHeartbeats 4000000 in
theorem q3j {Φ:Fz} {K:List Res} {w:World} {bc bw n:Nat} {s t u v x:Value} (N:Mem Φ (.blk bc (ob [s,t,u,v] 27)::.blk bw (ob [x] 3)::K) w) :
  CallsD prog 137 #[.pointer (some ⟨bc,0,none⟩),.pointer (some ⟨bw,0,none⟩)] (.panicking (aB n)) w fun e u' w'=>
   e=.returned (.tuple #[])/\u'=.panicking [wrongRE n true]/\Mem Φ (.blk bc (ob [.slice none 0 0,.slice none 0 0,.slice none 0 0,.slice none 0 0] 27)::.blk bw (ob [.int .i64 n] 3)::K) w':=by
 generalize j:(fun (e:Ending) (u':FrameMode) (w':World)=>e=.returned (.tuple #[])/\u'=.panicking [wrongRE n true]/\Mem Φ (.blk bc (ob [.slice none 0 0,.slice none 0 0,.slice none 0 0,.slice none 0 0] 27)::.blk bw (ob [.int .i64 n] 3)::K) w')=R
 refine callsD_of_wpS func137 rfl fun c₀ cs m=>?_
 apply wpS_seq
 apply wpS_region
 show wpOpsS prog _ _ [0,1] _ _ _
 simp [wpOpsS,go_sem,recoverD,m,ntmps137,Exit.thenS,aB]
 refine wpS_of_wp ?_
 generalize k:(_::cs:List Frame)=cs'
 have hQ:∀(a:Act) (w':World),a.defers=[]->Mem Φ (.blk bc (ob [.slice none 0 0,.slice none 0 0,.slice none 0 0,.slice none 0 0] 27)::.blk bw (ob [.int .i64 n] 3)::K) w'->bodyPostS prog Tryz.f137 c₀ cs R .normal a cs' w':=fun a w' l N=>
  ⟨l,.panicking [wrongRE n true],k.symm,.tuple #[],results_none rfl _ _ _,by subst j;exact ⟨rfl,rfl,N⟩⟩
 generalize b:(Act.mk _ [])=a
 have J:EnvR 19 [(2,.iface 206 (.agg #[.int .i64 n])),(1,.pointer (some ⟨bw,0,none⟩)),(0,.pointer (some ⟨bc,0,none⟩))] [] a:=by
  subst b
  refine ⟨by simp,fun t v h=>?_,rfl⟩
  obtain ⟨rfl,rfl⟩ | ⟨_,h⟩:=nO h
  ·simp
  ·obtain ⟨rfl,rfl⟩ | ⟨_,h⟩:=nO h
   ·simp
   ·obtain ⟨rfl,rfl⟩ | ⟨_,h⟩:=nO h
    ·simp
    ·cases h
 clear b
 refine sq fun o c=>?_
 refine wp_region_lit ?_
 refine kB J (jY J rfl) rfl fun a J=>?_
 refine kB J (oR (v:=.bool true) J rfl rfl rfl (by kernel_rfl)) rfl fun a J=>?_
 refine wpList_nil ?_
 apply c
 refine if_t J rfl ?_
 refine sq fun p d=>?_
 refine wp_region_lit ?_
 refine kB J (jY J rfl) rfl fun a J=>?_
 refine kB J (j0s J rfl runUnderlying206 (by intro ms h;cases h)) rfl fun a J=>?_
 refine kB J (jY J rfl) rfl fun a J=>kB J (uG J rfl rfl) rfl fun a J=>kB J (uG J rfl rfl) rfl fun a J=>?_
 refine st J rfl rfl rfl (yT (cs:=[.int .i64 ((0:Nat):Int)]) N zeroValue206 rfl fun i w N a J=>?_)
 refine st0 J rfl rfl (yA 0 (cs:=[.int .i64 ((0:Nat):Int)]) (vs:=[.int .i64 n]) J N rfl rfl rfl rfl sizeOf206 rfl rfl rfl fun w N a J=>?_)
 refine kB J (kZ J rfl) rfl fun a J=>?_
 refine wpList_nil ?_
 apply d
 replace N:Mem Φ (.blk i (ob [.int .i64 n] 206)::.blk bc (ob [s,t,u,v] 27)::.blk bw (ob [x] 3)::K) w:=N
 refine sq fun r f=>?_
 refine sq fun y g=>?_
 refine wp_region_lit ?_
 refine kB J (jY J rfl) rfl fun a J=>kB J (z4c J rfl) rfl fun a J=>?_
 refine wpList_nil ?_
 apply g
 refine if_f J rfl ?_
 refine wp_skip ?_
 apply f
 refine dE [1,1,2,0,0] (.q 0 (.q 1 (.q 2 (.e 3 (.e 4 (.done)))))) [.blk i (ob [.int .i64 n] 206)] J N mixed (by kernel_rfl) (by simp) fun w N=>?_
 refine y3u J rfl rfl (fun w=>z0u (vs:=[]) (cs:=[.slice none 0 0,.slice none 0 0,.slice none 0 0,.slice none 0 0]) J rfl (by kernel_rfl)) rfl fun a J=>?_
 refine y3u J rfl rfl (fun w=>jE J rfl q7e rfl) rfl fun a J=>?_
 refine d_q J rfl rfl (fun w O=>qD 0 J O rfl rfl rfl isAgg3) rfl fun a J=>?_
 refine wA J rfl rfl (yA 1 (cs:=[s,t,u,v]) (vs:=[.slice none 0 0,.slice none 0 0,.slice none 0 0,.slice none 0 0]) J N rfl rfl rfl rfl sizeOf27 rfl rfl rfl fun w N=>⟨fun _=>N.seesIn (Fz.Le.refl _) (by simp [pU]),fun a J=>?_⟩)
 refine wA J rfl rfl (yA 2 (cs:=[x]) (vs:=[.int .i64 n]) J N rfl rfl rfl rfl sizeOf3 rfl rfl rfl fun w N=>⟨yJ (by kernel_rfl),fun a J=>?_⟩)
 refine q3l ?_
 replace N:Mem Φ (.blk bc (ob [.slice none 0 0,.slice none 0 0,.slice none 0 0,.slice none 0 0] 27)::.blk bw (ob [.int .i64 n] 3)::K) w:=N.del 0
 exact hQ _ _ J.defs N
set_option maxRecDepth 20000 in
theorem catchR_none {w:World} {bc bw:Nat} :
  CallsD prog 137 #[.pointer (some ⟨bc,0,none⟩),.pointer (some ⟨bw,0,none⟩)] .returning w fun e u' w'=>e=.returned (.tuple #[])/\u'=.returning/\w'=w:=by
 generalize f:(fun (e:Ending) (u':FrameMode) (w':World)=>e=.returned (.tuple #[])/\u'=.returning/\w'=w)=R
 refine callsD_of_wpS func137 rfl fun c₀ cs d=>?_
 apply wpS_seq
 apply wpS_region
 show wpOpsS prog _ _ [0,1] _ _ _
 simp [wpOpsS,go_sem,recoverD,d,ntmps137,Exit.thenS]
 refine wpS_of_wp ?_
 have hQ:∀(a:Act),a.defers=[]->bodyPostS prog Tryz.f137 c₀ cs R .normal a (c₀::cs) w:=fun a g=>
  ⟨g,.returning,by cases c₀;simp only at d;subst d;rfl,.tuple #[],results_none rfl _ _ _,by subst f;exact ⟨rfl,rfl,rfl⟩⟩
 generalize b:(Act.mk _ [])=a
 have J:EnvR 19 [(2,.nilIface)] [] a:=by
  subst b
  refine ⟨by simp,fun t v h=>?_,rfl⟩
  obtain ⟨rfl,rfl⟩ | ⟨_,h⟩:=nO h
  ·simp
  ·cases h
 clear b
 refine sq fun i c=>?_
 refine wp_region_lit ?_
 refine kB J (jY J rfl) rfl fun a J=>?_
 refine kB J (oR (v:=.bool false) J rfl rfl rfl (by kernel_rfl)) rfl fun a J=>?_
 refine wpList_nil ?_
 apply c
 refine if_f J rfl ?_
 refine wp_skip ?_
 exact hQ _ J.defs
theorem fo_75_0:zM prog 75 0 0:=zH runUnderlying75 rfl sizeOf27 (by decide) rfl
theorem fo_75_1:zM prog 75 1 4:=zH runUnderlying75 rfl sizeOf25 (by decide) rfl
theorem fo_75_2:zM prog 75 2 5:=zH runUnderlying75 rfl sizeOf47 (by decide) rfl
theorem fo_75_3:zM prog 75 3 6:=zH runUnderlying75 rfl sizeOf71 (by decide) rfl
theorem fo_75_4:zM prog 75 4 7:=zH runUnderlying75 rfl sizeOf72 (by decide) rfl
theorem fo_75_5:zM prog 75 5 8:=zH runUnderlying75 rfl sizeOf73 (by decide) rfl
theorem fo_78_0:zM prog 78 0 0:=zH runUnderlying78 rfl sizeOf9 (by decide) rfl
theorem fo_86_0:zM prog 86 0 0:=zH runUnderlying86 rfl sizeOf25 (by decide) rfl
theorem fo_86_1:zM prog 86 1 1:=zH runUnderlying86 rfl sizeOf84 (by decide) rfl
theorem fo_86_2:zM prog 86 2 2:=zH runUnderlying86 rfl sizeOf84 (by decide) rfl
theorem fo_95_0:zM prog 95 0 0:=zH runUnderlying95 rfl sizeOf9 (by decide) rfl
theorem fo_95_1:zM prog 95 1 1:=zH runUnderlying95 rfl sizeOf9 (by decide) rfl
theorem q7d:zM prog 131 0 0:=zH runUnderlying131 rfl sizeOf78 (by decide) rfl
theorem x5c:zM prog 131 1 1:=zH runUnderlying131 rfl sizeOf112 (by decide) rfl
theorem x5o:zM prog 261 1 1:=zH runUnderlying261 rfl sizeOf3 (by decide) rfl
theorem x5q:zM prog 261 3 3:=zH runUnderlying261 rfl sizeOf3 (by decide) rfl
set_option maxRecDepth 20000 in
theorem rt_47:RowT prog 47 95 2 32:=⟨underlying47,⟨_,_,Tryz.type95,rfl,rfl,rfl,rfl⟩,by decide,by decide⟩
section
variable {P:Program} {ops:Array Oper} {md:Region.Mode} {B:World->Prop} {kd:List Nat} {Qp:List PanicEntry->World->Prop} {D:List Deferred}
end
theorem EnvR.keep {n:Nat} {E0:List (Nat×Value)} {D:List Deferred} {a:Act} {o:Oper} {v:Value} (J:EnvR n E0 D a) (b:(match o.dst with | some d=>(get E0 d).isNone | none=>true)=true):EnvR n E0 D (a.put o.dst v):=by
 cases c:o.dst with
 | none=>exact J
 | some d=>
  rw [c] at b
  refine ⟨by simp [Act.put,J.size],fun t u h=>?_,J.defs⟩
  have:t≠d:=fun e=>by subst e;simp only [h] at b;cases b
  simp only [Act.put]
  rw [Array.getElem?_setIfInBounds_ne (Ne.symm this)]
  exact J.env t u h
theorem gI {P:Program} {n:Nat} {E0:List (Nat×Value)} {D:List Deferred} {a:Act} {Φ:Fz} {K:List Res} {w:World} {id:Nat} {l:List Oper} {Q:Exit->Act->World->Prop} (kd:List Nat) (p:Plan) (K':List Res) (g:EnvR n E0 D a) (N:Mem Φ K w) (q:P.follows .mixedOrders=true) (f:z6z l.toArray kd p=true) (j:∀r∈K',r∈K)
  (m:l.all (fun o=>match o.dst with | some d=>(get E0 d).isNone | none=>true)=true)
  (h:∀w,Mem Φ K w->yE P .any l.toArray (Sees Φ K') kd (fun c w=>∀a,EnvR n E0 D a->Q (.panic c) a w) (Q .normal) p a w):(Code.region id l.toArray true).wp P Q a w:=by
 have hm':=N.drew
 have h:=h _ hm'
 simp only [z6z,baQ,beq_iff_eq] at f
 obtain ⟨⟨⟨O,b⟩,hl⟩,e⟩:=f
 refine (wpIn_wide (n:=3)).1 (wpIn_region_any q (cD (r:=none) (Inv:=EnvR n E0 D) (kd:=kd) (B:=Sees Φ K') (Qp:=fun c w=>∀a,EnvR n E0 D a->Q (.panic c) a w) (Q:=Q .normal) (fun h=>absurd rfl h) (fun i o a v k J=>J.keep ?_) (fun _ _ h=>h) (fun c a w J h=>h a J) _ _ _ _ g (fun _=>⟨hm'.fz,fun r hr=>hm'.own r (j r hr)⟩) ?_))
 ·have h1:l[i]? = some o:=by simpa using k
  exact List.all_eq_true.1 m o (mgQ h1)
 ·have:=vN O p _ _ _ b e h
  rw [hl] at this
  exact this
theorem cV {P:Program} {n m:Nat} {r:Option Nat} {E:List (Nat×Value)} {a:Act} {Φ:Fz} {K:List Res} {w:World} {id:Nat} {l:List Oper} {Q:Exit->Act->World->Prop} (kd:List Nat) (p:Plan) (K':List Res) (J:EnvR n E [] a) (N:Mem Φ K w) (s:P.follows .mixedOrders=true) (f:z6z l.toArray kd p=true) (g:∀r∈K',r∈K)
  (q:l.all (fun o=>match o.op with | .defer _=>false | _=>true)=true)
  (h:∀w,Mem Φ K w->yE P .any l.toArray (Sees Φ K') kd (fun _ _=>False) (Q .normal) p a w):(Code.region id l.toArray true).wpIn (FO r) m P Q a w:=by
 have hm':=N.drew
 have h:=h _ hm'
 simp only [z6z,baQ,beq_iff_eq] at f
 obtain ⟨⟨⟨O,b⟩,hl⟩,d⟩:=f
 refine wpIn_region_any s (cD (Inv:=fun _=>True) (kd:=kd) (B:=Sees Φ K') (Qp:=fun _ _=>False) (Q:=Q .normal) (fun _ i o k c j=>?_) (fun _ _ _ _ _ h=>h) (fun _ _ h=>h) (fun _ _ _ _ h=>h.elim) _ _ _ _ trivial (fun _=>⟨hm'.fz,fun r hr=>hm'.own r (g r hr)⟩) ?_)
 ·have h1:l[i]? = some o:=by simpa using k
  have e:=List.all_eq_true.1 q o (mgQ h1)
  rw [j] at e;cases e
 ·have:=vN O p _ _ _ b d h
  rw [hl] at this
  exact this
section
variable {P:Program} {Φ:Fz}
def Fires (P:Program) (y:Value) (vs:List Value) (w:World) (R:Ending->World->Prop):Prop :=
 (∃f fs cs,y=.func (.func f) (List.toArray fs) (List.toArray cs)/\(∀args w,(callFunc f args).run P w=.ok (.enter f args) w)/\Calls P f (fs++vs++cs).toArray w R) ∨
 (∃l,y=.func (.yield l) #[] #[]/\YieldAt Fence.wide 2 P l vs.toArray w R)
theorem Fires.mono {y:Value} {vs:List Value} {w:World} {R R':Ending->World->Prop} (h:Fires P y vs w R) (hr:∀e w',R e w'->R' e w'):Fires P y vs w R':=by
 rcases h with ⟨f,fs,cs,h1,a,b⟩ | ⟨l,h1,fn,tmps,assign,body,a,b⟩
 ·exact .inl ⟨f,fs,cs,h1,a,b.mono hr⟩
 ·exact .inr ⟨l,h1,fn,tmps,assign,body,a,b.mono hr⟩
structure Takes {α β:Type} (P:Program) (Φ:Fz) (y:Value) (arg:α->List Value) (items:List α) (KY:List α->β->List Res):Prop where
 fn:∃f fs cs,y=.func f fs cs
 go:∀pre x post z K0 w,items=pre++x::post->Mem Φ (K0++KY pre z) w->Fires P y (arg x) w (fun e w'=>e=.returned (.bool true)/\∃z',Mem Φ (K0++KY (pre++[x]) z') w')
end
section
variable {P:Program} {n m:Nat} {E:List (Nat×Value)} {D:List Deferred} {a:Act} {w:World} {ops:Array Oper} {rest:List Oper} {Q:Exit->Act->World->Prop} {r:Option Nat} {d:Nat} {v:Value} {op:Op} {ty:TypeId} {pos:String} {aft:Array Edge}
theorem nC (h:Q .normal a w):wpListIn (FO r) m P ops Q [] a w:=wpListIn_nil h
theorem vY {y:Operand} {xs:Array Operand} {vs:List Value} {ts:Array TypeId} {yv u:Value} {JJ:World->Prop} {Kn:Value->World->Prop} {Qp:List PanicEntry->World->Prop} {dst:Option Tmp} {g:Option (Nat×Bool)} (J:EnvR n E D a) (h:ev E y=some yv) (d:evs E xs.toList=some vs)
  (hr:Fires P yv vs w (fun e w'=>e=.returned u/\JJ w')) (k:∀w',JJ w'->Kn u w'):Oper.effR P ⟨dst,.call { callee:=.value y,args:=xs,argTypes:=ts },ty,pos,aft,g⟩ a w Kn Qp:=by
 unfold Oper.effR
 rcases hr with ⟨f,fs,cs,rfl,m,j⟩ | ⟨l,rfl,fn,tmps,assign,body,h1,i⟩
 ·have b:(execOp a.eval ⟨dst,.call { callee:=.value y,args:=xs,argTypes:=ts },ty,pos,aft,g⟩).run P w=.ok (.enter f (fs++vs++cs).toArray) w:=by
   simp only [execOp,resolve,Sem.run_bind,J.evsA d,J.ev h,Deferred.ofValue]
   have:=m (fs++vs++cs).toArray w
   simp only [invoke]
   simpa [Sem.run_bind,Result.andThen] using this
  rw [b]
  refine j.mono fun e w' he'=>?_
  obtain ⟨rfl,c⟩:=he'
  exact k _ c
 ·have b:(execOp a.eval ⟨dst,.call { callee:=.value y,args:=xs,argTypes:=ts },ty,pos,aft,g⟩).run P w=.ok (.round l fn tmps assign body) w:=by
   simp only [execOp,resolve,Sem.run_bind,J.evsA d,J.ev h,Deferred.ofValue]
   simp [invoke,Sem.run_bind,Result.andThen,h1]
  rw [b]
  refine i.mono fun e w' he'=>?_
  obtain ⟨rfl,c⟩:=he'
  exact k _ c
theorem d_fire {kd:List Nat} {B:World->Prop} {Qp:List PanicEntry->World->Prop} {Q:Act->World->Prop} {p:Plan} {i:Nat} {ops:Array Oper} (J:EnvR n E D a) (f:ops[i]? = some ⟨some d,op,ty,pos,aft,none⟩) (g:qM kd i=0) (c:Nat.blt d n=true)
  (h:Oper.effR P ⟨some d,op,ty,pos,aft,none⟩ a w (fun v w'=>(oA .any kd ⟨some d,op,ty,pos,aft,none⟩=true->B w')/\∀a,EnvR n ((d,v)::E) D a->yE P .any ops B kd Qp Q p a w') Qp):yE P .any ops B kd Qp Q (.e i p) a w:=by
 unfold yE vV
 simp only [f]
 rw [if_pos (aM rfl _),if_pos g]
 exact xH h (fun v w' b=>⟨b.1,b.2 _ (J.put c)⟩) (fun _ _ h=>h)
theorem d_fireg {kd:List Nat} {B:World->Prop} {Qp:List PanicEntry->World->Prop} {Q:Act->World->Prop} {p:Plan} {i:Nat} {ops:Array Oper} {j t:Nat} {b:Bool} (J:EnvR n E D a) (g:ops[i]? = some ⟨some d,op,ty,pos,aft,some (j,b)⟩) (k:ops[j]?.bind (·.dst)=some t) (c:get E t=some (.bool b)) (l:qM kd i=0) (f:Nat.blt d n=true)
  (h:Oper.effR P ⟨some d,op,ty,pos,aft,some (j,b)⟩ a w (fun v w'=>(oA .any kd ⟨some d,op,ty,pos,aft,some (j,b)⟩=true->B w')/\∀a,EnvR n ((d,v)::E) D a->yE P .any ops B kd Qp Q p a w') Qp):yE P .any ops B kd Qp Q (.e i p) a w:=by
 unfold yE vV
 simp only [g]
 rw [if_pos (aA J rfl k c),if_pos l]
 exact xH h (fun v w' c=>⟨c.1,c.2 _ (J.put f)⟩) (fun _ _ h=>h)
theorem z1r {o:Oper} (J:EnvR n E D a) (i:o.dst=some d) (b:Nat.blt d n=true) (j:o.guard=none) (e:∀c,o.op≠.defer c)
  (h:Oper.effR P o a w (fun v w'=>∀a,EnvR n ((d,v)::E) D a->wpListIn (FO r) m P ops Q rest a w') (fun _ _=>False)):wpListIn (FO r) m P ops Q (o::rest) a w:=by
 refine wpListIn_plain j fun L f=>z0t (fun _=>e) (xH h (fun v w' k=>f _ _ ?_) (fun c w' g=>g.elim))
 rw [i];exact k _ (J.put b)
theorem z1q {o:Oper} {j t:Nat} {b:Bool} (J:EnvR n E D a) (l:o.dst=some d) (e:Nat.blt d n=true) (p:o.guard=some (j,b)) (q:ops[j]?.bind (·.dst)=some t) (g:get E t=some (.bool b)) (f:∀c,o.op≠.defer c)
  (h:Oper.effR P o a w (fun v w'=>∀a,EnvR n ((d,v)::E) D a->wpListIn (FO r) m P ops Q rest a w') (fun _ _=>False)):wpListIn (FO r) m P ops Q (o::rest) a w:=by
 refine wpListIn_step fun L i=>?_
 rw [if_pos (aA J p q g)]
 refine z0t (fun _=>f) (xH h (fun v w' g=>i _ _ ?_) (fun c w' k=>k.elim))
 rw [l];exact g _ (J.put e)
theorem y5b {o:Oper} {j t:Nat} {b:Bool} {v:Value} (J:EnvR n E D a) (e:o.dst=some d) (g:o.guard=some (j,b)) (c:Nat.blt d n=true) (h:ops[j]?.bind (·.dst)=some t) (i:get E t=some v) (hb:q4p v b=true)
  (k:∀a,EnvR n ((d,undef)::E) D a->wpListIn (FO r) m P ops Q rest a w):wpListIn (FO r) m P ops Q (o::rest) a w:=by
 unfold wpListIn
 rw [if_neg (by rw [z3p J g h i hb];simp),e]
 exact ⟨fun f _=>FO.fn f,k _ (J.put c)⟩
theorem y2o {v:Value} {Kn:Value->World->Prop} {Qp:List PanicEntry->World->Prop} {dst:Option Tmp} {g:Option (Nat×Bool)} (b:Ok P a op ty w v) (k:Kn v w):Oper.effR P ⟨dst,op,ty,pos,aft,g⟩ a w Kn Qp:=(dO b k).toR
theorem blkI {id:Nat} {c:Code} (h:c.wpIn (FO r) m P (Exit.inBlock id Q) a w):(Code.block id c).wpIn (FO r) m P Q a w:=wpIn_block h
theorem exitI {id:Nat} (h:Q (.exit id) a w):(Code.exit id).wpIn (FO r) m P Q a w:=wpIn_exit h
theorem skipI (h:Q .normal a w):Code.skip.wpIn (FO r) m P Q a w:=wpIn_skip h
theorem regI {id:Nat} {l:List Oper} (h:wpListIn (FO r) m P l.toArray Q l a w):(Code.region id l.toArray false).wpIn (FO r) m P Q a w:=wpIn_region_lit h
theorem sqI {x y:Code} (h:∀L:Act->World->Prop,(∀a w,y.wpIn (FO r) m P Q a w->L a w)->x.wpIn (FO r) m P (Exit.then L Q) a w):(Code.seq x y).wpIn (FO r) m P Q a w:=wpIn_seq_k h
theorem if_tI {c:Operand} {x y:Code} (J:EnvR n E D a) (b:ev E c=some (.bool true)) (h:x.wpIn (FO r) m P Q a w):(Code.cond c x y).wpIn (FO r) m P Q a w:=wpIn_cond_true (J.ev b) h
theorem if_fI {c:Operand} {x y:Code} (J:EnvR n E D a) (b:ev E c=some (.bool false)) (h:y.wpIn (FO r) m P Q a w):(Code.cond c x y).wpIn (FO r) m P Q a w:=wpIn_cond_false (J.ev b) h
end
section
variable {P:Program} {Φ:Fz} {K:List Res} {w:World}
theorem q2c {β:Type} {l:Nat} {r:Loop} {tmps:Array Value} {KO:β->List Res} (a:r.state=.ready) (b:r.pending=none)
  (q:r.assign.wpIn (FO (some l)) 2 P (Exit.then (fun j g=>∃K1,Mem Φ (.blk l (.loop r)::K1) g/\∀d,Mem Φ (.blk l (.loop { r with state:=.busy })::K1) d ->
   r.body.wpIn (FO (some l)) 2 P (fun e _ w=>e=.normal/\∃z,Mem Φ (.blk l (.loop { r with state:=.busy })::KO z) w) j d) (fun _ _ _=>False)) ⟨tmps,[]⟩ w) :
  RoundIn Fence.wide 2 P l r.fn tmps r.assign r.body w (fun e w'=>e=.returned (.bool true)/\∃z,Mem Φ (.blk l (.loop r)::KO z) w'):=by
 refine roundIn_of_wpIn trivial (Code.wpIn_mono (fun e j g h=>?_) q)
 cases e with
 | normal=>
  obtain ⟨K1,k,p⟩:=h
  have hl:g.heap[l]? = some (.loop r):=k.own _ msQ
  refine ⟨_,run_beginRound hl a,?_⟩
  refine Code.wpIn_mono (fun e a2 d h=>?_) (p _ (k.putObj (i:=0) (o':=.loop { r with state:=.busy }) rfl))
  obtain ⟨rfl,z,m⟩:=h
  have f:d.heap[l]? = some (.loop { r with state:=.busy }):=m.own _ msQ
  refine ⟨_,_,run_endRound none f,rfl,z,?_⟩
  have n:=m.putObj (i:=0) (o':=.loop { ({ r with state:=.busy }:Loop) with state:=.ready,pending:=none }) rfl
  have o:({ ({ r with state:=.busy }:Loop) with state:=.ready,pending:=none }:Loop)=r:=by cases r;simp only at a b;subst a;subst b;rfl
  simp only [pU,o] at n;simpa [o] using n
 | exit id=>exact h.elim
 | goto l=>exact h.elim
 | ret=>exact h.elim
 | panic c=>exact h.elim
 | outgrown=>exact h.elim
theorem z9u {α β:Type} {n gf p:Nat} {E:List (Nat×Value)} {Dd:List Deferred} {a:Act} {g:Operand} {assign body:Code} {Q:Exit->Act->World->Prop} {fs cs:List Value}
  (items:List α) (arg:α->Value) (KX:List Res) (KV:List α->β->List Res) (z0:β)
  (J:EnvR n E Dd a) (N:Mem Φ (KX++KV [] z0) w) (D:ev E g=some (.func (.func gf) fs.toArray cs.toArray)) (C:∀args w,(callFunc gf args).run P w=.ok (.enter gf args) w) (H:Nat.blt p n=true)
  (hr:∀pre x post z l o o2 K' a w,items=pre++x::post->EnvR n ((p,arg x)::E) [] a->Mem Φ (.blk l o::(KV pre z++K')) w ->
   assign.wpIn (FO (some l)) 2 P (Exit.then (fun s I=>∃K1,Mem Φ (.blk l o::K1) I/\∀q,Mem Φ (.blk l o2::K1) q ->
    body.wpIn (FO (some l)) 2 P (fun e _ w=>e=.normal/\∃z,Mem Φ (.blk l o2::(KV (pre++[x]) z++K')) w) s q) (fun _ _ _=>False)) a w)
  (A:∀(y:Value) (KY:List α->β->List Res) (w:World),Takes P Φ y (fun x=>[arg x]) items KY->Mem Φ (KX++KY [] z0) w->Calls P gf (fs++[y]++cs).toArray w (fun e w'=>∃v z,e=.returned v/\Mem Φ (KX++KY items z) w'))
  (kn:∀Dk z a w,EnvR n E ({ target:=.collected Dk,args:=#[] }::Dd) a->Mem Φ (.blk Dk (.deferred (some []))::(KX++KV items z)) w->Q .normal a w):(Code.rangeFunc g #[p] assign body).wp P Q a w:=by
 refine z7q (β:=β) (δ:=Unit) (F1:=fun _=>Φ) (KO:=fun z=>KX++KV items z) (KE:=fun _=>[]) (G:=fun _=>True) (B:=fun _ _=>False) J N D C (fun Dk l r w c has f m k u N=>?_) (fun Dk z a w _ J N=>kn Dk z a w J N) (fun _ _ _ _ _ h=>h.elim)
 subst has;subst f
 have key:=A (.func (.yield l) #[] #[]) (fun pre z=>.blk l (.loop r)::.blk Dk (.deferred (some []))::KV pre z) w ⟨⟨_,_,_,rfl⟩,fun pre x post z K0 w j N=>.inr ⟨l,rfl,?_⟩⟩ ?_
 ·refine key.mono fun e w' h=>?_
  obtain ⟨v,z,rfl,h⟩:=h
  refine .inl ⟨v,z,rfl,trivial,h.perm ?_⟩
  exact (List.perm_middle.trans (List.Perm.cons _ List.perm_middle))
 ·have b:Mem Φ (.blk l (.loop r)::(KV pre z++(.blk Dk (.deferred (some []))::K0))) w:=N.perm (List.perm_middle.trans (List.Perm.cons _ (List.perm_middle.trans ((List.Perm.cons _ List.perm_append_comm).trans List.perm_middle.symm))))
  have hl:w.heap[l]? = some (.loop r):=b.own _ msQ
  refine ⟨r.fn,r.tmps.setIfInBounds p (arg x),r.assign,r.body,?_,?_⟩
  ·rw [run_yield hl (by rw [c];rfl),c]
   simp
  ·have i:EnvR n ((p,arg x)::E) [] ⟨r.tmps.setIfInBounds p (arg x),[]⟩:=u.put (d:=p) H
   have h:=q2c (P:=P) (Φ:=Φ) (tmps:=r.tmps.setIfInBounds p (arg x)) (KO:=fun z=>KV (pre++[x]) z++(.blk Dk (.deferred (some []))::K0)) m k (hr pre x post z l _ _ _ _ _ j i b)
   refine h.mono fun e w' F=>?_
   obtain ⟨h1,z',t⟩:=F
   refine ⟨h1,z',t.perm ?_⟩
   exact ((List.Perm.cons _ ((List.perm_middle.trans (List.Perm.cons _ List.perm_append_comm)).trans List.perm_middle.symm)).trans List.perm_middle.symm)
 ·refine N.perm ?_
  exact ((List.Perm.cons _ List.perm_middle.symm).trans List.perm_middle.symm)
end
def z3w (ds:List Nat):List Deferred:=ds.map fun d=>{ target:=.collected d,args:=#[] }
def vM (ds:List Nat):List Res:=ds.map fun d=>.blk d (.deferred (some []))
section
variable {P:Program} {Φ:Fz} {K:List Res} {n:Nat} {E:List (Nat×Value)} {a:Act} {fn:Func} {R:Ending->World->Prop}
theorem Mem.rot {A B C D:List Res} {w:World} (h:Mem Φ (A++((B++C)++D)) w):Mem Φ (A++((D++B)++C)) w:=h.perm (List.Perm.append_left A (by
 rw [List.append_assoc D B C];exact List.perm_append_comm))
theorem Mem.unrot {A B C D:List Res} {w:World} (h:Mem Φ (A++((D++B)++C)) w):Mem Φ (A++((B++C)++D)) w:=h.perm (List.Perm.append_left A (by
 rw [List.append_assoc D B C];exact List.perm_append_comm))
theorem Mem.mid {A B C:List Res} {w:World} (h:Mem Φ (A++(B++C)) w):Mem Φ (B++(A++C)) w:=h.perm (by
 rw [<- List.append_assoc,<- List.append_assoc];exact (List.perm_append_comm).append_right C)
theorem z6n {tmps:Array Value} {u:FrameMode} (a:u≠.run):∀{ds:List Nat} {w:World},Mem Φ (vM ds++K) w->(∀w',Mem Φ K w'->nN P fn tmps R [] u w')->nN P fn tmps R (z3w ds) u w
 | [],w,N,h=>h w N
 | d::ds,w,N,h=>by
  have h1:w.heap[d]? = some (.deferred (some [])):=N.own _ msQ
  exact aV a h1 (z6n a (N.putObj (i:=0) (o':=.deferred none) rfl).tail h)
theorem retXr {ds:List Nat} {w:World} (J:EnvR n E (z3w ds) a) (N:Mem Φ (vM ds++K) w) (h:∀w',Mem Φ K w'->∃x,(results fn a.tmps).run P w'=.ok x w'/\R (.returned x) w'):nN P fn a.tmps R a.defers .returning w:=by
 rw [J.defs]
 refine z6n (by intro h;cases h) N fun w' hm'=>oB ?_
 exact h w' hm'
theorem retX {ds:List Nat} {w:World} (J:EnvR n E (z3w ds) a) (N:Mem Φ (vM ds++K) w) (h:∀w',Mem Φ K w'->∃x,(results fn a.tmps).run P w'=.ok x w'/\R (.returned x) w'):aC P fn R .ret a w:=retXr J N h
theorem retXN {ds:List Nat} {w:World} (J:EnvR n E (z3w ds) a) (N:Mem Φ (vM ds++K) w) (h:∀w',Mem Φ K w'->∃x,(results fn a.tmps).run P w'=.ok x w'/\R (.returned x) w'):aC P fn R .normal a w:=retXr J N h
theorem retX0N {ds:List Nat} {w:World} (J:EnvR n E (z3w ds) a) (hr:fn.results=#[]) (N:Mem Φ (vM ds++K) w) (h:∀w',Mem Φ K w'->R (.returned (.tuple #[])) w'):aC P fn R .normal a w :=
 retXN J N fun w' hm'=>⟨.tuple #[],by simp [results,hr],h w' hm'⟩
theorem retX1 {ds:List Nat} {w:World} {t:Nat} {v:Value} (J:EnvR n E (z3w ds) a) (hr:fn.results=#[.tmp t]) (b:get E t=some v) (N:Mem Φ (vM ds++K) w) (h:∀w',Mem Φ K w'->R (.returned v) w'):aC P fn R .ret a w :=
 retX J N fun w' hm'=>⟨v,by simp [results,hr,Array.getD_eq_getD_getElem?,J.env t v b],h w' hm'⟩
theorem retX2 {ds:List Nat} {w:World} {t u:Nat} {v x:Value} (J:EnvR n E (z3w ds) a) (hr:fn.results=#[.tmp t,.tmp u]) (b:get E t=some v) (c:get E u=some x) (N:Mem Φ (vM ds++K) w) (h:∀w',Mem Φ K w'->R (.returned (.tuple #[v,x])) w'):aC P fn R .ret a w :=
 retX J N fun w' hm'=>⟨.tuple #[v,x],by simp [results,hr,Array.getD_eq_getD_getElem?,J.env t v b,J.env u x c],h w' hm'⟩
theorem retXc {ds:List Nat} {w:World} {t T b:Nat} {v:Value} {c:TypeId} (J:EnvR n E (z3w ds) a) (hr:fn.results=#[.cell t T]) (e:get E t=some (.pointer (some ⟨b,0,none⟩))) (d:Scalar P T)
  (N:Mem Φ (vM ds++.blk b (ob [v] c)::K) w) (h:∀w',Mem Φ K w'->R (.returned v) w'):aC P fn R .ret a w :=
 retX J N fun w' hm'=>⟨v,q4w (i:=0) J hm'.toSees hr e rfl rfl d,h w' hm'.tail⟩
end
def inN (s:Bs):Bs:=(⟨#[105,110,46]⟩:Bs)++s
def vZ (s:Bs) (k:Nat):Bs:=s++⟨#[47]⟩++aU ((k:Nat):Int)
def vrN (f x:Bs):Bs:=f++⟨#[46]⟩++x
def z6d (s:Bs) (n:Nat):List Bs:=(List.range n).map (vZ s)
def z5x (d:Data):List Bs:=d.cons.flatMap fun x=>z6d x.name x.fields.length
def dP (f:Fun):List Bs:=f.name::((f.params.map fun p=>vrN f.name p.name)++(zN f.body).map (vrN f.name))
def zC (c:Core):List Bs:=(c.inputs.map fun p=>inN p.name)++c.datas.flatMap z5x++c.funs.flatMap dP
theorem any_mem {α:Type} [DecidableEq α] (x:α) (l:List α):(l.any fun y=>decide (y=x))=true↔x∈l:=by simp
instance (priority:=low) decMem {α:Type} [DecidableEq α] (x:α) (l:List α):Decidable (x∈l):=decidable_of_iff _ (any_mem x l)
def qJ {α:Type} [DecidableEq α] (l:List α):List α:=l.foldl (fun a x=>if x∈a then a else a++[x]) []
theorem cP {α:Type} [DecidableEq α] (l:List α) (x:α):qJ (l++[x])=if x∈qJ l then qJ l else qJ l++[x]:=by
 unfold qJ;rw [List.foldl_append];rfl
theorem q8j {α:Type} [DecidableEq α]:qJ ([]:List α)=[]:=rfl
theorem wR {α:Type} {p:List α->Prop} (a:p []) (h1:∀l x,p l->p (l++[x])) (l:List α):p l:=by
 have:∀l:List α,p l.reverse:=by
  intro l
  induction l with
  | nil=>exact a
  | cons x l b=>rw [List.reverse_cons];exact h1 _ _ b
 have h:=this l.reverse
 rwa [List.reverse_reverse] at h
theorem y6h {α:Type} [DecidableEq α] (l:List α):∀x,x∈qJ l↔x∈l:=by
 refine wR (p:=fun l=>∀x,x∈qJ l↔x∈l) (by simp [q8j]) (fun l y b x=>?_) l
 rw [cP]
 by_cases a:y∈qJ l
 ·rw [if_pos a,b,List.mem_append,List.mem_singleton]
  constructor
  ·exact .inl
  ·rintro (h | rfl)
   ·exact h
   ·exact (b _).1 a
 ·rw [if_neg a,List.mem_append,List.mem_append,b]
theorem aG {α:Type} [DecidableEq α] (l:List α):(qJ l).length<=l.length:=by
 refine wR (p:=fun l=>(qJ l).length<=l.length) (by simp [q8j]) (fun l y b=>?_) l
 rw [cP]
 by_cases a:y∈qJ l
 ·rw [if_pos a,laQ];omega
 ·rw [if_neg a,laQ,laQ];simp only [lcQ,lnQ];omega
mutual
def qY (f:Bs):Ex->List Bs
 | .mk k _ s args arms=>
  if k=2 then [vrN f s] else if k=3 then [inN s] else if k=5 then [s]
  else if k=6 then srcS f args
  else if k=8 then srcPs f args
  else if k=7 then srcH f args++srcPa f arms
  else []
def srcPs (f:Bs):List Ex->List Bs
 | []=>[]
 | x::l=>qY f x++srcPs f l
def srcH (f:Bs):List Ex->List Bs
 | []=>[]
 | x::_=>qY f x
def srcS (f:Bs):List Ex->List Bs
 | []=>[]
 | _::l=>srcH f l
def srcPa (f:Bs):List Arm->List Bs
 | []=>[]
 | .mk _ _ b::l=>qY f b++srcPa f l
end
def wW (f:Bs) (e:Ex):List Bs:=qJ (qY f e)
abbrev Flow:=Bs×Bs
def toP (f:Bs) (node:Bs) (e:Ex):List Flow:=(wW f e).map fun s=>(s,node)
def z5u (f s:Bs):Nat->List Ex->List Flow
 | _,[]=>[]
 | k,a::l=>toP f (vZ s k) a++z5u f s (k+1) l
def cG (f s:Bs):List Param->List Ex->List Flow
 | p::ps,a::l=>toP f (vrN s p.name) a++cG f s ps l
 | _,_=>[]
def letF (f s:Bs):List Ex->List Flow
 | []=>[]
 | a::_=>toP f (vrN f s) a
def z3t (f s:Bs):Nat->List Bs->List Flow
 | _,[]=>[]
 | k,v::l=>(vZ s k,vrN f v)::z3t f s (k+1) l
def uI (f:Bs) (l:List Arm):List Flow:=l.flatMap fun a=>z3t f a.con 0 a.vars
abbrev Pars:=List (Bs×List Param)
def wX (pm:Pars) (f:Bs) (e:Ex):List Flow :=
 if e.kind=4 then z5u f e.name 0 e.args
 else if e.kind=5 then cG f e.name ((zK pm e.name).getD []) e.args
 else if e.kind=6 then letF f e.name e.args
 else if e.kind=7 then uI f e.arms
 else []
mutual
def jK (pm:Pars) (f:Bs):Ex->List Flow
 | .mk k n s args arms=>wX pm f (.mk k n s args arms)++flowPs pm f args++flowPa pm f arms
def flowPs (pm:Pars) (f:Bs):List Ex->List Flow
 | []=>[]
 | x::l=>jK pm f x++flowPs pm f l
def flowPa (pm:Pars) (f:Bs):List Arm->List Flow
 | []=>[]
 | .mk _ _ b::l=>jK pm f b++flowPa pm f l
end
mutual
def nV (pm:Pars):Ex->Prop
 | .mk k _ s args arms=>(k=5->args.length<=((zK pm s).getD []).length)/\(k=6->args≠[])/\flowOks pm args/\flowOka pm arms
def flowOks (pm:Pars):List Ex->Prop
 | []=>True
 | x::l=>nV pm x/\flowOks pm l
def flowOka (pm:Pars):List Arm->Prop
 | []=>True
 | .mk _ _ b::l=>nV pm b/\flowOka pm l
end
def kQ (i:Param) (x:Bs):Nat->List Bs->List Flow
 | _,[]=>[]
 | k,t::l=>(if t=i.type then [(inN i.name,vZ x k)] else [])++kQ i x (k+1) l
def tG (i:Param) (d:Data):List Flow:=if d.name=i.type then d.cons.flatMap fun x=>kQ i x.name 0 x.fields else []
def uO (c:Core) (i:Param):List Flow:=c.datas.flatMap (tG i)
def yC (c:Core):Pars:=c.funs.foldl (fun m f=>jP m f.name f.params) []
def wO (pm:Pars) (f:Fun):List Flow:=toP f.name f.name f.body++jK pm f.name f.body
def xW (c:Core):List Flow:=c.inputs.flatMap (uO c)++c.funs.flatMap (wO (yC c))
def zQ (c:Core):List Flow:=qJ (xW c)
abbrev Next:=List (Bs×List Bs)
def uX (m:Next) (x:Flow):Next:=jP m x.1 ((zK m x.1).getD []++[x.2])
def qK (l:List Flow):Next:=l.foldl uX []
theorem tR (l:List Flow) (x:Flow):qK (l++[x])=uX (qK l) x:=by simp [qK]
abbrev From:=List (Bs×Bs)
def nM (x:Bs):List Bs->From->List Bs->From×List Bs
 | [],o,q=>(o,q)
 | n::l,o,q=>if (zK o n).isSome then nM x l o q else nM x l (jP o n x) (q++[n])
def z0f (nx:Next):Nat->Nat->From->List Bs->From
 | 0,_,o,_=>o
 | g+1,i,o,q=>match q[i]? with
  | none=>o
  | some x=>z0f nx g (i+1) (nM x ((zK nx x).getD []) o q).1 (nM x ((zK nx x).getD []) o q).2
def vD (l:List Bs):From:=l.foldl (fun m s=>jP m s ⟨#[]⟩) []
theorem q9k (l:List Bs) (s:Bs):vD (l++[s])=jP (vD l) s ⟨#[]⟩:=by simp [vD]
def pE (nx:Next) (l:List Bs):Nat:=l.length+(nx.flatMap (·.2)).length
def yV (nx:Next) (l:List Bs):From:=z0f nx (pE nx l+1) 0 (vD l) l
def zV (c:Core):List Bs:=c.inputs.map fun p=>inN p.name
def wC (ns:List Bs) (o:From):List Bs:=ns.filter fun n=>(zK o n).isSome
structure Graph where
 core:Core
 nodes:List Bs
 flows:List Flow
 next:Next
def pF (c:Core):Graph:=⟨c,zC c,zQ c,qK (zQ c)⟩
def z1w (x:Flow):Value:=.agg #[.string x.1,.string x.2]
def z8i:Nat->List Flow->List MapEntry
 | _,[]=>[]
 | i,x::l=>{ key:=z1w x,val:=.bool true,born:=i }::z8i (i+1) l
def cE (l:List Flow):Array MapEntry:=(z8i 0 l).toArray
theorem q0g:∀(l:List Flow) (i:Nat) (x:Flow),z8i i (l++[x])=z8i i l++[{ key:=z1w x,val:=.bool true,born:=i+l.length }]
 | [],i,x=>by simp [z8i]
 | y::l,i,x=>by
  rw [List.cons_append,z8i,q0g l (i+1) x,z8i,List.cons_append,lcQ,show i+1+l.length=i+(l.length+1) by omega]
set_option maxRecDepth 20000 in
theorem y0h:∃a b,(prog.fieldsOf 95).toList=[a,b]/\(a.name ≠ "_" /\ a.type=9/\a.offset=0)/\(b.name ≠ "_" /\ b.type=9/\b.offset=1) :=
 ⟨_,_,rfl,⟨by decide,rfl,rfl⟩,by decide,rfl,rfl⟩
theorem z4m:prog.underlying 95=some (.struct (prog.fieldsOf 95)):=by kernel_rfl
theorem z3n:prog.underlying 9=some .string:=by kernel_rfl
theorem q0i {w:World} (l:List Value) (i:Nat) (v:Value) (h:l[i]? = some v):(part 9 (List.toArray l) i).run prog w=.ok v w:=by
 simp [part,isAgg,run_underlying z3n,h]
theorem eqFlow (w:World) (x y:Flow):(Op.equal 95 (z1w x) (z1w y)).run prog w=.ok (decide (x=y)) w:=by
 obtain ⟨s,u⟩:=x
 obtain ⟨s',u'⟩:=y
 obtain ⟨f,g,d,h1,b⟩:=y0h
 have a:=@q0i w
 unfold Op.equal z1w
 rw [show Op.maxDepth=9999+1 from rfl,run_equalIn_agg _ _ _ _ _ z4m (by kernel_rfl),d]
 simp only [Op.eqFields,h1.1,b.1,h1.2.1,h1.2.2,b.2.1,b.2.2,ne_eq,not_false_eq_true,if_true,Sem.run_bind,a [.string s,.string u] 0 _ rfl,a [.string s',.string u'] 0 _ rfl,a [.string s,.string u] 1 _ rfl,a [.string s',.string u'] 1 _ rfl,Result.andThen_ok,run_equalIn_string _ _ _ _ _ z3n,z0m]
 by_cases c:s=s'
 ·have e:=a [.string s',.string u] 1 _ rfl
  have q2:=a [.string s',.string u'] 1 _ rfl
  by_cases e2:u=u' <;> simp [c,e2,Prod.mk.injEq,Sem.run_ite,Sem.run_bind,e,q2,run_equalIn_string _ _ _ _ _ z3n,z0m,Result.andThen]
 ·simp [c]
theorem y9p (w:World) (e:Bool) (x:Flow):(Instr.checkKey e 10000 95 (z1w x)).run prog w=.ok () w:=by
 obtain ⟨b,c,d,h1,f⟩:=y0h
 have a:=@q0i w
 have h:∀(n:Nat) (v:Bs),(Instr.checkKey e (n+1) 9 (.string v)).run prog w=.ok () w:=fun n v=>by simp [Instr.checkKey,Sem.run_bind,run_underlying z3n]
 have g:prog.fieldsOf 95=#[b,c]:=by apply Array.ext';rw [d]
 unfold z1w
 rw [Instr.checkKey]
 simp only [Sem.run_bind,run_underlying z4m,Result.andThen_ok,g]
 simp [Sem.run_bind,h1,f,a [.string x.1,.string x.2] 0 _ rfl,a [.string x.1,.string x.2] 1 _ rfl,h 9998,Result.andThen]
theorem q0f (w:World) (x:Flow):∀(l:List Flow) (i j:Nat),∃r,(Instr.findAsking 95 (z1w x) (z8i i l) j).run prog w=.ok r w/\(r=none/\x∉l∨(∃q,r=some (q,.bool true))/\x∈l)
 | [],_,_=>⟨none,by simp [z8i,Instr.findAsking],.inl ⟨rfl,by simp⟩⟩
 | y::l,i,j=>by
  simp only [z8i,Instr.findAsking,Sem.run_bind,eqFlow,Result.andThen_ok]
  by_cases h:x=y
  ·exact ⟨some (j,.bool true),by simp [h],.inr ⟨⟨_,rfl⟩,by simp [h]⟩⟩
  ·obtain ⟨r,h1,a⟩:=q0f w x l (i+1) (j+1)
   refine ⟨r,by simpa [h] using h1,?_⟩
   simpa [h] using a
theorem x4f (x:Flow) (i:Nat):∀l:List Flow,Instr.findNow (.struct (prog.fieldsOf 95)) (z1w x) (z8i i l) 0=if l=[] then some none else none
 | []=>rfl
 | y::l=>by simp [z8i,Instr.findNow,Instr.sameNow]
theorem q6w (w:World) (x:Flow) (l:List Flow):∃r,(Instr.findKey 95 (z1w x) (cE l).toList).run prog w=.ok r w/\(r=none/\x∉l∨(∃q,r=some (q,.bool true))/\x∈l):=by
 simp only [Instr.findKey,Sem.run_bind,run_underlying z4m,Result.andThen_ok,cE,x4f]
 by_cases h:l=[]
 ·subst h;exact ⟨none,by simp,.inl ⟨rfl,by simp⟩⟩
 ·rw [if_neg h];exact q0f w x l 0 0
section
variable {n:Nat} {E:List (Nat×Value)} {D:List Deferred} {a:Act} {Φ:Fz} {K:List Res} {w:World}
variable {dst:Option Tmp} {ty:TypeId} {pos:String} {aft:Array Edge} {g:Option (Nat×Bool)}
variable {Kn:Value->World->Prop} {Qp:List PanicEntry->World->Prop}
theorem x2u (i:Nat) {x y:Operand} {b:Nat} {l:List Flow} {s:Flow} (J:EnvR n E D a) (N:Sees Φ K w) (f:ev E x=some (.map (some b))) (g:ev E y=some (z1w s)) (e:qU K i=some (.blk b (.map (cE l) l.length))) :
  Ok prog a (.lookup 136 x y false) ty w (.bool (decide (s∈l))):=fun _ _ _ _=>by
 have hb:w.heap[b]? = some (.map (cE l) l.length):=N.own _ (qV e)
 have h1:(getObj b).run prog w=.ok (.map (cE l) l.length) w:=by simp [getObj,Sem.run,hb]
 obtain ⟨r,d,c⟩:=q6w w s l
 simp only [execOp,J.ev f,J.ev g,Instr.lookup,Sem.run_bind,runUnderlying136,Result.andThen_ok,h1,Sem.run_pure,y9p,d]
 rcases c with ⟨rfl,c⟩ | ⟨⟨q,rfl⟩,c⟩
 ·simp [c,zeroValue4,Sem.run_bind,Result.andThen]
 ·simp [c,Result.andThen]
theorem q3o {t:TypeId} (N:Mem Φ K w) (k:∀b w',Mem Φ (.blk b (.map (cE []) ([]:List Flow).length)::K) w'->Kn (.map (some b)) w'):Oper.eff prog ⟨dst,.makeMap t none,ty,pos,aft,g⟩ a w Kn Qp:=by
 unfold Oper.eff
 have:(execOp a.eval ⟨dst,.makeMap t none,ty,pos,aft,g⟩).run prog w=.ok (.value (.map (some w.heap.size))) { w with heap:=w.heap.push (.map #[] 0) }:=by
  simp [execOp,Instr.makeMap]
 rw [this]
 refine k _ _ (N.more rfl rfl (fun b hb=>pO hb) (by simp [Res.sat,cE,z8i]) (by simp [Res.foot]))
theorem y4g {P:Program} (i:Nat) {t kt et:TypeId} {x y z:Operand} {b:Nat} {l:List Flow} {s:Flow} (m:(underlying t).run P w=.ok (.map kt et) w) (f:(Instr.checkKey false 10000 kt (z1w s)).run P w=.ok () w) (h:(Instr.findKey kt (z1w s) (cE l).toList).run P w=.ok none w)
  (J:EnvR n E D a) (N:Mem Φ K w) (p:ev E x=some (.map (some b))) (q:ev E y=some (z1w s)) (r:ev E z=some (.bool true)) (d:qU K i=some (.blk b (.map (cE l) l.length)))
  (k:∀w',Mem Φ (pU K i (.blk b (.map (cE (l++[s])) (l++[s]).length))) w'->Kn undef w'):Oper.eff P ⟨dst,.mapUpdate t x y z,ty,pos,aft,g⟩ a w Kn Qp:=by
 have hb:w.heap[b]? = some (.map (cE l) l.length):=N.own _ (qV d)
 have h1:(getObj b).run P w=.ok (.map (cE l) l.length) w:=by simp [getObj,Sem.run,hb]
 have c:∀o,(setObj b o).run P w=.ok () { w with heap:=w.heap.setIfInBounds b o }:=fun o=>by simp only [setObj,Sem.run,hb]
 unfold Oper.eff
 simp only [execOp,J.ev p,J.ev q,J.ev r,Instr.mapUpdate,Sem.run_bind,m,Result.andThen_ok,h1,f,h,c,Sem.run_pure,wH]
 refine k _ ?_
 have j:=N.putObj (o':=.map (cE (l++[s])) (l++[s]).length) d
 have e:(cE l).push { key:=z1w s,val:=.bool true,born:=l.length }=cE (l++[s]):=by
  apply Array.ext'
  simp [cE,q0g]
 rw [e]
 simpa [World.putObj] using j
theorem q6x {w:World} {x:Flow} {l:List Flow} (h:x∉l):(Instr.findKey 95 (z1w x) (cE l).toList).run prog w=.ok none w:=by
 obtain ⟨r,b,a⟩:=q6w w x l
 rcases a with ⟨rfl,a⟩ | ⟨⟨q,rfl⟩,a⟩
 ·exact b
 ·exact absurd a h
set_option maxRecDepth 20000 in
theorem y4f (i:Nat) {x y z:Operand} {b:Nat} {l:List Flow} {s:Flow} (J:EnvR n E D a) (N:Mem Φ K w) (d:ev E x=some (.map (some b))) (e:ev E y=some (z1w s)) (f:ev E z=some (.bool true)) (c:qU K i=some (.blk b (.map (cE l) l.length))) (O:s∉l)
  (k:∀w',Mem Φ (pU K i (.blk b (.map (cE (l++[s])) (l++[s]).length))) w'->Kn undef w'):Oper.eff prog ⟨dst,.mapUpdate 136 x y z,ty,pos,aft,g⟩ a w Kn Qp :=
 y4g i (runUnderlying136 w) (y9p w false s) (q6x O) J N d e f c k
end
end Go.Sw
