import Derived.Laws.IdiomRangeMap
import Derived.Lib.AppendStr
import Derived.Lib.UnsafeStr
import Derived.Lib.MakeNoZero
import Derived.Laws.IdiomStrings
import Derived.Scope
import Derived.Laws.RangeAny
import Derived.Laws.Runes
import Derived.Laws.StructEq
import Derived.Test.YtghdfphedgcpdaaGreatDoorX07
set_option linter.unusedVariables false
set_option linter.unusedSimpArgs false
namespace Go.Sw
open Go.Proofs Go.Proofs.Tryz
set_option maxRecDepth 20000
set_option maxHeartbeats 4000000
theorem j3c {c:Core} (h:zX c=0):xL c=false/\jF c=true:=by
 unfold zX at h
 split at h
 ·cases h
 split at h
 ·cases h
 split at h
 ·rename_i a hr;exact ⟨by simpa using a,hr⟩
 ·cases h
section
variable {P:Program} {n:Nat} {E:List (Nat×Value)} {D:List Deferred} {a:Act} {Φ:Fz} {K:List Res} {w:World}
variable {Kn:Value->World->Prop} {Qp:List PanicEntry->World->Prop} {dst:Option Tmp} {ty:TypeId} {pos:String} {aft:Array Edge} {g:Option (Nat×Bool)}
theorem wN {α β ε:Type} {f:FuncId} {xs:Array Operand} {ts:Array TypeId} {vs:List Value} {r:Except ε α} {X:α->β->Value} {Z:ε->Value} {F1:α->β->Fz} {b:Fz} {KO:α->β->List Res} {KE:List Res} {G:α->β->Prop}
  (J:EnvR n E D a) (m:evs E xs.toList=some vs) (l:∀args w,(callFunc f args).run P w=.ok (.enter f args) w)
  (j:Calls P f vs.toArray w (fun e w'=>Out r (fun x=>∃y,e=.returned (X x y)/\G x y/\Mem (F1 x y) (KO x y) w') (fun c=>e=.returned (Z c)/\Mem b KE w')))
  (k:∀x y w',r=.ok x->G x y->Mem (F1 x y) (KO x y) w'->Kn (X x y) w') (kp:∀c w',r=.error c->Mem b KE w'->Kn (Z c) w') :
  Oper.eff P ⟨dst,.call { callee:=.value (.func f),args:=xs,argTypes:=ts },ty,pos,aft,g⟩ a w Kn Qp:=by
 refine aN J m l j (fun v w' h=>?_) (fun c w' h=>?_) (fun w' h=>?_)
 ·cases r with
  | ok x=>obtain ⟨y,h1,d,i⟩:=h;cases h1;exact k _ _ _ rfl d i
  | error c=>obtain ⟨h1,d⟩:=h;cases h1;exact kp _ _ rfl d
 ·cases r with
  | ok x=>obtain ⟨y,h1,_⟩:=h;cases h1
  | error c=>obtain ⟨h1,d⟩:=h;cases h1
 ·cases r with
  | ok x=>obtain ⟨y,h1,_⟩:=h;cases h1
  | error c=>obtain ⟨h1,_⟩:=h;cases h1
theorem j4b {fn:Func} {R:Ending->World->Prop} {t u T b k i:Nat} {cs:List Value} {d:TypeId} {x:Value} (J:EnvR n E [] a) (N:Sees Φ K w) (hr:fn.results=#[.cell t T,.tmp u]) (c:get E t=some (.pointer (some ⟨b,0,none⟩)))
  (j:qU K i=some (.blk b (ob cs d))) (g:AggT P T) (f:SizeT P T k) (hl:cs.length=k) (l:get E u=some x) (h:R (.returned (.tuple #[.agg cs.toArray,x])) w):bodyPost P fn R .ret a w:=by
 refine ⟨J.defs,_,?_,h⟩
 have e:=j6g (P:=P) J N c j g f hl
 simp [results,hr,Array.getD_eq_getD_getElem?,J.env t _ c,J.env u _ l,asAddr,e,Sem.run_bind,Result.andThen]
theorem z9k {fn:Func} {R:Ending->World->Prop} {t u d T b k i:Nat} {cs:List Value} {g:TypeId} {x f:Value} (J:EnvR n E [] a) (N:Sees Φ K w) (hr:fn.results=#[.cell t T,.tmp u,.tmp d]) (e:get E t=some (.pointer (some ⟨b,0,none⟩)))
  (o:qU K i=some (.blk b (ob cs g))) (m:AggT P T) (l:SizeT P T k) (hl:cs.length=k) (p:get E u=some x) (c:get E d=some f) (h:R (.returned (.tuple #[.agg cs.toArray,x,f])) w):bodyPost P fn R .ret a w:=by
 refine ⟨J.defs,_,?_,h⟩
 have j:=j6g (P:=P) J N e o m l hl
 simp [results,hr,Array.getD_eq_getD_getElem?,J.env t _ e,J.env u _ p,J.env d _ c,asAddr,j,Sem.run_bind,Result.andThen]
end
section
variable {P:Program} {n:Nat} {E:List (Nat×Value)} {D:List Deferred} {a:Act} {Φ:Fz} {K:List Res} {w:World}
variable {Kn:Value->World->Prop} {Qp:List PanicEntry->World->Prop} {dst:Option Tmp} {ty:TypeId} {pos:String} {aft:Array Edge} {g:Option (Nat×Bool)}
end
section
variable {P:Program} {n:Nat} {E:List (Nat×Value)} {D:List Deferred} {a:Act} {Φ:Fz} {K:List Res} {w:World} {ty:TypeId}
end
theorem has_mem {l:List Bs} {s:Bs}:has l s=true↔s∈l:=by simp [has]
def gB (l:List Bs) (s:Bs):Bool:=l.any fun x=>decide (x=s)
theorem z8o (x:Bs) (l:List Bs) (s:Bs):gB (x::l) s=(decide (x=s) || gB l s):=by simp [gB]
section
variable {c:Core} {ps:List Param} {e:Ex}
end
theorem v0t {l:List Ex} (hl:l.length=2):∃x y,l=[x,y]:=by
 cases l with
 | nil=>simp at hl
 | cons a l=>
  cases l with
  | nil=>simp at hl
  | cons b l=>
   simp only [lcQ] at hl
   have:l=[]:=List.eq_nil_of_length_eq_zero (by omega)
   subst this
   exact ⟨a,b,rfl⟩
theorem one_arg {l:List Ex} (hl:l.length=1):∃x,l=[x]:=by
 cases l with
 | nil=>simp at hl
 | cons a l=>
  simp only [lcQ] at hl
  have:l=[]:=List.eq_nil_of_length_eq_zero (by omega)
  subst this
  exact ⟨a,rfl⟩
theorem y9i {nm:Bs->Bool}:∀{l ds:List Bs},l.Nodup->(∀n∈l,n∉ds)->(∀n∈l,nm n=true)->pS nm ds l=true
 | [],_,_,_,_=>rfl
 | s::l,ds,h1,b,c=>by
  have O:=List.nodup_cons.1 h1
  simp only [pS,baQ,Bool.not_eq_true']
  refine ⟨⟨c s msQ,?_⟩,y9i O.2 (fun n a N=>?_) fun n a=>c n (mcQ _ a)⟩
  ·cases hb:has ds s with
   | false=>rfl
   | true=>
    simp only [has,List.any_eq_true,decide_eq_true_eq] at hb
    obtain ⟨x,d,J⟩:=hb
    first | exact absurd (J▸d) (b s msQ) | exact absurd (J.symm▸d) (b s msQ)
  ·rcases List.mem_append.1 N with N | N
   ·exact b n (mcQ _ a) N
   ·simp only [List.mem_singleton] at N;subst N;exact O.1 a
theorem hasB_mem {l:List Bs} {s:Bs}:gB l s=true↔s∈l:=by
 simp only [gB,List.any_eq_true,decide_eq_true_eq]
 exact ⟨fun ⟨x,a,e⟩=>e▸a,fun h=>⟨s,h,rfl⟩⟩
theorem j7z:∀{l:List Fun} {m:List (Bs×Fun)},(∀f∈l,yP f.name=true/\zK m f.name=none)->(l.map Fun.name).Nodup->(uB true m l).1=true
 | [],_,_,_=>rfl
 | x::l,m,h,a=>by
  simp only [List.map_cons,List.nodup_cons] at a
  obtain ⟨h1,b⟩:=h x msQ
  simp only [uB,h1,Bool.and_self,if_true,b,Option.isNone_none]
  refine j7z (fun f c=>?_) a.2
  obtain ⟨g1,d⟩:=h f (mcQ _ c)
  refine ⟨g1,?_⟩
  rw [aD b,dC d]
  simp only [zK]
  rw [if_neg]
  intro e
  exact a.1 (List.mem_map.2 ⟨f,c,e⟩)
def xN (s:Bs):Nat:=1+yR yQ s s.size 1
def z0w (s:Bs) (lo a:Nat):Bool :=
 if s.size < 1∨24 < s.size∨zF s 0 < lo∨a < zF s 0 then false
 else if xN s=s.size then true
 else if zF s (xN s)≠39∨xN s+1=s.size then false
 else decide (xN s+1+yR yF s s.size (xN s+1)=s.size)
def z4b (s:Bs):Bool:=z0w s 97 122 && !gB wordsL s
def conR (s:Bs):Bool:=z0w s 65 90
def vC:List Data->Bs->Option Data
 | [],_=>none
 | d::l,n=>if d.name=n then some d else vC l n
def qQ (ds:List Data) (name:Bs):Option Data:=if name=kV then some truthsD else vC ds name
def uY:Data:=⟨sNo,[]⟩
def oZ:List Con->Bs->Option Con
 | [],_=>none
 | x::l,n=>if x.name=n then some x else oZ l n
def mR:List Data->Bs->Option Maker
 | [],_=>none
 | d::l,n=>match oZ d.cons n with
  | some x=>some ⟨d.name,x⟩
  | none=>mR l n
def nO (ds:List Data) (name:Bs):Option Maker:=mR (truthsD::ds) name
def y0u:Con:=⟨sNo,[]⟩
def sC:List Fun->Bs->Nat->Option Nat
 | [],_,_=>none
 | f::l,n,i=>if f.name=n then some i else sC l n (i+1)
def nE (fs:List Fun) (name:Bs):Option Nat:=sC fs name 0
def mZ (fs:List Fun) (name:Bs):Int:=match nE fs name with | some i=>i | none=>-1
def jY (ds:List Data) (name:Bs):Bool:=(qQ ds name).isSome || decide (name=yT)
def mO (name:Bs) (l:List Con):Bool:=l.any fun x=>x.fields.any fun s=> !decide (s=yT) && !decide (s=name)
def wK (name:Bs) (l:List Data):Bool:=l.any fun d=>decide (d.name=name)&&mO name d.cons
def kI (name:Bs) (l:List Data):Nat:=(l.filter fun d=>decide (d.name=name)).length
def xK (ds:List Data) (name:Bs):Bool :=
 if name=yT then true else !wK name ds&&(decide (kI name ds=1) && !decide (name=kV))
mutual
def xE:Ex->Nat->Nat
 | .mk _ _ _ args arms,most=>sizeAr arms most (sizeRs args most 1)
def sizeRs:List Ex->Nat->Nat->Nat
 | [],_,n=>n
 | e::es,most,n=>if n<=most then sizeRs es most (n+xE e (most - n)) else n
def sizeAr:List Arm->Nat->Nat->Nat
 | [],_,n=>n
 | .mk _ vs b::es,most,n=>if n<=most then (if 16 < vs.length then most+1 else sizeAr es most (n+xE b (most - n))) else n
end
theorem x9v (e:Ex) (most:Nat):xE e most=sizeAr e.arms most (sizeRs e.args most 1):=by cases e;rfl
theorem j0k (e:Ex) (es:List Ex) (most n:Nat):sizeRs (e::es) most n=if n<=most then sizeRs es most (n+xE e (most - n)) else n:=rfl
theorem z2h (a:Arm) (es:List Arm) (most n:Nat):sizeAr (a::es) most n=if n<=most then (if 16 < a.vars.length then most+1 else sizeAr es most (n+xE a.body (most - n))) else n:=by cases a;rfl
theorem z2i {es:List Ex} {most n:Nat} (h:¬n<=most):sizeRs es most n=n:=by cases es <;> simp [sizeRs,h]
theorem sN {es:List Arm} {most n:Nat} (h:¬n<=most):sizeAr es most n=n:=by
 cases es with
 | nil=>rfl
 | cons a es=>rw [z2h,if_neg h]
theorem y7v {l:List Ex} {i most n:Nat} (h:¬(i < l.length/\n<=most)):sizeRs (l.drop i) most n=n:=by
 by_cases a:i < l.length
 ·exact z2i (fun g=>h ⟨a,g⟩)
 ·rw [List.drop_of_length_le (by omega)];rfl
theorem y7u {l:List Arm} {i most n:Nat} (h:¬(i < l.length/\n<=most)):sizeAr (l.drop i) most n=n:=by
 by_cases a:i < l.length
 ·exact sN (fun g=>h ⟨a,g⟩)
 ·rw [List.drop_of_length_le (by omega)];rfl
mutual
theorem mK:∀(e:Ex) (most:Nat),1<=xE e most/\xE e most<=most+1
 | .mk _ _ _ args arms,most=>by
  have h1:=sizeRs_le args most 1 (by omega) (by omega)
  have a:=sizeAr_le arms most (sizeRs args most 1) h1.1 h1.2
  exact a
theorem sizeRs_le:∀(es:List Ex) (most n:Nat),1<=n->n<=most+1->1<=sizeRs es most n/\sizeRs es most n<=most+1
 | [],most,n,h,h'=>⟨h,h'⟩
 | e::es,most,n,h,h'=>by
  simp only [sizeRs]
  split
  ·have:=mK e (most - n)
   exact sizeRs_le es most _ (by omega) (by omega)
  ·exact ⟨h,h'⟩
theorem sizeAr_le:∀(es:List Arm) (most n:Nat),1<=n->n<=most+1->1<=sizeAr es most n/\sizeAr es most n<=most+1
 | [],most,n,h,h'=>⟨h,h'⟩
 | .mk _ vs b::es,most,n,h,h'=>by
  simp only [sizeAr]
  split
  ·split
   ·omega
   ·have:=mK b (most - n)
    exact sizeAr_le es most _ (by omega) (by omega)
  ·exact ⟨h,h'⟩
end
def dR (ps:List Param) (n:Bs):Option Bs:=ps.foldl (fun r p=>if p.name=n then some p.type else r) none
theorem z1v (ps:List Param) (p:Param) (n:Bs):dR (ps++[p]) n=if p.name=n then some p.type else dR ps n:=by simp [dR]
def z8s (ps:List Param) (n:Bs):Option Bs:=match ps with
 | []=>none
 | p::l=>if p.name=n then some p.type else z8s l n
def noT:Bs×Bool:=(sNo,false)
def opR (name:Bs):Option Bs :=
 if gB [⟨#[43]⟩,⟨#[45]⟩,⟨#[42]⟩,⟨#[47]⟩,⟨#[37]⟩] name=true then some yT
 else if name=⟨#[60]⟩∨name=⟨#[61]⟩ then some kV else none
def wV (c:Core) (kind:Int) (name:Bs):Option (List Bs×Bs) :=
 if kind=4 then (nO c.datas name).map fun m=>(m.con.fields,m.data)
 else if kind=5 then (match nE c.funs name with
  | none=>none
  | some i=>(c.funs[i]?).map fun f=>(f.params.map Param.type,f.result))
 else if kind=8 then (opR name).map fun t=>([yT,yT],t)
 else none
def jP (vs fs:List Bs):List Param:=(vs.zip fs).map fun x=>⟨x.1,x.2⟩
mutual
def zS (c:Core):Ex->List Param->Bs×Bool
 | .mk kind num name args arms,vars=>
  if (kind≠7/\0 < arms.length)∨(kind≠1/\num≠0) then noT
  else if kind=1 then (yT,decide (name=sNo)&&decide (args.length=0))
  else if kind=2 then (match dR vars name with | some t=>(t,decide (args.length=0)) | none=>noT)
  else if kind=3 then (match z8s c.inputs name with | some t=>(t,decide (args.length=0)) | none=>noT)
  else if kind=6 then letR c name args vars
  else if kind=7 then
   if args.length≠1∨name≠sNo then noT
   else if (firstR c args vars).2=false then noT
   else match qQ c.datas (firstR c args vars).1 with
    | none=>noT
    | some d=>if d.cons.length≠arms.length then noT else armsR c arms d.cons true sNo vars
  else if (typesR c args vars).2=false then noT
  else match wV c kind name with
   | none=>noT
   | some w=>if w.1=(typesR c args vars).1 then (w.2,true) else noT
def letR (c:Core) (name:Bs):List Ex->List Param->Bs×Bool
 | [],_=>noT
 | a::l,vars=>if (zS c a vars).2=false∨l.length≠1 then noT else firstR c l (vars++[⟨name,(zS c a vars).1⟩])
def firstR (c:Core):List Ex->List Param->Bs×Bool
 | [],_=>noT
 | a::_,vars=>zS c a vars
def typesR (c:Core):List Ex->List Param->List Bs×Bool
 | [],_=>([],true)
 | e::es,vars=>if (zS c e vars).2=false then ([],false) else ((zS c e vars).1::(typesR c es vars).1,(typesR c es vars).2)
def armsR (c:Core):List Arm->List Con->Bool->Bs->List Param->Bs×Bool
 | [],_,_,out,_=>(out,true)
 | .mk con vs body::az,cs,first,out,vars=>
  if con≠(cs.headD y0u).name∨vs.length≠(cs.headD y0u).fields.length then noT
  else if (zS c body (vars++jP vs (cs.headD y0u).fields)).2=false∨(first=false/\(zS c body (vars++jP vs (cs.headD y0u).fields)).1≠out) then noT
  else armsR c az cs.tail false (zS c body (vars++jP vs (cs.headD y0u).fields)).1 vars
end
def z0t (ds:List Data):List Con->List Bs->Bool
 | [],_=>true
 | x::xs,seen=>conR x.name && !gB seen x.name&&x.fields.all (jY ds)&&z0t ds xs (seen++[x.name])
def cL (ds:List Data):List Data->List Bs->List Bs->Bool
 | [],_,_=>true
 | d::l,names,cons=>conR d.name && !gB names d.name&&decide (d.cons.length≠0)&&z0t ds d.cons cons&&cL ds l (names++[d.name]) (cons++d.cons.map Con.name)
def z2v (ds:List Data):Bool:=cL ds ds [yT,kV] [y7o,j0j]
def dS:List Fun->Nat->Bool
 | [],n=>decide (6000 < n)
 | f::fs,n=>if 16 < f.params.length then true else dS fs (if n<=6000 then n+xE f.body (6000 - n) else n)
def sG (c:Core):Bool :=
 decide (60 < c.datas.length) || decide (6 < c.inputs.length) || decide (300 < c.funs.length) || decide (6 < c.outputs.length) || c.datas.any dD || dS c.funs 0
def cJ (l:List Bs):Bool:=pS z4b [] l
def kP (ds:List Data) (f:Fun):Bool:=f.params.all (fun p=>jY ds p.type)&&jY ds f.result&&cJ (f.params.map Param.name++zN f.body)
def mG (c:Core) (f:Fun):Bool:=(zS c f.body f.params).2&&decide ((zS c f.body f.params).1=f.result)
def y2n (fs:List Fun) (o:Bs):Bool:=match nE fs o with
 | none=>false
 | some i=>match fs[i]? with | some f=>decide (f.params.length=0) | none=>false
def kB (c:Core):Bool :=
 z2v c.datas&&decide (c.outputs.length≠0)&&c.inputs.all (fun p=>xK c.datas p.type)&&cJ (c.inputs.map Param.name) &&
 c.funs.all (kP c.datas)&&cJ (c.funs.map Fun.name)&&cJ c.outputs&&c.funs.all (mG c)&&c.outputs.all (y2n c.funs)
def uJ (c:Core):Int:=if c.funs.any (fun f=>xT 250 f.body) then 6 else if sG c then 2 else if kB c then 0 else 80
section
variable {c:Core} {name:Bs} {args:List Val} {fuel:Int}
end
section
variable {P:Program} {n:Nat} {E:List (Nat×Value)} {D:List Deferred} {a:Act} {Φ:Fz} {K:List Res} {w:World} {ty:TypeId}
variable {Kn:Value->World->Prop} {Qp:List PanicEntry->World->Prop} {dst:Option Tmp} {pos:String} {aft:Array Edge} {g:Option (Nat×Bool)}
end
section
variable {P:Program} {n:Nat} {E:List (Nat×Value)} {D:List Deferred} {a:Act} {Φ:Fz} {K:List Res} {w:World} {ty:TypeId}
variable {Kn:Value->World->Prop} {Qp:List PanicEntry->World->Prop} {dst:Option Tmp} {pos:String} {aft:Array Edge} {g:Option (Nat×Bool)}
end
def Cap (v:Value):Prop:=∀p n c,v=.slice p n c->n<=c
theorem Cap.nil:Cap (.slice none 0 0):=fun p n c h=>by injection h;omega
theorem Cap.own {Φ:Fz} {K:List Res} {w:World} {v:Value} {T:TypeId} {k i:Nat} {cs:List Value} (N:Mem Φ K w) (a:qU K i=some (.gs v T k cs)):Cap v:=by
 obtain ⟨n,_,h⟩:=N.own _ (qV a)
 rcases h with ⟨rfl,_⟩ | ⟨g,cap,cur,rfl,_,_,e,_⟩
 ·exact Cap.nil
 ·intro p m c h
  injection h with h1 b d
  omega
theorem j0l {Φ:Fz} {l:List Bs} {q:Option Addr} {c i:Nat} (h:SliceOf RStr Φ 1 (.slice q l.length c) l) (r:i < l.length):SliceOf RStr Φ 1 (.slice q i i) (l.take i):=by
 rw [SliceOf.strs] at h ⊢
 rcases h with ⟨h,b⟩ | ⟨p,m,c',e,b,g,k⟩
 ·injection h with h1 b g;omega
 ·injection e with f e2 e3
  subst f;subst e2
  rw [zR] at b
  refine .inr ⟨p,i,i,rfl,by simp [zR];omega,by omega,fun n=>?_⟩
  have hl:strs l≠[]:=fun e=>by have:=congrArg List.length e;rw [zR] at this;simp only [lnQ] at this;omega
  have d:=(k hl).sub (o:=0) (ds:=strs (l.take i)) (fun j v a=>by
   rw [Nat.zero_add]
   simp only [strs,List.map_take,List.getElem?_take] at a ⊢
   split at a
   ·exact a
   ·cases a)
  rw [show p.add 0=p from rfl] at d
  exact d
theorem q5w {n:Nat} {E:List (Nat×Value)} {D:List Deferred} {a:Act} {x d mx:Operand} {t e ty:TypeId} {q:Option Addr} {m c i:Nat} {w:World} {P:Program} (J:EnvR n E D a) (h:ev E x=some (.slice q m c)) (f:ev E d=some (.int .i64 i))
  (b:ev E mx=some (.int .i64 i)) (g:Under P t (.slice e)) (O:SizeT P e 1) (h1:i<=c):Ok P a (.slice t x none (some d) (some mx)) ty w (.slice q i i):=fun _ _ _ _=>by
 simp only [execOp,J.ev h,Option.map_some,Option.map_none,J.ev f,J.ev b,Instr.sliceAt]
 simp [Sem.run_bind,g w,O w,Instr.slice,Instr.sliceBounds,Instr.sliceBound,asIntOf,Result.andThen,Addr.add,h1]
def z0z (l:Tx):Bs:=⟨l.toArray⟩
theorem y0w (a b:Tx):z0z (a++b)=z0z a++z0z b:=by
 apply ByteArray.ext
 simp only [z0z,ByteArray.data_append]
 apply Array.ext';simp
theorem j7o (s:Bs):z0z (tx s)=s:=by
 apply ByteArray.ext;simp [z0z,tx]
theorem z9g (l:Tx):(z0z l).size=l.length:=by
 show l.toArray.size=_;simp
theorem tx_size (s:Bs):(tx s).length=s.size:=by
 simp only [tx,Array.length_toList];rfl
section
variable {e:Ex}
end
theorem z2y:∀(f n:Nat),n < f->(dW f n).reverse=Lib.decDigits n
 | 0,_,h=>by omega
 | f+1,n,h=>by
  rw [Lib.decDigits]
  simp only [dW]
  by_cases a:n < 10
  ·rw [if_pos a,dif_pos a];rfl
  ·rw [if_neg a,dif_neg a,List.reverse_cons,z2y f (n / 10) (by omega)];try rfl
theorem j7d (n:Int):Lib.itoa n=z6m n:=by
 have h:∀u,cZ u=Lib.decDigits u:=fun u=>z2y (u+1) u (Nat.lt_succ_self _)
 unfold Lib.itoa z6m
 split
 ·rw [h,show n.natAbs=(-n).toNat by omega]
 ·rw [h]
theorem z1r (n:Int):aQ n=z0z (z6m n):=by unfold aQ z0z;rw [j7d]
section
variable {e:Ex}
end
def cI (e:Ex):Prop:=(e.kind≠7/\0 < e.arms.length)∨(e.kind≠1/\e.num≠0)
def tyR (c:Core) (e:Ex) (vars:List Param):Option (List Bs×Bs)->Bs×Bool
 | none=>noT
 | some w=>if w.1=(typesR c e.args vars).1 then (w.2,true) else noT
theorem dJ (c:Core) (e:Ex) (vars:List Param):zS c e vars =
  if (e.kind≠7/\0 < e.arms.length)∨(e.kind≠1/\e.num≠0) then noT
  else if e.kind=1 then (yT,decide (e.name=sNo)&&decide (e.args.length=0))
  else if e.kind=2 then (match dR vars e.name with | some t=>(t,decide (e.args.length=0)) | none=>noT)
  else if e.kind=3 then (match z8s c.inputs e.name with | some t=>(t,decide (e.args.length=0)) | none=>noT)
  else if e.kind=6 then letR c e.name e.args vars
  else if e.kind=7 then (if e.args.length≠1∨e.name≠sNo then noT
   else if (firstR c e.args vars).2=false then noT
   else match qQ c.datas (firstR c e.args vars).1 with
    | none=>noT
    | some d=>if d.cons.length≠e.arms.length then noT else armsR c e.arms d.cons true sNo vars)
  else if (typesR c e.args vars).2=false then noT
  else tyR c e vars (wV c e.kind e.name):=by cases e;rfl
def nD (c:Core) (e:Ex) (vars:List Param):Bs×Bool :=
 if e.args.length≠1∨e.name≠sNo then noT
 else if (firstR c e.args vars).2=false then noT
 else match qQ c.datas (firstR c e.args vars).1 with
  | none=>noT
  | some d=>if d.cons.length≠e.arms.length then noT else armsR c e.arms d.cons true sNo vars
section
variable {c:Core} {e:Ex} {vars:List Param}
theorem y8m (h:cI e):zS c e vars=noT:=by rw [dJ];exact if_pos h
theorem j8d (O:¬cI e) (h:e.kind=1):zS c e vars=(yT,decide (e.name=sNo)&&decide (e.args.length=0)):=by rw [dJ,if_neg (show ¬((e.kind≠7/\0 < e.arms.length)∨(e.kind≠1/\e.num≠0)) from O),if_pos h]
theorem j8e (O:¬cI e) (h:e.kind=2):zS c e vars=(match dR vars e.name with | some t=>(t,decide (e.args.length=0)) | none=>noT):=by
 rw [dJ,if_neg (show ¬((e.kind≠7/\0 < e.arms.length)∨(e.kind≠1/\e.num≠0)) from O),if_neg (by omega),if_pos h]
theorem j8f (O:¬cI e) (h:e.kind=3):zS c e vars=(match z8s c.inputs e.name with | some t=>(t,decide (e.args.length=0)) | none=>noT):=by
 rw [dJ,if_neg (show ¬((e.kind≠7/\0 < e.arms.length)∨(e.kind≠1/\e.num≠0)) from O),if_neg (by omega),if_neg (by omega),if_pos h]
theorem z7m (O:¬cI e) (h:e.kind=6):zS c e vars=letR c e.name e.args vars:=by
 rw [dJ,if_neg (show ¬((e.kind≠7/\0 < e.arms.length)∨(e.kind≠1/\e.num≠0)) from O),if_neg (by omega),if_neg (by omega),if_neg (by omega),if_pos h]
theorem typeR_7 (O:¬cI e) (h:e.kind=7):zS c e vars=nD c e vars:=by
 rw [dJ,if_neg (show ¬((e.kind≠7/\0 < e.arms.length)∨(e.kind≠1/\e.num≠0)) from O),if_neg (by omega),if_neg (by omega),if_neg (by omega),if_neg (by omega),if_pos h];rfl
theorem q5s (O:¬cI e) (h1:¬e.kind=1) (a:¬e.kind=2) (b:¬e.kind=3) (d:¬e.kind=6) (f:¬e.kind=7) :
  zS c e vars=if (typesR c e.args vars).2=false then noT else tyR c e vars (wV c e.kind e.name):=by
 rw [dJ,if_neg (show ¬((e.kind≠7/\0 < e.arms.length)∨(e.kind≠1/\e.num≠0)) from O),if_neg h1,if_neg a,if_neg b,if_neg d,if_neg f]
theorem x3b (O:¬cI e) (h1:¬e.kind=1) (a:¬e.kind=2) (b:¬e.kind=3) (d:¬e.kind=6) (f:¬e.kind=7) (h:(typesR c e.args vars).2=false):zS c e vars=noT:=by
 rw [q5s O h1 a b d f,if_pos h]
theorem z0n (O:¬cI e) (h1:¬e.kind=1) (a:¬e.kind=2) (b:¬e.kind=3) (d:¬e.kind=6) (f:¬e.kind=7) (h:wV c e.kind e.name=none):zS c e vars=noT:=by
 rw [q5s O h1 a b d f,h];split <;> rfl
theorem z5n (O:¬cI e) (h1:¬e.kind=1) (b:¬e.kind=2) (d:¬e.kind=3) (f:¬e.kind=6) (g:¬e.kind=7) {wl ts:List Bs} {o:Bs} (h:wV c e.kind e.name=some (wl,o)) (a:typesR c e.args vars=(ts,true)):zS c e vars=if wl=ts then (o,true) else noT:=by
 rw [q5s O h1 b d f g,h,a,if_neg (by simp)];simp only [tyR,a]
theorem want_4 (h:e.kind=4):wV c e.kind e.name=(nO c.datas e.name).map fun m=>(m.con.fields,m.data):=by rw [wV,if_pos h]
theorem want_5 (h:e.kind=5):wV c e.kind e.name=(match nE c.funs e.name with | none=>none | some i=>(c.funs[i]?).map fun f=>(f.params.map Param.type,f.result)):=by rw [wV,if_neg (by omega),if_pos h]
theorem q5v (h:e.kind=8):wV c e.kind e.name=(opR e.name).map fun t=>([yT,yT],t):=by rw [wV,if_neg (by omega),if_neg (by omega),if_pos h]
theorem want_no (a:¬e.kind=4) (b:¬e.kind=5) (d:¬e.kind=8):wV c e.kind e.name=none:=by rw [wV,if_neg a,if_neg b,if_neg d]
theorem letR_no {n:Bs} {l:List Ex} (h:¬l.length=2):letR c n l vars=noT:=by
 cases l with
 | nil=>rfl
 | cons a l=>simp only [letR];rw [if_pos (.inr (by simp only [lcQ] at h;omega))]
theorem pair_of {α:Type} {l:List α} (h:l.length=2) {x y:α} (b:l[0]? = some x) (c:l[1]? = some y):l=[x,y]:=by
 have a:l=x::l.drop 1:=zA b
 have h1:l.drop 1=y::l.drop 2:=zA c
 exact a.trans (by rw [h1,List.drop_of_length_le (by omega)])
theorem q4g {α:Type} {l:List α} {x:α} (a:l[0]? = some x):l=x::l.drop 1:=zA a
theorem j3b {n:Bs} {l:List Ex} {x:Ex} (a:l[0]? = some x) (h:(zS c x vars).2=false):letR c n l vars=noT:=by
 rw [q4g a];simp only [letR];rw [if_pos (.inl h)]
theorem y5s {n:Bs} {l:List Ex} {x y:Ex} (h:l.length=2) (a:l[0]? = some x) (b:l[1]? = some y) (h1:(zS c x vars).2=true):letR c n l vars=zS c y (vars++[⟨n,(zS c x vars).1⟩]):=by
 rw [pair_of h a b];simp only [letR,firstR];rw [if_neg (by simp [h1])]
theorem y1h (x:Ex) (xs:List Ex):typesR c (x::xs) vars=if (zS c x vars).2=false then ([],false) else ((zS c x vars).1::(typesR c xs vars).1,(typesR c xs vars).2):=rfl
theorem nN (a:Arm) (az:List Arm) (x:Con) (cs:List Con) (first:Bool) (out:Bs):armsR c (a::az) (x::cs) first out vars =
  if a.con≠x.name∨a.vars.length≠x.fields.length then noT
  else if (zS c a.body (vars++jP a.vars x.fields)).2=false∨(first=false/\(zS c a.body (vars++jP a.vars x.fields)).1≠out) then noT
  else armsR c az cs false (zS c a.body (vars++jP a.vars x.fields)).1 vars:=by cases a;rfl
theorem q6s (h:e.args.length≠1∨e.name≠sNo):nD c e vars=noT:=if_pos h
theorem z7x {x:Ex} (h:¬(e.args.length≠1∨e.name≠sNo)) (f:e.args[0]? = some x) (h1:(zS c x vars).2=false∨(qQ c.datas (zS c x vars).1).isSome=false∨((qQ c.datas (zS c x vars).1).getD uY).cons.length≠e.arms.length):nD c e vars=noT:=by
 have b:firstR c e.args vars=zS c x vars:=by rw [q4g f];rfl
 unfold nD
 rw [if_neg h,b]
 by_cases g:(zS c x vars).2=false
 ·rw [if_pos g]
 ·rw [if_neg g]
  have g:=h1.resolve_left g
  cases a:qQ c.datas (zS c x vars).1 with
  | none=>rfl
  | some d=>
   rw [a] at g
   exact if_pos (g.resolve_left (by simp))
theorem x3w {x:Ex} (h:¬(e.args.length≠1∨e.name≠sNo)) (j:e.args[0]? = some x) (h1:(zS c x vars).2=true) (a:(qQ c.datas (zS c x vars).1).isSome=true) (b:((qQ c.datas (zS c x vars).1).getD uY).cons.length=e.arms.length) :
  nD c e vars=armsR c e.arms ((qQ c.datas (zS c x vars).1).getD uY).cons true sNo vars:=by
 have i:firstR c e.args vars=zS c x vars:=by rw [q4g j];rfl
 unfold nD
 rw [if_neg h,i,if_neg (by simp [h1])]
 cases f:qQ c.datas (zS c x vars).1 with
 | none=>rw [f] at a;cases a
 | some d=>
  rw [f] at b
  exact if_neg (fun g=>g b)
end
theorem j1b {vs fs:List Bs} {k:Nat} {v f:Bs} (b:vs[k]? = some v) (a:fs[k]? = some f):jP (vs.take (k+1)) (fs.take (k+1))=jP (vs.take k) (fs.take k)++[⟨v,f⟩]:=by
 have h1:=(List.getElem?_eq_some_iff.1 b).1
 have c:=(List.getElem?_eq_some_iff.1 a).1
 rw [jB b,jB a]
 unfold jP
 rw [List.zip_append (by simp only [List.length_take];omega)]
 simp
theorem q7y {l:List Fun} {n:Bs} {j:Nat} (h:nE l n=some j):j < l.length:=by
 have:∀(l:List Fun) (k:Nat),sC l n k=some j->k<=j/\j < k+l.length:=by
  intro l
  induction l with
  | nil=>intro k h;cases h
  | cons f l a=>
   intro k h
   simp only [sC] at h
   split at h
   ·cases h;simp
   ·have:=a _ h;simp only [lcQ];omega
 have:=this l 0 h
 omega
theorem y0j {fs:List Fun} {n:Bs} (h:¬mZ fs n < 0):∃j,nE fs n=some j:=by
 unfold mZ at h
 cases a:nE fs n with
 | none=>rw [a] at h;exact absurd (by decide) h
 | some j=>exact ⟨j,rfl⟩
theorem y3m:∀{es:List Ex} {x:Ex},x∈es->(zN x).length<=(bindPs es).length
 | e::es,x,h=>by
  simp only [bindPs,laQ]
  rcases List.mem_cons.1 h with rfl | h
  ·omega
  ·have:=y3m h;omega
theorem y3k:∀{es:List Arm} {a:Arm},a∈es->a.vars.length+(zN a.body).length<=(bindPa es).length
 | e::es,x,h=>by
  rw [qE]
  simp only [laQ]
  rcases List.mem_cons.1 h with rfl | h
  ·omega
  ·have:=y3k h;omega
theorem sZ {e x:Ex} (h:x∈e.args):(zN x).length+(if e.kind=6 then 1 else 0)<=(zN e).length:=by
 have:=y3m h
 rw [wL e]
 simp only [laQ]
 split <;> simp only [lcQ,lnQ] <;> omega
theorem q6m {e:Ex} {a:Arm} (h:a∈e.arms):a.vars.length+(zN a.body).length<=(zN e).length:=by
 have:=y3k h
 rw [wL e]
 simp only [laQ];omega
def Lim (c:Core):Prop:=c.datas.length<=1000/\∀f∈c.funs,f.params.length<=1000
section
variable {P:Program} {n:Nat} {E:List (Nat×Value)} {D:List Deferred} {a:Act} {Φ:Fz} {K:List Res} {w:World} {ty:TypeId}
theorem z5q {x:Operand} {src dst:TypeId} {k b:IntKind} {i:Int} (z:Int) (J:EnvR n E D a) (e:ev E x=some (.int k i)) (O:P.underlying src=some (.int k)) (c:P.underlying dst=some (.int b)) (f:b.wrap i=z):Ok P a (.convert src dst x) ty w (.int b z):=fun _ _ _ _=>by
 have d:P.intKind dst=b:=by simp [Program.intKind,c]
 have:=run_convert_int (P:=P) w src dst k i (by rw [O];rfl) (by rw [d];exact c)
 rw [d,f] at this
 simp only [execOp,J.ev e]
 simp [Sem.run_bind,this,Result.andThen]
theorem j1i (i:Nat) {x:Operand} {src dst e:TypeId} {v:Value} {b:UInt8} (J:EnvR n E D a) (N:Sees Φ K w) (o:ev E x=some v) (l:qU K i=some (.gs v e 1 [.int .u8 b.toNat])) (O:P.underlying src=some (.slice e)) (he':P.underlying e=some (.int .u8)) (k:P.underlying dst=some .string) :
  Ok P a (.convert src dst x) ty w (.string (z0z [b])):=fun _ _ _ _=>by
 rcases N.rowIn (i:=i) l with ⟨_,h⟩ | ⟨q,m,c,rfl,f,g⟩
 ·cases h
 ·obtain rfl:m=1:=by simpa using f.symm
  have:=run_convert_bytes_back (P:=P) w src dst e q c [b] O he' k (fun j d=>by
   have:j=0:=by simp at d;exact d
   subst this
   exact g 0 _ rfl)
  simp only [execOp,J.ev o]
  simp only [lcQ,lnQ] at this
  simp [Sem.run_bind,this,Result.andThen,z0z]
end
theorem y3z:∀(f g n:Nat),n < f->n < g->dW f n=dW g n
 | 0,_,_,h,_=>by omega
 | _+1,0,_,_,h=>by omega
 | f+1,g+1,n,h,h'=>by
  simp only [dW]
  by_cases a:n < 10
  ·rw [if_pos a,if_pos a]
  ·rw [if_neg a,if_neg a,y3z f g (n / 10) (by omega) (by omega)]
theorem q0d {n:Nat} (h:n < 10):cZ n=[(48+n).toUInt8]:=by unfold cZ;simp only [dW,if_pos h];rfl
theorem j2f {n:Nat} (h:¬n < 10):cZ n=cZ (n / 10)++cZ (n % 10):=by
 rw [q0d (n:=n % 10) (by omega)]
 have h1:dW (n+1) n=(48+n % 10).toUInt8::dW n (n / 10):=by simp only [dW,if_neg h]
 unfold cZ
 rw [h1,List.reverse_cons,y3z n (n / 10+1) (n / 10) (by omega) (by omega)]
section
variable {P:Program} {n:Nat} {E:List (Nat×Value)} {D:List Deferred} {a:Act} {Φ:Fz} {K:List Res} {w:World}
variable {Kn:Value->World->Prop} {Qp:List PanicEntry->World->Prop} {dst:Option Tmp} {ty:TypeId} {pos:String} {aft:Array Edge} {g:Option (Nat×Bool)}
theorem y4h {t:TypeId} {x:Operand} {s:Bs} (b:Under P t .string) (J:EnvR n E D a) (N:Mem Φ K w) (c:ev E x=some (.string s))
  (k:∀r w',Mem Φ (.blk r (.stringIter s 0)::K) w'->Kn (.pointer (some ⟨r,0,none⟩)) w'):Oper.eff P ⟨dst,.range t x,ty,pos,aft,g⟩ a w Kn Qp:=by
 unfold Oper.eff
 have:(execOp a.eval ⟨dst,.range t x,ty,pos,aft,g⟩).run P w=.ok (.value (.pointer (some ⟨w.heap.size,0,none⟩))) { w with heap:=w.heap.push (.stringIter s 0) }:=by
  simp only [execOp,J.ev c,Instr.range,Sem.run_bind,b w,Result.andThen_ok]
  simp [newObj,Sem.run,Sem.run_bind,Result.andThen]
 rw [this]
 exact k _ _ (N.push _)
theorem q0h (i:Nat) {x:Operand} {r q:Nat} {s:Bs} (J:EnvR n E D a) (N:Mem Φ K w) (j:ev E x=some (.pointer (some ⟨r,0,none⟩)))
  (h:qU K i=some (.blk r (.stringIter s q)))
  (k:¬q < s.size->∀w',Mem Φ K w'->Kn (.tuple #[.bool false]) w')
  (l:q < s.size->∀w',Mem Φ (pT K i (.blk r (.stringIter s (q+(Utf8.decode s q).2)))) w'->Kn (.tuple #[.bool true,.int .i64 q,.int .i32 (((Utf8.decode s q).1:Nat):Int)]) w') :
  Oper.eff P ⟨dst,.next x true,ty,pos,aft,g⟩ a w Kn Qp:=by
 have hr:w.heap[r]? = some (.stringIter s q):=N.own _ (qV h)
 have d:r < w.heap.size:=(Array.getElem?_eq_some_iff.1 hr).1
 have b:∀o,(setObj r o).run P w=.ok () { w with heap:=w.heap.setIfInBounds r o }:=fun o=>by simp only [setObj,Sem.run,hr]
 unfold Oper.eff
 by_cases hq:q < s.size
 ·have:(execOp a.eval ⟨dst,.next x true,ty,pos,aft,g⟩).run P w=.ok (.value (.tuple #[.bool true,.int .i64 q,.int .i32 (((Utf8.decode s q).1:Nat):Int)])) { w with heap:=w.heap.setIfInBounds r (.stringIter s (q+(Utf8.decode s q).2)) }:=by
   simp only [execOp,J.ev j,Instr.next,getObj,Sem.run_bind,Sem.run,hr,Result.andThen,hq,if_true,b]
   simp [goInt]
  rw [this]
  refine l hq _ (N.upd h rfl rfl (fun c m f=>?_) ?_ (.inl rfl))
  ·simp only;rw [Array.getElem?_setIfInBounds_ne (fun e=>f (by simp [Res.foot,e]))]
  ·simp [Res.sat,d]
 ·have:(execOp a.eval ⟨dst,.next x true,ty,pos,aft,g⟩).run P w=.ok (.value (.tuple #[.bool false])) w:=by
   simp only [execOp,J.ev j,Instr.next,getObj,Sem.run_bind,Sem.run,hr,Result.andThen,hq,if_false]
   simp [Sem.run_pure]
  rw [this]
  exact k hq _ N
theorem j1j {x:Operand} {src d:TypeId} {k:IntKind} {i:Int} (J:EnvR n E D a) (c:ev E x=some (.int k i)) (O:P.underlying src=some (.int k)) (b:P.underlying d=some .string):Ok P a (.convert src d x) ty w (.string (Utf8.encode i)):=fun _ _ _ _=>by
 have:=run_convert_int_string (P:=P) w src d k i (by rw [O];rfl) b
 simp only [execOp,J.ev c]
 simp [Sem.run_bind,this,Result.andThen]
end
theorem z4u (s:Bs) {i:Nat} (h:i < s.size):(s.get! i).toNat=zF s i:=by
 rw [pM h];congr 1;exact get_at s i h
theorem gU {s:Bs} {q:Nat} (h:q < s.size) (hb:zF s q < 128):Utf8.decode s q=(zF s q,1):=by
 have a:(s.get! (q+0)).toNat=zF s q:=z4u s h
 simp only [Utf8.decode,a]
 rw [if_pos hb]
theorem z1f {s:Bs} {q:Nat} (h:q < s.size) (hb:128<=zF s q):128<=(Utf8.decode s q).1/\(Utf8.decode s q).1<=2147483647/\1<=(Utf8.decode s q).2/\∀j,j < (Utf8.decode s q).2->q+j < s.size/\128<=zF s (q+j):=by
 have d:=decode_high s q h (by rw [<- pM h];exact hb)
 refine ⟨d.1,decode_le s q,d.2,?_⟩
 have e:(s.get! (q+0)).toNat=zF s q:=z4u s h
 have a:∀k,(decide (q+k < s.size)&&((s.get! (q+k)).toNat / 64==2))=true->q+k < s.size/\128<=zF s (q+k):=fun k c=>by
  simp only [baQ,decide_eq_true_eq,beq_iff_eq] at c
  have:=z4u s c.1
  exact ⟨c.1,by omega⟩
 have h1:q+0 < s.size/\128<=zF s (q+0):=⟨h,hb⟩
 simp only [Utf8.decode,e]
 rw [if_neg (by omega)]
 have one:∀j,j < 1->q+j < s.size/\128<=zF s (q+j):=fun j b=>(show 0=j by omega)▸h1
 split
 ·rename_i g
  simp only [baQ] at g
  split
  ·intro j b
   rcases (by omega:j=0∨j=1) with rfl | rfl
   ·exact h1
   ·exact a 1 (by simpa using g.2)
  ·exact one
 ·split
  ·rename_i g
   simp only [baQ] at g
   split
   ·intro j b
    rcases (by omega:j=0∨j=1∨j=2) with rfl | rfl | rfl
    ·exact h1
    ·exact a 1 (by simpa using g.1.2)
    ·exact a 2 (by simpa using g.2)
   ·exact one
  ·split
   ·rename_i g
    simp only [baQ] at g
    split
    ·intro j b
     rcases (by omega:j=0∨j=1∨j=2∨j=3) with rfl | rfl | rfl | rfl
     ·exact h1
     ·exact a 1 (by simpa using g.1.1.2)
     ·exact a 2 (by simpa using g.1.2)
     ·exact a 3 (by simpa using g.2)
    ·exact one
   ·exact one
theorem q7d {r:Int} (h:128<=r):1<=(Utf8.encode r).size/\(Utf8.encode r).size<=4/\128<=zF (Utf8.encode r) ((Utf8.encode r).size - 1):=by
 have a:¬(if Utf8.valid r=true then r.toNat else Utf8.runeError) < 128:=by
  split
  ·omega
  ·simp [Utf8.runeError]
 unfold Utf8.encode
 generalize (if Utf8.valid r=true then r.toNat else Utf8.runeError)=c at a
 simp only
 rw [if_neg a]
 split
 ·refine ⟨(by show 1<=2;omega),(by show 2<=4;omega),?_⟩
  show 128<=(UInt8.ofNat (128+c % 64)).toNat
  simp;omega
 ·split
  ·refine ⟨(by show 1<=3;omega),(by show 3<=4;omega),?_⟩
   show 128<=(UInt8.ofNat (128+c % 64)).toNat
   simp;omega
  ·refine ⟨(by show 1<=4;omega),(by show 4<=4;omega),?_⟩
   show 128<=(UInt8.ofNat (128+c % 64)).toNat
   simp;omega
def z2p (r:Nat):Bool:=decide (r < 55296) || (decide (57343 < r)&&decide (r<=1114111))
theorem x7t {s:Bs} {i:Nat} {c:UInt8} (h:∀j,j < s.size->zF s j < 128) (a:s[i]? = some c):c.toNat < 128:=by
 rw [<- yO a]
 refine h i ?_
 by_cases hl:i < s.size
 exact hl
 have:s[i]? = none:=by simp;omega
 rw [this] at a;cases a
theorem ix_none {s:Bs} {i c:Nat} (h:∀j,j < s.size->zF s j < 128) (h1:128<=c) (g:c < 256):Lib.indexByte (s.extract i s.size).data.toList ((c:Nat):Int).toNat.toUInt8=-1:=by
 have N:¬((c:Nat):Int).toNat.toUInt8∈(s.extract i s.size).data.toList:=fun f=>by
  obtain ⟨j,a⟩:=List.mem_iff_getElem?.1 f
  have b:=q7h a
  rw [y4i b] at a
  injection a with a
  have d:=h (i+j) b
  rw [pM b,a] at d
  simp at d
  omega
 have e:=Lib.contains_iff_indexByte (s.extract i s.size).data.toList ((c:Nat):Int).toNat.toUInt8
 rw [show (s.extract i s.size).data.toList.contains (((c:Nat):Int).toNat.toUInt8)=false by simpa using N] at e
 have k:=of_decide_eq_false e.symm
 have l:=Lib.indexByte_ge (s.extract i s.size).data.toList ((c:Nat):Int).toNat.toUInt8
 omega
theorem q5t {Φ:Fz} {K:List Res} {w:World} {r:Nat} (N:Mem Φ K w) :
  Calls prog 200 #[.int .i32 r] w (fun ee w'=>ee=.returned (.bool (z2p r))/\Mem Φ K w'):=by
 refine zL func200 ntmps200 fun Q hQ a J=>?_
 by_cases d:0<=r
 by_cases e:r < 55296
 rotate_left
 by_cases f:57343 < r
 refine go fun a J=>?_
 by_cases g:r<=1114111
 rotate_left
 rotate_left
 rotate_left
 by_cases b:57343 < r
 by_cases c:r<=1114111
 rotate_left
 rotate_left
 rotate_left
 all_goals (refine zC ?_;exact zQ N (by simp [z2p];omega))
theorem y5g {Φ:Fz} {K:List Res} {w:World} {s:Bs} {r:Nat} (hr:128<=r) (M:r<=2147483647) (O:∀j,j < s.size->zF s j < 128) (S:s.size<=1000000) (N:Mem Φ K w) :
  Calls prog 187 #[.string s,.int .i32 r] w (fun ee w'=>ee=.returned (.int .i64 (-1))/\Mem Φ K w'):=by
 refine zL func187 ntmps187 fun Q hQ a J=>?_
 refine Qq (fun a J=>?_) (o:=by exact fun J O=>q3d true J rfl rfl (decide_eq_true (Int.ofNat_le.2 (Nat.zero_le r))))
 by_cases T:r < 128
 refine go fun a J=>?_
 exfalso
 omega
 by_cases U:r=65533
 refine go fun a J=>?_
 refine st J rfl rfl rfl (y4h runUnderlying9 J N rfl fun P w N a J=>?_)
 refine go fun a J=>?_
 refine zT (J.ks [175]) N (fun R mm a w=>∃(q:Nat),mm=s.size - q/\R Φ [] [(0,.blk P (.stringIter s q))] a w/\(True)) (s.size - 0) ⟨0,rfl,⟨J.pk,N⟩,trivial⟩ ?_
 clear N J
 rintro mm a w ⟨q,A,⟨J,N⟩,D⟩ H u
 replace N:=N.nf
 refine go fun a J=>?_
 refine st J rfl rfl rfl (q0h 0 J N rfl rfl (fun G w N a J=>?_) (fun b w N a J=>?_))
 refine zC ?_
 replace N:=N.dl [0]
 exact ⟨rfl,N⟩
 by_cases m:(Utf8.decode s q).1=65533
 refine go fun a J=>?_
 exfalso
 rw [gU b (O _ b)] at m;have h_:=O _ b;have n:=m;simp only at n;omega
 refine go fun a J=>?_
 refine u (s.size - (q+(Utf8.decode s q).2)) _ _ (by subst A;rw [gU b (O _ b)];have h_:=b;omega) ⟨(q+(Utf8.decode s q).2),rfl,⟨J.pk,N⟩,?_⟩
 trivial
 refine yH call200 (fun t w N a J=>?_) (fun t w N a J=>?_) (c:=q5t N)
 refine go fun a J=>?_
 refine wp_scope_straight ?_
 refine Qq (fun a J=>?_) (o:=by exact fun J O=>j1j J rfl underlying21 underlying9)
 refine go fun a J=>?_
 obtain ⟨y,z,h⟩:=q7d (r:=((r:Nat):Int)) (by omega)
 obtain ⟨rs,B⟩:∃rs,rs=Utf8.encode ((r:Nat):Int):=⟨_,rfl⟩
 rw [<- B] at J y z h
 refine Qq (fun a J=>?_) (o:=by exact fun J O=>pY ((rs.size - 1:Nat):Int) J rfl rfl (by rw [jW (by omega)];omega))
 refine go fun a J=>?_
 refine zT (J.ks [0,7,8]) N (fun R mm a w=>∃(i:Nat),mm=s.size - i/\R Φ [(9,.int .i64 i)] [] a w/\(True)) (s.size - (rs.size - 1)) ⟨rs.size - 1,rfl,⟨J.pk,N⟩,trivial⟩ ?_
 clear N J
 rintro mm a w ⟨i,A,⟨J,N⟩,E⟩ I F
 by_cases C:i < s.size
 refine go fun a J=>?_
 refine wp_scope_straight ?_
 refine Reg [1,1,1,1,1,1,1] [] fun w N a J=>?_
 obtain ⟨k,v⟩:=xV C
 refine Qq (fun a J=>?_) (o:=by exact fun J O=>xD i k J rfl rfl runUnderlying9 v)
 have e:rs.size - 1 < rs.size:=by omega
 obtain ⟨l,f⟩:=xV e
 refine Qq (fun a J=>?_) (o:=by exact fun J O=>xD (rs.size - 1) l J rfl rfl runUnderlying9 f)
 by_cases L:k.toNat=l.toNat
 refine go fun a J=>?_
 exfalso
 have h_:=x7t O (show s[i]? = some k by assumption)
 have n:=yO f
 omega
 refine Reg [1,1,1,1,1,1,1,0,1] [] fun w N a J=>?_
 refine Qq (fun a J=>?_) (o:=by exact fun J O=>vE (i+1) (s.size) J rfl runUnderlying9 ⟨_,rfl⟩ rfl (by omega) (by exact Nat.le_refl _))
 obtain ⟨d,g⟩:=xV e
 refine Qq (fun a J=>?_) (o:=by exact fun J O=>xD (rs.size - 1) d J rfl rfl runUnderlying9 g)
 refine zO call199 (fun w N a J=>?_) (c:=uR (s:=(s.extract (i+1) s.size)) (c:=d.toNat) N)
 by_cases p:Lib.indexByte (s.extract (i+1) s.size).data.toList (((d.toNat:Nat):Int)).toNat.toUInt8 < 0
 refine zC ?_
 exact ⟨rfl,N⟩
 refine go fun a J=>?_
 exfalso
 have h_:=ix_none (i:=i+1) O (show 128<=d.toNat by rw [<- yO g];exact h) (UInt8.toNat_lt _)
 rw [h_] at p
 exact p (by decide)
 refine zC ?_
 exact ⟨rfl,N⟩
 refine zC ?_
 exact ⟨rfl,N⟩
section
variable {Φ:Fz} {K:List Res} {w:World}
def ixR (s:Bs) (q:Nat):Int:=if zF s q < 128 then Lib.indexByte [32,10,40,41] ((zF s q:Nat):Int).toNat.toUInt8 else -1
theorem j7h {s:Bs} {q:Nat} (h:q < s.size):decide (0<=ixR s q)=y7s (zF s q):=by
 unfold ixR
 split
 rw [<- Lib.contains_iff_indexByte,pM h]
 have e:(((s[q].toNat:Nat):Int)).toNat.toUInt8=s[q]:=by simp
 rw [e]
 exact aY _
 have:zF s q≠32/\zF s q≠10/\zF s q≠40/\zF s q≠41:=by omega
 simp [y7s,this]
theorem x9s {b:Nat} (h:128<=b):y7s b=false:=by
 have:b≠32/\b≠10/\b≠40/\b≠41:=by omega
 simp [y7s,this]
theorem j3h {s:Bs} {q:Nat} (k:Lib.NoAny s.data.toList [32,10,40,41] q) (hq:q < s.size) (l:¬0<=ixR s q):Lib.NoAny s.data.toList [32,10,40,41] (q+(Utf8.decode s q).2):=by
 have h:y7s (zF s q)=false:=(j7h hq).symm.trans (decide_eq_false l)
 have hb:∀j,j < s.size->∀b,s.data.toList[j]? = some b->b.toNat=zF s j:=fun j d b hb=>by
  rw [Array.getElem?_toList] at hb
  exact (yO (t:=s) (i:=j) (c:=b) hb).symm
 have hl:∀(j:Nat) b,s.data.toList[j]? = some b->j < s.size:=fun j b hb=>by
  have:=(List.getElem?_eq_some_iff.1 hb).1
  rwa [Array.length_toList] at this
 intro j b d f
 by_cases e:j < q
 exact k j b e f
 rw [aY,hb j (hl j b f) b f]
 by_cases a:zF s q < 128
 rw [gU hq a] at d
 simp only at d
 obtain rfl:j=q:=by omega
 exact h
 have g:=(z1f hq (by omega)).2.2.2 (j - q) (by omega)
 rw [show q+(j - q)=j by omega] at g
 exact x9s g.2
theorem x4i {s:Bs} {q:Nat} (h:q < s.size):s.size - (q+(Utf8.decode s q).2) < s.size - q:=by
 by_cases hl:zF s q < 128
 rw [gU h hl];simp only;omega
 have a:=(z1f h (by omega)).2.2.1
 omega
theorem x1j {s:Bs} {q:Nat} (a:Lib.NoAny s.data.toList [32,10,40,41] q) (hq:¬q < s.size):Lib.indexAny s.data.toList [32,10,40,41]=-1 :=
 Lib.indexAny_none fun j b c d=>a j b (by rw [Array.length_toList] at c;have:s.data.size=s.size:=rfl;omega) d
theorem x1k {s:Bs} {q:Nat} (a:Lib.NoAny s.data.toList [32,10,40,41] q) (hq:q < s.size) (b:0<=ixR s q):Lib.indexAny s.data.toList [32,10,40,41]=((q:Nat):Int) :=
 Lib.indexAny_hit (x:=s[q]) a (by rw [Array.getElem?_toList];exact Array.getElem?_eq_getElem hq) (by rw [aY,<- pM hq,<- j7h hq];exact decide_eq_true b)
theorem y9a {s:Bs} {q:Nat} (hq:q < s.size) (N:Mem Φ K w) :
  Calls prog 187 #[.string ⟨#[32,10,40,41]⟩,.int .i32 (((Utf8.decode s q).1:Nat):Int)] w (fun ee w'=>ee=.returned (.int .i64 (ixR s q))/\Mem Φ K w'):=by
 unfold ixR
 by_cases h:zF s q < 128
 rw [gU hq h,if_pos h]
 have L:=Tryz.lays153
 exact (Any.strings_IndexRune_ascii { L with } ⟨#[32,10,40,41]⟩ ((zF s q:Nat):Int) w (by omega) (by omega)).mono fun e w' J=>by obtain ⟨h1,rfl⟩:=J;exact ⟨h1,N⟩
 rw [if_neg h]
 have a:=z1f hq (by omega)
 exact y5g a.1 a.2.1 (by decide) (by decide) N
theorem q5k {n:Nat}  (N:Mem Φ K w) :
  Calls prog 188 #[.int .i64 (n:Int)] w (fun ee w'=>ee=.returned (.bool (decide (8 < n)))/\Mem Φ K w'):=by
 refine zL func188 ntmps188 fun Q hQ a J=>?_
 refine Qq (fun a J=>?_) (o:=by exact fun J O=>j5o (i:=n) (j:=8) J rfl rfl)
 refine zC ?_
 exact zQ N (by simp [*])
theorem y5e {s:Bs} (m:s.size<=8) (N:Mem Φ K w) :
  Calls prog 176 #[.string s,.string ⟨#[32,10,40,41]⟩] w (fun ee w'=>ee=.returned (.int .i64 (Lib.indexAny s.data.toList [32,10,40,41]))/\Mem Φ K w'):=by
 obtain ⟨ch,b⟩:∃ch:ByteArray,ch=⟨#[32,10,40,41]⟩:=⟨_,rfl⟩
 rw [<- b]
 refine zL func176 ntmps176 fun Q hQ a J=>?_
 by_cases o:ch=(⟨#[]⟩:Bs)
 refine go fun a J=>?_
 exfalso
 have h_:=o;rw [b] at h_;revert h_;decide
 by_cases m:ch.size=1
 refine go fun a J=>?_
 exfalso
 have h_:=m;rw [b] at h_;revert h_;decide
 refine yH call188 (fun e w N a J=>?_) (fun e w N a J=>?_) (c:=q5k N)
 refine go fun a J=>?_
 exfalso
 have h_:=of_decide_eq_true e;omega
 refine go fun a J=>?_
 refine st J rfl rfl rfl (y4h runUnderlying9 J N rfl fun l w N a J=>?_)
 refine go fun a J=>?_
 refine zT (J.ks [1,45]) N (fun R mm a w=>∃(q:Nat),mm=s.size - q/\R Φ [] [(0,.blk l (.stringIter s q))] a w/\(Lib.NoAny s.data.toList [32,10,40,41] q)) (s.size - 0) ⟨0,rfl,⟨J.pk,N⟩,Lib.NoAny.zero _ _⟩ ?_
 clear N J
 rintro mm a w ⟨q,k,⟨J,N⟩,h⟩ n i
 replace N:=N.nf
 have f:=h
 refine go fun a J=>?_
 refine st J rfl rfl rfl (q0h 0 J N rfl rfl (fun j w N a J=>?_) (fun d w N a J=>?_))
 refine zC ?_
 replace N:=N.dl [0]
 exact ⟨by rw [x1j f j],N⟩
 refine zO call187 (fun w N a J=>?_) (c:=(b▸y9a (s:=s) (q:=q) d N))
 by_cases g:0<=ixR s q
 refine zC ?_
 replace N:=N.dl [0]
 exact ⟨by rw [x1k f d g],N⟩
 refine go fun a J=>?_
 refine i (s.size - (q+(Utf8.decode s q).2)) _ _ (by subst k;exact x4i d) ⟨(q+(Utf8.decode s q).2),rfl,⟨J.pk,N⟩,?_⟩
 exact j3h f d g
theorem j8n {t:Bs} {i:Nat} (g:t.size<=1000000) (f:i<=t.size) (N:Mem Φ K w) :
  Calls prog 176 #[.string (t.extract i t.size),.string ⟨#[32,10,40,41]⟩] w (fun ee w'=>ee=.returned (.int .i64 (if i+qT t i < t.size then ((qT t i:Nat):Int) else -1))/\Mem Φ K w'):=by
 have h:=ByteArray.size_extract (a:=t) (b:=i) (e:=t.size)
 rw [<- j8o f]
 by_cases d:(t.extract i t.size).size<=8
 exact y5e d N
 have L:=Tryz.lays153
 have c:(prog.info? (Tryz.lays153_ren.t 116)).map (fun i=>(i.zero,i.size))=some (some (.agg (Array.replicate 256 (.bool false))),256):=by kernel_rfl
 refine (Any.strings_IndexAny_long L (zero_of_info c).1 (zero_of_info c).2 (t.extract i t.size) ⟨#[32,10,40,41]⟩ w (by decide) (by omega) (by omega) (by decide) ?_).mono fun e w' J=>?_
 intro j b hb
 have hl:(⟨#[32,10,40,41]⟩:Bs).data.toList=[32,10,40,41]:=rfl
 rw [hl] at hb
 have:=mgQ hb
 simp only [List.mem_cons,List.not_mem_nil,or_false] at this
 rcases this with rfl | rfl | rfl | rfl <;> decide
 obtain ⟨rfl,rfl⟩:=J
 exact ⟨rfl,N.below (((Go.RowKit.Below.refl _ _).alloc (Nat.le_refl _) _).alloc (by simp) _)⟩
end
theorem v1d {Φ:Fz} {K:List Res} {w:World} {t:Bs} (N:Mem Φ K w) :
  Calls prog 138 #[.string t] w (fun ee w'=>∃y:Nat,ee=.returned (.func (.func 175) #[] #[.pointer (some ⟨y,0,none⟩)])/\True/\Mem Φ (.blk y (ob [.string t] 9)::K) w'):=by
 refine zL func138 ntmps138 fun Q hQ a J=>?_
 refine Bx fun b w N a J=>?_
 refine zC ?_
 exact ⟨_,rfl,trivial,N⟩
theorem x3f {β:Type} {Φ:Fz} {w:World} {t:Bs} {bx l:Nat} {KY:List Bs->β->List Res} {z:β} (h2:t.size<=1000000)
  (hy:∀pre z K0 (k:Bs) w,pre.length < t.size->Mem Φ (K0++KY pre z) w->YieldAt Fence.wide 2 prog l #[.string k] w (fun e w'=>e=.returned (.bool true)/\∃z',Mem Φ (K0++KY (pre++[k]) z') w'))
  (N:Mem Φ (.blk bx (ob [.string t] 9)::KY [] z) w) :
  Calls prog 175 #[.func (.yield l) #[] #[],.pointer (some ⟨bx,0,none⟩)] w (fun ee w'=>∃y:β,ee=.returned (.tuple #[])/\Mem Φ (KY (sX t) y) w'):=by
 refine zL func175 ntmps175 fun Q hQ a J=>?_
 refine go fun a J=>?_
 refine jR (fun mm a w=>∃(i:Nat) (f:Nat) (pre:List Bs) (z0:β),mm=t.size - i/\EnvR 52 [(0,.func (.yield l) #[] #[]),(1,.pointer (some ⟨bx,0,none⟩)),(3,.int .i64 i)] [] a/\Mem Φ (.blk bx (ob [.string t] 9)::KY pre z0) w/\(i<=t.size/\pre.length<=i/\t.size<=i+f/\sX t=pre++wE t f i)) (t.size - 0) ⟨0,t.size,[],z,rfl,J.pk,N,⟨Nat.zero_le _,Nat.zero_le _,by omega,rfl⟩⟩ ?_
 clear N J
 rintro mm a w ⟨i,f,pre,z0,u,J,N,T⟩ L2 s
 obtain ⟨a0,b0,c0,p⟩:=T
 by_cases B:i < t.size
 obtain ⟨A,b⟩:=xV B
 refine Qq (fun a J=>?_) (o:=by exact fun J O=>xD i A J rfl rfl runUnderlying9 b)
 refine goJ 10 fun a J=>?_
 refine sq fun P K=>?_
 have g:∀a w,(EnvR 52 [(0,.func (.yield l) #[] #[]),(1,.pointer (some ⟨bx,0,none⟩)),(3,.int .i64 i),(11,.int .u8 A.toNat),(34,.bool (decide (zF t i=32∨zF t i=10)))] [] a/\Mem Φ (.blk bx (ob [.string t] 9)::KY pre z0) w/\(True))->P a w:=by
  clear N J
  rintro a w ⟨J,N,X⟩
  apply K
  generalize d:(decide (zF t i=32∨zF t i=10))=C at J
  cases C
  refine goJ 13 fun a J=>?_
  refine sq fun R L=>?_
  have m:∀a w,(EnvR 52 [(0,.func (.yield l) #[] #[]),(1,.pointer (some ⟨bx,0,none⟩)),(3,.int .i64 i),(39,.bool (decide (zF t i=40∨zF t i=41)))] [] a/\Mem Φ (.blk bx (ob [.string t] 9)::KY pre z0) w/\(True))->R a w:=by
   clear N J
   rintro a w ⟨J,N,Y⟩
   apply L
   generalize n:(decide (zF t i=40∨zF t i=41))=D at J
   cases D
   have d0:=z5o (t:=t) (i:=i) (by omega)
   have f0:=j1f B (of_decide_eq_false d) (of_decide_eq_false n)
   refine Qq (fun a J=>?_) (o:=by exact fun J O=>vE i (t.size) J rfl runUnderlying9 ⟨_,rfl⟩ rfl (by omega) (by exact Nat.le_refl _))
   refine zO call176 (fun w N a J=>?_) (c:=j8n (i:=i) (by omega) (by omega) N)
   refine goJ 6 fun a J=>?_
   refine sq fun S M=>?_
   have q:∀a w,(EnvR 52 [(0,.func (.yield l) #[] #[]),(1,.pointer (some ⟨bx,0,none⟩)),(3,.int .i64 i),(4,.int .i64 ((qT t i:Nat):Int))] [] a/\Mem Φ (.blk bx (ob [.string t] 9)::KY pre z0) w/\(True))->S a w:=by
    clear N J
    rintro a w ⟨J,N,Z⟩
    apply M
    refine go1 fun a J=>?_
    refine vA ?_
    refine qA J (by intro c h;cases h) (jX J rfl) rfl fun a J=>?_
    refine qA J (by intro c h;cases h) (qD 0 J N.toSees rfl rfl rfl isAgg9) rfl fun a J=>?_
    refine qA J (by intro c h;cases h) (jX J rfl) rfl fun a J=>?_
    refine qA J (by intro c h;cases h) (jX J rfl) rfl fun a J=>?_
    refine qA J (by intro c h;cases h) (jX J rfl) rfl fun a J=>?_
    refine qA J (by intro c h;cases h) (mY (i:=i) (j:=qT t i) J rfl rfl (by omega)) rfl fun a J=>?_
    refine qA J (by intro c h;cases h) (vE i (i+qT t i) J rfl runUnderlying9 ⟨_,rfl⟩ ⟨_,rfl⟩ (by omega) (by omega)) rfl fun a J=>?_
    refine y5d (v:=.string (t.extract i (i+qT t i))) J rfl rfl rfl (hy pre z0 [.blk bx (ob [.string t] 9)] (t.extract i (i+qT t i)) w (by omega) N) fun w r a J=>?_
    obtain ⟨V,N⟩:=r
    replace N:=N.nf
    refine qA J (by intro c h;cases h) (z4g J rfl) rfl fun a J=>?_
    refine wpListIn_nil ?_
    refine Qq (fun a J=>?_) (o:=by exact fun J O=>mY (i:=i) (j:=(qT t i)) J rfl rfl (by omega))
    refine go fun a J=>?_
    refine s _ _ _ (by subst u;omega) ⟨((i+(qT t i))),(f - 1),(pre++[(t.extract i (i+qT t i))]),(V),rfl,J.pk,N,?_⟩
    exact ⟨by omega,by simp only [laQ,lcQ,lnQ];omega,by omega,by rw [p,j5l B (by omega) (of_decide_eq_false d) (of_decide_eq_false n),List.append_assoc];rfl⟩
   by_cases E:(if i+qT t i < t.size then ((qT t i:Nat):Int) else -1) < 0
   have e0:=v1b (by omega) E
   refine Qq (fun a J=>?_) (o:=by exact fun J O=>pY ((qT t i:Nat):Int) J rfl rfl (by rw [jW (by omega)];omega))
   refine go fun a J=>?_
   exact q _ _ ⟨J.pk,N,trivial⟩
   refine go fun a J=>?_
   rw [v1c E] at J
   exact q _ _ ⟨J.pk,N,trivial⟩
   refine go1 fun a J=>?_
   refine vA ?_
   refine qA J (by intro c h;cases h) (jX J rfl) rfl fun a J=>?_
   refine qA J (by intro c h;cases h) (qD 0 J N.toSees rfl rfl rfl isAgg9) rfl fun a J=>?_
   refine qA J (by intro c h;cases h) (jX J rfl) rfl fun a J=>?_
   refine qA J (by intro c h;cases h) (jX J rfl) rfl fun a J=>?_
   refine qA J (by intro c h;cases h) (mY (i:=i) (j:=1) J rfl rfl (by omega)) rfl fun a J=>?_
   refine qA J (by intro c h;cases h) (vE i (i+1) J rfl runUnderlying9 ⟨_,rfl⟩ ⟨_,rfl⟩ (by omega) (by omega)) rfl fun a J=>?_
   refine y5d (v:=.string (t.extract i (i+1))) J rfl rfl rfl (hy pre z0 [.blk bx (ob [.string t] 9)] (t.extract i (i+1)) w (by omega) N) fun w r a J=>?_
   obtain ⟨W,N⟩:=r
   replace N:=N.nf
   refine qA J (by intro c h;cases h) (z4g J rfl) rfl fun a J=>?_
   refine wpListIn_nil ?_
   refine go fun a J=>?_
   refine s _ _ _ (by subst u;omega) ⟨((i+1)),(f - 1),(pre++[(t.extract i (i+1))]),(W),rfl,J.pk,N,?_⟩
   exact ⟨by omega,by simp only [laQ,lcQ,lnQ];omega,by omega,by rw [p,x3h B (by omega) (of_decide_eq_false d) (of_decide_eq_true n),List.append_assoc];rfl⟩
  by_cases F:A.toNat=40
  refine go fun a J=>?_
  exact m _ _ (by rw [show decide (zF t i=40∨zF t i=41)=true from decide_eq_true (.inl ((yO b).trans F))];exact ⟨J.pk,N,trivial⟩)
  by_cases G:A.toNat=41
  refine go fun a J=>?_
  exact m _ _ (by rw [show decide (zF t i=40∨zF t i=41)=true from decide_eq_true (.inr ((yO b).trans G))];exact ⟨J.pk,N,trivial⟩)
  refine go fun a J=>?_
  exact m _ _ (by rw [show decide (zF t i=40∨zF t i=41)=false from decide_eq_false (by rw [yO b];exact fun U=>U.elim F G)];exact ⟨J.pk,N,trivial⟩)
  refine go fun a J=>?_
  refine s _ _ _ (by subst u;omega) ⟨(i+1),(f - 1),(pre),(z0),rfl,J.pk,N,?_⟩
  exact ⟨by omega,by omega,by omega,by rw [p,v1e B (by omega) (of_decide_eq_true d)]⟩
 by_cases H:A.toNat=32
 refine go fun a J=>?_
 exact g _ _ (by rw [show decide (zF t i=32∨zF t i=10)=true from decide_eq_true (.inl ((yO b).trans H))];exact ⟨J.pk,N,trivial⟩)
 by_cases I:A.toNat=10
 refine go fun a J=>?_
 exact g _ _ (by rw [show decide (zF t i=32∨zF t i=10)=true from decide_eq_true (.inr ((yO b).trans I))];exact ⟨J.pk,N,trivial⟩)
 refine go fun a J=>?_
 exact g _ _ (by rw [show decide (zF t i=32∨zF t i=10)=false from decide_eq_false (by rw [yO b];exact fun U=>U.elim H I)];exact ⟨J.pk,N,trivial⟩)
 refine go fun a J=>?_
 replace N:=N.dl [0]
 refine hQ _ _ _ (q2d J results175 ?_)
 rw [p,x3g B,List.append_nil];exact ⟨z0,rfl,N⟩
abbrev wrongRE (n:Nat) (r:Bool):PanicEntry:={ v:=.iface 206 (.agg #[.int .i64 n]),recovered:=r }
theorem q7s:zM prog 206 0 0:=zH runUnderlying206 rfl sizeOf3 (by decide) rfl
set_option maxRecDepth 20000 in
set_option maxHeartbeats 4000000 in
theorem q3n {Φ:Fz} {K:List Res} {w:World} {bc bw n:Nat} {s t u v x:Value} (N:Mem Φ (.blk bc (ob [s,t,u,v] 27)::.blk bw (ob [x] 3)::K) w) :
  CallsD prog 137 #[.pointer (some ⟨bc,0,none⟩),.pointer (some ⟨bw,0,none⟩)] (.panicking (nW n)) w fun e u' w'=>
   e=.returned (.tuple #[])/\u'=.panicking [wrongRE n true]/\Mem Φ (.blk bc (ob [.slice none 0 0,.slice none 0 0,.slice none 0 0,.slice none 0 0] 27)::.blk bw (ob [.int .i64 n] 3)::K) w':=by
 generalize j:(fun (e:Ending) (u':FrameMode) (w':World)=>e=.returned (.tuple #[])/\u'=.panicking [wrongRE n true]/\Mem Φ (.blk bc (ob [.slice none 0 0,.slice none 0 0,.slice none 0 0,.slice none 0 0] 27)::.blk bw (ob [.int .i64 n] 3)::K) w')=R
 refine callsD_of_wpS func137 rfl fun c₀ cs m=>?_
 apply wpS_seq
 apply wpS_region
 show wpOpsS prog _ _ [0,1] _ _ _
 simp [wpOpsS,go_sem,recoverD,m,ntmps137,Exit.thenS,nW]
 refine wpS_of_wp ?_
 generalize k:(_::cs:List Frame)=cs'
 have hQ:∀(a:Act) (w':World),a.defers=[]->Mem Φ (.blk bc (ob [.slice none 0 0,.slice none 0 0,.slice none 0 0,.slice none 0 0] 27)::.blk bw (ob [.int .i64 n] 3)::K) w'->bodyPostS prog Tryz.f137 c₀ cs R .normal a cs' w':=fun a w' l N=>
  ⟨l,.panicking [wrongRE n true],k.symm,.tuple #[],results_none rfl _ _ _,by subst j;exact ⟨rfl,rfl,N⟩⟩
 generalize b:(Act.mk _ [])=a
 have J:EnvR 19 [(2,.iface 206 (.agg #[.int .i64 n])),(1,.pointer (some ⟨bw,0,none⟩)),(0,.pointer (some ⟨bc,0,none⟩))] [] a:=by
  subst b
  refine ⟨by simp,fun t v h=>?_,rfl⟩
  obtain ⟨rfl,rfl⟩ | ⟨_,h⟩:=nJ h
  ·simp
  ·obtain ⟨rfl,rfl⟩ | ⟨_,h⟩:=nJ h
   ·simp
   ·obtain ⟨rfl,rfl⟩ | ⟨_,h⟩:=nJ h
    ·simp
    ·cases h
 clear b
 refine sq fun o c=>?_
 refine wp_region_lit ?_
 refine kC J (jX J rfl) rfl fun a J=>?_
 refine kC J (z0x (v:=.bool true) J rfl rfl rfl (by kernel_rfl)) rfl fun a J=>?_
 refine wpList_nil ?_
 apply c
 refine if_t J rfl ?_
 refine sq fun p d=>?_
 refine wp_region_lit ?_
 refine kC J (jX J rfl) rfl fun a J=>?_
 refine kC J (j1h J rfl runUnderlying206 (by intro ms h;cases h)) rfl fun a J=>?_
 refine kC J (jX J rfl) rfl fun a J=>kC J (uF J rfl rfl) rfl fun a J=>kC J (uF J rfl rfl) rfl fun a J=>?_
 refine st J rfl rfl rfl (yS (cs:=[.int .i64 ((0:Nat):Int)]) N zeroValue206 rfl fun i w N a J=>?_)
 refine st0 J rfl rfl (zZ 0 (cs:=[.int .i64 ((0:Nat):Int)]) (vs:=[.int .i64 n]) J N rfl rfl rfl rfl sizeOf206 rfl rfl rfl fun w N a J=>?_)
 refine kC J (wA J rfl) rfl fun a J=>?_
 refine wpList_nil ?_
 apply d
 replace N:Mem Φ (.blk i (ob [.int .i64 n] 206)::.blk bc (ob [s,t,u,v] 27)::.blk bw (ob [x] 3)::K) w:=N
 refine sq fun r f=>?_
 refine sq fun y g=>?_
 refine wp_region_lit ?_
 refine kC J (jX J rfl) rfl fun a J=>kC J (z4g J rfl) rfl fun a J=>?_
 refine wpList_nil ?_
 apply g
 refine if_f J rfl ?_
 refine wp_skip ?_
 apply f
 refine dF [1,1,2,0,0] (.q 0 (.q 1 (.q 2 (.e 3 (.e 4 (.done)))))) [.blk i (ob [.int .i64 n] 206)] J N mixed (by kernel_rfl) (by simp) fun w N=>?_
 refine y3v J rfl rfl (fun w=>z0s (vs:=[]) (cs:=[.slice none 0 0,.slice none 0 0,.slice none 0 0,.slice none 0 0]) J rfl (by kernel_rfl)) rfl fun a J=>?_
 refine y3v J rfl rfl (fun w=>jG J rfl q7s rfl) rfl fun a J=>?_
 refine d_q J rfl rfl (fun w O=>qD 0 J O rfl rfl rfl isAgg3) rfl fun a J=>?_
 refine wB J rfl rfl (zZ 1 (cs:=[s,t,u,v]) (vs:=[.slice none 0 0,.slice none 0 0,.slice none 0 0,.slice none 0 0]) J N rfl rfl rfl rfl sizeOf27 rfl rfl rfl fun w N=>⟨fun _=>N.seesIn (Fz.Le.refl _) (by simp [pT]),fun a J=>?_⟩)
 refine wB J rfl rfl (zZ 2 (cs:=[x]) (vs:=[.int .i64 n]) J N rfl rfl rfl rfl sizeOf3 rfl rfl rfl fun w N=>⟨yI (by kernel_rfl),fun a J=>?_⟩)
 refine q3p ?_
 replace N:Mem Φ (.blk bc (ob [.slice none 0 0,.slice none 0 0,.slice none 0 0,.slice none 0 0] 27)::.blk bw (ob [.int .i64 n] 3)::K) w:=N.del 0
 exact hQ _ _ J.defs N
set_option maxRecDepth 20000 in
theorem catchR_none {w:World} {bc bw:Nat} :
  CallsD prog 137 #[.pointer (some ⟨bc,0,none⟩),.pointer (some ⟨bw,0,none⟩)] .returning w fun e u' w'=>e=.returned (.tuple #[])/\u'=.returning/\w'=w:=by
 generalize f:(fun (e:Ending) (u':FrameMode) (w':World)=>e=.returned (.tuple #[])/\u'=.returning/\w'=w)=R
 refine callsD_of_wpS func137 rfl fun c₀ cs d=>?_
 apply wpS_seq
 apply wpS_region
 show wpOpsS prog _ _ [0,1] _ _ _
 simp [wpOpsS,go_sem,recoverD,d,ntmps137,Exit.thenS]
 refine wpS_of_wp ?_
 have hQ:∀(a:Act),a.defers=[]->bodyPostS prog Tryz.f137 c₀ cs R .normal a (c₀::cs) w:=fun a g=>
  ⟨g,.returning,by cases c₀;simp only at d;subst d;rfl,.tuple #[],results_none rfl _ _ _,by subst f;exact ⟨rfl,rfl,rfl⟩⟩
 generalize b:(Act.mk _ [])=a
 have J:EnvR 19 [(2,.nilIface)] [] a:=by
  subst b
  refine ⟨by simp,fun t v h=>?_,rfl⟩
  obtain ⟨rfl,rfl⟩ | ⟨_,h⟩:=nJ h
  ·simp
  ·cases h
 clear b
 refine sq fun i c=>?_
 refine wp_region_lit ?_
 refine kC J (jX J rfl) rfl fun a J=>?_
 refine kC J (z0x (v:=.bool false) J rfl rfl rfl (by kernel_rfl)) rfl fun a J=>?_
 refine wpList_nil ?_
 apply c
 refine if_f J rfl ?_
 refine wp_skip ?_
 exact hQ _ J.defs
theorem fo_75_0:zM prog 75 0 0:=zH runUnderlying75 rfl sizeOf27 (by decide) rfl
theorem fo_75_1:zM prog 75 1 4:=zH runUnderlying75 rfl sizeOf25 (by decide) rfl
theorem fo_75_2:zM prog 75 2 5:=zH runUnderlying75 rfl sizeOf47 (by decide) rfl
theorem fo_75_3:zM prog 75 3 6:=zH runUnderlying75 rfl sizeOf71 (by decide) rfl
theorem fo_75_4:zM prog 75 4 7:=zH runUnderlying75 rfl sizeOf72 (by decide) rfl
theorem fo_75_5:zM prog 75 5 8:=zH runUnderlying75 rfl sizeOf73 (by decide) rfl
theorem fo_78_0:zM prog 78 0 0:=zH runUnderlying78 rfl sizeOf9 (by decide) rfl
theorem fo_86_0:zM prog 86 0 0:=zH runUnderlying86 rfl sizeOf25 (by decide) rfl
theorem fo_86_1:zM prog 86 1 1:=zH runUnderlying86 rfl sizeOf84 (by decide) rfl
theorem fo_86_2:zM prog 86 2 2:=zH runUnderlying86 rfl sizeOf84 (by decide) rfl
theorem fo_95_0:zM prog 95 0 0:=zH runUnderlying95 rfl sizeOf9 (by decide) rfl
theorem fo_95_1:zM prog 95 1 1:=zH runUnderlying95 rfl sizeOf9 (by decide) rfl
theorem q7r:zM prog 131 0 0:=zH runUnderlying131 rfl sizeOf78 (by decide) rfl
theorem x5q:zM prog 131 1 1:=zH runUnderlying131 rfl sizeOf112 (by decide) rfl
theorem x6c:zM prog 261 1 1:=zH runUnderlying261 rfl sizeOf3 (by decide) rfl
theorem x6e:zM prog 261 3 3:=zH runUnderlying261 rfl sizeOf3 (by decide) rfl
set_option maxRecDepth 20000 in
theorem rt_47:RowT prog 47 95 2 32:=⟨underlying47,⟨_,_,Tryz.type95,rfl,rfl,rfl,rfl⟩,by decide,by decide⟩
section
variable {P:Program} {ops:Array Oper} {md:Region.Mode} {B:World->Prop} {kd:List Nat} {Qp:List PanicEntry->World->Prop} {D:List Deferred}
end
theorem EnvR.keep {n:Nat} {E0:List (Nat×Value)} {D:List Deferred} {a:Act} {o:Oper} {v:Value} (J:EnvR n E0 D a) (b:(match o.dst with | some d=>(get E0 d).isNone | none=>true)=true):EnvR n E0 D (a.put o.dst v):=by
 cases c:o.dst with
 | none=>exact J
 | some d=>
  rw [c] at b
  refine ⟨by simp [Act.put,J.size],fun t u h=>?_,J.defs⟩
  have:t≠d:=fun e=>by subst e;simp only [h] at b;cases b
  simp only [Act.put]
  rw [Array.getElem?_setIfInBounds_ne (Ne.symm this)]
  exact J.env t u h
theorem gH {P:Program} {n:Nat} {E0:List (Nat×Value)} {D:List Deferred} {a:Act} {Φ:Fz} {K:List Res} {w:World} {id:Nat} {l:List Oper} {Q:Exit->Act->World->Prop} (kd:List Nat) (p:Plan) (K':List Res) (g:EnvR n E0 D a) (N:Mem Φ K w) (q:P.follows .mixedOrders=true) (f:z7b l.toArray kd p=true) (j:∀r∈K',r∈K)
  (m:l.all (fun o=>match o.dst with | some d=>(get E0 d).isNone | none=>true)=true)
  (h:∀w,Mem Φ K w->yE P .any l.toArray (Sees Φ K') kd (fun c w=>∀a,EnvR n E0 D a->Q (.panic c) a w) (Q .normal) p a w):(Code.region id l.toArray true).wp P Q a w:=by
 have hm':=N.drew
 have h:=h _ hm'
 simp only [z7b,baQ,beq_iff_eq] at f
 obtain ⟨⟨⟨O,b⟩,hl⟩,e⟩:=f
 refine (wpIn_wide (n:=3)).1 (wpIn_region_any q (cC (r:=none) (Inv:=EnvR n E0 D) (kd:=kd) (B:=Sees Φ K') (Qp:=fun c w=>∀a,EnvR n E0 D a->Q (.panic c) a w) (Q:=Q .normal) (fun h=>absurd rfl h) (fun i o a v k J=>J.keep ?_) (fun _ _ h=>h) (fun c a w J h=>h a J) _ _ _ _ g (fun _=>⟨hm'.fz,fun r hr=>hm'.own r (j r hr)⟩) ?_))
 ·have h1:l[i]? = some o:=by simpa using k
  exact List.all_eq_true.1 m o (mgQ h1)
 ·have:=vP O p _ _ _ b e h
  rw [hl] at this
  exact this
theorem cX {P:Program} {n m:Nat} {r:Option Nat} {E:List (Nat×Value)} {a:Act} {Φ:Fz} {K:List Res} {w:World} {id:Nat} {l:List Oper} {Q:Exit->Act->World->Prop} (kd:List Nat) (p:Plan) (K':List Res) (J:EnvR n E [] a) (N:Mem Φ K w) (s:P.follows .mixedOrders=true) (f:z7b l.toArray kd p=true) (g:∀r∈K',r∈K)
  (q:l.all (fun o=>match o.op with | .defer _=>false | _=>true)=true)
  (h:∀w,Mem Φ K w->yE P .any l.toArray (Sees Φ K') kd (fun _ _=>False) (Q .normal) p a w):(Code.region id l.toArray true).wpIn (FO r) m P Q a w:=by
 have hm':=N.drew
 have h:=h _ hm'
 simp only [z7b,baQ,beq_iff_eq] at f
 obtain ⟨⟨⟨O,b⟩,hl⟩,d⟩:=f
 refine wpIn_region_any s (cC (Inv:=fun _=>True) (kd:=kd) (B:=Sees Φ K') (Qp:=fun _ _=>False) (Q:=Q .normal) (fun _ i o k c j=>?_) (fun _ _ _ _ _ h=>h) (fun _ _ h=>h) (fun _ _ _ _ h=>h.elim) _ _ _ _ trivial (fun _=>⟨hm'.fz,fun r hr=>hm'.own r (g r hr)⟩) ?_)
 ·have h1:l[i]? = some o:=by simpa using k
  have e:=List.all_eq_true.1 q o (mgQ h1)
  rw [j] at e;cases e
 ·have:=vP O p _ _ _ b d h
  rw [hl] at this
  exact this
section
variable {P:Program} {Φ:Fz}
def Fires (P:Program) (y:Value) (vs:List Value) (w:World) (R:Ending->World->Prop):Prop :=
 (∃f fs cs,y=.func (.func f) (List.toArray fs) (List.toArray cs)/\(∀args w,(callFunc f args).run P w=.ok (.enter f args) w)/\Calls P f (fs++vs++cs).toArray w R) ∨
 (∃l,y=.func (.yield l) #[] #[]/\YieldAt Fence.wide 2 P l vs.toArray w R)
theorem Fires.mono {y:Value} {vs:List Value} {w:World} {R R':Ending->World->Prop} (h:Fires P y vs w R) (hr:∀e w',R e w'->R' e w'):Fires P y vs w R':=by
 rcases h with ⟨f,fs,cs,h1,a,b⟩ | ⟨l,h1,fn,tmps,assign,body,a,b⟩
 ·exact .inl ⟨f,fs,cs,h1,a,b.mono hr⟩
 ·exact .inr ⟨l,h1,fn,tmps,assign,body,a,b.mono hr⟩
structure Takes {α β:Type} (P:Program) (Φ:Fz) (y:Value) (arg:α->List Value) (items:List α) (KY:List α->β->List Res):Prop where
 fn:∃f fs cs,y=.func f fs cs
 go:∀pre x post z K0 w,items=pre++x::post->Mem Φ (K0++KY pre z) w->Fires P y (arg x) w (fun e w'=>e=.returned (.bool true)/\∃z',Mem Φ (K0++KY (pre++[x]) z') w')
end
section
variable {P:Program} {n m:Nat} {E:List (Nat×Value)} {D:List Deferred} {a:Act} {w:World} {ops:Array Oper} {rest:List Oper} {Q:Exit->Act->World->Prop} {r:Option Nat} {d:Nat} {v:Value} {op:Op} {ty:TypeId} {pos:String} {aft:Array Edge}
theorem nA (h:Q .normal a w):wpListIn (FO r) m P ops Q [] a w:=wpListIn_nil h
theorem vZ {y:Operand} {xs:Array Operand} {vs:List Value} {ts:Array TypeId} {yv u:Value} {JJ:World->Prop} {Kn:Value->World->Prop} {Qp:List PanicEntry->World->Prop} {dst:Option Tmp} {g:Option (Nat×Bool)} (J:EnvR n E D a) (h:ev E y=some yv) (d:evs E xs.toList=some vs)
  (hr:Fires P yv vs w (fun e w'=>e=.returned u/\JJ w')) (k:∀w',JJ w'->Kn u w'):Oper.effR P ⟨dst,.call { callee:=.value y,args:=xs,argTypes:=ts },ty,pos,aft,g⟩ a w Kn Qp:=by
 unfold Oper.effR
 rcases hr with ⟨f,fs,cs,rfl,m,j⟩ | ⟨l,rfl,fn,tmps,assign,body,h1,i⟩
 ·have b:(execOp a.eval ⟨dst,.call { callee:=.value y,args:=xs,argTypes:=ts },ty,pos,aft,g⟩).run P w=.ok (.enter f (fs++vs++cs).toArray) w:=by
   simp only [execOp,resolve,Sem.run_bind,J.evsA d,J.ev h,Deferred.ofValue]
   have:=m (fs++vs++cs).toArray w
   simp only [invoke]
   simpa [Sem.run_bind,Result.andThen] using this
  rw [b]
  refine j.mono fun e w' he'=>?_
  obtain ⟨rfl,c⟩:=he'
  exact k _ c
 ·have b:(execOp a.eval ⟨dst,.call { callee:=.value y,args:=xs,argTypes:=ts },ty,pos,aft,g⟩).run P w=.ok (.round l fn tmps assign body) w:=by
   simp only [execOp,resolve,Sem.run_bind,J.evsA d,J.ev h,Deferred.ofValue]
   simp [invoke,Sem.run_bind,Result.andThen,h1]
  rw [b]
  refine i.mono fun e w' he'=>?_
  obtain ⟨rfl,c⟩:=he'
  exact k _ c
theorem d_fire {kd:List Nat} {B:World->Prop} {Qp:List PanicEntry->World->Prop} {Q:Act->World->Prop} {p:Plan} {i:Nat} {ops:Array Oper} (J:EnvR n E D a) (f:ops[i]? = some ⟨some d,op,ty,pos,aft,none⟩) (g:qL kd i=0) (c:Nat.blt d n=true)
  (h:Oper.effR P ⟨some d,op,ty,pos,aft,none⟩ a w (fun v w'=>(hO .any kd ⟨some d,op,ty,pos,aft,none⟩=true->B w')/\∀a,EnvR n ((d,v)::E) D a->yE P .any ops B kd Qp Q p a w') Qp):yE P .any ops B kd Qp Q (.e i p) a w:=by
 unfold yE vW
 simp only [f]
 rw [if_pos (aI rfl _),if_pos g]
 exact xF h (fun v w' b=>⟨b.1,b.2 _ (J.put c)⟩) (fun _ _ h=>h)
theorem d_fireg {kd:List Nat} {B:World->Prop} {Qp:List PanicEntry->World->Prop} {Q:Act->World->Prop} {p:Plan} {i:Nat} {ops:Array Oper} {j t:Nat} {b:Bool} (J:EnvR n E D a) (g:ops[i]? = some ⟨some d,op,ty,pos,aft,some (j,b)⟩) (k:ops[j]?.bind (·.dst)=some t) (c:get E t=some (.bool b)) (l:qL kd i=0) (f:Nat.blt d n=true)
  (h:Oper.effR P ⟨some d,op,ty,pos,aft,some (j,b)⟩ a w (fun v w'=>(hO .any kd ⟨some d,op,ty,pos,aft,some (j,b)⟩=true->B w')/\∀a,EnvR n ((d,v)::E) D a->yE P .any ops B kd Qp Q p a w') Qp):yE P .any ops B kd Qp Q (.e i p) a w:=by
 unfold yE vW
 simp only [g]
 rw [if_pos (nV J rfl k c),if_pos l]
 exact xF h (fun v w' c=>⟨c.1,c.2 _ (J.put f)⟩) (fun _ _ h=>h)
theorem z1o {o:Oper} (J:EnvR n E D a) (i:o.dst=some d) (b:Nat.blt d n=true) (j:o.guard=none) (e:∀c,o.op≠.defer c)
  (h:Oper.effR P o a w (fun v w'=>∀a,EnvR n ((d,v)::E) D a->wpListIn (FO r) m P ops Q rest a w') (fun _ _=>False)):wpListIn (FO r) m P ops Q (o::rest) a w:=by
 refine wpListIn_plain j fun L f=>z0r (fun _=>e) (xF h (fun v w' k=>f _ _ ?_) (fun c w' g=>g.elim))
 rw [i];exact k _ (J.put b)
theorem z1n {o:Oper} {j t:Nat} {b:Bool} (J:EnvR n E D a) (l:o.dst=some d) (e:Nat.blt d n=true) (p:o.guard=some (j,b)) (q:ops[j]?.bind (·.dst)=some t) (g:get E t=some (.bool b)) (f:∀c,o.op≠.defer c)
  (h:Oper.effR P o a w (fun v w'=>∀a,EnvR n ((d,v)::E) D a->wpListIn (FO r) m P ops Q rest a w') (fun _ _=>False)):wpListIn (FO r) m P ops Q (o::rest) a w:=by
 refine wpListIn_step fun L i=>?_
 rw [if_pos (nV J p q g)]
 refine z0r (fun _=>f) (xF h (fun v w' g=>i _ _ ?_) (fun c w' k=>k.elim))
 rw [l];exact g _ (J.put e)
theorem y5b {o:Oper} {j t:Nat} {b:Bool} {v:Value} (J:EnvR n E D a) (e:o.dst=some d) (g:o.guard=some (j,b)) (c:Nat.blt d n=true) (h:ops[j]?.bind (·.dst)=some t) (i:get E t=some v) (hb:q4v v b=true)
  (k:∀a,EnvR n ((d,undef)::E) D a->wpListIn (FO r) m P ops Q rest a w):wpListIn (FO r) m P ops Q (o::rest) a w:=by
 unfold wpListIn
 rw [if_neg (by rw [z3r J g h i hb];simp),e]
 exact ⟨fun f _=>FO.fn f,k _ (J.put c)⟩
theorem y2u {v:Value} {Kn:Value->World->Prop} {Qp:List PanicEntry->World->Prop} {dst:Option Tmp} {g:Option (Nat×Bool)} (b:Ok P a op ty w v) (k:Kn v w):Oper.effR P ⟨dst,op,ty,pos,aft,g⟩ a w Kn Qp:=(uL b k).toR
theorem blkI {id:Nat} {c:Code} (h:c.wpIn (FO r) m P (Exit.inBlock id Q) a w):(Code.block id c).wpIn (FO r) m P Q a w:=wpIn_block h
theorem exitI {id:Nat} (h:Q (.exit id) a w):(Code.exit id).wpIn (FO r) m P Q a w:=wpIn_exit h
theorem skipI (h:Q .normal a w):Code.skip.wpIn (FO r) m P Q a w:=wpIn_skip h
theorem regI {id:Nat} {l:List Oper} (h:wpListIn (FO r) m P l.toArray Q l a w):(Code.region id l.toArray false).wpIn (FO r) m P Q a w:=wpIn_region_lit h
theorem sqI {x y:Code} (h:∀L:Act->World->Prop,(∀a w,y.wpIn (FO r) m P Q a w->L a w)->x.wpIn (FO r) m P (Exit.then L Q) a w):(Code.seq x y).wpIn (FO r) m P Q a w:=wpIn_seq_k h
theorem if_tI {c:Operand} {x y:Code} (J:EnvR n E D a) (b:ev E c=some (.bool true)) (h:x.wpIn (FO r) m P Q a w):(Code.cond c x y).wpIn (FO r) m P Q a w:=wpIn_cond_true (J.ev b) h
theorem if_fI {c:Operand} {x y:Code} (J:EnvR n E D a) (b:ev E c=some (.bool false)) (h:y.wpIn (FO r) m P Q a w):(Code.cond c x y).wpIn (FO r) m P Q a w:=wpIn_cond_false (J.ev b) h
end
section
variable {P:Program} {Φ:Fz} {K:List Res} {w:World}
theorem q2f {β:Type} {l:Nat} {r:Loop} {tmps:Array Value} {KO:β->List Res} (a:r.state=.ready) (b:r.pending=none)
  (q:r.assign.wpIn (FO (some l)) 2 P (Exit.then (fun j g=>∃K1,Mem Φ (.blk l (.loop r)::K1) g/\∀d,Mem Φ (.blk l (.loop { r with state:=.busy })::K1) d ->
   r.body.wpIn (FO (some l)) 2 P (fun e _ w=>e=.normal/\∃z,Mem Φ (.blk l (.loop { r with state:=.busy })::KO z) w) j d) (fun _ _ _=>False)) ⟨tmps,[]⟩ w) :
  RoundIn Fence.wide 2 P l r.fn tmps r.assign r.body w (fun e w'=>e=.returned (.bool true)/\∃z,Mem Φ (.blk l (.loop r)::KO z) w'):=by
 refine roundIn_of_wpIn trivial (Code.wpIn_mono (fun e j g h=>?_) q)
 cases e with
 | normal=>
  obtain ⟨K1,k,p⟩:=h
  have hl:g.heap[l]? = some (.loop r):=k.own _ msQ
  refine ⟨_,run_beginRound hl a,?_⟩
  refine Code.wpIn_mono (fun e a2 d h=>?_) (p _ (k.putObj (i:=0) (o':=.loop { r with state:=.busy }) rfl))
  obtain ⟨rfl,z,m⟩:=h
  have f:d.heap[l]? = some (.loop { r with state:=.busy }):=m.own _ msQ
  refine ⟨_,_,run_endRound none f,rfl,z,?_⟩
  have n:=m.putObj (i:=0) (o':=.loop { ({ r with state:=.busy }:Loop) with state:=.ready,pending:=none }) rfl
  have o:({ ({ r with state:=.busy }:Loop) with state:=.ready,pending:=none }:Loop)=r:=by cases r;simp only at a b;subst a;subst b;rfl
  simp only [pT,o] at n;simpa [o] using n
 | exit id=>exact h.elim
 | goto l=>exact h.elim
 | ret=>exact h.elim
 | panic c=>exact h.elim
 | outgrown=>exact h.elim
theorem z9v {α β:Type} {n gf p:Nat} {E:List (Nat×Value)} {Dd:List Deferred} {a:Act} {g:Operand} {assign body:Code} {Q:Exit->Act->World->Prop} {fs cs:List Value}
  (items:List α) (arg:α->Value) (KX:List Res) (KV:List α->β->List Res) (z0:β)
  (J:EnvR n E Dd a) (N:Mem Φ (KX++KV [] z0) w) (D:ev E g=some (.func (.func gf) fs.toArray cs.toArray)) (C:∀args w,(callFunc gf args).run P w=.ok (.enter gf args) w) (H:Nat.blt p n=true)
  (hr:∀pre x post z l o o2 K' a w,items=pre++x::post->EnvR n ((p,arg x)::E) [] a->Mem Φ (.blk l o::(KV pre z++K')) w ->
   assign.wpIn (FO (some l)) 2 P (Exit.then (fun s I=>∃K1,Mem Φ (.blk l o::K1) I/\∀q,Mem Φ (.blk l o2::K1) q ->
    body.wpIn (FO (some l)) 2 P (fun e _ w=>e=.normal/\∃z,Mem Φ (.blk l o2::(KV (pre++[x]) z++K')) w) s q) (fun _ _ _=>False)) a w)
  (A:∀(y:Value) (KY:List α->β->List Res) (w:World),Takes P Φ y (fun x=>[arg x]) items KY->Mem Φ (KX++KY [] z0) w->Calls P gf (fs++[y]++cs).toArray w (fun e w'=>∃v z,e=.returned v/\Mem Φ (KX++KY items z) w'))
  (kn:∀Dk z a w,EnvR n E ({ target:=.collected Dk,args:=#[] }::Dd) a->Mem Φ (.blk Dk (.deferred (some []))::(KX++KV items z)) w->Q .normal a w):(Code.rangeFunc g #[p] assign body).wp P Q a w:=by
 refine z7q (β:=β) (δ:=Unit) (F1:=fun _=>Φ) (KO:=fun z=>KX++KV items z) (KE:=fun _=>[]) (G:=fun _=>True) (B:=fun _ _=>False) J N D C (fun Dk l r w c has f m k u N=>?_) (fun Dk z a w _ J N=>kn Dk z a w J N) (fun _ _ _ _ _ h=>h.elim)
 subst has;subst f
 have key:=A (.func (.yield l) #[] #[]) (fun pre z=>.blk l (.loop r)::.blk Dk (.deferred (some []))::KV pre z) w ⟨⟨_,_,_,rfl⟩,fun pre x post z K0 w j N=>.inr ⟨l,rfl,?_⟩⟩ ?_
 ·refine key.mono fun e w' h=>?_
  obtain ⟨v,z,rfl,h⟩:=h
  refine .inl ⟨v,z,rfl,trivial,h.perm ?_⟩
  exact (List.perm_middle.trans (List.Perm.cons _ List.perm_middle))
 ·have b:Mem Φ (.blk l (.loop r)::(KV pre z++(.blk Dk (.deferred (some []))::K0))) w:=N.perm (List.perm_middle.trans (List.Perm.cons _ (List.perm_middle.trans ((List.Perm.cons _ List.perm_append_comm).trans List.perm_middle.symm))))
  have hl:w.heap[l]? = some (.loop r):=b.own _ msQ
  refine ⟨r.fn,r.tmps.setIfInBounds p (arg x),r.assign,r.body,?_,?_⟩
  ·rw [run_yield hl (by rw [c];rfl),c]
   simp
  ·have i:EnvR n ((p,arg x)::E) [] ⟨r.tmps.setIfInBounds p (arg x),[]⟩:=u.put (d:=p) H
   have h:=q2f (P:=P) (Φ:=Φ) (tmps:=r.tmps.setIfInBounds p (arg x)) (KO:=fun z=>KV (pre++[x]) z++(.blk Dk (.deferred (some []))::K0)) m k (hr pre x post z l _ _ _ _ _ j i b)
   refine h.mono fun e w' F=>?_
   obtain ⟨h1,z',t⟩:=F
   refine ⟨h1,z',t.perm ?_⟩
   exact ((List.Perm.cons _ ((List.perm_middle.trans (List.Perm.cons _ List.perm_append_comm)).trans List.perm_middle.symm)).trans List.perm_middle.symm)
 ·refine N.perm ?_
  exact ((List.Perm.cons _ List.perm_middle.symm).trans List.perm_middle.symm)
end
def z4a (ds:List Nat):List Deferred:=ds.map fun d=>{ target:=.collected d,args:=#[] }
def vN (ds:List Nat):List Res:=ds.map fun d=>.blk d (.deferred (some []))
section
variable {P:Program} {Φ:Fz} {K:List Res} {n:Nat} {E:List (Nat×Value)} {a:Act} {fn:Func} {R:Ending->World->Prop}
theorem Mem.rot {A B C D:List Res} {w:World} (h:Mem Φ (A++((B++C)++D)) w):Mem Φ (A++((D++B)++C)) w:=h.perm (List.Perm.append_left A (by
 rw [List.append_assoc D B C];exact List.perm_append_comm))
theorem Mem.unrot {A B C D:List Res} {w:World} (h:Mem Φ (A++((D++B)++C)) w):Mem Φ (A++((B++C)++D)) w:=h.perm (List.Perm.append_left A (by
 rw [List.append_assoc D B C];exact List.perm_append_comm))
theorem Mem.mid {A B C:List Res} {w:World} (h:Mem Φ (A++(B++C)) w):Mem Φ (B++(A++C)) w:=h.perm (by
 rw [<- List.append_assoc,<- List.append_assoc];exact (List.perm_append_comm).append_right C)
theorem z6r {tmps:Array Value} {u:FrameMode} (a:u≠.run):∀{ds:List Nat} {w:World},Mem Φ (vN ds++K) w->(∀w',Mem Φ K w'->nI P fn tmps R [] u w')->nI P fn tmps R (z4a ds) u w
 | [],w,N,h=>h w N
 | d::ds,w,N,h=>by
  have h1:w.heap[d]? = some (.deferred (some [])):=N.own _ msQ
  exact aS a h1 (z6r a (N.putObj (i:=0) (o':=.deferred none) rfl).tail h)
theorem retXr {ds:List Nat} {w:World} (J:EnvR n E (z4a ds) a) (N:Mem Φ (vN ds++K) w) (h:∀w',Mem Φ K w'->∃x,(results fn a.tmps).run P w'=.ok x w'/\R (.returned x) w'):nI P fn a.tmps R a.defers .returning w:=by
 rw [J.defs]
 refine z6r (by intro h;cases h) N fun w' hm'=>hU ?_
 exact h w' hm'
theorem retX {ds:List Nat} {w:World} (J:EnvR n E (z4a ds) a) (N:Mem Φ (vN ds++K) w) (h:∀w',Mem Φ K w'->∃x,(results fn a.tmps).run P w'=.ok x w'/\R (.returned x) w'):nX P fn R .ret a w:=retXr J N h
theorem retXN {ds:List Nat} {w:World} (J:EnvR n E (z4a ds) a) (N:Mem Φ (vN ds++K) w) (h:∀w',Mem Φ K w'->∃x,(results fn a.tmps).run P w'=.ok x w'/\R (.returned x) w'):nX P fn R .normal a w:=retXr J N h
theorem retX0N {ds:List Nat} {w:World} (J:EnvR n E (z4a ds) a) (hr:fn.results=#[]) (N:Mem Φ (vN ds++K) w) (h:∀w',Mem Φ K w'->R (.returned (.tuple #[])) w'):nX P fn R .normal a w :=
 retXN J N fun w' hm'=>⟨.tuple #[],by simp [results,hr],h w' hm'⟩
theorem retX1 {ds:List Nat} {w:World} {t:Nat} {v:Value} (J:EnvR n E (z4a ds) a) (hr:fn.results=#[.tmp t]) (b:get E t=some v) (N:Mem Φ (vN ds++K) w) (h:∀w',Mem Φ K w'->R (.returned v) w'):nX P fn R .ret a w :=
 retX J N fun w' hm'=>⟨v,by simp [results,hr,Array.getD_eq_getD_getElem?,J.env t v b],h w' hm'⟩
theorem retX2 {ds:List Nat} {w:World} {t u:Nat} {v x:Value} (J:EnvR n E (z4a ds) a) (hr:fn.results=#[.tmp t,.tmp u]) (b:get E t=some v) (c:get E u=some x) (N:Mem Φ (vN ds++K) w) (h:∀w',Mem Φ K w'->R (.returned (.tuple #[v,x])) w'):nX P fn R .ret a w :=
 retX J N fun w' hm'=>⟨.tuple #[v,x],by simp [results,hr,Array.getD_eq_getD_getElem?,J.env t v b,J.env u x c],h w' hm'⟩
theorem retXc {ds:List Nat} {w:World} {t T b:Nat} {v:Value} {c:TypeId} (J:EnvR n E (z4a ds) a) (hr:fn.results=#[.cell t T]) (e:get E t=some (.pointer (some ⟨b,0,none⟩))) (d:Scalar P T)
  (N:Mem Φ (vN ds++.blk b (ob [v] c)::K) w) (h:∀w',Mem Φ K w'->R (.returned v) w'):nX P fn R .ret a w :=
 retX J N fun w' hm'=>⟨v,q5d (i:=0) J hm'.toSees hr e rfl rfl d,h w' hm'.tail⟩
end
def inN (s:Bs):Bs:=(⟨#[105,110,46]⟩:Bs)++s
def kA (s:Bs) (k:Nat):Bs:=s++⟨#[47]⟩++aQ ((k:Nat):Int)
def vrN (f x:Bs):Bs:=f++⟨#[46]⟩++x
def z6i (s:Bs) (n:Nat):List Bs:=(List.range n).map (kA s)
def z6c (d:Data):List Bs:=d.cons.flatMap fun x=>z6i x.name x.fields.length
def dP (f:Fun):List Bs:=f.name::((f.params.map fun p=>vrN f.name p.name)++(zN f.body).map (vrN f.name))
def zG (c:Core):List Bs:=(c.inputs.map fun p=>inN p.name)++c.datas.flatMap z6c++c.funs.flatMap dP
theorem any_mem {α:Type} [DecidableEq α] (x:α) (l:List α):(l.any fun y=>decide (y=x))=true↔x∈l:=by simp
instance (priority:=low) decMem {α:Type} [DecidableEq α] (x:α) (l:List α):Decidable (x∈l):=decidable_of_iff _ (any_mem x l)
def qJ {α:Type} [DecidableEq α] (l:List α):List α:=l.foldl (fun a x=>if x∈a then a else a++[x]) []
theorem cP {α:Type} [DecidableEq α] (l:List α) (x:α):qJ (l++[x])=if x∈qJ l then qJ l else qJ l++[x]:=by
 unfold qJ;rw [List.foldl_append];rfl
theorem q9e {α:Type} [DecidableEq α]:qJ ([]:List α)=[]:=rfl
theorem vO {α:Type} {p:List α->Prop} (a:p []) (h1:∀l x,p l->p (l++[x])) (l:List α):p l:=by
 have:∀l:List α,p l.reverse:=by
  intro l
  induction l with
  | nil=>exact a
  | cons x l b=>rw [List.reverse_cons];exact h1 _ _ b
 have h:=this l.reverse
 rwa [List.reverse_reverse] at h
theorem y6h {α:Type} [DecidableEq α] (l:List α):∀x,x∈qJ l↔x∈l:=by
 refine vO (p:=fun l=>∀x,x∈qJ l↔x∈l) (by simp [q9e]) (fun l y b x=>?_) l
 rw [cP]
 by_cases a:y∈qJ l
 ·rw [if_pos a,b,List.mem_append,List.mem_singleton]
  constructor
  ·exact .inl
  ·rintro (h | rfl)
   ·exact h
   ·exact (b _).1 a
 ·rw [if_neg a,List.mem_append,List.mem_append,b]
theorem aC {α:Type} [DecidableEq α] (l:List α):(qJ l).length<=l.length:=by
 refine vO (p:=fun l=>(qJ l).length<=l.length) (by simp [q9e]) (fun l y b=>?_) l
 rw [cP]
 by_cases a:y∈qJ l
 ·rw [if_pos a,laQ];omega
 ·rw [if_neg a,laQ,laQ];simp only [lcQ,lnQ];omega
mutual
def qY (f:Bs):Ex->List Bs
 | .mk k _ s args arms=>
  if k=2 then [vrN f s] else if k=3 then [inN s] else if k=5 then [s]
  else if k=6 then srcS f args
  else if k=8 then srcPs f args
  else if k=7 then srcH f args++srcPa f arms
  else []
def srcPs (f:Bs):List Ex->List Bs
 | []=>[]
 | x::l=>qY f x++srcPs f l
def srcH (f:Bs):List Ex->List Bs
 | []=>[]
 | x::_=>qY f x
def srcS (f:Bs):List Ex->List Bs
 | []=>[]
 | _::l=>srcH f l
def srcPa (f:Bs):List Arm->List Bs
 | []=>[]
 | .mk _ _ b::l=>qY f b++srcPa f l
end
def wY (f:Bs) (e:Ex):List Bs:=qJ (qY f e)
abbrev Flow:=Bs×Bs
def toP (f:Bs) (node:Bs) (e:Ex):List Flow:=(wY f e).map fun s=>(s,node)
def z5z (f s:Bs):Nat->List Ex->List Flow
 | _,[]=>[]
 | k,a::l=>toP f (kA s k) a++z5z f s (k+1) l
def cF (f s:Bs):List Param->List Ex->List Flow
 | p::ps,a::l=>toP f (vrN s p.name) a++cF f s ps l
 | _,_=>[]
def letF (f s:Bs):List Ex->List Flow
 | []=>[]
 | a::_=>toP f (vrN f s) a
def z3v (f s:Bs):Nat->List Bs->List Flow
 | _,[]=>[]
 | k,v::l=>(kA s k,vrN f v)::z3v f s (k+1) l
def uH (f:Bs) (l:List Arm):List Flow:=l.flatMap fun a=>z3v f a.con 0 a.vars
abbrev Pars:=List (Bs×List Param)
def wZ (pm:Pars) (f:Bs) (e:Ex):List Flow :=
 if e.kind=4 then z5z f e.name 0 e.args
 else if e.kind=5 then cF f e.name ((zK pm e.name).getD []) e.args
 else if e.kind=6 then letF f e.name e.args
 else if e.kind=7 then uH f e.arms
 else []
mutual
def jK (pm:Pars) (f:Bs):Ex->List Flow
 | .mk k n s args arms=>wZ pm f (.mk k n s args arms)++flowPs pm f args++flowPa pm f arms
def flowPs (pm:Pars) (f:Bs):List Ex->List Flow
 | []=>[]
 | x::l=>jK pm f x++flowPs pm f l
def flowPa (pm:Pars) (f:Bs):List Arm->List Flow
 | []=>[]
 | .mk _ _ b::l=>jK pm f b++flowPa pm f l
end
mutual
def nP (pm:Pars):Ex->Prop
 | .mk k _ s args arms=>(k=5->args.length<=((zK pm s).getD []).length)/\(k=6->args≠[])/\flowOks pm args/\flowOka pm arms
def flowOks (pm:Pars):List Ex->Prop
 | []=>True
 | x::l=>nP pm x/\flowOks pm l
def flowOka (pm:Pars):List Arm->Prop
 | []=>True
 | .mk _ _ b::l=>nP pm b/\flowOka pm l
end
def kQ (i:Param) (x:Bs):Nat->List Bs->List Flow
 | _,[]=>[]
 | k,t::l=>(if t=i.type then [(inN i.name,kA x k)] else [])++kQ i x (k+1) l
def tD (i:Param) (d:Data):List Flow:=if d.name=i.type then d.cons.flatMap fun x=>kQ i x.name 0 x.fields else []
def uQ (c:Core) (i:Param):List Flow:=c.datas.flatMap (tD i)
def yC (c:Core):Pars:=c.funs.foldl (fun m f=>jO m f.name f.params) []
def wO (pm:Pars) (f:Fun):List Flow:=toP f.name f.name f.body++jK pm f.name f.body
def xX (c:Core):List Flow:=c.inputs.flatMap (uQ c)++c.funs.flatMap (wO (yC c))
def zY (c:Core):List Flow:=qJ (xX c)
abbrev Next:=List (Bs×List Bs)
def uX (m:Next) (x:Flow):Next:=jO m x.1 ((zK m x.1).getD []++[x.2])
def qR (l:List Flow):Next:=l.foldl uX []
theorem tQ (l:List Flow) (x:Flow):qR (l++[x])=uX (qR l) x:=by simp [qR]
abbrev From:=List (Bs×Bs)
def mM (x:Bs):List Bs->From->List Bs->From×List Bs
 | [],o,q=>(o,q)
 | n::l,o,q=>if (zK o n).isSome then mM x l o q else mM x l (jO o n x) (q++[n])
def oH (nx:Next):Nat->Nat->From->List Bs->From
 | 0,_,o,_=>o
 | g+1,i,o,q=>match q[i]? with
  | none=>o
  | some x=>oH nx g (i+1) (mM x ((zK nx x).getD []) o q).1 (mM x ((zK nx x).getD []) o q).2
def xR (l:List Bs):From:=l.foldl (fun m s=>jO m s ⟨#[]⟩) []
theorem y1b (l:List Bs) (s:Bs):xR (l++[s])=jO (xR l) s ⟨#[]⟩:=by simp [xR]
def pF (nx:Next) (l:List Bs):Nat:=l.length+(nx.flatMap (·.2)).length
def yZ (nx:Next) (l:List Bs):From:=oH nx (pF nx l+1) 0 (xR l) l
def yA (c:Core):List Bs:=c.inputs.map fun p=>inN p.name
def xQ (ns:List Bs) (o:From):List Bs:=ns.filter fun n=>(zK o n).isSome
structure Graph where
 core:Core
 nodes:List Bs
 flows:List Flow
 next:Next
def nQ (c:Core):Graph:=⟨c,zG c,zY c,qR (zY c)⟩
def z1u (x:Flow):Value:=.agg #[.string x.1,.string x.2]
def z8h:Nat->List Flow->List MapEntry
 | _,[]=>[]
 | i,x::l=>{ key:=z1u x,val:=.bool true,born:=i }::z8h (i+1) l
def cD (l:List Flow):Array MapEntry:=(z8h 0 l).toArray
theorem q0l:∀(l:List Flow) (i:Nat) (x:Flow),z8h i (l++[x])=z8h i l++[{ key:=z1u x,val:=.bool true,born:=i+l.length }]
 | [],i,x=>by simp [z8h]
 | y::l,i,x=>by
  rw [List.cons_append,z8h,q0l l (i+1) x,z8h,List.cons_append,lcQ,show i+1+l.length=i+(l.length+1) by omega]
set_option maxRecDepth 20000 in
theorem y0i:∃a b,(prog.fieldsOf 95).toList=[a,b]/\(a.name ≠ "_" /\ a.type=9/\a.offset=0)/\(b.name ≠ "_" /\ b.type=9/\b.offset=1) :=
 ⟨_,_,rfl,⟨by decide,rfl,rfl⟩,by decide,rfl,rfl⟩
theorem z4s:prog.underlying 95=some (.struct (prog.fieldsOf 95)):=by kernel_rfl
theorem z3p:prog.underlying 9=some .string:=by kernel_rfl
theorem q0o {w:World} (l:List Value) (i:Nat) (v:Value) (h:l[i]? = some v):(part 9 (List.toArray l) i).run prog w=.ok v w:=by
 simp [part,isAgg,run_underlying z3p,h]
theorem eqFlow (w:World) (x y:Flow):(Op.equal 95 (z1u x) (z1u y)).run prog w=.ok (decide (x=y)) w:=by
 obtain ⟨s,u⟩:=x
 obtain ⟨s',u'⟩:=y
 obtain ⟨f,g,d,h1,b⟩:=y0i
 have a:=@q0o w
 unfold Op.equal z1u
 rw [show Op.maxDepth=9999+1 from rfl,run_equalIn_agg _ _ _ _ _ z4s (by kernel_rfl),d]
 simp only [Op.eqFields,h1.1,b.1,h1.2.1,h1.2.2,b.2.1,b.2.2,ne_eq,not_false_eq_true,if_true,Sem.run_bind,a [.string s,.string u] 0 _ rfl,a [.string s',.string u'] 0 _ rfl,a [.string s,.string u] 1 _ rfl,a [.string s',.string u'] 1 _ rfl,Result.andThen_ok,run_equalIn_string _ _ _ _ _ z3p,z0k]
 by_cases c:s=s'
 ·have e:=a [.string s',.string u] 1 _ rfl
  have q2:=a [.string s',.string u'] 1 _ rfl
  by_cases e2:u=u' <;> simp [c,e2,Prod.mk.injEq,Sem.run_ite,Sem.run_bind,e,q2,run_equalIn_string _ _ _ _ _ z3p,z0k,Result.andThen]
 ·simp [c]
theorem y9u (w:World) (e:Bool) (x:Flow):(Instr.checkKey e 10000 95 (z1u x)).run prog w=.ok () w:=by
 obtain ⟨b,c,d,h1,f⟩:=y0i
 have a:=@q0o w
 have h:∀(n:Nat) (v:Bs),(Instr.checkKey e (n+1) 9 (.string v)).run prog w=.ok () w:=fun n v=>by simp [Instr.checkKey,Sem.run_bind,run_underlying z3p]
 have g:prog.fieldsOf 95=#[b,c]:=by apply Array.ext';rw [d]
 unfold z1u
 rw [Instr.checkKey]
 simp only [Sem.run_bind,run_underlying z4s,Result.andThen_ok,g]
 simp [Sem.run_bind,h1,f,a [.string x.1,.string x.2] 0 _ rfl,a [.string x.1,.string x.2] 1 _ rfl,h 9998,Result.andThen]
theorem q0k (w:World) (x:Flow):∀(l:List Flow) (i j:Nat),∃r,(Instr.findAsking 95 (z1u x) (z8h i l) j).run prog w=.ok r w/\(r=none/\x∉l∨(∃q,r=some (q,.bool true))/\x∈l)
 | [],_,_=>⟨none,by simp [z8h,Instr.findAsking],.inl ⟨rfl,by simp⟩⟩
 | y::l,i,j=>by
  simp only [z8h,Instr.findAsking,Sem.run_bind,eqFlow,Result.andThen_ok]
  by_cases h:x=y
  ·exact ⟨some (j,.bool true),by simp [h],.inr ⟨⟨_,rfl⟩,by simp [h]⟩⟩
  ·obtain ⟨r,h1,a⟩:=q0k w x l (i+1) (j+1)
   refine ⟨r,by simpa [h] using h1,?_⟩
   simpa [h] using a
theorem x4t (x:Flow) (i:Nat):∀l:List Flow,Instr.findNow (.struct (prog.fieldsOf 95)) (z1u x) (z8h i l) 0=if l=[] then some none else none
 | []=>rfl
 | y::l=>by simp [z8h,Instr.findNow,Instr.sameNow]
theorem q7k (w:World) (x:Flow) (l:List Flow):∃r,(Instr.findKey 95 (z1u x) (cD l).toList).run prog w=.ok r w/\(r=none/\x∉l∨(∃q,r=some (q,.bool true))/\x∈l):=by
 simp only [Instr.findKey,Sem.run_bind,run_underlying z4s,Result.andThen_ok,cD,x4t]
 by_cases h:l=[]
 ·subst h;exact ⟨none,by simp,.inl ⟨rfl,by simp⟩⟩
 ·rw [if_neg h];exact q0k w x l 0 0
section
variable {n:Nat} {E:List (Nat×Value)} {D:List Deferred} {a:Act} {Φ:Fz} {K:List Res} {w:World}
variable {dst:Option Tmp} {ty:TypeId} {pos:String} {aft:Array Edge} {g:Option (Nat×Bool)}
variable {Kn:Value->World->Prop} {Qp:List PanicEntry->World->Prop}
theorem x3k (i:Nat) {x y:Operand} {b:Nat} {l:List Flow} {s:Flow} (J:EnvR n E D a) (N:Sees Φ K w) (f:ev E x=some (.map (some b))) (g:ev E y=some (z1u s)) (e:qU K i=some (.blk b (.map (cD l) l.length))) :
  Ok prog a (.lookup 136 x y false) ty w (.bool (decide (s∈l))):=fun _ _ _ _=>by
 have hb:w.heap[b]? = some (.map (cD l) l.length):=N.own _ (qV e)
 have h1:(getObj b).run prog w=.ok (.map (cD l) l.length) w:=by simp [getObj,Sem.run,hb]
 obtain ⟨r,d,c⟩:=q7k w s l
 simp only [execOp,J.ev f,J.ev g,Instr.lookup,Sem.run_bind,runUnderlying136,Result.andThen_ok,h1,Sem.run_pure,y9u,d]
 rcases c with ⟨rfl,c⟩ | ⟨⟨q,rfl⟩,c⟩
 ·simp [c,zeroValue4,Sem.run_bind,Result.andThen]
 ·simp [c,Result.andThen]
theorem q3s {t:TypeId} (N:Mem Φ K w) (k:∀b w',Mem Φ (.blk b (.map (cD []) ([]:List Flow).length)::K) w'->Kn (.map (some b)) w'):Oper.eff prog ⟨dst,.makeMap t none,ty,pos,aft,g⟩ a w Kn Qp:=by
 unfold Oper.eff
 have:(execOp a.eval ⟨dst,.makeMap t none,ty,pos,aft,g⟩).run prog w=.ok (.value (.map (some w.heap.size))) { w with heap:=w.heap.push (.map #[] 0) }:=by
  simp [execOp,Instr.makeMap]
 rw [this]
 refine k _ _ (N.more rfl rfl (fun b hb=>pO hb) (by simp [Res.sat,cD,z8h]) (by simp [Res.foot]))
theorem y4f {P:Program} (i:Nat) {t kt et:TypeId} {x y z:Operand} {b:Nat} {l:List Flow} {s:Flow} (m:(underlying t).run P w=.ok (.map kt et) w) (f:(Instr.checkKey false 10000 kt (z1u s)).run P w=.ok () w) (h:(Instr.findKey kt (z1u s) (cD l).toList).run P w=.ok none w)
  (J:EnvR n E D a) (N:Mem Φ K w) (p:ev E x=some (.map (some b))) (q:ev E y=some (z1u s)) (r:ev E z=some (.bool true)) (d:qU K i=some (.blk b (.map (cD l) l.length)))
  (k:∀w',Mem Φ (pT K i (.blk b (.map (cD (l++[s])) (l++[s]).length))) w'->Kn undef w'):Oper.eff P ⟨dst,.mapUpdate t x y z,ty,pos,aft,g⟩ a w Kn Qp:=by
 have hb:w.heap[b]? = some (.map (cD l) l.length):=N.own _ (qV d)
 have h1:(getObj b).run P w=.ok (.map (cD l) l.length) w:=by simp [getObj,Sem.run,hb]
 have c:∀o,(setObj b o).run P w=.ok () { w with heap:=w.heap.setIfInBounds b o }:=fun o=>by simp only [setObj,Sem.run,hb]
 unfold Oper.eff
 simp only [execOp,J.ev p,J.ev q,J.ev r,Instr.mapUpdate,Sem.run_bind,m,Result.andThen_ok,h1,f,h,c,Sem.run_pure,wG]
 refine k _ ?_
 have j:=N.putObj (o':=.map (cD (l++[s])) (l++[s]).length) d
 have e:(cD l).push { key:=z1u s,val:=.bool true,born:=l.length }=cD (l++[s]):=by
  apply Array.ext'
  simp [cD,q0l]
 rw [e]
 simpa [World.putObj] using j
theorem q7l {w:World} {x:Flow} {l:List Flow} (h:x∉l):(Instr.findKey 95 (z1u x) (cD l).toList).run prog w=.ok none w:=by
 obtain ⟨r,b,a⟩:=q7k w x l
 rcases a with ⟨rfl,a⟩ | ⟨⟨q,rfl⟩,a⟩
 ·exact b
 ·exact absurd a h
set_option maxRecDepth 20000 in
theorem y4e (i:Nat) {x y z:Operand} {b:Nat} {l:List Flow} {s:Flow} (J:EnvR n E D a) (N:Mem Φ K w) (d:ev E x=some (.map (some b))) (e:ev E y=some (z1u s)) (f:ev E z=some (.bool true)) (c:qU K i=some (.blk b (.map (cD l) l.length))) (O:s∉l)
  (k:∀w',Mem Φ (pT K i (.blk b (.map (cD (l++[s])) (l++[s]).length))) w'->Kn undef w'):Oper.eff prog ⟨dst,.mapUpdate 136 x y z,ty,pos,aft,g⟩ a w Kn Qp :=
 y4f i (runUnderlying136 w) (y9u w false s) (q7l O) J N d e f c k
end
end Go.Sw
