import Derived.Lib.AppendStr
import Derived.Lib.UnsafeStr
import Derived.Lib.MakeNoZero
import Derived.Test.YtgkhcfjooiekkaaGreatDoorX09
set_option linter.unusedVariables false
set_option linter.unusedSimpArgs false
namespace Go.Sw
open Go.Proofs Go.Proofs.Tryz
set_option maxRecDepth 20000
set_option maxHeartbeats 4000000
def xW (s:Bs):Nat:=1+yV yT s s.size 1
def z1l (s:Bs) (lo a:Nat):Bool :=
 if s.size < 1∨24 < s.size∨zH s 0 < lo∨a < zH s 0 then false
 else if xW s=s.size then true
 else if zH s (xW s)≠39∨xW s+1=s.size then false
 else decide (xW s+1+yV yC s s.size (xW s+1)=s.size)
def z4r (s:Bs):Bool:=z1l s 97 122 && !sH wordsL s
def conR (s:Bs):Bool:=z1l s 65 90
def kK:List Data->Bs->Option Data
 | [],_=>none
 | d::l,n=>if d.name=n then some d else kK l n
def yK (ds:List Data) (name:Bs):Option Data:=if name=kO then some truthsD else kK ds name
def aL:Data:=⟨sNo,[]⟩
def vL:List Con->Bs->Option Con
 | [],_=>none
 | x::l,n=>if x.name=n then some x else vL l n
def pM:List Data->Bs->Option Maker
 | [],_=>none
 | d::l,n=>match vL d.cons n with
  | some x=>some ⟨d.name,x⟩
  | none=>pM l n
def aH (ds:List Data) (name:Bs):Option Maker:=pM (truthsD::ds) name
def y1c:Con:=⟨sNo,[]⟩
def z1i:List Fun->Bs->Nat->Option Nat
 | [],_,_=>none
 | f::l,n,i=>if f.name=n then some i else z1i l n (i+1)
def mM (fs:List Fun) (name:Bs):Option Nat:=z1i fs name 0
def xF (fs:List Fun) (name:Bs):Int:=match mM fs name with | some i=>i | none=>-1
def xA (ds:List Data) (name:Bs):Bool:=(yK ds name).isSome || decide (name=yH)
def nP (name:Bs) (l:List Con):Bool:=l.any fun x=>x.fields.any fun s=> !decide (s=yH) && !decide (s=name)
def wW (name:Bs) (l:List Data):Bool:=l.any fun d=>decide (d.name=name)&&nP name d.cons
def kW (name:Bs) (l:List Data):Nat:=(l.filter fun d=>decide (d.name=name)).length
def xT (ds:List Data) (name:Bs):Bool :=
 if name=yH then true else !wW name ds&&(decide (kW name ds=1) && !decide (name=kO))
mutual
def xM:Ex->Nat->Nat
 | .mk _ _ _ args arms,most=>sizeAr arms most (sizeRs args most 1)
def sizeRs:List Ex->Nat->Nat->Nat
 | [],_,n=>n
 | e::es,most,n=>if n<=most then sizeRs es most (n+xM e (most - n)) else n
def sizeAr:List Arm->Nat->Nat->Nat
 | [],_,n=>n
 | .mk _ vs b::es,most,n=>if n<=most then (if 16 < vs.length then most+1 else sizeAr es most (n+xM b (most - n))) else n
end
theorem x9f (e:Ex) (most:Nat):xM e most=sizeAr e.arms most (sizeRs e.args most 1):=by cases e;rfl
theorem j1n (e:Ex) (es:List Ex) (most n:Nat):sizeRs (e::es) most n=if n<=most then sizeRs es most (n+xM e (most - n)) else n:=rfl
theorem z2z (a:Arm) (es:List Arm) (most n:Nat):sizeAr (a::es) most n=if n<=most then (if 16 < a.vars.length then most+1 else sizeAr es most (n+xM a.body (most - n))) else n:=by cases a;rfl
theorem z3a {es:List Ex} {most n:Nat} (h:¬n<=most):sizeRs es most n=n:=by cases es <;> simp [sizeRs,h]
theorem tG {es:List Arm} {most n:Nat} (h:¬n<=most):sizeAr es most n=n:=by
 cases es with
 | nil=>rfl
 | cons a es=>rw [z2z,if_neg h]
theorem y6r {l:List Ex} {i most n:Nat} (h:¬(i < l.length/\n<=most)):sizeRs (l.drop i) most n=n:=by
 by_cases a:i < l.length
 ·exact z3a (fun g=>h ⟨a,g⟩)
 ·rw [List.drop_of_length_le (by omega)];rfl
theorem y6q {l:List Arm} {i most n:Nat} (h:¬(i < l.length/\n<=most)):sizeAr (l.drop i) most n=n:=by
 by_cases a:i < l.length
 ·exact tG (fun g=>h ⟨a,g⟩)
 ·rw [List.drop_of_length_le (by omega)];rfl
mutual
theorem nI:∀(e:Ex) (most:Nat),1<=xM e most/\xM e most<=most+1
 | .mk _ _ _ args arms,most=>by
  have h1:=sizeRs_le args most 1 (by omega) (by omega)
  have a:=sizeAr_le arms most (sizeRs args most 1) h1.1 h1.2
  exact a
theorem sizeRs_le:∀(es:List Ex) (most n:Nat),1<=n->n<=most+1->1<=sizeRs es most n/\sizeRs es most n<=most+1
 | [],most,n,h,h'=>⟨h,h'⟩
 | e::es,most,n,h,h'=>by
  simp only [sizeRs]
  split
  ·have:=nI e (most - n)
   exact sizeRs_le es most _ (by omega) (by omega)
  ·exact ⟨h,h'⟩
theorem sizeAr_le:∀(es:List Arm) (most n:Nat),1<=n->n<=most+1->1<=sizeAr es most n/\sizeAr es most n<=most+1
 | [],most,n,h,h'=>⟨h,h'⟩
 | .mk _ vs b::es,most,n,h,h'=>by
  simp only [sizeAr]
  split
  ·split
   ·omega
   ·have:=nI b (most - n)
    exact sizeAr_le es most _ (by omega) (by omega)
  ·exact ⟨h,h'⟩
end
def gU (ps:List Param) (n:Bs):Option Bs:=ps.foldl (fun r p=>if p.name=n then some p.type else r) none
theorem z2i (ps:List Param) (p:Param) (n:Bs):gU (ps++[p]) n=if p.name=n then some p.type else gU ps n:=by simp [gU]
def z9f (ps:List Param) (n:Bs):Option Bs:=match ps with
 | []=>none
 | p::l=>if p.name=n then some p.type else z9f l n
def noT:Bs×Bool:=(sNo,false)
def opR (name:Bs):Option Bs :=
 if sH [⟨#[43]⟩,⟨#[45]⟩,⟨#[42]⟩,⟨#[47]⟩,⟨#[37]⟩] name=true then some yH
 else if name=⟨#[60]⟩∨name=⟨#[61]⟩ then some kO else none
def pG (c:Core) (kind:Int) (name:Bs):Option (List Bs×Bs) :=
 if kind=4 then (aH c.datas name).map fun m=>(m.con.fields,m.data)
 else if kind=5 then (match mM c.funs name with
  | none=>none
  | some i=>(c.funs[i]?).map fun f=>(f.params.map Param.type,f.result))
 else if kind=8 then (opR name).map fun t=>([yH,yH],t)
 else none
def jT (vs fs:List Bs):List Param:=(vs.zip fs).map fun x=>⟨x.1,x.2⟩
mutual
def zS (c:Core):Ex->List Param->Bs×Bool
 | .mk kind num name args arms,vars=>
  if (kind≠7/\0 < arms.length)∨(kind≠1/\num≠0) then noT
  else if kind=1 then (yH,decide (name=sNo)&&decide (args.length=0))
  else if kind=2 then (match gU vars name with | some t=>(t,decide (args.length=0)) | none=>noT)
  else if kind=3 then (match z9f c.inputs name with | some t=>(t,decide (args.length=0)) | none=>noT)
  else if kind=6 then letR c name args vars
  else if kind=7 then
   if args.length≠1∨name≠sNo then noT
   else if (firstR c args vars).2=false then noT
   else match yK c.datas (firstR c args vars).1 with
    | none=>noT
    | some d=>if d.cons.length≠arms.length then noT else armsR c arms d.cons true sNo vars
  else if (typesR c args vars).2=false then noT
  else match pG c kind name with
   | none=>noT
   | some w=>if w.1=(typesR c args vars).1 then (w.2,true) else noT
def letR (c:Core) (name:Bs):List Ex->List Param->Bs×Bool
 | [],_=>noT
 | a::l,vars=>if (zS c a vars).2=false∨l.length≠1 then noT else firstR c l (vars++[⟨name,(zS c a vars).1⟩])
def firstR (c:Core):List Ex->List Param->Bs×Bool
 | [],_=>noT
 | a::_,vars=>zS c a vars
def typesR (c:Core):List Ex->List Param->List Bs×Bool
 | [],_=>([],true)
 | e::es,vars=>if (zS c e vars).2=false then ([],false) else ((zS c e vars).1::(typesR c es vars).1,(typesR c es vars).2)
def armsR (c:Core):List Arm->List Con->Bool->Bs->List Param->Bs×Bool
 | [],_,_,out,_=>(out,true)
 | .mk con vs body::az,cs,first,out,vars=>
  if con≠(cs.headD y1c).name∨vs.length≠(cs.headD y1c).fields.length then noT
  else if (zS c body (vars++jT vs (cs.headD y1c).fields)).2=false∨(first=false/\(zS c body (vars++jT vs (cs.headD y1c).fields)).1≠out) then noT
  else armsR c az cs.tail false (zS c body (vars++jT vs (cs.headD y1c).fields)).1 vars
end
def z1g (ds:List Data):List Con->List Bs->Bool
 | [],_=>true
 | x::xs,seen=>conR x.name && !sH seen x.name&&x.fields.all (xA ds)&&z1g ds xs (seen++[x.name])
def dM (ds:List Data):List Data->List Bs->List Bs->Bool
 | [],_,_=>true
 | d::l,names,cons=>conR d.name && !sH names d.name&&decide (d.cons.length≠0)&&z1g ds d.cons cons&&dM ds l (names++[d.name]) (cons++d.cons.map Con.name)
def z3q (ds:List Data):Bool:=dM ds ds [yH,kO] [kR,nT]
def gV:List Fun->Nat->Bool
 | [],n=>decide (6000 < n)
 | f::fs,n=>if 16 < f.params.length then true else gV fs (if n<=6000 then n+xM f.body (6000 - n) else n)
def tC (c:Core):Bool :=
 decide (60 < c.datas.length) || decide (6 < c.inputs.length) || decide (300 < c.funs.length) || decide (6 < c.outputs.length) || c.datas.any hO || gV c.funs 0
def dH (l:List Bs):Bool:=mD z4r [] l
def wA (ds:List Data) (f:Fun):Bool:=f.params.all (fun p=>xA ds p.type)&&xA ds f.result&&dH (f.params.map Param.name++zP f.body)
def nB (c:Core) (f:Fun):Bool:=(zS c f.body f.params).2&&decide ((zS c f.body f.params).1=f.result)
def y2e (fs:List Fun) (o:Bs):Bool:=match mM fs o with
 | none=>false
 | some i=>match fs[i]? with | some f=>decide (f.params.length=0) | none=>false
def kN (c:Core):Bool :=
 z3q c.datas&&decide (c.outputs.length≠0)&&c.inputs.all (fun p=>xT c.datas p.type)&&dH (c.inputs.map Param.name) &&
 c.funs.all (wA c.datas)&&dH (c.funs.map Fun.name)&&dH c.outputs&&c.funs.all (nB c)&&c.outputs.all (y2e c.funs)
def jP (c:Core):Int:=if c.funs.any (fun f=>vB 250 f.body) then 6 else if tC c then 2 else if kN c then 0 else 80
mutual
def vY:Val->Nat->Nat
 | .mk _ _ args,most=>vsizeRs args most 1
def vsizeRs:List Val->Nat->Nat->Nat
 | [],_,n=>n
 | e::es,most,n=>if n<=most then vsizeRs es most (n+vY e (most - n)) else n
end
theorem x3m (v:Val) (most:Nat):vY v most=vsizeRs v.args most 1:=by cases v;rfl
theorem q6u (e:Val) (es:List Val) (most n:Nat):vsizeRs (e::es) most n=if n<=most then vsizeRs es most (n+vY e (most - n)) else n:=rfl
theorem z1a {es:List Val} {most n:Nat} (h:¬n<=most):vsizeRs es most n=n:=by cases es <;> simp [vsizeRs,h]
theorem y1m {l:List Val} {i most n:Nat} (h:¬(i < l.length/\n<=most)):vsizeRs (l.drop i) most n=n:=by
 by_cases a:i < l.length
 ·exact z1a (fun g=>h ⟨a,g⟩)
 ·rw [List.drop_of_length_le (by omega)];rfl
mutual
theorem z4g:∀(e:Val) (most:Nat),1<=vY e most/\vY e most<=most+1
 | .mk _ _ args,most=>vsizeRs_le args most 1 (by omega) (by omega)
theorem vsizeRs_le:∀(es:List Val) (most n:Nat),1<=n->n<=most+1->1<=vsizeRs es most n/\vsizeRs es most n<=most+1
 | [],most,n,h,h'=>⟨h,h'⟩
 | e::es,most,n,h,h'=>by
  simp only [vsizeRs]
  split
  ·have:=z4g e (most - n)
   exact vsizeRs_le es most _ (by omega) (by omega)
  ·exact ⟨h,h'⟩
end
def z0g (v:Val):Bool:=decide (4000 < vY v 4000)
mutual
def mG (ds:List Data):Val->Bs->Bool
 | .mk con num args,name=>
  if name=yH then decide (con=sNo)&&decide (args.length=0)
  else match yK ds name with
   | none=>false
   | some d=>if num≠0 then false else match vL d.cons con with
    | none=>false
    | some x=>decide (args.length=x.fields.length)&&isValsR ds args x.fields
def isValsR (ds:List Data):List Val->List Bs->Bool
 | [],_=>true
 | v::vs,fs=>mG ds v (fs.headD sNo)&&isValsR ds vs fs.tail
end
def aK (ds:List Data):List Named->List Param->Bool
 | [],_=>true
 | _::_,[]=>true
 | x::xs,p::ps=>decide (x.name=p.name) && !z0g x.value&&mG ds x.value p.type&&aK ds xs ps
def qV (c:Core) (l:List Named):Int :=
 if jP c≠0 then jP c else if l.length≠c.inputs.length then 8 else if aK c.datas l c.inputs then 0 else 8
mutual
theorem z1v:∀(e:Ex) (l:Int),(jB e l).1=false->((zY e).length:Int)<=l - (jB e l).2
 | .mk k n s args arms,l=>by
  intro h
  simp only [jB] at h ⊢
  split at h
  ·cases h
  ·rename_i hl
   rw [if_neg hl]
   cases N:meass args (l - 1) with
   | mk b q=>
    rw [N] at h
    cases b with
    | true=>cases h
    | false=>
     have a:=calledPs_len args (l - 1) (by rw [N])
     have d:=calledPa_len arms q h
     rw [N] at a
     simp only [zY,laQ] at a ⊢
     have i:(if k=5 then [s] else []).length<=1:=by split <;> simp
     omega
theorem calledPs_len:∀(es:List Ex) (l:Int),(meass es l).1=false->((calledPs es).length:Int)<=l - (meass es l).2
 | [],l=>by intro _;simp [calledPs,meass]
 | e::es,l=>by
  intro h
  simp only [meass] at h ⊢
  cases N:jB e l with
  | mk b q=>
   rw [N] at h
   cases b with
   | true=>cases h
   | false=>
    have a:=z1v e l (by rw [N])
    have d:=calledPs_len es q h
    rw [N] at a
    simp only [calledPs,laQ] at a ⊢
    omega
theorem calledPa_len:∀(es:List Arm) (l:Int),(measa es l).1=false->((calledPa es).length:Int)<=l - (measa es l).2
 | [],l=>by intro _;simp [calledPa,measa]
 | .mk c vs b::es,l=>by
  intro h
  simp only [measa] at h ⊢
  split at h
  ·cases h
  ·rename_i f
   rw [if_neg f]
   cases N:jB b l with
   | mk g q=>
    rw [N] at h
    cases g with
    | true=>cases h
    | false=>
     have a:=z1v b l (by rw [N])
     have d:=calledPa_len es q h
     rw [N] at a
     simp only [calledPa,laQ] at a ⊢
     omega
end
theorem oS {e:Ex} (h:pU e):(zY e).length<=6000:=by
 obtain ⟨l,h1,a⟩:=h
 have:=z1v e l a
 have:=(wC e l a).1
 omega
inductive Reach (T:Table) (s:Bs):Bs->Prop
 | refl:Reach T s s
 | step {x y:Bs}:Reach T s x->y∈jV T x->Reach T s y
def xP (T:Table) (n:Bs):Prop:=∃x,Reach T n x/\jA (aR T x)=true
theorem Reached.mem {T:Table} {n:Bs} {ds:List Bs} (h:Reached T [n] ds) {x:Bs} (a:Reach T n x):x∈ds:=by
 induction a with
 | refl=>exact h.starts n (by simp)
 | step _ b c=>exact h.closed _ c _ b
theorem Reached.reach {T:Table} {n:Bs} {ds:List Bs} (h:Reached T [n] ds) {x:Bs} (b:x∈ds):Reach T n x :=
 h.least (Reach T n) (by simp;exact .refl) (fun _ h1 _ a=>.step h1 a) x b
def kP (r:Nat->Ev Val) (fu:Nat):Except Nat (Val×Nat) :=
 if fu < 1 then .error 4 else match r (fu - 1) with
  | .ok v g=>if vX v then .error 7 else .ok (v,g)
  | _=>.error 4
theorem oH {r:Nat->Ev Val} {fu:Nat} (h:fu < 1):kP r fu=.error 4:=by simp [kP,h]
theorem z4m {r:Nat->Ev Val} {fu:Nat} (h:¬fu < 1) {v:Val} {g:Nat} (hr:r (fu - 1)=.ok v g) (hl:vX v=true):kP r fu=.error 7:=by simp [kP,h,hr,hl]
theorem z4y {r:Nat->Ev Val} {fu:Nat} (h:¬fu < 1) {v:Val} {g:Nat} (hr:r (fu - 1)=.ok v g) (hl:vX v=false):kP r fu=.ok (v,g):=by simp [kP,h,hr,hl]
theorem tN {r:Nat->Ev Val} {fu:Nat} (h:¬fu < 1) (hr:r (fu - 1)=.spent):kP r fu=.error 4:=by simp [kP,h,hr]
theorem q7s {r:Nat->Ev Val} {fu c:Nat} (h:kP r fu=.error c):c≠0:=by
 unfold kP at h
 split at h
 ·cases h;decide
 ·split at h
  ·split at h
   ·cases h;decide
   ·cases h
  ·cases h;decide
theorem outE {α ε:Type} {r:Except ε α} {x:α} {A:α->Prop} {B:ε->Prop} (h:r=.ok x) (a:A x):Out r A B:=by subst h;exact a
theorem outEE {α ε:Type} {r:Except ε α} {x:ε} {A:α->Prop} {B:ε->Prop} (h:r=.error x) (a:B x):Out r A B:=by subst h;exact a
open Classical in
noncomputable def yN (c:Core) (name:Bs) (args:List Val) (fuel:Int):Val×Int×Int :=
 if yR c≠0 then (v0,0,yR c)
 else if fuel < 0∨200000 < fuel then (v0,0,1)
 else match zJ (zE c).funs name with
  | none=>(v0,0,3)
  | some f=>
   if nC (zE c) args f.params=false then (v0,0,8)
   else if xP (zE c) name then (v0,0,8)
   else match kP (xC (yM ⟨(zE c).funs,[]⟩) f args) fuel.toNat with
    | .ok (v,g)=>(v,((fuel.toNat - g:Nat):Int),0)
    | .error e=>(v0,0,((e:Nat):Int))
def univ (c:Core) (n:Bs):List Bs:=n::c.funs.flatMap fun f=>zY f.body
theorem y4f {α β:Type} {f:α->List β} {M:Nat}:∀{l:List α},(∀x∈l,(f x).length<=M)->(l.flatMap f).length<=l.length * M
 | [],_=>by simp
 | x::l,h=>by
  have h1:=h x msQ
  have b:=y4f (l:=l) (fun y a=>h y (mcQ _ a))
  simp only [List.flatMap_cons,laQ,lcQ,Nat.add_mul];omega
theorem z0j {c:Core} (h:yR c=0):(∀x,(jV (zE c) x).length<=6000)/\(∀n x,∀y∈jV (zE c) x,y∈univ c n)/\∀n,(univ c n).length<=2000000:=by
 obtain ⟨hl,hr⟩:=vD h
 have d:wI c=true:=by simp only [qX,baQ] at hr;exact hr.1.1.1.1.1
 have e:c.funs.length<=300:=by
  simp only [vO,Bool.or_eq_false_iff,decide_eq_false_iff_not] at hl
  omega
 refine ⟨fun x=>?_,fun n x y b=>?_,fun n=>?_⟩
 ·unfold jV aR
  cases a:zJ (zE c).funs x with
  | none=>simp [ex0,zY,calledPs,calledPa]
  | some f=>exact oS (nF hl (cC d a))
 ·unfold jV aR at b
  cases a:zJ (zE c).funs x with
  | none=>rw [a] at b;simp [ex0,zY,calledPs,calledPa] at b
  | some f=>
   rw [a] at b
   exact mcQ _ (List.mem_flatMap.2 ⟨f,cC d a,b⟩)
 ·have:=y4f (l:=c.funs) (f:=fun f=>zY f.body) (M:=6000) (fun f a=>oS (nF hl a))
  simp only [univ,lcQ]
  have:c.funs.length * 6000<=300 * 6000:=Nat.mul_le_mul_right _ e
  omega
structure RNo (T:Table) (es:Array MapEntry) (seen:Array Nat):Prop where
 no:∀e∈es.toList,e∈vZ es seen∨∃s,e.key=.string s/\jA (aR T s)=false
theorem RNo.start {T:Table} {es:Array MapEntry}:RNo T es #[]:=⟨fun e h=>.inl (by rw [z9k];exact h)⟩
theorem RNo.next {T:Table} {es:Array MapEntry} {seen:Array Nat} {clock:Nat} {m:List (Bs×Value)} {e:MapEntry} {s:Bs} (h:RNo T es seen) (a:MapOk es clock m) (J:e∈vZ es seen) (d:e.key=.string s) (hr:jA (aR T s)=false):RNo T es (seen.push e.born) :=
 ⟨fun x c=>by
  rcases h.no x c with h1 | h1
  ·by_cases hb:x.born=e.born
   ·have b:=find_born x es.toList a.nodup c
    have a2:=find_born e es.toList a.nodup (leftE_mem.1 J).1
    rw [hb] at b;rw [b] at a2
    have:=Option.some.inj a2
    subst this
    exact .inr ⟨s,d,hr⟩
   ·exact .inl (leftE_push.2 ⟨h1,hb⟩)
  ·exact .inr h1⟩
theorem RNo.none {T:Table} {n:Bs} {ds:List Bs} {es:Array MapEntry} {seen:Array Nat} {clock:Nat} (h:RNo T es seen) (b:MapOk es clock (jO ds)) (f:Reached T [n] ds) (hl:vZ es seen=[]):¬xP T n:=by
 rintro ⟨x,h1,d⟩
 obtain ⟨v,i⟩:=(z0u ds x).2 (f.mem h1)
 obtain ⟨e,J,g⟩:=q1u b i
 rcases h.no e J with a | ⟨s,a,c⟩
 ·rw [hl] at a;cases a
 ·rw [g] at a;cases a;rw [d] at c;cases c
theorem q2l {T:Table} {n s:Bs} {v:Value} {ds:List Bs} (a:Reached T [n] ds) (N:(s,v)∈jO ds) (hr:jA (aR T s)=true):xP T n :=
 ⟨s,a.reach ((z0u ds s).1 ⟨v,N⟩),hr⟩
theorem y6h {V:Fz} {K:List Res} {w:World} {d0:List Value} {v1:Value} {c:Core} {l:List Named} {fuel:Int} (k:RCore V d0 c) (rl:SliceOf RNamed V 4 v1 l) (G:Glob V) (N:Mem V K w) :
  Calls prog 15 #[.agg d0.toArray,v1,.int .i64 fuel] w (fun ee w'=>∃y:Fz×List Value,ee=.returned (.tuple #[.agg y.2.toArray,.int .i64 (sV c l fuel).2])/\(V.Le y.1/\ROutcome y.1 y.2 (sV c l fuel).1/\∀v s,y.2=[v,s]->NewRow V v)/\Mem y.1 K w'):=by
 obtain ⟨p3,c4,p9,X0,i1,Y0,j1,c22,rfl,h2,h8,Z0,b1,g1,h1,C0,G0,D0,H0,E0,I0⟩:=RCore.fm k
 obtain ⟨p1,c1,rfl,f1,r0⟩:=rl.fm
 refine zK func15 ntmps15 fun Q hQ a J=>?_
 refine Bx fun N0 w N a J=>?_
 refine Bx fun O0 w N a J=>?_
 refine Alc fun P0 w N a J=>?_
 refine yP call43 (fun t0 w c0 N a J=>?_) (c:=q5x k G N)
 obtain ⟨h,k1⟩:=t0
 obtain ⟨d,F⟩:=c0
 simp only at d F N J
 replace k:=k.up d
 replace G:=G.mono d
 replace rl:=rl.up d
 replace N:=N.nf
 by_cases b:yR c=0
 obtain ⟨r,h0⟩:=F b
 rw [if_pos b,b] at J
 refine Alc fun Q0 w N a J=>?_
 refine Sto 0 fun w N a J=>?_
 refine Qq (fun a J=>?_) (o:=by exact fun J O=>sS false J rfl rfl rfl)
 by_cases P:fuel < 0
 refine zX fun a J=>?_
 refine Sto 1 fun w N a J=>?_
 refine go fun a J=>?_
 have f:=N
 replace N:=N.dl [3,2,1,0]
 refine hQ _ _ _ (xV (i:=1) (cs:=[.slice none 0 0,.int .i64 ((0:Nat):Int)]) J f.toSees results15 rfl rfl isAgg30 sizeOf30 rfl rfl ?_)
 have hr_:sV c l (fuel)=(tP,1):=by
  simp only [sV,if_neg (not_not_intro b)];rw [if_pos (by have h_:=P;omega)] <;> rfl
 rw [hr_]
 exact ⟨(h,_),rfl,⟨d,⟨_,rfl,SliceOf.nil 4⟩,fun _ _ z=>by cases z;exact NewRow.nil⟩,N⟩
 by_cases S:200000 < fuel
 refine zX fun a J=>?_
 refine Sto 1 fun w N a J=>?_
 refine go fun a J=>?_
 have f:=N
 replace N:=N.dl [3,2,1,0]
 refine hQ _ _ _ (xV (i:=1) (cs:=[.slice none 0 0,.int .i64 ((0:Nat):Int)]) J f.toSees results15 rfl rfl isAgg30 sizeOf30 rfl rfl ?_)
 have hr_:sV c l (fuel)=(tP,1):=by
  simp only [sV,if_neg (not_not_intro b)];rw [if_pos (by have h_:=S;omega)] <;> rfl
 rw [hr_]
 exact ⟨(h,_),rfl,⟨d,⟨_,rfl,SliceOf.nil 4⟩,fun _ _ z=>by cases z;exact NewRow.nil⟩,N⟩
 refine zZ call44 (fun C w N a J=>?_) (fun C w N a J=>?_) (c:=x6w r rl N)
 refine go fun a J=>?_
 have D:kL (zE c) l c.inputs=true:=C
 have z0:fuel<=200000:=by have h_:=S;omega
 have g0:0<=fuel:=by have h_:=P;omega
 have L:=N
 have H:=J
 clear N J
 obtain ⟨fu,rfl⟩:=Int.eq_ofNat_of_zero_le g0
 have N:=L
 have J:=H
 clear L H
 refine Alc fun R0 w N a J=>?_
 refine Alc fun S0 w N a J=>?_
 refine Alc fun T0 w N a J=>?_
 refine MkM fun X w N a J=>?_
 refine Alc fun U0 w N a J=>?_
 refine Sto 0 fun w N a J=>?_
 refine go fun a J=>?_
 refine zU (J.ks [3,5,6,8,10,11,12,13,41,42]) N (fun R mm a w=>∃(i:Nat) (mv:List (Bs×Value)) (lv:List (Bs×Val)),mm=l.length - i/\R h [(43,.int .i64 ((i:Nat):Int))] [(1,.mp X mv)] a w/\(y2b l=(l.drop i).foldl (fun m x=>pD m x.name x.value) lv/\MapRel (RVa RVal h) mv lv)) (l.length - 0) ⟨0,[],[],rfl,⟨J.pk,N⟩,⟨rfl,MapRel.nil⟩⟩ ?_
 clear N J
 rintro mm a w ⟨i,mv,lv,q0,⟨J,N⟩,q⟩ M0 f0
 replace N:=N.nf
 obtain ⟨q,rv⟩:=q
 by_cases a0:i < l.length
 refine go fun a J=>?_
 obtain ⟨l1,rfl,A,j0,x0,B0,y0,i0⟩:=rl.el r0 a0
 obtain ⟨V0,rfl,b0⟩:=id i0
 obtain ⟨s0,o0,rfl,A0,e1,F0,J0⟩:=RVal.fm b0
 refine Alc fun W0 w N a J=>?_
 refine Sto 0 fun w N a J=>?_
 refine z5z 2 runUnderlying94 runUnderlying9 fun w N a J=>?_
 refine go fun a J=>?_
 replace N:=N.dl [0]
 refine f0 _ _ _ (by subst q0;omega) ⟨(i+1),((cI mv A.name (.agg #[.string A.value.con,.int .i64 (A.value.num),.slice s0 A.value.args.length o0]))),((pD lv A.name A.value)),rfl,⟨J.pk,N⟩,?_⟩
 refine ⟨?_,(rv.put ⟨_,rfl,b0⟩)⟩
 rw [q,zA j0];rfl
 refine go fun a J=>?_
 have I:=N
 clear N
 obtain ⟨M,g,N,T⟩:=I.freezeMap (i:=1) rfl
 clear I
 replace k:=k.up g
 replace G:=G.mono g
 replace r:=r.mono g
 replace rv:=rv.up g
 replace N:=N.nf
 have W:RGiven M (.map (some X)) (y2b l):=by
  have z:y2b l=lv:=by rw [q,zB a0];rfl
  rw [z];exact .inl ⟨_,_,rfl,T,rv⟩
 replace N:=N.nf
 refine go fun a J=>?_
 replace N:=N.ar [] [3,2,3,6,4,5,7]
 refine st J rfl rfl rfl (jQ J rfl call45 (j6a (inp:=y2b l) k r W (z4b b) (q1z b) (by omega) (run_ns b D fu) N) (fun U u0 w u e0 N a J=>?_) (fun U w u N a J=>?_))
 obtain ⟨E,Z⟩:=U
 obtain ⟨l0,m1,B,L0⟩:=u0
 obtain ⟨p,n,t,j,e⟩:=e0
 simp only at p n t j e N J
 replace e:=e.anti ((d).trans g)
 obtain ⟨k0,Y,rfl,m0,n0⟩:=j.fm
 replace k:=k.up p
 replace G:=G.mono p
 replace W:=RGiven.mono p W
 replace N:=N.nf
 refine Qq (fun a J=>?_) (o:=by exact fun J O=>sS false J rfl rfl rfl)
 replace N:=N.pl 1
 refine zO call47 (fun w N a J=>?_) (c:=y7d (l:=B) (by have h_:=t;omega) N)
 refine Sto 2 fun w N a J=>?_
 refine Sto 3 fun w N a J=>?_
 refine go fun a J=>?_
 have f:=N
 replace N:=N.dl [3,2,1,0]
 refine hQ _ _ _ (xV (i:=3) (cs:=[.slice k0 (jN c.outputs E).length Y,.int .i64 ((gY B))]) J f.toSees results15 rfl rfl isAgg30 sizeOf30 rfl rfl ?_)
 have hr_:sV c l (((fu:Nat):Int))=(⟨jN c.outputs E,((fu - Z:Nat):Int)⟩,((0:Nat):Int)):=by
  simp only [sV,if_neg (not_not_intro b)]
  rw [if_neg (by omega),if_neg (by rw [D];decide),Int.toNat_natCast,u] <;> rfl
 rw [hr_]
 exact ⟨(l0,_),rfl,⟨((d).trans g).trans p,⟨_,by rw [show (⟨jN c.outputs E,((fu - Z:Nat):Int)⟩:Outcome).steps=gY B from n.symm],j⟩,fun _ _ z=>by cases z;exact e⟩,N⟩
 have p0:=x5g u
 replace N:=N.nf
 refine zX fun a J=>?_
 refine Sto 0 fun w N a J=>?_
 refine go fun a J=>?_
 have f:=N
 replace N:=N.dl [0]
 refine hQ _ _ _ (xV (i:=0) (cs:=[.slice none 0 0,.int .i64 ((0:Nat):Int)]) J f.toSees results15 rfl rfl isAgg30 sizeOf30 rfl rfl ?_)
 have hr_:sV c l (((fu:Nat):Int))=(tP,((U:Nat):Int)):=by
  simp only [sV,if_neg (not_not_intro b)]
  rw [if_neg (by omega),if_neg (by rw [D];decide),Int.toNat_natCast,u] <;> rfl
 rw [hr_]
 exact ⟨(M,_),rfl,⟨(d).trans g,⟨_,rfl,SliceOf.nil 4⟩,fun _ _ z=>by cases z;exact NewRow.nil⟩,N⟩
 refine zX fun a J=>?_
 refine Sto 1 fun w N a J=>?_
 refine go fun a J=>?_
 have f:=N
 replace N:=N.dl [3,2,1,0]
 refine hQ _ _ _ (xV (i:=1) (cs:=[.slice none 0 0,.int .i64 ((0:Nat):Int)]) J f.toSees results15 rfl rfl isAgg30 sizeOf30 rfl rfl ?_)
 have hr_:sV c l (fuel)=(tP,8):=by
  simp only [sV,if_neg (not_not_intro b)];rw [if_neg (by have a1:=S;have d1:=P;omega),if_pos (show kL (zE c) l c.inputs=false from C)] <;> rfl
 rw [hr_]
 exact ⟨(h,_),rfl,⟨d,⟨_,rfl,SliceOf.nil 4⟩,fun _ _ z=>by cases z;exact NewRow.nil⟩,N⟩
 rw [if_neg b] at J
 refine Alc fun w0 w N a J=>?_
 refine Sto 0 fun w N a J=>?_
 refine zX fun a J=>?_
 refine Sto 1 fun w N a J=>?_
 refine go fun a J=>?_
 have f:=N
 replace N:=N.dl [3,2,1,0]
 refine hQ _ _ _ (xV (i:=1) (cs:=[.slice none 0 0,.int .i64 ((0:Nat):Int)]) J f.toSees results15 rfl rfl isAgg30 sizeOf30 rfl rfl ?_)
 have hr_:sV c l (fuel)=(tP,yR c):=by
  simp only [sV,if_pos b]
 rw [hr_]
 exact ⟨(h,_),rfl,⟨d,⟨_,rfl,SliceOf.nil 4⟩,fun _ _ z=>by cases z;exact NewRow.nil⟩,N⟩
theorem z4e {V:Fz} {K:List Res} {w:World} {d0:List Value} {b:Value} {c:Core} {l:List Named} {fuel:Int} (a:RCore V d0 c) (rl:SliceOf RNamed V 4 b l) (G:Glob V) (N:Mem V K w) :
  Calls prog 15 #[.agg d0.toArray,b,.int .i64 fuel] w (fun ee w'=>∃y:Fz×List Value,ee=.returned (.tuple #[.agg y.2.toArray,.int .i64 (sV c l fuel).2])/\(V.Le y.1/\ROutcome y.1 y.2 (sV c l fuel).1)/\Mem y.1 K w'):=by
 refine (y6h a rl G N).mono fun ee w' h=>?_
 obtain ⟨y,h1,⟨d,e,_⟩,f⟩:=h
 exact ⟨y,h1,⟨d,e⟩,f⟩
theorem q7w {V:Fz} {K:List Res} {w:World} {d:List Value} {e:Ex} {b:Nat} {ds:List Bs} (re:REx V d e) (M:∀x:Ex,x.sz < e.sz->∀{V:Fz} {K:List Res} {w:World} {d:List Value} {b:Nat} {ds:List Bs},REx V d x->Mem V (.mp b (jO ds)::K) w->Calls prog 93 #[.agg d.toArray,.map (some b)] w (fun ee w'=>ee=.returned (.tuple #[])/\Mem V (.mp b (jO (ds++zY x))::K) w')) (N:Mem V (.mp b (jO ds)::K) w) :
  Calls prog 93 #[.agg d.toArray,.map (some b)] w (fun ee w'=>ee=.returned (.tuple #[])/\Mem V (.mp b (jO (ds++zY e))::K) w'):=by
 obtain ⟨p3,c4,p9,m1,rfl,H0,h2,h8,u1,H,M0,q⟩:=REx.fm re
 refine zK func93 ntmps93 fun Q hQ a J=>?_
 refine Bx fun i1 w N a J=>?_
 by_cases p1:e.kind=5
 refine z5z 1 runUnderlying121 runUnderlying9 fun w N a J=>?_
 rw [<- z0v] at N
 refine go fun a J=>?_
 refine zU (J.ks [1,2,15,16]) N (fun R mm a w=>∃(i:Nat) (d1:List Bs),mm=e.args.length - i/\R V [(17,.int .i64 ((i:Nat):Int))] [(1,.mp b (jO d1))] a w/\(ds++zY e=d1++(calledPs (e.args.drop i)++calledPa e.arms))) (e.args.length - 0) ⟨0,(ds++[e.name]),rfl,⟨J.pk,N⟩,by rw [mW];simp [*]⟩ ?_
 clear N J
 rintro mm a w ⟨i,d1,f,⟨J,N⟩,n⟩ f1 E
 replace N:=N.nf
 by_cases A:i < e.args.length
 refine go fun a J=>?_
 obtain ⟨A1,rfl,l0,s,x0,K0,F0,r⟩:=h2.el H A
 obtain ⟨v1,c38,w1,n1,rfl,I0,q1,r1,N0,S0,O0,T0⟩:=REx.fm r
 refine Alc fun j1 w N a J=>?_
 refine Sto 0 fun w N a J=>?_
 replace N:=N.pl 2
 refine zO call93 (fun w N a J=>?_) (c:=M _ (Ex.lt_args (mgQ s)) r N)
 refine go fun a J=>?_
 replace N:=N.ar [1] [1]
 refine E _ _ _ (by subst f;omega) ⟨(i+1),((d1++zY l0)),rfl,⟨J.pk,N⟩,?_⟩
 rw [n,zA s];simp [calledPs]
 refine go fun a J=>?_
 refine zU (J.ks [1,26,27]) N (fun R mm a w=>∃(k:Nat) (d2:List Bs),mm=e.arms.length - k/\R V [(28,.int .i64 ((k:Nat):Int))] [(1,.mp b (jO d2))] a w/\(ds++zY e=d2++calledPa (e.arms.drop k))) (e.arms.length - 0) ⟨0,d1,rfl,⟨J.pk,N⟩,by rw [n,zB A];simp [calledPs]⟩ ?_
 clear N J
 rintro mm a w ⟨k,d2,f,⟨J,N⟩,o⟩ g1 F
 replace N:=N.nf
 by_cases B:k < e.arms.length
 refine go fun a J=>?_
 obtain ⟨B1,rfl,m0,t,y0,L0,G0,I⟩:=h8.el q B
 obtain ⟨D1,k1,rfl,T,C⟩:=RArm.iff.1 I
 obtain ⟨x1,c68,rfl,P0,U0⟩:=T.fm
 obtain ⟨y1,c76,z1,o1,rfl,J0,s1,t1,Q0,V0,R0,W0⟩:=REx.fm C
 refine Alc fun l1 w N a J=>?_
 refine Sto 0 fun w N a J=>?_
 replace N:=N.pl 2
 refine zO call93 (fun w N a J=>?_) (c:=M _ (Ex.lt_arms (mgQ t)) C N)
 refine go fun a J=>?_
 replace N:=N.ar [1] [1]
 refine F _ _ _ (by subst f;omega) ⟨(k+1),((d2++zY m0.body)),rfl,⟨J.pk,N⟩,?_⟩
 rw [o,zA t,mA];simp
 refine go fun a J=>?_
 replace N:=N.dl [0]
 refine hQ _ _ _ (dE J results93 ?_)
 rw [show ds++zY e=d2 by rw [o,zB B];simp [calledPa]]
 exact ⟨rfl,N⟩
 refine go fun a J=>?_
 refine zU (J.ks [1,2,15,16]) N (fun R mm a w=>∃(i:Nat) (d1:List Bs),mm=e.args.length - i/\R V [(17,.int .i64 ((i:Nat):Int))] [(1,.mp b (jO d1))] a w/\(ds++zY e=d1++(calledPs (e.args.drop i)++calledPa e.arms))) (e.args.length - 0) ⟨0,ds,rfl,⟨J.pk,N⟩,by rw [mW];simp [*]⟩ ?_
 clear N J
 rintro mm a w ⟨i,d1,f,⟨J,N⟩,p⟩ h1 G
 replace N:=N.nf
 by_cases D:i < e.args.length
 refine go fun a J=>?_
 obtain ⟨C1,rfl,n0,u,P,Z,U,h⟩:=h2.el H D
 obtain ⟨X0,s0,Y0,t0,rfl,X,z0,A0,b0,g0,c0,h0⟩:=REx.fm h
 refine Alc fun p0 w N a J=>?_
 refine Sto 0 fun w N a J=>?_
 replace N:=N.pl 2
 refine zO call93 (fun w N a J=>?_) (c:=M _ (Ex.lt_args (mgQ u)) h N)
 refine go fun a J=>?_
 replace N:=N.ar [1] [1]
 refine G _ _ _ (by subst f;omega) ⟨(i+1),((d1++zY n0)),rfl,⟨J.pk,N⟩,?_⟩
 rw [p,zA u];simp [calledPs]
 refine go fun a J=>?_
 refine zU (J.ks [1,26,27]) N (fun R mm a w=>∃(k:Nat) (d2:List Bs),mm=e.arms.length - k/\R V [(28,.int .i64 ((k:Nat):Int))] [(1,.mp b (jO d2))] a w/\(ds++zY e=d2++calledPa (e.arms.drop k))) (e.arms.length - 0) ⟨0,d1,rfl,⟨J.pk,N⟩,by rw [p,zB D];simp [calledPs]⟩ ?_
 clear N J
 rintro mm a w ⟨k,d2,f,⟨J,N⟩,g⟩ o0 v
 replace N:=N.nf
 by_cases l:k < e.arms.length
 refine go fun a J=>?_
 obtain ⟨c1,rfl,L,j,S,a0,W,y⟩:=h8.el q l
 obtain ⟨e1,q0,rfl,z,m⟩:=RArm.iff.1 y
 obtain ⟨Z0,u0,rfl,d0,i0⟩:=z.fm
 obtain ⟨a1,c145,b1,w0,rfl,Y,B0,C0,e0,j0,f0,k0⟩:=REx.fm m
 refine Alc fun r0 w N a J=>?_
 refine Sto 0 fun w N a J=>?_
 replace N:=N.pl 2
 refine zO call93 (fun w N a J=>?_) (c:=M _ (Ex.lt_arms (mgQ j)) m N)
 refine go fun a J=>?_
 replace N:=N.ar [1] [1]
 refine v _ _ _ (by subst f;omega) ⟨(k+1),((d2++zY L.body)),rfl,⟨J.pk,N⟩,?_⟩
 rw [g,zA j,mA];simp
 refine go fun a J=>?_
 replace N:=N.dl [0]
 refine hQ _ _ _ (dE J results93 ?_)
 rw [show ds++zY e=d2 by rw [g,zB l];simp [calledPa]]
 exact ⟨rfl,N⟩
theorem q0h {V:Fz} {K:List Res} {w:World} {d:List Value} {e:Ex} {b:Nat} {ds:List Bs} (re:REx V d e) (N:Mem V (.mp b (jO ds)::K) w) :
  Calls prog 93 #[.agg d.toArray,.map (some b)] w (fun ee w'=>ee=.returned (.tuple #[])/\Mem V (.mp b (jO (ds++zY e))::K) w'):=by
 suffices H:∀n (e:Ex),e.sz < n->∀{V:Fz} {K:List Res} {w:World} {d:List Value} {b:Nat} {ds:List Bs},REx V d e->Mem V (.mp b (jO ds)::K) w ->
   Calls prog 93 #[.agg d.toArray,.map (some b)] w (fun ee w'=>ee=.returned (.tuple #[])/\Mem V (.mp b (jO (ds++zY e))::K) w') from H _ e (Nat.lt_succ_self _) re N
 intro n
 induction n with
 | zero=>intro e h;omega
 | succ n a=>intro e h V K w d b ds re N;exact q7w re (fun x c _ _ _ _ _ _ r m=>a x (by omega) r m) N
theorem j1d {V:Fz} {K:List Res} {w:World} {p:Addr} {T:Table} {b off cap:Nat} {arr:Array Value} {start U:List Bs} (rT:RTableW V p T) (hq:QAt off cap arr start) (hl:start.length<=1000) (hU:∀x∈start,x∈U) (D1:U.length<=2000000) (hM:∀x,(jV T x).length<=6000) (hC:∀x,∀y∈jV T x,y∈U) (N:Mem V (qblk b arr::K) w) :
  Calls prog 62 #[.pointer (some p),qval b off cap start] w (fun ee w'=>∃y:Nat×List Bs,ee=.returned (.map (some y.1))/\Reached T start y.2/\Mem V (.mp y.1 (jO y.2)::K) w'):=by
 obtain ⟨z1,z2,z3,z4,m5,m6,m7,m8,d9,Y0,r0,m0,n0⟩:=rT.ex
 obtain ⟨E1,x1,rfl,Z0,k1⟩:=r0.fm
 refine zK func62 ntmps62 fun Q hQ a J=>?_
 refine MkM fun z0 w N a J=>?_
 replace N:=N.nf
 refine go fun a J=>?_
 refine zU (J.ks [0,5]) N (fun R mm a w=>∃(qb:Nat) (qo:Nat) (qc:Nat) (qa:Array Value) (l:List Bs) (ds:List Bs),mm=muR U ds l/\R V [(1,qval qb qo qc l)] [(0,.mp z0 (jO ds)),(1,qblk qb qa)] a w/\(QAt qo qc qa l/\RInv T U start ds l)) (muR U [] start) ⟨b,off,cap,arr,start,[],rfl,⟨J.pk,N⟩,⟨hq,RInv.start hU hl⟩⟩ ?_
 clear N J
 rintro mm a w ⟨qb,qo,qc,qa,l,ds,D,⟨J,N⟩,E0⟩ t1 W
 replace N:=N.nf
 obtain ⟨u0,k⟩:=E0
 by_cases q0:0 < l.length
 obtain ⟨g,m⟩:=qR q0
 refine Qq (fun a J=>?_) (o:=by exact fun J O=>v0e 1 J O u0 rfl rfl m isAgg9)
 have a0:=u0.tail q0
 refine Qq (fun a J=>?_) (o:=by exact fun J O=>y0a J u0 rfl rfl runUnderlying25 sizeOf9 q0)
 refine go fun a J=>?_
 rcases I:yY ((jO ds)) g with _ | q1
 have B:=congrArg (zN false (.bool false)) I
 refine Qq (fun a J=>?_) (o:=by exact fun J O=>Ok.cast (qP 0 runUnderlying121 runUnderlying9 zeroValue4 J O rfl rfl rfl) (show zN false (.bool false) (yY ((jO ds)) g)=.bool false from B))
 have P:=z7n I
 refine z5z 0 runUnderlying121 runUnderlying9 fun w N a J=>?_
 rw [<- z0v] at N
 refine MkM fun A0 w N a J=>?_
 refine go fun a J=>?_
 replace N:=N.nf
 refine go fun a J=>?_
 rcases L:yY (d9) g with _ | r1
 have C:=congrArg (zN false (.agg #[.string ⟨#[]⟩,.slice none 0 0,.string ⟨#[]⟩,.int .i64 ((0:Nat):Int),.int .i64 ((0:Nat):Int),.string ⟨#[]⟩,.slice none 0 0,.slice none 0 0])) L
 refine Qq (fun a J=>?_) (o:=by exact fun J O=>Ok.cast (yB runUnderlying103 runUnderlying9 zeroValue68 J O rfl rfl m0) (show zN false (.agg #[.string ⟨#[]⟩,.slice none 0 0,.string ⟨#[]⟩,.int .i64 ((0:Nat):Int),.int .i64 ((0:Nat):Int),.string ⟨#[]⟩,.slice none 0 0,.slice none 0 0]) (yY (d9) g)=.agg #[.string ⟨#[]⟩,.slice none 0 0,.string ⟨#[]⟩,.int .i64 ((0:Nat):Int),.int .i64 ((0:Nat):Int),.string ⟨#[]⟩,.slice none 0 0,.slice none 0 0] from C))
 refine Qq (fun a J=>?_) (o:=by exact fun J O=>z7z 3 (vs:=[.int .i64 ((0:Nat):Int),.int .i64 ((0:Nat):Int),.string ⟨#[]⟩,.slice none 0 0,.slice none 0 0]) runUnderlying68 rfl isAgg66 sizeOf66 J rfl rfl rfl)
 refine zO call93 (fun w N a J=>?_) (c:=q0h (ds:=[]) rex0 N)
 refine go fun a J=>?_
 have z:jV T g=([]++zY ex0):=by unfold jV;rw [z0c (MapRel.none n0 L)];rfl
 rw [<- z] at N
 clear z
 refine go fun a J=>?_
 refine st J rfl rfl rfl (z8w 0 runUnderlying121 J N rfl rfl fun c1 G i0 w d N a J=>?_)
 refine go fun a J=>?_
 refine zU (J.ks [0,5,34]) N (fun R mm a w=>∃(seen:Array Nat) (r:Nat) (u:Nat) (t:Nat) (q:Array Value) (F:List Bs),mm=(vZ G seen).length/\R V [(1,qval r u t F)] [(0,.blk c1 (.mapIter (some A0) i0 seen i0)),(3,qblk r q)] a w/\(QAt u t q F/\RIn T g (l.drop 1) G seen F)) ((vZ G #[]).length) ⟨#[],qb,(y6a qo qc),(qc - 1),qa,(l.drop 1),rfl,⟨J.pk,N⟩,⟨a0,RIn.start⟩⟩ ?_
 clear N J
 rintro mm a w ⟨seen,r,u,t,q,F,D,⟨J,N⟩,F0⟩ u1 H0
 replace N:=N.nf
 obtain ⟨A,f⟩:=F0
 refine go fun a J=>?_
 refine st J rfl rfl rfl (y3x 0 1 J N rfl rfl rfl d (fun l0 w N a J=>?_) (fun S w M N a J=>?_))
 refine go fun a J=>?_
 replace N:=N.dl [1,0]
 refine W (muR U ((ds++[g])) F) _ _ (by subst D;have h_:=(k.mark m (y2l P) hM hC d f l0).2;omega) ⟨(r),(u),(t),(q),(F),((ds++[g])),rfl,⟨J.pk,N⟩,?_⟩
 exact ⟨A,(k.mark m (y2l P) hM hC d f l0).1⟩
 obtain ⟨c0,s1,k0,o1,g0⟩:=z8z d (leftE_mem.1 M).1
 have s0:Value.tuple #[S.key,S.val]=Value.tuple #[.string c0,S.val]:=by rw [k0]
 refine Qq (fun a J=>?_) (o:=by exact fun J O=>Ok.cast (q7a (i:=0) (j:=1) J O rfl rfl rfl d M) s0)
 refine qF fun G1 w N a J=>?_
 refine st J rfl rfl rfl (z6j 4 (s:=c0) wT J N A rfl rfl rfl (N.toSees.rowIn (i:=0) rfl) (by have S0:=f.len;have T0:=k.len;have U0:=z2s k.nodup k.dU;have V0:=j7s d (hM _);have W0:(l.drop 1).length<=l.length:=(by rw [List.length_drop];omega);omega) fun P0 w0 p0 o0 w J0 N a J=>?_)
 replace N:=N.nf
 refine go fun a J=>?_
 replace N:=N.dl [0]
 refine H0 ((vZ G ((seen.push S.born))).length) _ _ (by subst D;exact z2k M) ⟨((seen.push S.born)),(P0),(w0),(p0),(o0),((F++[c0])),rfl,⟨J.pk,N⟩,?_⟩
 exact ⟨J0,f.next d M k0 g0⟩
 obtain ⟨h,L0,f1,rfl,K0⟩:=n0.get L
 obtain ⟨F1,w1,rfl,X0,D0⟩:=id K0
 obtain ⟨b1,Q0,rfl,h1,l1⟩:=X0.fm
 obtain ⟨M0,B0,N0,C0,rfl,g1,A1,B1,i1,m1,j1,n1⟩:=REx.fm D0
 have C:=congrArg (zN false (.agg #[.string ⟨#[]⟩,.slice none 0 0,.string ⟨#[]⟩,.int .i64 ((0:Nat):Int),.int .i64 ((0:Nat):Int),.string ⟨#[]⟩,.slice none 0 0,.slice none 0 0])) L
 refine Qq (fun a J=>?_) (o:=by exact fun J O=>Ok.cast (yB runUnderlying103 runUnderlying9 zeroValue68 J O rfl rfl m0) (show zN false (.agg #[.string ⟨#[]⟩,.slice none 0 0,.string ⟨#[]⟩,.int .i64 ((0:Nat):Int),.int .i64 ((0:Nat):Int),.string ⟨#[]⟩,.slice none 0 0,.slice none 0 0]) (yY (d9) g)=.agg #[.string h.name,.slice b1 h.params.length Q0,.string h.result,.int .i64 (h.body.kind),.int .i64 (h.body.num),.string h.body.name,.slice M0 h.body.args.length B0,.slice N0 h.body.arms.length C0] from C))
 refine Qq (fun a J=>?_) (o:=by exact fun J O=>z7z 3 (vs:=[.int .i64 (h.body.kind),.int .i64 (h.body.num),.string h.body.name,.slice M0 h.body.args.length B0,.slice N0 h.body.arms.length C0]) runUnderlying68 rfl isAgg66 sizeOf66 J rfl rfl rfl)
 refine zO call93 (fun w N a J=>?_) (c:=q0h (ds:=[]) D0 N)
 refine go fun a J=>?_
 have z:jV T g=([]++zY h.body):=by unfold jV;rw [aJ L0];rfl
 rw [<- z] at N
 clear z
 refine go fun a J=>?_
 refine st J rfl rfl rfl (z8w 0 runUnderlying121 J N rfl rfl fun d1 H j0 w e N a J=>?_)
 refine go fun a J=>?_
 refine zU (J.ks [0,5,34]) N (fun R mm a w=>∃(seen:Array Nat) (r:Nat) (u:Nat) (t:Nat) (q:Array Value) (F:List Bs),mm=(vZ H seen).length/\R V [(1,qval r u t F)] [(0,.blk d1 (.mapIter (some A0) j0 seen j0)),(3,qblk r q)] a w/\(QAt u t q F/\RIn T g (l.drop 1) H seen F)) ((vZ H #[]).length) ⟨#[],qb,(y6a qo qc),(qc - 1),qa,(l.drop 1),rfl,⟨J.pk,N⟩,⟨a0,RIn.start⟩⟩ ?_
 clear N J
 rintro mm a w ⟨seen,r,u,t,q,F,D,⟨J,N⟩,G0⟩ v1 I0
 replace N:=N.nf
 obtain ⟨A,f⟩:=G0
 refine go fun a J=>?_
 refine st J rfl rfl rfl (y3x 0 1 J N rfl rfl rfl e (fun Y w N a J=>?_) (fun v w n N a J=>?_))
 refine go fun a J=>?_
 replace N:=N.dl [1,0]
 refine W (muR U ((ds++[g])) F) _ _ (by subst D;have h_:=(k.mark m (y2l P) hM hC e f Y).2;omega) ⟨(r),(u),(t),(q),(F),((ds++[g])),rfl,⟨J.pk,N⟩,?_⟩
 exact ⟨A,(k.mark m (y2l P) hM hC e f Y).1⟩
 obtain ⟨E,e1,X,a1,Z⟩:=z8z e (leftE_mem.1 n).1
 have f0:Value.tuple #[v.key,v.val]=Value.tuple #[.string E,v.val]:=by rw [X]
 refine Qq (fun a J=>?_) (o:=by exact fun J O=>Ok.cast (q7a (i:=0) (j:=1) J O rfl rfl rfl e n) f0)
 refine qF fun p1 w N a J=>?_
 refine st J rfl rfl rfl (z6j 4 (s:=E) wT J N A rfl rfl rfl (N.toSees.rowIn (i:=0) rfl) (by have S0:=f.len;have T0:=k.len;have U0:=z2s k.nodup k.dU;have V0:=j7s e (hM _);have W0:(l.drop 1).length<=l.length:=(by rw [List.length_drop];omega);omega) fun y0 h0 e0 d0 w t0 N a J=>?_)
 replace N:=N.nf
 refine go fun a J=>?_
 replace N:=N.dl [0]
 refine I0 ((vZ H ((seen.push v.born))).length) _ _ (by subst D;exact z2k n) ⟨((seen.push v.born)),(y0),(h0),(e0),(d0),((F++[E])),rfl,⟨J.pk,N⟩,?_⟩
 exact ⟨t0,f.next e n X Z⟩
 obtain ⟨rfl,b0⟩:=z7o I
 have B:=congrArg (zN false (.bool false)) I
 refine Qq (fun a J=>?_) (o:=by exact fun J O=>Ok.cast (qP 0 runUnderlying121 runUnderlying9 zeroValue4 J O rfl rfl rfl) (show zN false (.bool false) (yY ((jO ds)) g)=.bool true from B))
 refine go fun a J=>?_
 refine W (muR U ds ((l.drop 1))) _ _ (by subst D;have h_:=(k.skip m (has_mem.1 b0)).2;omega) ⟨(qb),((y6a qo qc)),((qc - 1)),(qa),((l.drop 1)),(ds),rfl,⟨J.pk,N⟩,?_⟩
 exact ⟨a0,(k.skip m (has_mem.1 b0)).1⟩
 refine zF ?_
 replace N:=N.dl [1]
 have e_:l=[]:=List.eq_nil_of_length_eq_zero (by omega)
 subst e_
 exact ⟨(z0,ds),rfl,k.fin,N⟩
section
variable {V:Fz} {K:List Res} {w:World}
theorem x4r {pt:Addr} {T:Table} {d0:List Value} {v:Val} {d1:List Value} {p:Param} {b:Nat} (d:RVal V d0 v) (f:RParam V d1 p) (rT:RTable V pt T) (N:Mem V (.blk b (ob [.pointer (some pt)] 89)::K) w) :
  Calls prog 60 #[.agg d0.toArray,.agg d1.toArray,.pointer (some ⟨b,0,none⟩)] w (fun ee w'=>ee=.returned (.bool ((!vX v&&mR T v p.type)))/\Mem V (.blk b (ob [.pointer (some pt)] 89)::K) w'):=by
 obtain ⟨m,c4,rfl,h,l,i,j⟩:=RVal.fm d
 obtain rfl:=id f
 refine zK func60 ntmps60 fun Q hQ a J=>?_
 refine Bx fun k w N a J=>?_
 refine Bx fun g w N a J=>?_
 refine zZ call50 (fun e w N a J=>?_) (fun e w N a J=>?_) (c:=z6w d N)
 refine zF ?_
 replace N:=N.dl [1,0]
 exact zM N (by simp [*])
 refine zO call61 (fun w N a J=>?_) (c:=has_ok rT d N)
 refine zF ?_
 replace N:=N.dl [1,0]
 exact zM N (by simp [*])
theorem x4s {p:Addr} {T:Table} {df:List Value} {f:Fun} {va:Value} {args:List Val} {fu z B C D E A:Nat} (U:RTable V p T) (rf:RFun V df f) (rs:SliceOf RVal V 3 va args) (hF:z1q T) (L:f.params.length<=1000) (M:pU f.body) (z0:fu<=1000000) (t:∀g,xC (yM ⟨T.funs,[]⟩) f args g≠.stuck) (N:Mem V (.blk z (ob [.int .i64 ((1:Nat):Int)] 3)::.blk B (ob [.int .i64 ((fu:Nat):Int)] 3)::.blk C (ob [.pointer (some p)] 89)::.blk D (ob df 68)::.blk E (ob [va] 38)::.blk A (ob [.string ⟨#[]⟩,.int .i64 ((0:Nat):Int),.slice none 0 0] 42)::K) w) :
  Calls prog 64 #[.pointer (some ⟨z,0,none⟩),.pointer (some ⟨B,0,none⟩),.pointer (some ⟨C,0,none⟩),.pointer (some ⟨D,0,none⟩),.pointer (some ⟨E,0,none⟩),.pointer (some ⟨A,0,none⟩)] w (fun e w'=>Out (kP (xC (yM ⟨T.funs,[]⟩) f args) fu)
   (fun x=>∃y:Fz×List Value,e=.returned (.int .i64 ((0:Nat):Int))/\(V.Le y.1/\RVal y.1 y.2 x.1)/\Mem y.1 (.blk z (ob [.int .i64 ((fu - x.2:Nat):Int)] 3)::.blk A (ob y.2 42)::K) w')
   (fun c=>(e=.returned (.int .i64 ((c:Nat):Int))∨c=4/\e=.panicked (tR ()))/\Mem V K w')):=by
 obtain ⟨s1,b7,rfl,h2,q⟩:=id rf
 obtain ⟨p3,c4,rfl,A0,B0⟩:=h2.fm
 obtain ⟨P,F,R,G,rfl,Y,s0,t0,c0,h0,d0,i0⟩:=REx.fm q
 obtain ⟨S,H,rfl,g0,l0⟩:=rs.fm
 refine zK func64 ntmps64 fun Q hQ a J=>?_
 by_cases n:fu < 1
 refine zF ?_
 replace N:=N.dl [5,4,3,2,1,0]
 exact outEE (oH n) ⟨.inl rfl,N⟩
 refine go fun a J=>?_
 replace N:Mem V (.blk z (ob [.int .i64 ((fu - (fu - 1):Nat):Int)] 3)::.blk B (ob [.int .i64 ((fu:Nat):Int)] 3)::.blk C (ob [.pointer (some p)] 89)::.blk D (ob [.string f.name,.slice p3 f.params.length c4,.string f.result,.int .i64 (f.body.kind),.int .i64 (f.body.num),.string f.body.name,.slice P f.body.args.length F,.slice R f.body.arms.length G] 68)::.blk E (ob [.slice S args.length H] 38)::.blk A (ob [.string ⟨#[]⟩,.int .i64 ((0:Nat):Int),.slice none 0 0] 42)::K) w:=by rw [show fu - (fu - 1)=1 by omega];exact N
 refine zX fun a J=>?_
 refine vS call48 (fun u W w l r N a J=>?_) (fun u w l N=>?_) (c:=z1u hF (fu - 1) U (.inr ⟨rfl,rfl⟩) rf rs L M (by omega) (by omega) (t _) N)
 obtain ⟨F0,r0⟩:=u
 obtain ⟨m0,p0⟩:=W
 obtain ⟨d,b⟩:=r
 have i:=jL l
 simp only at d b N J i
 have I:=nQ i
 replace rf:=rf.up d
 replace q:=q.up d
 replace N:=N.nf
 obtain ⟨D0,o0,rfl,Z,w0,e0,j0⟩:=RVal.fm b
 refine Alc fun n0 w N a J=>?_
 refine Sto 0 fun w N a J=>?_
 refine zZ call50 (fun j w N a J=>?_) (fun j w N a J=>?_) (c:=z6w b N)
 refine zF ?_
 replace N:=N.dl [6,5,4,3,2,1,0]
 exact outEE (z4m n i j) ⟨.inl rfl,N.le (d)⟩
 have k:=j
 refine yP call51 (fun X w s N a J=>?_) (c:=own_ok (j1p k) b N)
 obtain ⟨v,q0⟩:=X
 obtain ⟨h,m⟩:=s
 simp only at h m N J
 replace rf:=rf.up h
 replace q:=q.up h
 replace b:=b.up h
 replace N:=N.nf
 obtain ⟨E0,c62,rfl,a0,x0,f0,k0⟩:=RVal.fm m
 refine Sto 6 fun w N a J=>?_
 refine zF ?_
 replace N:=N.dl [5,4,3,2,0]
 exact outE (z4y n i k) ⟨(v,_),rfl,⟨(d).trans h,m⟩,N⟩
 have o:=qW l (t _)
 replace N:=N.dl [5,4,3,2,1,0]
 exact outEE (tN n o) ⟨.inr ⟨rfl,rfl⟩,N.le (Fz.Le.refl _)⟩
theorem q7v {p:Addr} {T:Table} {df:List Value} {f:Fun} {va:Value} {args:List Val} {fu a o q r s d:Nat} (n:RTable V p T) (rf:RFun V df f) (rs:SliceOf RVal V 3 va args) (v:z1q T) (l:f.params.length<=1000) (m:pU f.body) (j:fu<=1000000) (k:∀g,xC (yM ⟨T.funs,[]⟩) f args g≠.stuck) (N:Mem V (.blk a (ob [.int .i64 ((1:Nat):Int)] 3)::.blk o (ob [.int .i64 ((fu:Nat):Int)] 3)::.blk q (ob [.pointer (some p)] 89)::.blk r (ob df 68)::.blk s (ob [va] 38)::.blk d (ob [.string ⟨#[]⟩,.int .i64 ((0:Nat):Int),.slice none 0 0] 42)::K) w) :
  Calls prog 45 #[.func (.func 64) #[] #[.pointer (some ⟨a,0,none⟩),.pointer (some ⟨o,0,none⟩),.pointer (some ⟨q,0,none⟩),.pointer (some ⟨r,0,none⟩),.pointer (some ⟨s,0,none⟩),.pointer (some ⟨d,0,none⟩)]] w (fun e w'=>Out (kP (xC (yM ⟨T.funs,[]⟩) f args) fu)
   (fun x=>∃y:Fz×List Value,e=.returned (.int .i64 ((0:Nat):Int))/\(V.Le y.1/\RVal y.1 y.2 x.1)/\Mem y.1 (.blk a (ob [.int .i64 ((fu - x.2:Nat):Int)] 3)::.blk d (ob y.2 42)::K) w')
   (fun c=>e=.returned (.int .i64 ((c:Nat):Int))/\Mem V K w')):=by
 refine q2y (α:=Val×Nat) (β:=Fz×List Value) (F:=fun _ y=>y.1) (KO:=fun x y=>.blk a (ob [.int .i64 ((fu - x.2:Nat):Int)] 3)::.blk d (ob y.2 42)::K)
  (G:=fun (x:Val×Nat) y=>V.Le y.1/\RVal y.1 y.2 x.1) call64 (fun b w N=>?_) N
 have N:=(((((N.pull (i:=6) rfl).pull (i:=6) rfl).pull (i:=6) rfl).pull (i:=6) rfl).pull (i:=6) rfl).pull (i:=6) rfl
 refine (x4s (K:=.blk b (ob [.int .i64 ((0:Nat):Int)] 31)::K) n rf rs v l m j k N).mono fun e w' h=>?_
 cases hr:kP (xC (yM ⟨T.funs,[]⟩) f args) fu with
 | ok x=>
  rw [hr] at h
  obtain ⟨y,h1,t,u⟩:=h
  exact ⟨y,h1,t,u.pull (i:=2) rfl⟩
 | error c'=>
  rw [hr] at h
  exact h
end
def q7h (c:Core) (name:Bs) (args:List Val):Prop:=∀f,zJ (zE c).funs name=some f->nC (zE c) args f.params=true->¬xP (zE c) name->∀g,xC (yM ⟨(zE c).funs,[]⟩) f args g≠.stuck
section
variable {c:Core} {name:Bs} {args:List Val} {fuel:Int}
theorem q3q (h:yR c≠0):yN c name args fuel=(v0,0,yR c):=by simp only [yN,if_pos h]
theorem oG (h:yR c=0) (a:fuel < 0∨200000 < fuel):yN c name args fuel=(v0,0,1):=by simp only [yN,if_neg (not_not_intro h),if_pos a]
theorem q3r (h:yR c=0) (a:¬(fuel < 0∨200000 < fuel)) (b:zJ (zE c).funs name=none):yN c name args fuel=(v0,0,3):=by
 simp only [yN,if_neg (not_not_intro h),if_neg a,b]
theorem y7y {f:Fun} (h:yR c=0) (a:¬(fuel < 0∨200000 < fuel)) (d:zJ (zE c).funs name=some f) (b:nC (zE c) args f.params=false):yN c name args fuel=(v0,0,8):=by
 simp only [yN,if_neg (not_not_intro h),if_neg a,d,if_pos b]
theorem z4l {f:Fun} (h:yR c=0) (a:¬(fuel < 0∨200000 < fuel)) (d:zJ (zE c).funs name=some f) (b:nC (zE c) args f.params=true) (hr:xP (zE c) name):yN c name args fuel=(v0,0,8):=by
 simp only [yN,if_neg (not_not_intro h),if_neg a,d,b,if_pos hr];rfl
theorem z1t {f:Fun} (h:yR c=0) (a:¬(fuel < 0∨200000 < fuel)) (d:zJ (zE c).funs name=some f) (b:nC (zE c) args f.params=true) (hr:¬xP (zE c) name):yN c name args fuel=(match kP (xC (yM ⟨(zE c).funs,[]⟩) f args) fuel.toNat with
    | .ok (v,g)=>(v,((fuel.toNat - g:Nat):Int),0)
    | .error e=>(v0,0,((e:Nat):Int))):=by
 simp only [yN,if_neg (not_not_intro h),if_neg a,d,b,if_neg hr];rfl
end
theorem q1s:∀(K:List Res) (i:Nat) (r:Res),gM (pB K i r) i=gM K i
 | [],_,_=>rfl
 | _::K,0,_=>rfl
 | x::K,i+1,r=>by simp only [pB,gM,q1s K i r]
theorem gX (s t:ByteArray):Lib.strCells (s++t)=Lib.strCells s++Lib.strCells t:=by
 simp only [Lib.strCells,ByteArray.data_append,Array.toList_append,List.map_append]
theorem pQ (s:ByteArray):(Lib.strCells s).length=s.size:=by
 simp only [Lib.strCells,List.length_map,Array.length_toList];rfl
theorem y9q (t:ByteArray) (c:UInt8):Lib.strCells (t++⟨#[c]⟩)=Lib.strCells t++[.int .u8 ((c.toNat:Nat):Int)]:=by rw [gX];rfl
section
variable {P:Program} {n:Nat} {E:List (Nat×Value)} {D:List Deferred} {a:Act} {V:Fz} {K:List Res} {w:World} {ty:TypeId}
variable {Kn:Value->World->Prop} {Qp:List PanicEntry->World->Prop} {dst:Option Tmp} {pos:String} {aft:Array Edge} {g:Option (Nat×Bool)}
theorem j2t {x:Operand} {src dst' t:TypeId} {j:TypeInfo} {b T i:Nat} {cs:List Value} (J:EnvR n E D a) (N:Sees V K w) (k:ev E x=some (.pointer (some ⟨b,0,none⟩))) (h:qS K i=some (.blk b (ob cs T))) (c:0 < cs.length)
  (h1:P.underlying src=some (.pointer t)) (d:P.underlying dst'=some .unsafePointer) (f:P.info? t=some j) (g:j.size≠0):Ok P a (.convert src dst' x) ty w (.pointer (some ⟨b,0,none⟩)):=fun _ _ _ _=>by
 have hb:w.heap[b]? = some (ob cs T):=N.own _ (yU h)
 have:=Lib.run_to_unsafe (P:=P) w (src:=src) (dst:=dst') (t:=t) (e:=T) (j:=j) (cells:=cs.length) ⟨b,0,none⟩ h1 d f g (by simp [World.shape?,hb,ob]) c
 simp only [execOp,J.ev k]
 simp [Sem.run_bind,this,Result.andThen]
theorem y9r {x:Operand} {src dst' u:TypeId} {j:TypeInfo} {b T i:Nat} {cs:List Value} (J:EnvR n E D a) (N:Sees V K w) (h:ev E x=some (.pointer (some ⟨b,0,none⟩))) (g:qS K i=some (.blk b (ob cs T)))
  (h1:P.underlying src=some .unsafePointer) (c:P.underlying dst'=some (.pointer u)) (d:P.info? u=some j) (f:liesAt P P.depth T (cs.length / P.cellsOf T) 0 u 1=true):Ok P a (.convert src dst' x) ty w (.pointer (some ⟨b,0,none⟩)):=fun _ _ _ _=>by
 have hb:w.heap[b]? = some (ob cs T):=N.own _ (yU g)
 have:=Lib.run_from_unsafe (P:=P) w (src:=src) (dst:=dst') (u:=u) (e:=T) (j:=j) (cells:=cs.length) ⟨b,0,none⟩ h1 c d (by simp [World.shape?,hb,ob]) f
 simp only [execOp,J.ev h]
 simp [Sem.run_bind,this,Result.andThen]
theorem y3s (i:Nat) {s x:Operand} {t u e:TypeId} {v:Value} {str t0:ByteArray} {inf:TypeInfo} (r:P.underlying t=some (.slice e)) (y:P.underlying u=some .string) (q:P.info? e=some inf) (C:inf.zero=some (.int .u8 0)) (h1:inf.size=1) (z:inf.bytes=1)
  (J:EnvR n E D a) (N:Mem V K w) (O:ev E s=some v) (A:qS K i=some (.gs v e 1 (Lib.strCells t0))) (S:ev E x=some (.string str)) (hb:t0.size+str.size<=140737488355328)
  (k:∀v' w',Mem V (pB K i (.gs v' e 1 (Lib.strCells (t0++str)))) w'->Kn v' w') :
  Oper.eff P ⟨dst,.call { callee:=.builtin .append,args:=#[s,x],argTypes:=#[t,u] },ty,pos,aft,g⟩ a w Kn Qp:=by
 obtain ⟨nn,f⟩:=N.own _ (yU A)
 have B:nn=t0.size:=by have:=f.1;rw [pQ] at this;omega
 subst B
 have m:t0.size+str.size<=maxLen:=by simp only [maxLen];omega
 have l:∀v' w',(Builtin.append_ #[t,u] ty #[v,.string str]).run P w=.ok v' w'->Kn v' w' ->
   Oper.eff P ⟨dst,.call { callee:=.builtin .append,args:=#[s,x],argTypes:=#[t,u] },ty,pos,aft,g⟩ a w Kn Qp:=by
  intro v' w' d I
  unfold Oper.eff
  have:(execOp a.eval ⟨dst,.call { callee:=.builtin .append,args:=#[s,x],argTypes:=#[t,u] },ty,pos,aft,g⟩).run P w=.ok (.value v') w':=by
   simp only [execOp,resolve,invoke,builtin,Sem.run_bind,Sem.run_pure,Result.andThen_ok,List.map_toArray,List.map_cons,List.map_nil,J.ev O,J.ev S,d]
  rw [this]
  exact I
 rcases f.2 with ⟨rfl,G⟩ | ⟨b,cap,cur,rfl,_,Q,F,L,M,R⟩
 ·obtain ⟨v',w',d,ho',h,_⟩:=Lib.run_append_own_string (P:=P) w w.heap.size t u ty e inf r y q C h1 z (.slice none 0 0) t0.size _ ⟨f.1,.inl ⟨rfl,G⟩⟩ str m hb (Nat.le_refl _)
  refine l v' w' d (k _ _ ?_)
  rw [gX]
  refine N.upd A h.os h.output (fun b hb o=>h.block b hb o) ⟨t0.size+str.size,?_⟩ (.inr fun b hb=>(ho'.lt b hb).1)
  exact ⟨ho'.1,ho'.2.imp id fun ⟨g,cap,cur,h1,_,H⟩=>⟨g,cap,cur,h1,Nat.zero_le _,H⟩⟩
 ·obtain ⟨v',w',d,ho',h,_⟩:=Lib.run_append_own_string (P:=P) w 0 t u ty e inf r y q C h1 z _ t0.size _ f str m hb (Nat.zero_le _)
  refine l v' w' d (k _ _ ?_)
  rw [gX]
  refine N.upd A h.os h.output (fun b hb o=>h.block b hb o) ⟨t0.size+str.size,ho'⟩ ?_
  by_cases p:t0.size+str.size<=cap
  ·have hr:=Lib.run_append_room_string (P:=P) w t u ty e inf r y q h1 b t0.size cap cur Q str p (by omega)
   rw [hr] at d
   cases d
   exact .inl rfl
  ·have holds:∀j u,(Lib.strCells t0)[j]? = some u->w.cell? ((⟨b,0,none⟩:Addr).add j)=some u:=f.cells (g:=b) rfl
   have hr:=Lib.run_append_grow_string (P:=P) w t u ty e inf (.int .u8 0) r y q C ⟨b,0,none⟩ t0.size cap (Lib.strCells t0) (by rw [h1,pQ];omega) holds str (by omega) (by omega) (by rw [z];exact growslice_fits (by omega) (by omega))
   rw [hr] at d
   cases d
   exact .inr fun c F=>by simp [Res.foot,Value.ownBlock] at F;omega
def DataOf (v:Value) (q:Option Addr) (n:Nat):Prop:=n≠0->∃g cap,v=.slice (some ⟨g,0,none⟩) n cap/\q=some ⟨g,0,none⟩
theorem y9d (i:Nat) {x:Operand} {ts:Array TypeId} {e:TypeId} {v:Value} {t:ByteArray} (z:P.underlying ty=some (.pointer e)) (J:EnvR n E D a) (N:Mem V K w) (B:ev E x=some v) (y:qS K i=some (.gs v 5 1 (Lib.strCells t)))
  (k:∀q w',DataOf v q t.size->Mem V K w'->Kn (.pointer q) w'):Oper.eff P ⟨dst,.call { callee:=.builtin .unsafeSliceData,args:=#[x],argTypes:=ts },ty,pos,aft,g⟩ a w Kn Qp:=by
 obtain ⟨nn,f⟩:=N.own _ (yU y)
 have l:nn=t.size:=by have:=f.1;rw [pQ] at this;omega
 subst l
 have c:∀v' w',(Builtin.unsafeSliceData_ ts ty #[v]).run P w=.ok v' w'->Kn v' w' ->
   Oper.eff P ⟨dst,.call { callee:=.builtin .unsafeSliceData,args:=#[x],argTypes:=ts },ty,pos,aft,g⟩ a w Kn Qp:=by
  intro v' w' j o
  unfold Oper.eff
  have:(execOp a.eval ⟨dst,.call { callee:=.builtin .unsafeSliceData,args:=#[x],argTypes:=ts },ty,pos,aft,g⟩).run P w=.ok (.value v') w':=by
   simp only [execOp,resolve,invoke,builtin,Sem.run_bind,Sem.run_pure,Result.andThen_ok,List.map_toArray,List.map_cons,List.map_nil,J.ev B,j]
  rw [this]
  exact o
 rcases f.2 with ⟨rfl,m⟩ | ⟨b,cap,cur,rfl,_,u,p,r,s,A⟩
 ·exact c _ _ (Lib.run_unsafeSliceData_nil _ _ _ _ _) (k _ _ (fun h=>absurd m h) N)
 ·by_cases d:cap=0
  ·subst d
   exact c _ _ (Lib.run_unsafeSliceData_zero w ts ty e z _ _ (5,cur.size) (by simp [World.shape?,u])) (k _ _ (fun h=>absurd (Nat.le_zero.1 p) h) ((N.push _).del 0))
  ·exact c _ _ (Lib.run_unsafeSliceData_row w ts ty _ _ _ d) (k _ _ (fun _=>⟨b,cap,rfl,rfl⟩) N)
theorem z8x (i:Nat) {x y:Operand} {pt it:TypeId} {v:Value} {t:ByteArray} {q:Option Addr} (L:P.underlying pt=some (.pointer 5)) (p:P.cellsOf 5=1) (J:EnvR n E D a) (N:Mem V K w) (hq:DataOf v q t.size) (z:ev E x=some (.pointer q)) (S:ev E y=some (.int .i64 ((t.size:Nat):Int))) (B:qS K i=some (.gs v 5 1 (Lib.strCells t)))
  (k:∀w',Mem V (gM K i) w'->Kn (.string t) w'):Oper.eff P ⟨dst,.call { callee:=.builtin .unsafeString,args:=#[x,y],argTypes:=#[pt,it] },ty,pos,aft,g⟩ a w Kn Qp:=by
 obtain ⟨nn,d⟩:=N.own _ (yU B)
 have u:nn=t.size:=by have:=d.1;rw [pQ] at this;omega
 subst u
 have f:∀v' w',(Builtin.unsafeString_ #[pt,it] ty #[.pointer q,.int .i64 ((t.size:Nat):Int)]).run P w=.ok v' w'->Kn v' w' ->
   Oper.eff P ⟨dst,.call { callee:=.builtin .unsafeString,args:=#[x,y],argTypes:=#[pt,it] },ty,pos,aft,g⟩ a w Kn Qp:=by
  intro v' w' m G
  unfold Oper.eff
  have:(execOp a.eval ⟨dst,.call { callee:=.builtin .unsafeString,args:=#[x,y],argTypes:=#[pt,it] },ty,pos,aft,g⟩).run P w=.ok (.value v') w':=by
   simp only [execOp,resolve,invoke,builtin,Sem.run_bind,Sem.run_pure,Result.andThen_ok,List.map_toArray,List.map_cons,List.map_nil,J.ev z,J.ev S,m]
  rw [this]
  exact G
 have l:t.data.toList.length=t.size:=by simp only [Array.length_toList];rfl
 by_cases h:t.size=0
 ·have M:t=.empty:=by
   have:t.data=#[]:=Array.eq_empty_of_size_eq_zero h
   cases t;simp only at this;subst this;rfl
  have hr:=Lib.run_unsafeString_none (P:=P) w pt it ty q
  refine f (.string t) w ?_ (k _ (N.del i))
  rw [h];rw [M];exact hr
 ·obtain ⟨b,cap,rfl,rfl⟩:=hq h
  rcases d.2 with ⟨o,_⟩ | ⟨b',cap',cur,o,_,A,H,r,I,Q⟩
  ·cases o
  ·simp only [Value.slice.injEq,Option.some.injEq,Addr.mk.injEq,and_true,true_and] at o
   obtain ⟨rfl,rfl⟩:=o
   have hr:=Lib.run_unsafeString_row (P:=P) w pt it ty 5 L p b cur.size (by simp [World.shape?,A]) t.data.toList (fun e=>h (by rw [<- l,e];rfl)) (by omega) (by simp only [maxLen] at r;omega) (fun j x z=>by
    have:=d.cells (g:=b) rfl j (.int .u8 x.toNat) (by simp [Lib.strCells,z])
    exact this)
   rw [l] at hr
   refine f (.string t) _ (by rw [hr]) (k _ ?_)
   have R:(w.freeze ⟨b,0,none⟩ t.size).heap[b]? = some (.cells cur 5 (0,0+t.size)):=by
    simp only [World.freeze,h,if_false,Array.getElem?_modify,if_true,A,Option.map_some];rfl
   have C:Mem V (pB K i (.blk b (.cells cur 5 (0,0+t.size)))) (w.freeze ⟨b,0,none⟩ t.size):=by
    refine N.upd B ?_ ?_ (fun c H s=>?_) R (.inl rfl)
    ·unfold World.freeze;split <;> rfl
    ·unfold World.freeze;split <;> rfl
    ·simp only [World.freeze,h,if_false,Array.getElem?_modify]
     rw [if_neg (fun e=>s (by subst e;rfl))]
   have F:=C.del i
   rwa [q1s] at F
end
open Go.Proofs in
theorem y9s {n:Nat} {E:List (Nat×Value)} {D:List Deferred} {a:Act} {w:World} {ty:TypeId} {x:Operand} {ts:Array TypeId} {v:Value} (J:EnvR n E D a) (c:ev E x=some v) :
  Ok Tryz.prog a (.call { callee:=.value (.func 171),args:=#[x],argTypes:=ts }) ty w v:=fun _ _ _ _=>by
 have h:=run_callFunc_extern (P:=Tryz.prog) Tryz.func171 (by kernel_rfl) (by kernel_rfl) (by kernel_rfl) (e:=Extern.AbiNoEscape.same) (by kernel_rfl) #[v] w
 rw [Lib.run_noEscape] at h
 simp only [Result.andThen] at h
 have b:a.eval (.func 171)=.func (.func 171) #[] #[]:=rfl
 simp only [execOp,resolve,Sem.run_bind,List.map_toArray,List.map_cons,List.map_nil,J.ev c,b]
 simp [Deferred.ofValue,invoke,Sem.run_bind,Result.andThen,h]
section
variable {P:Program} {n:Nat} {E:List (Nat×Value)} {D:List Deferred} {a:Act} {V:Fz} {K:List Res} {w:World} {ty:TypeId}
variable {Kn:Value->World->Prop} {Qp:List PanicEntry->World->Prop} {dst:Option Tmp} {pos:String} {aft:Array Edge} {g:Option (Nat×Bool)}
set_option maxRecDepth 20000 in
theorem y3v {x:Operand} {ts:Array TypeId} {m:Nat} (J:EnvR n E D a) (N:Mem V K w) (l:ev E x=some (.int .i64 ((m:Nat):Int))) (j:m<=281474976710656)
  (k:∀b cs w',m<=cs.size->cs.size<=maxLen->Mem V (.blk b (.cells cs 5 (0,0))::K) w'->Kn (.slice (some ⟨b,0,none⟩) m cs.size) w') :
  Oper.eff prog ⟨dst,.call { callee:=.value (.func 198),args:=#[x],argTypes:=ts },ty,pos,aft,g⟩ a w Kn Qp:=by
 obtain ⟨cs,d,f,c⟩:=Lib.run_makeNoZero (P:=prog) w #[3] 128 5 underlying128 m j
 have h:=run_callFunc_extern (P:=prog) func198 (by kernel_rfl) (by kernel_rfl) (by kernel_rfl) (e:=Extern.BytealgMakeNoZero.makeNoZero #[3] #[128]) (by kernel_rfl) #[.int .i64 ((m:Nat):Int)] w
 rw [d] at h
 simp only [Result.andThen] at h
 unfold Oper.eff
 have:(execOp a.eval ⟨dst,.call { callee:=.value (.func 198),args:=#[x],argTypes:=ts },ty,pos,aft,g⟩).run prog w=.ok (.value (.slice (some ⟨w.heap.size,0,none⟩) m cs.size)) (w.drew.drew.alloc (.cells cs 5)):=by
  have i:a.eval (.func 198)=.func (.func 198) #[] #[]:=rfl
  simp only [execOp,resolve,Sem.run_bind,List.map_toArray,List.map_cons,List.map_nil,J.ev l,i]
  simp [Deferred.ofValue,invoke,Sem.run_bind,Result.andThen,h]
 rw [this]
 exact k _ cs _ f (c (by simp only [maxLen];omega)) (N.drew.drew.push (.cells cs 5 (0,0)))
theorem j5v {b:Nat} {cs:Array Value} {i:Nat} (N:Mem V K w) (c:qS K i=some (.blk b (.cells cs 5 (0,0)))) (a:cs.size<=maxLen):Mem V (pB K i (.gs (.slice (some ⟨b,0,none⟩) 0 cs.size) 5 1 (Lib.strCells ⟨#[]⟩))) w :=
 N.upd c rfl rfl (fun _ _ _=>rfl) ⟨0,rfl,.inr ⟨b,cs.size,cs,rfl,Nat.zero_le _,N.own _ (yU c),Nat.zero_le _,a,by omega,by simp [Lib.strCells]⟩⟩ (.inl rfl)
theorem q7d {x d:Operand} {t e:TypeId} {b m c:Nat} (J:EnvR n E D a) (h:ev E x=some (.slice (some ⟨b,0,none⟩) m c)) (f:ev E d=some (.int .i64 ((0:Nat):Int))) (g:Under P t (.slice e)) (O:SizeT P e 1) :
  Ok P a (.slice t x none (some d) none) ty w (.slice (some ⟨b,0,none⟩) 0 c):=fun _ _ _ _=>by
 simp only [execOp,J.ev h,Option.map_some,Option.map_none,J.ev f,Instr.sliceAt]
 simp [Sem.run_bind,g w,O w,Instr.slice,Instr.sliceBounds,Instr.sliceBound,asIntOf,Result.andThen,Addr.add]
theorem y_cap {x:Operand} {t e:TypeId} {p:Option Addr} {m c:Nat} (J:EnvR n E D a) (d:ev E x=some (.slice p m c)) (b:Under P t (.slice e)):Ok P a (.call { callee:=.builtin .cap,args:=#[x],argTypes:=#[t] }) ty w (.int .i64 ((c:Nat):Int)):=fun _ _ _ _=>by
 simp only [execOp,resolve]
 simp [Sem.run_bind,Result.andThen,invoke,builtin,J.ev d,Builtin.cap_,b w,goInt]
theorem j6x {x y:Operand} {t t2 e:TypeId} {p:Option Addr} {m c:Nat} (J:EnvR n E D a) (d:ev E x=some (.slice p m c)) (f:ev E y=some (.slice none 0 0)) (b:P.underlying t=some (.slice e)) (O:(P.info? e).map (·.size)=some 1) (g:ty=ty) :
  Ok P a (.call { callee:=.builtin .copy,args:=#[x,y],argTypes:=#[t,t2] }) ty w (.int .i64 ((0:Nat):Int)):=fun _ _ _ _=>by
 have h:=run_copy_none (P:=P) w t t2 ty e p none m c 0 0 b O rfl
 simp only [execOp,resolve,invoke,builtin,Sem.run_bind,Sem.run_pure,Result.andThen_ok,List.map_toArray,List.map_cons,List.map_nil,J.ev d,J.ev f,h]
 rfl
theorem gD (i j:Nat) {x:Operand} {b off cap:Nat} {arr:Array Value} {l:List Bs} {T:TypeId} {s:Bs} (J:EnvR n E D a) (N:Sees V K w) (hq:QAt off cap arr l) (c:ev E x=some (.pointer (some ((⟨b,off,none⟩:Addr).add (j * 1)))))
  (f:qS K i=some (qblk b arr)) (O:l[j]? = some s) (e:Scalar P T):Ok P a (.load T x) ty w (.string s):=fun _ _ _ _=>by
 have h1:w.heap[b]? = some (.cells arr 9 (0,0)):=N.own _ (yU f)
 have d:w.cell? ⟨b,off+j,none⟩=some (.string s):=by simp [World.cell?,h1];exact hq.cells j s O
 rw [q3l,Nat.mul_one] at c
 simp only [execOp,J.ev c]
 simp [Instr.loadAt,Instr.sureAddr,loadVar,Sem.run_bind,e w,Result.andThen,load,Sem.run,d]
end
def nE (sep:Bs):List Bs->Bs
 | []=>⟨#[]⟩
 | x::xs=>xs.foldl (fun a s=>a++sep++s) x
def mS (l:List Bs):Nat:=(l.map ByteArray.size).sum
theorem aT (x:Bs) (l:List Bs):mS (x::l)=x.size+mS l:=by simp [mS]
theorem dS {l:List Bs} {i:Nat} {x:Bs} (h:l[i]? = some x):mS (l.drop i)=x.size+mS (l.drop (i+1)):=by rw [zA h,aT]
theorem dT (l:List Bs) (i:Nat):mS (l.take i)+mS (l.drop i)=mS l:=by
 simp only [mS]
 rw [<- List.sum_append_nat,<- List.map_append,List.take_append_drop]
theorem q1w {l:List Bs} {i:Nat} {x:Bs} (h:l[i]? = some x):mS (l.take (i+1))=mS (l.take i)+x.size:=by rw [jY h];simp [mS]
theorem quo_big {m s:Nat} (N:1<=m) (O:1<=s) (h:s * m<=140737488355328):¬IntKind.i64.wrap ((9223372036854775807:Int).tdiv ((m:Nat):Int))<=((s:Nat):Int):=by
 obtain ⟨q,hq⟩:∃q:Nat,q=9223372036854775807 / m:=⟨_,rfl⟩
 have h1:(9223372036854775807:Int).tdiv ((m:Nat):Int)=(q:Int):=by rw [hq];rfl
 have d:q<=9223372036854775807:=by rw [hq];exact Nat.div_le_self _ _
 rw [h1,yD (by omega)]
 have a:=Nat.div_add_mod 9223372036854775807 m
 have e:=Nat.mod_lt 9223372036854775807 (show 0 < m by omega)
 rw [<- hq] at a
 have f:m<=s * m:=Nat.le_mul_of_pos_left _ (by omega)
 intro g
 have b:q<=s:=by omega
 have c:m * q<=m * s:=Nat.mul_le_mul_left _ b
 rw [Nat.mul_comm m s] at c
 omega
theorem zL (a b:Bs):(a++b).size=a.size+b.size:=ByteArray.size_append
theorem z8y (x:Bs):(⟨#[]⟩:Bs)++x=x:=by
 apply ByteArray.ext;simp [ByteArray.data_append]
theorem q1q {l:List Bs} {x sep:Bs} (h:l[0]? = some x) (hb:mS l+sep.size * l.length<=70368744177664) :
  nE sep l=((l.drop 1).drop 0).foldl (fun a s=>a++sep++s) (⟨#[]⟩++x)/\((⟨#[]⟩:Bs)++x).size+mS ((l.drop 1).drop 0)+sep.size * ((l.drop 1).length - 0)<=70368744177664:=by
 cases l with
 | nil=>simp at h
 | cons a r=>
  simp only [List.getElem?_cons_zero,Option.some.injEq] at h
  subst h
  rw [z8y]
  refine ⟨rfl,?_⟩
  rw [aT] at hb
  simp only [lcQ,Nat.mul_add,List.drop_succ_cons,List.drop_zero,Nat.sub_zero] at hb ⊢
  omega
theorem q1r {l:List Bs} {i:Nat} {acc sep x:Bs} (b:(l.drop 1)[i]? = some x) (h:nE sep l=((l.drop 1).drop i).foldl (fun a s=>a++sep++s) acc) (hb:acc.size+mS ((l.drop 1).drop i)+sep.size * ((l.drop 1).length - i)<=70368744177664) :
  nE sep l=((l.drop 1).drop (i+1)).foldl (fun a s=>a++sep++s) ((acc++sep)++x)/\((acc++sep)++x).size+mS ((l.drop 1).drop (i+1))+sep.size * ((l.drop 1).length - (i+1))<=70368744177664:=by
 refine ⟨by rw [h,zA b];rfl,?_⟩
 have c:=(List.getElem?_eq_some_iff.1 b).1
 rw [dS b,show (l.drop 1).length - i=((l.drop 1).length - (i+1))+1 by omega,Nat.mul_add,Nat.mul_one] at hb
 rw [zL,zL];omega
def Cap (v:Value):Prop:=∀p n c,v=.slice p n c->n<=c
theorem Cap.nil:Cap (.slice none 0 0):=fun p n c h=>by injection h;omega
theorem Cap.own {V:Fz} {K:List Res} {w:World} {v:Value} {T:TypeId} {k i:Nat} {cs:List Value} (N:Mem V K w) (a:qS K i=some (.gs v T k cs)):Cap v:=by
 obtain ⟨n,_,h⟩:=N.own _ (yU a)
 rcases h with ⟨rfl,_⟩ | ⟨g,cap,cur,rfl,_,_,e,_⟩
 ·exact Cap.nil
 ·intro p m c h
  injection h with h1 b d
  omega
theorem j1o {V:Fz} {l:List Bs} {q:Option Addr} {c i:Nat} (h:SliceOf RStr V 1 (.slice q l.length c) l) (s:i < l.length):SliceOf RStr V 1 (.slice q i i) (l.take i):=by
 rw [SliceOf.strs] at h ⊢
 rcases h with ⟨h,b⟩ | ⟨p,m,c',e,b,g,k⟩
 ·injection h with h1 b g;omega
 ·injection e with f e2 r
  subst f;subst e2
  rw [yG] at b
  refine .inr ⟨p,i,i,rfl,by simp [yG];omega,by omega,fun n=>?_⟩
  have hl:strs l≠[]:=fun e=>by have:=congrArg List.length e;rw [yG] at this;simp only [lnQ] at this;omega
  have d:=(k hl).sub (o:=0) (ds:=strs (l.take i)) (fun j v a=>by
   rw [Nat.zero_add]
   simp only [strs,List.map_take,List.getElem?_take] at a ⊢
   split at a
   ·exact a
   ·cases a)
  rw [show p.add 0=p from rfl] at d
  exact d
theorem q7e {n:Nat} {E:List (Nat×Value)} {D:List Deferred} {a:Act} {x d mx:Operand} {t e ty:TypeId} {q:Option Addr} {m c i:Nat} {w:World} {P:Program} (J:EnvR n E D a) (h:ev E x=some (.slice q m c)) (f:ev E d=some (.int .i64 ((i:Nat):Int)))
  (b:ev E mx=some (.int .i64 ((i:Nat):Int))) (g:Under P t (.slice e)) (O:SizeT P e 1) (h1:i<=c):Ok P a (.slice t x none (some d) (some mx)) ty w (.slice q i i):=fun _ _ _ _=>by
 simp only [execOp,J.ev h,Option.map_some,Option.map_none,J.ev f,J.ev b,Instr.sliceAt]
 simp [Sem.run_bind,g w,O w,Instr.slice,Instr.sliceBounds,Instr.sliceBound,asIntOf,Result.andThen,Addr.add,h1]
end Go.Sw
namespace Go.Proofs.YtgkhcfjooiekkaaGreatDoor
open Go.ChangeShapes Go.WideShapes Go.ChangeAt Go.RowKit Go.Sw
set_option maxRecDepth 100000
section
variable {H:Type} {enc:TypeId×Value->H}
theorem x3b {W:World} {t e:TypeId} {fuel:Nat} {v:Value} {x:DataW H×List MemPlace} (d:Tryz.prog.underlying t=some (.slice e)) (h:trd enc W fuel t [v]=some x):Cap v:=by
 rcases DataW.trod_slice d h with ⟨h1,_⟩ | ⟨a,len,cap,elems,rest,m,_,h1,_,_,b,_⟩
 ·simp only [List.cons.injEq,and_true] at h1;subst h1;exact Cap.nil
 ·simp only [List.cons.injEq,and_true] at h1;subst h1
  intro p n c e
  injection e with f e2 g
  omega
theorem q8r {W:World} {cs:List Value} {d:DataW H} {p:List MemPlace} (h:DataW.Trod enc Tryz.prog W 0 (fun _=>true) true 27 (.agg (List.toArray cs)) d p):∀v,cs[3]? = some v->Cap v:=by
 obtain ⟨fuel,a⟩:=h
 obtain ⟨m,rfl,hl,a⟩:=nA (enc:=enc) (W:=W) (cs:=cs) Tryz.underlying27 a
 rw [c27] at hl
 obtain ⟨a0,r,rfl,b⟩:=qN hl
 obtain ⟨i,r,rfl,c⟩:=qN b
 obtain ⟨a2,r,rfl,e⟩:=qN c
 obtain ⟨a3,r,rfl,f⟩:=qN e
 obtain ⟨_,f3⟩:=a 3 25 3 rfl
 simp only [c25,List.drop_succ_cons,List.drop_zero,List.take_succ_cons,List.take_zero] at f3
 intro v g
 obtain rfl:a3=v:=by simpa using g
 exact x3b Tryz.underlying25 f3
end
end Go.Proofs.YtgkhcfjooiekkaaGreatDoor
namespace Go.Sw
open Go.Proofs Go.Proofs.Tryz
set_option maxRecDepth 20000
set_option maxHeartbeats 4000000
theorem y3b {V:Fz} {K:List Res} {w:World} {d0:List Value} {va:Value} {c:Core} {name:Bs} {args:List Val} {fuel:Int} (f0:RCore V d0 c) (rl:SliceOf RVal V 3 va args) (u1:yR c=0->q7h c name args) (G:Glob V) (N:Mem V K w) :
  Calls prog 20 #[.agg d0.toArray,.string name,va,.int .i64 fuel] w (fun ee w'=>∃y:Fz×List Value,ee=.returned (.tuple #[.agg y.2.toArray,.int .i64 (yN c name args fuel).2.1,.int .i64 (yN c name args fuel).2.2])/\(V.Le y.1/\RVal y.1 y.2 (yN c name args fuel).1)/\Mem y.1 K w'):=by
 obtain ⟨p3,c4,p9,m1,O1,n1,P1,c22,rfl,h2,h8,Q2,R2,Y2,Z2,k2,s2,l2,t2,m2,u2⟩:=RCore.fm f0
 obtain ⟨R1,o1,rfl,r2,z2⟩:=rl.fm
 refine zK func20 ntmps20 fun Q hQ a J=>?_
 refine Bx fun h1 w N a J=>?_
 refine Bx fun i1 w N a J=>?_
 refine Bx fun j1 w N a J=>?_
 refine Alc fun k1 w N a J=>?_
 refine yP call43 (fun U1 w W0 N a J=>?_) (c:=q5x f0 G N)
 obtain ⟨k,Q1⟩:=U1
 obtain ⟨e,x0⟩:=W0
 simp only at e x0 N J
 replace f0:=f0.up e
 replace G:=G.mono e
 replace rl:=rl.up e
 replace N:=N.nf
 by_cases b:yR c=0
 obtain ⟨a0,Y0⟩:=x0 b
 rw [if_pos b,b] at J
 obtain ⟨b2,a3,b3,d3,e3,N2,O2,e0,P2,k0,t1,l0,A2,D2,B2,E2,A,z,C2,F2⟩:=a0.ex
 obtain ⟨g3,c63,h3,L2,i3,c75,j3,M2,rfl,S2,T2,U2,V2,n2,v2,o2,w2,p2,x2,q2,y2⟩:=RCore.fm l0
 refine Alc fun Q0 w N a J=>?_
 refine Sto 0 fun w N a J=>?_
 refine Qq (fun a J=>?_) (o:=by exact fun J O=>sS false J rfl rfl rfl)
 refine go fun a J=>?_
 rcases b0:yY (e0) name with _ | J2
 have X:=congrArg (zN true (.agg #[.string ⟨#[]⟩,.slice none 0 0,.string ⟨#[]⟩,.int .i64 ((0:Nat):Int),.int .i64 ((0:Nat):Int),.string ⟨#[]⟩,.slice none 0 0,.slice none 0 0])) b0
 refine Qq (fun a J=>?_) (o:=by exact fun J O=>Ok.cast (yB runUnderlying103 runUnderlying9 zeroValue68 J O rfl rfl A) (show zN true (.agg #[.string ⟨#[]⟩,.slice none 0 0,.string ⟨#[]⟩,.int .i64 ((0:Nat):Int),.int .i64 ((0:Nat):Int),.string ⟨#[]⟩,.slice none 0 0,.slice none 0 0]) (yY (e0) name)=.tuple #[.agg #[.string ⟨#[]⟩,.slice none 0 0,.string ⟨#[]⟩,.int .i64 ((0:Nat):Int),.int .i64 ((0:Nat):Int),.string ⟨#[]⟩,.slice none 0 0,.slice none 0 0],.bool false] from X))
 refine Alc fun K2 w N a J=>?_
 refine Sto 0 fun w N a J=>?_
 by_cases U0:fuel < 0
 refine zX fun a J=>?_
 refine Sto 2 fun w N a J=>?_
 refine go fun a J=>?_
 have f:=N
 replace N:=N.dl [5,4,3,2,1,0]
 refine hQ _ _ _ (nG (i:=2) (cs:=[.string ⟨#[]⟩,.int .i64 ((0:Nat):Int),.slice none 0 0]) J f.toSees results20 rfl rfl isAgg42 sizeOf42 rfl rfl rfl ?_)
 have hr_:yN c name args fuel=(v0,0,1):=oG b (by have h_:=U0;omega)
 rw [hr_]
 exact ⟨(k,_),rfl,⟨e,RVal.iff.2 ⟨_,rfl,(show I64 0 from ⟨by decide,by decide⟩),SliceOf.nil 3⟩⟩,N⟩
 by_cases V0:200000 < fuel
 refine zX fun a J=>?_
 refine Sto 2 fun w N a J=>?_
 refine go fun a J=>?_
 have f:=N
 replace N:=N.dl [5,4,3,2,1,0]
 refine hQ _ _ _ (nG (i:=2) (cs:=[.string ⟨#[]⟩,.int .i64 ((0:Nat):Int),.slice none 0 0]) J f.toSees results20 rfl rfl isAgg42 sizeOf42 rfl rfl rfl ?_)
 have hr_:yN c name args fuel=(v0,0,1):=oG b (by have h_:=V0;omega)
 rw [hr_]
 exact ⟨(k,_),rfl,⟨e,RVal.iff.2 ⟨_,rfl,(show I64 0 from ⟨by decide,by decide⟩),SliceOf.nil 3⟩⟩,N⟩
 refine zX fun a J=>?_
 refine Sto 2 fun w N a J=>?_
 refine go fun a J=>?_
 have f:=N
 replace N:=N.dl [5,4,3,2,1,0]
 refine hQ _ _ _ (nG (i:=2) (cs:=[.string ⟨#[]⟩,.int .i64 ((0:Nat):Int),.slice none 0 0]) J f.toSees results20 rfl rfl isAgg42 sizeOf42 rfl rfl rfl ?_)
 have hr_:yN c name args fuel=(v0,0,3):=q3r b (by have G0:=V0;have H0:=U0;omega) (MapRel.none z b0)
 rw [hr_]
 exact ⟨(k,_),rfl,⟨e,RVal.iff.2 ⟨_,rfl,(show I64 0 from ⟨by decide,by decide⟩),SliceOf.nil 3⟩⟩,N⟩
 obtain ⟨n,m,p1,rfl,E⟩:=z.get b0
 obtain ⟨G2,W1,rfl,u0,h0⟩:=id E
 obtain ⟨A0,q0,rfl,y1,F1⟩:=u0.fm
 obtain ⟨B0,r0,C0,s0,rfl,v1,d2,e2,z1,G1,A1,H1⟩:=REx.fm h0
 have X:=congrArg (zN true (.agg #[.string ⟨#[]⟩,.slice none 0 0,.string ⟨#[]⟩,.int .i64 ((0:Nat):Int),.int .i64 ((0:Nat):Int),.string ⟨#[]⟩,.slice none 0 0,.slice none 0 0])) b0
 refine Qq (fun a J=>?_) (o:=by exact fun J O=>Ok.cast (yB runUnderlying103 runUnderlying9 zeroValue68 J O rfl rfl A) (show zN true (.agg #[.string ⟨#[]⟩,.slice none 0 0,.string ⟨#[]⟩,.int .i64 ((0:Nat):Int),.int .i64 ((0:Nat):Int),.string ⟨#[]⟩,.slice none 0 0,.slice none 0 0]) (yY (e0) name)=.tuple #[.agg #[.string n.name,.slice A0 n.params.length q0,.string n.result,.int .i64 (n.body.kind),.int .i64 (n.body.num),.string n.body.name,.slice B0 n.body.args.length r0,.slice C0 n.body.arms.length s0],.bool true] from X))
 refine Alc fun P0 w N a J=>?_
 refine Sto 0 fun w N a J=>?_
 by_cases H:fuel < 0
 refine zX fun a J=>?_
 refine Sto 2 fun w N a J=>?_
 refine go fun a J=>?_
 have f:=N
 replace N:=N.dl [5,4,3,2,1,0]
 refine hQ _ _ _ (nG (i:=2) (cs:=[.string ⟨#[]⟩,.int .i64 ((0:Nat):Int),.slice none 0 0]) J f.toSees results20 rfl rfl isAgg42 sizeOf42 rfl rfl rfl ?_)
 have hr_:yN c name args fuel=(v0,0,1):=oG b (by have h_:=H;omega)
 rw [hr_]
 exact ⟨(k,_),rfl,⟨e,RVal.iff.2 ⟨_,rfl,(show I64 0 from ⟨by decide,by decide⟩),SliceOf.nil 3⟩⟩,N⟩
 refine go fun a J=>?_
 by_cases I:200000 < fuel
 refine zX fun a J=>?_
 refine Sto 2 fun w N a J=>?_
 refine go fun a J=>?_
 have f:=N
 replace N:=N.dl [5,4,3,2,1,0]
 refine hQ _ _ _ (nG (i:=2) (cs:=[.string ⟨#[]⟩,.int .i64 ((0:Nat):Int),.slice none 0 0]) J f.toSees results20 rfl rfl isAgg42 sizeOf42 rfl rfl rfl ?_)
 have hr_:yN c name args fuel=(v0,0,1):=oG b (by have h_:=I;omega)
 rw [hr_]
 exact ⟨(k,_),rfl,⟨e,RVal.iff.2 ⟨_,rfl,(show I64 0 from ⟨by decide,by decide⟩),SliceOf.nil 3⟩⟩,N⟩
 replace N:=N.pl 1
 refine zZ call59 (fun S w N a J=>?_) (fun S w N a J=>?_) (c:=j3q (V:=k) (K:=.blk Q0 (ob [.pointer (some Q1)] 89)::.blk P0 (ob [.string n.name,.slice A0 n.params.length q0,.string n.result,.int .i64 (n.body.kind),.int .i64 (n.body.num),.string n.body.name,.slice B0 n.body.args.length r0,.slice C0 n.body.arms.length s0] 68)::.blk k1 (ob [.string ⟨#[]⟩,.int .i64 ((0:Nat):Int),.slice none 0 0] 42)::.blk j1 (ob [.int .i64 (fuel)] 3)::.blk i1 (ob [.slice R1 args.length o1] 38)::.blk h1 (ob [.slice p3 c.datas.length c4,.slice p9 c.inputs.length m1,.slice O1 c.funs.length n1,.slice P1 c.outputs.length c22] 27)::K) (p:=fun v p=> !vX v&&mR (zE c) v p.type) (fs:=[]) (cs:=[.pointer (some ⟨Q0,0,none⟩)]) rl u0 call60 (fun x c y d w hx hy hc hd N=>x4r hc hd a0 N) N)
 have L:nC (zE c) args n.params=true:=(z9d _ _ _).trans S
 refine qF fun I2 w N a J=>?_
 have z0:=N
 clear N
 obtain ⟨l1,g1,f1,N1,M0,N⟩:=y4n (l:=[name]) (i:=0) z0 rfl (by simp)
 clear z0
 have P:=N
 clear N
 subst N1
 have N:=P
 clear P
 replace N:=N.nf
 refine yP call62 (fun d1 w I0 N a J=>?_) (c:=j1d (U:=univ c name) (a0).weak M0 (by simp) (by simp [univ]) ((z0j b).2.2 _) (z0j b).1 ((z0j b).2.1 _) N)
 obtain ⟨F0,r1⟩:=d1
 have B:=I0
 simp only at B N J
 replace N:=N.nf
 refine st J rfl rfl rfl (z8w 0 runUnderlying121 J N rfl rfl fun c1 t g0 w q N a J=>?_)
 refine go fun a J=>?_
 refine zU (J.ks [6,7,8,11,13,60]) N (fun R mm a w=>∃(seen:Array Nat),mm=(vZ t seen).length/\R k [] [(0,.blk c1 (.mapIter (some F0) g0 seen g0))] a w/\(RNo (zE c) t seen)) ((vZ t #[]).length) ⟨#[],rfl,⟨J.pk,N⟩,RNo.start⟩ ?_
 clear N J
 rintro mm a w ⟨seen,Z0,⟨J,N⟩,K0⟩ V1 i0
 replace N:=N.nf
 have j0:=K0
 refine go fun a J=>?_
 refine st J rfl rfl rfl (y3x 0 1 J N rfl rfl rfl q (fun L0 w N a J=>?_) (fun s w r N a J=>?_))
 refine go fun a J=>?_
 have m0:¬xP (zE c) name:=j0.none q B L0
 have j2:fuel<=200000:=by have h_:=I;omega
 have X0:0<=fuel:=by have h_:=H;omega
 have P:=N
 have y0:=J
 clear N J
 obtain ⟨fu,rfl⟩:=Int.eq_ofNat_of_zero_le X0
 have N:=P
 have J:=y0
 clear P y0
 refine Alc fun X1 w N a J=>?_
 refine Sto 0 fun w N a J=>?_
 refine Alc fun Y1 w N a J=>?_
 refine go fun a J=>?_
 replace N:=N.ar [] [8,6,6,8,5]
 refine st J rfl rfl rfl (jQ J rfl call45 (q7v a0 E rl (z4b b) (z4b b _ _ m).1 (z4b b _ _ m).2 (by omega) (u1 b _ m L m0) N) (fun o0 e1 w D J0 N a J=>?_) (fun o0 w D N a J=>?_))
 obtain ⟨c0,S0⟩:=o0
 obtain ⟨O0,c2⟩:=e1
 obtain ⟨h,Z⟩:=J0
 simp only at h Z N J
 replace f0:=f0.up h
 replace G:=G.mono h
 replace k0:=k0.mono h
 replace A:=A.mono h
 replace z:=z.up h
 replace E:=E.up h
 replace h0:=h0.up h
 obtain ⟨a1,c175,rfl,w1,f2,B1,I1⟩:=RVal.fm Z
 replace N:=N.nf
 refine Qq (fun a J=>?_) (o:=by exact fun J O=>sS false J rfl rfl rfl)
 refine Reg [2,2,0,1,1] [0,1,2,3,5] fun w N a J=>?_
 refine Sto 4 fun w N a J=>?_
 refine go fun a J=>?_
 have f:=N
 replace N:=N.dl [5,4,3,2,1,0]
 refine hQ _ _ _ (nG (i:=4) (cs:=[.string c0.con,.int .i64 (c0.num),.slice a1 c0.args.length c175]) J f.toSees results20 rfl rfl isAgg42 sizeOf42 rfl rfl rfl ?_)
 have hr_:yN c name args ((fu:Nat):Int)=(c0,((fu - S0:Nat):Int),0):=by rw [z1t b (by omega) m L m0,Int.toNat_natCast,D]
 rw [hr_]
 exact ⟨(O0,_),rfl,⟨(e).trans h,Z⟩,N⟩
 have s1:=q7s D
 replace N:=N.nf
 refine zX fun a J=>?_
 refine Sto 2 fun w N a J=>?_
 refine go fun a J=>?_
 have f:=N
 replace N:=N.dl [3,2,1,0]
 refine hQ _ _ _ (nG (i:=2) (cs:=[.string ⟨#[]⟩,.int .i64 ((0:Nat):Int),.slice none 0 0]) J f.toSees results20 rfl rfl isAgg42 sizeOf42 rfl rfl rfl ?_)
 have hr_:yN c name args ((fu:Nat):Int)=(v0,0,((o0:Nat):Int)):=by rw [z1t b (by omega) m L m0,Int.toNat_natCast,D]
 rw [hr_]
 exact ⟨(k,_),rfl,⟨e,RVal.iff.2 ⟨_,rfl,(show I64 0 from ⟨by decide,by decide⟩),SliceOf.nil 3⟩⟩,N⟩
 obtain ⟨F,T1,Y,M1,M⟩:=z8z q (leftE_mem.1 r).1
 have p0:Value.tuple #[s.key,s.val]=Value.tuple #[.string F,s.val]:=by rw [Y]
 refine Qq (fun a J=>?_) (o:=by exact fun J O=>Ok.cast (q7a (i:=0) (j:=1) J O rfl rfl rfl q r) p0)
 refine go fun a J=>?_
 rcases u:yY (e0) F with _ | S1
 have C:=congrArg (zN false (.agg #[.string ⟨#[]⟩,.slice none 0 0,.string ⟨#[]⟩,.int .i64 ((0:Nat):Int),.int .i64 ((0:Nat):Int),.string ⟨#[]⟩,.slice none 0 0,.slice none 0 0])) u
 refine Qq (fun a J=>?_) (o:=by exact fun J O=>Ok.cast (yB runUnderlying103 runUnderlying9 zeroValue68 J O rfl rfl A) (show zN false (.agg #[.string ⟨#[]⟩,.slice none 0 0,.string ⟨#[]⟩,.int .i64 ((0:Nat):Int),.int .i64 ((0:Nat):Int),.string ⟨#[]⟩,.slice none 0 0,.slice none 0 0]) (yY (e0) F)=.agg #[.string ⟨#[]⟩,.slice none 0 0,.string ⟨#[]⟩,.int .i64 ((0:Nat):Int),.int .i64 ((0:Nat):Int),.string ⟨#[]⟩,.slice none 0 0,.slice none 0 0] from C))
 refine Qq (fun a J=>?_) (o:=by exact fun J O=>z7z 3 (vs:=[.int .i64 ((0:Nat):Int),.int .i64 ((0:Nat):Int),.string ⟨#[]⟩,.slice none 0 0,.slice none 0 0]) runUnderlying68 rfl isAgg66 sizeOf66 J rfl rfl rfl)
 refine zZ call63 (fun T w N a J=>?_) (fun T w N a J=>?_) (c:=j1e rex0 N)
 refine zX fun a J=>?_
 refine Sto 4 fun w N a J=>?_
 refine go fun a J=>?_
 have f:=N
 replace N:=N.dl [7,6,5,4,3,2,1,0]
 refine hQ _ _ _ (nG (i:=4) (cs:=[.string ⟨#[]⟩,.int .i64 ((0:Nat):Int),.slice none 0 0]) J f.toSees results20 rfl rfl isAgg42 sizeOf42 rfl rfl rfl ?_)
 have hr_:yN c name args fuel=(v0,0,8):=z4l b (by have G0:=I;have H0:=H;omega) m L (q2l B M (by rw [z0c (MapRel.none z u)];exact T))
 rw [hr_]
 exact ⟨(k,_),rfl,⟨e,RVal.iff.2 ⟨_,rfl,(show I64 0 from ⟨by decide,by decide⟩),SliceOf.nil 3⟩⟩,N⟩
 refine go fun a J=>?_
 refine i0 ((vZ t ((seen.push s.born))).length) _ _ (by subst Z0;have h_:=z2k r;omega) ⟨((seen.push s.born)),rfl,⟨J.pk,N⟩,?_⟩
 exact j0.next q r Y (by rw [z0c (MapRel.none z u)];exact T)
 obtain ⟨g,n0,q1,rfl,N0⟩:=z.get u
 obtain ⟨H2,Z1,rfl,T0,w0⟩:=id N0
 obtain ⟨b1,R0,rfl,C1,J1⟩:=T0.fm
 obtain ⟨D0,c213,E0,t0,rfl,x1,g2,i2,D1,K1,E1,L1⟩:=REx.fm w0
 have C:=congrArg (zN false (.agg #[.string ⟨#[]⟩,.slice none 0 0,.string ⟨#[]⟩,.int .i64 ((0:Nat):Int),.int .i64 ((0:Nat):Int),.string ⟨#[]⟩,.slice none 0 0,.slice none 0 0])) u
 refine Qq (fun a J=>?_) (o:=by exact fun J O=>Ok.cast (yB runUnderlying103 runUnderlying9 zeroValue68 J O rfl rfl A) (show zN false (.agg #[.string ⟨#[]⟩,.slice none 0 0,.string ⟨#[]⟩,.int .i64 ((0:Nat):Int),.int .i64 ((0:Nat):Int),.string ⟨#[]⟩,.slice none 0 0,.slice none 0 0]) (yY (e0) F)=.agg #[.string g.name,.slice b1 g.params.length R0,.string g.result,.int .i64 (g.body.kind),.int .i64 (g.body.num),.string g.body.name,.slice D0 g.body.args.length c213,.slice E0 g.body.arms.length t0] from C))
 refine Qq (fun a J=>?_) (o:=by exact fun J O=>z7z 3 (vs:=[.int .i64 (g.body.kind),.int .i64 (g.body.num),.string g.body.name,.slice D0 g.body.args.length c213,.slice E0 g.body.arms.length t0]) runUnderlying68 rfl isAgg66 sizeOf66 J rfl rfl rfl)
 refine zZ call63 (fun W w N a J=>?_) (fun W w N a J=>?_) (c:=j1e w0 N)
 refine zX fun a J=>?_
 refine Sto 4 fun w N a J=>?_
 refine go fun a J=>?_
 have f:=N
 replace N:=N.dl [7,6,5,4,3,2,1,0]
 refine hQ _ _ _ (nG (i:=4) (cs:=[.string ⟨#[]⟩,.int .i64 ((0:Nat):Int),.slice none 0 0]) J f.toSees results20 rfl rfl isAgg42 sizeOf42 rfl rfl rfl ?_)
 have hr_:yN c name args fuel=(v0,0,8):=z4l b (by have G0:=I;have H0:=H;omega) m L (q2l B M (by rw [aJ n0];exact W))
 rw [hr_]
 exact ⟨(k,_),rfl,⟨e,RVal.iff.2 ⟨_,rfl,(show I64 0 from ⟨by decide,by decide⟩),SliceOf.nil 3⟩⟩,N⟩
 refine go fun a J=>?_
 refine i0 ((vZ t ((seen.push s.born))).length) _ _ (by subst Z0;have h_:=z2k r;omega) ⟨((seen.push s.born)),rfl,⟨J.pk,N⟩,?_⟩
 exact j0.next q r Y (by rw [aJ n0];exact W)
 refine zX fun a J=>?_
 refine Sto 2 fun w N a J=>?_
 refine go fun a J=>?_
 have f:=N
 replace N:=N.dl [5,4,3,2,1,0]
 refine hQ _ _ _ (nG (i:=2) (cs:=[.string ⟨#[]⟩,.int .i64 ((0:Nat):Int),.slice none 0 0]) J f.toSees results20 rfl rfl isAgg42 sizeOf42 rfl rfl rfl ?_)
 have hr_:yN c name args fuel=(v0,0,8):=y7y b (by have G0:=I;have H0:=H;omega) m ((z9d _ _ _).trans S)
 rw [hr_]
 exact ⟨(k,_),rfl,⟨e,RVal.iff.2 ⟨_,rfl,(show I64 0 from ⟨by decide,by decide⟩),SliceOf.nil 3⟩⟩,N⟩
 rw [if_neg b] at J
 refine Alc fun a2 w N a J=>?_
 refine Sto 0 fun w N a J=>?_
 refine zX fun a J=>?_
 refine Sto 1 fun w N a J=>?_
 refine go fun a J=>?_
 have f:=N
 replace N:=N.dl [4,3,2,1,0]
 refine hQ _ _ _ (nG (i:=1) (cs:=[.string ⟨#[]⟩,.int .i64 ((0:Nat):Int),.slice none 0 0]) J f.toSees results20 rfl rfl isAgg42 sizeOf42 rfl rfl rfl ?_)
 have hr_:yN c name args fuel=(v0,0,yR c):=q3q b
 rw [hr_]
 exact ⟨(k,_),rfl,⟨e,RVal.iff.2 ⟨_,rfl,(show I64 0 from ⟨by decide,by decide⟩),SliceOf.nil 3⟩⟩,N⟩
section
variable {V:Fz} {K:List Res} {w:World}
theorem y8c {b:Nat} {v:Value} (c:v.cells.toList=[v]) (h1:[v].all Value.oneCell'=true) (N:Mem V (.blk b (ob [.pointer none,v] 130)::K) w) :
  Calls prog 120 #[.pointer (some ⟨b,0,none⟩)] w (fun ee w'=>ee=.returned (.tuple #[])/\Mem V (.blk b (ob [.pointer (some ⟨b,0,none⟩),v] 130)::K) w'):=by
 refine zK func120 ntmps120 fun Q hQ a J=>?_
 refine Qq (fun a J=>?_) (o:=by exact fun J O=>cZ (v:=.bool true) J rfl rfl rfl (by kernel_rfl))
 refine Qq (fun a J=>?_) (o:=by exact fun J O=>j2t (i:=0) J O rfl rfl (Nat.zero_lt_succ _) underlying127 underlying238 Tryz.type130 (by decide))
 refine Qq (fun a J=>?_) (o:=by exact fun J O=>y9s J rfl)
 refine Qq (fun a J=>?_) (o:=by exact fun J O=>y9r (i:=0) J O rfl rfl underlying238 underlying127 Tryz.type130 (by kernel_rfl))
 refine Sto 0 fun w N a J=>?_
 refine go fun a J=>?_
 refine hQ _ _ _ (dE J results120 ?_)
 exact ⟨rfl,N⟩
theorem y3k {b:Nat} {v:Value} (c:v.cells.toList=[v]) (h1:[v].all Value.oneCell'=true) (N:Mem V (.blk b (ob [.pointer (some ⟨b,0,none⟩),v] 130)::K) w) :
  Calls prog 120 #[.pointer (some ⟨b,0,none⟩)] w (fun ee w'=>ee=.returned (.tuple #[])/\Mem V (.blk b (ob [.pointer (some ⟨b,0,none⟩),v] 130)::K) w'):=by
 refine zK func120 ntmps120 fun Q hQ a J=>?_
 refine Qq (fun a J=>?_) (o:=by exact fun J O=>cZ (v:=.bool false) J rfl rfl rfl (by kernel_rfl))
 refine Qq (fun a J=>?_) (o:=by exact fun J O=>cZ (v:=.bool false) J rfl rfl rfl (Lib.run_neq_ptr_same _ _ underlying127 Tryz.type130))
 refine go fun a J=>?_
 refine hQ _ _ _ (dE J results120 ?_)
 exact ⟨rfl,N⟩
theorem z0a {b:Nat} {v:Value} {bp:Option Addr} (c:bp=none∨bp=some ⟨b,0,none⟩) (a:v.cells.toList=[v]) (h1:[v].all Value.oneCell'=true) (N:Mem V (.blk b (ob [.pointer bp,v] 130)::K) w) :
  Calls prog 120 #[.pointer (some ⟨b,0,none⟩)] w (fun ee w'=>ee=.returned (.tuple #[])/\Mem V (.blk b (ob [.pointer (some ⟨b,0,none⟩),v] 130)::K) w'):=by
 rcases c with rfl | rfl
 exact y8c a h1 N
 exact y3k a h1 N
theorem yS {b:Nat} {v:Value} {bp:Option Addr} {t s:Bs} (d:bp=none∨bp=some ⟨b,0,none⟩) (hl:t.size+s.size<=140737488355328) (N:Mem V (.blk b (ob [.pointer bp,v] 130)::.gs v 5 1 (Lib.strCells t)::K) w) :
  Calls prog 68 #[.pointer (some ⟨b,0,none⟩),.string s] w (fun ee w'=>∃v2,ee=.returned (.tuple #[.int .i64 ((s.size:Nat):Int),.nilIface])/\True/\Mem V (.blk b (ob [.pointer (some ⟨b,0,none⟩),v2] 130)::.gs v2 5 1 (Lib.strCells (t++s))::K) w'):=by
 refine zK func68 ntmps68 fun Q hQ a J=>?_
 refine zO call120 (fun w N a J=>?_) (c:=z0a d (N.toSees.gsCells (i:=1) rfl) (N.toSees.gsOne (i:=1) rfl) N)
 replace N:=N.nf
 refine go fun a J=>?_
 refine st J rfl rfl rfl (y3s 1 underlying128 underlying9 Tryz.type5 rfl rfl rfl J N rfl rfl rfl (by omega) fun v4 w N a J=>?_)
 replace N:=N.nf
 refine Sto 0 fun w N a J=>?_
 refine xG ?_
 exact ⟨_,rfl,trivial,N⟩
theorem cY {b:Nat} {v:Value} {bp:Option Addr} {t:Bs} {c:UInt8} (d:bp=none∨bp=some ⟨b,0,none⟩) (hl:t.size+1<=140737488355328) (N:Mem V (.blk b (ob [.pointer bp,v] 130)::.gs v 5 1 (Lib.strCells t)::K) w) :
  Calls prog 70 #[.pointer (some ⟨b,0,none⟩),.int .u8 ((c.toNat:Nat):Int)] w (fun ee w'=>∃v2,ee=.returned .nilIface/\True/\Mem V (.blk b (ob [.pointer (some ⟨b,0,none⟩),v2] 130)::.gs v2 5 1 (Lib.strCells (t++⟨#[c]⟩))::K) w'):=by
 refine zK func70 ntmps70 fun Q hQ a J=>?_
 refine zO call120 (fun w N a J=>?_) (c:=z0a d (N.toSees.gsCells (i:=1) rfl) (N.toSees.gsOne (i:=1) rfl) N)
 replace N:=N.nf
 refine qF fun v4 w N a J=>?_
 refine qQ 2 rt_128 (fun v5 w N a J=>?_) (hb:=by rw [pQ];simp only [lcQ,lnQ];omega)
 rw [<- y9q] at N
 refine Sto 1 fun w N a J=>?_
 refine zF ?_
 replace N:=N.dl [0]
 exact ⟨_,rfl,trivial,N⟩
theorem y7x {b:Nat} {v:Value} {bp:Option Addr} {t:Bs} (N:Mem V (.blk b (ob [.pointer bp,v] 130)::.gs v 5 1 (Lib.strCells t)::K) w) :
  Calls prog 71 #[.pointer (some ⟨b,0,none⟩)] w (fun ee w'=>ee=.returned (.int .i64 ((t.size:Nat):Int))/\Mem V (.blk b (ob [.pointer bp,v] 130)::.gs v 5 1 (Lib.strCells t)::K) w'):=by
 obtain ⟨g,f,c0,rfl,d,e⟩:=N.toSees.gsForm (i:=1) rfl
 have c:f=t.size:=by simpa [pQ] using d.symm
 subst c
 refine zK func71 ntmps71 fun Q hQ a J=>?_
 refine zF ?_
 exact ⟨rfl,N⟩
theorem dJ {b:Nat} {v:Value} {bp:Option Addr} {t:Bs} (N:Mem V (.blk b (ob [.pointer bp,v] 130)::.gs v 5 1 (Lib.strCells t)::K) w) :
  Calls prog 72 #[.pointer (some ⟨b,0,none⟩)] w (fun ee w'=>ee=.returned (.string t)/\Mem V K w'):=by
 obtain ⟨j,h,c0,rfl,d,g⟩:=N.toSees.gsForm (i:=1) rfl
 have c:h=t.size:=by simpa [pQ] using d.symm
 subst c
 refine zK func72 ntmps72 fun Q hQ a J=>?_
 refine go fun a J=>?_
 refine yE [1,1,1,2,0,1,1,1,2,1,0,1] (.q 0 (.q 1 (.q 2 (.q 3 (.q 5 (.q 6 (.q 7 (.q 8 (.q 9 (.e 4 (.e 10 (.q 11 (.done))))))))))))) [0] J N fun w N=>?_
 refine go fun a J=>?_
 refine d_e J rfl rfl rfl (y9d 1 underlying202 J N rfl rfl fun k w f N=>⟨fun _=>N.sn (Fz.Le.refl _),fun a J=>?_⟩)
 refine d_e J rfl rfl rfl (z8x 1 (t:=t) underlying202 (by kernel_rfl) J N f rfl rfl rfl fun w N=>⟨fun _=>N.sn (Fz.Le.refl _),fun a J=>?_⟩)
 replace N:=N.nf
 refine zF ?_
 replace N:=N.dl [0]
 exact ⟨rfl,N⟩
end
theorem grow_ok {V:Fz} {K:List Res} {w:World} {b n:Nat} (h:n<=140737488355328) (N:Mem V (.blk b (ob [.pointer (some ⟨b,0,none⟩),.slice none 0 0] 130)::K) w) :
  Calls prog 170 #[.pointer (some ⟨b,0,none⟩),.int .i64 ((n:Nat):Int)] w (fun ee w'=>∃v2,ee=.returned (.tuple #[])/\True/\Mem V (.blk b (ob [.pointer (some ⟨b,0,none⟩),v2] 130)::.gs v2 5 1 (Lib.strCells ⟨#[]⟩)::K) w'):=by
 refine zK func170 ntmps170 fun Q hQ a J=>?_
 refine go fun a J=>?_
 refine yE [1,1,1,2,1,1,1,1,0,1,1,1,2,1,1,1] (.q 0 (.q 1 (.q 2 (.q 3 (.q 4 (.q 5 (.q 6 (.q 7 (.q 9 (.q 10 (.q 11 (.q 12 (.q 13 (.e 8 (.q 14 (.q 15 (.done))))))))))))))))) [0] J N fun w N=>?_
 refine Qq (fun a J=>?_) (o:=by exact fun J O=>y_cap J rfl runUnderlying128)
 refine Qq (fun a J=>?_) (o:=by exact fun J O=>j9u ((0:Nat):Int) J rfl rfl (by decide))
 refine Qq (fun a J=>?_) (o:=by exact fun J O=>z1m ((n:Nat):Int) J rfl rfl (by rw [yD (by omega)];omega))
 refine go fun a J=>?_
 refine d_e J rfl rfl rfl (y3v (m:=n) J N rfl (by omega) fun g f w d c N=>⟨fun _=>N.sn (Fz.Le.refl _),fun a J=>?_⟩)
 refine Qq (fun a J=>?_) (o:=by exact fun J O=>q7d J rfl rfl runUnderlying128 sizeOf5)
 refine Qq (fun a J=>?_) (o:=by exact fun J O=>j6x J rfl rfl underlying128 (by kernel_rfl) rfl)
 refine Sto 1 fun w N a J=>?_
 replace N:=j5v (i:=0) N rfl c
 replace N:=N.nf
 refine go fun a J=>?_
 replace N:=N.pl 1
 refine hQ _ _ _ (dE J results170 ?_)
 exact ⟨_,rfl,trivial,N⟩
theorem q9m {V:Fz} {K:List Res} {w:World} {b n:Nat} (g:n<=140737488355328) (N:Mem V (.blk b (ob [.pointer none,.slice none 0 0] 130)::K) w) :
  Calls prog 119 #[.pointer (some ⟨b,0,none⟩),.int .i64 ((n:Nat):Int)] w (fun ee w'=>∃v2,ee=.returned (.tuple #[])/\True/\Mem V (.blk b (ob [.pointer (some ⟨b,0,none⟩),v2] 130)::.gs v2 5 1 (Lib.strCells ⟨#[]⟩)::K) w'):=by
 refine zK func119 ntmps119 fun Q hQ a J=>?_
 refine zO call120 (fun w N a J=>?_) (c:=z0a (.inl rfl) rfl rfl N)
 replace N:=N.nf
 have d:¬n < 0:=by omega
 refine Reg [1,1,1,2,1,1,1,1,2,1,1,1,1] [0] fun w N a J=>?_
 refine Qq (fun a J=>?_) (o:=by exact fun J O=>y_cap J rfl runUnderlying128)
 refine Qq (fun a J=>?_) (o:=by exact fun J O=>xX ((0:Nat):Int) J rfl rfl (by decide))
 by_cases f:0 < n
 refine yP call170 (fun h w e N a J=>?_) (c:=grow_ok (by omega) N)
 replace N:=N.nf
 refine go fun a J=>?_
 refine hQ _ _ _ (dE J results119 ?_)
 exact ⟨_,rfl,trivial,N⟩
 refine go fun a J=>?_
 replace N:=N.nilRow 5 1
 replace N:=N.pl 1
 refine hQ _ _ _ (dE J results119 ?_)
 exact ⟨_,rfl,trivial,N⟩
end Go.Sw
