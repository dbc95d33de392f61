import Derived.Laws.IdiomStrings
import Derived.Test.YtgkhcfjooiekkaaGreatDoorX13
set_option linter.unusedVariables false
set_option linter.unusedSimpArgs false
namespace Go.Sw
mutual
theorem z8b:∀(e:Ex) (most:Nat),(jY e most<=most->qU e (most:Int)=(false,(most:Int) - (jY e most:Int)))/\(¬jY e most<=most->(qU e (most:Int)).1=true)
 | .mk k nm s args arms,most=>by
  simp only [jY,qU]
  by_cases f:most=0
  ·subst f
   rw [z2a (by omega),sQ (by omega)]
   exact ⟨fun h=>by omega,fun _=>by rw [if_pos (by omega)]⟩
  ·rw [if_neg (by omega)]
   have h1:=meass_size args most 1 (by omega)
   have a:=sizeRs_le args most 1 (by omega) (by omega)
   rw [show ((most:Int) - 1)=(most:Int) - ((1:Nat):Int) by omega]
   by_cases O:sizeRs args most 1<=most
   ·rw [h1.1 O]
    exact measa_size arms most _ O
   ·rw [sQ O]
    refine ⟨fun g=>absurd g O,fun _=>?_⟩
    have:=h1.2 O
    cases N:meass args ((most:Int) - ((1:Nat):Int)) with
    | mk b q=>rw [N] at this;simp only at this;subst this;rfl
theorem meass_size:∀(es:List Ex) (most n:Nat),n<=most->(sizeRs es most n<=most->meass es ((most:Int) - (n:Int))=(false,(most:Int) - (sizeRs es most n:Int)))/\(¬sizeRs es most n<=most->(meass es ((most:Int) - (n:Int))).1=true)
 | [],most,n,h=>⟨fun _=>rfl,fun g=>absurd h g⟩
 | e::es,most,n,h=>by
  simp only [sizeRs,meass,if_pos h]
  have h1:=z8b e (most - n)
  have hl:=mM e (most - n)
  rw [show ((most:Int) - (n:Int))=((most - n:Nat):Int) by omega]
  by_cases O:jY e (most - n)<=most - n
  ·rw [h1.1 O]
   have a:=meass_size es most (n+jY e (most - n)) (by omega)
   rw [show ((most:Int) - ((n+jY e (most - n):Nat):Int))=((most - n:Nat):Int) - (jY e (most - n):Int) by omega] at a
   exact a
  ·rw [z2a (by omega)]
   refine ⟨fun g=>by omega,fun _=>?_⟩
   have:=h1.2 O
   cases N:qU e ((most - n:Nat):Int) with
   | mk b q=>rw [N] at this;simp only at this;subst this;rfl
theorem measa_size:∀(es:List Arm) (most n:Nat),n<=most->(sizeAr es most n<=most->measa es ((most:Int) - (n:Int))=(false,(most:Int) - (sizeAr es most n:Int)))/\(¬sizeAr es most n<=most->(measa es ((most:Int) - (n:Int))).1=true)
 | [],most,n,h=>⟨fun _=>rfl,fun g=>absurd h g⟩
 | .mk c vs e::es,most,n,h=>by
  simp only [sizeAr,measa,if_pos h]
  by_cases d:16 < vs.length
  ·rw [if_pos d,if_pos d]
   exact ⟨fun g=>by omega,fun _=>rfl⟩
  rw [if_neg d,if_neg d]
  have h1:=z8b e (most - n)
  have hl:=mM e (most - n)
  rw [show ((most:Int) - (n:Int))=((most - n:Nat):Int) by omega]
  by_cases O:jY e (most - n)<=most - n
  ·rw [h1.1 O]
   have a:=measa_size es most (n+jY e (most - n)) (by omega)
   rw [show ((most:Int) - ((n+jY e (most - n):Nat):Int))=((most - n:Nat):Int) - (jY e (most - n):Int) by omega] at a
   exact a
  ·rw [sQ (by omega)]
   refine ⟨fun g=>by omega,fun _=>?_⟩
   have:=h1.2 O
   cases N:qU e ((most - n:Nat):Int) with
   | mk b q=>rw [N] at this;simp only at this;subst this;rfl
end
theorem z9h:∀(fs:List Fun) (n:Nat),6000 < n->gD fs n=true
 | [],n,h=>by simpa [gD] using h
 | f::fs,n,h=>by
  simp only [gD,if_neg (show ¬n<=6000 by omega)]
  split
  ·rfl
  ·exact z9h fs n h
theorem q6i:∀(fs:List Fun) (n:Nat),n<=6000->aN fs ((6000:Int) - (n:Int))=gD fs n
 | [],n,h=>by simp only [aN,gD];exact (decide_eq_false (by omega)).symm
 | f::fs,n,h=>by
  simp only [aN,gD,if_pos h]
  have h1:=z8b f.body (6000 - n)
  have hl:=mM f.body (6000 - n)
  rw [show ((6000:Int) - (n:Int))=((6000 - n:Nat):Int) by omega]
  by_cases a:16 < f.params.length
  ·rw [if_pos a];simp [a]
  ·rw [if_neg a]
   by_cases O:jY f.body (6000 - n)<=6000 - n
   ·rw [h1.1 O]
    have b:=q6i fs (n+jY f.body (6000 - n)) (by omega)
    rw [show ((6000:Int) - ((n+jY f.body (6000 - n):Nat):Int))=((6000 - n:Nat):Int) - (jY f.body (6000 - n):Int) by omega] at b
    rw [b];simp [a]
   ·rw [z9h fs _ (by omega),h1.2 O];simp
theorem q6f (c:Core):sO c=xX c:=by
 unfold sO xX
 have:=q6i c.funs 0 (by omega)
 rw [<- this];rfl
theorem z9f {α:Type}:∀(a b:List (Bs×α)) (n:Bs),zL (a++b) n=match zL a n with | some v=>some v | none=>zL b n
 | [],b,n=>rfl
 | (k,x)::a,b,n=>by
  simp only [List.cons_append,zL]
  by_cases h:n=k
  ·rw [if_pos h,if_pos h]
  ·rw [if_neg h,if_neg h];exact z9f a b n
theorem z3x:∀(l:List Data) (n:Bs),zL (vG Data.name id l) n=vU l n
 | [],n=>rfl
 | d::l,n=>by
  simp only [vG,List.map_cons,zL,vU]
  by_cases h:n=d.name
  ·rw [if_pos h,if_pos h.symm];rfl
  ·rw [if_neg h,if_neg (fun e=>h e.symm)];exact z3x l n
theorem z3y (ds:List Data) (n:Bs):zL (vG Data.name id (truthsD::ds)) n=qD ds n:=by
 have h:truthsD.name=vV:=rfl
 rw [z3x,vU,qD,h]
 by_cases a:n=vV
 ·rw [if_pos a.symm,if_pos a]
 ·rw [if_neg (fun e=>a e.symm),if_neg a]
theorem y8m {β:Type} (f:Con->β):∀(l:List Con) (n:Bs),zL (vG Con.name f l) n=(pB l n).map f
 | [],n=>rfl
 | x::l,n=>by
  simp only [vG,List.map_cons,zL,pB]
  by_cases h:n=x.name
  ·rw [if_pos h,if_pos h.symm];rfl
  ·rw [if_neg h,if_neg (fun e=>h e.symm)];exact y8m f l n
theorem z1r:∀(l:List Data) (n:Bs),zL (z0n l) n=wU l n
 | [],n=>rfl
 | d::l,n=>by
  simp only [z0n,List.map_cons,List.flatten_cons,wU]
  rw [z9f,y8m]
  cases pB d.cons n with
  | some x=>rfl
  | none=>exact z1r l n
theorem q5t:∀(l:List Param) (n:Bs),zL (vG Param.name Param.type l) n=z7t l n
 | [],n=>rfl
 | d::l,n=>by
  simp only [vG,List.map_cons,zL,z7t]
  by_cases h:n=d.name
  ·rw [if_pos h,if_pos h.symm]
  ·rw [if_neg h,if_neg (fun e=>h e.symm)];exact q5t l n
theorem y9g:∀(l:List Fun) (n:Bs) (k:Nat),(match z0q l n k with | some j=>k<=j/\l[j - k]? = zL (vG Fun.name id l) n/\j - k < l.length | none=>zL (vG Fun.name id l) n=none)
 | [],n,k=>rfl
 | f::l,n,k=>by
  simp only [vG,List.map_cons,zL,z0q]
  by_cases h:n=f.name
  ·rw [if_pos h,if_pos h.symm]
   simp
  ·rw [if_neg h,if_neg (fun e=>h e.symm)]
   have a:=y9g l n (k+1)
   cases b:z0q l n (k+1) with
   | none=>rw [b] at a;exact a
   | some j=>
    rw [b] at a
    simp only at a ⊢
    obtain ⟨h1,c,d⟩:=a
    refine ⟨by omega,?_,by simp only [lcQ];omega⟩
    rw [show j - k=(j - (k+1))+1 by omega,List.getElem?_cons_succ];exact c
theorem j7d (l:List Fun) (n:Bs):(match gL l n with | some j=>l[j]? | none=>none)=zL (vG Fun.name id l) n:=by
 have:=y9g l n 0
 unfold gL
 cases a:z0q l n 0 with
 | none=>rw [a] at this;exact this.symm
 | some j=>rw [a] at this;exact this.2.1
theorem j5c (dn:Bs):∀{l:List Con} {m:List (Bs×Maker)},(∀x∈l,qC x.name=true/\zL m x.name=none)->(l.map Con.name).Nodup->(xR dn true m l).1=true
 | [],m,_,_=>rfl
 | x::l,m,h,a=>by
  have b:=h x msQ
  simp only [xR,b.1,Bool.and_self,if_true,b.2,Option.isNone_none,nX b.2]
  simp only [List.map_cons,List.nodup_cons] at a
  refine j5c dn (fun y c=>⟨(h y (mcQ _ c)).1,?_⟩) a.2
  rw [aM (h y (mcQ _ c)).2]
  exact lget_single.2 (fun e=>a.1 (by rw [<- e];exact List.mem_map_of_mem c))
theorem j5f:∀{l:List Param} {m:List (Bs×Bs)},(∀f∈l,qF f.name=true/\zL m f.name=none)->(l.map Param.name).Nodup->(tE true m l).1=true
 | [],m,_,_=>rfl
 | x::l,m,h,a=>by
  have b:=h x msQ
  simp only [tE,b.1,Bool.and_self,if_true,b.2,Option.isNone_none,nX b.2]
  simp only [List.map_cons,List.nodup_cons] at a
  refine j5f (fun y c=>⟨(h y (mcQ _ c)).1,?_⟩) a.2
  rw [aM (h y (mcQ _ c)).2]
  exact lget_single.2 (fun e=>a.1 (by rw [<- e];exact List.mem_map_of_mem c))
theorem j6x {β α:Type} {key:β->Bs} {val:β->α} {l:List β} {n:Bs} (h:n∉l.map key):zL (vG key val l) n=none:=by
 cases a:zL (vG key val l) n with
 | none=>rfl
 | some v=>obtain ⟨x,b,e,_⟩:=xM a;exact absurd (e▸List.mem_map_of_mem b) h
theorem j5d:∀{l:List Data} {ds:List (Bs×Data)} {m:List (Bs×Maker)},
  (∀d∈l,qC d.name=true/\d.name≠yB/\zL ds d.name=none/\0 < d.cons.length/\∀x∈d.cons,qC x.name=true/\zL m x.name=none)->(l.map Data.name).Nodup ->
  ((l.map fun d=>d.cons.map Con.name).flatten).Nodup->(tC true ds m l).1=true
 | [],ds,m,_,_,_=>rfl
 | d::l,ds,m,h,a,k=>by
  obtain ⟨h1,g,i,p,q⟩:=h d msQ
  simp only [List.map_cons,List.nodup_cons] at a
  simp only [List.map_cons,List.flatten_cons] at k
  have hc':=zU k
  have b:aA true ds d=true:=by simp [aA,h1,g,i,p]
  have r:pO true ds d=ds++[(d.name,d)]:=by
   unfold pO
   rw [if_pos (by simp [h1,g])]
   exact nX i
  simp only [tC,b,r]
  have j:=j5c d.name q hc'.1
  obtain ⟨_,o,_,_⟩:=z2e d.name j
  rw [j,o]
  refine j5d (fun e J=>?_) a.2 hc'.2.1
  obtain ⟨s,t,u,v,n⟩:=h e (mcQ _ J)
  refine ⟨s,t,?_,v,fun x c=>⟨(n x c).1,?_⟩⟩
  ·rw [aM u]
   exact lget_single.2 (fun e'=>a.1 (by rw [<- e'];exact List.mem_map_of_mem J))
  ·rw [aM (n x c).2]
   refine j6x (fun N=>hc'.2.2 _ N ?_)
   exact List.mem_flatten.2 ⟨_,List.mem_map_of_mem (f:=fun d:Data=>d.cons.map Con.name) J,List.mem_map_of_mem c⟩
structure Tabled (c:Core):Prop where
 dN:∀d∈c.datas,qC d.name=true/\d.name≠yB/\d.name≠vV/\0 < d.cons.length/\∀x∈d.cons,qC x.name=true/\x.name≠sB/\x.name≠z1y
 dU:(c.datas.map Data.name).Nodup
 cU:((c.datas.map fun d=>d.cons.map Con.name).flatten).Nodup
 fN:∀f∈c.funs,qF f.name=true
 fU:(c.funs.map Fun.name).Nodup
 iN:∀p∈c.inputs,qF p.name=true
 iU:(c.inputs.map Param.name).Nodup
theorem z0g:truthsD.cons.map Con.name=[sB,z1y]:=rfl
theorem uE {c:Core} (h:Tabled c):wY c=true:=by
 unfold wY isP
 have a:(dsP c).1=true:=by
  unfold dsP
  refine j5d (fun d a=>?_) ?_ ?_
  ·rcases List.mem_cons.1 a with rfl | a
   ·refine ⟨by decide,by decide,rfl,by decide,fun x g=>⟨?_,rfl⟩⟩
    simp only [truthsD,List.mem_cons,List.not_mem_nil,or_false] at g
    rcases g with rfl | rfl <;> decide
   ·obtain ⟨h1,k,s,l,o⟩:=h.dN d a
    exact ⟨h1,k,rfl,l,fun x g=>⟨(o x g).1,rfl⟩⟩
  ·simp only [List.map_cons,List.nodup_cons]
   refine ⟨fun N=>?_,h.dU⟩
   obtain ⟨d,a,e⟩:=List.mem_map.1 N
   exact (h.dN d a).2.2.1 e
  ·simp only [List.map_cons,List.flatten_cons]
   rw [List.nodup_append]
   refine ⟨by rw [z0g];decide,h.cU,fun n b m N e=>?_⟩
   subst e
   obtain ⟨ns,j,g⟩:=List.mem_flatten.1 N
   obtain ⟨d,a,rfl⟩:=List.mem_map.1 j
   obtain ⟨y,r,rfl⟩:=List.mem_map.1 g
   have:=((h.dN d a).2.2.2.2 y r).2
   rw [z0g] at b
   simp only [List.mem_cons,List.not_mem_nil,or_false] at b
   rcases b with b | b
   ·exact this.1 b
   ·exact this.2 b
 have i:(fsP c).1=true:=by unfold fsP;rw [a];exact j5e (fun f i=>⟨h.fN f i,rfl⟩) h.fU
 rw [i]
 exact j5f (fun p q=>⟨h.iN p q,rfl⟩) h.iU
theorem q7z:∀{l:List Data} {ok:Bool} {ds:List (Bs×Data)} {m:List (Bs×Maker)},(tC ok ds m l).1=true->∀d∈l,0 < d.cons.length
 | [],_,_,_,_,_,a=>by cases a
 | e::l,ok,ds,m,h,d,a=>by
  simp only [tC] at h
  rcases List.mem_cons.1 a with rfl | a
  ·have g1:=(z2e _ (z2f h).1).1
   simp only [aA,baQ,decide_eq_true_eq] at g1
   exact g1.2
  ·exact q7z h d a
theorem sC {c:Core} (h:wY c=true):Tabled c/\(zI c).datas=vG Data.name id (truthsD::c.datas)/\(zI c).cons=z0n (truthsD::c.datas)/\(zI c).funs=vG Fun.name id c.funs/\(zI c).inputs=vG Param.name Param.type c.inputs:=by
 obtain ⟨s,i2,i3,i4⟩:=uD (show (tE (fsP c).1 [] c.inputs).1=true from h)
 obtain ⟨l,m,n,o⟩:=uC (show (tD (dsP c).1 [] c.funs).1=true from s)
 have k:=(show (tC true [] [] (truthsD::c.datas)).1=true from l)
 obtain ⟨_,d2,d3,d4,i,j⟩:=z2f k
 have a:=q7z k
 simp only [List.map_cons,List.nodup_cons] at i
 simp only [List.map_cons,List.flatten_cons] at j
 have d6':=zU j
 refine ⟨{ dN:=fun d b=>?_,dU:=i.2,cU:=d6'.2.1,fN:=fun f q=>(n f q).1,fU:=o,iN:=fun p r=>(i3 p r).1,iU:=i4 },d2,d3,m,i2⟩
 obtain ⟨t,u,_,_,v⟩:=d4 d (mcQ _ b)
 have g:∀x∈d.cons,x.name∉[sB,z1y]:=fun x g N=>d6'.2.2 x.name (by rw [z0g];exact N)
  (List.mem_flatten.2 ⟨_,List.mem_map_of_mem (f:=fun d:Data=>d.cons.map Con.name) b,List.mem_map_of_mem g⟩)
 refine ⟨t,u,fun e=>i.1 (by rw [show truthsD.name=d.name from e.symm];exact List.mem_map_of_mem b),a d (mcQ _ b),fun x N=>⟨(v x N).1,fun e=>?_,fun e=>?_⟩⟩
 ·exact g x N (by rw [e];simp)
 ·exact g x N (by rw [e];simp)
theorem y8o (ds:List Data):∀{l:List Con} {seen:List Bs},z0o ds l seen=true↔(∀x∈l,qC x.name=true/\x.name∉seen/\x.fields.all (jP ds)=true)/\(l.map Con.name).Nodup
 | [],seen=>by simp [z0o]
 | x::l,seen=>by
  simp only [z0o,baQ,y8o ds (l:=l),j3p,Bool.not_eq_true',List.map_cons,List.nodup_cons,List.mem_cons]
  have O:sG seen x.name=false↔x.name∉seen:=by rw [<- z5h (l:=seen)];simp
  rw [O]
  constructor
  ·rintro ⟨⟨⟨h1,f⟩,h⟩,i,j⟩
   refine ⟨fun y d=>?_,fun N=>?_,j⟩
   ·rcases d with rfl | d
    ·exact ⟨h1,f,h⟩
    ·obtain ⟨a,b,c⟩:=i y d
     exact ⟨a,fun g=>b (by simp [g]),c⟩
   ·obtain ⟨y,d,e⟩:=List.mem_map.1 N
    exact (i y d).2.1 (by simp [e])
  ·rintro ⟨h1,f,h⟩
   obtain ⟨a,b,c⟩:=h1 x (.inl rfl)
   refine ⟨⟨⟨a,b⟩,c⟩,fun y d=>?_,h⟩
   obtain ⟨a',b',c'⟩:=h1 y (.inr d)
   refine ⟨a',fun g=>?_,c'⟩
   rcases List.mem_append.1 g with g | g
   ·exact b' g
   ·simp only [List.mem_cons,List.not_mem_nil,or_false] at g
    exact f (by rw [<- g];exact List.mem_map_of_mem d)
theorem z3z (ds:List Data):∀{l:List Data} {names cons:List Bs},cM ds l names cons=true ↔
  (∀d∈l,qC d.name=true/\d.name∉names/\0 < d.cons.length/\∀x∈d.cons,qC x.name=true/\x.name∉cons/\x.fields.all (jP ds)=true)/\(l.map Data.name).Nodup/\((l.map fun d=>d.cons.map Con.name).flatten).Nodup
 | [],names,cons=>by simp [cM]
 | d::l,names,cons=>by
  simp only [cM,baQ,z3z ds (l:=l),y8o,j3p,Bool.not_eq_true',List.map_cons,List.nodup_cons,List.mem_cons,List.flatten_cons,decide_eq_true_eq]
  have O:sG names d.name=false↔d.name∉names:=by rw [<- z5h (l:=names)];simp
  rw [O,List.nodup_append]
  constructor
  ·rintro ⟨⟨⟨⟨h1,j⟩,r⟩,o,p⟩,i,s,t⟩
   refine ⟨fun e J=>?_,⟨fun N=>?_,s⟩,p,t,fun n u m N e=>?_⟩
   ·rcases J with rfl | J
    ·exact ⟨h1,j,by omega,o⟩
    ·obtain ⟨a,b,c,k⟩:=i e J
     exact ⟨a,fun g=>b (by simp [g]),c,fun x h=>⟨(k x h).1,fun g=>(k x h).2.1 (by simp [g]),(k x h).2.2⟩⟩
   ·obtain ⟨e,J,ee⟩:=List.mem_map.1 N
    exact (i e J).2.1 (by simp [ee])
   ·subst e
    obtain ⟨ns,q,h⟩:=List.mem_flatten.1 N
    obtain ⟨e,J,rfl⟩:=List.mem_map.1 q
    obtain ⟨y,v,rfl⟩:=List.mem_map.1 h
    exact ((i e J).2.2.2 y v).2.1 (List.mem_append.2 (.inr u))
  ·rintro ⟨h1,⟨j,r⟩,o,p,i⟩
   obtain ⟨a,b,c,k⟩:=h1 d (.inl rfl)
   refine ⟨⟨⟨⟨a,b⟩,by omega⟩,k,o⟩,fun e J=>?_,r,p⟩
   obtain ⟨a',b',c',k'⟩:=h1 e (.inr J)
   refine ⟨a',fun g=>?_,c',fun x h=>⟨(k' x h).1,fun g=>?_,(k' x h).2.2⟩⟩
   ·rcases List.mem_append.1 g with g | g
    ·exact b' g
    ·simp only [List.mem_cons,List.not_mem_nil,or_false] at g
     exact j (by rw [<- g];exact List.mem_map_of_mem J)
   ·rcases List.mem_append.1 g with g | g
    ·exact (k' x h).2.1 g
    ·exact i _ g _ (List.mem_flatten.2 ⟨_,List.mem_map_of_mem (f:=fun d:Data=>d.cons.map Con.name) J,List.mem_map_of_mem h⟩) rfl
def aT (e:Ex):Prop:=(e.kind≠7/\0 < e.arms.length)∨(e.kind≠1/\e.num≠0)
def tyR (c:Core) (e:Ex) (vars:List Param):Option (List Bs×Bs)->Bs×Bool
 | none=>noT
 | some w=>if w.1=(typesR c e.args vars).1 then (w.2,true) else noT
theorem dX (c:Core) (e:Ex) (vars:List Param):zO c e vars =
  if (e.kind≠7/\0 < e.arms.length)∨(e.kind≠1/\e.num≠0) then noT
  else if e.kind=1 then (yB,decide (e.name=sNo)&&decide (e.args.length=0))
  else if e.kind=2 then (match gC vars e.name with | some t=>(t,decide (e.args.length=0)) | none=>noT)
  else if e.kind=3 then (match z7t c.inputs e.name with | some t=>(t,decide (e.args.length=0)) | none=>noT)
  else if e.kind=6 then letR c e.name e.args vars
  else if e.kind=7 then (if e.args.length≠1∨e.name≠sNo then noT
   else if (firstR c e.args vars).2=false then noT
   else match qD c.datas (firstR c e.args vars).1 with
    | none=>noT
    | some d=>if d.cons.length≠e.arms.length then noT else armsR c e.arms d.cons true sNo vars)
  else if (typesR c e.args vars).2=false then noT
  else tyR c e vars (wK c e.kind e.name):=by cases e;rfl
def mV (c:Core) (e:Ex) (vars:List Param):Bs×Bool :=
 if e.args.length≠1∨e.name≠sNo then noT
 else if (firstR c e.args vars).2=false then noT
 else match qD c.datas (firstR c e.args vars).1 with
  | none=>noT
  | some d=>if d.cons.length≠e.arms.length then noT else armsR c e.arms d.cons true sNo vars
section
variable {c:Core} {e:Ex} {vars:List Param}
theorem z6m (h:aT e):zO c e vars=noT:=by rw [dX];exact if_pos h
theorem q3p (O:¬aT e) (h:e.kind=1):zO c e vars=(yB,decide (e.name=sNo)&&decide (e.args.length=0)):=by rw [dX,if_neg (show ¬((e.kind≠7/\0 < e.arms.length)∨(e.kind≠1/\e.num≠0)) from O),if_pos h]
theorem q3q (O:¬aT e) (h:e.kind=2):zO c e vars=(match gC vars e.name with | some t=>(t,decide (e.args.length=0)) | none=>noT):=by
 rw [dX,if_neg (show ¬((e.kind≠7/\0 < e.arms.length)∨(e.kind≠1/\e.num≠0)) from O),if_neg (by omega),if_pos h]
theorem q3r (O:¬aT e) (h:e.kind=3):zO c e vars=(match z7t c.inputs e.name with | some t=>(t,decide (e.args.length=0)) | none=>noT):=by
 rw [dX,if_neg (show ¬((e.kind≠7/\0 < e.arms.length)∨(e.kind≠1/\e.num≠0)) from O),if_neg (by omega),if_neg (by omega),if_pos h]
theorem z3e (O:¬aT e) (h:e.kind=6):zO c e vars=letR c e.name e.args vars:=by
 rw [dX,if_neg (show ¬((e.kind≠7/\0 < e.arms.length)∨(e.kind≠1/\e.num≠0)) from O),if_neg (by omega),if_neg (by omega),if_neg (by omega),if_pos h]
theorem j5k (O:¬aT e) (h:e.kind=7):zO c e vars=mV c e vars:=by
 rw [dX,if_neg (show ¬((e.kind≠7/\0 < e.arms.length)∨(e.kind≠1/\e.num≠0)) from O),if_neg (by omega),if_neg (by omega),if_neg (by omega),if_neg (by omega),if_pos h];rfl
theorem y0j (O:¬aT e) (h1:¬e.kind=1) (a:¬e.kind=2) (b:¬e.kind=3) (d:¬e.kind=6) (f:¬e.kind=7) :
  zO c e vars=if (typesR c e.args vars).2=false then noT else tyR c e vars (wK c e.kind e.name):=by
 rw [dX,if_neg (show ¬((e.kind≠7/\0 < e.arms.length)∨(e.kind≠1/\e.num≠0)) from O),if_neg h1,if_neg a,if_neg b,if_neg d,if_neg f]
theorem j9l (O:¬aT e) (h1:¬e.kind=1) (a:¬e.kind=2) (b:¬e.kind=3) (d:¬e.kind=6) (f:¬e.kind=7) (h:(typesR c e.args vars).2=false):zO c e vars=noT:=by
 rw [y0j O h1 a b d f,if_pos h]
theorem z0h (O:¬aT e) (h1:¬e.kind=1) (a:¬e.kind=2) (b:¬e.kind=3) (d:¬e.kind=6) (f:¬e.kind=7) (h:wK c e.kind e.name=none):zO c e vars=noT:=by
 rw [y0j O h1 a b d f,h];split <;> rfl
theorem z4j (O:¬aT e) (h1:¬e.kind=1) (b:¬e.kind=2) (d:¬e.kind=3) (f:¬e.kind=6) (g:¬e.kind=7) {wl ts:List Bs} {o:Bs} (h:wK c e.kind e.name=some (wl,o)) (a:typesR c e.args vars=(ts,true)):zO c e vars=if wl=ts then (o,true) else noT:=by
 rw [y0j O h1 b d f g,h,a,if_neg (by simp)];simp only [tyR,a]
theorem want_4 (h:e.kind=4):wK c e.kind e.name=(nK c.datas e.name).map fun m=>(m.con.fields,m.data):=by rw [wK,if_pos h]
theorem want_5 (h:e.kind=5):wK c e.kind e.name=(match gL c.funs e.name with | none=>none | some i=>(c.funs[i]?).map fun f=>(f.params.map Param.type,f.result)):=by rw [wK,if_neg (by omega),if_pos h];rfl
theorem q3t (h:e.kind=8):wK c e.kind e.name=(opR e.name).map fun t=>([yB,yB],t):=by rw [wK,if_neg (by omega),if_neg (by omega),if_pos h]
theorem want_no (a:¬e.kind=4) (b:¬e.kind=5) (d:¬e.kind=8):wK c e.kind e.name=none:=by rw [wK,if_neg a,if_neg b,if_neg d]
theorem j4m {n:Bs} {l:List Ex} (h:¬l.length=2):letR c n l vars=noT:=by
 cases l with
 | nil=>rfl
 | cons a l=>simp only [letR];rw [if_pos (.inr (by simp only [lcQ] at h;omega))]
theorem j4v {α:Type} {l:List α} (h:l.length=2) {x y:α} (b:l[0]? = some x) (c:l[1]? = some y):l=[x,y]:=by
 have a:l=x::l.drop 1:=zA b
 have h1:l.drop 1=y::l.drop 2:=zA c
 exact a.trans (by rw [h1,List.drop_of_length_le (by omega)])
theorem z5i {α:Type} {l:List α} {x:α} (a:l[0]? = some x):l=x::l.drop 1:=zA a
theorem y3t {n:Bs} {l:List Ex} {x:Ex} (a:l[0]? = some x) (h:(zO c x vars).2=false):letR c n l vars=noT:=by
 rw [z5i a];simp only [letR];rw [if_pos (.inl h)]
theorem z5q {n:Bs} {l:List Ex} {x y:Ex} (h:l.length=2) (a:l[0]? = some x) (b:l[1]? = some y) (h1:(zO c x vars).2=true):letR c n l vars=zO c y (vars++[⟨n,(zO c x vars).1⟩]):=by
 rw [j4v h a b];simp only [letR,firstR];rw [if_neg (by simp [h1])]
theorem z9s (x:Ex) (xs:List Ex):typesR c (x::xs) vars=if (zO c x vars).2=false then ([],false) else ((zO c x vars).1::(typesR c xs vars).1,(typesR c xs vars).2):=rfl
theorem nH (a:Arm) (az:List Arm) (x:Con) (cs:List Con) (first:Bool) (out:Bs):armsR c (a::az) (x::cs) first out vars =
  if a.con≠x.name∨a.vars.length≠x.fields.length then noT
  else if (zO c a.body (vars++jB a.vars x.fields)).2=false∨(first=false/\(zO c a.body (vars++jB a.vars x.fields)).1≠out) then noT
  else armsR c az cs false (zO c a.body (vars++jB a.vars x.fields)).1 vars:=by cases a;rfl
theorem q4t (h:e.args.length≠1∨e.name≠sNo):mV c e vars=noT:=if_pos h
theorem z6w {x:Ex} (h:¬(e.args.length≠1∨e.name≠sNo)) (f:e.args[0]? = some x) (h1:(zO c x vars).2=false∨(qD c.datas (zO c x vars).1).isSome=false∨((qD c.datas (zO c x vars).1).getD z4f).cons.length≠e.arms.length):mV c e vars=noT:=by
 have b:firstR c e.args vars=zO c x vars:=by rw [z5i f];rfl
 unfold mV
 rw [if_neg h,b]
 by_cases g:(zO c x vars).2=false
 ·rw [if_pos g]
 ·rw [if_neg g]
  have g:=h1.resolve_left g
  cases a:qD c.datas (zO c x vars).1 with
  | none=>rfl
  | some d=>
   rw [a] at g
   exact if_pos (g.resolve_left (by simp))
theorem x0s {x:Ex} (h:¬(e.args.length≠1∨e.name≠sNo)) (j:e.args[0]? = some x) (h1:(zO c x vars).2=true) (a:(qD c.datas (zO c x vars).1).isSome=true) (b:((qD c.datas (zO c x vars).1).getD z4f).cons.length=e.arms.length) :
  mV c e vars=armsR c e.arms ((qD c.datas (zO c x vars).1).getD z4f).cons true sNo vars:=by
 have i:firstR c e.args vars=zO c x vars:=by rw [z5i j];rfl
 unfold mV
 rw [if_neg h,i,if_neg (by simp [h1])]
 cases f:qD c.datas (zO c x vars).1 with
 | none=>rw [f] at a;cases a
 | some d=>
  rw [f] at b
  exact if_neg (fun g=>g b)
end
theorem q8f {vs fs:List Bs} {k:Nat} {v f:Bs} (b:vs[k]? = some v) (a:fs[k]? = some f):jB (vs.take (k+1)) (fs.take (k+1))=jB (vs.take k) (fs.take k)++[⟨v,f⟩]:=by
 have h1:=(List.getElem?_eq_some_iff.1 b).1
 have c:=(List.getElem?_eq_some_iff.1 a).1
 rw [xI b,xI a]
 unfold jB
 rw [List.zip_append (by simp only [List.length_take];omega)]
 simp
theorem q5m {l:List Fun} {n:Bs} {j:Nat} (h:gL l n=some j):j < l.length:=by
 have:∀(l:List Fun) (k:Nat),z0q l n k=some j->k<=j/\j < k+l.length:=by
  intro l
  induction l with
  | nil=>intro k h;cases h
  | cons f l a=>
   intro k h
   simp only [z0q] at h
   split at h
   ·cases h;simp
   ·have:=a _ h;simp only [lcQ];omega
 have:=this l 0 h
 omega
theorem z9c {fs:List Fun} {n:Bs} (h:¬aJ fs n < 0):∃j,gL fs n=some j:=by
 unfold aJ at h
 cases a:gL fs n with
 | none=>rw [a] at h;exact absurd (by decide) h
 | some j=>exact ⟨j,rfl⟩
theorem y0w:∀{es:List Ex} {x:Ex},x∈es->(zQ x).length<=(bindPs es).length
 | e::es,x,h=>by
  simp only [bindPs,laQ]
  rcases List.mem_cons.1 h with rfl | h
  ·omega
  ·have:=y0w h;omega
theorem y0v:∀{es:List Arm} {a:Arm},a∈es->a.vars.length+(zQ a.body).length<=(bindPa es).length
 | e::es,x,h=>by
  rw [qA]
  simp only [laQ]
  rcases List.mem_cons.1 h with rfl | h
  ·omega
  ·have:=y0v h;omega
theorem tJ {e x:Ex} (h:x∈e.args):(zQ x).length+(if e.kind=6 then 1 else 0)<=(zQ e).length:=by
 have:=y0w h
 rw [wD e]
 simp only [laQ]
 split <;> simp only [lcQ,lnQ] <;> omega
theorem q4n {e:Ex} {a:Arm} (h:a∈e.arms):a.vars.length+(zQ a.body).length<=(zQ e).length:=by
 have:=y0v h
 rw [wD e]
 simp only [laQ];omega
def Lim (c:Core):Prop:=c.datas.length<=1000/\∀f∈c.funs,f.params.length<=1000
end Go.Sw

namespace Go.Sw
structure Fit (T:Table) (c:Core):Prop where
 ds:∀n,zL T.datas n=qD c.datas n
 cs:∀n,zL T.cons n=nK c.datas n
 fs:∀n,zL T.funs n=(match gL c.funs n with | some j=>c.funs[j]? | none=>none)
 is:∀n,zL T.inputs n=z7t c.inputs n
 no:zL T.datas sNo=none
 pos:∀n d,zL T.datas n=some d->0 < d.cons.length/\∀x∈d.cons,∀f∈x.fields,f≠sNo
 mks:∀n m,zL T.cons n=some m->m.data≠sNo
 rs:∀n f,zL T.funs n=some f->f.result≠sNo
 it:∀n t,zL T.inputs n=some t->t≠sNo
structure Rel (s:Scope) (vars:List Param):Prop where
 get:∀n,zL s n=gC vars n
 nz:∀p∈vars,p.type≠sNo
theorem Rel.put {s:Scope} {vars:List Param} (h:Rel s vars) {v f:Bs} (a:f≠sNo):Rel (wL s v f) (vars++[⟨v,f⟩]) where
 get n:=by
  rw [kC,z1m,h.get]
  by_cases e:n=v
  ·rw [if_pos e,if_pos e.symm]
  ·rw [if_neg e,if_neg (fun g=>e g.symm)]
 nz p b:=by
  rcases List.mem_append.1 b with g | g
  ·exact h.nz p g
  ·simp only [List.mem_cons,List.not_mem_nil,or_false] at g;subst g;exact a
theorem Rel.putAll:∀{vs fs:List Bs} {s:Scope} {vars:List Param},Rel s vars->(∀f∈fs,f≠sNo)->Rel (putAll s vs fs) (vars++jB vs fs)
 | [],fs,_,_,h,_=>by rw [xD];simpa [jB] using h
 | _::_,[],_,_,h,_=>by simpa [jB,Go.Sw.putAll] using h
 | v::vs,f::fs,_,vars,h,a=>by
  rw [nY,show vars++jB (v::vs) (f::fs)=(vars++[⟨v,f⟩])++jB vs fs by simp [jB]]
  exact (h.put (a f msQ)).putAll (fun g b=>a g (mcQ _ b))
theorem j0q {ps:List Param} {n t:Bs}:∀(r:Option Bs),(ps.foldl (fun r p=>if p.name=n then some p.type else r) r)=some t->(∃p∈ps,p.type=t)∨r=some t:=by
 induction ps with
 | nil=>intro r h;exact .inr h
 | cons p ps a=>
  intro r h
  rcases a _ h with ⟨q,hq,e⟩ | h
  ·exact .inl ⟨q,mcQ _ hq,e⟩
  ·change (if p.name=n then some p.type else r)=some t at h
   split at h
   ·cases h;exact .inl ⟨p,msQ,rfl⟩
   ·exact .inr h
theorem Rel.ne {s:Scope} {vars:List Param} (h:Rel s vars) {n t:Bs} (g:gC vars n=some t):t≠sNo:=by
 rcases j0q none g with ⟨p,a,rfl⟩ | g
 ·exact h.nz p a
 ·cases g
def Alk (x:Bs) (r:Bs×Bool):Prop:=(r.2=true->x=r.1/\r.1≠sNo)/\(r.2=false->x=sNo)
theorem Alk.no {x:Bs} (h:x=sNo):Alk x noT:=⟨fun g=>(by cases g),fun _=>h⟩
theorem Alk.iff {x:Bs} {r:Bs×Bool} (h:Alk x r):x=sNo↔r.2=false:=by
 cases hr:r.2 with
 | true=>have:=h.1 hr;exact ⟨fun e=>absurd (this.1▸e) this.2,fun e=>by cases e⟩
 | false=>exact ⟨fun _=>rfl,fun _=>h.2 hr⟩
def RT (T:Table) (c:Core) (e:Ex):Prop:=∀s vars,Rel s vars->(zQ e).Nodup->Fresh s (zQ e)->Alk (zG T e s).1 (zO c e vars)
theorem z3s {c:Core}:∀{xs:List Ex} {vars:List Param},(typesR c xs vars).2=true->(typesR c xs vars).1.length=xs.length
 | [],_,_=>rfl
 | x::xs,vars,h=>by
  simp only [typesR] at h ⊢
  split at h
  ·cases h
  ·rename_i a;rw [if_neg a];simp only [lcQ];rw [z3s h]
theorem y0o {T:Table} {c:Core}:∀{xs:List Ex} {s:Scope} {vars:List Param} {ts:List Bs},(∀x∈xs,mZ T x)->(∀x∈xs,RT T c x)->Rel s vars->xs.length=ts.length->(bindPs xs).Nodup->Fresh s (bindPs xs) ->
  ((allQ T xs s ts).1=true↔(typesR c xs vars).2=true/\ts=(typesR c xs vars).1)
 | [],_,_,[],_,_,_,_,_,_=>by simp [allQ,typesR]
 | x::xs,s,vars,t::ts,k,l,hr,hl,q,i=>by
  have hn':=zU (show (zQ x++bindPs xs).Nodup from q)
  have fs:=i.sub (m:=zQ x) fun n h=>List.mem_append.2 (.inl h)
  have o:=l x msQ s vars hr hn'.1 fs
  have j:=o.iff
  rw [z2n]
  simp only [typesR]
  by_cases h1:(zG T x s).1=sNo
  ·rw [if_pos (.inl h1),if_pos (j.1 h1)];simp
  ·have d:(zO c x vars).2=true:=by cases h:(zO c x vars).2 with | true=>rfl | false=>exact absurd (j.2 h) h1
   have f:=o.1 d
   rw [if_neg (show ¬(zO c x vars).2=false by simp [d])]
   by_cases a:(zG T x s).1=t
   ·rw [if_neg (fun e=>e.elim h1 (fun g=>g a))]
    have p:=k x msQ s hn'.1 fs h1
    rw [p,y0o (fun y b=>k y (mcQ _ b)) (fun y b=>l y (mcQ _ b)) hr (by simpa using hl) hn'.2.1 (i.sub fun n h=>List.mem_append.2 (.inr h))]
    simp only [List.cons.injEq,<- f.1,a,true_and]
   ·rw [if_pos (.inr a)]
    simp only [Bool.false_eq_true,List.cons.injEq,false_iff,<- f.1]
    exact fun g=>a g.2.1.symm
 | [],_,_,_::_,_,_,_,hl,_,_=>by simp at hl
 | _::_,_,_,[],_,_,_,hl,_,_=>by simp at hl
theorem q9b {T:Table} {c:Core} {xs:List Ex} {s:Scope} {vars:List Param} {ts:List Bs} (d:∀x∈xs,mZ T x) (f:∀x∈xs,RT T c x) (hr:Rel s vars) (e:(bindPs xs).Nodup) (b:Fresh s (bindPs xs)) :
  (xU T xs s ts).1=true↔(typesR c xs vars).2=true/\ts=(typesR c xs vars).1:=by
 unfold xU
 split
 ·rename_i hl;exact y0o d f hr hl e b
 ·rename_i hl
  simp only [Bool.false_eq_true,false_iff]
  rintro ⟨h1,a⟩
  rw [a,z3s h1] at hl
  exact hl rfl
theorem y8f {T:Table} {c:Core}:∀{az:List Arm} {cs:List Con} {first:Bool} {out:Bs} {s:Scope} {vars:List Param},(∀a∈az,mZ T a.body)->(∀a∈az,RT T c a.body)->Rel s vars->cs.length=az.length ->
  (∀x∈cs,∀f∈x.fields,f≠sNo)->(bindPa az).Nodup->Fresh s (bindPa az)->(az=[]->out≠sNo)->Alk (splitP T az cs first out s).1 (armsR c az cs first out vars)
 | [],[],_,out,_,_,_,_,_,_,_,_,_,h=>⟨fun _=>⟨rfl,h rfl⟩,fun g=>by cases g⟩
 | a::az,x::cs,first,out,s,vars,p,r,hr,hl,t,q,l,_=>by
  rw [qA] at q l
  have hn':=zU q
  have hn'':=zU hn'.1
  rw [qZ,nH]
  by_cases d:a.con≠x.name∨a.vars.length≠x.fields.length
  ·rw [if_pos d,if_pos d];exact .no rfl
  ·rw [if_neg d,if_neg d]
   have fs:Fresh s (a.vars++zQ a.body):=l.sub fun n h=>List.mem_append.2 (.inl h)
   have hb:Alk (mX T a x s).1 (zO c a.body (vars++jB a.vars x.fields)) :=
    r _ msQ (putAll s a.vars x.fields) _ (hr.putAll (t x msQ)) hn''.2.1 (fun n hb=>by
     rw [xZ (fun N=>hn''.2.2 n N hb)];exact fs n (List.mem_append.2 (.inr hb)))
   have o:=hb.iff
   by_cases h1:(mX T a x s).1=sNo
   ·rw [if_pos (.inl h1),if_pos (.inl (o.1 h1))];exact .no rfl
   ·have m:(zO c a.body (vars++jB a.vars x.fields)).2=true:=by cases h:(zO c a.body (vars++jB a.vars x.fields)).2 with | true=>rfl | false=>exact absurd (o.2 h) h1
    have j:=hb.1 m
    rw [j.1]
    by_cases i:first=false/\(zO c a.body (vars++jB a.vars x.fields)).1≠out
    ·rw [if_pos (.inr i),if_pos (.inr i)];exact .no rfl
    ·rw [if_neg (fun e=>e.elim j.2 i),if_neg (fun e=>e.elim (by simp [m]) i)]
     have k:a.vars.length=x.fields.length:=Classical.byContradiction fun e=>d (.inr e)
     have u:=z2q (p _ msQ) k hn'.1 fs h1
     rw [u]
     exact y8f (fun b hb=>p b (mcQ _ hb)) (fun b hb=>r b (mcQ _ hb)) hr (by simpa using hl) (fun y v=>t y (mcQ _ v)) hn'.2.1 (l.sub fun n h=>List.mem_append.2 (.inr h)) (fun _=>j.2)
 | [],_::_,_,_,_,_,_,_,_,hl,_,_,_,_=>by simp at hl
 | _::_,[],_,_,_,_,_,_,_,hl,_,_,_,_=>by simp at hl
def tyL (T:Table) (e:Ex) (s:Scope):Option (List Bs×Bs)->Bs
 | none=>sNo
 | some p=>if (xU T e.args s p.1).1=true then p.2 else sNo
theorem opR_eq (n:Bs):(opR n).getD sNo=opT n/\∀t,opR n=some t->t≠sNo:=by
 unfold opR opT
 have:sG [⟨#[43]⟩,⟨#[45]⟩,⟨#[42]⟩,⟨#[47]⟩,⟨#[37]⟩] n=true↔(n=⟨#[43]⟩∨n=⟨#[45]⟩∨n=⟨#[42]⟩∨n=⟨#[47]⟩∨n=⟨#[37]⟩):=by
  rw [z5h];simp
 by_cases h:sG [⟨#[43]⟩,⟨#[45]⟩,⟨#[42]⟩,⟨#[47]⟩,⟨#[37]⟩] n=true
 ·rw [if_pos h,if_pos (this.1 h)];exact ⟨rfl,fun t g=>by cases g;decide⟩
 ·rw [if_neg h,if_neg (fun g=>h (this.2 g))]
  split
  ·exact ⟨rfl,fun t g=>by cases g;decide⟩
  ·exact ⟨rfl,fun t g=>by cases g⟩
theorem bare_iff {e:Ex} {name:Bool} {n:Int} {k:Int}:qE e false name n k=true↔e.num=0/\(name=true∨e.name=sNo)/\(n < 0∨(e.args.length:Int)=n)/\(k < 0∨(e.arms.length:Int)=k):=by
 simp [qE,sNo,and_assoc]
theorem bare1 {e:Ex}:qE e true false 0 0=true↔e.name=sNo/\e.args.length=0/\e.arms.length=0:=by
 simp [qE,sNo,and_assoc]
theorem bare0 {e:Ex} {n:Int}:qE e false true n 0=true↔e.num=0/\(n < 0∨(e.args.length:Int)=n)/\e.arms.length=0:=by
 simp only [qE,baQ,Bool.or_eq_true,decide_eq_true_eq,Bool.false_eq_true,false_or,true_or,and_true]
 omega
theorem z2g {T:Table} {c:Core} {e:Ex} {s:Scope} {vars:List Param} {w:Option (List Bs×Bs)} (b:∀x∈e.args,mZ T x) (i:∀x∈e.args,RT T c x) (hr:Rel s vars) (d:(bindPs e.args).Nodup) (a:Fresh s (bindPs e.args)) (j:∀p,w=some p->p.2≠sNo) :
  Alk (tyL T e s w) (if (typesR c e.args vars).2=false then noT else tyR c e vars w):=by
 cases w with
 | none=>
  by_cases h:(typesR c e.args vars).2=false
  ·rw [if_pos h];exact .no rfl
  ·rw [if_neg h];exact .no rfl
 | some p=>
  have h1:=q9b (ts:=p.1) b i hr d a
  simp only [tyL,tyR]
  by_cases h:(typesR c e.args vars).2=false
  ·rw [if_pos h]
   have:¬(xU T e.args s p.1).1=true:=fun g=>by rw [(h1.1 g).1] at h;cases h
   rw [if_neg this];exact .no rfl
  ·rw [if_neg h]
   have f:(typesR c e.args vars).2=true:=by cases g:(typesR c e.args vars).2 with | true=>rfl | false=>exact absurd g h
   by_cases g:p.1=(typesR c e.args vars).1
   ·rw [if_pos (h1.2 ⟨f,g⟩),if_pos g]
    exact ⟨fun _=>⟨rfl,j p rfl⟩,fun x=>by cases x⟩
   ·have:¬(xU T e.args s p.1).1=true:=fun x=>g (h1.1 x).2
    rw [if_neg this,if_neg g];exact .no rfl
theorem rt_ok {T:Table} {c:Core} (j:Fit T c):∀(n:Nat) (e:Ex),e.sz < n->RT T c e
 | 0,_,h=>by omega
 | n+1,e,j0=>by
  intro s vars hr X L
  have u:∀x∈e.args,mZ T x:=fun x H=>aL T j.no (n+1) x (by have:=Ex.lt_args H;omega)
  have b0:∀a∈e.arms,mZ T a.body:=fun a S=>aL T j.no (n+1) a.body (by have:=Ex.lt_arms S;omega)
  have q:∀x∈e.args,RT T c x:=fun x H=>rt_ok j n x (by have:=Ex.lt_args H;omega)
  have d0:∀a∈e.arms,RT T c a.body:=fun a S=>rt_ok j n a.body (by have:=Ex.lt_arms S;omega)
  rw [wD] at X L
  have V:=zU X
  have B:=zU V.1
  have fa:Fresh s (bindPs e.args):=L.sub fun m N=>List.mem_append.2 (.inl (List.mem_append.2 (.inr N)))
  have fb:Fresh s (bindPa e.arms):=L.sub fun m N=>List.mem_append.2 (.inr N)
  rw [dX]
  by_cases F:e.kind=7
  ·rw [mN T e s F]
   unfold jT
   by_cases hb:qE e false false 1 (-1)=true
   ·rw [if_pos hb]
    obtain ⟨Y,Z,b3,_⟩:=bare_iff.1 hb
    obtain ⟨x,b⟩:=q3c (xP (n:=1) hb)
    have H:e.args[0]? = some x:=by rw [b];rfl
    rw [jC H]
    simp only [F,Y,b,firstR]
    simp only [show ¬((7:Int)=1) by decide,show ¬((7:Int)=2) by decide,show ¬((7:Int)=3) by decide,show ¬((7:Int)=6) by decide,ne_eq,not_true,not_false_eq_true,false_and,and_false,or_self,if_false,if_true,lcQ,lnQ,Z.resolve_left (by decide)]
    have na:=B.2.1
    rw [b] at fa na
    simp only [bindPs,List.append_nil] at fa na
    have mx:x∈e.args:=by rw [b];simp
    have R:=q x mx s vars hr na fa
    by_cases r:(zO c x vars).2=false
    ·rw [if_pos r,R.2 r,j.no];exact .no rfl
    ·rw [if_neg r]
     have h1:(zO c x vars).2=true:=by cases g:(zO c x vars).2 with | true=>rfl | false=>exact absurd g r
     obtain ⟨v,e2⟩:=R.1 h1
     have e3:=u x mx s na fa (v▸e2)
     rw [v,e3,j.ds]
     cases hd:qD c.datas (zO c x vars).1 with
     | none=>exact .no rfl
     | some d=>
      have i:=j.pos _ d ((j.ds _).trans hd)
      simp only
      by_cases k:d.cons.length=e.arms.length
      ·rw [if_pos k,if_neg (fun g=>g k)]
       exact y8f b0 d0 hr k i.2 V.2.1 fb (fun g=>by rw [g] at k;have:=i.1;simp only [lnQ] at k;omega)
      ·rw [if_neg k,if_pos k];exact .no rfl
   ·rw [if_neg hb]
    have hq:¬(e.num=0/\e.name=sNo/\e.args.length=1):=fun g=>hb (bare_iff.2 ⟨g.1,.inr g.2.1,.inr (by rw [g.2.2];rfl),.inl (by decide)⟩)
    by_cases P:(e.kind≠7/\0 < e.arms.length)∨(e.kind≠1/\e.num≠0)
    ·rw [if_pos P];exact .no rfl
    ·rw [if_neg P]
     have r:e.num=0:=Classical.byContradiction fun g=>P (.inr ⟨by rw [F];decide,g⟩)
     simp only [F]
     simp only [show ¬((7:Int)=1) by decide,show ¬((7:Int)=2) by decide,show ¬((7:Int)=3) by decide,show ¬((7:Int)=6) by decide,if_false,if_true]
     rw [if_pos]
     ·exact .no rfl
     ·by_cases hl:e.args.length=1
      ·exact .inr fun g=>hq ⟨r,g,hl⟩
      ·exact .inl hl
  have Q:((e.kind≠7/\0 < e.arms.length)∨(e.kind≠1/\e.num≠0))↔¬(e.arms.length=0/\(e.kind=1∨e.num=0)):=by
   constructor
   ·rintro (⟨_,g⟩ | ⟨g,g'⟩) ⟨x,y⟩
    ·omega
    ·exact y.elim g g'
   ·intro g
    by_cases x:e.arms.length=0
    ·exact .inr ⟨fun y=>g ⟨x,.inl y⟩,fun y=>g ⟨x,.inr y⟩⟩
    ·exact .inl ⟨F,by omega⟩
  by_cases h1:e.kind=1
  ·rw [nP T e s h1]
   unfold gY
   by_cases hb:qE e true false 0 0=true
   ·obtain ⟨Y,Z,b3⟩:=bare1.1 hb
    rw [if_pos hb,if_neg (fun g=>Q.1 g ⟨b3,.inl h1⟩),if_pos h1]
    exact ⟨fun _=>⟨rfl,show yB≠sNo by decide⟩,fun g=>by simp [Y,Z] at g⟩
   ·rw [if_neg hb]
    by_cases O:e.arms.length=0
    ·rw [if_neg (fun g=>Q.1 g ⟨O,.inl h1⟩),if_pos h1]
     refine ⟨fun g=>?_,fun _=>rfl⟩
     simp only [baQ,decide_eq_true_eq] at g
     exact absurd (bare1.2 ⟨g.1,g.2,O⟩) hb
    ·rw [if_pos (Q.2 fun g=>O g.1)];exact .no rfl
  by_cases hq:e.num=0/\e.arms.length=0
  ·rw [if_neg (fun g=>Q.1 g ⟨hq.2,.inr hq.1⟩),if_neg h1]
   have o:∀{n:Int},(n < 0∨(e.args.length:Int)=n)->qE e false true n 0=true:=fun h=>bare0.2 ⟨hq.1,h,hq.2⟩
   have A:∀{n:Int},¬(n < 0∨(e.args.length:Int)=n)->¬qE e false true n 0=true:=fun h g=>h (bare0.1 g).2.1
   by_cases C:e.kind=2
   ·rw [if_pos C,mS T e s C]
    unfold wJ
    by_cases hl:e.args.length=0
    ·rw [if_pos (o (.inr (by rw [hl];rfl))),hr.get]
     cases W:gC vars e.name with
     | none=>exact .no rfl
     | some t=>exact ⟨fun _=>⟨rfl,hr.ne W⟩,fun g=>by simp [hl] at g⟩
    ·rw [if_neg (A (by omega))]
     cases W:gC vars e.name with
     | none=>exact .no rfl
     | some t=>exact ⟨fun g=>by simp only [decide_eq_true_eq] at g;exact absurd g hl,fun _=>rfl⟩
   by_cases I:e.kind=3
   ·rw [if_neg C,if_pos I,mP T e s I]
    unfold oT
    by_cases hl:e.args.length=0
    ·rw [if_pos (o (.inr (by rw [hl];rfl))),j.is]
     cases W:z7t c.inputs e.name with
     | none=>exact .no rfl
     | some t=>exact ⟨fun _=>⟨rfl,j.it _ _ ((j.is _).trans W)⟩,fun g=>by simp [hl] at g⟩
    ·rw [if_neg (A (by omega))]
     cases W:z7t c.inputs e.name with
     | none=>exact .no rfl
     | some t=>exact ⟨fun g=>by simp only [decide_eq_true_eq] at g;exact absurd g hl,fun _=>rfl⟩
   rw [if_neg C,if_neg I]
   by_cases E:e.kind=6
   ·rw [if_pos E,mQ T e s E]
    unfold z0v
    by_cases hl:e.args.length=2
    ·rw [if_pos (o (.inr (by rw [hl];rfl)))]
     obtain ⟨x,y,b⟩:=q8c hl
     have H:e.args[0]? = some x:=by rw [b];rfl
     have hy:e.args[1]? = some y:=by rw [b];rfl
     simp only [if_pos E,b,bindPs,List.append_nil] at X L
     have c0:=zU X
     have U:=zU c0.1
     have M:=zU U.2.1
     have mx:x∈e.args:=by rw [b];simp
     have my:y∈e.args:=by rw [b];simp
     have R:=q x mx s vars hr M.1 (L.sub fun m N=>by simp [N])
     have hi:=R.iff
     simp only [b,letR,firstR,lcQ,lnQ]
     by_cases r:(zG T x s).1=sNo
     ·rw [<- b,z2z H r,if_pos (.inl (hi.1 r))];exact .no rfl
     ·have g1:(zO c x vars).2=true:=by cases g:(zO c x vars).2 with | true=>rfl | false=>exact absurd (hi.2 g) r
      obtain ⟨v,e2⟩:=R.1 g1
      have e3:=u x mx s M.1 (L.sub fun m N=>by simp [N]) r
      rw [<- b,oX H hy r,if_neg (by simp [g1])]
      simp only [e3,v]
      refine q y my _ _ (hr.put e2) M.2.1 (fun m N=>?_)
      rw [kC,if_neg]
      ·exact L m (by simp [N])
      ·rintro rfl
       exact U.2.2 e.name (by simp) (by simp [N])
    ·rw [if_neg (A (by omega))]
     cases S:e.args with
     | nil=>exact .no rfl
     | cons a l=>
      simp only [letR]
      rw [S] at hl
      rw [if_pos (.inr (by simp only [lcQ] at hl;omega))];exact .no rfl
   rw [if_neg E,if_neg F]
   by_cases z:e.kind=4
   ·rw [mO T e s z]
    have G:wK c e.kind e.name=(zL T.cons e.name).map fun m=>(m.con.fields,m.data):=by rw [wK,if_pos z,j.cs]
    have:=z2g (w:=wK c e.kind e.name) u q hr B.2.1 fa (fun p i=>by
     rw [G] at i
     cases N:zL T.cons e.name with
     | none=>rw [N] at i;cases i
     | some m=>rw [N] at i;cases i;exact j.mks _ _ N)
    have v:(sY T e s).1=tyL T e s (wK c e.kind e.name):=by
     rw [G]
     unfold sY
     cases N:zL T.cons e.name with
     | none=>rfl
     | some m=>simp only [if_pos (o (n:=-1) (.inl (by decide))),Option.map_some,tyL]
    rw [v];exact this
   by_cases D:e.kind=5
   ·rw [wS T e s D]
    have G:wK c e.kind e.name=(zL T.funs e.name).map fun f=>(f.params.map Param.type,f.result):=by
     rw [wK,if_neg z,if_pos D,j.fs]
     cases gL c.funs e.name <;> rfl
    have:=z2g (w:=wK c e.kind e.name) u q hr B.2.1 fa (fun p i=>by
     rw [G] at i
     cases N:zL T.funs e.name with
     | none=>rw [N] at i;cases i
     | some m=>rw [N] at i;cases i;exact j.rs _ _ N)
    have v:(nA T e s).1=tyL T e s (wK c e.kind e.name):=by
     rw [G]
     unfold nA
     cases N:zL T.funs e.name with
     | none=>rfl
     | some m=>simp only [if_pos (o (n:=-1) (.inl (by decide))),Option.map_some,tyL]
    rw [v];exact this
   by_cases K:e.kind=8
   ·rw [aC T e s K]
    have G:wK c e.kind e.name=(opR e.name).map fun t=>([yB,yB],t):=by rw [wK,if_neg z,if_neg D,if_pos K]
    obtain ⟨o1,o2⟩:=opR_eq e.name
    have:=z2g (w:=wK c e.kind e.name) u q hr B.2.1 fa (fun p i=>by
     rw [G] at i
     cases N:opR e.name with
     | none=>rw [N] at i;cases i
     | some m=>rw [N] at i;cases i;exact o2 _ N)
    have v:(mY T e s).1=tyL T e s (wK c e.kind e.name):=by
     rw [G]
     unfold mY
     rw [<- o1]
     by_cases hl:e.args.length=2
     ·rw [if_pos (o (.inr (by rw [hl];rfl)))]
      cases N:opR e.name with
      | none=>simp [tyL]
      | some t=>rfl
     ·rw [if_neg (A (by omega))]
      have:¬(xU T e.args s [yB,yB]).1=true:=by unfold xU;rw [if_neg (by simpa using hl)];simp
      cases N:opR e.name with
      | none=>rfl
      | some t=>simp only [Option.map_some,tyL,if_neg this]
    rw [v];exact this
   ·by_cases i0:e.kind=1∨e.kind=2∨e.kind=3
    ·omega
    ·rw [mR T e s h1 C I z D E F K,wK,if_neg z,if_neg D,if_neg K]
     by_cases h:(typesR c e.args vars).2=false
     ·rw [if_pos h];exact .no rfl
     ·rw [if_neg h];exact .no rfl
  ·rw [if_pos (Q.2 fun g=>hq ⟨g.2.resolve_left h1,g.1⟩)]
   apply Alk.no
   have hb:∀n,¬qE e false true n 0=true:=fun n g=>hq ⟨(bare0.1 g).1,(bare0.1 g).2.2⟩
   by_cases C:e.kind=2
   ·rw [mS T e s C];exact if_neg (hb 0)
   by_cases I:e.kind=3
   ·rw [mP T e s I];exact if_neg (hb 0)
   by_cases z:e.kind=4
   ·rw [mO T e s z];unfold sY
    split
    ·rfl
    ·rw [if_neg (hb _)]
   by_cases D:e.kind=5
   ·rw [wS T e s D];unfold nA
    split
    ·rfl
    ·rw [if_neg (hb _)]
   by_cases E:e.kind=6
   ·rw [mQ T e s E];unfold z0v;rw [if_neg (hb _)]
   by_cases K:e.kind=8
   ·rw [aC T e s K];unfold mY;rw [if_neg (hb _)]
   rw [mR T e s h1 C I z D E F K]
theorem mE:∀{l:List Data} {n:Bs} {d:Data},vU l n=some d->d∈l/\d.name=n
 | [],_,_,h=>by cases h
 | e::l,n,d,h=>by
  simp only [vU] at h
  split at h
  ·rename_i g;cases h;exact ⟨msQ,g⟩
  ·have:=mE h;exact ⟨mcQ _ this.1,this.2⟩
theorem z9a {l:List Data} {n:Bs} (h:n∉l.map Data.name):vU l n=none:=by
 cases g:vU l n with
 | none=>rfl
 | some d=>obtain ⟨h1,a⟩:=mE g;exact absurd (a▸List.mem_map_of_mem h1) h
theorem y8t:∀{l:List Data} {d:Data},(l.map Data.name).Nodup->d∈l->vU l d.name=some d
 | e::l,d,a,h=>by
  simp only [List.map_cons,List.nodup_cons] at a
  simp only [vU]
  rcases List.mem_cons.1 h with rfl | h
  ·rw [if_pos rfl]
  ·rw [if_neg (fun g=>a.1 (by rw [g];exact List.mem_map_of_mem h))];exact y8t a.2 h
theorem tO (ds:List Data) (n:Bs):qD ds n=vU (truthsD::ds) n:=by rw [<- z3y,z3x]
theorem z2s:∀{l:List Con} {n:Bs} {x:Con},pB l n=some x->x∈l/\x.name=n
 | [],_,_,h=>by cases h
 | e::l,n,d,h=>by
  simp only [pB] at h
  split at h
  ·rename_i g;cases h;exact ⟨msQ,g⟩
  ·have:=z2s h;exact ⟨mcQ _ this.1,this.2⟩
theorem z1s:∀{l:List Data} {n:Bs} {m:Maker},wU l n=some m->∃d∈l,d.name=m.data/\pB d.cons n=some m.con
 | [],_,_,h=>by cases h
 | e::l,n,m,h=>by
  simp only [wU] at h
  cases a:pB e.cons n with
  | some x=>rw [a] at h;cases h;exact ⟨e,msQ,rfl,a⟩
  | none=>rw [a] at h;obtain ⟨d,b,g⟩:=z1s h;exact ⟨d,mcQ _ b,g⟩
theorem y3w:∀{l:List Data} {n:Bs} {d:Data} {x:Con},((l.map fun d=>d.cons.map Con.name).flatten).Nodup->d∈l->pB d.cons n=some x->wU l n=some ⟨d.name,x⟩
 | e::l,n,d,x,c,a,b=>by
  simp only [List.map_cons,List.flatten_cons] at c
  have hn':=zU c
  simp only [wU]
  rcases List.mem_cons.1 a with rfl | a
  ·rw [b]
  ·have:pB e.cons n=none:=by
    cases g:pB e.cons n with
    | none=>rfl
    | some y=>
     obtain ⟨h1,h⟩:=z2s g
     obtain ⟨i,j⟩:=z2s b
     exact absurd (List.mem_flatten.2 ⟨_,List.mem_map_of_mem (f:=fun d:Data=>d.cons.map Con.name) a,List.mem_map.2 ⟨x,i,j⟩⟩) (hn'.2.2 n (List.mem_map.2 ⟨y,h1,h⟩))
   rw [this]
   exact y3w hn'.2.1 a b
theorem y3g (name:Bs):∀(l:List Con) (ok:Bool),gB name l ok=(ok && !mT name l)
 | [],ok=>by simp [gB,mT]
 | x::l,ok=>by
  simp only [gB,y3g name l,mT,List.any_cons,Bool.not_or,<- Bool.and_assoc];rfl
theorem sM (name:Bs):∀(l:List Data) (n:Int) (ok:Bool),(l.map Data.name).Nodup->pR name l n ok=match vU l name with | none=>(n,ok) | some d=>(IntKind.i64.wrap (n+1),ok && !mT name d.cons)
 | [],n,ok,_=>rfl
 | d::l,n,ok,a=>by
  simp only [List.map_cons,List.nodup_cons] at a
  simp only [pR,vU]
  by_cases h:d.name=name
  ·rw [if_pos h,if_pos h,sM name l _ _ a.2,z9a (by rw [<- h];exact a.1),y3g]
  ·rw [if_neg h,if_neg h,sM name l _ _ a.2]
theorem q6h (name:Bs):∀(l:List Data),(l.map Data.name).Nodup->(wC name l,kD name l)=match vU l name with | none=>(false,0) | some d=>(mT name d.cons,1)
 | [],_=>rfl
 | d::l,b=>by
  simp only [List.map_cons,List.nodup_cons] at b
  have a:=q6h name l b.2
  simp only [wC,kD,vU] at a ⊢
  by_cases h:d.name=name
  ·rw [z9a (by rw [<- h];exact b.1)] at a
   simp only [Prod.mk.injEq] at a
   simp only [List.any_cons,List.filter_cons,h,decide_true,Bool.true_and,if_true,a.1,Bool.or_false,lcQ,a.2]
  ·simp only [List.any_cons,List.filter_cons,h,decide_false,Bool.false_and,Bool.false_or,Bool.false_eq_true,if_false]
   exact a
theorem uM {ds:List Data} (b:(ds.map Data.name).Nodup) (c:∀d∈ds,d.name≠vV) (name:Bs):xB ds name=jG ds name:=by
 unfold xB jG
 by_cases h:name=yB
 ·rw [if_pos h,if_pos h]
 ·rw [if_neg h,if_neg h]
  have h1:=q6h name ds b
  rw [sM name ds 0 true b]
  cases a:vU ds name with
  | none=>
   rw [a] at h1;simp only [Prod.mk.injEq] at h1
   rw [h1.2];simp
  | some d=>
   rw [a] at h1;simp only [Prod.mk.injEq] at h1
   obtain ⟨e,f⟩:=mE a
   have:name≠vV:=f▸c d e
   rw [h1.1,h1.2]
   simp only [this,decide_false,Bool.not_false,Bool.and_true,decide_true,Bool.true_and]
   rw [show IntKind.i64.wrap (0+1)=1 by decide];simp
structure Decl (c:Core):Prop where
 tab:Tabled c
 fd:∀d∈c.datas,∀x∈d.cons,∀f∈x.fields,jP c.datas f=true
 it:∀p∈c.inputs,xB c.datas p.type=true
 fp:∀f∈c.funs,(∀p∈f.params,jP c.datas p.type=true)/\jP c.datas f.result=true
theorem y8u {c:Core} (h:Tabled c) {t:Bs} {d:Data} (g:qD c.datas t=some d):t≠sNo:=by
 rintro rfl
 rw [tO] at g
 obtain ⟨h1,a⟩:=mE g
 rcases List.mem_cons.1 h1 with rfl | h1
 ·revert a;decide
 ·have:=(h.dN d h1).1;rw [a,tT] at this;cases this
theorem z6l {c:Core} (h:Tabled c) {t:Bs} (g:jP c.datas t=true):t≠sNo:=by
 simp only [jP,Bool.or_eq_true,decide_eq_true_eq] at g
 rcases g with g | g
 ·cases a:qD c.datas t with
  | none=>rw [a] at g;cases g
  | some d=>exact y8u h a
 ·rw [g];decide
theorem y9r {c:Core} (h:Tabled c) (n:Bs):vW (zI c) n=jP c.datas n:=by
 unfold vW jP
 rw [(sC (uE h)).2.1,z3y]
theorem fit_of {c:Core} (h:Decl c):Fit (zI c) c:=by
 obtain ⟨_,p,t2,t3,t4⟩:=sC (uE h.tab)
 have a:∀n,zL (zI c).datas n=qD c.datas n:=fun n=>by rw [p,z3y]
 have k:∀n,zL (zI c).cons n=nK c.datas n:=fun n=>by rw [t2,z1r];rfl
 have b:∀d∈truthsD::c.datas,d.name≠sNo/\0 < d.cons.length/\∀x∈d.cons,∀f∈x.fields,f≠sNo:=fun d a=>by
  rcases List.mem_cons.1 a with rfl | a
  ·refine ⟨by decide,by decide,fun x i f j=>?_⟩
   simp only [truthsD,List.mem_cons,List.not_mem_nil,or_false] at i
   rcases i with rfl | rfl <;> cases j
  ·refine ⟨fun e=>?_,(h.tab.dN d a).2.2.2.1,fun x i f j=>z6l h.tab (h.fd d a x i f j)⟩
   have:=(h.tab.dN d a).1;rw [e,tT] at this;cases this
 refine ⟨a,k,fun n=>by rw [t3];exact (j7d c.funs n).symm,fun n=>by rw [t4,q5t],?_,fun n d g=>?_,fun n m g=>?_,fun n f g=>?_,fun n t g=>?_⟩
 ·rw [a]
  cases g:qD c.datas sNo with
  | none=>rfl
  | some d=>exact absurd rfl (y8u h.tab g)
 ·rw [a,tO] at g;exact (b d (mE g).1).2
 ·rw [k] at g
  obtain ⟨d,a,e,_⟩:=z1s g
  rw [<- e];exact (b d a).1
 ·rw [t3] at g
  obtain ⟨x,i,_,rfl⟩:=xM g
  exact z6l h.tab (h.fp x i).2
 ·rw [t4] at g
  obtain ⟨x,i,_,rfl⟩:=xM g
  have:=h.it x i
  rw [uM h.tab.dU (fun d a=>(h.tab.dN d a).2.2.1)] at this
  unfold jG at this
  split at this
  ·rename_i e;rw [e];decide
  ·rw [sM _ _ _ _ h.tab.dU] at this
   cases a:vU c.datas x.type with
   | none=>rw [a] at this;simp at this
   | some d=>
    obtain ⟨l,o⟩:=mE a
    rw [<- o];exact (b d (mcQ _ l)).1
theorem q0g:z3o=qF:=funext x3u
theorem apartR_iff {l:List Bs}:cH l=true↔l.Nodup/\∀n∈l,qF n=true:=by
 unfold cH
 rw [q0g]
 exact ⟨fun h=>⟨(vD h).1,(vD h).2.2⟩,fun h=>y8c h.1 (fun n _ N=>by cases N) h.2⟩
theorem z2o (l:List Bs):cH l=pM qF [] l:=by unfold cH;rw [q0g]
theorem declR {c:Core} (h:vA c=true):Decl c:=by
 simp only [vA,baQ,decide_eq_true_eq,List.all_eq_true,kI] at h
 obtain ⟨⟨⟨⟨⟨⟨⟨⟨h1,u⟩,m⟩,n⟩,j⟩,o⟩,v⟩,w⟩,y⟩:=h
 obtain ⟨d1,d2,d3⟩:=(z3z c.datas).1 h1
 obtain ⟨q,i2⟩:=apartR_iff.1 n
 obtain ⟨k,l⟩:=apartR_iff.1 o
 refine ⟨{ dN:=fun d b=>?_,dU:=d2,cU:=d3,fN:=fun f a=>l _ (List.mem_map_of_mem a),fU:=k,iN:=fun p e=>i2 _ (List.mem_map_of_mem e),iU:=q },fun d b x g f a=>?_,m,fun f a=>⟨fun p e=>(j f a).1.1 p e,(j f a).1.2⟩⟩
 ·obtain ⟨r,i,s,t⟩:=d1 d b
  simp only [List.mem_cons,List.not_mem_nil,or_false,not_or] at i
  refine ⟨r,i.1,i.2,s,fun x g=>?_⟩
  obtain ⟨m1,m2,_⟩:=t x g
  simp only [List.mem_cons,List.not_mem_nil,or_false,not_or] at m2
  exact ⟨m1,m2⟩
 ·exact List.all_eq_true.1 ((d1 d b).2.2.2 x g).2.2 f a
theorem declP {c:Core} (h:qT c=true):Decl c:=by
 simp only [qT,baQ,decide_eq_true_eq,List.all_eq_true,pC,nC] at h
 obtain ⟨⟨⟨⟨⟨h1,m⟩,j⟩,k⟩,i⟩,n⟩:=h
 have b:=(sC h1).1
 have J:=y9r b
 refine ⟨b,fun d e x l f a=>J f▸j d e x l f a,fun p g=>?_,fun f a=>⟨fun p g=>J p.type▸(i f a).1.1.1 p g,J f.result▸(i f a).1.1.2⟩⟩
 rw [uM b.dU (fun d e=>(b.dN d e).2.2.1)]
 exact k p g
theorem y4g {T:Table}:∀{os seen:List Bs},kS T seen os=true↔os.Nodup/\(∀o∈os,o∉seen)/\∀o∈os,∃f,zL T.funs o=some f/\f.params.length=0
 | [],seen=>by simp [kS]
 | o::os,seen=>by
  simp only [kS]
  cases e:zL T.funs o with
  | none=>exact ⟨fun g=>(by cases g),fun g=>by obtain ⟨f,h1,_⟩:=g.2.2 o msQ;rw [e] at h1;cases h1⟩
  | some f=>
   simp only [baQ,decide_eq_true_eq,y4g (os:=os),Bool.not_eq_true',List.nodup_cons]
   have O:has seen o=false↔o∉seen:=by rw [<- has_mem (l:=seen)];simp
   rw [O]
   constructor
   ·rintro ⟨⟨h1,d⟩,c,b,i⟩
    refine ⟨⟨fun N=>b o N (by simp),c⟩,fun p a=>?_,fun p a=>?_⟩
    ·rcases List.mem_cons.1 a with rfl | a
     ·exact d
     ·exact fun g=>b p a (by simp [g])
    ·rcases List.mem_cons.1 a with rfl | a
     ·exact ⟨f,e,h1⟩
     ·exact i p a
   ·rintro ⟨⟨h1,d⟩,c,b⟩
    obtain ⟨f',h,j⟩:=b o msQ
    rw [e] at h;cases h
    refine ⟨⟨j,c o msQ⟩,d,fun p a N=>?_,fun p a=>b p (mcQ _ a)⟩
    rcases List.mem_append.1 N with g | g
    ·exact c p (mcQ _ a) g
    ·simp only [List.mem_cons,List.not_mem_nil,or_false] at g;subst g;exact h1 a
theorem y5y:∀(ps:List Param),jB (ps.map Param.name) (ps.map Param.type)=ps
 | []=>rfl
 | p::ps=>by
  have:=y5y ps
  simp only [jB] at this ⊢
  simp only [List.map_cons,List.zip_cons_cons];rw [this]
theorem j1s {c:Core} (h:Tabled c) {ps:List Param} (a:∀p∈ps,jP c.datas p.type=true):Rel (tA ps) ps:=by
 have b:Rel [] []:=⟨fun n=>rfl,fun p a=>by cases a⟩
 have:=b.putAll (vs:=ps.map Param.name) (fs:=ps.map Param.type) (fun f d=>by
  obtain ⟨p,N,rfl⟩:=List.mem_map.1 d
  exact z6l h (a p N))
 rw [y5y,List.nil_append,<- cY] at this
 exact this
theorem y9i {c:Core} (h:Decl c) {ps:List Param} {e:Ex} (d:∀p∈ps,jP c.datas p.type=true) (a:(ps.map Param.name++zQ e).Nodup):Alk (zG (zI c) e (tA ps)).1 (zO c e ps):=by
 have ha':=zU a
 refine rt_ok (fit_of h) (e.sz+1) e (by omega) _ _ (j1s h.tab d) ha'.2.1 (fun n b=>?_)
 rw [cY,xZ (fun N=>ha'.2.2 n N b)];rfl
theorem q6p {c:Core} (h:Decl c) {o:Bs}:y0c c.funs o=true↔∃f,zL (zI c).funs o=some f/\f.params.length=0:=by
 rw [(fit_of h).fs]
 unfold y0c
 cases gL c.funs o with
 | none=>simp
 | some i=>
  cases a:c.funs[i]? with
  | none=>simp [a]
  | some f=>simp [a]
theorem q7h (c:Core):vA c=qT c:=by
 have key:Decl c->(vA c=true↔qT c=true):=fun h=>by
  have w:=uE h.tab
  have J:=y9r h.tab
  have B:z2p c.datas=true:=by
   refine (z3z c.datas).2 ⟨fun d k=>?_,h.tab.dU,h.tab.cU⟩
   obtain ⟨C,D,E,F,y⟩:=h.tab.dN d k
   refine ⟨C,by simp [D,E],F,fun x i=>⟨(y x i).1,by simp [(y x i).2],List.all_eq_true.2 (h.fd d k x i)⟩⟩
  simp only [vA,qT,baQ,decide_eq_true_eq,List.all_eq_true,kI,pC,nC,w,B,true_and,J,pD,z2o,y4g]
  constructor
  ·rintro ⟨⟨⟨⟨⟨⟨⟨j,s⟩,z⟩,b⟩,t⟩,u⟩,l⟩,A⟩
   refine ⟨⟨⟨⟨fun e=>j (by rw [e];rfl),fun d k x i f a=>h.fd d k x i f a⟩,fun p q=>?_⟩,fun f a=>⟨(b f a),?_⟩⟩,(vD u).1,fun o _ N=>(by cases N),fun o r=>(q6p h).1 (A o r)⟩
   ·rw [<- uM h.tab.dU (fun d k=>(h.tab.dN d k).2.2.1)];exact s p q
   ·have:=(y9i h (b f a).1.1 (vD (b f a).2).1).1 (l f a).1
    rw [this.1];exact (l f a).2
  ·rintro ⟨⟨⟨⟨j,s⟩,z⟩,b⟩,t,u,l⟩
   refine ⟨⟨⟨⟨⟨⟨⟨fun e=>j (List.eq_nil_of_length_eq_zero e),h.it⟩,?_⟩,fun f a=>(b f a).1⟩,?_⟩,?_⟩,fun f a=>?_⟩,fun o r=>(q6p h).2 (l o r)⟩
   ·rw [<- z2o];exact apartR_iff.2 ⟨h.tab.iU,fun n m=>by obtain ⟨p,q,rfl⟩:=List.mem_map.1 m;exact h.tab.iN p q⟩
   ·rw [<- z2o];exact apartR_iff.2 ⟨h.tab.fU,fun n m=>by obtain ⟨p,q,rfl⟩:=List.mem_map.1 m;exact h.tab.fN p q⟩
   ·rw [<- z2o];refine apartR_iff.2 ⟨t,fun n m=>?_⟩
    obtain ⟨f,a,_⟩:=l n m
    rw [(sC w).2.2.2.1] at a
    obtain ⟨x,i,e,_⟩:=xM a
    rw [<- e];exact h.tab.fN x i
   ·have v:=y9i h (b f a).1.1.1 (vD (b f a).1.2).1
    have hr:=z6l h.tab (h.fp f a).2
    have e:=(b f a).2
    cases g:(zO c f.body f.params).2 with
    | true=>exact ⟨rfl,by rw [<- (v.1 g).1];exact e⟩
    | false=>rw [v.2 g] at e;exact absurd e.symm hr
 cases h1:vA c with
 | true=>exact ((key (declR h1)).1 h1).symm
 | false=>
  cases j:qT c with
  | true=>rw [(key (declP j)).2 j] at h1;cases h1
  | false=>rfl
theorem y1f (c:Core):oM c=yT c:=by unfold oM yT;rw [q6f,q7h]
theorem decl_of {c:Core} (h:yT c=0):Decl c:=by
 refine declP ?_
 unfold yT at h
 split at h
 ·cases h
 ·split at h
  ·cases h
  ·split at h
   ·assumption
   ·cases h
mutual
theorem y3r:∀(v:Val) (most:Nat),most<=4000->(dB v most<=most->jX v (most:Int)=(false,(most:Int) - (dB v most:Int)))/\(¬dB v most<=most->(jX v (most:Int)).1=true)
 | .mk con num args,most,N=>by
  simp only [dB,jX]
  rw [show IntKind.i64.wrap ((most:Int) - 1)=(most:Int) - 1 from yD (by omega)]
  by_cases c:most=0
  ·subst c
   rw [z6o (by omega)]
   exact ⟨fun h=>by omega,fun _=>by rw [if_pos (by omega)]⟩
  ·rw [if_neg (by omega)]
   have:=larges_size args most 1 N (by omega)
   exact this
theorem larges_size:∀(vs:List Val) (most n:Nat),most<=4000->n<=most->(vsizeRs vs most n<=most->larges vs ((most:Int) - (n:Int))=(false,(most:Int) - (vsizeRs vs most n:Int)))/\(¬vsizeRs vs most n<=most->(larges vs ((most:Int) - (n:Int))).1=true)
 | [],most,n,N,h=>⟨fun _=>rfl,fun g=>absurd h g⟩
 | e::es,most,n,N,h=>by
  simp only [vsizeRs,larges,if_pos h]
  have h1:=y3r e (most - n) (by omega)
  have hl:=q0z e (most - n)
  rw [show ((most:Int) - (n:Int))=((most - n:Nat):Int) by omega]
  by_cases O:dB e (most - n)<=most - n
  ·rw [h1.1 O]
   have a:=larges_size es most (n+dB e (most - n)) N (by omega)
   rw [show ((most:Int) - ((n+dB e (most - n):Nat):Int))=((most - n:Nat):Int) - (dB e (most - n):Int) by omega] at a
   exact a
  ·rw [z6o (by omega)]
   refine ⟨fun g=>by omega,fun _=>?_⟩
   have:=h1.2 O
   cases N:jX e ((most - n:Nat):Int) with
   | mk b q=>rw [N] at this;simp only at this;subst this;rfl
end
theorem x3m (v:Val):j0p v=kR v:=by
 unfold j0p kR
 have:=y3r v 4000 (by omega)
 by_cases h:dB v 4000<=4000
 ·rw [show ((4000:Int))=((4000:Nat):Int) from rfl,this.1 h];simp;omega
 ·rw [show ((4000:Int))=((4000:Nat):Int) from rfl,this.2 h];simp;omega
theorem y3v {c:Core} (h:Tabled c) {con name:Bs} {x:Con}:zL (zI c).cons con=some ⟨name,x⟩↔∃d,qD c.datas name=some d/\pB d.cons con=some x:=by
 obtain ⟨_,o,t2,_⟩:=sC (uE h)
 have k:((truthsD::c.datas).map Data.name).Nodup:=by
  simp only [List.map_cons,List.nodup_cons]
  exact ⟨fun N=>by obtain ⟨d,a,e⟩:=List.mem_map.1 N;exact (h.dN d a).2.2.1 e,h.dU⟩
 have j:(((truthsD::c.datas).map fun d=>d.cons.map Con.name).flatten).Nodup:=by
  obtain ⟨l,_⟩:=uD (show (tE (fsP c).1 [] c.inputs).1=true from uE h)
  obtain ⟨i,_⟩:=uC (show (tD (dsP c).1 [] c.funs).1=true from l)
  obtain ⟨_,_,_,_,_,f⟩:=z2f (show (tC true [] [] (truthsD::c.datas)).1=true from i)
  exact f
 rw [t2,z1r]
 constructor
 ·intro g
  obtain ⟨d,a,e,b⟩:=z1s g
  exact ⟨d,by rw [tO];simp only at e;rw [<- e];exact y8t k a,b⟩
 ·rintro ⟨d,a,b⟩
  rw [tO] at a
  obtain ⟨m,n⟩:=mE a
  rw [y3w j m b,n]
mutual
theorem q8d {c:Core} (h:Tabled c):∀(v:Val) (t:Bs),q2q c.datas v t=pV (zI c) v t
 | .mk con num args,t=>by
  simp only [q2q,pV]
  by_cases b:t=yB
  ·rw [if_pos b,if_pos (.inr b)];simp [b]
  ·rw [if_neg b]
   by_cases i:con=sNo
   ·rw [if_pos (.inl i)]
    have e:∀d,qD c.datas t=some d->pB d.cons con=none:=fun d a=>by
     cases f:pB d.cons con with
     | none=>rfl
     | some x=>
      rw [tO] at a
      obtain ⟨k,_⟩:=mE a
      obtain ⟨l,n⟩:=z2s f
      rcases List.mem_cons.1 k with rfl | k
      ·simp only [truthsD,List.mem_cons,List.not_mem_nil,or_false] at l
       rcases l with rfl | rfl <;> (rw [i] at n;revert n;decide)
      ·have:=((h.dN d k).2.2.2.2 x l).1
       rw [n,i,tT] at this;cases this
    cases a:qD c.datas t with
    | none=>simp [b]
    | some d=>simp [e d a,b]
   ·rw [if_neg (fun g=>g.elim i b)]
    cases N:zL (zI c).cons con with
    | none=>
     cases a:qD c.datas t with
     | none=>rfl
     | some d=>
      cases f:pB d.cons con with
      | none=>simp [f]
      | some x=>rw [(y3v h).2 ⟨d,a,f⟩] at N;cases N
    | some m=>
     obtain ⟨dn,x⟩:=m
     obtain ⟨d,a,f⟩:=(y3v h).1 N
     by_cases j:dn=t
     ·subst j
      simp only [a,f,values_eq h args x.fields]
      by_cases o:num=0
      ·simp [o,eq_comm]
      ·simp [o]
     ·simp only [j,decide_false,Bool.false_and]
      cases hd':qD c.datas t with
      | none=>rfl
      | some d'=>
       cases hx':pB d'.cons con with
       | none=>simp [hx']
       | some x'=>
        rw [(y3v h).2 ⟨d',hd',hx'⟩] at N
        cases N;exact absurd rfl j
theorem values_eq {c:Core} (h:Tabled c):∀(vs:List Val) (ts:List Bs),isValsR c.datas vs ts=hasL (zI c) vs ts
 | [],_=>rfl
 | v::vs,ts=>by simp only [isValsR,hasL,q8d h v,values_eq h vs]
end
theorem x2w {c:Core} (h:Tabled c):∀(l:List Named) (ps:List Param),l.length=ps.length->j0c c.datas l ps=pN (zI c) l ps
 | [],[],_=>rfl
 | x::l,p::ps,hl=>by simp only [j0c,pN,x3m,q8d h,x2w h l ps (by simpa using hl)]
 | [],_::_,hl=>by simp at hl
 | _::_,[],hl=>by simp at hl
theorem j7g {T:Table}:∀{l:List Named} {ps:List Param},pN T l ps=true->l.length=ps.length
 | [],[],_=>rfl
 | _::l,_::ps,h=>by simp only [pN,baQ] at h;simp [j7g h.2]
 | [],_::_,h=>by cases h
 | _::_,[],h=>by cases h
section
variable {P:Program} {n:Nat} {E:List (Nat×Value)} {D:List Deferred} {a:Act} {V:Fz} {K:List Res} {w:World} {ty:TypeId}
theorem z4m {x:Operand} {src dst:TypeId} {k b:IntKind} {i:Int} (z:Int) (J:EnvR n E D a) (e:ev E x=some (.int k i)) (O:P.underlying src=some (.int k)) (c:P.underlying dst=some (.int b)) (f:b.wrap i=z):Ok P a (.convert src dst x) ty w (.int b z):=fun _ _ _ _=>by
 have d:P.intKind dst=b:=by simp [Program.intKind,c]
 have:=run_convert_int (P:=P) w src dst k i (by rw [O];rfl) (by rw [d];exact c)
 rw [d,f] at this
 simp only [execOp,J.ev e]
 simp [Sem.run_bind,this,Result.andThen]
theorem q8t (i:Nat) {x:Operand} {src dst e:TypeId} {v:Value} {b:UInt8} (J:EnvR n E D a) (N:Sees V K w) (o:ev E x=some v) (l:qI K i=some (.gs v e 1 [.int .u8 ((b.toNat:Nat):Int)])) (O:P.underlying src=some (.slice e)) (he':P.underlying e=some (.int .u8)) (k:P.underlying dst=some .string) :
  Ok P a (.convert src dst x) ty w (.string (jH [b])):=fun _ _ _ _=>by
 rcases N.rowIn (i:=i) l with ⟨_,h⟩ | ⟨q,m,c,rfl,f,g⟩
 ·cases h
 ·obtain rfl:m=1:=by simpa using f.symm
  have:=run_convert_bytes_back (P:=P) w src dst e q c [b] O he' k (fun j d=>by
   have:j=0:=by simp at d;exact d
   subst this
   exact g 0 _ rfl)
  simp only [execOp,J.ev o]
  simp only [lcQ,lnQ] at this
  simp [Sem.run_bind,this,Result.andThen,jH]
end
theorem y2k:∀(f g n:Nat),n < f->n < g->gJ f n=gJ g n
 | 0,_,_,h,_=>by omega
 | _+1,0,_,_,h=>by omega
 | f+1,g+1,n,h,h'=>by
  simp only [gJ]
  by_cases a:n < 10
  ·rw [if_pos a,if_pos a]
  ·rw [if_neg a,if_neg a,y2k f g (n / 10) (by omega) (by omega)]
theorem y8x {n:Nat} (h:n < 10):cB n=[(48+n).toUInt8]:=by unfold cB;simp only [gJ,if_pos h];rfl
theorem q9t {n:Nat} (h:¬n < 10):cB n=cB (n / 10)++cB (n % 10):=by
 rw [y8x (n:=n % 10) (by omega)]
 have h1:gJ (n+1) n=(48+n % 10).toUInt8::gJ n (n / 10):=by simp only [gJ,if_neg h]
 unfold cB
 rw [h1,List.reverse_cons,y2k n (n / 10+1) (n / 10) (by omega) (by omega)]
mutual
def shE:Ex->Bool
 | .mk k _ s args arms=>(decide (k=7) || decide (arms.length=0))&&(decide (k≠7) || (decide (args.length=1)&&decide (s=sNo)))&&shEs args&&shEa arms
def shEs:List Ex->Bool
 | []=>true
 | e::es=>shE e&&shEs es
def shEa:List Arm->Bool
 | []=>true
 | .mk _ _ b::es=>shE b&&shEa es
end
theorem shE_eq (e:Ex):shE e=((decide (e.kind=7) || decide (e.arms.length=0))&&(decide (e.kind≠7) || (decide (e.args.length=1)&&decide (e.name=sNo)))&&shEs e.args&&shEa e.arms):=by cases e;rfl
theorem q7s:∀{l:List Ex},shEs l=true->∀x∈l,shE x=true
 | [],_,x,h=>by cases h
 | y::l,h,x,a=>by
  simp only [shEs,baQ] at h
  rcases List.mem_cons.1 a with rfl | a
  ·exact h.1
  ·exact q7s h.2 x a
theorem q7r:∀{l:List Arm},shEa l=true->∀a∈l,shE a.body=true
 | [],_,x,h=>by cases h
 | .mk c v b::l,h,x,d=>by
  simp only [shEa,baQ] at h
  rcases List.mem_cons.1 d with rfl | d
  ·exact h.1
  ·exact q7r h.2 x d
theorem y0i {e:Ex} (h:shE e=true):(¬e.kind=7->e.arms.length=0)/\(e.kind=7->e.args.length=1/\e.name=sNo)/\(∀x∈e.args,shE x=true)/\∀a∈e.arms,shE a.body=true:=by
 rw [shE_eq] at h
 simp only [baQ,Bool.or_eq_true,decide_eq_true_eq] at h
 exact ⟨fun g=>h.1.1.1.resolve_left g,fun g=>h.1.1.2.resolve_left (fun q=>q g),q7s h.1.2,q7r h.2⟩
theorem noT_f {b:Bs×Bool} (h:b=noT) (g:b.2=true):False:=by rw [h] at g;cases g
theorem y5x (c:Core):∀(n:Nat) (e:Ex) (vars:List Param),e.sz < n->(zO c e vars).2=true->shE e=true
 | 0,_,_,h,_=>by omega
 | n+1,e,vars,C,h=>by
  have iha:∀x∈e.args,∀v,(zO c x v).2=true->shE x=true:=fun x f v=>y5x c n x v (by have:=Ex.lt_args f;omega)
  have ihb:∀a∈e.arms,∀v,(zO c a.body v).2=true->shE a.body=true:=fun a A v=>y5x c n a.body v (by have:=Ex.lt_arms A;omega)
  have r:∀(l:List Ex),(∀x∈l,∀v,(zO c x v).2=true->shE x=true)->∀v,(typesR c l v).2=true->shEs l=true:=by
   intro l
   induction l with
   | nil=>intro _ _ _;rfl
   | cons x l t=>
    intro p v g
    simp only [typesR] at g
    split at g
    ·cases g
    ·rename_i f
     simp only [shEs,baQ]
     exact ⟨p x msQ v (by cases q:(zO c x v).2 with | true=>rfl | false=>exact absurd q f),t (fun y k=>p y (mcQ _ k)) v g⟩
  have has:∀(l:List Arm),(∀a∈l,∀v,(zO c a.body v).2=true->shE a.body=true)->∀cs first out v,(armsR c l cs first out v).2=true->shEa l=true:=by
   intro l
   induction l with
   | nil=>intro _ _ _ _ _ _;rfl
   | cons a l t=>
    intro p cs first out v g
    obtain ⟨con,vs,b⟩:=a
    simp only [armsR] at g
    split at g
    ·cases g
    ·split at g
     ·cases g
     ·rename_i f
      simp only [shEa,baQ]
      refine ⟨p _ msQ (v++jB vs (cs.headD z3p).fields) ?_,t (fun y k=>p y (mcQ _ k)) _ _ _ _ g⟩
      cases q:(zO c b (v++jB vs (cs.headD z3p).fields)).2 with
      | true=>exact q
      | false=>exact absurd (.inl q) f
  have d:¬aT e:=fun g=>noT_f (z6m g) h
  have u:¬e.kind=7->e.arms.length=0:=fun g=>Classical.byContradiction fun q=>d (.inl ⟨g,by omega⟩)
  have nil_a:e.arms.length=0->shEa e.arms=true:=fun g=>by rw [List.eq_nil_of_length_eq_zero g];rfl
  have nil_e:e.args.length=0->shEs e.args=true:=fun g=>by rw [List.eq_nil_of_length_eq_zero g];rfl
  rw [shE_eq]
  simp only [baQ,Bool.or_eq_true,decide_eq_true_eq]
  by_cases m:e.kind=7
  ·rw [j5k d m] at h
   unfold mV at h
   split at h
   ·cases h
   ·rename_i h1
    split at h
    ·cases h
    ·rename_i o
     split at h
     ·cases h
     ·split at h
      ·cases h
      ·have hl:e.args.length=1:=Classical.byContradiction fun q=>h1 (.inl q)
       obtain ⟨x,f⟩:=qR (l:=e.args) (i:=0) (by omega)
       have B:firstR c e.args vars=zO c x vars:=by rw [z5i f];rfl
       rw [B] at o
       have s:=iha x (mgQ f) vars (by cases q:(zO c x vars).2 with | true=>rfl | false=>exact absurd q o)
       refine ⟨⟨⟨.inl m,.inr ⟨hl,Classical.byContradiction fun q=>h1 (.inr q)⟩⟩,?_⟩,has _ ihb _ _ _ _ h⟩
       rw [z5i f,List.drop_of_length_le (by omega)]
       simp only [shEs,s,Bool.and_self]
  ·refine ⟨⟨⟨.inr (u m),.inl m⟩,?_⟩,nil_a (u m)⟩
   by_cases h1:e.kind=1
   ·rw [q3p d h1] at h;simp only [baQ,decide_eq_true_eq] at h;exact nil_e h.2
   by_cases o:e.kind=2
   ·rw [q3q d o] at h
    split at h
    ·simp only [decide_eq_true_eq] at h;exact nil_e h
    ·cases h
   by_cases w:e.kind=3
   ·rw [q3r d w] at h
    split at h
    ·simp only [decide_eq_true_eq] at h;exact nil_e h
    ·cases h
   by_cases z:e.kind=6
   ·rw [z3e d z] at h
    by_cases hl:e.args.length=2
    ·obtain ⟨x,f⟩:=qR (l:=e.args) (i:=0) (by omega)
     obtain ⟨y,k⟩:=qR (l:=e.args) (i:=1) (by omega)
     by_cases j:(zO c x vars).2=true
     ·rw [z5q hl f k j] at h
      rw [j4v hl f k]
      simp only [shEs,iha x (mgQ f) _ j,iha y (mgQ k) _ h,Bool.and_self]
     ·rw [y3t f (by cases q:(zO c x vars).2 with | false=>rfl | true=>exact absurd q j)] at h;cases h
    ·rw [j4m hl] at h;cases h
   rw [y0j d h1 o w z m] at h
   split at h
   ·cases h
   ·rename_i hq
    exact r _ iha vars (by cases q:(typesR c e.args vars).2 with | true=>rfl | false=>exact absurd q hq)
end Go.Sw

namespace Go.Sw
open Go.Proofs.Tryz
open Go.Proofs
set_option maxRecDepth 20000
set_option maxHeartbeats 4000000
variable {V:Fz} {K:List Res} {w:World}
theorem y7s {l:List Bs} {v:Value} {d1:List Value} {e:Ex} (l1:REx V d1 e) (hb:l.length+(zQ e).length<=8796093000000) (ih:∀x:Ex,x.sz < e.sz->∀{V:Fz} {K:List Res} {w:World} {d:List Value} {v:Value} {l:List Bs},l.length+(zQ x).length<=8796093000000->REx V d x->Mem V (.gs v 9 1 (strs l)::K) w->Calls prog 147 #[v,.agg d.toArray] w (fun ee w'=>∃v,ee=.returned v/\Mem V (.gs v 9 1 (strs (l++zQ x))::K) w')) (N:Mem V (.gs v 9 1 (strs l)::K) w) :
  Calls prog 147 #[v,.agg d1.toArray] w (fun ee w'=>∃v,ee=.returned v/\Mem V (.gs v 9 1 (strs (l++zQ e))::K) w'):=by
 obtain ⟨X,c4,p9,t,rfl,N1,h2,h8,G2,j0,T1,G⟩:=REx.fm l1
 refine zM func147 ntmps147 fun Q hQ a J=>?_
 refine Bx fun f w N a J=>?_
 by_cases B2:e.kind=6
 refine qH fun W w N a J=>?_
 refine qP 2 wQ (fun v20 w N a J=>?_) (hb:=by simp [yF];omega)
 first | rw [jM] at N | rw [<- yP] at N
 refine go fun a J=>?_
 refine mW (fun mm a w=>∃(i:Nat) (u:Value) (m:List Bs),mm=e.args.length - i/\EnvR 53 [(0,u),(3,.pointer (some ⟨f,0,none⟩)),(5,.int .i64 ((i:Nat):Int))] [] a/\Mem V (.gs (W) 9 1 [.string e.name]::.blk f (ob [.int .i64 (e.kind),.int .i64 (e.num),.string e.name,.slice X e.args.length c4,.slice p9 e.arms.length t] 66)::.gs (u) 9 1 (strs m)::K) w/\(l++zQ e=m++bindPs (e.args.drop i)++bindPa e.arms)) (e.args.length - 0) ⟨0,v20,(l++[e.name]),rfl,J.pk,N,by rw [wD];simp [*]⟩ ?_
 clear N J
 rintro mm a w ⟨i,u,m,q,J,N,z⟩ r2 g0
 by_cases e0:i < e.args.length
 refine go fun a J=>?_
 obtain ⟨N2,rfl,o1,s,z1,Q1,L1,H⟩:=h2.el j0 e0
 obtain ⟨H2,v2,I2,w2,rfl,O1,C2,D2,U1,a2,V1,b2⟩:=REx.fm H
 refine go fun a J=>?_
 replace N:=N.pl 2
 refine st J rfl rfl rfl (wG J rfl call147 (ih _ (by first | exact Ex.lt_args (mgQ s) | exact Ex.lt_arms (mgQ s)) (l:=m) (by have hq:=congrArg List.length z;rw [zA s] at hq;simp only [bindPs,qA,laQ] at hq hb ⊢;omega) H N) fun m1 w N a J=>?_)
 replace N:=N.nf
 refine go fun a J=>?_
 replace N:=N.ar [] [2,2]
 refine g0 _ _ _ (by subst q;omega) ⟨(i+1),(m1),((m++zQ o1)),rfl,J.pk,N,?_⟩
 rw [z,zA s];simp [bindPs]
 refine go fun a J=>?_
 refine mW (fun mm a w=>∃(j:Nat) (U:Value) (m2:List Bs),mm=e.arms.length - j/\EnvR 53 [(0,U),(3,.pointer (some ⟨f,0,none⟩)),(6,.int .i64 ((j:Nat):Int))] [] a/\Mem V (.gs (W) 9 1 [.string e.name]::.blk f (ob [.int .i64 (e.kind),.int .i64 (e.num),.string e.name,.slice X e.args.length c4,.slice p9 e.arms.length t] 66)::.gs (U) 9 1 (strs m2)::K) w/\(l++zQ e=m2++bindPa (e.arms.drop j))) (e.arms.length - 0) ⟨0,u,m,rfl,J.pk,N,by rw [z,zE e0];simp [bindPs]⟩ ?_
 clear N J
 rintro mm a w ⟨j,U,m2,q,J,N,r⟩ s2 h0
 by_cases L:j < e.arms.length
 refine go fun a J=>?_
 obtain ⟨k1,rfl,p1,I,A1,R1,M1,k0⟩:=h8.el G L
 obtain ⟨O2,t2,rfl,f0,D0⟩:=RArm.iff.1 k0
 obtain ⟨J2,x2,rfl,W1,c2⟩:=f0.fm
 obtain ⟨K2,y2,L2,z2,rfl,P1,E2,F2,X1,d2,Y1,e2⟩:=REx.fm D0
 refine qP 2 wQ (fun n1 w N a J=>?_) (hr:=(SliceOf.strs.1 f0).rowIn N.toSees) (h1:=dA _) (hb:=by have hq:=congrArg List.length r;rw [zA I,qA] at hq;simp only [laQ,yF] at hq hb ⊢;omega)
 first | rw [jM] at N | rw [<- yP] at N
 refine go fun a J=>?_
 obtain ⟨g,h⟩:=qR L
 obtain ⟨B1,S1,i0,l0⟩:=h8.elem h
 obtain ⟨P2,s1,rfl,E0,C⟩:=RArm.iff.1 l0
 obtain ⟨M2,A2,rfl,Z1,f2⟩:=E0.fm
 obtain ⟨m0,Y,n0,Z,rfl,H0,C1,D1,O0,Y0,P0,Z0⟩:=REx.fm C
 refine Qq (fun a J=>?_) (o:=by exact fun J O=>kV 2 (vs:=[.int .i64 (g.body.kind),.int .i64 (g.body.num),.string g.body.name,.slice m0 g.body.args.length Y,.slice n0 g.body.arms.length Z]) J O rfl i0 isAgg66 sizeOf66 rfl rfl)
 replace N:Mem V (.gs (W) 9 1 [.string e.name]::.blk f (ob [.int .i64 (e.kind),.int .i64 (e.num),.string e.name,.slice X e.args.length c4,.slice (some k1) e.arms.length t] 66)::.gs (n1) 9 1 (strs (m2++g.vars))::K) w:=by rw [show g=p1 from Option.some.inj (h.symm.trans I)];exact N
 replace N:=N.pl 2
 refine st J rfl rfl rfl (wG J rfl call147 (ih _ (by first | exact Ex.lt_args (mgQ h) | exact Ex.lt_arms (mgQ h)) (l:=m2++g.vars) (by have hq:=congrArg List.length r;rw [zA h] at hq;simp only [bindPs,qA,laQ] at hq hb ⊢;omega) C N) fun r0 w N a J=>?_)
 replace N:=N.nf
 refine go fun a J=>?_
 replace N:=N.ar [] [2,2]
 refine h0 _ _ _ (by subst q;omega) ⟨(j+1),(r0),((m2++g.vars++zQ g.body)),rfl,J.pk,N,?_⟩
 rw [r,zA h,qA];simp
 refine zF ?_
 replace N:=N.dl [1,0]
 refine ⟨_,rfl,?_⟩
 rw [show (strs (l++zQ e))=(strs m2) by rw [r,zE L];simp [bindPa]];exact N
 refine go fun a J=>?_
 refine mW (fun mm a w=>∃(i:Nat) (u:Value) (m:List Bs),mm=e.args.length - i/\EnvR 53 [(0,u),(3,.pointer (some ⟨f,0,none⟩)),(5,.int .i64 ((i:Nat):Int))] [] a/\Mem V (.blk f (ob [.int .i64 (e.kind),.int .i64 (e.num),.string e.name,.slice X e.args.length c4,.slice p9 e.arms.length t] 66)::.gs (u) 9 1 (strs m)::K) w/\(l++zQ e=m++bindPs (e.args.drop i)++bindPa e.arms)) (e.args.length - 0) ⟨0,v,l,rfl,J.pk,N,by rw [wD];simp [*]⟩ ?_
 clear N J
 rintro mm a w ⟨i,u,m,q,J,N,p⟩ q1 M
 by_cases D:i < e.args.length
 refine go fun a J=>?_
 obtain ⟨o2,rfl,u0,n,A0,L0,F0,A⟩:=h2.el j0 D
 obtain ⟨g2,c135,i2,v1,rfl,I0,E1,F1,Q0,a1,R0,b1⟩:=REx.fm A
 refine go fun a J=>?_
 replace N:=N.pl 1
 refine st J rfl rfl rfl (wG J rfl call147 (ih _ (by first | exact Ex.lt_args (mgQ n) | exact Ex.lt_arms (mgQ n)) (l:=m) (by have hq:=congrArg List.length p;rw [zA n] at hq;simp only [bindPs,qA,laQ] at hq hb ⊢;omega) A N) fun v145 w N a J=>?_)
 replace N:=N.nf
 refine go fun a J=>?_
 replace N:=N.pl 1
 refine M _ _ _ (by subst q;omega) ⟨(i+1),(v145),((m++zQ u0)),rfl,J.pk,N,?_⟩
 rw [p,zA n];simp [bindPs]
 refine go fun a J=>?_
 refine mW (fun mm a w=>∃(j:Nat) (U:Value) (m2:List Bs),mm=e.arms.length - j/\EnvR 53 [(0,U),(3,.pointer (some ⟨f,0,none⟩)),(6,.int .i64 ((j:Nat):Int))] [] a/\Mem V (.blk f (ob [.int .i64 (e.kind),.int .i64 (e.num),.string e.name,.slice X e.args.length c4,.slice p9 e.arms.length t] 66)::.gs (U) 9 1 (strs m2)::K) w/\(l++zQ e=m2++bindPa (e.arms.drop j))) (e.arms.length - 0) ⟨0,u,m,rfl,J.pk,N,by rw [p,zE D];simp [bindPs]⟩ ?_
 clear N J
 rintro mm a w ⟨j,U,m2,q,J,N,k⟩ r1 P
 by_cases y:j < e.arms.length
 refine go fun a J=>?_
 obtain ⟨q0,rfl,w0,B,B0,M0,G0,S⟩:=h8.el G y
 obtain ⟨p2,t1,rfl,E,c0⟩:=RArm.iff.1 S
 obtain ⟨j2,w1,rfl,S0,c1⟩:=E.fm
 obtain ⟨k2,c173,l2,x1,rfl,J0,G1,H1,T0,e1,U0,f1⟩:=REx.fm c0
 refine qP 1 wQ (fun s0 w N a J=>?_) (hr:=(SliceOf.strs.1 E).rowIn N.toSees) (h1:=dA _) (hb:=by have hq:=congrArg List.length k;rw [zA B,qA] at hq;simp only [laQ,yF] at hq hb ⊢;omega)
 first | rw [jM] at N | rw [<- yP] at N
 refine go fun a J=>?_
 obtain ⟨b,c⟩:=qR y
 obtain ⟨C0,N0,R,T⟩:=h8.elem c
 obtain ⟨q2,u1,rfl,d0,F⟩:=RArm.iff.1 T
 obtain ⟨n2,y1,rfl,V0,g1⟩:=d0.fm
 obtain ⟨o0,a0,p0,b0,rfl,K0,I1,K1,W0,i1,X0,j1⟩:=REx.fm F
 refine Qq (fun a J=>?_) (o:=by exact fun J O=>kV 2 (vs:=[.int .i64 (b.body.kind),.int .i64 (b.body.num),.string b.body.name,.slice o0 b.body.args.length a0,.slice p0 b.body.arms.length b0]) J O rfl R isAgg66 sizeOf66 rfl rfl)
 replace N:Mem V (.blk f (ob [.int .i64 (e.kind),.int .i64 (e.num),.string e.name,.slice X e.args.length c4,.slice (some q0) e.arms.length t] 66)::.gs (s0) 9 1 (strs (m2++b.vars))::K) w:=by rw [show b=w0 from Option.some.inj (c.symm.trans B)];exact N
 replace N:=N.pl 1
 refine st J rfl rfl rfl (wG J rfl call147 (ih _ (by first | exact Ex.lt_args (mgQ c) | exact Ex.lt_arms (mgQ c)) (l:=m2++b.vars) (by have hq:=congrArg List.length k;rw [zA c] at hq;simp only [bindPs,qA,laQ] at hq hb ⊢;omega) F N) fun t0 w N a J=>?_)
 replace N:=N.nf
 refine go fun a J=>?_
 replace N:=N.pl 1
 refine P _ _ _ (by subst q;omega) ⟨(j+1),(t0),((m2++b.vars++zQ b.body)),rfl,J.pk,N,?_⟩
 rw [k,zA c,qA];simp
 refine zF ?_
 replace N:=N.dl [0]
 refine ⟨_,rfl,?_⟩
 rw [show (strs (l++zQ e))=(strs m2) by rw [k,zE y];simp [bindPa]];exact N
theorem q7b {d:List Value} {e:Ex} {v:Value} {l:List Bs} (hb:l.length+(zQ e).length<=8796093000000) (re:REx V d e) (N:Mem V (.gs v 9 1 (strs l)::K) w) :
  Calls prog 147 #[v,.agg d.toArray] w (fun ee w'=>∃v,ee=.returned v/\Mem V (.gs v 9 1 (strs (l++zQ e))::K) w'):=by
 suffices H:∀n (e:Ex),e.sz < n->∀{V:Fz} {K:List Res} {w:World} {d:List Value} {v:Value} {l:List Bs},l.length+(zQ e).length<=8796093000000->REx V d e->Mem V (.gs v 9 1 (strs l)::K) w->Calls prog 147 #[v,.agg d.toArray] w (fun ee w'=>∃v,ee=.returned v/\Mem V (.gs v 9 1 (strs (l++zQ e))::K) w') from H _ e (Nat.lt_succ_self _) hb re N
 intro n
 induction n with
 | zero=>intro e h;omega
 | succ n b=>intro e h V K w d v l hb re N;exact y7s re hb (fun x c _ _ _ _ _ _ a r m=>b x (by omega) a r m) N
theorem y0f {v0:Value} {l:List Bs} {s:Bs} (f:SliceOf RStr V 1 v0 l) (N:Mem V K w) :
  Calls prog 87 #[v0,.string s] w (fun ee w'=>ee=.returned (.bool (sG l s))/\Mem V K w'):=by
 obtain ⟨u,c0,rfl,q,k⟩:=f.fm
 refine zM func87 ntmps87 fun Q hQ a J=>?_
 refine go fun a J=>?_
 refine zV (J.ks [0,1]) N (fun R mm a w=>∃(i:Nat),mm=l.length - i/\R V [(5,.int .i64 ((i:Nat):Int))] [] a w/\(sG l s=sG (l.drop i) s)) (l.length - 0) ⟨0,rfl,⟨J.pk,N⟩,rfl⟩ ?_
 clear N J
 rintro mm a w ⟨i,j,⟨J,N⟩,c⟩ t h
 by_cases m:i < l.length
 refine go fun a J=>?_
 obtain ⟨r,rfl,g,b,d,o,n,e⟩:=f.el k m
 obtain rfl:d=[.string g]:=e
 by_cases p:g=s
 refine zF ?_
 exact zN N (by rw [c,zA b,z7s];simp [*])
 refine go fun a J=>?_
 refine h _ _ _ (by subst j;omega) ⟨(i+1),rfl,⟨J.pk,N⟩,?_⟩
 rw [c,zA b,z7s];simp [*]
 refine zF ?_
 exact zN N (by rw [c,zE m];rfl)
end Go.Sw

namespace Go.Sw
open Go.Proofs
set_option maxRecDepth 20000
set_option maxHeartbeats 4000000
theorem x0m {V:Fz} {K:List Res} {w:World} {d0:List Value} {f:Fun} (n:RFun V d0 f) (hb:f.params.length+(zQ f.body).length<=8796093000000) (N:Mem V K w) :
  Calls Tryz.prog 88 #[.agg d0.toArray] w (fun ee w'=>∃v,ee=.returned v/\Mem V (.gs v 9 1 (strs (f.params.map Param.name++zQ f.body))::K) w'):=by
 obtain ⟨s1,X,rfl,r,s⟩:=id n
 obtain ⟨Y,c4,rfl,M,k⟩:=r.fm
 obtain ⟨P,G,S,H,rfl,y,I,L,A,C,B,D⟩:=REx.fm s
 refine zM Tryz.func88 Tryz.ntmps88 fun Q hQ a J=>?_
 refine Bx fun F w N a J=>?_
 refine go fun a J=>?_
 replace N:=N.nilRow 9 1
 replace N:=N.nf
 refine go fun a J=>?_
 refine zV (J.ks [1]) N (fun R mm a w=>∃(i:Nat) (u:Value) (nl:List Bs),mm=f.params.length - i/\R V [(3,u),(4,.int .i64 ((i:Nat):Int))] [(0,.gs (u) 9 1 (strs nl))] a w/\(f.params.map Param.name=nl++(f.params.drop i).map Param.name)) (f.params.length - 0) ⟨0,.slice none 0 0,[],rfl,⟨J.pk,N⟩,rfl⟩ ?_
 clear N J
 rintro mm a w ⟨i,u,nl,j,⟨J,N⟩,b⟩ E e
 replace N:=N.nf
 by_cases d:i < f.params.length
 refine go fun a J=>?_
 obtain ⟨T,rfl,p,h,q,z,t,g⟩:=r.el k d
 obtain rfl:=id g
 refine qH fun U w N a J=>?_
 refine qP 1 wQ (fun o w N a J=>?_) (hb:=by have m:=congrArg List.length (b);simp only [List.length_map,laQ,yF,lcQ,lnQ] at m ⊢;omega)
 first | rw [jM] at N | rw [<- yP] at N
 refine go fun a J=>?_
 replace N:=N.dl [0]
 refine e _ _ _ (by subst j;omega) ⟨(i+1),(o),(nl++[p.name]),rfl,⟨J.pk,N⟩,?_⟩
 rw [b,zA h];simp
 refine go fun a J=>?_
 have c:=b
 rw [zE d] at c
 simp only [List.map_nil,List.append_nil] at c
 rw [<- c] at N
 refine go fun a J=>?_
 refine st J rfl rfl rfl (wG J rfl Tryz.call147 (q7b (l:=(f.params.map Param.name)) (by simp only [List.length_map];omega) s N) fun W w N a J=>?_)
 replace N:=N.nf
 refine zF ?_
 replace N:=N.dl [1]
 refine ⟨_,rfl,?_⟩
 rw [show (strs (f.params.map Param.name++zQ f.body))=(strs ((f.params.map Param.name)++zQ f.body)) by rfl];exact N
end Go.Sw

namespace Go.Sw
open Go.Proofs.Tryz
open Go.Proofs
set_option maxRecDepth 20000
set_option maxHeartbeats 4000000
variable {V:Fz} {K:List Res} {w:World}
theorem z6p {s:Bs} {lo a:Nat} (h:s.size < 1∨24 < s.size∨zH s 0 < lo∨a < zH s 0):z0t s lo a=false:=if_pos h
theorem j9n {s:Bs} {lo a:Nat} (h:¬(s.size < 1∨24 < s.size∨zH s 0 < lo∨a < zH s 0)) (h1:xF s=s.size):z0t s lo a=true:=by unfold z0t;rw [if_neg h,if_pos h1]
theorem q1b {s:Bs} {lo c i:Nat} (h1:xF s=i) (a:i≠s.size) (b:zH s i≠39∨i+1=s.size):z0t s lo c=false:=by
 subst h1;unfold z0t;rw [if_neg a,if_pos b];split <;> rfl
theorem z8k {s:Bs} {lo a i:Nat} (h:¬(s.size < 1∨24 < s.size∨zH s 0 < lo∨a < zH s 0)) (h1:xF s=i) (b:i≠s.size) (c:¬(zH s i≠39∨i+1=s.size)):z0t s lo a=decide (i+1+yL zY s s.size (i+1)=s.size):=by
 subst h1;unfold z0t;rw [if_neg h,if_neg b,if_neg c]
theorem j8k {c:Nat}  (N:Mem V K w) :
  Calls prog 207 #[.int .u8 ((c:Nat):Int)] w (fun ee w'=>ee=.returned (.bool (yK c))/\Mem V K w'):=by
 refine zM func207 ntmps207 fun Q hQ a J=>?_
 by_cases l:97<=c
 by_cases m:c<=122
 refine zF ?_
 exact zN N (by unfold yK qK qS zY;simp <;> omega)
 by_cases n:65<=c
 refine go fun a J=>?_
 by_cases p:c<=90
 refine zF ?_
 exact zN N (by unfold yK qK qS zY;simp <;> omega)
 by_cases q:48<=c
 by_cases r:c<=57
 refine zF ?_
 exact zN N (by unfold yK qK qS zY;simp <;> omega)
 refine Qq (fun a J=>?_) (o:=by exact fun J O=>pU (i:=c) (j:=95) J rfl rfl)
 refine zF ?_
 exact zN N (by unfold yK qK qS zY;simp <;> omega)
 refine Qq (fun a J=>?_) (o:=by exact fun J O=>pU (i:=c) (j:=95) J rfl rfl)
 refine zF ?_
 exact zN N (by unfold yK qK qS zY;simp <;> omega)
 refine go fun a J=>?_
 by_cases s:48<=c
 by_cases b:c<=57
 refine zF ?_
 exact zN N (by unfold yK qK qS zY;simp <;> omega)
 refine Qq (fun a J=>?_) (o:=by exact fun J O=>pU (i:=c) (j:=95) J rfl rfl)
 refine zF ?_
 exact zN N (by unfold yK qK qS zY;simp <;> omega)
 refine Qq (fun a J=>?_) (o:=by exact fun J O=>pU (i:=c) (j:=95) J rfl rfl)
 refine zF ?_
 exact zN N (by unfold yK qK qS zY;simp <;> omega)
 by_cases d:65<=c
 by_cases e:c<=90
 refine zF ?_
 exact zN N (by unfold yK qK qS zY;simp <;> omega)
 refine go fun a J=>?_
 by_cases f:48<=c
 by_cases g:c<=57
 refine zF ?_
 exact zN N (by unfold yK qK qS zY;simp <;> omega)
 refine Qq (fun a J=>?_) (o:=by exact fun J O=>pU (i:=c) (j:=95) J rfl rfl)
 refine zF ?_
 exact zN N (by unfold yK qK qS zY;simp <;> omega)
 refine Qq (fun a J=>?_) (o:=by exact fun J O=>pU (i:=c) (j:=95) J rfl rfl)
 refine zF ?_
 exact zN N (by unfold yK qK qS zY;simp <;> omega)
 by_cases h:48<=c
 refine go fun a J=>?_
 by_cases k:c<=57
 refine zF ?_
 exact zN N (by unfold yK qK qS zY;simp <;> omega)
 refine Qq (fun a J=>?_) (o:=by exact fun J O=>pU (i:=c) (j:=95) J rfl rfl)
 refine zF ?_
 exact zN N (by unfold yK qK qS zY;simp <;> omega)
 refine Qq (fun a J=>?_) (o:=by exact fun J O=>pU (i:=c) (j:=95) J rfl rfl)
 refine zF ?_
 exact zN N (by unfold yK qK qS zY;simp <;> omega)
theorem q8m {s:Bs} {lo:Nat} {P:Nat}  (N:Mem V K w) :
  Calls prog 182 #[.string s,.int .u8 ((lo:Nat):Int),.int .u8 ((P:Nat):Int)] w (fun ee w'=>ee=.returned (.bool (z0t s lo P))/\Mem V K w'):=by
 refine zM func182 ntmps182 fun Q hQ a J=>?_
 by_cases h4:s.size < 1
 refine zF ?_
 exact zN N (by exact (z6p (by omega)).symm)
 by_cases h6:24 < s.size
 refine zF ?_
 exact zN N (by exact (z6p (by omega)).symm)
 have M:0 < s.size:=by omega
 obtain ⟨c9,f⟩:=kQ M
 refine Qq (fun a J=>?_) (o:=by exact fun J O=>vL 0 c9 J rfl rfl runUnderlying9 f)
 have X:=yV f
 by_cases b0:c9.toNat < lo
 have I:=yV f
 refine zF ?_
 exact zN N (by exact (z6p (by omega)).symm)
 obtain ⟨z,p⟩:=kQ M
 refine Qq (fun a J=>?_) (o:=by exact fun J O=>vL 0 z J rfl rfl runUnderlying9 p)
 have I:=yV p
 refine go fun a J=>?_
 by_cases c0:P < z.toNat
 refine zF ?_
 exact zN N (by exact (z6p (by omega)).symm)
 refine goJ 6 fun a J=>?_
 refine sq fun S F=>?_
 have n:∀a w,(∃(i:Nat),EnvR 74 [(0,.string s),(7,.int .i64 ((i:Nat):Int))] [] a/\Mem V (K) w/\(xF s=i/\1<=i/\i<=s.size/\¬(s.size < 1∨24 < s.size∨zH s 0 < lo∨P < zH s 0)))->S a w:=by
  clear N J
  rintro a w ⟨i,J,N,C⟩
  apply F
  obtain ⟨l,t,u,b⟩:=C
  by_cases d0:i=s.size
  refine zF ?_
  exact zN N (by exact (j9n b (by omega)).symm)
  have L:i < s.size:=by omega
  obtain ⟨A,q⟩:=kQ L
  refine Qq (fun a J=>?_) (o:=by exact fun J O=>vL i A J rfl rfl runUnderlying9 q)
  have Y:=yV q
  by_cases e0:A.toNat=39
  by_cases f0:(i+1)=s.size
  refine zF ?_
  exact zN N (by exact (q1b l (by omega) (by omega)).symm)
  refine go fun a J=>?_
  refine zV (J.ks [0]) N (fun R mm a w=>∃(k:Nat),mm=s.size - k/\R V [(8,.int .i64 ((k:Nat):Int))] [] a w/\(k<=s.size/\i+1+yL zY s s.size (i+1)=k+yL zY s s.size k)) (s.size - (i+1)) ⟨i+1,rfl,⟨J.pk,N⟩,by exact ⟨by omega,rfl⟩⟩ ?_
  clear N J
  rintro mm a w ⟨k,y,⟨J,N⟩,D⟩ Z G
  obtain ⟨i0,m⟩:=D
  by_cases B:k < s.size
  obtain ⟨c42,g⟩:=kQ B
  refine Qq (fun a J=>?_) (o:=by exact fun J O=>vL k c42 J rfl rfl runUnderlying9 g)
  have W:=yV g
  by_cases g0:c42.toNat < 48
  have r:=yV g
  refine zF ?_
  exact zN N (by rw [z8k b l (by omega) (by omega),m,xQ,if_neg (by rintro ⟨_,d⟩;simp [zY] at d;omega)];exact (decide_eq_false (by omega)).symm)
  obtain ⟨c46,h⟩:=kQ B
  refine Qq (fun a J=>?_) (o:=by exact fun J O=>vL k c46 J rfl rfl runUnderlying9 h)
  have r:=yV h
  by_cases h0:57 < c46.toNat
  refine zF ?_
  exact zN N (by rw [z8k b l (by omega) (by omega),m,xQ,if_neg (by rintro ⟨_,d⟩;simp [zY] at d;omega)];exact (decide_eq_false (by omega)).symm)
  refine go fun a J=>?_
  refine G _ _ _ (by subst y;omega) ⟨(k+1),rfl,⟨J.pk,N⟩,?_⟩
  exact ⟨by omega,by rw [m,xQ zY s k,if_pos ⟨by omega,by rw [yV h];simp [zY];omega⟩];omega⟩
  refine zF ?_
  exact zN N (by rw [z8k b l (by omega) (by omega),m,xQ,if_neg (by omega)];exact (decide_eq_true (by omega)).symm)
  refine zF ?_
  exact zN N (by exact (q1b l (by omega) (by omega)).symm)
 refine go fun a J=>?_
 refine zV (J.ks [0]) N (fun R mm a w=>∃(i:Nat),mm=s.size - i/\R V [(7,.int .i64 ((i:Nat):Int))] [] a w/\(1<=i/\i<=s.size/\xF s=i+yL yK s s.size i/\¬(s.size < 1∨24 < s.size∨zH s 0 < lo∨P < zH s 0))) (s.size - 1) ⟨1,rfl,⟨J.pk,N⟩,by exact ⟨by omega,by omega,rfl,by omega⟩⟩ ?_
 clear N J
 rintro mm a w ⟨i,y,⟨J,N⟩,E⟩ a0 H
 obtain ⟨t,u,v,b⟩:=E
 by_cases U:i < s.size
 obtain ⟨T,j⟩:=kQ U
 refine Qq (fun a J=>?_) (o:=by exact fun J O=>vL i T J rfl rfl runUnderlying9 j)
 refine zZ call207 (fun e w N a J=>?_) (fun e w N a J=>?_) (c:=j8k N)
 refine go fun a J=>?_
 refine H _ _ _ (by subst y;omega) ⟨(i+1),rfl,⟨J.pk,N⟩,?_⟩
 exact ⟨by omega,by omega,by rw [v,xQ yK s i,if_pos ⟨by omega,by rw [yV j];exact e⟩];omega,b⟩
 refine go fun a J=>?_
 exact n _ _ ⟨i,J.pk,N,⟨by rw [v,xQ yK s i,if_neg (by rintro ⟨_,d⟩;rw [yV j,e] at d;cases d)];rfl,t,u,b⟩⟩
 refine go fun a J=>?_
 exact n _ _ ⟨i,J.pk,N,⟨by rw [v,xQ yK s i,if_neg (by omega)];rfl,t,u,b⟩⟩
theorem x3v {s:Bs}  (N:Mem V K w) :
  Calls prog 197 #[.string s] w (fun ee w'=>ee=.returned (.bool (z3o s))/\Mem V K w'):=by
 refine zM func197 ntmps197 fun Q hQ a J=>?_
 refine qH fun v3 w N a J=>?_
 refine zZ call182 (fun g w N a J=>?_) (fun g w N a J=>?_) (c:=q8m (s:=s) N)
 refine go fun a J=>?_
 have b:=N
 clear N
 obtain ⟨k,j,N,f⟩:=b.freezeRow (i:=0) rfl
 clear b
 replace N:=N.nf
 have e:SliceOf RStr k 1 _ (wordsL):=SliceOf.strs.2 f
 obtain ⟨o,n,h,l,m⟩:=e.form (by decide)
 have d:=N
 clear N
 subst h
 have N:=d
 clear d
 refine zS call87 (fun w N a J=>?_) (c:=y0f e N)
 refine zF ?_
 replace N:=N.le (j)
 exact zN N (by simp [z3o, *])
 refine zF ?_
 replace N:=N.dl [0]
 exact zN N (by simp [z3o, *])
theorem j7p {s:Bs}  (N:Mem V K w) :
  Calls prog 161 #[.string s] w (fun ee w'=>ee=.returned (.bool (z3o s))/\Mem V K w'):=by
 refine zM func161 ntmps161 fun Q hQ a J=>?_
 refine zS call197 (fun w N a J=>?_) (c:=x3v N)
 refine zF ?_
 exact zN N (by rfl)
theorem y9p {s:Bs}  (N:Mem V K w) :
  Calls prog 134 #[.string s] w (fun ee w'=>ee=.returned (.bool (conR s))/\Mem V K w'):=by
 refine zM func134 ntmps134 fun Q hQ a J=>?_
 refine zS call182 (fun w N a J=>?_) (c:=q8m (s:=s) N)
 refine zF ?_
 exact zN N (by rfl)
theorem z8w (N:Mem V K w) :
  Calls prog 169 #[] w (fun ee w'=>∃y:Fz×List Value,ee=.returned (.agg y.2.toArray)/\(V.Le y.1/\RData y.1 y.2 truthsD)/\Mem y.1 K w'):=by
 refine zM func169 ntmps169 fun Q hQ a J=>?_
 refine Alc fun n w N a J=>?_
 refine yC fun a J=>?_
 refine yC fun a J=>?_
 refine qH fun v4 w N a J=>?_
 have b:=N
 clear N
 obtain ⟨f,j,N,e⟩:=b.freezeRow (i:=0) rfl
 clear b
 replace N:=N.nf
 have d:SliceOf RCon f 2 _ (truthsD.cons):=⟨_,e,⟨[_,_],[_,_],rfl,rfl,⟨_,rfl,SliceOf.nil 1⟩,[_,_],[],rfl,rfl,⟨_,rfl,SliceOf.nil 1⟩,rfl⟩⟩
 obtain ⟨o,m,h,k,l⟩:=d.form (by decide)
 have c:=N
 clear N
 subst h
 have N:=c
 clear c
 refine yC fun a J=>?_
 refine Sto 0 fun w N a J=>?_
 refine go fun a J=>?_
 have g:=N
 replace N:=N.dl [0]
 refine jW (N:=g) ?_
 exact ⟨(f,_),rfl,⟨j,_,rfl,d⟩,N⟩
end Go.Sw
