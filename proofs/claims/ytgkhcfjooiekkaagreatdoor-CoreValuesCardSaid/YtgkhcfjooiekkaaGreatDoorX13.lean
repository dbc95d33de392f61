import Derived.OrdersIn
import Derived.Test.YtgkhcfjooiekkaaGreatDoorX12
set_option linter.unusedVariables false
set_option linter.unusedSimpArgs false
namespace Go.Sw
structure Fit (T:Table) (c:Core):Prop where
 ds:∀n,zN T.datas n=yD c.datas n
 cs:∀n,zN T.cons n=nH c.datas n
 fs:∀n,zN T.funs n=(match dZ c.funs n with | some j=>c.funs[j]? | none=>none)
 is:∀n,zN T.inputs n=z7j c.inputs n
 no:zN T.datas sNo=none
 pos:∀n d,zN T.datas n=some d->0 < d.cons.length/\∀x∈d.cons,∀f∈x.fields,f≠sNo
 mks:∀n m,zN T.cons n=some m->m.data≠sNo
 rs:∀n f,zN T.funs n=some f->f.result≠sNo
 it:∀n t,zN T.inputs n=some t->t≠sNo
structure Rel (s:Scope) (vars:List Param):Prop where
 get:∀n,zN s n=dQ vars n
 nz:∀p∈vars,p.type≠sNo
theorem Rel.put {s:Scope} {vars:List Param} (h:Rel s vars) {v f:Bs} (a:f≠sNo):Rel (wH s v f) (vars++[⟨v,f⟩]) where
 get n:=by
  rw [vZ,z1a,h.get]
  by_cases e:n=v
  ·rw [if_pos e,if_pos e.symm]
  ·rw [if_neg e,if_neg (fun g=>e g.symm)]
 nz p b:=by
  rcases List.mem_append.1 b with g | g
  ·exact h.nz p g
  ·simp only [List.mem_cons,List.not_mem_nil,or_false] at g;subst g;exact a
theorem Rel.putAll:∀{vs fs:List Bs} {s:Scope} {vars:List Param},Rel s vars->(∀f∈fs,f≠sNo)->Rel (putAll s vs fs) (vars++jF vs fs)
 | [],fs,_,_,h,_=>by rw [xA];simpa [jF] using h
 | _::_,[],_,_,h,_=>by simpa [jF,Go.Sw.putAll] using h
 | v::vs,f::fs,_,vars,h,a=>by
  rw [nU,show vars++jF (v::vs) (f::fs)=(vars++[⟨v,f⟩])++jF vs fs by simp [jF]]
  exact (h.put (a f msQ)).putAll (fun g b=>a g (mcQ _ b))
theorem j0a {ps:List Param} {n t:Bs}:∀(r:Option Bs),(ps.foldl (fun r p=>if p.name=n then some p.type else r) r)=some t->(∃p∈ps,p.type=t)∨r=some t:=by
 induction ps with
 | nil=>intro r h;exact .inr h
 | cons p ps a=>
  intro r h
  rcases a _ h with ⟨q,hq,e⟩ | h
  ·exact .inl ⟨q,mcQ _ hq,e⟩
  ·change (if p.name=n then some p.type else r)=some t at h
   split at h
   ·cases h;exact .inl ⟨p,msQ,rfl⟩
   ·exact .inr h
theorem Rel.ne {s:Scope} {vars:List Param} (h:Rel s vars) {n t:Bs} (g:dQ vars n=some t):t≠sNo:=by
 rcases j0a none g with ⟨p,a,rfl⟩ | g
 ·exact h.nz p a
 ·cases g
def Alk (x:Bs) (r:Bs×Bool):Prop:=(r.2=true->x=r.1/\r.1≠sNo)/\(r.2=false->x=sNo)
theorem Alk.no {x:Bs} (h:x=sNo):Alk x noT:=⟨fun g=>(by cases g),fun _=>h⟩
theorem Alk.iff {x:Bs} {r:Bs×Bool} (h:Alk x r):x=sNo↔r.2=false:=by
 cases hr:r.2 with
 | true=>have:=h.1 hr;exact ⟨fun e=>absurd (this.1▸e) this.2,fun e=>by cases e⟩
 | false=>exact ⟨fun _=>rfl,fun _=>h.2 hr⟩
def RT (T:Table) (c:Core) (e:Ex):Prop:=∀s vars,Rel s vars->(zP e).Nodup->Fresh s (zP e)->Alk (zF T e s).1 (zQ c e vars)
theorem z3g {c:Core}:∀{xs:List Ex} {vars:List Param},(typesR c xs vars).2=true->(typesR c xs vars).1.length=xs.length
 | [],_,_=>rfl
 | x::xs,vars,h=>by
  simp only [typesR] at h ⊢
  split at h
  ·cases h
  ·rename_i a;rw [if_neg a];simp only [lcQ];rw [z3g h]
theorem y0d {T:Table} {c:Core}:∀{xs:List Ex} {s:Scope} {vars:List Param} {ts:List Bs},(∀x∈xs,mU T x)->(∀x∈xs,RT T c x)->Rel s vars->xs.length=ts.length->(bindPs xs).Nodup->Fresh s (bindPs xs) ->
  ((allQ T xs s ts).1=true↔(typesR c xs vars).2=true/\ts=(typesR c xs vars).1)
 | [],_,_,[],_,_,_,_,_,_=>by simp [allQ,typesR]
 | x::xs,s,vars,t::ts,k,l,hr,hl,q,i=>by
  have hn':=zU (show (zP x++bindPs xs).Nodup from q)
  have fs:=i.sub (m:=zP x) fun n h=>List.mem_append.2 (.inl h)
  have o:=l x msQ s vars hr hn'.1 fs
  have j:=o.iff
  rw [z2a]
  simp only [typesR]
  by_cases h1:(zF T x s).1=sNo
  ·rw [if_pos (.inl h1),if_pos (j.1 h1)];simp
  ·have d:(zQ c x vars).2=true:=by cases h:(zQ c x vars).2 with | true=>rfl | false=>exact absurd (j.2 h) h1
   have f:=o.1 d
   rw [if_neg (show ¬(zQ c x vars).2=false by simp [d])]
   by_cases a:(zF T x s).1=t
   ·rw [if_neg (fun e=>e.elim h1 (fun g=>g a))]
    have p:=k x msQ s hn'.1 fs h1
    rw [p,y0d (fun y b=>k y (mcQ _ b)) (fun y b=>l y (mcQ _ b)) hr (by simpa using hl) hn'.2.1 (i.sub fun n h=>List.mem_append.2 (.inr h))]
    simp only [List.cons.injEq,<- f.1,a,true_and]
   ·rw [if_pos (.inr a)]
    simp only [Bool.false_eq_true,List.cons.injEq,false_iff,<- f.1]
    exact fun g=>a g.2.1.symm
 | [],_,_,_::_,_,_,_,hl,_,_=>by simp at hl
 | _::_,_,_,[],_,_,_,hl,_,_=>by simp at hl
theorem q8m {T:Table} {c:Core} {xs:List Ex} {s:Scope} {vars:List Param} {ts:List Bs} (d:∀x∈xs,mU T x) (f:∀x∈xs,RT T c x) (hr:Rel s vars) (e:(bindPs xs).Nodup) (b:Fresh s (bindPs xs)) :
  (xP T xs s ts).1=true↔(typesR c xs vars).2=true/\ts=(typesR c xs vars).1:=by
 unfold xP
 split
 ·rename_i hl;exact y0d d f hr hl e b
 ·rename_i hl
  simp only [Bool.false_eq_true,false_iff]
  rintro ⟨h1,a⟩
  rw [a,z3g h1] at hl
  exact hl rfl
theorem y7q {T:Table} {c:Core}:∀{az:List Arm} {cs:List Con} {first:Bool} {out:Bs} {s:Scope} {vars:List Param},(∀a∈az,mU T a.body)->(∀a∈az,RT T c a.body)->Rel s vars->cs.length=az.length ->
  (∀x∈cs,∀f∈x.fields,f≠sNo)->(bindPa az).Nodup->Fresh s (bindPa az)->(az=[]->out≠sNo)->Alk (splitP T az cs first out s).1 (armsR c az cs first out vars)
 | [],[],_,out,_,_,_,_,_,_,_,_,_,h=>⟨fun _=>⟨rfl,h rfl⟩,fun g=>by cases g⟩
 | a::az,x::cs,first,out,s,vars,p,r,hr,hl,t,q,l,_=>by
  rw [qA] at q l
  have hn':=zU q
  have hn'':=zU hn'.1
  rw [qW,nD]
  by_cases d:a.con≠x.name∨a.vars.length≠x.fields.length
  ·rw [if_pos d,if_pos d];exact .no rfl
  ·rw [if_neg d,if_neg d]
   have fs:Fresh s (a.vars++zP a.body):=l.sub fun n h=>List.mem_append.2 (.inl h)
   have hb:Alk (mS T a x s).1 (zQ c a.body (vars++jF a.vars x.fields)) :=
    r _ msQ (putAll s a.vars x.fields) _ (hr.putAll (t x msQ)) hn''.2.1 (fun n hb=>by
     rw [xU (fun N=>hn''.2.2 n N hb)];exact fs n (List.mem_append.2 (.inr hb)))
   have o:=hb.iff
   by_cases h1:(mS T a x s).1=sNo
   ·rw [if_pos (.inl h1),if_pos (.inl (o.1 h1))];exact .no rfl
   ·have m:(zQ c a.body (vars++jF a.vars x.fields)).2=true:=by cases h:(zQ c a.body (vars++jF a.vars x.fields)).2 with | true=>rfl | false=>exact absurd (o.2 h) h1
    have j:=hb.1 m
    rw [j.1]
    by_cases i:first=false/\(zQ c a.body (vars++jF a.vars x.fields)).1≠out
    ·rw [if_pos (.inr i),if_pos (.inr i)];exact .no rfl
    ·rw [if_neg (fun e=>e.elim j.2 i),if_neg (fun e=>e.elim (by simp [m]) i)]
     have k:a.vars.length=x.fields.length:=Classical.byContradiction fun e=>d (.inr e)
     have u:=z2d (p _ msQ) k hn'.1 fs h1
     rw [u]
     exact y7q (fun b hb=>p b (mcQ _ hb)) (fun b hb=>r b (mcQ _ hb)) hr (by simpa using hl) (fun y v=>t y (mcQ _ v)) hn'.2.1 (l.sub fun n h=>List.mem_append.2 (.inr h)) (fun _=>j.2)
 | [],_::_,_,_,_,_,_,_,_,hl,_,_,_,_=>by simp at hl
 | _::_,[],_,_,_,_,_,_,_,hl,_,_,_,_=>by simp at hl
def tyL (T:Table) (e:Ex) (s:Scope):Option (List Bs×Bs)->Bs
 | none=>sNo
 | some p=>if (xP T e.args s p.1).1=true then p.2 else sNo
theorem opR_eq (n:Bs):(opR n).getD sNo=opT n/\∀t,opR n=some t->t≠sNo:=by
 unfold opR opT
 have:oR [⟨#[43]⟩,⟨#[45]⟩,⟨#[42]⟩,⟨#[47]⟩,⟨#[37]⟩] n=true↔(n=⟨#[43]⟩∨n=⟨#[45]⟩∨n=⟨#[42]⟩∨n=⟨#[47]⟩∨n=⟨#[37]⟩):=by
  rw [z4z];simp
 by_cases h:oR [⟨#[43]⟩,⟨#[45]⟩,⟨#[42]⟩,⟨#[47]⟩,⟨#[37]⟩] n=true
 ·rw [if_pos h,if_pos (this.1 h)];exact ⟨rfl,fun t g=>by cases g;decide⟩
 ·rw [if_neg h,if_neg (fun g=>h (this.2 g))]
  split
  ·exact ⟨rfl,fun t g=>by cases g;decide⟩
  ·exact ⟨rfl,fun t g=>by cases g⟩
theorem bare_iff {e:Ex} {name:Bool} {n:Int} {k:Int}:qD e false name n k=true↔e.num=0/\(name=true∨e.name=sNo)/\(n < 0∨(e.args.length:Int)=n)/\(k < 0∨(e.arms.length:Int)=k):=by
 simp [qD,sNo,and_assoc]
theorem bare1 {e:Ex}:qD e true false 0 0=true↔e.name=sNo/\e.args.length=0/\e.arms.length=0:=by
 simp [qD,sNo,and_assoc]
theorem bare0 {e:Ex} {n:Int}:qD e false true n 0=true↔e.num=0/\(n < 0∨(e.args.length:Int)=n)/\e.arms.length=0:=by
 simp only [qD,baQ,Bool.or_eq_true,decide_eq_true_eq,Bool.false_eq_true,false_or,true_or,and_true]
 omega
theorem z1t {T:Table} {c:Core} {e:Ex} {s:Scope} {vars:List Param} {w:Option (List Bs×Bs)} (b:∀x∈e.args,mU T x) (i:∀x∈e.args,RT T c x) (hr:Rel s vars) (d:(bindPs e.args).Nodup) (a:Fresh s (bindPs e.args)) (j:∀p,w=some p->p.2≠sNo) :
  Alk (tyL T e s w) (if (typesR c e.args vars).2=false then noT else tyR c e vars w):=by
 cases w with
 | none=>
  by_cases h:(typesR c e.args vars).2=false
  ·rw [if_pos h];exact .no rfl
  ·rw [if_neg h];exact .no rfl
 | some p=>
  have h1:=q8m (ts:=p.1) b i hr d a
  simp only [tyL,tyR]
  by_cases h:(typesR c e.args vars).2=false
  ·rw [if_pos h]
   have:¬(xP T e.args s p.1).1=true:=fun g=>by rw [(h1.1 g).1] at h;cases h
   rw [if_neg this];exact .no rfl
  ·rw [if_neg h]
   have f:(typesR c e.args vars).2=true:=by cases g:(typesR c e.args vars).2 with | true=>rfl | false=>exact absurd g h
   by_cases g:p.1=(typesR c e.args vars).1
   ·rw [if_pos (h1.2 ⟨f,g⟩),if_pos g]
    exact ⟨fun _=>⟨rfl,j p rfl⟩,fun x=>by cases x⟩
   ·have:¬(xP T e.args s p.1).1=true:=fun x=>g (h1.1 x).2
    rw [if_neg this,if_neg g];exact .no rfl
theorem rt_ok {T:Table} {c:Core} (j:Fit T c):∀(n:Nat) (e:Ex),e.sz < n->RT T c e
 | 0,_,h=>by omega
 | n+1,e,j0=>by
  intro s vars hr X L
  have u:∀x∈e.args,mU T x:=fun x H=>aG T j.no (n+1) x (by have:=Ex.lt_args H;omega)
  have b0:∀a∈e.arms,mU T a.body:=fun a S=>aG T j.no (n+1) a.body (by have:=Ex.lt_arms S;omega)
  have q:∀x∈e.args,RT T c x:=fun x H=>rt_ok j n x (by have:=Ex.lt_args H;omega)
  have d0:∀a∈e.arms,RT T c a.body:=fun a S=>rt_ok j n a.body (by have:=Ex.lt_arms S;omega)
  rw [kY] at X L
  have V:=zU X
  have B:=zU V.1
  have fa:Fresh s (bindPs e.args):=L.sub fun m N=>List.mem_append.2 (.inl (List.mem_append.2 (.inr N)))
  have fb:Fresh s (bindPa e.arms):=L.sub fun m N=>List.mem_append.2 (.inr N)
  rw [dK]
  by_cases F:e.kind=7
  ·rw [mI T e s F]
   unfold jO
   by_cases hb:qD e false false 1 (-1)=true
   ·rw [if_pos hb]
    obtain ⟨Y,Z,b3,_⟩:=bare_iff.1 hb
    obtain ⟨x,b⟩:=j3r (xI (n:=1) hb)
    have H:e.args[0]? = some x:=by rw [b];rfl
    rw [qY H]
    simp only [F,Y,b,firstR]
    simp only [show ¬((7:Int)=1) by decide,show ¬((7:Int)=2) by decide,show ¬((7:Int)=3) by decide,show ¬((7:Int)=6) by decide,ne_eq,not_true,not_false_eq_true,false_and,and_false,or_self,if_false,if_true,lcQ,lnQ,Z.resolve_left (by decide)]
    have na:=B.2.1
    rw [b] at fa na
    simp only [bindPs,List.append_nil] at fa na
    have mx:x∈e.args:=by rw [b];simp
    have R:=q x mx s vars hr na fa
    by_cases r:(zQ c x vars).2=false
    ·rw [if_pos r,R.2 r,j.no];exact .no rfl
    ·rw [if_neg r]
     have h1:(zQ c x vars).2=true:=by cases g:(zQ c x vars).2 with | true=>rfl | false=>exact absurd g r
     obtain ⟨v,e2⟩:=R.1 h1
     have e3:=u x mx s na fa (v▸e2)
     rw [v,e3,j.ds]
     cases hd:yD c.datas (zQ c x vars).1 with
     | none=>exact .no rfl
     | some d=>
      have i:=j.pos _ d ((j.ds _).trans hd)
      simp only
      by_cases k:d.cons.length=e.arms.length
      ·rw [if_pos k,if_neg (fun g=>g k)]
       exact y7q b0 d0 hr k i.2 V.2.1 fb (fun g=>by rw [g] at k;have:=i.1;simp only [lnQ] at k;omega)
      ·rw [if_neg k,if_pos k];exact .no rfl
   ·rw [if_neg hb]
    have hq:¬(e.num=0/\e.name=sNo/\e.args.length=1):=fun g=>hb (bare_iff.2 ⟨g.1,.inr g.2.1,.inr (by rw [g.2.2];rfl),.inl (by decide)⟩)
    by_cases P:(e.kind≠7/\0 < e.arms.length)∨(e.kind≠1/\e.num≠0)
    ·rw [if_pos P];exact .no rfl
    ·rw [if_neg P]
     have r:e.num=0:=Classical.byContradiction fun g=>P (.inr ⟨by rw [F];decide,g⟩)
     simp only [F]
     simp only [show ¬((7:Int)=1) by decide,show ¬((7:Int)=2) by decide,show ¬((7:Int)=3) by decide,show ¬((7:Int)=6) by decide,if_false,if_true]
     rw [if_pos]
     ·exact .no rfl
     ·by_cases hl:e.args.length=1
      ·exact .inr fun g=>hq ⟨r,g,hl⟩
      ·exact .inl hl
  have Q:((e.kind≠7/\0 < e.arms.length)∨(e.kind≠1/\e.num≠0))↔¬(e.arms.length=0/\(e.kind=1∨e.num=0)):=by
   constructor
   ·rintro (⟨_,g⟩ | ⟨g,g'⟩) ⟨x,y⟩
    ·omega
    ·exact y.elim g g'
   ·intro g
    by_cases x:e.arms.length=0
    ·exact .inr ⟨fun y=>g ⟨x,.inl y⟩,fun y=>g ⟨x,.inr y⟩⟩
    ·exact .inl ⟨F,by omega⟩
  by_cases h1:e.kind=1
  ·rw [nN T e s h1]
   unfold gM
   by_cases hb:qD e true false 0 0=true
   ·obtain ⟨Y,Z,b3⟩:=bare1.1 hb
    rw [if_pos hb,if_neg (fun g=>Q.1 g ⟨b3,.inl h1⟩),if_pos h1]
    exact ⟨fun _=>⟨rfl,show yA≠sNo by decide⟩,fun g=>by simp [Y,Z] at g⟩
   ·rw [if_neg hb]
    by_cases O:e.arms.length=0
    ·rw [if_neg (fun g=>Q.1 g ⟨O,.inl h1⟩),if_pos h1]
     refine ⟨fun g=>?_,fun _=>rfl⟩
     simp only [baQ,decide_eq_true_eq] at g
     exact absurd (bare1.2 ⟨g.1,g.2,O⟩) hb
    ·rw [if_pos (Q.2 fun g=>O g.1)];exact .no rfl
  by_cases hq:e.num=0/\e.arms.length=0
  ·rw [if_neg (fun g=>Q.1 g ⟨hq.2,.inr hq.1⟩),if_neg h1]
   have o:∀{n:Int},(n < 0∨(e.args.length:Int)=n)->qD e false true n 0=true:=fun h=>bare0.2 ⟨hq.1,h,hq.2⟩
   have A:∀{n:Int},¬(n < 0∨(e.args.length:Int)=n)->¬qD e false true n 0=true:=fun h g=>h (bare0.1 g).2.1
   by_cases C:e.kind=2
   ·rw [if_pos C,mN T e s C]
    unfold wF
    by_cases hl:e.args.length=0
    ·rw [if_pos (o (.inr (by rw [hl];rfl))),hr.get]
     cases W:dQ vars e.name with
     | none=>exact .no rfl
     | some t=>exact ⟨fun _=>⟨rfl,hr.ne W⟩,fun g=>by simp [hl] at g⟩
    ·rw [if_neg (A (by omega))]
     cases W:dQ vars e.name with
     | none=>exact .no rfl
     | some t=>exact ⟨fun g=>by simp only [decide_eq_true_eq] at g;exact absurd g hl,fun _=>rfl⟩
   by_cases I:e.kind=3
   ·rw [if_neg C,if_pos I,mK T e s I]
    unfold oD
    by_cases hl:e.args.length=0
    ·rw [if_pos (o (.inr (by rw [hl];rfl))),j.is]
     cases W:z7j c.inputs e.name with
     | none=>exact .no rfl
     | some t=>exact ⟨fun _=>⟨rfl,j.it _ _ ((j.is _).trans W)⟩,fun g=>by simp [hl] at g⟩
    ·rw [if_neg (A (by omega))]
     cases W:z7j c.inputs e.name with
     | none=>exact .no rfl
     | some t=>exact ⟨fun g=>by simp only [decide_eq_true_eq] at g;exact absurd g hl,fun _=>rfl⟩
   rw [if_neg C,if_neg I]
   by_cases E:e.kind=6
   ·rw [if_pos E,mL T e s E]
    unfold z0e
    by_cases hl:e.args.length=2
    ·rw [if_pos (o (.inr (by rw [hl];rfl)))]
     obtain ⟨x,y,b⟩:=q7n hl
     have H:e.args[0]? = some x:=by rw [b];rfl
     have hy:e.args[1]? = some y:=by rw [b];rfl
     simp only [if_pos E,b,bindPs,List.append_nil] at X L
     have c0:=zU X
     have U:=zU c0.1
     have M:=zU U.2.1
     have mx:x∈e.args:=by rw [b];simp
     have my:y∈e.args:=by rw [b];simp
     have R:=q x mx s vars hr M.1 (L.sub fun m N=>by simp [N])
     have hi:=R.iff
     simp only [b,letR,firstR,lcQ,lnQ]
     by_cases r:(zF T x s).1=sNo
     ·rw [<- b,z2n H r,if_pos (.inl (hi.1 r))];exact .no rfl
     ·have g1:(zQ c x vars).2=true:=by cases g:(zQ c x vars).2 with | true=>rfl | false=>exact absurd (hi.2 g) r
      obtain ⟨v,e2⟩:=R.1 g1
      have e3:=u x mx s M.1 (L.sub fun m N=>by simp [N]) r
      rw [<- b,oJ H hy r,if_neg (by simp [g1])]
      simp only [e3,v]
      refine q y my _ _ (hr.put e2) M.2.1 (fun m N=>?_)
      rw [vZ,if_neg]
      ·exact L m (by simp [N])
      ·rintro rfl
       exact U.2.2 e.name (by simp) (by simp [N])
    ·rw [if_neg (A (by omega))]
     cases S:e.args with
     | nil=>exact .no rfl
     | cons a l=>
      simp only [letR]
      rw [S] at hl
      rw [if_pos (.inr (by simp only [lcQ] at hl;omega))];exact .no rfl
   rw [if_neg E,if_neg F]
   by_cases z:e.kind=4
   ·rw [mJ T e s z]
    have G:wG c e.kind e.name=(zN T.cons e.name).map fun m=>(m.con.fields,m.data):=by rw [wG,if_pos z,j.cs]
    have:=z1t (w:=wG c e.kind e.name) u q hr B.2.1 fa (fun p i=>by
     rw [G] at i
     cases N:zN T.cons e.name with
     | none=>rw [N] at i;cases i
     | some m=>rw [N] at i;cases i;exact j.mks _ _ N)
    have v:(sI T e s).1=tyL T e s (wG c e.kind e.name):=by
     rw [G]
     unfold sI
     cases N:zN T.cons e.name with
     | none=>rfl
     | some m=>simp only [if_pos (o (n:=-1) (.inl (by decide))),Option.map_some,tyL]
    rw [v];exact this
   by_cases D:e.kind=5
   ·rw [wO T e s D]
    have G:wG c e.kind e.name=(zN T.funs e.name).map fun f=>(f.params.map Param.type,f.result):=by
     rw [wG,if_neg z,if_pos D,j.fs]
     cases dZ c.funs e.name <;> rfl
    have:=z1t (w:=wG c e.kind e.name) u q hr B.2.1 fa (fun p i=>by
     rw [G] at i
     cases N:zN T.funs e.name with
     | none=>rw [N] at i;cases i
     | some m=>rw [N] at i;cases i;exact j.rs _ _ N)
    have v:(mV T e s).1=tyL T e s (wG c e.kind e.name):=by
     rw [G]
     unfold mV
     cases N:zN T.funs e.name with
     | none=>rfl
     | some m=>simp only [if_pos (o (n:=-1) (.inl (by decide))),Option.map_some,tyL]
    rw [v];exact this
   by_cases K:e.kind=8
   ·rw [nY T e s K]
    have G:wG c e.kind e.name=(opR e.name).map fun t=>([yA,yA],t):=by rw [wG,if_neg z,if_neg D,if_pos K]
    obtain ⟨o1,o2⟩:=opR_eq e.name
    have:=z1t (w:=wG c e.kind e.name) u q hr B.2.1 fa (fun p i=>by
     rw [G] at i
     cases N:opR e.name with
     | none=>rw [N] at i;cases i
     | some m=>rw [N] at i;cases i;exact o2 _ N)
    have v:(mT T e s).1=tyL T e s (wG c e.kind e.name):=by
     rw [G]
     unfold mT
     rw [<- o1]
     by_cases hl:e.args.length=2
     ·rw [if_pos (o (.inr (by rw [hl];rfl)))]
      cases N:opR e.name with
      | none=>simp [tyL]
      | some t=>rfl
     ·rw [if_neg (A (by omega))]
      have:¬(xP T e.args s [yA,yA]).1=true:=by unfold xP;rw [if_neg (by simpa using hl)];simp
      cases N:opR e.name with
      | none=>rfl
      | some t=>simp only [Option.map_some,tyL,if_neg this]
    rw [v];exact this
   ·by_cases i0:e.kind=1∨e.kind=2∨e.kind=3
    ·omega
    ·rw [mM T e s h1 C I z D E F K,wG,if_neg z,if_neg D,if_neg K]
     by_cases h:(typesR c e.args vars).2=false
     ·rw [if_pos h];exact .no rfl
     ·rw [if_neg h];exact .no rfl
  ·rw [if_pos (Q.2 fun g=>hq ⟨g.2.resolve_left h1,g.1⟩)]
   apply Alk.no
   have hb:∀n,¬qD e false true n 0=true:=fun n g=>hq ⟨(bare0.1 g).1,(bare0.1 g).2.2⟩
   by_cases C:e.kind=2
   ·rw [mN T e s C];exact if_neg (hb 0)
   by_cases I:e.kind=3
   ·rw [mK T e s I];exact if_neg (hb 0)
   by_cases z:e.kind=4
   ·rw [mJ T e s z];unfold sI
    split
    ·rfl
    ·rw [if_neg (hb _)]
   by_cases D:e.kind=5
   ·rw [wO T e s D];unfold mV
    split
    ·rfl
    ·rw [if_neg (hb _)]
   by_cases E:e.kind=6
   ·rw [mL T e s E];unfold z0e;rw [if_neg (hb _)]
   by_cases K:e.kind=8
   ·rw [nY T e s K];unfold mT;rw [if_neg (hb _)]
   rw [mM T e s h1 C I z D E F K]
theorem pX:∀{l:List Data} {n:Bs} {d:Data},vO l n=some d->d∈l/\d.name=n
 | [],_,_,h=>by cases h
 | e::l,n,d,h=>by
  simp only [vO] at h
  split at h
  ·rename_i g;cases h;exact ⟨msQ,g⟩
  ·have:=pX h;exact ⟨mcQ _ this.1,this.2⟩
theorem z8s {l:List Data} {n:Bs} (h:n∉l.map Data.name):vO l n=none:=by
 cases g:vO l n with
 | none=>rfl
 | some d=>obtain ⟨h1,a⟩:=pX g;exact absurd (a▸List.mem_map_of_mem h1) h
theorem y8i:∀{l:List Data} {d:Data},(l.map Data.name).Nodup->d∈l->vO l d.name=some d
 | e::l,d,a,h=>by
  simp only [List.map_cons,List.nodup_cons] at a
  simp only [vO]
  rcases List.mem_cons.1 h with rfl | h
  ·rw [if_pos rfl]
  ·rw [if_neg (fun g=>a.1 (by rw [g];exact List.mem_map_of_mem h))];exact y8i a.2 h
theorem sW (ds:List Data) (n:Bs):yD ds n=vO (truthsD::ds) n:=by rw [<- z3n,z3l]
theorem z2f:∀{l:List Con} {n:Bs} {x:Con},xN l n=some x->x∈l/\x.name=n
 | [],_,_,h=>by cases h
 | e::l,n,d,h=>by
  simp only [xN] at h
  split at h
  ·rename_i g;cases h;exact ⟨msQ,g⟩
  ·have:=z2f h;exact ⟨mcQ _ this.1,this.2⟩
theorem z1g:∀{l:List Data} {n:Bs} {m:Maker},wQ l n=some m->∃d∈l,d.name=m.data/\xN d.cons n=some m.con
 | [],_,_,h=>by cases h
 | e::l,n,m,h=>by
  simp only [wQ] at h
  cases a:xN e.cons n with
  | some x=>rw [a] at h;cases h;exact ⟨e,msQ,rfl,a⟩
  | none=>rw [a] at h;obtain ⟨d,b,g⟩:=z1g h;exact ⟨d,mcQ _ b,g⟩
theorem y3l:∀{l:List Data} {n:Bs} {d:Data} {x:Con},((l.map fun d=>d.cons.map Con.name).flatten).Nodup->d∈l->xN d.cons n=some x->wQ l n=some ⟨d.name,x⟩
 | e::l,n,d,x,c,a,b=>by
  simp only [List.map_cons,List.flatten_cons] at c
  have hn':=zU c
  simp only [wQ]
  rcases List.mem_cons.1 a with rfl | a
  ·rw [b]
  ·have:xN e.cons n=none:=by
    cases g:xN e.cons n with
    | none=>rfl
    | some y=>
     obtain ⟨h1,h⟩:=z2f g
     obtain ⟨i,j⟩:=z2f b
     exact absurd (List.mem_flatten.2 ⟨_,List.mem_map_of_mem (f:=fun d:Data=>d.cons.map Con.name) a,List.mem_map.2 ⟨x,i,j⟩⟩) (hn'.2.2 n (List.mem_map.2 ⟨y,h1,h⟩))
   rw [this]
   exact y3l hn'.2.1 a b
theorem y2u (name:Bs):∀(l:List Con) (ok:Bool),dP name l ok=(ok && !mO name l)
 | [],ok=>by simp [dP,mO]
 | x::l,ok=>by
  simp only [dP,y2u name l,mO,List.any_cons,Bool.not_or,<- Bool.and_assoc];rfl
theorem oW (name:Bs):∀(l:List Data) (n:Int) (ok:Bool),(l.map Data.name).Nodup->pP name l n ok=match vO l name with | none=>(n,ok) | some d=>(IntKind.i64.wrap (n+1),ok && !mO name d.cons)
 | [],n,ok,_=>rfl
 | d::l,n,ok,a=>by
  simp only [List.map_cons,List.nodup_cons] at a
  simp only [pP,vO]
  by_cases h:d.name=name
  ·rw [if_pos h,if_pos h,oW name l _ _ a.2,z8s (by rw [<- h];exact a.1),y2u]
  ·rw [if_neg h,if_neg h,oW name l _ _ a.2]
theorem q5u (name:Bs):∀(l:List Data),(l.map Data.name).Nodup->(kX name l,kA name l)=match vO l name with | none=>(false,0) | some d=>(mO name d.cons,1)
 | [],_=>rfl
 | d::l,b=>by
  simp only [List.map_cons,List.nodup_cons] at b
  have a:=q5u name l b.2
  simp only [kX,kA,vO] at a ⊢
  by_cases h:d.name=name
  ·rw [z8s (by rw [<- h];exact b.1)] at a
   simp only [Prod.mk.injEq] at a
   simp only [List.any_cons,List.filter_cons,h,decide_true,Bool.true_and,if_true,a.1,Bool.or_false,lcQ,a.2]
  ·simp only [List.any_cons,List.filter_cons,h,decide_false,Bool.false_and,Bool.false_or,Bool.false_eq_true,if_false]
   exact a
theorem tT {ds:List Data} (b:(ds.map Data.name).Nodup) (c:∀d∈ds,d.name≠vS) (name:Bs):jY ds name=jC ds name:=by
 unfold jY jC
 by_cases h:name=yA
 ·rw [if_pos h,if_pos h]
 ·rw [if_neg h,if_neg h]
  have h1:=q5u name ds b
  rw [oW name ds 0 true b]
  cases a:vO ds name with
  | none=>
   rw [a] at h1;simp only [Prod.mk.injEq] at h1
   rw [h1.2];simp
  | some d=>
   rw [a] at h1;simp only [Prod.mk.injEq] at h1
   obtain ⟨e,f⟩:=pX a
   have:name≠vS:=f▸c d e
   rw [h1.1,h1.2]
   simp only [this,decide_false,Bool.not_false,Bool.and_true,decide_true,Bool.true_and]
   rw [show IntKind.i64.wrap (0+1)=1 by decide];simp
structure Decl (c:Core):Prop where
 tab:Tabled c
 fd:∀d∈c.datas,∀x∈d.cons,∀f∈x.fields,jH c.datas f=true
 it:∀p∈c.inputs,jY c.datas p.type=true
 fp:∀f∈c.funs,(∀p∈f.params,jH c.datas p.type=true)/\jH c.datas f.result=true
theorem y8j {c:Core} (h:Tabled c) {t:Bs} {d:Data} (g:yD c.datas t=some d):t≠sNo:=by
 rintro rfl
 rw [sW] at g
 obtain ⟨h1,a⟩:=pX g
 rcases List.mem_cons.1 h1 with rfl | h1
 ·revert a;decide
 ·have:=(h.dN d h1).1;rw [a,tA] at this;cases this
theorem z6e {c:Core} (h:Tabled c) {t:Bs} (g:jH c.datas t=true):t≠sNo:=by
 simp only [jH,Bool.or_eq_true,decide_eq_true_eq] at g
 rcases g with g | g
 ·cases a:yD c.datas t with
  | none=>rw [a] at g;cases g
  | some d=>exact y8j h a
 ·rw [g];decide
theorem z7l {c:Core} (h:Tabled c) (n:Bs):vD (zH c) n=jH c.datas n:=by
 unfold vD jH
 rw [(oO (tL h)).2.1,z3n]
theorem fit_of {c:Core} (h:Decl c):Fit (zH c) c:=by
 obtain ⟨_,p,t2,t3,t4⟩:=oO (tL h.tab)
 have a:∀n,zN (zH c).datas n=yD c.datas n:=fun n=>by rw [p,z3n]
 have k:∀n,zN (zH c).cons n=nH c.datas n:=fun n=>by rw [t2,z1f];rfl
 have b:∀d∈truthsD::c.datas,d.name≠sNo/\0 < d.cons.length/\∀x∈d.cons,∀f∈x.fields,f≠sNo:=fun d a=>by
  rcases List.mem_cons.1 a with rfl | a
  ·refine ⟨by decide,by decide,fun x i f j=>?_⟩
   simp only [truthsD,List.mem_cons,List.not_mem_nil,or_false] at i
   rcases i with rfl | rfl <;> cases j
  ·refine ⟨fun e=>?_,(h.tab.dN d a).2.2.2.1,fun x i f j=>z6e h.tab (h.fd d a x i f j)⟩
   have:=(h.tab.dN d a).1;rw [e,tA] at this;cases this
 refine ⟨a,k,fun n=>by rw [t3];exact (j6c c.funs n).symm,fun n=>by rw [t4,q5e],?_,fun n d g=>?_,fun n m g=>?_,fun n f g=>?_,fun n t g=>?_⟩
 ·rw [a]
  cases g:yD c.datas sNo with
  | none=>rfl
  | some d=>exact absurd rfl (y8j h.tab g)
 ·rw [a,sW] at g;exact (b d (pX g).1).2
 ·rw [k] at g
  obtain ⟨d,a,e,_⟩:=z1g g
  rw [<- e];exact (b d a).1
 ·rw [t3] at g
  obtain ⟨x,i,_,rfl⟩:=xH g
  exact z6e h.tab (h.fp x i).2
 ·rw [t4] at g
  obtain ⟨x,i,_,rfl⟩:=xH g
  have:=h.it x i
  rw [tT h.tab.dU (fun d a=>(h.tab.dN d a).2.2.1)] at this
  unfold jC at this
  split at this
  ·rename_i e;rw [e];decide
  ·rw [oW _ _ _ _ h.tab.dU] at this
   cases a:vO c.datas x.type with
   | none=>rw [a] at this;simp at this
   | some d=>
    obtain ⟨l,o⟩:=pX a
    rw [<- o];exact (b d (mcQ _ l)).1
theorem y9x:z3d=qE:=funext x2u
theorem apartR_iff {l:List Bs}:aW l=true↔l.Nodup/\∀n∈l,qE n=true:=by
 unfold aW
 rw [y9x]
 exact ⟨fun h=>⟨(xZ h).1,(xZ h).2.2⟩,fun h=>y7m h.1 (fun n _ N=>by cases N) h.2⟩
theorem z2b (l:List Bs):aW l=pH qE [] l:=by unfold aW;rw [y9x]
theorem declR {c:Core} (h:vR c=true):Decl c:=by
 simp only [vR,baQ,decide_eq_true_eq,List.all_eq_true,kG] at h
 obtain ⟨⟨⟨⟨⟨⟨⟨⟨h1,u⟩,m⟩,n⟩,j⟩,o⟩,v⟩,w⟩,y⟩:=h
 obtain ⟨d1,d2,d3⟩:=(z3o c.datas).1 h1
 obtain ⟨q,i2⟩:=apartR_iff.1 n
 obtain ⟨k,l⟩:=apartR_iff.1 o
 refine ⟨{ dN:=fun d b=>?_,dU:=d2,cU:=d3,fN:=fun f a=>l _ (List.mem_map_of_mem a),fU:=k,iN:=fun p e=>i2 _ (List.mem_map_of_mem e),iU:=q },fun d b x g f a=>?_,m,fun f a=>⟨fun p e=>(j f a).1.1 p e,(j f a).1.2⟩⟩
 ·obtain ⟨r,i,s,t⟩:=d1 d b
  simp only [List.mem_cons,List.not_mem_nil,or_false,not_or] at i
  refine ⟨r,i.1,i.2,s,fun x g=>?_⟩
  obtain ⟨m1,m2,_⟩:=t x g
  simp only [List.mem_cons,List.not_mem_nil,or_false,not_or] at m2
  exact ⟨m1,m2⟩
 ·exact List.all_eq_true.1 ((d1 d b).2.2.2 x g).2.2 f a
theorem declP {c:Core} (h:qR c=true):Decl c:=by
 simp only [qR,baQ,decide_eq_true_eq,List.all_eq_true,pA,mY] at h
 obtain ⟨⟨⟨⟨⟨h1,m⟩,j⟩,k⟩,i⟩,n⟩:=h
 have b:=(oO h1).1
 have J:=z7l b
 refine ⟨b,fun d e x l f a=>J f▸j d e x l f a,fun p g=>?_,fun f a=>⟨fun p g=>J p.type▸(i f a).1.1.1 p g,J f.result▸(i f a).1.1.2⟩⟩
 rw [tT b.dU (fun d e=>(b.dN d e).2.2.1)]
 exact k p g
theorem y3v {T:Table}:∀{os seen:List Bs},kQ T seen os=true↔os.Nodup/\(∀o∈os,o∉seen)/\∀o∈os,∃f,zN T.funs o=some f/\f.params.length=0
 | [],seen=>by simp [kQ]
 | o::os,seen=>by
  simp only [kQ]
  cases e:zN T.funs o with
  | none=>exact ⟨fun g=>(by cases g),fun g=>by obtain ⟨f,h1,_⟩:=g.2.2 o msQ;rw [e] at h1;cases h1⟩
  | some f=>
   simp only [baQ,decide_eq_true_eq,y3v (os:=os),Bool.not_eq_true',List.nodup_cons]
   have O:has seen o=false↔o∉seen:=by rw [<- has_mem (l:=seen)];simp
   rw [O]
   constructor
   ·rintro ⟨⟨h1,d⟩,c,b,i⟩
    refine ⟨⟨fun N=>b o N (by simp),c⟩,fun p a=>?_,fun p a=>?_⟩
    ·rcases List.mem_cons.1 a with rfl | a
     ·exact d
     ·exact fun g=>b p a (by simp [g])
    ·rcases List.mem_cons.1 a with rfl | a
     ·exact ⟨f,e,h1⟩
     ·exact i p a
   ·rintro ⟨⟨h1,d⟩,c,b⟩
    obtain ⟨f',h,j⟩:=b o msQ
    rw [e] at h;cases h
    refine ⟨⟨j,c o msQ⟩,d,fun p a N=>?_,fun p a=>b p (mcQ _ a)⟩
    rcases List.mem_append.1 N with g | g
    ·exact c p (mcQ _ a) g
    ·simp only [List.mem_cons,List.not_mem_nil,or_false] at g;subst g;exact h1 a
theorem y5m:∀(ps:List Param),jF (ps.map Param.name) (ps.map Param.type)=ps
 | []=>rfl
 | p::ps=>by
  have:=y5m ps
  simp only [jF] at this ⊢
  simp only [List.map_cons,List.zip_cons_cons];rw [this]
theorem j1e {c:Core} (h:Tabled c) {ps:List Param} (a:∀p∈ps,jH c.datas p.type=true):Rel (sK ps) ps:=by
 have b:Rel [] []:=⟨fun n=>rfl,fun p a=>by cases a⟩
 have:=b.putAll (vs:=ps.map Param.name) (fs:=ps.map Param.type) (fun f d=>by
  obtain ⟨p,N,rfl⟩:=List.mem_map.1 d
  exact z6e h (a p N))
 rw [y5m,List.nil_append,<- cN] at this
 exact this
theorem y8x {c:Core} (h:Decl c) {ps:List Param} {e:Ex} (d:∀p∈ps,jH c.datas p.type=true) (a:(ps.map Param.name++zP e).Nodup):Alk (zF (zH c) e (sK ps)).1 (zQ c e ps):=by
 have ha':=zU a
 refine rt_ok (fit_of h) (e.sz+1) e (by omega) _ _ (j1e h.tab d) ha'.2.1 (fun n b=>?_)
 rw [cN,xU (fun N=>ha'.2.2 n N b)];rfl
theorem q6d {c:Core} (h:Decl c) {o:Bs}:z9v c.funs o=true↔∃f,zN (zH c).funs o=some f/\f.params.length=0:=by
 rw [(fit_of h).fs]
 unfold z9v
 cases dZ c.funs o with
 | none=>simp
 | some i=>
  cases a:c.funs[i]? with
  | none=>simp [a]
  | some f=>simp [a]
theorem x3p (c:Core):vR c=qR c:=by
 have key:Decl c->(vR c=true↔qR c=true):=fun h=>by
  have w:=tL h.tab
  have J:=z7l h.tab
  have B:z2c c.datas=true:=by
   refine (z3o c.datas).2 ⟨fun d k=>?_,h.tab.dU,h.tab.cU⟩
   obtain ⟨C,D,E,F,y⟩:=h.tab.dN d k
   refine ⟨C,by simp [D,E],F,fun x i=>⟨(y x i).1,by simp [(y x i).2],List.all_eq_true.2 (h.fd d k x i)⟩⟩
  simp only [vR,qR,baQ,decide_eq_true_eq,List.all_eq_true,kG,pA,mY,w,B,true_and,J,pZ,z2b,y3v]
  constructor
  ·rintro ⟨⟨⟨⟨⟨⟨⟨j,s⟩,z⟩,b⟩,t⟩,u⟩,l⟩,A⟩
   refine ⟨⟨⟨⟨fun e=>j (by rw [e];rfl),fun d k x i f a=>h.fd d k x i f a⟩,fun p q=>?_⟩,fun f a=>⟨(b f a),?_⟩⟩,(xZ u).1,fun o _ N=>(by cases N),fun o r=>(q6d h).1 (A o r)⟩
   ·rw [<- tT h.tab.dU (fun d k=>(h.tab.dN d k).2.2.1)];exact s p q
   ·have:=(y8x h (b f a).1.1 (xZ (b f a).2).1).1 (l f a).1
    rw [this.1];exact (l f a).2
  ·rintro ⟨⟨⟨⟨j,s⟩,z⟩,b⟩,t,u,l⟩
   refine ⟨⟨⟨⟨⟨⟨⟨fun e=>j (List.eq_nil_of_length_eq_zero e),h.it⟩,?_⟩,fun f a=>(b f a).1⟩,?_⟩,?_⟩,fun f a=>?_⟩,fun o r=>(q6d h).2 (l o r)⟩
   ·rw [<- z2b];exact apartR_iff.2 ⟨h.tab.iU,fun n m=>by obtain ⟨p,q,rfl⟩:=List.mem_map.1 m;exact h.tab.iN p q⟩
   ·rw [<- z2b];exact apartR_iff.2 ⟨h.tab.fU,fun n m=>by obtain ⟨p,q,rfl⟩:=List.mem_map.1 m;exact h.tab.fN p q⟩
   ·rw [<- z2b];refine apartR_iff.2 ⟨t,fun n m=>?_⟩
    obtain ⟨f,a,_⟩:=l n m
    rw [(oO w).2.2.2.1] at a
    obtain ⟨x,i,e,_⟩:=xH a
    rw [<- e];exact h.tab.fN x i
   ·have v:=y8x h (b f a).1.1.1 (xZ (b f a).1.2).1
    have hr:=z6e h.tab (h.fp f a).2
    have e:=(b f a).2
    cases g:(zQ c f.body f.params).2 with
    | true=>exact ⟨rfl,by rw [<- (v.1 g).1];exact e⟩
    | false=>rw [v.2 g] at e;exact absurd e.symm hr
 cases h1:vR c with
 | true=>exact ((key (declR h1)).1 h1).symm
 | false=>
  cases j:qR c with
  | true=>rw [(key (declP j)).2 j] at h1;cases h1
  | false=>rfl
theorem q4e (c:Core):nG c=yP c:=by unfold nG yP;rw [q5s,x3p]
theorem j3c {c:Core} (h:yP c=0):Decl c:=by
 refine declP ?_
 unfold yP at h
 split at h
 ·cases h
 ·split at h
  ·cases h
  ·split at h
   ·assumption
   ·cases h
mutual
theorem y3g:∀(v:Val) (most:Nat),most<=4000->(vE v most<=most->jT v (most:Int)=(false,(most:Int) - (vE v most:Int)))/\(¬vE v most<=most->(jT v (most:Int)).1=true)
 | .mk con num args,most,N=>by
  simp only [vE,jT]
  rw [show IntKind.i64.wrap ((most:Int) - 1)=(most:Int) - 1 from yC (by omega)]
  by_cases c:most=0
  ·subst c
   rw [uQ (by omega)]
   exact ⟨fun h=>by omega,fun _=>by rw [if_pos (by omega)]⟩
  ·rw [if_neg (by omega)]
   have:=larges_size args most 1 N (by omega)
   exact this
theorem larges_size:∀(vs:List Val) (most n:Nat),most<=4000->n<=most->(vsizeRs vs most n<=most->larges vs ((most:Int) - (n:Int))=(false,(most:Int) - (vsizeRs vs most n:Int)))/\(¬vsizeRs vs most n<=most->(larges vs ((most:Int) - (n:Int))).1=true)
 | [],most,n,N,h=>⟨fun _=>rfl,fun g=>absurd h g⟩
 | e::es,most,n,N,h=>by
  simp only [vsizeRs,larges,if_pos h]
  have h1:=y3g e (most - n) (by omega)
  have hl:=z2s e (most - n)
  rw [show ((most:Int) - (n:Int))=((most - n:Nat):Int) by omega]
  by_cases O:vE e (most - n)<=most - n
  ·rw [h1.1 O]
   have a:=larges_size es most (n+vE e (most - n)) N (by omega)
   rw [show ((most:Int) - ((n+vE e (most - n):Nat):Int))=((most - n:Nat):Int) - (vE e (most - n):Int) by omega] at a
   exact a
  ·rw [uQ (by omega)]
   refine ⟨fun g=>by omega,fun _=>?_⟩
   have:=h1.2 O
   cases N:jT e ((most - n:Nat):Int) with
   | mk b q=>rw [N] at this;simp only at this;subst this;rfl
end
theorem q5r (v:Val):z7n v=vU v:=by
 unfold z7n vU
 have:=y3g v 4000 (by omega)
 by_cases h:vE v 4000<=4000
 ·rw [show ((4000:Int))=((4000:Nat):Int) from rfl,this.1 h];simp;omega
 ·rw [show ((4000:Int))=((4000:Nat):Int) from rfl,this.2 h];simp;omega
theorem y3k {c:Core} (h:Tabled c) {con name:Bs} {x:Con}:zN (zH c).cons con=some ⟨name,x⟩↔∃d,yD c.datas name=some d/\xN d.cons con=some x:=by
 obtain ⟨_,o,t2,_⟩:=oO (tL h)
 have k:((truthsD::c.datas).map Data.name).Nodup:=by
  simp only [List.map_cons,List.nodup_cons]
  exact ⟨fun N=>by obtain ⟨d,a,e⟩:=List.mem_map.1 N;exact (h.dN d a).2.2.1 e,h.dU⟩
 have j:(((truthsD::c.datas).map fun d=>d.cons.map Con.name).flatten).Nodup:=by
  obtain ⟨l,_⟩:=tK (show (sO (fsP c).1 [] c.inputs).1=true from tL h)
  obtain ⟨i,_⟩:=tJ (show (sN (dsP c).1 [] c.funs).1=true from l)
  obtain ⟨_,_,_,_,_,f⟩:=z1s (show (sM true [] [] (truthsD::c.datas)).1=true from i)
  exact f
 rw [t2,z1f]
 constructor
 ·intro g
  obtain ⟨d,a,e,b⟩:=z1g g
  exact ⟨d,by rw [sW];simp only at e;rw [<- e];exact y8i k a,b⟩
 ·rintro ⟨d,a,b⟩
  rw [sW] at a
  obtain ⟨m,n⟩:=pX a
  rw [y3l j m b,n]
mutual
theorem y5l {c:Core} (h:Tabled c):∀(v:Val) (t:Bs),pK c.datas v t=pJ (zH c) v t
 | .mk con num args,t=>by
  simp only [pK,pJ]
  by_cases b:t=yA
  ·rw [if_pos b,if_pos (.inr b)];simp [b]
  ·rw [if_neg b]
   by_cases i:con=sNo
   ·rw [if_pos (.inl i)]
    have e:∀d,yD c.datas t=some d->xN d.cons con=none:=fun d a=>by
     cases f:xN d.cons con with
     | none=>rfl
     | some x=>
      rw [sW] at a
      obtain ⟨k,_⟩:=pX a
      obtain ⟨l,n⟩:=z2f f
      rcases List.mem_cons.1 k with rfl | k
      ·simp only [truthsD,List.mem_cons,List.not_mem_nil,or_false] at l
       rcases l with rfl | rfl <;> (rw [i] at n;revert n;decide)
      ·have:=((h.dN d k).2.2.2.2 x l).1
       rw [n,i,tA] at this;cases this
    cases a:yD c.datas t with
    | none=>simp [b]
    | some d=>simp [e d a,b]
   ·rw [if_neg (fun g=>g.elim i b)]
    cases N:zN (zH c).cons con with
    | none=>
     cases a:yD c.datas t with
     | none=>rfl
     | some d=>
      cases f:xN d.cons con with
      | none=>simp [f]
      | some x=>rw [(y3k h).2 ⟨d,a,f⟩] at N;cases N
    | some m=>
     obtain ⟨dn,x⟩:=m
     obtain ⟨d,a,f⟩:=(y3k h).1 N
     by_cases j:dn=t
     ·subst j
      simp only [a,f,values_eq h args x.fields]
      by_cases o:num=0
      ·simp [o,eq_comm]
      ·simp [o]
     ·simp only [j,decide_false,Bool.false_and]
      cases hd':yD c.datas t with
      | none=>rfl
      | some d'=>
       cases hx':xN d'.cons con with
       | none=>simp [hx']
       | some x'=>
        rw [(y3k h).2 ⟨d',hd',hx'⟩] at N
        cases N;exact absurd rfl j
theorem values_eq {c:Core} (h:Tabled c):∀(vs:List Val) (ts:List Bs),isValsR c.datas vs ts=hasL (zH c) vs ts
 | [],_=>rfl
 | v::vs,ts=>by simp only [isValsR,hasL,y5l h v,values_eq h vs]
end
theorem q4x {c:Core} (h:Tabled c):∀(l:List Named) (ps:List Param),l.length=ps.length->nJ c.datas l ps=vP (zH c) l ps
 | [],[],_=>rfl
 | x::l,p::ps,hl=>by simp only [nJ,vP,q5r,y5l h,q4x h l ps (by simpa using hl)]
 | [],_::_,hl=>by simp at hl
 | _::_,[],hl=>by simp at hl
theorem y9c {T:Table}:∀{l:List Named} {ps:List Param},vP T l ps=true->l.length=ps.length
 | [],[],_=>rfl
 | _::l,_::ps,h=>by simp only [vP,baQ] at h;simp [y9c h.2]
 | [],_::_,h=>by cases h
 | _::_,[],h=>by cases h
theorem j7m {c:Core} (b:Right c) (e:c.inputs=[]) (n:Bs):¬wZ (zH c) n:=by
 rintro ⟨x,_,a⟩
 cases d:zN (zH c).funs x with
 | none=>rw [tS d] at a;simp [ex0,xO,readsPs,readsPa] at a
 | some f=>
  rw [oB d] at a
  have g:=q4w (C:=⟨(zH c).funs,[]⟩) (z1p b) d
  have a4:=zU g.nodup
  have:=z1k (z1p (inp:=[]) b).dNo (fun n=>by rw [b.inputs,e];rfl) _ f.body (Nat.lt_succ_self _) (sK f.params) f.result a4.2.1 (fun m N=>by
   rw [cN,xU (fun h=>a4.2.2 m h N)];rfl) g.ty
  rw [this] at a;cases a
theorem j9n {c:Core} {o:Bs} {f:Fun} {v:Val} {g1 a:Nat} (d:yP c=0) (b:c.inputs=[]) (g:zN (zH c).funs o=some f) (j:f.params=[])
  (h:xY (qM ⟨(zH c).funs,[]⟩) f [] g1=.ok v a) (k:g1<=4000) (hl:vU v=false):qB c o [] 4001=(v,((g1 - a+1:Nat):Int),0):=by
 have i:=cY h
 have e:=y7u h (4000 - (g1 - a))
 rw [show g1 - a+(4000 - (g1 - a))=(4001:Int).toNat - 1 by simp;omega] at e
 rw [z0j d (by omega) g (by rw [j];rfl) (j7m (nK d) b o),y0q (by decide) e hl]
 simp only [Prod.mk.injEq,true_and,and_true]
 simp;omega
noncomputable def y8e (c:Core) (o:Bs):Int:=(qB c o [] 4001).2.1
theorem j9a {c:Core} (d:yP c=0) (b:c.inputs=[]):∀{os:List Bs} {g r:Nat} {vs:List Val},(∀o∈os,o∈c.outputs)->g<=4000->jZ ⟨(zH c).funs,[]⟩ os g=.ok vs r->vs.any vU=false ->
  All2 (fun o v=>(qB c o [] 4001).1=v/\(qB c o [] 4001).2.2=0/\0<=y8e c o/\y8e c o<=4001) os vs/\(os.map (y8e c)).sum=((g - r:Nat):Int)+os.length/\r<=g
 | [],g,r,vs,_,_,h,_=>by
  simp only [jZ,Ev.ok.injEq] at h
  obtain ⟨rfl,rfl⟩:=h
  exact ⟨trivial,by simp,Nat.le_refl _⟩
 | o::os,g,r,vs,k,n,h,hl=>by
  obtain ⟨f,j,q⟩:=uE (nK d).oOk o (k o msQ)
  rw [cK j] at h
  obtain ⟨v,g1,e,e2⟩:=Ev.bind_ok h
  obtain ⟨l,w,m,i⟩:=Ev.bind_ok e2
  simp only [Ev.ok.injEq] at i
  obtain ⟨rfl,rfl⟩:=i
  simp only [List.any_cons,Bool.or_eq_false_iff] at hl
  have p:=cY e
  obtain ⟨t,u,y⟩:=j9a d b (fun x s=>k x (mcQ _ s)) (by omega) m hl.2
  have a:=j9n d b j q e n hl.1
  refine ⟨⟨⟨by rw [a],by rw [a],by simp only [y8e,a];omega,by simp only [y8e,a];omega⟩,t⟩,?_,by omega⟩
  simp only [List.map_cons,List.sum_cons,u,lcQ,y8e,a]
  omega
end Go.Sw

namespace Go.Sw
open Go.Proofs
def seqR:Code->Code
 | .seq _ y=>y
 | c=>c
section
variable {ws:List Bs} {f j n:Nat} {c:Core}
theorem j5n (h:¬j < ws.length) (a:0 < f):jB ws f c j=.ok c:=by
 obtain ⟨f,rfl⟩:∃k,f=k+1:=⟨f - 1,by omega⟩
 rw [jB,if_neg h]
theorem q8y {x:Data×Nat} (h:j < ws.length) (d:0 < f) (a:zC ws j=⟨#[100,97,116,97]⟩) (b:dD ws (j+1)=.ok x):jB ws f c j=jB ws (f - 1) { c with datas:=c.datas++[x.1] } x.2:=by
 obtain ⟨f,rfl⟩:∃k,f=k+1:=⟨f - 1,by omega⟩
 rw [jB,if_pos h,if_pos (show zC ws j=z3a from a),b];rfl
theorem q4h (h:j < ws.length) (d:0 < f) (a:zC ws j=⟨#[100,97,116,97]⟩) (b:dD ws (j+1)=.error n):jB ws f c j=.error n:=by
 obtain ⟨f,rfl⟩:∃k,f=k+1:=⟨f - 1,by omega⟩
 rw [jB,if_pos h,if_pos (show zC ws j=z3a from a),b]
theorem q4i {x:Param×Nat} (h:j < ws.length) (d:0 < f) (h1:¬zC ws j=⟨#[100,97,116,97]⟩) (a:zC ws j=⟨#[105,110,112,117,116]⟩) (b:wR ws (j+1)=.ok x):jB ws f c j=jB ws (f - 1) { c with inputs:=c.inputs++[x.1] } x.2:=by
 obtain ⟨f,rfl⟩:∃k,f=k+1:=⟨f - 1,by omega⟩
 rw [jB,if_pos h,if_neg (show ¬zC ws j=z3a from h1),if_pos (show zC ws j=z0y from a),b];rfl
theorem q1l (h:j < ws.length) (d:0 < f) (h1:¬zC ws j=⟨#[100,97,116,97]⟩) (a:zC ws j=⟨#[105,110,112,117,116]⟩) (b:wR ws (j+1)=.error n):jB ws f c j=.error n:=by
 obtain ⟨f,rfl⟩:∃k,f=k+1:=⟨f - 1,by omega⟩
 rw [jB,if_pos h,if_neg (show ¬zC ws j=z3a from h1),if_pos (show zC ws j=z0y from a),b]
theorem j5o {x:Fun×Nat} (h:j < ws.length) (e:0 < f) (h1:¬zC ws j=⟨#[100,97,116,97]⟩) (a:¬zC ws j=⟨#[105,110,112,117,116]⟩) (b:zC ws j=⟨#[102,117,110]⟩) (d:oC ws (j+1)=.ok x):jB ws f c j=jB ws (f - 1) { c with funs:=c.funs++[x.1] } x.2:=by
 obtain ⟨f,rfl⟩:∃k,f=k+1:=⟨f - 1,by omega⟩
 rw [jB,if_pos h,if_neg (show ¬zC ws j=z3a from h1),if_neg (show ¬zC ws j=z0y from a),if_pos (show zC ws j=kFun from b),d];rfl
theorem q8z (h:j < ws.length) (e:0 < f) (h1:¬zC ws j=⟨#[100,97,116,97]⟩) (a:¬zC ws j=⟨#[105,110,112,117,116]⟩) (b:zC ws j=⟨#[102,117,110]⟩) (d:oC ws (j+1)=.error n):jB ws f c j=.error n:=by
 obtain ⟨f,rfl⟩:∃k,f=k+1:=⟨f - 1,by omega⟩
 rw [jB,if_pos h,if_neg (show ¬zC ws j=z3a from h1),if_neg (show ¬zC ws j=z0y from a),if_pos (show zC ws j=kFun from b),d]
theorem j5p {x:Bs×Nat} (h:j < ws.length) (g:0 < f) (h1:¬zC ws j=⟨#[100,97,116,97]⟩) (a:¬zC ws j=⟨#[105,110,112,117,116]⟩) (b:¬zC ws j=⟨#[102,117,110]⟩) (d:zC ws j=⟨#[111,117,116,112,117,116]⟩) (e:aL ws (j+1)=.ok x):jB ws f c j=jB ws (f - 1) { c with outputs:=c.outputs++[x.1] } x.2:=by
 obtain ⟨f,rfl⟩:∃k,f=k+1:=⟨f - 1,by omega⟩
 rw [jB,if_pos h,if_neg (show ¬zC ws j=z3a from h1),if_neg (show ¬zC ws j=z0y from a),if_neg (show ¬zC ws j=kFun from b),if_pos (show zC ws j=z9y from d),e];rfl
theorem q9a (h:j < ws.length) (g:0 < f) (h1:¬zC ws j=⟨#[100,97,116,97]⟩) (a:¬zC ws j=⟨#[105,110,112,117,116]⟩) (b:¬zC ws j=⟨#[102,117,110]⟩) (d:zC ws j=⟨#[111,117,116,112,117,116]⟩) (e:aL ws (j+1)=.error n):jB ws f c j=.error n:=by
 obtain ⟨f,rfl⟩:∃k,f=k+1:=⟨f - 1,by omega⟩
 rw [jB,if_pos h,if_neg (show ¬zC ws j=z3a from h1),if_neg (show ¬zC ws j=z0y from a),if_neg (show ¬zC ws j=kFun from b),if_pos (show zC ws j=z9y from d),e]
theorem j5m (h:j < ws.length) (e:0 < f) (h1:¬zC ws j=⟨#[100,97,116,97]⟩) (a:¬zC ws j=⟨#[105,110,112,117,116]⟩) (b:¬zC ws j=⟨#[102,117,110]⟩) (d:¬zC ws j=⟨#[111,117,116,112,117,116]⟩):jB ws f c j=.error (j+1):=by
 obtain ⟨f,rfl⟩:∃k,f=k+1:=⟨f - 1,by omega⟩
 rw [jB,if_pos h,if_neg (show ¬zC ws j=z3a from h1),if_neg (show ¬zC ws j=z0y from a),if_neg (show ¬zC ws j=kFun from b),if_neg (show ¬zC ws j=z9y from d)]
end
end Go.Sw

namespace Go.Sw
section
variable {P:Program} {ops:Array Oper} {md:Region.Mode} {B:World->Prop} {kd:List Nat} {Qp:List PanicEntry->World->Prop} {D:List Deferred}
theorem q3b {Inv:Act->Prop} (t:∀(i:Nat) (o:Oper) (a:Act) (v:Value),ops[i]? = some o->Inv a->Inv (a.put o.dst v)) {Q:Act->World->Prop} {Q':Exit->Act->World->Prop} (z:∀a w,Q a w->Q' .normal a w) (I:∀c a w,Inv a->Qp c w->Q' (.panic c) a w) :
  ∀(n:Nat) (listed:Array Bool) (a:Act) (w:World),Inv a->((List.range ops.size).any (fun i=>yY kd i==2 && !listed.getD i true)=true->B w) ->
   q3c P md ops B kd Qp Q n listed a w->wpAny P md ops Q' n listed a w:=by
 intro n
 induction n with
 | zero=>intro listed a w _ _ h;exact ⟨h.1,z _ _ h.2⟩
 | succ n s=>
  intro listed a w q y h
  refine ⟨fun E=>z _ _ (h.1 E),fun i u=>?_⟩
  have hi':=mem_ready.1 u
  have f:((List.range ops.size).any (fun k=>yY kd k==2 && !(listed.setIfInBounds i true).getD k true)=true->B w):=fun m=>by
   apply y
   rw [List.any_eq_true] at m ⊢
   obtain ⟨k,r,b⟩:=m
   simp only [baQ,beq_iff_eq,Bool.not_eq_true'] at b
   refine ⟨k,r,?_⟩
   simp only [baQ,beq_iff_eq,Bool.not_eq_true']
   refine ⟨b.1,?_⟩
   by_cases d:i=k
   ·subst d;exact hi'.1
   ·rw [getD_set_ne true d] at b;exact b.2
  have h1:=h.2 i u
  unfold aD at h1
  unfold wpOp
  cases l:ops[i]? with
  | none=>simp only [l] at h1 ⊢;exact s _ _ _ q f h1
  | some o=>
   simp only [l] at h1 ⊢
   by_cases D:Region.wanted o (yielded ops a.tmps)=true
   ·rw [if_pos D] at h1 ⊢
    refine .inl (cR ?_)
    by_cases A:yY kd i=0
    ·rw [if_pos A] at h1
     refine yX h1 (fun v w' C=>s _ _ _ (t _ _ _ _ l q) (fun m=>C.1 ?_) C.2) (fun c w' H=>I c a w' q H)
     rw [List.any_eq_true] at m
     obtain ⟨k,r,b⟩:=m
     simp only [baQ,beq_iff_eq,Bool.not_eq_true'] at b
     unfold oH
     rw [List.any_eq_true]
     have j:k < kd.length:=by
      by_cases j:k < kd.length
      ·exact j
      ·have:=b.1
       simp [yY,List.getD_eq_getElem?_getD,List.getElem?_eq_none (Nat.le_of_not_lt j)] at this
     refine ⟨k,List.mem_range.2 j,?_⟩
     simp only [baQ,beq_iff_eq,Bool.not_eq_true']
     refine ⟨b.1,?_⟩
     rw [<- Bool.not_eq_true]
     intro m
     obtain ⟨e,J,hb⟩:=Array.any_eq_true'.1 m
     simp only [baQ,beq_iff_eq] at hb
     obtain ⟨_,o',ho',p⟩:=hi'
     rw [l] at ho'
     cases ho'
     have hl:=p e J hb.1
     rw [hb.2] at hl
     have g:=b.2
     by_cases d:i=k
     ·subst d
      have:=(mem_ready.1 u).1
      rcases Nat.lt_or_ge i listed.size with h' | h'
      ·simp [h'] at hl this;rw [hl] at this;cases this
      ·simp [Array.getElem?_eq_none h'] at hl
     ·rw [getD_set_ne true d] at g
      rcases Nat.lt_or_ge k listed.size with h' | h'
      ·simp [h'] at hl g;rw [hl] at g;cases g
      ·simp [Array.getElem?_eq_none h'] at hl
    ·rw [if_neg A] at h1
     obtain ⟨v,F,G⟩:=h1
     have hr:=F w (fun e=>y (by
      rw [List.any_eq_true]
      refine ⟨i,List.mem_range.2 (Array.getElem?_eq_some_iff.1 l).1,?_⟩
      simp only [baQ,beq_iff_eq,Bool.not_eq_true']
      exact ⟨e,hi'.1⟩))
     unfold Oper.eff
     rw [hr]
     exact s _ _ _ (t _ _ _ _ l q) f G
   ·rw [if_neg D] at h1 ⊢
    exact s _ _ _ (t _ _ _ _ l q) f h1
theorem y5s {r:Option Nat} {m:Nat} (C:∀(i:Nat) (o:Oper),ops[i]? = some o->∀c,o.op≠.defer c) {Inv:Act->Prop} (z:∀(i:Nat) (o:Oper) (a:Act) (v:Value),ops[i]? = some o->Inv a->Inv (a.put o.dst v)) {Q:Act->World->Prop} {Q':Exit->Act->World->Prop} (E:∀a w,Q a w->Q' .normal a w) (R:∀c a w,Inv a->Qp c w->Q' (.panic c) a w) :
  ∀(n:Nat) (listed:Array Bool) (a:Act) (w:World),Inv a->((List.range ops.size).any (fun i=>yY kd i==2 && !listed.getD i true)=true->B w) ->
   q3c P md ops B kd Qp Q n listed a w->wpAnyIn (FO r) m P md ops Q' n listed a w:=by
 intro n
 induction n with
 | zero=>intro listed a w _ _ h;exact ⟨h.1,E _ _ h.2⟩
 | succ n y=>
  intro listed a w t D h
  refine ⟨fun I=>E _ _ (h.1 I),fun i A=>?_⟩
  have hi':=mem_ready.1 A
  have g:((List.range ops.size).any (fun k=>yY kd k==2 && !(listed.setIfInBounds i true).getD k true)=true->B w):=fun q=>by
   apply D
   rw [List.any_eq_true] at q ⊢
   obtain ⟨k,u,b⟩:=q
   simp only [baQ,beq_iff_eq,Bool.not_eq_true'] at b
   refine ⟨k,u,?_⟩
   simp only [baQ,beq_iff_eq,Bool.not_eq_true']
   refine ⟨b.1,?_⟩
   by_cases d:i=k
   ·subst d;exact hi'.1
   ·rw [getD_set_ne true d] at b;exact b.2
  have h1:=h.2 i A
  unfold aD at h1
  unfold wpOpIn
  cases p:ops[i]? with
  | none=>simp only [p] at h1 ⊢;exact y _ _ _ t g h1
  | some o=>
   simp only [p] at h1 ⊢
   by_cases H:Region.wanted o (yielded ops a.tmps)=true
   ·rw [if_pos H] at h1 ⊢
    refine z1u (C _ _ p) ?_
    by_cases F:yY kd i=0
    ·rw [if_pos F] at h1
     refine yX h1 (fun v w' G=>y _ _ _ (z _ _ _ _ p t) (fun q=>G.1 ?_) G.2) (fun c w' M=>R c a w' t M)
     rw [List.any_eq_true] at q
     obtain ⟨k,u,b⟩:=q
     simp only [baQ,beq_iff_eq,Bool.not_eq_true'] at b
     unfold oH
     rw [List.any_eq_true]
     have l:k < kd.length:=by
      by_cases l:k < kd.length
      ·exact l
      ·have:=b.1
       simp [yY,List.getD_eq_getElem?_getD,List.getElem?_eq_none (Nat.le_of_not_lt l)] at this
     refine ⟨k,List.mem_range.2 l,?_⟩
     simp only [baQ,beq_iff_eq,Bool.not_eq_true']
     refine ⟨b.1,?_⟩
     rw [<- Bool.not_eq_true]
     intro q
     obtain ⟨e,J,hb⟩:=Array.any_eq_true'.1 q
     simp only [baQ,beq_iff_eq] at hb
     obtain ⟨_,o',ho',s⟩:=hi'
     rw [p] at ho'
     cases ho'
     have hl:=s e J hb.1
     rw [hb.2] at hl
     have j:=b.2
     by_cases d:i=k
     ·subst d
      have:=(mem_ready.1 A).1
      rcases Nat.lt_or_ge i listed.size with h' | h'
      ·simp [h'] at hl this;rw [hl] at this;cases this
      ·simp [Array.getElem?_eq_none h'] at hl
     ·rw [getD_set_ne true d] at j
      rcases Nat.lt_or_ge k listed.size with h' | h'
      ·simp [h'] at hl j;rw [hl] at j;cases j
      ·simp [Array.getElem?_eq_none h'] at hl
    ·rw [if_neg F] at h1
     obtain ⟨v,K,L⟩:=h1
     have hr:=K w (fun e=>D (by
      rw [List.any_eq_true]
      refine ⟨i,List.mem_range.2 (Array.getElem?_eq_some_iff.1 p).1,?_⟩
      simp only [baQ,beq_iff_eq,Bool.not_eq_true']
      exact ⟨e,hi'.1⟩))
     unfold Oper.eff
     rw [hr]
     exact y _ _ _ (z _ _ _ _ p t) g L
   ·rw [if_neg H] at h1 ⊢
    exact ⟨fun f _=>FO.fn f,y _ _ _ (z _ _ _ _ p t) g h1⟩
end
theorem EnvR.keep {n:Nat} {E0:List (Nat×Value)} {D:List Deferred} {a:Act} {o:Oper} {v:Value} (J:EnvR n E0 D a) (b:(match o.dst with | some d=>(get E0 d).isNone | none=>true)=true):EnvR n E0 D (a.put o.dst v):=by
 cases c:o.dst with
 | none=>exact J
 | some d=>
  rw [c] at b
  refine ⟨by simp [Act.put,J.size],fun t u h=>?_,J.defs⟩
  have:t≠d:=fun e=>by subst e;simp only [h] at b;cases b
  simp only [Act.put]
  rw [Array.getElem?_setIfInBounds_ne (Ne.symm this)]
  exact J.env t u h
theorem gO {P:Program} {n:Nat} {E0:List (Nat×Value)} {D:List Deferred} {a:Act} {V:Fz} {K:List Res} {w:World} {id:Nat} {l:List Oper} {Q:Exit->Act->World->Prop} (kd:List Nat) (p:Plan) (K':List Res) (g:EnvR n E0 D a) (N:Mem V K w) (q:P.follows .mixedOrders=true) (f:z5p l.toArray kd p=true) (j:∀r∈K',r∈K)
  (m:l.all (fun o=>match o.dst with | some d=>(get E0 d).isNone | none=>true)=true)
  (h:∀w,Mem V K w->yB P .any l.toArray (Sees V K') kd (fun c w=>∀a,EnvR n E0 D a->Q (.panic c) a w) (Q .normal) p a w):(Code.region id l.toArray true).wp P Q a w:=by
 have hm':=N.drew
 have h:=h _ hm'
 simp only [z5p,baQ,beq_iff_eq] at f
 obtain ⟨⟨⟨O,b⟩,hl⟩,e⟩:=f
 refine wp_region_any q (q3b (Inv:=EnvR n E0 D) (kd:=kd) (B:=Sees V K') (Qp:=fun c w=>∀a,EnvR n E0 D a->Q (.panic c) a w) (Q:=Q .normal) (fun i o a v k J=>J.keep ?_) (fun _ _ h=>h) (fun c a w J h=>h a J) _ _ _ _ g (fun _=>⟨hm'.fz,fun r hr=>hm'.own r (j r hr)⟩) ?_)
 ·have h1:l[i]? = some o:=by simpa using k
  exact List.all_eq_true.1 m o (mgQ h1)
 ·have:=kO O p _ _ _ b e h
  rw [hl] at this
  exact this
theorem y7g {P:Program} {n m:Nat} {r:Option Nat} {E:List (Nat×Value)} {a:Act} {V:Fz} {K:List Res} {w:World} {id:Nat} {l:List Oper} {Q:Exit->Act->World->Prop} (kd:List Nat) (p:Plan) (K':List Res) (J:EnvR n E [] a) (N:Mem V K w) (s:P.follows .mixedOrders=true) (f:z5p l.toArray kd p=true) (g:∀r∈K',r∈K)
  (q:l.all (fun o=>match o.op with | .defer _=>false | _=>true)=true)
  (h:∀w,Mem V K w->yB P .any l.toArray (Sees V K') kd (fun _ _=>False) (Q .normal) p a w):(Code.region id l.toArray true).wpIn (FO r) m P Q a w:=by
 have hm':=N.drew
 have h:=h _ hm'
 simp only [z5p,baQ,beq_iff_eq] at f
 obtain ⟨⟨⟨O,b⟩,hl⟩,d⟩:=f
 refine wpIn_region_any s (y5s (Inv:=fun _=>True) (kd:=kd) (B:=Sees V K') (Qp:=fun _ _=>False) (Q:=Q .normal) (fun i o k c j=>?_) (fun _ _ _ _ _ h=>h) (fun _ _ h=>h) (fun _ _ _ _ h=>h.elim) _ _ _ _ trivial (fun _=>⟨hm'.fz,fun r hr=>hm'.own r (g r hr)⟩) ?_)
 ·have h1:l[i]? = some o:=by simpa using k
  have e:=List.all_eq_true.1 q o (mgQ h1)
  rw [j] at e;cases e
 ·have:=kO O p _ _ _ b d h
  rw [hl] at this
  exact this
end Go.Sw

namespace Go.Sw
open Go.Proofs.Tryz
open Go.Proofs
set_option maxRecDepth 20000
set_option maxHeartbeats 4000000
variable {V:Fz} {K:List Res} {w:World}
theorem mF {r i:Nat} {rs:Value} {ws:List Bs} (rl:SliceOf RStr V 1 rs ws) (l:ws.length<=1000000) (n:i<=ws.length) (N:Mem V (.blk r (ob [rs,.int .i64 ((i:Nat):Int)] 208)::K) w) :
  Calls prog 179 #[.pointer (some ⟨r,0,none⟩)] w (fun ee w'=>ee=.returned (.string (zC ws i))/\Mem V (.blk r (ob [rs,.int .i64 ((i:Nat):Int)] 208)::K) w'):=by
 obtain ⟨pw,cw,rfl,k,d⟩:=rl.fm
 refine zM func179 ntmps179 fun Q g a J=>?_
 refine Reg [1,1,1,2,1,1,1,2,1,1] [0] J N fun w N a J=>?_
 refine go J N fun a J=>?_
 by_cases f:i < ws.length
 refine Reg [1,1,1,2,1,1,1,2,1,2,1] [0] J N fun w N a J=>?_
 refine go J N fun a J=>?_
 obtain ⟨o,rfl,m,e,c,j,h,b⟩:=rl.el d f
 obtain rfl:c=[.string m]:=b
 refine zD g J N ?_
 rw [jM e];exact ⟨rfl,N⟩
 refine zD g J N ?_
 rw [x3i f];exact ⟨rfl,N⟩
theorem tI {r i:Nat} {rs:Value} {ws:List Bs} (rl:SliceOf RStr V 1 rs ws) (f:ws.length<=1000000) (g:i<=ws.length) (N:Mem V (.blk r (ob [rs,.int .i64 ((i:Nat):Int)] 208)::K) w) :
  Calls prog 130 #[.pointer (some ⟨r,0,none⟩)] w (fun ee w'=>ee=.panicked (nO (i+1))/\Mem V K w'):=by
 obtain ⟨pw,cw,rfl,d,e⟩:=rl.fm
 refine zM func130 ntmps130 fun Q b a J=>?_
 refine yE J N fun a J=>?_
 refine Qq J N (fun a J=>?_) (o:=by exact fun _ _ _ J O=>qL J rfl runUnderlying204 (by intro ms h;cases h))
 refine st0 J rfl rfl (vK J rfl (vM _) (fun a c=>b _ _ _ (yT c ?_)))
 replace N:=N.dl [0]
 exact ⟨rfl,N⟩
theorem y4m {r i:Nat} {rs:Value} {ws:List Bs} {g:Nat} {fs cs:List Value} {p:Bs->Bool} (l:∀args w,(callFunc g args).run prog w=.ok (.enter g args) w)
  (k:∀{w:World} (s:Bs),Mem V (.blk r (ob [rs,.int .i64 ((i:Nat):Int)] 208)::K) w->Calls prog g (fs++[Value.string s]++cs).toArray w (fun ee w'=>ee=.returned (.bool (p s))/\Mem V (.blk r (ob [rs,.int .i64 ((i:Nat):Int)] 208)::K) w')) (rl:SliceOf RStr V 1 rs ws) (d:ws.length<=1000000) (o:i<=ws.length) (N:Mem V (.blk r (ob [rs,.int .i64 ((i:Nat):Int)] 208)::K) w) :
  Calls prog 181 #[.pointer (some ⟨r,0,none⟩),.func (.func g) fs.toArray cs.toArray] w (fun ee w'=>Out (nA ws p i) (fun x=>ee=.returned (.string x.1)/\Mem V (.blk r (ob [rs,.int .i64 ((x.2:Nat):Int)] 208)::K) w') (fun c=>ee=.panicked (nO c)/\Mem V K w')):=by
 obtain ⟨pw,cw,rfl,m,n⟩:=rl.fm
 refine zM func181 ntmps181 fun Q f a J=>?_
 refine zS call179 J N (fun w N a J=>?_) (c:=mF (i:=i) rl d (by omega) N)
 refine go J N fun a J=>?_
 by_cases e:(zC ws i)=(⟨#[]⟩:Bs)
 refine go J N fun a J=>?_
 refine st J rfl rfl rfl (gU J rfl call130 (tI (i:=i) rl d (by omega) N) (fun w N=>fun a h=>f _ _ _ (yT h ?_)))
 show Out (nA ws p i) _ _
 rw [x4l e];exact ⟨rfl,N⟩
 refine y0c l J N (fun b w N a J=>?_) (fun b w N a J=>?_) (c:=by exact k _ N)
 refine go J N fun a J=>?_
 have j:=pQ e
 refine Sto 0 J N fun w N a J=>?_
 refine zD f J N ?_
 show Out (nA ws p i) _ _
 rw [y5b e b];exact ⟨rfl,N⟩
 refine go J N fun a J=>?_
 refine st J rfl rfl rfl (gU J rfl call130 (tI (i:=i) rl d (by omega) N) (fun w N=>fun a h=>f _ _ _ (yT h ?_)))
 show Out (nA ws p i) _ _
 rw [j8f b];exact ⟨rfl,N⟩
theorem x2x {b:Nat} {s x:Bs} (N:Mem V (.blk b (ob [.string x] 9)::K) w) :
  Calls prog 204 #[.string s,.pointer (some ⟨b,0,none⟩)] w (fun ee w'=>ee=.returned (.bool (decide (s=x)))/\Mem V (.blk b (ob [.string x] 9)::K) w'):=by
 refine zM func204 ntmps204 fun Q c a J=>?_
 refine Qq J N (fun a J=>?_) (o:=by exact fun _ _ _ J O=>z6j J rfl rfl)
 refine zD c J N ?_
 exact ⟨rfl,N⟩
theorem pC {r i:Nat} {rs:Value} {ws:List Bs} {x:Bs} (rl:SliceOf RStr V 1 rs ws) (e:ws.length<=1000000) (m:i<=ws.length) (N:Mem V (.blk r (ob [rs,.int .i64 ((i:Nat):Int)] 208)::K) w) :
  Calls prog 177 #[.pointer (some ⟨r,0,none⟩),.string x] w (fun ee w'=>Out (wL ws x i) (fun x=>ee=.returned (.tuple #[])/\Mem V (.blk r (ob [rs,.int .i64 ((x.2:Nat):Int)] 208)::K) w') (fun c=>ee=.panicked (nO c)/\Mem V K w')):=by
 obtain ⟨pw,cw,rfl,j,k⟩:=rl.fm
 refine zM func177 ntmps177 fun Q f a J=>?_
 refine Bx J N fun g w N a J=>?_
 replace N:=N.ar [] [1,1,1]
 refine jA f call181 J N (fun l w b N a J=>?_) (fun l w b N=>?_) (c:=y4m (p:=fun s=>decide (s=x)) (fs:=[]) (cs:=[.pointer (some ⟨g,0,none⟩)]) call204 (fun s N=>(x2x (N.pull (i:=1) rfl)).mono fun _ _ h=>⟨h.1,h.2.pull (i:=1) rfl⟩) (i:=i) rl e (by omega) N)
 have d:=jP b
 refine go J N fun a J=>?_
 replace N:=N.dl [1]
 refine f _ _ _ (aU J results177 ?_)
 show Out (wL ws x i) _ _
 rw [x2y b];exact ⟨rfl,N⟩
 replace N:=N.dl [0]
 show Out (wL ws x i) _ _
 rw [j7c b];exact ⟨rfl,N⟩
theorem oZ {r i:Nat} {rs:Value} {ws:List Bs} (G:Glob V) (rl:SliceOf RStr V 1 rs ws) (e:ws.length<=1000000) (k:i<=ws.length) (N:Mem V (.blk r (ob [rs,.int .i64 ((i:Nat):Int)] 208)::K) w) :
  Calls prog 176 #[.pointer (some ⟨r,0,none⟩)] w (fun ee w'=>Out (uH ws i) (fun x=>ee=.returned (.string x.1)/\Mem V (.blk r (ob [rs,.int .i64 ((x.2:Nat):Int)] 208)::K) w') (fun c=>ee=.panicked (nO c)/\Mem V K w')):=by
 obtain ⟨pw,cw,rfl,h,j⟩:=rl.fm
 refine zM func176 ntmps176 fun Q f a J=>?_
 refine jA f call181 J N (fun g w b N a J=>?_) (fun g w b N=>?_) (c:=y4m (p:=qC) (fs:=[]) (cs:=[]) call178 (fun s N=>mA G N) (i:=i) rl e (by omega) N)
 have d:=jP b
 refine zD f J N ?_
 show Out (uH ws i) _ _
 rw [show uH ws i=.ok g from b];exact ⟨rfl,N⟩
 show Out (uH ws i) _ _
 rw [show uH ws i=_ from b];exact ⟨rfl,N⟩
theorem aM {r i:Nat} {rs:Value} {ws:List Bs} (G:Glob V) (rl:SliceOf RStr V 1 rs ws) (e:ws.length<=1000000) (k:i<=ws.length) (N:Mem V (.blk r (ob [rs,.int .i64 ((i:Nat):Int)] 208)::K) w) :
  Calls prog 129 #[.pointer (some ⟨r,0,none⟩)] w (fun ee w'=>Out (aL ws i) (fun x=>ee=.returned (.string x.1)/\Mem V (.blk r (ob [rs,.int .i64 ((x.2:Nat):Int)] 208)::K) w') (fun c=>ee=.panicked (nO c)/\Mem V K w')):=by
 obtain ⟨pw,cw,rfl,h,j⟩:=rl.fm
 refine zM func129 ntmps129 fun Q f a J=>?_
 refine jA f call181 J N (fun g w b N a J=>?_) (fun g w b N=>?_) (c:=y4m (p:=qE) (fs:=[]) (cs:=[]) call138 (fun s N=>tB G N) (i:=i) rl e (by omega) N)
 have d:=jP b
 refine zD f J N ?_
 show Out (aL ws i) _ _
 rw [show aL ws i=.ok g from b];exact ⟨rfl,N⟩
 show Out (aL ws i) _ _
 rw [show aL ws i=_ from b];exact ⟨rfl,N⟩
theorem q9r {s:Bs} (O:s.size<=1000000) (G:Glob V) (N:Mem V K w) :
  Calls prog 205 #[.string s] w (fun ee w'=>∃y:Int,ee=.returned (.tuple #[.int .i64 y,.bool (tU s).isSome])/\(∀v,tU s=some v->y=v)/\Mem V K w'):=by
 refine zM func205 ntmps205 fun Q e a J=>?_
 refine go J N fun a J=>?_
 refine st J rfl rfl rfl (y8p J rfl call217 (j2s (by exact O) G N) (fun f w b N a J=>?_) (fun f g w b N a J=>?_))
 replace N:=N.nf
 refine Qq J N (fun a J=>?_) (o:=by exact fun _ _ _ J O=>aO (v:=.bool true) J rfl rfl rfl (by kernel_rfl))
 refine zS call122 J N (fun w N a J=>?_) (c:=q2b (y0j b) G.tabs N)
 refine Qq J N (fun a J=>?_) (o:=by exact fun _ _ _ J O=>z6j J rfl rfl)
 refine jV e J N ?_
 by_cases d:z0x f=s
 rw [j6j b d,decide_eq_true d];exact ⟨_,rfl,(fun v h=>by injection h),N⟩
 rw [intP_ne b d,decide_eq_false d];exact ⟨_,rfl,(fun v h=>by cases h),N⟩
 replace N:=N.nf
 refine Qq J N (fun a J=>?_) (o:=by exact fun _ _ _ J O=>aO (v:=.bool false) J rfl rfl rfl (by kernel_rfl))
 refine jV e J N ?_
 rw [x2f b];exact ⟨_,rfl,(fun v h=>by cases h),N⟩
end Go.Sw

namespace Go.Sw
open Go.Proofs.Tryz
open Go.Proofs
set_option maxRecDepth 20000
set_option maxHeartbeats 4000000
theorem j3z {V:Fz} {K:List Res} {w:World} {r i:Nat} {rs:Value} {ws:List Bs} {d:Nat} (hd:d<=1000) (F:tN ws d) (G:Glob V) (rl:SliceOf RStr V 1 rs ws) (m0:ws.length<=1000000) (hi:i<=ws.length) (N:Mem V (.blk r (ob [rs,.int .i64 ((i:Nat):Int)] 208)::K) w) :
  Calls prog 218 #[.pointer (some ⟨r,0,none⟩),.int .i64 ((d+1:Nat):Int)] w (fun ee w'=>Out (z6c (zT ws d) i) (fun x=>∃y:Fz×Value,ee=.returned y.2/\(V.Le y.1/\SliceOf REx y.1 5 y.2 x.1)/\Mem y.1 (.blk r (ob [rs,.int .i64 ((x.2:Nat):Int)] 208)::K) w') (fun c=>ee=.panicked (nO c)/\Mem V K w')):=by
 obtain ⟨pw,cw,rfl,k0,l0⟩:=rl.fm
 refine zM func218 ntmps218 fun Q A a J=>?_
 refine Qq J N (fun a J=>?_) (o:=by exact fun _ _ _ J O=>vT ((d:Nat):Int) J rfl rfl (by rw [yC (by omega)];omega))
 refine xQ A call180 J N (fun v y4 w j z N a J=>?_) (fun v w j N=>?_) (c:=F G rl (i:=i) (by omega) N)
 obtain ⟨u0,d8⟩:=y4
 obtain ⟨m,b⟩:=z
 simp only at m b N J
 have B:=vL d _ _ j
 replace rl:=rl.up m
 replace G:=G.mono m
 replace N:=N.nf
 obtain ⟨n0,b0,o0,c21,rfl,H,g0,h0,L,T,M,U⟩:=REx.fm b
 refine Alc J N fun a0 w N a J=>?_
 refine Sto 0 J N fun w N a J=>?_
 refine Reg [2,1,1,1,0,0,1] [0] J N fun w N a J=>?_
 refine Qq J N (fun a J=>?_) (o:=by exact fun _ _ _ J O=>vT ((d:Nat):Int) J rfl rfl (by rw [yC (by omega)];omega))
 replace N:=N.pl 1
 refine xQ A call180 J N (fun p E w f u N a J=>?_) (fun p w f N=>?_) (c:=F G rl (i:=v.2) (by omega) N)
 obtain ⟨Z,f0⟩:=E
 obtain ⟨g,e⟩:=u
 simp only at g e N J
 have C:=vL d _ _ f
 replace G:=G.mono g
 replace b:=REx.mono _ _ _ _ g b
 replace N:=N.nf
 obtain ⟨p0,c0,q0,d0,rfl,I,i0,j0,P,W,R,X⟩:=REx.fm e
 refine qG J N fun s0 w N a J=>?_
 refine go J N fun a J=>?_
 have q:=N
 clear N
 obtain ⟨t,h,N,n⟩:=q.freezeRow (i:=0) rfl
 clear q
 replace G:=G.mono h
 replace b:=REx.mono _ _ _ _ h b
 replace e:=REx.mono _ _ _ _ h e
 replace N:=N.nf
 have l:SliceOf REx t 5 _ ([v.1,p.1]):=⟨_,n,(Chunks.two (k:=5) rfl b rfl e :)⟩
 obtain ⟨r0,e0,D,S,Y⟩:=l.form (by decide)
 have s:=N
 clear N
 subst D
 have N:=s
 clear s
 replace N:=N.dl [1]
 refine zD A J N ?_
 show Out (z6c (zT ws d) i) _ _
 rw [show z6c (zT ws d) i=.ok ([v.1,p.1],p.2) from (zB j).trans ((zB f).trans (rfl))]
 exact ⟨(t,_),rfl,⟨((m).trans g).trans h,l⟩,N⟩
 replace N:=N.dl [0]
 show Out (z6c (zT ws d) i) _ _
 rw [show z6c (zT ws d) i=.error _ from (zB j).trans (zO f)]
 exact ⟨rfl,N.le (m)⟩
 show Out (z6c (zT ws d) i) _ _
 rw [show z6c (zT ws d) i=.error _ from zO j]
 exact ⟨rfl,N.le (Fz.Le.refl _)⟩
theorem q6w {V:Fz} {K:List Res} {w:World} {r i:Nat} {rs:Value} {ws:List Bs} {m:Nat} {d:Nat} (hd:d<=1000) (hE:tN ws d) (G:Glob V) (rl:SliceOf RStr V 1 rs ws) (c0:ws.length<=1000000) (hi:i<=ws.length) (N:Mem V (.blk r (ob [rs,.int .i64 ((i:Nat):Int)] 208)::K) w) :
  Calls prog 219 #[.pointer (some ⟨r,0,none⟩),.int .i64 ((m:Nat):Int),.int .i64 ((d+1:Nat):Int)] w (fun ee w'=>Out (wE ws (zT ws d) (ws.length+1) m i) (fun x=>∃y:Fz×Value,ee=.returned y.2/\(V.Le y.1/\SliceOf REx y.1 5 y.2 x.1)/\Mem y.1 (.blk r (ob [rs,.int .i64 ((x.2:Nat):Int)] 208)::K) w') (fun c=>ee=.panicked (nO c)/\Mem V K w')):=by
 obtain ⟨pw,cw,rfl,H0,I0⟩:=rl.fm
 refine zM func219 ntmps219 fun Q Y a J=>?_
 refine go J N fun a J=>?_
 replace N:=N.nilRow 66 5
 replace N:=N.nf
 refine zV (J.ks [0,1,2]) N (fun R mm a w=>∃(B:Fz) (j:Nat) (u:Value) (cs:List Value) (xs:List Ex) (f:Nat),mm=ws.length - j/\R B [(7,u)] [(0,.gs (u) 66 5 cs),(1,.blk r (ob [.slice pw ws.length cw,.int .i64 ((j:Nat):Int)] 208))] a w/\(V.Le B/\(Chunks (REx B) 5 cs xs/\xs.length<=j/\j<=ws.length/\xs.length+f=ws.length+1/\wE ws (zT ws d) (ws.length+1) m i=kR xs (wE ws (zT ws d) f (m - xs.length) j)))) (ws.length - i) ⟨V,i,.slice none 0 0,[],[],ws.length+1,rfl,⟨J.pk,N⟩,⟨Fz.Le.refl _,⟨rfl,Nat.zero_le _,hi,Nat.zero_add _,oL _⟩⟩⟩ ?_
 clear N J
 rintro mm a w ⟨B,j,u,cs,xs,f,S,⟨J,N⟩,I⟩ L6 P
 replace N:=N.nf
 obtain ⟨k,I⟩:=I
 replace rl:=rl.up k
 replace G:=G.mono k
 obtain ⟨hch,J0,hj,F0,s⟩:=I
 refine Qq J N (fun a J=>?_) (o:=by exact fun _ _ _ J O=>y5x 0 (xs.length) J O rfl rfl (hch.length) (by decide) runUnderlying63)
 refine go J N fun a J=>?_
 by_cases F:xs.length < m
 refine Qq J N (fun a J=>?_) (o:=by exact fun _ _ _ J O=>vT ((d:Nat):Int) J rfl rfl (by rw [yC (by omega)];omega))
 replace N:=N.pl 1
 refine xQ Y call180 J N (fun e j0 w l L N a J=>?_) (fun e w l N=>?_) (c:=hE G rl (i:=j) (by omega) N)
 obtain ⟨T,z0⟩:=j0
 obtain ⟨b,t⟩:=L
 simp only at b t N J
 have Z:=vL d _ _ l
 replace rl:=rl.up b
 replace G:=G.mono b
 replace hch:=hch.mono fun _ _ h=>REx.mono _ _ _ _ b h
 replace N:=N.nf
 obtain ⟨d0,c23,e0,W,rfl,m0,B0,C0,o0,t0,p0,u0⟩:=REx.fm t
 refine qG J N fun L0 w N a J=>?_
 refine qN 2 rt_63 J N (fun h0 w N a J=>?_)
 refine go J N fun a J=>?_
 replace N:=N.ar [0] [1]
 refine P _ _ _ (by subst S;omega) ⟨(T),(e.2),(h0),((cs++[.int .i64 (e.1.kind),.int .i64 (e.1.num),.string e.1.name,.slice d0 e.1.args.length c23,.slice e0 e.1.arms.length W])),(xs++[e.1]),(f - 1),rfl,⟨J.pk,by exact N⟩,?_⟩
 refine ⟨(k).trans b,?_⟩
 exact ⟨hch.snoc rfl t,by simp only [laQ,lcQ,lnQ];omega,by omega,by simp only [laQ,lcQ,lnQ];omega,y9r s (by omega) (.inl F) l⟩
 replace N:=N.dl [0]
 show Out (wE ws (zT ws d) (ws.length+1) m i) _ _
 rw [show wE ws (zT ws d) (ws.length+1) m i=.error _ from y9q s (by omega) (.inl F) l]
 exact ⟨rfl,N.le (k)⟩
 replace N:=N.pl 1
 refine zS call179 J N (fun w N a J=>?_) (c:=mF (i:=j) rl c0 (by omega) N)
 by_cases H:(zC ws j)=(⟨#[41]⟩:Bs)
 refine go J N fun a J=>?_
 have C:=N
 clear N
 obtain ⟨E,p,N,A⟩:=C.freezeRow (i:=1) rfl
 clear C
 replace rl:=rl.up p
 replace G:=G.mono p
 replace hch:=hch.mono fun _ _ h=>REx.mono _ _ _ _ p h
 replace N:=N.nf
 have z:SliceOf REx E 5 _ (xs):=⟨_,A,hch⟩
 obtain ⟨K0,c42,b0,q0,w0⟩:=z.form (by decide)
 have D:=N
 clear N
 subst b0
 have N:=D
 clear D
 refine zD Y J N ?_
 show Out (wE ws (zT ws d) (ws.length+1) m i) _ _
 rw [show wE ws (zT ws d) (ws.length+1) m i=.ok (xs,j) from x2p s (by omega) F H]
 exact ⟨(E,_),rfl,⟨(k).trans p,z⟩,N⟩
 refine Qq J N (fun a J=>?_) (o:=by exact fun _ _ _ J O=>vT ((d:Nat):Int) J rfl rfl (by rw [yC (by omega)];omega))
 refine xQ Y call180 J N (fun g k0 w n M N a J=>?_) (fun g w n N=>?_) (c:=hE G rl (i:=j) (by omega) N)
 obtain ⟨U,A0⟩:=k0
 obtain ⟨q,v⟩:=M
 simp only at q v N J
 have a0:=vL d _ _ n
 replace G:=G.mono q
 replace hch:=hch.mono fun _ _ h=>REx.mono _ _ _ _ q h
 replace N:=N.nf
 obtain ⟨f0,X,g0,c63,rfl,n0,D0,E0,r0,x0,s0,y0⟩:=REx.fm v
 refine qG J N fun M0 w N a J=>?_
 refine qN 2 rt_63 J N (fun i0 w N a J=>?_)
 refine go J N fun a J=>?_
 replace N:=N.ar [0] [1]
 refine P _ _ _ (by subst S;omega) ⟨(U),(g.2),(i0),((cs++[.int .i64 (g.1.kind),.int .i64 (g.1.num),.string g.1.name,.slice f0 g.1.args.length X,.slice g0 g.1.arms.length c63])),(xs++[g.1]),(f - 1),rfl,⟨J.pk,by exact N⟩,?_⟩
 refine ⟨(k).trans q,?_⟩
 exact ⟨hch.snoc rfl v,by simp only [laQ,lcQ,lnQ];omega,by omega,by simp only [laQ,lcQ,lnQ];omega,y9r s (by omega) (.inr H) n⟩
 replace N:=N.dl [0]
 show Out (wE ws (zT ws d) (ws.length+1) m i) _ _
 rw [show wE ws (zT ws d) (ws.length+1) m i=.error _ from y9q s (by omega) (.inr H) n]
 exact ⟨rfl,N.le (k)⟩
end Go.Sw
