import Derived.Test.YtghdfphedgcpdaaGreatDoorY15
set_option linter.unusedVariables false
set_option linter.unusedSimpArgs false
namespace Go.Sw
open Go.Proofs Go.Proofs.Tryz
set_option maxRecDepth 20000
set_option maxHeartbeats 4000000
structure Fit (T:Table) (c:Core):Prop where
 ds:∀n,zK T.datas n=qR c.datas n
 cs:∀n,zK T.cons n=nU c.datas n
 fs:∀n,zK T.funs n=(match nH c.funs n with | some j=>c.funs[j]? | none=>none)
 is:∀n,zK T.inputs n=z8t c.inputs n
 no:zK T.datas sNo=none
 pos:∀n d,zK T.datas n=some d->0 < d.cons.length/\∀x∈d.cons,∀f∈x.fields,f≠sNo
 mks:∀n m,zK T.cons n=some m->m.data≠sNo
 rs:∀n f,zK T.funs n=some f->f.result≠sNo
 it:∀n t,zK T.inputs n=some t->t≠sNo
structure Rel (s:Scope) (vars:List Param):Prop where
 get:∀n,zK s n=dR vars n
 nz:∀p∈vars,p.type≠sNo
theorem Rel.put {s:Scope} {vars:List Param} (h:Rel s vars) {v f:Bs} (a:f≠sNo):Rel (jP s v f) (vars++[⟨v,f⟩]) where
 get n:=by
  rw [xD,z1y,h.get]
  by_cases e:n=v
  ·rw [if_pos e,if_pos e.symm]
  ·rw [if_neg e,if_neg (fun g=>e g.symm)]
 nz p b:=by
  rcases List.mem_append.1 b with g | g
  ·exact h.nz p g
  ·simp only [List.mem_cons,List.not_mem_nil,or_false] at g;subst g;exact a
theorem Rel.putAll:∀{vs fs:List Bs} {s:Scope} {vars:List Param},Rel s vars->(∀f∈fs,f≠sNo)->Rel (putAll s vs fs) (vars++jR vs fs)
 | [],fs,_,_,h,_=>by rw [vJ];simpa [jR] using h
 | _::_,[],_,_,h,_=>by simpa [jR,Go.Sw.putAll] using h
 | v::vs,f::fs,_,vars,h,a=>by
  rw [dD,show vars++jR (v::vs) (f::fs)=(vars++[⟨v,f⟩])++jR vs fs by simp [jR]]
  exact (h.put (a f msQ)).putAll (fun g b=>a g (mcQ _ b))
theorem j2h {ps:List Param} {n t:Bs}:∀(r:Option Bs),(ps.foldl (fun r p=>if p.name=n then some p.type else r) r)=some t->(∃p∈ps,p.type=t)∨r=some t:=by
 induction ps with
 | nil=>intro r h;exact .inr h
 | cons p ps a=>
  intro r h
  rcases a _ h with ⟨q,hq,e⟩ | h
  ·exact .inl ⟨q,mcQ _ hq,e⟩
  ·change (if p.name=n then some p.type else r)=some t at h
   split at h
   ·cases h;exact .inl ⟨p,msQ,rfl⟩
   ·exact .inr h
theorem Rel.ne {s:Scope} {vars:List Param} (h:Rel s vars) {n t:Bs} (g:dR vars n=some t):t≠sNo:=by
 rcases j2h none g with ⟨p,a,rfl⟩ | g
 ·exact h.nz p a
 ·cases g
def Alk (x:Bs) (r:Bs×Bool):Prop:=(r.2=true->x=r.1/\r.1≠sNo)/\(r.2=false->x=sNo)
theorem Alk.no {x:Bs} (h:x=sNo):Alk x noT:=⟨fun g=>(by cases g),fun _=>h⟩
theorem Alk.iff {x:Bs} {r:Bs×Bool} (h:Alk x r):x=sNo↔r.2=false:=by
 cases hr:r.2 with
 | true=>have:=h.1 hr;exact ⟨fun e=>absurd (this.1▸e) this.2,fun e=>by cases e⟩
 | false=>exact ⟨fun _=>rfl,fun _=>h.2 hr⟩
def RT (T:Table) (c:Core) (e:Ex):Prop:=∀s vars,Rel s vars->(zN e).Nodup->Fresh s (zN e)->Alk (zI T e s).1 (zS c e vars)
theorem z4a {c:Core}:∀{xs:List Ex} {vars:List Param},(typesR c xs vars).2=true->(typesR c xs vars).1.length=xs.length
 | [],_,_=>rfl
 | x::xs,vars,h=>by
  simp only [typesR] at h ⊢
  split at h
  ·cases h
  ·rename_i a;rw [if_neg a];simp only [lcQ];rw [z4a h]
theorem y3d {T:Table} {c:Core}:∀{xs:List Ex} {s:Scope} {vars:List Param} {ts:List Bs},(∀x∈xs,gT T x)->(∀x∈xs,RT T c x)->Rel s vars->xs.length=ts.length->(bindPs xs).Nodup->Fresh s (bindPs xs) ->
  ((allQ T xs s ts).1=true↔(typesR c xs vars).2=true/\ts=(typesR c xs vars).1)
 | [],_,_,[],_,_,_,_,_,_=>by simp [allQ,typesR]
 | x::xs,s,vars,t::ts,k,l,hr,hl,q,i=>by
  have hn':=qH (show (zN x++bindPs xs).Nodup from q)
  have fs:=i.sub (m:=zN x) fun n h=>List.mem_append.2 (.inl h)
  have o:=l x msQ s vars hr hn'.1 fs
  have j:=o.iff
  rw [z7u]
  simp only [typesR]
  by_cases h1:(zI T x s).1=sNo
  ·rw [if_pos (.inl h1),if_pos (j.1 h1)];simp
  ·have d:(zS c x vars).2=true:=by cases h:(zS c x vars).2 with | true=>rfl | false=>exact absurd (j.2 h) h1
   have f:=o.1 d
   rw [if_neg (show ¬(zS c x vars).2=false by simp [d])]
   by_cases a:(zI T x s).1=t
   ·rw [if_neg (fun e=>e.elim h1 (fun g=>g a))]
    have p:=k x msQ s hn'.1 fs h1
    rw [p,y3d (fun y b=>k y (mcQ _ b)) (fun y b=>l y (mcQ _ b)) hr (by simpa using hl) hn'.2.1 (i.sub fun n h=>List.mem_append.2 (.inr h))]
    simp only [List.cons.injEq,<- f.1,a,true_and]
   ·rw [if_pos (.inr a)]
    simp only [Bool.false_eq_true,List.cons.injEq,false_iff,<- f.1]
    exact fun g=>a g.2.1.symm
 | [],_,_,_::_,_,_,_,hl,_,_=>by simp at hl
 | _::_,_,_,[],_,_,_,hl,_,_=>by simp at hl
theorem j0z {T:Table} {c:Core} {xs:List Ex} {s:Scope} {vars:List Param} {ts:List Bs} (d:∀x∈xs,gT T x) (f:∀x∈xs,RT T c x) (hr:Rel s vars) (e:(bindPs xs).Nodup) (b:Fresh s (bindPs xs)) :
  (vT T xs s ts).1=true↔(typesR c xs vars).2=true/\ts=(typesR c xs vars).1:=by
 unfold vT
 split
 ·rename_i hl;exact y3d d f hr hl e b
 ·rename_i hl
  simp only [Bool.false_eq_true,false_iff]
  rintro ⟨h1,a⟩
  rw [a,z4a h1] at hl
  exact hl rfl
theorem y9k {T:Table} {c:Core}:∀{az:List Arm} {cs:List Con} {first:Bool} {out:Bs} {s:Scope} {vars:List Param},(∀a∈az,gT T a.body)->(∀a∈az,RT T c a.body)->Rel s vars->cs.length=az.length ->
  (∀x∈cs,∀f∈x.fields,f≠sNo)->(bindPa az).Nodup->Fresh s (bindPa az)->(az=[]->out≠sNo)->Alk (splitP T az cs first out s).1 (armsR c az cs first out vars)
 | [],[],_,out,_,_,_,_,_,_,_,_,_,h=>⟨fun _=>⟨rfl,h rfl⟩,fun g=>by cases g⟩
 | a::az,x::cs,first,out,s,vars,p,r,hr,hl,t,q,l,_=>by
  rw [qE] at q l
  have hn':=qH q
  have hn'':=qH hn'.1
  rw [jU,nT]
  by_cases d:a.con≠x.name∨a.vars.length≠x.fields.length
  ·rw [if_pos d,if_pos d];exact .no rfl
  ·rw [if_neg d,if_neg d]
   have fs:Fresh s (a.vars++zN a.body):=l.sub fun n h=>List.mem_append.2 (.inl h)
   have hb:Alk (aO T a x s).1 (zS c a.body (vars++jR a.vars x.fields)) :=
    r _ msQ (putAll s a.vars x.fields) _ (hr.putAll (t x msQ)) hn''.2.1 (fun n hb=>by
     rw [nY (fun N=>hn''.2.2 n N hb)];exact fs n (List.mem_append.2 (.inr hb)))
   have o:=hb.iff
   by_cases h1:(aO T a x s).1=sNo
   ·rw [if_pos (.inl h1),if_pos (.inl (o.1 h1))];exact .no rfl
   ·have m:(zS c a.body (vars++jR a.vars x.fields)).2=true:=by cases h:(zS c a.body (vars++jR a.vars x.fields)).2 with | true=>rfl | false=>exact absurd (o.2 h) h1
    have j:=hb.1 m
    rw [j.1]
    by_cases i:first=false/\(zS c a.body (vars++jR a.vars x.fields)).1≠out
    ·rw [if_pos (.inr i),if_pos (.inr i)];exact .no rfl
    ·rw [if_neg (fun e=>e.elim j.2 i),if_neg (fun e=>e.elim (by simp [m]) i)]
     have k:a.vars.length=x.fields.length:=Classical.byContradiction fun e=>d (.inr e)
     have u:=y9i (p _ msQ) k hn'.1 fs h1
     rw [u]
     exact y9k (fun b hb=>p b (mcQ _ hb)) (fun b hb=>r b (mcQ _ hb)) hr (by simpa using hl) (fun y v=>t y (mcQ _ v)) hn'.2.1 (l.sub fun n h=>List.mem_append.2 (.inr h)) (fun _=>j.2)
 | [],_::_,_,_,_,_,_,_,_,hl,_,_,_,_=>by simp at hl
 | _::_,[],_,_,_,_,_,_,_,hl,_,_,_,_=>by simp at hl
def tyL (T:Table) (e:Ex) (s:Scope):Option (List Bs×Bs)->Bs
 | none=>sNo
 | some p=>if (vT T e.args s p.1).1=true then p.2 else sNo
theorem opR_eq (n:Bs):(opR n).getD sNo=opT n/\∀t,opR n=some t->t≠sNo:=by
 unfold opR opT
 have:dA [⟨#[43]⟩,⟨#[45]⟩,⟨#[42]⟩,⟨#[47]⟩,⟨#[37]⟩] n=true↔(n=⟨#[43]⟩∨n=⟨#[45]⟩∨n=⟨#[42]⟩∨n=⟨#[47]⟩∨n=⟨#[37]⟩):=by
  rw [hasB_mem];simp
 by_cases h:dA [⟨#[43]⟩,⟨#[45]⟩,⟨#[42]⟩,⟨#[47]⟩,⟨#[37]⟩] n=true
 ·rw [if_pos h,if_pos (this.1 h)];exact ⟨rfl,fun t g=>by cases g;decide⟩
 ·rw [if_neg h,if_neg (fun g=>h (this.2 g))]
  split
  ·exact ⟨rfl,fun t g=>by cases g;decide⟩
  ·exact ⟨rfl,fun t g=>by cases g⟩
theorem bare_iff {e:Ex} {name:Bool} {n:Int} {k:Int}:qP e false name n k=true↔e.num=0/\(name=true∨e.name=sNo)/\(n < 0∨(e.args.length:Int)=n)/\(k < 0∨(e.arms.length:Int)=k):=by
 simp [qP,sNo,and_assoc]
theorem bare1 {e:Ex}:qP e true false 0 0=true↔e.name=sNo/\e.args.length=0/\e.arms.length=0:=by
 simp [qP,sNo,and_assoc]
theorem bare0 {e:Ex} {n:Int}:qP e false true n 0=true↔e.num=0/\(n < 0∨(e.args.length:Int)=n)/\e.arms.length=0:=by
 simp only [qP,baQ,Bool.or_eq_true,decide_eq_true_eq,Bool.false_eq_true,false_or,true_or,and_true]
 omega
theorem z2p {T:Table} {c:Core} {e:Ex} {s:Scope} {vars:List Param} {w:Option (List Bs×Bs)} (b:∀x∈e.args,gT T x) (i:∀x∈e.args,RT T c x) (hr:Rel s vars) (d:(bindPs e.args).Nodup) (a:Fresh s (bindPs e.args)) (j:∀p,w=some p->p.2≠sNo) :
  Alk (tyL T e s w) (if (typesR c e.args vars).2=false then noT else tyR c e vars w):=by
 cases w with
 | none=>
  by_cases h:(typesR c e.args vars).2=false
  ·rw [if_pos h];exact .no rfl
  ·rw [if_neg h];exact .no rfl
 | some p=>
  have h1:=j0z (ts:=p.1) b i hr d a
  simp only [tyL,tyR]
  by_cases h:(typesR c e.args vars).2=false
  ·rw [if_pos h]
   have:¬(vT T e.args s p.1).1=true:=fun g=>by rw [(h1.1 g).1] at h;cases h
   rw [if_neg this];exact .no rfl
  ·rw [if_neg h]
   have f:(typesR c e.args vars).2=true:=by cases g:(typesR c e.args vars).2 with | true=>rfl | false=>exact absurd g h
   by_cases g:p.1=(typesR c e.args vars).1
   ·rw [if_pos (h1.2 ⟨f,g⟩),if_pos g]
    exact ⟨fun _=>⟨rfl,j p rfl⟩,fun x=>by cases x⟩
   ·have:¬(vT T e.args s p.1).1=true:=fun x=>g (h1.1 x).2
    rw [if_neg this,if_neg g];exact .no rfl
theorem rt_ok {T:Table} {c:Core} (j:Fit T c):∀(n:Nat) (e:Ex),e.sz < n->RT T c e
 | 0,_,h=>by omega
 | n+1,e,i0=>by
  intro s vars hr X L
  have u:∀x∈e.args,gT T x:=fun x H=>tK T j.no (n+1) x (by have:=Ex.lt_args H;omega)
  have a0:∀a∈e.arms,gT T a.body:=fun a S=>tK T j.no (n+1) a.body (by have:=Ex.lt_arms S;omega)
  have q:∀x∈e.args,RT T c x:=fun x H=>rt_ok j n x (by have:=Ex.lt_args H;omega)
  have c0:∀a∈e.arms,RT T c a.body:=fun a S=>rt_ok j n a.body (by have:=Ex.lt_arms S;omega)
  rw [wM] at X L
  have V:=qH X
  have B:=qH V.1
  have fa:Fresh s (bindPs e.args):=L.sub fun m N=>List.mem_append.2 (.inl (List.mem_append.2 (.inr N)))
  have fb:Fresh s (bindPa e.arms):=L.sub fun m N=>List.mem_append.2 (.inr N)
  rw [dJ]
  by_cases F:e.kind=7
  ·rw [sM T e s F]
   unfold xK
   by_cases hb:qP e false false 1 (-1)=true
   ·rw [if_pos hb]
    obtain ⟨Y,Z,b3,_⟩:=bare_iff.1 hb
    obtain ⟨x,b⟩:=one_arg (pD (n:=1) hb)
    have H:e.args[0]? = some x:=by rw [b];rfl
    rw [jV H]
    simp only [F,Y,b,firstR]
    simp only [show ¬((7:Int)=1) by decide,show ¬((7:Int)=2) by decide,show ¬((7:Int)=3) by decide,show ¬((7:Int)=6) by decide,ne_eq,not_true,not_false_eq_true,false_and,and_false,or_self,if_false,if_true,lcQ,lnQ,Z.resolve_left (by decide)]
    have na:=B.2.1
    rw [b] at fa na
    simp only [bindPs,List.append_nil] at fa na
    have mx:x∈e.args:=by rw [b];simp
    have R:=q x mx s vars hr na fa
    by_cases r:(zS c x vars).2=false
    ·rw [if_pos r,R.2 r,j.no];exact .no rfl
    ·rw [if_neg r]
     have h1:(zS c x vars).2=true:=by cases g:(zS c x vars).2 with | true=>rfl | false=>exact absurd g r
     obtain ⟨v,e2⟩:=R.1 h1
     have e3:=u x mx s na fa (v▸e2)
     rw [v,e3,j.ds]
     cases hd:qR c.datas (zS c x vars).1 with
     | none=>exact .no rfl
     | some d=>
      have i:=j.pos _ d ((j.ds _).trans hd)
      simp only
      by_cases k:d.cons.length=e.arms.length
      ·rw [if_pos k,if_neg (fun g=>g k)]
       exact y9k a0 c0 hr k i.2 V.2.1 fb (fun g=>by rw [g] at k;have:=i.1;simp only [lnQ] at k;omega)
      ·rw [if_neg k,if_pos k];exact .no rfl
   ·rw [if_neg hb]
    have hq:¬(e.num=0/\e.name=sNo/\e.args.length=1):=fun g=>hb (bare_iff.2 ⟨g.1,.inr g.2.1,.inr (by rw [g.2.2];rfl),.inl (by decide)⟩)
    by_cases P:(e.kind≠7/\0 < e.arms.length)∨(e.kind≠1/\e.num≠0)
    ·rw [if_pos P];exact .no rfl
    ·rw [if_neg P]
     have r:e.num=0:=Classical.byContradiction fun g=>P (.inr ⟨by rw [F];decide,g⟩)
     simp only [F]
     simp only [show ¬((7:Int)=1) by decide,show ¬((7:Int)=2) by decide,show ¬((7:Int)=3) by decide,show ¬((7:Int)=6) by decide,if_false,if_true]
     rw [if_pos]
     ·exact .no rfl
     ·by_cases hl:e.args.length=1
      ·exact .inr fun g=>hq ⟨r,g,hl⟩
      ·exact .inl hl
  have Q:((e.kind≠7/\0 < e.arms.length)∨(e.kind≠1/\e.num≠0))↔¬(e.arms.length=0/\(e.kind=1∨e.num=0)):=by
   constructor
   ·rintro (⟨_,g⟩ | ⟨g,g'⟩) ⟨x,y⟩
    ·omega
    ·exact y.elim g g'
   ·intro g
    by_cases x:e.arms.length=0
    ·exact .inr ⟨fun y=>g ⟨x,.inl y⟩,fun y=>g ⟨x,.inr y⟩⟩
    ·exact .inl ⟨F,by omega⟩
  by_cases h1:e.kind=1
  ·rw [z0q T e s h1]
   unfold sI
   by_cases hb:qP e true false 0 0=true
   ·obtain ⟨Y,Z,b3⟩:=bare1.1 hb
    rw [if_pos hb,if_neg (fun g=>Q.1 g ⟨b3,.inl h1⟩),if_pos h1]
    exact ⟨fun _=>⟨rfl,show yU≠sNo by decide⟩,fun g=>by simp [Y,Z] at g⟩
   ·rw [if_neg hb]
    by_cases O:e.arms.length=0
    ·rw [if_neg (fun g=>Q.1 g ⟨O,.inl h1⟩),if_pos h1]
     refine ⟨fun g=>?_,fun _=>rfl⟩
     simp only [baQ,decide_eq_true_eq] at g
     exact absurd (bare1.2 ⟨g.1,g.2,O⟩) hb
    ·rw [if_pos (Q.2 fun g=>O g.1)];exact .no rfl
  by_cases hq:e.num=0/\e.arms.length=0
  ·rw [if_neg (fun g=>Q.1 g ⟨hq.2,.inr hq.1⟩),if_neg h1]
   have o:∀{n:Int},(n < 0∨(e.args.length:Int)=n)->qP e false true n 0=true:=fun h=>bare0.2 ⟨hq.1,h,hq.2⟩
   have A:∀{n:Int},¬(n < 0∨(e.args.length:Int)=n)->¬qP e false true n 0=true:=fun h g=>h (bare0.1 g).2.1
   by_cases C:e.kind=2
   ·rw [if_pos C,oP T e s C]
    unfold mW
    by_cases hl:e.args.length=0
    ·rw [if_pos (o (.inr (by rw [hl];rfl))),hr.get]
     cases W:dR vars e.name with
     | none=>exact .no rfl
     | some t=>exact ⟨fun _=>⟨rfl,hr.ne W⟩,fun g=>by simp [hl] at g⟩
    ·rw [if_neg (A (by omega))]
     cases W:dR vars e.name with
     | none=>exact .no rfl
     | some t=>exact ⟨fun g=>by simp only [decide_eq_true_eq] at g;exact absurd g hl,fun _=>rfl⟩
   by_cases I:e.kind=3
   ·rw [if_neg C,if_pos I,oN T e s I]
    unfold uQ
    by_cases hl:e.args.length=0
    ·rw [if_pos (o (.inr (by rw [hl];rfl))),j.is]
     cases W:z8t c.inputs e.name with
     | none=>exact .no rfl
     | some t=>exact ⟨fun _=>⟨rfl,j.it _ _ ((j.is _).trans W)⟩,fun g=>by simp [hl] at g⟩
    ·rw [if_neg (A (by omega))]
     cases W:z8t c.inputs e.name with
     | none=>exact .no rfl
     | some t=>exact ⟨fun g=>by simp only [decide_eq_true_eq] at g;exact absurd g hl,fun _=>rfl⟩
   rw [if_neg C,if_neg I]
   by_cases E:e.kind=6
   ·rw [if_pos E,oO T e s E]
    unfold z3q
    by_cases hl:e.args.length=2
    ·rw [if_pos (o (.inr (by rw [hl];rfl)))]
     obtain ⟨x,y,b⟩:=x9u hl
     have H:e.args[0]? = some x:=by rw [b];rfl
     have hy:e.args[1]? = some y:=by rw [b];rfl
     simp only [if_pos E,b,bindPs,List.append_nil] at X L
     have b0:=qH X
     have U:=qH b0.1
     have M:=qH U.2.1
     have mx:x∈e.args:=by rw [b];simp
     have my:y∈e.args:=by rw [b];simp
     have R:=q x mx s vars hr M.1 (L.sub fun m N=>by simp [N])
     have hi:=R.iff
     simp only [b,letR,firstR,lcQ,lnQ]
     by_cases r:(zI T x s).1=sNo
     ·rw [<- b,y2w H r,if_pos (.inl (hi.1 r))];exact .no rfl
     ·have g1:(zS c x vars).2=true:=by cases g:(zS c x vars).2 with | true=>rfl | false=>exact absurd (hi.2 g) r
      obtain ⟨v,e2⟩:=R.1 g1
      have e3:=u x mx s M.1 (L.sub fun m N=>by simp [N]) r
      rw [<- b,z6o H hy r,if_neg (by simp [g1])]
      simp only [e3,v]
      refine q y my _ _ (hr.put e2) M.2.1 (fun m N=>?_)
      rw [xD,if_neg]
      ·exact L m (by simp [N])
      ·rintro rfl
       exact U.2.2 e.name (by simp) (by simp [N])
    ·rw [if_neg (A (by omega))]
     cases S:e.args with
     | nil=>exact .no rfl
     | cons a l=>
      simp only [letR]
      rw [S] at hl
      rw [if_pos (.inr (by simp only [lcQ] at hl;omega))];exact .no rfl
   rw [if_neg E,if_neg F]
   by_cases z:e.kind=4
   ·rw [oM T e s z]
    have G:wU c e.kind e.name=(zK T.cons e.name).map fun m=>(m.con.fields,m.data):=by rw [wU,if_pos z,j.cs]
    have:=z2p (w:=wU c e.kind e.name) u q hr B.2.1 fa (fun p i=>by
     rw [G] at i
     cases N:zK T.cons e.name with
     | none=>rw [N] at i;cases i
     | some m=>rw [N] at i;cases i;exact j.mks _ _ N)
    have v:(uM T e s).1=tyL T e s (wU c e.kind e.name):=by
     rw [G]
     unfold uM
     cases N:zK T.cons e.name with
     | none=>rfl
     | some m=>simp only [if_pos (o (n:=-1) (.inl (by decide))),Option.map_some,tyL]
    rw [v];exact this
   by_cases D:e.kind=5
   ·rw [dK T e s D]
    have G:wU c e.kind e.name=(zK T.funs e.name).map fun f=>(f.params.map Param.type,f.result):=by
     rw [wU,if_neg z,if_pos D,j.fs]
     cases nH c.funs e.name <;> rfl
    have:=z2p (w:=wU c e.kind e.name) u q hr B.2.1 fa (fun p i=>by
     rw [G] at i
     cases N:zK T.funs e.name with
     | none=>rw [N] at i;cases i
     | some m=>rw [N] at i;cases i;exact j.rs _ _ N)
    have v:(aP T e s).1=tyL T e s (wU c e.kind e.name):=by
     rw [G]
     unfold aP
     cases N:zK T.funs e.name with
     | none=>rfl
     | some m=>simp only [if_pos (o (n:=-1) (.inl (by decide))),Option.map_some,tyL]
    rw [v];exact this
   by_cases K:e.kind=8
   ·rw [uE T e s K]
    have G:wU c e.kind e.name=(opR e.name).map fun t=>([yU,yU],t):=by rw [wU,if_neg z,if_neg D,if_pos K]
    obtain ⟨o1,o2⟩:=opR_eq e.name
    have:=z2p (w:=wU c e.kind e.name) u q hr B.2.1 fa (fun p i=>by
     rw [G] at i
     cases N:opR e.name with
     | none=>rw [N] at i;cases i
     | some m=>rw [N] at i;cases i;exact o2 _ N)
    have v:(nX T e s).1=tyL T e s (wU c e.kind e.name):=by
     rw [G]
     unfold nX
     rw [<- o1]
     by_cases hl:e.args.length=2
     ·rw [if_pos (o (.inr (by rw [hl];rfl)))]
      cases N:opR e.name with
      | none=>simp [tyL]
      | some t=>rfl
     ·rw [if_neg (A (by omega))]
      have:¬(vT T e.args s [yU,yU]).1=true:=by unfold vT;rw [if_neg (by simpa using hl)];simp
      cases N:opR e.name with
      | none=>rfl
      | some t=>simp only [Option.map_some,tyL,if_neg this]
    rw [v];exact this
   ·by_cases g0:e.kind=1∨e.kind=2∨e.kind=3
    ·omega
    ·rw [dL T e s h1 C I z D E F K,wU,if_neg z,if_neg D,if_neg K]
     by_cases h:(typesR c e.args vars).2=false
     ·rw [if_pos h];exact .no rfl
     ·rw [if_neg h];exact .no rfl
  ·rw [if_pos (Q.2 fun g=>hq ⟨g.2.resolve_left h1,g.1⟩)]
   apply Alk.no
   have hb:∀n,¬qP e false true n 0=true:=fun n g=>hq ⟨(bare0.1 g).1,(bare0.1 g).2.2⟩
   by_cases C:e.kind=2
   ·rw [oP T e s C];exact if_neg (hb 0)
   by_cases I:e.kind=3
   ·rw [oN T e s I];exact if_neg (hb 0)
   by_cases z:e.kind=4
   ·rw [oM T e s z];unfold uM
    split
    ·rfl
    ·rw [if_neg (hb _)]
   by_cases D:e.kind=5
   ·rw [dK T e s D];unfold aP
    split
    ·rfl
    ·rw [if_neg (hb _)]
   by_cases E:e.kind=6
   ·rw [oO T e s E];unfold z3q;rw [if_neg (hb _)]
   by_cases K:e.kind=8
   ·rw [uE T e s K];unfold nX;rw [if_neg (hb _)]
   rw [dL T e s h1 C I z D E F K]
theorem cK:∀{l:List Data} {n:Bs} {d:Data},vB l n=some d->d∈l/\d.name=n
 | [],_,_,h=>by cases h
 | e::l,n,d,h=>by
  simp only [vB] at h
  split at h
  ·rename_i g;cases h;exact ⟨msQ,g⟩
  ·have:=cK h;exact ⟨mcQ _ this.1,this.2⟩
theorem y0d {l:List Data} {n:Bs} (h:n∉l.map Data.name):vB l n=none:=by
 cases g:vB l n with
 | none=>rfl
 | some d=>obtain ⟨h1,a⟩:=cK g;exact absurd (a▸List.mem_map_of_mem h1) h
theorem y9u (ds:List Data) (n:Bs):qR ds n=vB (truthsD::ds) n:=by rw [<- z4j,z4h]
theorem y0o:∀{l:List Data} {n:Bs} {m:Maker},mT l n=some m->∃d∈l,d.name=m.data/\oY d.cons n=some m.con
 | [],_,_,h=>by cases h
 | e::l,n,m,h=>by
  simp only [mT] at h
  cases a:oY e.cons n with
  | some x=>rw [a] at h;cases h;exact ⟨e,msQ,rfl,a⟩
  | none=>rw [a] at h;obtain ⟨d,b,g⟩:=y0o h;exact ⟨d,mcQ _ b,g⟩
theorem y4y (name:Bs):∀(l:List Con) (ok:Bool),dQ name l ok=(ok && !mQ name l)
 | [],ok=>by simp [dQ,mQ]
 | x::l,ok=>by
  simp only [dQ,y4y name l,mQ,List.any_cons,Bool.not_or,<- Bool.and_assoc];rfl
theorem sC (name:Bs):∀(l:List Data) (n:Int) (ok:Bool),(l.map Data.name).Nodup->nP name l n ok=match vB l name with | none=>(n,ok) | some d=>(IntKind.i64.wrap (n+1),ok && !mQ name d.cons)
 | [],n,ok,_=>rfl
 | d::l,n,ok,a=>by
  simp only [List.map_cons,List.nodup_cons] at a
  simp only [nP,vB]
  by_cases h:d.name=name
  ·rw [if_pos h,if_pos h,sC name l _ _ a.2,y0d (by rw [<- h];exact a.1),y4y]
  ·rw [if_neg h,if_neg h,sC name l _ _ a.2]
theorem q8b (name:Bs):∀(l:List Data),(l.map Data.name).Nodup->(wL name l,kG name l)=match vB l name with | none=>(false,0) | some d=>(mQ name d.cons,1)
 | [],_=>rfl
 | d::l,b=>by
  simp only [List.map_cons,List.nodup_cons] at b
  have a:=q8b name l b.2
  simp only [wL,kG,vB] at a ⊢
  by_cases h:d.name=name
  ·rw [y0d (by rw [<- h];exact b.1)] at a
   simp only [Prod.mk.injEq] at a
   simp only [List.any_cons,List.filter_cons,h,decide_true,Bool.true_and,if_true,a.1,Bool.or_false,lcQ,a.2]
  ·simp only [List.any_cons,List.filter_cons,h,decide_false,Bool.false_and,Bool.false_or,Bool.false_eq_true,if_false]
   exact a
theorem uR {ds:List Data} (b:(ds.map Data.name).Nodup) (c:∀d∈ds,d.name≠kV) (name:Bs):xM ds name=vI ds name:=by
 unfold xM vI
 by_cases h:name=yU
 ·rw [if_pos h,if_pos h]
 ·rw [if_neg h,if_neg h]
  have h1:=q8b name ds b
  rw [sC name ds 0 true b]
  cases a:vB ds name with
  | none=>
   rw [a] at h1;simp only [Prod.mk.injEq] at h1
   rw [h1.2];simp
  | some d=>
   rw [a] at h1;simp only [Prod.mk.injEq] at h1
   obtain ⟨e,f⟩:=cK a
   have:name≠kV:=f▸c d e
   rw [h1.1,h1.2]
   simp only [this,decide_false,Bool.not_false,Bool.and_true,decide_true,Bool.true_and]
   rw [show IntKind.i64.wrap (0+1)=1 by decide];simp
structure Decl (c:Core):Prop where
 tab:Tabled c
 fd:∀d∈c.datas,∀x∈d.cons,∀f∈x.fields,jZ c.datas f=true
 it:∀p∈c.inputs,xM c.datas p.type=true
 fp:∀f∈c.funs,(∀p∈f.params,jZ c.datas p.type=true)/\jZ c.datas f.result=true
theorem y9v {c:Core} (h:Tabled c) {t:Bs} {d:Data} (g:qR c.datas t=some d):t≠sNo:=by
 rintro rfl
 rw [y9u] at g
 obtain ⟨h1,a⟩:=cK g
 rcases List.mem_cons.1 h1 with rfl | h1
 ·revert a;decide
 ·have:=(h.dN d h1).1;rw [a,z6h] at this;cases this
theorem z7n {c:Core} (h:Tabled c) {t:Bs} (g:jZ c.datas t=true):t≠sNo:=by
 simp only [jZ,Bool.or_eq_true,decide_eq_true_eq] at g
 rcases g with g | g
 ·cases a:qR c.datas t with
  | none=>rw [a] at g;cases g
  | some d=>exact y9v h a
 ·rw [g];decide
theorem q0w {c:Core} (h:Tabled c) (n:Bs):wI (yK c) n=jZ c.datas n:=by
 unfold wI jZ
 rw [(z0k (z9l h)).2.1,z4j]
theorem fit_of {c:Core} (h:Decl c):Fit (yK c) c:=by
 obtain ⟨_,p,t2,t3,t4⟩:=z0k (z9l h.tab)
 have a:∀n,zK (yK c).datas n=qR c.datas n:=fun n=>by rw [p,z4j]
 have k:∀n,zK (yK c).cons n=nU c.datas n:=fun n=>by rw [t2,y0n];rfl
 have b:∀d∈truthsD::c.datas,d.name≠sNo/\0 < d.cons.length/\∀x∈d.cons,∀f∈x.fields,f≠sNo:=fun d a=>by
  rcases List.mem_cons.1 a with rfl | a
  ·refine ⟨by decide,by decide,fun x i f j=>?_⟩
   simp only [truthsD,List.mem_cons,List.not_mem_nil,or_false] at i
   rcases i with rfl | rfl <;> cases j
  ·refine ⟨fun e=>?_,(h.tab.dN d a).2.2.2.1,fun x i f j=>z7n h.tab (h.fd d a x i f j)⟩
   have:=(h.tab.dN d a).1;rw [e,z6h] at this;cases this
 refine ⟨a,k,fun n=>by rw [t3];exact (q0l c.funs n).symm,fun n=>by rw [t4,q7o],?_,fun n d g=>?_,fun n m g=>?_,fun n f g=>?_,fun n t g=>?_⟩
 ·rw [a]
  cases g:qR c.datas sNo with
  | none=>rfl
  | some d=>exact absurd rfl (y9v h.tab g)
 ·rw [a,y9u] at g;exact (b d (cK g).1).2
 ·rw [k] at g
  obtain ⟨d,a,e,_⟩:=y0o g
  rw [<- e];exact (b d a).1
 ·rw [t3] at g
  obtain ⟨x,i,_,rfl⟩:=vL g
  exact z7n h.tab (h.fp x i).2
 ·rw [t4] at g
  obtain ⟨x,i,_,rfl⟩:=vL g
  have:=h.it x i
  rw [uR h.tab.dU (fun d a=>(h.tab.dN d a).2.2.1)] at this
  unfold vI at this
  split at this
  ·rename_i e;rw [e];decide
  ·rw [sC _ _ _ _ h.tab.dU] at this
   cases a:vB c.datas x.type with
   | none=>rw [a] at this;simp at this
   | some d=>
    obtain ⟨l,o⟩:=cK a
    rw [<- o];exact (b d (mcQ _ l)).1
theorem q1l:z3x=yQ:=funext x7f
theorem apartR_iff {l:List Bs}:cJ l=true↔l.Nodup/\∀n∈l,yQ n=true:=by
 unfold cJ
 rw [q1l]
 exact ⟨fun h=>⟨(pC h).1,(pC h).2.2⟩,fun h=>y9h h.1 (fun n _ N=>by cases N) h.2⟩
theorem z2u (l:List Bs):cJ l=pT yQ [] l:=by unfold cJ;rw [q1l]
theorem declR {c:Core} (h:kA c=true):Decl c:=by
 simp only [kA,baQ,decide_eq_true_eq,List.all_eq_true,kP] at h
 obtain ⟨⟨⟨⟨⟨⟨⟨⟨h1,u⟩,m⟩,n⟩,j⟩,o⟩,v⟩,w⟩,y⟩:=h
 obtain ⟨d1,d2,d3⟩:=(z4k c.datas).1 h1
 obtain ⟨q,i2⟩:=apartR_iff.1 n
 obtain ⟨k,l⟩:=apartR_iff.1 o
 refine ⟨{ dN:=fun d b=>?_,dU:=d2,cU:=d3,fN:=fun f a=>l _ (List.mem_map_of_mem a),fU:=k,iN:=fun p e=>i2 _ (List.mem_map_of_mem e),iU:=q },fun d b x g f a=>?_,m,fun f a=>⟨fun p e=>(j f a).1.1 p e,(j f a).1.2⟩⟩
 ·obtain ⟨r,i,s,t⟩:=d1 d b
  simp only [List.mem_cons,List.not_mem_nil,or_false,not_or] at i
  refine ⟨r,i.1,i.2,s,fun x g=>?_⟩
  obtain ⟨m1,m2,_⟩:=t x g
  simp only [List.mem_cons,List.not_mem_nil,or_false,not_or] at m2
  exact ⟨m1,m2⟩
 ·exact List.all_eq_true.1 ((d1 d b).2.2.2 x g).2.2 f a
theorem declP {c:Core} (h:jD c=true):Decl c:=by
 simp only [jD,baQ,decide_eq_true_eq,List.all_eq_true,nI,aT] at h
 obtain ⟨⟨⟨⟨⟨h1,m⟩,j⟩,k⟩,i⟩,n⟩:=h
 have b:=(z0k h1).1
 have J:=q0w b
 refine ⟨b,fun d e x l f a=>J f▸j d e x l f a,fun p g=>?_,fun f a=>⟨fun p g=>J p.type▸(i f a).1.1.1 p g,J f.result▸(i f a).1.1.2⟩⟩
 rw [uR b.dU (fun d e=>(b.dN d e).2.2.1)]
 exact k p g
theorem y6r {T:Table}:∀{os seen:List Bs},nE T seen os=true↔os.Nodup/\(∀o∈os,o∉seen)/\∀o∈os,∃f,zK T.funs o=some f/\f.params.length=0
 | [],seen=>by simp [nE]
 | o::os,seen=>by
  simp only [nE]
  cases e:zK T.funs o with
  | none=>exact ⟨fun g=>(by cases g),fun g=>by obtain ⟨f,h1,_⟩:=g.2.2 o msQ;rw [e] at h1;cases h1⟩
  | some f=>
   simp only [baQ,decide_eq_true_eq,y6r (os:=os),Bool.not_eq_true',List.nodup_cons]
   have O:has seen o=false↔o∉seen:=by rw [<- has_mem (l:=seen)];simp
   rw [O]
   constructor
   ·rintro ⟨⟨h1,d⟩,c,b,i⟩
    refine ⟨⟨fun N=>b o N (by simp),c⟩,fun p a=>?_,fun p a=>?_⟩
    ·rcases List.mem_cons.1 a with rfl | a
     ·exact d
     ·exact fun g=>b p a (by simp [g])
    ·rcases List.mem_cons.1 a with rfl | a
     ·exact ⟨f,e,h1⟩
     ·exact i p a
   ·rintro ⟨⟨h1,d⟩,c,b⟩
    obtain ⟨f',h,j⟩:=b o msQ
    rw [e] at h;cases h
    refine ⟨⟨j,c o msQ⟩,d,fun p a N=>?_,fun p a=>b p (mcQ _ a)⟩
    rcases List.mem_append.1 N with g | g
    ·exact c p (mcQ _ a) g
    ·simp only [List.mem_cons,List.not_mem_nil,or_false] at g;subst g;exact h1 a
theorem y8l:∀(ps:List Param),jR (ps.map Param.name) (ps.map Param.type)=ps
 | []=>rfl
 | p::ps=>by
  have:=y8l ps
  simp only [jR] at this ⊢
  simp only [List.map_cons,List.zip_cons_cons];rw [this]
theorem j3i {c:Core} (h:Tabled c) {ps:List Param} (a:∀p∈ps,jZ c.datas p.type=true):Rel (sW ps) ps:=by
 have b:Rel [] []:=⟨fun n=>rfl,fun p a=>by cases a⟩
 have:=b.putAll (vs:=ps.map Param.name) (fs:=ps.map Param.type) (fun f d=>by
  obtain ⟨p,N,rfl⟩:=List.mem_map.1 d
  exact z7n h (a p N))
 rw [y8l,List.nil_append,<- z3l] at this
 exact this
theorem q0o {c:Core} (h:Decl c) {ps:List Param} {e:Ex} (d:∀p∈ps,jZ c.datas p.type=true) (a:(ps.map Param.name++zN e).Nodup):Alk (zI (yK c) e (sW ps)).1 (zS c e ps):=by
 have ha':=qH a
 refine rt_ok (fit_of h) (e.sz+1) e (by omega) _ _ (j3i h.tab d) ha'.2.1 (fun n b=>?_)
 rw [z3l,nY (fun N=>ha'.2.2 n N b)];rfl
theorem q8o {c:Core} (h:Decl c) {o:Bs}:y2h c.funs o=true↔∃f,zK (yK c).funs o=some f/\f.params.length=0:=by
 rw [(fit_of h).fs]
 unfold y2h
 cases nH c.funs o with
 | none=>simp
 | some i=>
  cases a:c.funs[i]? with
  | none=>simp [a]
  | some f=>simp [a]
theorem x8c (c:Core):kA c=jD c:=by
 have key:Decl c->(kA c=true↔jD c=true):=fun h=>by
  have w:=z9l h.tab
  have J:=q0w h.tab
  have B:z2v c.datas=true:=by
   refine (z4k c.datas).2 ⟨fun d k=>?_,h.tab.dU,h.tab.cU⟩
   obtain ⟨C,D,E,F,y⟩:=h.tab.dN d k
   refine ⟨C,by simp [D,E],F,fun x i=>⟨(y x i).1,by simp [(y x i).2],List.all_eq_true.2 (h.fd d k x i)⟩⟩
  simp only [kA,jD,baQ,decide_eq_true_eq,List.all_eq_true,kP,nI,aT,w,B,true_and,J,mI,z2u,y6r]
  constructor
  ·rintro ⟨⟨⟨⟨⟨⟨⟨j,s⟩,z⟩,b⟩,t⟩,u⟩,l⟩,A⟩
   refine ⟨⟨⟨⟨fun e=>j (by rw [e];rfl),fun d k x i f a=>h.fd d k x i f a⟩,fun p q=>?_⟩,fun f a=>⟨(b f a),?_⟩⟩,(pC u).1,fun o _ N=>(by cases N),fun o r=>(q8o h).1 (A o r)⟩
   ·rw [<- uR h.tab.dU (fun d k=>(h.tab.dN d k).2.2.1)];exact s p q
   ·have:=(q0o h (b f a).1.1 (pC (b f a).2).1).1 (l f a).1
    rw [this.1];exact (l f a).2
  ·rintro ⟨⟨⟨⟨j,s⟩,z⟩,b⟩,t,u,l⟩
   refine ⟨⟨⟨⟨⟨⟨⟨fun e=>j (List.eq_nil_of_length_eq_zero e),h.it⟩,?_⟩,fun f a=>(b f a).1⟩,?_⟩,?_⟩,fun f a=>?_⟩,fun o r=>(q8o h).2 (l o r)⟩
   ·rw [<- z2u];exact apartR_iff.2 ⟨h.tab.iU,fun n m=>by obtain ⟨p,q,rfl⟩:=List.mem_map.1 m;exact h.tab.iN p q⟩
   ·rw [<- z2u];exact apartR_iff.2 ⟨h.tab.fU,fun n m=>by obtain ⟨p,q,rfl⟩:=List.mem_map.1 m;exact h.tab.fN p q⟩
   ·rw [<- z2u];refine apartR_iff.2 ⟨t,fun n m=>?_⟩
    obtain ⟨f,a,_⟩:=l n m
    rw [(z0k w).2.2.2.1] at a
    obtain ⟨x,i,e,_⟩:=vL a
    rw [<- e];exact h.tab.fN x i
   ·have v:=q0o h (b f a).1.1.1 (pC (b f a).1.2).1
    have hr:=z7n h.tab (h.fp f a).2
    have e:=(b f a).2
    cases g:(zS c f.body f.params).2 with
    | true=>exact ⟨rfl,by rw [<- (v.1 g).1];exact e⟩
    | false=>rw [v.2 g] at e;exact absurd e.symm hr
 cases h1:kA c with
 | true=>exact ((key (declR h1)).1 h1).symm
 | false=>
  cases j:jD c with
  | true=>rw [(key (declP j)).2 j] at h1;cases h1
  | false=>rfl
theorem x3k (c:Core):uL c=yG c:=by unfold uL yG;rw [q8a,x8c]
section
variable {n r:Nat} {es:Edges} {l:List Nat} {o:List Int}
theorem y0y:∀(g r:Nat) (o:List Int),(nQ es g r o).length=o.length
 | 0,_,_=>rfl
 | g+1,r,o=>by
  simp only [nQ];split
  rw [y0y g (r+1),z0h]
  rw [z0h]
theorem z2h:(nR n es l).length=n:=by rw [nR,y0y,z5g]
end
def oG (ns:List Bs) (o:List Int) (i:Nat):List Bs:=(List.range i).filterMap fun k=>if 0<=o.getD k 0 then ns[k]? else none
section
variable {ns:List Bs} {o:List Int} {i:Nat} {x:Int} {s:Bs}
theorem x7u (a:o[i]? = some x) (h:0<=x) (O:ns[i]? = some s):oG ns o (i+1)=oG ns o i++[s]:=by
 rw [oG,List.range_succ,List.filterMap_append,oG]
 simp only [List.filterMap_cons,sB a,h,if_true,O,List.filterMap_nil]
theorem pick_no (a:o[i]? = some x) (h:¬0<=x):oG ns o (i+1)=oG ns o i:=by
 rw [oG,List.range_succ,List.filterMap_append,oG]
 simp only [List.filterMap_cons,sB a,h,if_false,List.filterMap_nil,List.append_nil]
theorem x7t:(oG ns o i).length<=i:=by
 have:=List.length_filterMap_le (fun k=>if 0<=o.getD k 0 then ns[k]? else none) (List.range i)
 rw [List.length_range] at this;exact this
theorem y0w {p:Bs->Bool} (h:∀(i:Nat) s,ns[i]? = some s->(0<=o.getD i 0↔p s=true)):∀i,i<=ns.length->oG ns o i=(ns.take i).filter p
 | 0,_=>rfl
 | i+1,d=>by
  obtain ⟨s,O⟩:=zZ (l:=ns) (i:=i) (by omega)
  rw [oG,List.range_succ,List.filterMap_append,jM O,List.filter_append,<- y0w h i (by omega),oG]
  congr 1
  by_cases a:p s=true
  simp only [List.filterMap_cons,(h i s O).2 a,if_true,O,List.filterMap_nil,List.filter_cons,a,List.filter_nil]
  have c:¬0<=o.getD i 0:=fun b=>a ((h i s O).1 b)
  simp only [List.filterMap_cons,c,if_false,List.filterMap_nil,List.filter_cons,a,List.filter_nil];simp
end
def y7h (g:GrD) (l:List Nat):List Bs:=oG g.nodes (nR g.nodes.length (g.fr.zip g.to) l) g.nodes.length
theorem q9e {Φ:Fz} {K:List Res} {w:World} {dg:List Value} {b:GrD} {vf:Value} {l:List Nat} (rg:RGr Φ dg b) (rf:SliceOf RNat Φ 1 vf l) (hl:∀x∈l,x < b.nodes.length) (B:b.fr.length=b.to.length) (A:∀x∈b.fr,x < b.nodes.length) (E:∀x∈b.to,x < b.nodes.length) (hN:b.nodes.length<=1000000000) (N:Mem Φ K w) :
  Calls prog 45 #[.agg dg.toArray,vf] w (fun ee w'=>∃v:Value,ee=.returned v/\True/\Mem Φ (.gs v 9 1 (strs (y7h b l))::K) w'):=by
 have t:=rg
 obtain ⟨s1,s7,k0,rfl,H,h8,z⟩:=id rg
 obtain ⟨p3,c4,rfl,f0,D⟩:=H.fm
 obtain ⟨p9,Y,rfl,P,T⟩:=h8.fm
 obtain ⟨g0,Z,rfl,S,U⟩:=z.fm
 obtain ⟨h0,c20,rfl,C,V⟩:=rf.fm
 refine zL func45 ntmps45 fun Q hQ a J=>?_
 refine Bx fun X w N a J=>?_
 refine yO call52 (fun m0 w I N a J=>?_) (c:=q1z t rf hl B A E hN N)
 obtain ⟨i0,a0,rfl⟩:=tF (m:=b.nodes.length) N (i:=0) rfl (by rw [wY,z2h,Nat.mul_one]) (by decide)
 replace N:=N.nf
 refine go fun a J=>?_
 replace N:=N.nilRow 9 1
 replace N:=N.nf
 refine go fun a J=>?_
 refine zU (J.ks [2,5]) N (fun R mm a w=>∃(d:Nat) (u:Value) (m:List Bs),mm=b.nodes.length - d/\R Φ [(6,u),(7,.int .i64 d)] [(0,.gs (u) 9 1 (strs m))] a w/\(m=oG b.nodes (nR b.nodes.length (b.fr.zip b.to) l) d/\d<=b.nodes.length)) (b.nodes.length - 0) ⟨0,.slice none 0 0,[],rfl,⟨J.pk,N⟩,⟨rfl,Nat.zero_le _⟩⟩ ?_
 clear N J
 rintro mm a w ⟨d,u,m,q,⟨J,N⟩,n⟩ W g
 replace N:=N.nf
 obtain ⟨f,e0⟩:=n
 by_cases j:d < b.nodes.length
 refine go fun a J=>?_
 obtain ⟨F,h⟩:=N.toSees.gsSome (i:=1) rfl j
 obtain ⟨G,e⟩:=zZ (l:=(nR b.nodes.length (b.fr.zip b.to) l)) (i:=d) (by rw [z2h];omega)
 refine Qq (fun a J=>?_) (o:=by exact fun J O=>qX (p:=F) d J (by rw [<- h];rfl) rfl runUnderlying84 sizeOf3 j)
 refine Qq (fun a J=>?_) (o:=by exact fun J O=>pR 1 d J O rfl (by rw [<- h];rfl) (z1s e) isAgg3)
 by_cases b0:0<=G
 refine go fun a J=>?_
 obtain ⟨j0,rfl,y,s,k,M,L,r⟩:=H.el D j
 obtain rfl:k=[.string y]:=r
 refine jQ fun l0 w N a J=>?_
 refine vH 1 xQ (fun v53 w N a J=>?_) (hb:=by have h_:=x7t (ns:=b.nodes) (o:=(nR b.nodes.length (b.fr.zip b.to) l)) (i:=d);rw [<- f] at h_;rw [zR];simp only [lcQ,lnQ];omega)
 rw [cS] at N
 refine go fun a J=>?_
 replace N:=N.dl [0]
 refine g _ _ _ (by subst q;omega) ⟨(d+1),(v53),((m++[y])),rfl,⟨J.pk,N⟩,?_⟩
 exact ⟨by rw [f,x7u e (by assumption) s],by omega⟩
 refine go fun a J=>?_
 refine g _ _ _ (by subst q;omega) ⟨(d+1),(u),(m),rfl,⟨J.pk,N⟩,?_⟩
 exact ⟨by rw [f,pick_no e (by assumption)],by omega⟩
 refine zD ?_
 replace N:=N.dl [2,1]
 rw [f,show d=b.nodes.length by omega] at N;exact ⟨_,rfl,trivial,N⟩
section
variable {c:Core} {l:List Bs}
theorem z6f (h:GOk (zC c) (zQ c)):(jH c).fr.length=(jH c).to.length/\(∀x∈(jH c).fr,x < (jH c).nodes.length)/\∀x∈(jH c).to,x < (jH c).nodes.length:=by
 refine ⟨by simp [jH],fun x b=>?_,fun x b=>?_⟩
 obtain ⟨f,a,rfl⟩:=List.mem_map.1 b;exact cO (h.ends f.1 f.2 a).1
 obtain ⟨f,a,rfl⟩:=List.mem_map.1 b;exact cO (h.ends f.1 f.2 a).2
theorem q9a (h:GOk (zC c) (zQ c)):List.range c.inputs.length=(zV c).map (qC (zC c)):=by
 apply List.ext_getElem?;intro i
 rw [List.getElem?_map,zV,List.getElem?_map]
 by_cases a:i < c.inputs.length
 obtain ⟨p,b⟩:=zZ a
 rw [List.getElem?_range a,b]
 simp only [Option.map_some]
 rw [mS h.nd (sH b)]
 rw [List.getElem?_eq_none (by rw [List.length_range];omega),List.getElem?_eq_none (l:=c.inputs) (by omega)];rfl
theorem y7i (h:GOk (zC c) (zQ c)) (hl:∀r∈l,r∈zC c):y7h (jH c) (l.map (qC (zC c)))=wC (zC c) (yV (qK (zQ c)) l):=by
 show oG (zC c) (nR (zC c).length ((jH c).fr.zip (jH c).to) _) (zC c).length=_
 rw [z6e,y0w (p:=fun n=>(zK (yV (qK (zQ c)) l) n).isSome) (fun i s O=>?_) _ (Nat.le_refl _),List.take_length]
 rfl
 rw [y7p h hl O,<- z3k]
theorem q9l (h:GOk (zC c) (zQ c)) (hl:∀r∈l,r∈zC c):∀x∈l.map (qC (zC c)),x < (jH c).nodes.length:=fun x a=>by
 obtain ⟨r,hr,rfl⟩:=List.mem_map.1 a;exact cO (hl r hr)
theorem okF_all (d:Right c) (b:LOk c) (hl:xN c=false):∀f∈c.funs,okF c f.body:=fun f a=>by
 exact ⟨okR_of (z8n d a).ty,(b.fl f a).1,z4v hl a⟩
end
theorem x0j {c:Core} (h:yG c=0):xN c=false:=by
 unfold yG at h
 split at h
 cases h
 split at h
 cases h
 rename_i h1;simpa using h1
theorem y6q {c:Core} (h:yG c=0):∀f∈c.funs,okF c f.body:=okF_all (oC h) (qN h) (x0j h)
section
variable {Φ:Fz} {K:List Res} {w:World}
theorem y5i {d0:List Value} {c:Core} (b:yG c=0) (a:RCore Φ d0 c) (N:Mem Φ K w) :
  Calls prog 47 #[.agg d0.toArray] w (fun ee w'=>∃v:Value,ee=.returned v/\True/\Mem Φ (.gs v 3 1 (nats ((zV c).map (qC (zC c))))::K) w'):=by
 rw [<- q9a (qN b).gok];exact j1z a (qN b).il N
theorem q9d {dg:List Value} {a:GrD} {vf:Value} {l:List Nat} (rg:RGr Φ dg a) (hl:∀x∈l,x < a.nodes.length) (c:a.fr.length=a.to.length) (b:∀x∈a.fr,x < a.nodes.length) (d:∀x∈a.to,x < a.nodes.length) (k:a.nodes.length<=1000000000) (N:Mem Φ (.gs vf 3 1 (nats l)::K) w) :
  Calls prog 45 #[.agg dg.toArray,vf] w (fun ee w'=>∃v:Value,ee=.returned v/\True/\Mem Φ (.gs v 9 1 (strs (y7h a l))::K) w'):=by
 obtain ⟨Ψ,h1,e,f,_⟩:=N.freezeRowT (i:=0) rfl
 exact (q9e (rg.mono _ _ _ _ h1) (SliceOf.nats.2 f) hl c b d k e).mono fun ee w' h=>let ⟨v,g,_,j⟩:=h;⟨v,g,trivial,j.le h1⟩
theorem q9c {dg:List Value} {c:Core} {vf:Value} {l:List Bs} (b:yG c=0) (rg:RGr Φ dg (jH c)) (hl:∀r∈l,r∈zC c) (N:Mem Φ (.gs vf 3 1 (nats (l.map (qC (zC c))))::K) w) :
  Calls prog 45 #[.agg dg.toArray,vf] w (fun ee w'=>∃v:Value,ee=.returned v/\True/\Mem Φ (.gs v 9 1 (strs (wC (zC c) (yV (qK (zQ c)) l)))::K) w'):=by
 have a:=(qN b).gok
 obtain ⟨d,e,f⟩:=z6f a
 rw [<- y7i a hl]
 exact q9d rg (q9l a hl) d e f (qN b).nl N
theorem x2a {d0:List Value} {c:Core} (j:RCore Φ d0 c) (o:∀v,d0[3]? = some v->Cap v) (N:Mem Φ K w) :
  Calls prog 19 #[.agg d0.toArray] w (fun ee w'=>Out (dT c) (fun l=>∃y:Value,ee=.returned (.tuple #[y,.int .i64 0])/\True/\Mem Φ (.gs y 9 1 (strs l)::K) w') (fun e=>ee=.returned (.tuple #[.slice none 0 0,.int .i64 e])/\Mem Φ K w')):=by
 have b:=j
 obtain ⟨p3,c4,p9,P,Z,R,a0,c22,rfl,h2,h8,V,W,X,Y,t,D,u,E,z,F⟩:=RCore.fm j
 refine zL func19 ntmps19 fun Q hQ a J=>?_
 refine Bx fun M w N a J=>?_
 refine zT call44 (fun w N a J=>?_) (c:=x3k c▸j1i b o N)
 by_cases d:(yG c)=0
 refine go fun a J=>?_
 refine yI [2,0,2,0,0,1,1] (.q 0 (.q 2 (.e 1 (.e 3 (.e 4 (.q 5 (.q 6 (.done)))))))) [0] J N fun w N=>?_
 refine yO call46 (fun p w i N a J=>?_) (c:=z8o b (oC d) (qN d) (y6q d) N)
 obtain ⟨L,U⟩:=p
 obtain ⟨g,f⟩:=i
 simp only at g f N J
 replace b:=RCore.mono _ _ _ _ g b
 replace N:=N.nf
 have h:=f
 obtain ⟨f0,g0,h0,rfl,k,m,n⟩:=id f
 obtain ⟨b0,S,rfl,A,G⟩:=k.fm
 obtain ⟨c0,T,rfl,B,H⟩:=m.fm
 obtain ⟨e0,c53,rfl,C,I⟩:=n.fm
 refine yO call47 (fun i0 w r N a J=>?_) (c:=y5i d b N)
 refine yO call45 (fun j0 w s N a J=>?_) (c:=q9c (l:=(zV c)) d h (dF) N)
 refine jB ?_
 replace N:=N.dl [1]
 replace N:=N.le (g)
 rw [dT,if_pos d];exact ⟨_,rfl,trivial,N⟩
 refine jB ?_
 replace N:=N.dl [0]
 rw [dT,if_neg d];exact ⟨rfl,N⟩
end
section
variable {ns l:List Bs} {x s:Bs} {i j k:Nat} {c:Core}
theorem ix_neg (h:ixG x ns 0 < 0):¬x∈ns:=fun a=>by rw [uS a] at h;omega
theorem ix_pos (h:¬ixG x ns 0 < 0):x∈ns:=Classical.byContradiction fun a=>h (by rw [y2u a];decide)
theorem fr_at (h:GOk (zC c) (zQ c)) (a:(jH c).fr[k]? = some j):∃f,(zQ c)[k]? = some f/\(zC c)[j]? = some f.1:=by
 simp only [jH,List.getElem?_map] at a
 cases b:(zQ c)[k]? with
 | none=>rw [b] at a;cases a
 | some f=>rw [b] at a;cases a;exact ⟨f,rfl,xC (h.ends f.1 f.2 (mgQ b)).1⟩
theorem to_at (h:GOk (zC c) (zQ c)) (a:(jH c).to[k]? = some j):∃f,(zQ c)[k]? = some f/\(zC c)[j]? = some f.2:=by
 simp only [jH,List.getElem?_map] at a
 cases b:(zQ c)[k]? with
 | none=>rw [b] at a;cases a
 | some f=>rw [b] at a;cases a;exact ⟨f,rfl,xC (h.ends f.1 f.2 (mgQ b)).2⟩
end
theorem x1z {c:Core} {x:List Bs} (h:dT c=.ok x):yG c=0/\x=solP c:=by
 unfold dT at h;split at h
 cases h;exact ⟨by assumption,rfl⟩
 cases h
theorem q9w {c:Core} {e:Int} (h:dT c=.error e):¬yG c=0/\yG c=e:=by
 unfold dT at h;split at h
 cases h
 cases h;exact ⟨by assumption,rfl⟩
section
variable {Φ:Fz} {K:List Res} {w:World} {d0:List Value} {c:Core} {n:Bs}
end
section
variable {c:Core} {n x:Bs} {k a:Nat} {p:Param}
end
section
variable {c:Core} {a b l:List Bs} {s x:Bs} {i:Nat}
theorem gok (a:yG c=0):GOk (zC c) (zQ c):=(qN a).gok
end
section
variable {c:Core} {n x y:Bs} {p:List Bs} {i:Nat}
end
section
variable {Φ:Fz} {K:List Res} {w:World} {d0:List Value} {c:Core} {n:Bs} {v:Value} {p:List Bs}
theorem PathOk.cp {nx:Next} {rs:List Bs} (h:PathOk nx rs n p):z5q nx rs n p:=by
 refine ⟨⟨p,h,rfl⟩,?_,let ⟨_,_,_,b,_⟩:=h;b,let ⟨_,_,a,_⟩:=h;a⟩
 obtain ⟨q,rfl,_⟩:=h
 simp
end
section
variable {c:Core} {la lb:List Bs} {x:Bs} {i:Nat}
variable {Φ:Fz} {K:List Res} {w:World} {d0:List Value} {v:Value}
end
section
variable {Φ:Fz} {K:List Res} {w:World}
theorem j9s {v:Value} {l:List Bs} {s:Bs} (N:Mem Φ (.gs v 9 1 (strs l)::K) w) :
  Calls prog 49 #[v,.string s] w (fun ee w'=>ee=.returned (.int .i64 (ixG s l 0))/\Mem Φ (.gs v 9 1 (strs l)::K) w'):=by
 obtain ⟨Ψ,_,a,b,c⟩:=N.freezeRowT (i:=0) rfl
 exact (gN (SliceOf.strs.2 b) a).mono fun ee w' h=>⟨h.1,c _ _ h.2⟩
theorem x6e {c:Core} {v:Value} {s:Bs} (a:yG c=0) (O:s∈zC c) (N:Mem Φ (.gs v 9 1 (strs (solP c))::K) w) :
  Calls prog 18 #[v,.string s] w (fun ee w'=>ee=.returned (.bool (zK (yV (qK (zQ c)) (zV c)) s).isSome)/\Mem Φ (.gs v 9 1 (strs (solP c))::K) w'):=by
 have e:(zK (yV (qK (zQ c)) (zV c)) s).isSome=dA (solP c) s:=by
  have h1:dA (solP c) s=true↔(zK (yV (qK (zQ c)) (zV c)) s).isSome=true:=by rw [hasB_mem,solP,x0m];exact ⟨fun h=>h.2,fun h=>⟨O,h⟩⟩
  exact (Bool.eq_iff_iff.2 h1).symm
 rw [e];exact y2t N
def y0f:Except Int Unit->Int
 | .ok _=>0
 | .error e=>e
theorem x0v {c:Core} {n:Bs} (a:yG c=0) (h:ixG n (zC c) 0 < 0):kC c n=.error 110:=q8f a (ix_neg h)
theorem x0w {c:Core} {n:Bs} (a:yG c=0) (h:¬ixG n (zC c) 0 < 0):kC c n=.ok ():=nJ a (ix_pos h)
theorem mD {d0:List Value} {c:Core} {n:Bs} (h:RCore Φ d0 c) (i:∀v,d0[3]? = some v->Cap v) (N:Mem Φ K w) :
  Calls prog 25 #[.agg d0.toArray,.string n] w (fun ee w'=>Out (kC c n) (fun _=>∃_y:Unit,ee=.returned (.tuple #[.bool (zK (yV (qK (zQ c)) (zV c)) n).isSome,.int .i64 0])/\True/\Mem Φ K w') (fun e=>ee=.returned (.tuple #[.bool false,.int .i64 e])/\Mem Φ K w')):=by
 have d:=h
 obtain ⟨R,c4,S,A,G,B,H,c22,rfl,M,P,C,D,E,F,q,t,r,u,s,y⟩:=RCore.fm h
 refine zL func25 ntmps25 fun Q hQ a J=>?_
 refine Bx fun z w N a J=>?_
 refine go fun a J=>?_
 refine st J rfl rfl rfl (xU J rfl call19 (x2a d i N) (fun k I w b m N a J=>?_) (fun k w b N a J=>?_))
 obtain ⟨f,rfl⟩:=x1z b
 replace N:=N.nf
 refine Qq (fun a J=>?_) (o:=by exact fun J O=>nF false J rfl rfl rfl)
 refine yO call50 (fun L w p N a J=>?_) (c:=q1t d (qN f).tidy (qN f).nl N)
 refine zT call49 (fun w N a J=>?_) (c:=j9s (l:=(zC c)) N)
 by_cases g:(ixG n (zC c) 0) < 0
 refine jB ?_
 replace N:=N.dl [2,1,0]
 rw [x0v f g];exact ⟨rfl,N⟩
 replace N:=N.pl 1
 refine zT call18 (fun w N a J=>?_) (c:=x6e f (ix_pos (by assumption)) N)
 refine jB ?_
 replace N:=N.dl [2,1,0]
 rw [x0w f g];exact ⟨(),rfl,trivial,N⟩
 obtain ⟨j,rfl⟩:=q9w b
 refine jB ?_
 replace N:=N.dl [0]
 rw [q1s j];exact ⟨rfl,N⟩
theorem uJ {d0:List Value} {c:Core} {n:Bs} (g:RCore Φ d0 c) (i:∀v,d0[3]? = some v->Cap v) (N:Mem Φ K w) :
  Calls prog 28 #[.agg d0.toArray,.string n] w (fun ee w'=>ee=.returned (.int .i64 (y0f (mB c n)))/\Mem Φ K w'):=by
 have e:=g
 obtain ⟨P,c4,R,A,G,B,H,c22,rfl,L,M,C,D,E,F,p,s,q,t,r,u⟩:=RCore.fm g
 refine zL func28 ntmps28 fun Q hQ a J=>?_
 refine Bx fun z w N a J=>?_
 refine go fun a J=>?_
 refine st J rfl rfl rfl (xU J rfl call25 (mD e i N) (fun k I w b l N a J=>?_) (fun k w b N a J=>?_))
 obtain ⟨h,d⟩:=oE b
 have y:kC c n=.ok ():=b
 refine Qq (fun a J=>?_) (o:=by exact fun J O=>vO true J rfl rfl rfl)
 refine go fun a J=>?_
 generalize m:(!(zK (yV (qK (zQ c)) (zV c)) n).isSome)=f at J
 cases f
 refine zD ?_
 replace N:=N.dl [0]
 first | (rw [z2y h d ((Bool.not_eq_false' _).mp (by assumption))];exact ⟨rfl,N⟩) | (rw [z2x h d ((Bool.not_eq_true' _).mp (by assumption))];exact ⟨rfl,N⟩)
 refine zD ?_
 replace N:=N.dl [0]
 first | (rw [z2y h d ((Bool.not_eq_false' _).mp (by assumption))];exact ⟨rfl,N⟩) | (rw [z2x h d ((Bool.not_eq_true' _).mp (by assumption))];exact ⟨rfl,N⟩)
 have j:=nW b
 refine zD ?_
 replace N:=N.dl [0]
 first | (rw [mB,b];exact ⟨rfl,N⟩) | exact absurd (by assumption) j
def dY (c:Core) (l:List Bs):List Int:=nR (zC c).length (cM (zC c) (zQ c)) (l.map (qC (zC c)))
theorem z1i {c:Core} {l:List Bs}:(dY c l).length=(jH c).nodes.length:=z2h
theorem j5v {c:Core} {n:Bs} {p:Param} {x:Int} (b:yG c=0) (f:p∈c.inputs) (e:n∈zC c) (h:(dY c [inN p.name])[qC (zC c) n]? = some x):0<=x↔depP c n p=true:=by
 have d:=(qN b).gok
 have h1:=y7p d (l:=[inN p.name]) (fun r hr=>by rw [List.mem_singleton.1 hr];exact q4k f) (xC e)
 have a:(dY c [inN p.name]).getD (qC (zC c) n) 0=x:=sB h
 unfold dY at a
 rw [a] at h1
 rw [h1,depP,<- z3k]
theorem q1y {c:Core} {dg:List Value} {vf:Value} {l:List Bs} (a:yG c=0) (rg:RGr Φ dg (jH c)) (hl:∀r∈l,r∈zC c) (N:Mem Φ (.gs vf 3 1 (nats (l.map (qC (zC c))))::K) w) :
  Calls prog 52 #[.agg dg.toArray,vf] w (fun ee w'=>∃v:Value,ee=.returned v/\True/\Mem Φ (.gs v 3 1 (tH (dY c l))::K) w'):=by
 have b:=(qN a).gok
 obtain ⟨j,k,m⟩:=z6f b
 obtain ⟨Ψ,h1,d,e,_⟩:=N.freezeRowT (i:=0) rfl
 have h:=q1z (rg.mono _ _ _ _ h1) (SliceOf.nats.2 e) (q9l b hl) j k m (qN a).nl d
 rw [z6e] at h
 exact h.mono fun ee w' h=>let ⟨v,f,_,g⟩:=h;⟨v,f,trivial,g.le h1⟩
theorem x1l {c:Core} {dg:List Value} {vf:Value} {i:Nat} {p:Param} (a:yG c=0) (b:c.inputs[i]? = some p) (rg:RGr Φ dg (jH c)) (N:Mem Φ (.gs vf 3 1 [.int .i64 i]::K) w) :
  Calls prog 52 #[.agg dg.toArray,vf] w (fun ee w'=>∃v:Value,ee=.returned v/\True/\Mem Φ (.gs v 3 1 (tH (dY c [inN p.name]))::K) w'):=by
 have e:i=qC (zC c) (inN p.name):=(mS (qN a).gok.nd (sH b)).symm
 rw [e] at N
 exact q1y (l:=[inN p.name]) a rg (fun r hr=>by rw [List.mem_singleton.1 hr];exact q4k (mgQ b)) N
theorem y0e {d0:List Value} {c:Core} {n:Bs} (T:RCore Φ d0 c) (a0:∀v,d0[3]? = some v->Cap v) (N:Mem Φ K w) :
  Calls prog 27 #[.agg d0.toArray,.string n] w (fun ee w'=>Out (kC c n) (fun _=>∃y:Value,ee=.returned (.tuple #[y,.int .i64 0])/\True/\Mem Φ (.gs y 9 1 (strs (tD c n))::K) w') (fun e=>ee=.returned (.tuple #[.slice none 0 0,.int .i64 e])/\Mem Φ K w')):=by
 have d:=T
 obtain ⟨p3,c4,p9,F0,T0,G0,U0,c22,rfl,h2,Z,M0,N0,R0,S0,q0,L,r0,x0,s0,y0⟩:=RCore.fm T
 refine zL func27 ntmps27 fun Q hQ a J=>?_
 refine Bx fun D0 w N a J=>?_
 refine go fun a J=>?_
 refine st J rfl rfl rfl (xU J rfl call25 (mD d a0 N) (fun e0 e1 w f m0 N a J=>?_) (fun e0 w f N a J=>?_))
 obtain ⟨C,t⟩:=oE f
 have M:kC c n=.ok ():=f
 refine Qq (fun a J=>?_) (o:=by exact fun J O=>nF false J rfl rfl rfl)
 refine yO call46 (fun k0 w F N a J=>?_) (c:=z8o d (oC C) (qN C) (y6q C) N)
 obtain ⟨U,L0⟩:=k0
 obtain ⟨g,j⟩:=F
 simp only at g j N J
 replace Z:=Z.up g
 replace d:=RCore.mono _ _ _ _ g d
 replace N:=N.nf
 have D:=j
 obtain ⟨a1,b1,c1,rfl,E,W,X⟩:=id j
 obtain ⟨V0,H0,rfl,t0,z0⟩:=E.fm
 obtain ⟨W0,I0,rfl,u0,A0⟩:=W.fm
 obtain ⟨X0,J0,rfl,w0,B0⟩:=X.fm
 refine Alc fun E0 w N a J=>?_
 refine Sto 0 fun w N a J=>?_
 refine go fun a J=>?_
 replace N:=N.nilRow 9 1
 replace N:=N.nf
 have k:(qC (zC c) n) < (jH c).nodes.length:=cO t
 refine go fun a J=>?_
 refine zU (J.ks [1,2,8]) N (fun R mm a w=>∃(B:Nat) (u:Value) (m:List Bs),mm=c.inputs.length - B/\R U [(9,u),(10,.int .i64 B)] [(0,.gs (u) 9 1 (strs m))] a w/\(tD c n=m++z0w c n (c.inputs.drop B))) (c.inputs.length - 0) ⟨0,.slice none 0 0,[],rfl,⟨J.pk,N⟩,rfl⟩ ?_
 clear N J
 rintro mm a w ⟨B,u,m,I,⟨J,N⟩,G⟩ C0 z
 replace N:=N.nf
 have r:=G
 by_cases Y:B < c.inputs.length
 refine go fun a J=>?_
 obtain ⟨c0,b⟩:=zZ (l:=c.inputs) (i:=B) (by omega)
 refine yI [2,1,0,0,1,2,1,0,1,0,1] (.q 0 (.q 1 (.q 4 (.q 5 (.q 6 (.e 2 (.e 3 (.e 7 (.q 8 (.e 9 (.q 10 (.done)))))))))))) [1,2] J N fun w N=>?_
 refine jQ fun v70 w N a J=>?_
 refine yO call52 (fun f1 w n0 N a J=>?_) (c:=x1l C b D N)
 obtain ⟨Y0,K0,rfl⟩:=tF (m:=(jH c).nodes.length) N (i:=0) rfl (by rw [wY,z1i,Nat.mul_one]) (by decide)
 replace N:=N.nf
 refine zT call49 (fun w N a J=>?_) (c:=z3e (l:=(zC c)) t E N)
 obtain ⟨f0,A⟩:=N.toSees.gsSome (i:=0) rfl k
 obtain ⟨i0,s⟩:=zZ (l:=(dY c [inN c0.name])) (i:=(qC (zC c) n)) (by rw [z1i];exact k)
 refine Qq (fun a J=>?_) (o:=by exact fun J O=>qX (p:=f0) (qC (zC c) n) J (by rw [<- A];rfl) rfl runUnderlying84 sizeOf3 k)
 refine d_e J rfl rfl rfl (dO (pR 0 (qC (zC c) n) J N.toSees rfl (by rw [<- A];rfl) (z1s s) isAgg3) ⟨fun _=>N.sn (Fz.Le.refl _),fun a J=>?_⟩)
 by_cases P0:0<=i0
 refine go fun a J=>?_
 obtain ⟨Z0,rfl,j0,S,l0,p0,o0,P⟩:=Z.el L Y
 obtain rfl:=id P
 refine jQ fun d1 w N a J=>?_
 refine vH 2 xQ (fun g0 w N a J=>?_) (hb:=by have b0:=q6n c n;have O0:=(qN C).il;have V:=congrArg List.length r;rw [laQ] at V;rw [zR];simp only [lcQ,lnQ];omega)
 rw [cS] at N
 refine go fun a J=>?_
 replace N:=N.dl [1,0]
 refine z _ _ _ (by subst I;omega) ⟨(B+1),(g0),((m++[j0.name])),rfl,⟨J.pk,N⟩,?_⟩
 have h:=j5v C (mgQ b) t s
 have H:=Option.some.inj (b.symm.trans S)
 rw [r,y3x b (h.1 (by assumption)),H];simp
 refine go fun a J=>?_
 replace N:=N.dl [0]
 refine z _ _ _ (by subst I;omega) ⟨(B+1),(u),(m),rfl,⟨J.pk,N⟩,?_⟩
 have h:=j5v C (mgQ b) t s
 rw [r,j5w b (by rw [<- Bool.not_eq_true];exact fun hc=>absurd (h.2 hc) (by assumption))]
 refine jB ?_
 replace N:=N.dl [2,1]
 replace N:=N.le (g)
 rw [zB (by omega),show z0w c n []=[] from rfl,List.append_nil] at r
 rw [M,r];exact ⟨_,rfl,trivial,N⟩
 have b0:=nW f
 refine jB ?_
 replace N:=N.dl [0]
 rw [f];exact ⟨rfl,N⟩
end
section
variable {c:Core} {n x y:Bs} {p:List Bs} {d:Int} {i k:Nat}
theorem z8d (j:yG c=0) (m:n∈zC c) (h:(dY c (zV c))[qC (zC c) n]? = some d) :
  (∃k,sZ (qK (zQ c)) (zV c) k n/\d=((k:Nat):Int)/\k<=(zC c).length)∨((∀k,¬sZ (qK (zQ c)) (zV c) k n)/\d=-1):=by
 have g:=(qN j).gok
 have e:(dY c (zV c)).getD (qC (zC c) n) 0=d:=sB h
 unfold dY at e
 rcases (q2i g dF).2 _ n (xC m) with ⟨k,h1,l,f⟩ | ⟨h1,f⟩
 ·exact .inl ⟨k,h1,by rw [<- e,f],l⟩
 ·refine .inr ⟨fun k i=>?_,by rw [<- e,f]⟩
  have a:=h1 k i;have b:=z6v g dF i;omega
theorem y4b (a:yG c=0) (b:n∈zC c) (h:(dY c (zV c))[qC (zC c) n]? = some d):-1<=d/\d<=1000000000:=by
 have hl:=(qN a).nl
 rcases z8d a b h with ⟨k,_,h1,e⟩ | ⟨_,h1⟩ <;> omega
theorem cp_near {nx:Next} {rs l:List Bs} (h:PathOk nx rs n l):sZ nx rs (l.length - 1) n:=by
 refine ⟨h.way,fun j b=>?_⟩
 obtain ⟨q,rfl,_,_,a⟩:=h
 have:=a j b
 rw [laQ];simp only [lcQ,lnQ];omega
theorem cp_len (e:yG c=0) (g:n∈zC c) (h:(dY c (zV c))[qC (zC c) n]? = some d) (hl:¬((p.length:Nat):Int)=d+1):¬z5q (qK (zQ c)) (zV c) n p:=fun f=>by
 obtain ⟨⟨l,h1,i⟩,_⟩:=f
 have m:=h1.pos
 have b:=cp_near h1
 rcases z8d e g h with ⟨k,a,j,_⟩ | ⟨a,_⟩
 ·have:=sG b a
  omega
 ·exact a _ b
theorem y3s (h:p.length=0):¬z5q (qK (zQ c)) (zV c) n p:=fun a=>by
 have:=a.2.1
 rw [List.eq_nil_of_length_eq_zero h] at this;cases this
theorem z7d (e:yG c=0):x∈zV c↔0<=ixG x (zC c) 0/\ixG x (zC c) 0 < ((c.inputs.length:Nat):Int):=by
 have m:=(qN e).gok
 constructor
 ·intro h
  obtain ⟨q,hq,rfl⟩:=List.mem_map.1 h
  obtain ⟨j,d⟩:=List.getElem?_of_mem hq
  have n:=(List.getElem?_eq_some_iff.1 d).1
  have a:=sH d
  rw [uS (mgQ a),mS m.nd a];omega
 ·rintro ⟨h1,g⟩
  have a:x∈zC c:=Classical.byContradiction fun k=>by rw [y2u k] at h1;omega
  rw [uS a] at g
  obtain ⟨q,hq⟩:=zZ (l:=c.inputs) (i:=qC (zC c) x) (by omega)
  have b:=sH hq
  rw [xC a] at b
  cases b
  exact List.mem_map_of_mem (f:=fun p=>inN p.name) (mgQ hq)
theorem cp_all (t:yG c=0) (A:n∈zC c) (h:(dY c (zV c))[qC (zC c) n]? = some d) (hl:((p.length:Nat):Int)=d+1) (B:0 < p.length) (E:p[p.length - 1]? = some x) (m:x=n) (F:p[0]? = some y) (o:y∈zV c) (C:TrailTo (qK (zQ c)) p i) (H:¬i < p.length - 1):z5q (qK (zQ c)) (zV c) n p:=by
 subst m
 have r:y3c (qK (zQ c)) p:=fun j a b u hb=>C j (by have:=(List.getElem?_eq_some_iff.1 hb).1;omega) a b u hb
 have hr:∀z,p[0]? = some z->z∈zV c:=fun z s=>by rw [F] at s;cases s;exact o
 obtain ⟨q,rfl⟩:∃q,p=q++[x]:=by
  refine ⟨p.dropLast,?_⟩
  have e:p≠[]:=List.length_pos_iff.1 B
  have h1:p.getLast e=x:=by
   have:=List.getLast?_eq_getElem? (l:=p)
   rw [E,List.getLast?_eq_some_getLast e] at this
   exact Option.some.inj this
  rw [<- h1];exact (List.dropLast_concat_getLast e).symm
 have D:=j0n r hr
 have f:(q++[x]).length=q.length+1:=by simp
 refine PathOk.cp ⟨q,rfl,r,hr,fun j v=>?_⟩
 rcases z8d t A h with ⟨k,g,G,_⟩ | ⟨g,_⟩
 ·have:=g.2 j v
  rw [f] at hl;omega
 ·obtain ⟨k,w⟩:=y2x ⟨_,D⟩
  exact absurd w (g k)
theorem z8e (g:yG c=0) {a:Nat} {f:Flow} (l:(zQ c)[k]? = some f) (b:(zC c)[a]? = some f.1):((a:Nat):Int)=ixG x (zC c) 0↔f.1=x:=by
 have j:=(qN g).gok
 constructor
 ·intro h
  have e:x∈zC c:=Classical.byContradiction fun i=>by rw [y2u i] at h;omega
  rw [uS e] at h
  have d:=xC e
  rw [show qC (zC c) x=a by omega,b] at d
  exact Option.some.inj d
 ·rintro rfl
  rw [uS (mgQ b),mS j.nd b,Nat.zero_add]
theorem j5y (g:yG c=0) {a:Nat} {f:Flow} (b:(zC c)[a]? = some f.2):((a:Nat):Int)=ixG y (zC c) 0↔f.2=y:=by
 have j:=(qN g).gok
 constructor
 ·intro h
  have e:y∈zC c:=Classical.byContradiction fun i=>by rw [y2u i] at h;omega
  rw [uS e] at h
  have d:=xC e
  rw [show qC (zC c) y=a by omega,b] at d
  exact Option.some.inj d
 ·rintro rfl
  rw [uS (mgQ b),mS j.nd b,Nat.zero_add]
theorem j4l (h:mO (x,y) (zQ c) k=true):y∈xB (qK (zQ c)) x:=(gP _ _ _).2 (List.mem_of_mem_take (of_decide_eq_true h))
theorem j4m (h:mO (x,y) (zQ c) k=false) (b:¬k < (zQ c).length):¬y∈xB (qK (zQ c)) x:=fun a=>by
 rw [z9n b] at h
 exact of_decide_eq_false h ((gP _ _ _).1 a)
theorem CPRes.unique {a b:Int} (d:CPRes c n p a) (hb:CPRes c n p b):a=b:=by
 unfold CPRes at d hb
 split at d
 ·rename_i h;rw [h] at hb;rw [d,hb]
 ·rename_i h
  rw [h] at hb
  rcases d with ⟨rfl,h1⟩ | ⟨rfl,h1⟩ <;> rcases hb with ⟨rfl,e⟩ | ⟨rfl,e⟩
  ·rfl
  ·exact absurd h1 e
  ·exact absurd e h1
  ·rfl
end
theorem j3g {Φ:Fz} {K:List Res} {w:World} {c:Core} {dg:List Value} {vf:Value} (a:yG c=0) (rg:RGr Φ dg (jH c)) (N:Mem Φ (.gs vf 3 1 (nats ((zV c).map (qC (zC c))))::K) w) :
  Calls prog 52 #[.agg dg.toArray,vf] w (fun ee w'=>∃v:Value,ee=.returned v/\True/\Mem Φ (.gs v 3 1 (tH (dY c (zV c)))::K) w'):=q1y a rg dF N
theorem sQ {Φ:Fz} {K:List Res} {w:World} {d0:List Value} {c:Core} {n:Bs} {v:Value} {p:List Bs} (X0:RCore Φ d0 c) (f1:∀v,d0[3]? = some v->Cap v) (rl:SliceOf RStr Φ 1 v p) (N:Mem Φ K w) :
  Calls prog 30 #[.agg d0.toArray,.string n,v] w (fun ee w'=>∃y:Int,ee=.returned (.int .i64 y)/\CPRes c n p y/\Mem Φ K w'):=by
 have j:=X0
 obtain ⟨p3,c4,p9,S1,m2,T1,n2,c22,rfl,h2,h8,a2,b2,i2,j2,D1,J1,E1,K1,F1,L1⟩:=RCore.fm X0
 obtain ⟨o2,U1,rfl,m1,P0⟩:=rl.fm
 refine zL func30 ntmps30 fun Q hQ a J=>?_
 refine Bx fun Q1 w N a J=>?_
 refine go fun a J=>?_
 refine st J rfl rfl rfl (xU J rfl call25 (mD j f1 N) (fun n1 x2 w z u1 N a J=>?_) (fun n1 w z N a J=>?_))
 obtain ⟨d,b⟩:=oE z
 have N1:kC c n=.ok ():=z
 refine Qq (fun a J=>?_) (o:=by exact fun J O=>nF false J rfl rfl rfl)
 have X:=(qN d).gok
 refine yO call46 (fun p1 w H0 N a J=>?_) (c:=z8o j (oC d) (qN d) (y6q d) N)
 obtain ⟨k0,Z1⟩:=p1
 obtain ⟨f,W⟩:=H0
 simp only at f W N J
 replace j:=RCore.mono _ _ _ _ f j
 replace rl:=rl.up f
 replace N:=N.nf
 have s0:=W
 obtain ⟨u2,v2,w2,rfl,M,F0,G0⟩:=id W
 obtain ⟨p2,V1,rfl,G1,M1⟩:=M.fm
 obtain ⟨q2,W1,rfl,H1,Q0⟩:=F0.fm
 obtain ⟨r2,X1,rfl,I1,R0⟩:=G0.fm
 refine Alc fun R1 w N a J=>?_
 refine Sto 0 fun w N a J=>?_
 refine Reg [2,2,0,0,1] [0,1] fun w N a J=>?_
 refine yO call47 (fun y2 w v1 N a J=>?_) (c:=y5i d j N)
 refine yO call52 (fun z2 w w1 N a J=>?_) (c:=j3g d s0 N)
 obtain ⟨s2,Y1,rfl⟩:=tF (m:=(jH c).nodes.length) N (i:=0) rfl (by rw [wY,z1i,Nat.mul_one]) (by decide)
 replace N:=N.nf
 refine go fun a J=>?_
 have H:(qC (zC c) n) < (jH c).nodes.length:=cO b
 obtain ⟨d_,g1⟩:=zZ (l:=(dY c (zV c))) (i:=(qC (zC c) n)) (by rw [z1i];exact H)
 have z1:=y4b d b g1
 refine yI [1,1,1,1,1,1,1,1,1,2,1,1,1,1,1,2,1,1,2,0,1,1,1,1,2,1,1,2,0,1,2,1,1,1,1,1,1,1,1,2,1,0,1,2,1,1,1] (.q 0 (.q 1 (.q 2 (.q 3 (.q 4 (.q 5 (.q 6 (.q 7 (.q 8 (.q 9 (.q 10 (.q 11 (.q 12 (.q 13 (.q 14 (.q 15 (.q 16 (.q 17 (.q 18 (.e 19 (.q 20 (.q 21 (.q 22 (.q 23 (.q 24 (.q 25 (.q 26 (.q 27 (.q 29 (.q 30 (.q 31 (.e 28 (.q 32 (.q 33 (.q 34 (.q 35 (.q 36 (.q 37 (.q 38 (.q 39 (.q 40 (.e 41 (.q 42 (.q 43 (.q 44 (.q 45 (.q 46 (.done)))))))))))))))))))))))))))))))))))))))))))))))) [0,1,2] J N fun w N=>?_
 by_cases c2:p.length=0
 refine zD ?_
 replace N:=N.dl [2,1,0]
 replace N:=N.le (f)
 first | (exact ⟨_,rfl,CPRes.no d b (y3s (by omega)),N⟩)
 refine Qq (fun a J=>?_) (o:=by exact fun J O=>wG ((p.length - 1:Nat):Int) J rfl rfl (by rw [jI (by omega)];omega))
 have I0:p.length - 1 < p.length:=by omega
 obtain ⟨t2,rfl,y0,A,B0,B1,x1,U0⟩:=rl.el P0 I0
 obtain rfl:B0=[.string y0]:=U0
 by_cases d2:y0=n
 refine go fun a J=>?_
 have J0:0 < p.length:=by omega
 obtain ⟨S,B⟩:=zZ J0
 obtain ⟨C0,C1,y1,V0⟩:=rl.elem B
 obtain rfl:C0=[.string S]:=V0
 refine zT call49 (fun w N a J=>?_) (c:=gN (l:=(zC c)) (s:=S) M N)
 by_cases e2:(ixG S (zC c) 0) < 0
 refine zD ?_
 replace N:=N.dl [2,1,0]
 replace N:=N.le (f)
 first | (exact ⟨_,rfl,CPRes.no d b (y3s (by omega)),N⟩) | (exact ⟨_,rfl,CPRes.no d b (y3b A (by assumption)),N⟩) | (exact ⟨_,rfl,CPRes.no d b (q3a B (fun hr_=>by have h_:=(z7d d).1 hr_;omega)),N⟩)
 refine zT call49 (fun w N a J=>?_) (c:=gN (l:=(zC c)) (s:=S) M N)
 by_cases f2:((c.inputs.length:Nat):Int)<=(ixG S (zC c) 0)
 refine zD ?_
 replace N:=N.dl [2,1,0]
 replace N:=N.le (f)
 first | (exact ⟨_,rfl,CPRes.no d b (y3s (by omega)),N⟩) | (exact ⟨_,rfl,CPRes.no d b (y3b A (by assumption)),N⟩) | (exact ⟨_,rfl,CPRes.no d b (q3a B (fun hr_=>by have h_:=(z7d d).1 hr_;omega)),N⟩)
 refine zT call49 (fun w N a J=>?_) (c:=z3e (l:=(zC c)) b M N)
 obtain ⟨o1,g0⟩:=N.toSees.gsSome (i:=0) rfl H
 obtain ⟨z0,I⟩:=zZ (l:=(dY c (zV c))) (i:=(qC (zC c) n)) (by rw [z1i];exact H)
 refine Qq (fun a J=>?_) (o:=by exact fun J O=>qX (p:=o1) (qC (zC c) n) J (by rw [<- g0];rfl) rfl runUnderlying84 sizeOf3 H)
 refine Qq (fun a J=>?_) (o:=by exact fun J O=>pR 0 (qC (zC c) n) J O rfl (by rw [<- g0];rfl) (z1s I) isAgg3)
 refine Qq (fun a J=>?_) (o:=by exact fun J O=>z7r (z0+1) J rfl rfl (by have k2:=y4b d b I;exact jI (by omega)))
 by_cases g2:((p.length:Nat):Int)=z0+1
 refine go fun a J=>?_
 have K0:=I
 have T0:((p.length:Nat):Int)=z0+1:=by omega
 have S0:0 < p.length:=by omega
 have O0:=A
 have N0:y0=n:=by first | assumption | exact Classical.not_not.1 (by assumption)
 have M0:=B
 have L0:S∈zV c:=(z7d d).2 ⟨by omega,by omega⟩
 have A1:(jH c).fr.length=(jH c).to.length:=by simp [jH]
 have h1:(jH c).fr.length=(zQ c).length:=by simp [jH]
 refine go fun a J=>?_
 refine zU (J.ks [2,9]) N (fun R mm a w=>∃(L:Nat),mm=p.length - L/\R k0 [(11,.int .i64 L)] [] a w/\(1<=L/\TrailTo (qK (zQ c)) p (L - 1))) (p.length - 1) ⟨1,rfl,⟨J.pk,N⟩,⟨Nat.le_refl 1,TrailTo.start⟩⟩ ?_
 clear N J
 rintro mm a w ⟨L,P,⟨J,N⟩,E⟩ q1 p0
 by_cases D0:L < p.length
 refine Reg [1,2,1,1,1,1,2,0,1] [0,1,2] fun w N a J=>?_
 obtain ⟨e0,C⟩:=zZ (l:=p) (i:=L - 1) (by omega)
 obtain ⟨A0,D⟩:=zZ (l:=p) (i:=L) (by omega)
 have f0:=E.1
 refine Qq (fun a J=>?_) (o:=by exact fun J O=>wG ((L - 1:Nat):Int) J rfl rfl (by rw [jI (by omega)];omega))
 have q0:L - 1 < p.length:=by omega
 obtain ⟨b0,r⟩:=zZ q0
 obtain ⟨l0,i1,b1,t0⟩:=rl.elem r
 obtain rfl:l0=[.string b0]:=t0
 refine zT call49 (fun w N a J=>?_) (c:=gN (l:=(zC c)) (s:=b0) M N)
 refine Reg [1,2,1,1,1,2,0,1] [0,1,2] fun w N a J=>?_
 refine go fun a J=>?_
 obtain ⟨c0,t⟩:=zZ D0
 obtain ⟨m0,j1,c1,u0⟩:=rl.elem t
 obtain rfl:m0=[.string c0]:=u0
 refine zT call49 (fun w N a J=>?_) (c:=gN (l:=(zC c)) (s:=c0) M N)
 refine go fun a J=>?_
 refine zU (J.ks [2,9,11,12,13]) N (fun R mm a w=>∃(k_:Nat) (o_:Bool),mm=(jH c).fr.length - k_/\R k0 [(14,.bool o_),(15,.int .i64 k_)] [] a w/\(o_=mO (e0,A0) (zQ c) k_)) ((jH c).fr.length - 0) ⟨0,false,rfl,⟨J.pk,N⟩,(y7z _ _).symm⟩ ?_
 clear N J
 rintro mm a w ⟨k_,o_,P,⟨J,N⟩,h⟩ r1 k
 by_cases E0:k_ < (jH c).fr.length
 refine go fun a J=>?_
 cases o_
 refine go fun a J=>?_
 obtain ⟨O1,rfl,i0,F,n0,k1,d1,w0⟩:=F0.el Q0 E0
 obtain rfl:n0=[.int .i64 i0]:=w0
 by_cases s1:((i0:Nat):Int)=(ixG b0 (zC c) 0)
 refine go fun a J=>?_
 have r0:k_ < (jH c).to.length:=by omega
 obtain ⟨P1,rfl,j0,Z,o0,l1,e1,x0⟩:=G0.el R0 r0
 obtain rfl:o0=[.int .i64 j0]:=x0
 by_cases t1:((j0:Nat):Int)=(ixG c0 (zC c) 0)
 refine go fun a J=>?_
 refine k _ _ _ (by subst P;omega) ⟨(k_+1),(true),rfl,⟨J.pk,N⟩,?_⟩
 obtain rfl:=Option.some.inj (C.symm.trans r)
 obtain rfl:=Option.some.inj (D.symm.trans t)
 obtain ⟨f_,g,u⟩:=fr_at X F
 have G:=z8e (x:=e0) d g u
 obtain ⟨Z0,U,V⟩:=to_at X Z
 cases Option.some.inj (g.symm.trans U)
 have T:=j5y (y:=A0) d V
 exact (q2l g (G.1 (by assumption)) (T.1 (by assumption))).symm
 refine go fun a J=>?_
 refine k _ _ _ (by subst P;omega) ⟨(k_+1),(false),rfl,⟨J.pk,N⟩,?_⟩
 obtain rfl:=Option.some.inj (C.symm.trans r)
 obtain rfl:=Option.some.inj (D.symm.trans t)
 obtain ⟨f_,g,u⟩:=fr_at X F
 have G:=z8e (x:=e0) d g u
 obtain ⟨Z0,U,V⟩:=to_at X Z
 cases Option.some.inj (g.symm.trans U)
 have T:=j5y (y:=A0) d V
 rw [z0l g (fun e_=>absurd (T.2 e_.2) (by assumption))];exact h
 refine go fun a J=>?_
 refine k _ _ _ (by subst P;omega) ⟨(k_+1),(false),rfl,⟨J.pk,N⟩,?_⟩
 obtain rfl:=Option.some.inj (C.symm.trans r)
 obtain rfl:=Option.some.inj (D.symm.trans t)
 obtain ⟨f_,g,u⟩:=fr_at X F
 have G:=z8e (x:=e0) d g u
 rw [z0l g (fun e_=>absurd (G.2 e_.1) (by assumption))];exact h
 refine go fun a J=>?_
 refine k _ _ _ (by subst P;omega) ⟨(k_+1),(true),rfl,⟨J.pk,N⟩,?_⟩
 obtain ⟨f_,g⟩:=zZ (l:=zQ c) (i:=k_) (by omega)
 exact (j0d g h.symm).symm
 refine go fun a J=>?_
 cases o_
 refine zD ?_
 replace N:=N.dl [2,1,0]
 replace N:=N.le (f)
 have Y:=h
 exact ⟨_,rfl,CPRes.no d b (CP_no4 (i:=L - 1) C (by rw [Nat.sub_add_cancel f0];exact D) (j4m Y.symm (by omega))),N⟩
 refine go fun a J=>?_
 refine p0 _ _ _ (by subst P;omega) ⟨(L+1),rfl,⟨J.pk,N⟩,?_⟩
 have Y:=h
 refine ⟨by omega,?_⟩
 rw [show L+1 - 1=(L - 1)+1 by omega]
 exact TrailTo.step E.2 C (by rw [Nat.sub_add_cancel f0];exact D) (j4l Y.symm)
 refine zD ?_
 replace N:=N.dl [2,1,0]
 replace N:=N.le (f)
 exact ⟨_,rfl,CPRes.ok d b (cp_all d b K0 T0 S0 O0 N0 M0 L0 E.2 (by omega)),N⟩
 refine zD ?_
 replace N:=N.dl [2,1,0]
 replace N:=N.le (f)
 first | (exact ⟨_,rfl,CPRes.no d b (y3s (by omega)),N⟩) | (exact ⟨_,rfl,CPRes.no d b (y3b A (by assumption)),N⟩) | (exact ⟨_,rfl,CPRes.no d b (q3a B (fun hr_=>by have h_:=(z7d d).1 hr_;omega)),N⟩) | (exact ⟨_,rfl,CPRes.no d b (cp_len d b I (by omega)),N⟩)
 refine zD ?_
 replace N:=N.dl [2,1,0]
 replace N:=N.le (f)
 first | (exact ⟨_,rfl,CPRes.no d b (y3s (by omega)),N⟩) | (exact ⟨_,rfl,CPRes.no d b (y3b A (by assumption)),N⟩)
 have l2:=nW z
 refine zD ?_
 replace N:=N.dl [0]
 exact ⟨_,rfl,CPRes.err z,N⟩
section
variable {Φ:Fz} {K:List Res} {w:World}
theorem chR_yes {d0:List Value} {c:Core} {n:Bs} (hq:kC c n=.ok ()) (b:RCore Φ d0 c) (a:∀v,d0[3]? = some v->Cap v) (N:Mem Φ K w) :
  Calls prog 25 #[.agg d0.toArray,.string n] w (fun ee w'=>ee=.returned (.tuple #[.bool (zK (yV (qK (zQ c)) (zV c)) n).isSome,.int .i64 0])/\Mem Φ K w'):=by
 have h:=mD (n:=n) b a N
 rw [hq] at h;exact h.mono fun _ _ ⟨_,h1,_,d⟩=>⟨h1,d⟩
theorem chR_no {d0:List Value} {c:Core} {n:Bs} {e:Int} (hq:kC c n=.error e) (b:RCore Φ d0 c) (a:∀v,d0[3]? = some v->Cap v) (N:Mem Φ K w) :
  Calls prog 25 #[.agg d0.toArray,.string n] w (fun ee w'=>ee=.returned (.tuple #[.bool false,.int .i64 e])/\Mem Φ K w'):=by
 have h:=mD (n:=n) b a N
 rw [hq] at h;exact h
theorem x3x {d0:List Value} {c:Core} {n:Bs} (hq:kC c n=.ok ()) (a:RCore Φ d0 c) (G:Glob Φ) (N:Mem Φ K w) :
  Calls prog 14 #[.agg d0.toArray,.string n] w (fun ee w'=>∃y:Value,ee=.returned (.tuple #[y,.int .i64 0])/\True/\Mem Φ (.gs y 9 1 (strs (tD c n))::K) w'):=by
 have h:=z1h (n:=n) a G qN N
 rw [hq] at h;exact h
theorem depL_no {d0:List Value} {c:Core} {n:Bs} {e:Int} (hq:kC c n=.error e) (a:RCore Φ d0 c) (G:Glob Φ) (N:Mem Φ K w) :
  Calls prog 14 #[.agg d0.toArray,.string n] w (fun ee w'=>ee=.returned (.tuple #[.slice none 0 0,.int .i64 e])/\Mem Φ K w'):=by
 have h:=z1h (n:=n) a G qN N
 rw [hq] at h;exact h
theorem x3y {d0:List Value} {c:Core} {n:Bs} (hq:kC c n=.ok ()) (b:RCore Φ d0 c) (a:∀v,d0[3]? = some v->Cap v) (N:Mem Φ K w) :
  Calls prog 27 #[.agg d0.toArray,.string n] w (fun ee w'=>∃y:Value,ee=.returned (.tuple #[y,.int .i64 0])/\True/\Mem Φ (.gs y 9 1 (strs (tD c n))::K) w'):=by
 have h:=y0e (n:=n) b a N
 rw [hq] at h;exact h
theorem depR_no {d0:List Value} {c:Core} {n:Bs} {e:Int} (hq:kC c n=.error e) (b:RCore Φ d0 c) (a:∀v,d0[3]? = some v->Cap v) (N:Mem Φ K w) :
  Calls prog 27 #[.agg d0.toArray,.string n] w (fun ee w'=>ee=.returned (.tuple #[.slice none 0 0,.int .i64 e])/\Mem Φ K w'):=by
 have h:=y0e (n:=n) b a N
 rw [hq] at h;exact h
theorem y9o {d0:List Value} {c:Core} {n:Bs} (b:RCore Φ d0 c) (G:Glob Φ) (N:Mem Φ K w) :
  Calls prog 26 #[.agg d0.toArray,.string n] w (fun ee w'=>∃y:Value,ee=.returned (.tuple #[y,.int .i64 (y0f (mB c n))])/\True/\Mem Φ K w'):=by
 refine (z7v (n:=n) b G qN N).mono fun ee w' h=>?_
 cases hq:mB c n with
 | ok x=>rw [hq] at h;obtain ⟨y,h1,_,a⟩:=h;exact ⟨y.1,h1,trivial,a.tail⟩
 | error e=>rw [hq] at h;obtain ⟨h1,a⟩:=h;exact ⟨_,h1,trivial,a⟩
theorem y6c {d0:List Value} {c:Core} {n:Bs} {v:Value} {l:List Bs} (L:RCore Φ d0 c) (rl:SliceOf RStr Φ 1 v l) (k:∀v,d0[3]? = some v->Cap v) (G:Glob Φ) (N:Mem Φ K w) :
  Calls prog 8 #[.agg d0.toArray,.string n,v] w (fun ee w'=>ee=.returned (.bool true)/\Mem Φ K w'):=by
 have b:=L
 obtain ⟨p3,c4,p9,l0,y0,m0,z0,c22,rfl,h2,h8,p0,q0,w0,x0,Y,e0,Z,f0,a0,g0⟩:=RCore.fm L
 obtain ⟨A0,n0,rfl,R,h0⟩:=rl.fm
 refine zL func8 ntmps8 fun Q hQ a J=>?_
 refine Bx fun k0 w N a J=>?_
 refine go fun a J=>?_
 refine st J rfl rfl rfl (xU J rfl call13 (y3o b G qN N) (fun A D0 w r S N a J=>?_) (fun A w r N a J=>?_))
 have t:kC c n=.ok ():=r
 refine zT call25 (fun w N a J=>?_) (c:=chR_yes t b k N)
 refine yO call26 (fun E0 w T N a J=>?_) (c:=y9o b G N)
 refine yO call14 (fun F0 w U N a J=>?_) (c:=x3x t b G N)
 refine yO call27 (fun G0 w V N a J=>?_) (c:=x3y t b k N)
 refine zT call11 (fun w N a J=>?_) (c:=j7i G (fun _=>qN) N)
 refine go fun a J=>?_
 have m:=N
 clear N
 obtain ⟨M,j,N,u⟩:=m.freezeRow (i:=1) rfl
 clear m
 replace b:=RCore.mono _ _ _ _ j b
 replace G:=G.mono j
 replace rl:=rl.up j
 replace N:=N.nf
 have h:SliceOf RStr M 1 _ ((tD c n)):=SliceOf.strs.2 u
 obtain ⟨B0,c53,z,b0,i0⟩:=h.form (by decide)
 have p:=N
 clear N
 subst z
 have N:=p
 clear p
 have m:=N
 clear N
 obtain ⟨P,g,N,y⟩:=m.freezeRow (i:=0) rfl
 clear m
 replace b:=RCore.mono _ _ _ _ g b
 replace G:=G.mono g
 replace rl:=rl.up g
 replace h:=h.up g
 replace N:=N.nf
 have s:SliceOf RStr P 1 _ ((tD c n)):=SliceOf.strs.2 y
 obtain ⟨C0,o0,z,c0,j0⟩:=s.form (by decide)
 have p:=N
 clear N
 subst z
 have N:=p
 clear p
 refine yI [1,1,1,1,1,1,1,1,1,1,1,1,1,2,1,0,1,1,1,1,1,1,1,1,1,1,0,1,1,2,1,1,0,2,1,1,0,1,1,1] (.q 0 (.q 1 (.q 2 (.q 3 (.q 4 (.q 5 (.q 6 (.q 7 (.q 8 (.q 9 (.q 10 (.q 11 (.q 12 (.q 13 (.q 14 (.e 15 (.q 16 (.q 17 (.q 18 (.q 19 (.q 20 (.q 21 (.q 22 (.q 23 (.q 24 (.q 25 (.e 26 (.q 27 (.q 28 (.q 29 (.q 30 (.q 31 (.q 33 (.q 34 (.q 35 (.e 32 (.e 36 (.q 37 (.q 38 (.q 39 (.done))))))))))))))))))))))))))))))))))))))))) [0] J N fun w N=>?_
 refine go fun a J=>?_
 generalize X:(zK (yV (qK (zQ c)) (zV c)) n).isSome=B at J
 cases B
 refine Qq (fun a J=>?_) (o:=by exact fun J O=>oR (v:=.bool true) J rfl rfl rfl (by kernel_rfl))
 refine Qq (fun a J=>?_) (o:=by exact fun J O=>vO true J rfl rfl rfl)
 refine zT call28 (fun w N a J=>?_) (c:=uJ b k N)
 by_cases r0:(y0f (mB c n))=(y0f (mB c n))
 refine Qq (fun a J=>?_) (o:=by exact fun J O=>vO true J rfl rfl rfl)
 refine zT call22 (fun w N a J=>?_) (c:=(show Calls prog _ _ _ (fun ee w'=>ee=.returned (.bool true)/\_) from (z0i (tD c n))▸gK h s N))
 refine yO call29 (fun H0 w C N a J=>?_) (c:=sR b rl G qN N)
 have d:=C
 refine yO call30 (fun I0 w D N a J=>?_) (c:=sQ b k rl N)
 have f:=D
 refine Qq (fun a J=>?_) (o:=by exact fun J O=>mX J rfl rfl)
 refine zD ?_
 replace N:=N.le ((j).trans g)
 replace N:=N.dl [0]
 first | exact ⟨rfl,N⟩ | exact absurd rfl (by assumption) | exact absurd (CPRes.unique d f) (by assumption) | (rw [decide_eq_true (CPRes.unique d f)];exact ⟨rfl,N⟩)
 refine zD ?_
 replace N:=N.le ((j).trans g)
 replace N:=N.dl [0]
 first | exact ⟨rfl,N⟩ | exact absurd rfl (by assumption) | exact absurd (CPRes.unique d f) (by assumption) | (rw [decide_eq_true (CPRes.unique d f)];exact ⟨rfl,N⟩)
 refine Qq (fun a J=>?_) (o:=by exact fun J O=>oR (v:=.bool true) J rfl rfl rfl (by kernel_rfl))
 refine Qq (fun a J=>?_) (o:=by exact fun J O=>vO true J rfl rfl rfl)
 refine zT call28 (fun w N a J=>?_) (c:=uJ b k N)
 by_cases s0:(y0f (mB c n))=(y0f (mB c n))
 refine Qq (fun a J=>?_) (o:=by exact fun J O=>vO true J rfl rfl rfl)
 refine zT call22 (fun w N a J=>?_) (c:=(show Calls prog _ _ _ (fun ee w'=>ee=.returned (.bool true)/\_) from (z0i (tD c n))▸gK h s N))
 refine yO call29 (fun J0 w E N a J=>?_) (c:=sR b rl G qN N)
 have d:=E
 refine yO call30 (fun K0 w F N a J=>?_) (c:=sQ b k rl N)
 have f:=F
 refine Qq (fun a J=>?_) (o:=by exact fun J O=>mX J rfl rfl)
 refine zD ?_
 replace N:=N.le ((j).trans g)
 replace N:=N.dl [0]
 first | exact ⟨rfl,N⟩ | exact absurd rfl (by assumption) | exact absurd (CPRes.unique d f) (by assumption) | (rw [decide_eq_true (CPRes.unique d f)];exact ⟨rfl,N⟩)
 refine zD ?_
 replace N:=N.le ((j).trans g)
 replace N:=N.dl [0]
 first | exact ⟨rfl,N⟩ | exact absurd rfl (by assumption) | exact absurd (CPRes.unique d f) (by assumption) | (rw [decide_eq_true (CPRes.unique d f)];exact ⟨rfl,N⟩)
 refine zT call25 (fun w N a J=>?_) (c:=chR_no r b k N)
 refine yO call26 (fun L0 w W N a J=>?_) (c:=y9o b G N)
 refine zT call14 (fun w N a J=>?_) (c:=depL_no r b G N)
 refine zT call27 (fun w N a J=>?_) (c:=depR_no r b k N)
 refine zT call11 (fun w N a J=>?_) (c:=j7i G (fun _=>qN) N)
 refine go fun a J=>?_
 refine yI [1,1,1,1,1,1,1,1,1,1,1,1,1,2,1,0,1,1,1,1,1,1,1,1,1,1,0,1,1,2,1,1,0,2,1,1,0,1,1,1] (.q 0 (.q 1 (.q 2 (.q 3 (.q 4 (.q 5 (.q 6 (.q 7 (.q 8 (.q 9 (.q 10 (.q 11 (.q 12 (.q 13 (.q 14 (.e 15 (.q 16 (.q 17 (.q 18 (.q 19 (.q 20 (.q 21 (.q 22 (.q 23 (.q 24 (.q 25 (.e 26 (.q 27 (.q 28 (.q 29 (.q 30 (.q 31 (.q 33 (.q 34 (.q 35 (.e 32 (.e 36 (.q 37 (.q 38 (.q 39 (.done))))))))))))))))))))))))))))))))))))))))) [0] J N fun w N=>?_
 refine Qq (fun a J=>?_) (o:=by exact fun J O=>oR (v:=.bool true) J rfl rfl rfl (by kernel_rfl))
 by_cases t0:A=A
 refine zT call28 (fun w N a J=>?_) (c:=uJ b k N)
 by_cases u0:(y0f (mB c n))=(y0f (mB c n))
 refine zT call22 (fun w N a J=>?_) (c:=(show Calls prog _ _ _ (fun ee w'=>ee=.returned (.bool true)/\_) from (z0i [])▸gK (SliceOf.nil 1) (SliceOf.nil 1) N))
 refine yO call29 (fun M0 w H N a J=>?_) (c:=sR b rl G qN N)
 have d:=H
 refine yO call30 (fun N0 w I N a J=>?_) (c:=sQ b k rl N)
 have f:=I
 refine Qq (fun a J=>?_) (o:=by exact fun J O=>mX J rfl rfl)
 refine zD ?_
 replace N:=N.dl [0]
 first | exact ⟨rfl,N⟩ | exact absurd rfl (by assumption) | exact absurd (CPRes.unique d f) (by assumption) | (rw [decide_eq_true (CPRes.unique d f)];exact ⟨rfl,N⟩)
 refine zD ?_
 replace N:=N.dl [0]
 first | exact ⟨rfl,N⟩ | exact absurd rfl (by assumption) | exact absurd (CPRes.unique d f) (by assumption) | (rw [decide_eq_true (CPRes.unique d f)];exact ⟨rfl,N⟩)
 refine zD ?_
 replace N:=N.dl [0]
 first | exact ⟨rfl,N⟩ | exact absurd rfl (by assumption) | exact absurd (CPRes.unique d f) (by assumption) | (rw [decide_eq_true (CPRes.unique d f)];exact ⟨rfl,N⟩)
end
end Go.Sw
