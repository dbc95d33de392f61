import Derived.Test.YtlfobekmmndchaaGreatDoorY15
set_option linter.unusedVariables false
set_option linter.unusedSimpArgs false
namespace Go.Sw
open Go.Proofs Go.Proofs.Tryz
set_option maxRecDepth 20000
set_option maxHeartbeats 4000000
structure Shp (e e':TE):Prop where
 kind:e'.kind=e.kind
 name:e'.name=e.name
 op:e'.op=e.op
 num:e'.num=e.num
 site:e'.site=e.site
 args:e'.args.length=e.args.length
 arms:e'.arms.length=e.arms.length
 body:e'.body.length=e.body.length
theorem Shp.refl (e:TE):Shp e e:=⟨rfl,rfl,rfl,rfl,rfl,rfl,rfl,rfl⟩
theorem Shp.only {e e':TE} (h:Shp e e') (a b c d f g r:Bool):zB e' a b c d f g r=zB e a b c d f g r:=by
 unfold zB;rw [h.name,h.op,h.num,h.site,h.args,h.arms,h.body]
def SigEq (T U:Trc) (n:Bs):Prop:=∀f,T.funs.find? (fun f=>decide (f.name=n))=some f->∃g,U.funs.find? (fun f=>decide (f.name=n))=some g/\g.chg=f.chg/\g.params=f.params
theorem SigEq.refl (T:Trc) (n:Bs):SigEq T T n:=fun f h=>⟨f,h,rfl,rfl⟩
structure SigQ (T U:Trc):Prop where
 cons:U.cons=T.cons
 inputs:U.inputs=T.inputs
theorem SigQ.refl (T:Trc):SigQ T T:=⟨rfl,rfl⟩
theorem z8t {T U:Trc} {s t:BS} {e e':TE} {c:Bool} (k:e'.op=e.op) (hq:SigEq T U e.op) (d:∀l,s.atomL e.args l=true->t.atomL e'.args l=true) (h:s.call T e c=true):t.call U e' c=true:=by
 unfold BS.call at h ⊢;rw [k];split at h
 ·rename_i f i
  obtain ⟨g,j,a,b⟩:=hq f i;rw [baQ] at h;rw [j];simp only;rw [a,b,h.1,d _ h.2];rfl
 ·cases h
theorem tQ {s z:BS} {e:TE} {n:Int} (h:s.site e n=some z):Ext s z [] [e.site]/\z.kinds=s.kinds:=by
 unfold BS.site at h;split at h
 ·rename_i a;cases h
  exact ⟨⟨(List.append_nil _).symm,by simp [BS.keys],.nil,by simp,fun x b=>by rw [List.mem_singleton.1 b];exact ⟨xget_none.1 a.1,a.2⟩⟩,rfl⟩
 ·cases h
theorem q4y {s t z:BS} {e e':TE} {n m:Int} (O:e'.site=e.site) (b:e.site∉t.keys) (h:s.site e n=some z):∃z',t.site e' m=some z':=by
 have a:=(tQ h).1.fs.2 e.site msQ;exact ⟨_,by unfold BS.site;rw [O,if_pos ⟨xget_none.2 b,a.2⟩]⟩
theorem qD {α:Type} {c:Prop} [Decidable c] {x:Option α} {z:α} (h:(if c then x else none)=some z):c/\x=some z:=by
 by_cases a:c
 ·rw [if_pos a] at h;exact ⟨a,h⟩
 ·rw [if_neg a] at h;cases h
theorem tB {T U:Trc} {chg:Bool} {e e':TE} {s t z:BS} (h:yY T chg e s=some z) (O:Shp e e') (g:SigQ T U) (hq:(e.kind=3∨e.kind=4∨e.kind=10)->SigEq T U e.op)
  (f:∀l,s.atomL e.args l=true->t.atomL e'.args l=true) (i:∀x∈z5i e.kind e.site,x∉t.keys):∃z',yY U chg e' t=some z':=by
 unfold yY at h ⊢;simp only [O.only,O.kind,O.op,O.num,g.cons,g.inputs];split at h
 ·rename_i a;obtain ⟨b,d⟩:=qD h
  rw [if_pos a];simp only [baQ] at b ⊢;exact ⟨t,if_pos ⟨b.1,f _ b.2⟩⟩
 rename_i a;rw [if_neg a];split at h
 ·rename_i a;obtain ⟨b,d⟩:=qD h
  rw [if_pos a,if_pos b];rw [show wH U e.op=wH T e.op from by unfold wH;rw [g.cons]];split at d
  ·rename_i c m;obtain ⟨j,k⟩:=qD d
   exact ⟨t,if_pos (f _ j)⟩
  ·cases d
 rename_i a;rw [if_neg a];split at h
 ·rename_i a;obtain ⟨b,d⟩:=qD h
  rw [if_pos a];simp only [baQ] at b ⊢;exact ⟨t,if_pos ⟨b.1,z8t O.op (hq (.inl a)) f b.2⟩⟩
 rename_i a;rw [if_neg a];split at h
 ·rename_i a;obtain ⟨b,d⟩:=qD h
  rw [if_pos a];simp only [baQ] at b ⊢;rw [if_pos ⟨b.1,z8t O.op (hq (.inr (.inl a))) f b.2⟩];exact q4y O.site (i _ (by rw [z5i,if_pos (.inl a)];exact msQ)) d
 rename_i a;rw [if_neg a];split at h
 ·rename_i a;obtain ⟨b,d⟩:=qD h
  rw [if_pos a];simp only [baQ] at b ⊢;rw [if_pos ⟨b.1,f _ b.2⟩];exact q4y O.site (i _ (by rw [z5i,if_pos (.inr a)];exact msQ)) d
 rename_i a;rw [if_neg a];split at h
 ·rename_i a;obtain ⟨b,d⟩:=qD h
  rw [if_pos a,if_pos b];exact ⟨t,rfl⟩
 rename_i a;rw [if_neg a];split at h
 ·rename_i a;obtain ⟨b,d⟩:=qD h
  rw [if_pos a];simp only [baQ] at b ⊢;exact ⟨t,if_pos ⟨b.1,f _ b.2⟩⟩
 rename_i a;rw [if_neg a];split at h
 ·rename_i a;obtain ⟨b,d⟩:=qD h
  rw [if_pos a];simp only [baQ] at b ⊢;exact ⟨t,if_pos ⟨b.1,f _ b.2⟩⟩
 rename_i a;rw [if_neg a];split at h
 ·rename_i a;obtain ⟨b,d⟩:=qD h
  rw [if_pos a];simp only [baQ] at b ⊢;exact ⟨t,if_pos ⟨b.1,z8t O.op (hq (.inr (.inr a))) f b.2⟩⟩
 ·cases h
theorem q2i {T:Trc} {chg:Bool} {e:TE} {s z:BS} (h:yY T chg e s=some z):Ext s z [] (z5i e.kind e.site)/\z.kinds=s.kinds/\e.kind≠7:=by
 have no:∀k:Int,e.kind=k->k≠4->k≠5->k≠7->s=z->Ext s z [] (z5i e.kind e.site)/\z.kinds=s.kinds/\e.kind≠7:=by
  intro k a c b d f;subst f;rw [z5i,if_neg (by rw [a];rintro (h | h);exact c h;exact b h)];exact ⟨.refl _,rfl,a▸d⟩
 unfold yY at h;split at h
 ·rename_i a;exact no 1 a (by decide) (by decide) (by decide) (Option.some.inj (qD h).2)
 split at h
 ·rename_i a;have b:=(qD h).2
  split at b
  ·exact no 2 a (by decide) (by decide) (by decide) (Option.some.inj (qD b).2)
  ·cases b
 split at h
 ·rename_i a;exact no 3 a (by decide) (by decide) (by decide) (Option.some.inj (qD h).2)
 split at h
 ·rename_i a;rw [z5i,if_pos (.inl a)];exact ⟨(tQ (qD h).2).1,(tQ (qD h).2).2,by rw [a];decide⟩
 split at h
 ·rename_i a;rw [z5i,if_pos (.inr a)];exact ⟨(tQ (qD h).2).1,(tQ (qD h).2).2,by rw [a];decide⟩
 split at h
 ·rename_i a;exact no 6 a (by decide) (by decide) (by decide) (Option.some.inj (qD h).2)
 split at h
 ·rename_i a;exact no 8 a (by decide) (by decide) (by decide) (Option.some.inj (qD h).2)
 split at h
 ·rename_i a;exact no 9 a (by decide) (by decide) (by decide) (Option.some.inj (qD h).2)
 split at h
 ·rename_i a;exact no 10 a (by decide) (by decide) (by decide) (Option.some.inj (qD h).2)
 ·cases h
theorem nS {s t:BS} (h:t.kinds=s.kinds):∀(l:List Atom) (m:List Bool),s.atomL l m=true->t.atomL l m=true
 | [],[],_=>rfl
 | [],_::_,h=>by simp [BS.atomL] at h
 | _::_,[],h=>by simp [BS.atomL] at h
 | a::l,m::ms,b=>by
  simp only [BS.atomL,baQ] at b ⊢;exact ⟨by unfold BS.atom at b ⊢;rw [h];exact b.1,nS h l ms b.2⟩
mutual
theorem sA {T:Trc} {chg:Bool}:∀{e:TE} {s z:BS},jH T chg e s=some z->tyT T chg s.kinds e/\Ext s z (qE e) (vW e)
 | .mk k nm op num site args arms body,s,z,h=>by
  have r:=h;unfold jH at h;obtain ⟨t,g,n⟩:=Option.bind_eq_some_iff.1 h;by_cases o:k=7
  ·rw [if_pos o] at g
   obtain ⟨m,d⟩:=qD g;rw [baQ] at m
   match args,arms,d with
   | a::rest,.mk c vs b::arms,d=>
    replace d:(if a.name=sNo then none else match wH T c with
     | some first=>(armsT T chg first s.kinds 0 (.mk c vs b::arms) s).bind fun L=>if jN T first (TA.mk c vs b::arms).length then some { L with kinds:=s.kinds } else none
     | none=>none)=some t:=d
    by_cases C:a.name=sNo
    ·rw [if_pos C] at d;cases d
    ·rw [if_neg C] at d
     cases A:wH T c with
     | none=>rw [A] at d;cases d
     | some first=>
      rw [A] at d;obtain ⟨u,F,G⟩:=Option.bind_eq_some_iff.1 d;obtain ⟨H,I⟩:=qD G;have v:=Option.some.inj I;obtain ⟨q,i2⟩:=ty_of_arms F;have B:t.kinds=s.kinds:=by rw [<- v]
      have f:Ext s t (namTa (.mk c vs b::arms)) (sitKa (.mk c vs b::arms)):=⟨by rw [<- v];exact i2.names,by rw [<- v];exact i2.keys,i2.fn,i2.fs⟩;obtain ⟨p,j⟩:=ty_of_rest n;refine ⟨?_,(f.trans j).cast (by rw [qE]) (by rw [vW,z5i,if_neg (by rw [o];decide)];rfl)⟩;unfold tyT;rw [if_pos o];refine ⟨⟨m.1,nS (s:=s) (t:=⟨[],s.kinds,[]⟩) rfl _ _ m.2,first,⟨C,A⟩,q,H⟩,?_⟩;rw [<- B];exact p
   | [],_,d=>simp at d
   | _::_,[],d=>simp at d
  ·rw [if_neg o] at g
   obtain ⟨f,e2,_⟩:=q2i g;obtain ⟨p,j⟩:=ty_of_rest n
   have w:arms=[]:=by
    exact ((y9e _).1 (oC _ (z2i r))).2.1 o
   subst w;refine ⟨?_,(f.trans j).cast (by rw [qE,namTa]) (by rw [vW,sitKa];rfl)⟩;unfold tyT;rw [if_neg o];refine ⟨tB (t:=⟨[],s.kinds,[]⟩) g (.refl _) (.refl _) (fun _=>.refl _ _) (fun l hl=>nS (s:=s) (t:=⟨[],s.kinds,[]⟩) rfl _ _ hl) (fun _ _ h=>by cases h),?_⟩;rw [<- e2];exact p
theorem ty_of_rest {T:Trc} {chg:Bool} {nm:Bs} {mod:Bool}:∀{l:List TE} {s z:BS},restT T chg nm mod l s=some z->tyTs T chg (qT s.kinds nm (vJ mod)) l/\Ext s z (namTs nm l) (sitKs l)
 | [],s,z,h=>by rw [restT] at h;cases h;exact ⟨trivial,.refl _⟩
 | x::xs,s,z,h=>by
  rw [restT] at h;obtain ⟨t,g,n⟩:=Option.bind_eq_some_iff.1 h;obtain ⟨u,m,d⟩:=Option.bind_eq_some_iff.1 n;obtain ⟨f,D⟩:=z1w g;obtain ⟨q,i2⟩:=sA m;obtain ⟨p,j⟩:=ty_of_rest d
  have K:xs=[]:=by
   cases xs with
   | nil=>rfl
   | cons y ys=>
    exfalso;have:=(j.fn.2.1 nm (by rw [namTs];exact msQ)).2;exact this (by rw [i2.names,f.names];simp)
  subst K;refine ⟨⟨rfl,D▸q⟩,((f.trans i2).trans j).cast (by simp [namTs]) (by simp [sitKs])⟩
theorem ty_of_arms {T:Trc} {chg:Bool} {first:Nat} {outer:Sco}:∀{l:List TA} {i:Nat} {s z:BS},armsT T chg first outer i l s=some z->tyTa T chg first outer i l/\Ext s z (namTa l) (sitKa l)
 | [],i,s,z,h=>by rw [armsT] at h;cases h;exact ⟨trivial,.refl _⟩
 | .mk c vs b::xs,i,s,z,h=>by
  rw [armsT] at h;obtain ⟨r,h⟩:=qD h;obtain ⟨t,g,n⟩:=Option.bind_eq_some_iff.1 h;obtain ⟨u,m,d⟩:=Option.bind_eq_some_iff.1 n;obtain ⟨f,D⟩:=gI g;obtain ⟨q,i2⟩:=sA m;obtain ⟨p,j⟩:=ty_of_arms d;have E:Ext s t vs []:=⟨f.names,f.keys,f.fn,f.fs⟩;refine ⟨⟨r,D▸q,p⟩,((E.trans i2).trans j).cast (by simp [namTa]) (by simp [sitKa])⟩
end
mutual
theorem z0q {T:Trc} {chg:Bool}:∀{e:TE} {s:BS},tyT T chg s.kinds e->FreshN s.names (qE e)->FreshS s.keys (vW e)->∃z,jH T chg e s=some z
 | .mk k nm op num site args arms body,s,h,o,O=>by
  unfold tyT at h;rw [qE] at o;rw [vW] at O;obtain ⟨r,g⟩:=FreshN.app.1 o;obtain ⟨s0,s1⟩:=FreshS.app.1 O;obtain ⟨s1,p⟩:=FreshS.app.1 s1;by_cases q:k=7
  ·rw [if_pos q] at h
   obtain ⟨⟨w,A,first,n,D,E⟩,F⟩:=h;have s1':FreshS s.keys (sitKa arms):=by rw [z5i,if_neg (by rw [q];decide),List.append_nil] at s1;exact s1
   have s2':FreshS (s.keys++sitKa arms) (sitKs body):=by rw [z5i,if_neg (by rw [q];decide),List.append_nil] at p;exact p
   match args,arms,n,w,A,D,E,r,g,s1',s2' with
   | a::rest,.mk c vs b::arms,n,w,A,D,E,r,g,s1',s2'=>
    obtain ⟨z,j⟩:=arms_of_ty D r s1';have f:=(ty_of_arms j).2;obtain ⟨y,H⟩:=rest_of_ty (s:={ z with kinds:=s.kinds }) (nm:=nm) (mod:=decide (k=4∨k=6)) F (by show FreshN z.names _;rw [f.names];exact g) (by show FreshS z.keys _;rw [f.keys];exact s2');refine ⟨y,?_⟩;unfold jH;rw [if_pos q,if_pos (by rw [w,nS (s:=⟨[],s.kinds,[]⟩) (t:=s) rfl _ _ A];rfl)]
    show Option.bind (if a.name=sNo then none else match wH T c with
     | some first=>(armsT T chg first s.kinds 0 (.mk c vs b::arms) s).bind fun p=>if jN T first (TA.mk c vs b::arms).length then some { p with kinds:=s.kinds } else none
     | none=>none) _=_
    rw [if_neg n.1,n.2];show Option.bind (Option.bind (armsT T chg first s.kinds 0 (.mk c vs b::arms) s) _) _=_;rw [j,Option.bind_some,if_pos E];exact H
   | [],_,n,_,_,_,_,_,_,_,_=>exact n.elim
   | _::_,[],n,_,_,_,_,_,_,_,_=>exact n.elim
  ·rw [if_neg q] at h
   obtain ⟨⟨u,C⟩,F⟩:=h;obtain ⟨z,j⟩:=tB (t:=s) C (.refl _) (.refl _) (fun _=>.refl _ _) (fun l hl=>nS (s:=⟨[],s.kinds,[]⟩) (t:=s) rfl _ _ hl) (fun x M=>(s0.2 x M).1);obtain ⟨f,e2,_⟩:=q2i j
   have G:arms=[]:=by
    have:=oM C;cases arms with
    | nil=>rfl
    | cons a l=>exact absurd (this.arms q) (by simp [TE.arms])
   subst G;obtain ⟨y,H⟩:=rest_of_ty (s:=z) (nm:=nm) (mod:=decide (k=4∨k=6)) (by rw [e2];exact F) (by rw [f.names,List.append_nil];simpa [namTa] using g) (by rw [f.keys];show FreshS (s.keys++z5i k site) _;rw [sitKa,List.append_nil] at p;exact p);exact ⟨y,by unfold jH;rw [if_neg q,j];exact H⟩
theorem rest_of_ty {T:Trc} {chg:Bool} {nm:Bs} {mod:Bool}:∀{l:List TE} {s:BS},tyTs T chg (qT s.kinds nm (vJ mod)) l->FreshN s.names (namTs nm l)->FreshS s.keys (sitKs l)->∃z,restT T chg nm mod l s=some z
 | [],s,_,_,_=>⟨s,by rw [restT]⟩
 | x::xs,s,h,o,O=>by
  obtain ⟨rfl,h⟩:=h;rw [namTs,namTs,List.append_nil] at o;rw [sitKs,sitKs,List.append_nil] at O;obtain ⟨r,g⟩:=FreshN.app.1 (show FreshN s.names ([nm]++qE x) from o);obtain ⟨t,B⟩:=z8p (m:=mod) r;obtain ⟨f,I⟩:=z1w B;obtain ⟨z,j⟩:=z0q (s:=t) (I▸h) (f.names▸g) (by rw [f.keys,List.append_nil];exact O);exact ⟨z,by rw [restT,B,Option.bind_some,j,Option.bind_some,restT]⟩
theorem arms_of_ty {T:Trc} {chg:Bool} {first:Nat} {outer:Sco}:∀{l:List TA} {i:Nat} {s:BS},tyTa T chg first outer i l->FreshN s.names (namTa l)->FreshS s.keys (sitKa l)->∃z,armsT T chg first outer i l s=some z
 | [],i,s,_,_,_=>⟨s,by rw [armsT]⟩
 | .mk c vs b::xs,i,s,h,o,O=>by
  obtain ⟨v,w,A⟩:=h;rw [namTa] at o;rw [sitKa] at O;obtain ⟨r,g⟩:=FreshN.app.1 o;obtain ⟨g,K⟩:=FreshN.app.1 g;obtain ⟨s1,p⟩:=FreshS.app.1 O
  have hl:vs.length<=(vI T (first+i)).length:=by
   unfold mM at v;split at v
   ·rename_i c0 d P L
    simp only [baQ,decide_eq_true_eq] at v;rw [vI,L];exact Nat.le_of_eq v.2
   ·cases v
  obtain ⟨t,B⟩:=sP (s:={ s with kinds:=outer }) hl r;obtain ⟨f,I⟩:=gI B;obtain ⟨u,C⟩:=z0q (s:=t) (I▸w) (f.names▸g) (by rw [f.keys,List.append_nil];exact s1);have e2:=(sA C).2;obtain ⟨z,j⟩:=arms_of_ty (s:=u) A (by rw [e2.names,f.names,List.append_assoc];rw [List.append_assoc] at K;exact K) (by rw [e2.keys,f.keys,List.append_nil];exact p);refine ⟨z,?_⟩;rw [armsT,if_pos v];show Option.bind (BS.binds { s with kinds:=outer } vs (vI T (first+i))) _=_;rw [B,Option.bind_some,C];exact j
end
structure TyF (T:Trc) (f:TFn):Prop where
 fn:FreshN [] (f.params.map TPar.name++qE f.body)
 ty:tyT T f.chg (aA [] (f.params.map TPar.name) (f.params.map TPar.mod)) f.body
def sitF (l:List TFn):List Int:=l.flatMap fun f=>vW f.body
theorem fun_ty {T:Trc} {f:TFn} {m:List (Int×Int)} {z:BS} (h:aK T f m=some z):TyF T f/\FreshS (m.map Prod.fst) (vW f.body)/\z.keys=m.map Prod.fst++vW f.body:=by
 unfold aK at h;obtain ⟨t,b,c⟩:=Option.bind_eq_some_iff.1 h;obtain ⟨a,e⟩:=gI b;obtain ⟨d,i2⟩:=sA c;have e3:=a.trans i2;exact ⟨⟨e3.fn,e▸d⟩,e3.fs,e3.keys⟩
theorem ty_fun {T:Trc} {f:TFn} {m:List (Int×Int)} (h:TyF T f) (O:FreshS (m.map Prod.fst) (vW f.body)):∃z,aK T f m=some z:=by
 obtain ⟨e,g⟩:=FreshN.app.1 h.fn;obtain ⟨t,b⟩:=sP (s:=⟨[],[],m⟩) (vs:=f.params.map TPar.name) (ms:=f.params.map TPar.mod) (by simp) e;obtain ⟨a,d⟩:=gI b;obtain ⟨z,c⟩:=z0q (s:=t) (d▸h.ty) (by rw [a.names];exact g) (by rw [a.keys,List.append_nil];exact O);exact ⟨z,by unfold aK;rw [b];exact c⟩
theorem j1p {T:Trc}:∀{l:List TFn} {m z:List (Int×Int)},wY T l m=some z->(∀f∈l,TyF T f)/\FreshS (m.map Prod.fst) (sitF l)
 | [],m,z,_=>⟨(fun _ h=>by cases h),.nil⟩
 | f::l,m,z,h=>by
  rw [wY] at h;obtain ⟨t,e,i⟩:=Option.bind_eq_some_iff.1 h;obtain ⟨b,a2,a3⟩:=fun_ty e;obtain ⟨c,d⟩:=j1p i;refine ⟨fun g a=>?_,?_⟩
  ·rcases List.mem_cons.1 a with rfl | a
   ·exact b
   ·exact c g a
  ·exact FreshS.app.2 ⟨a2,a3▸d⟩
theorem j3i {T:Trc}:∀{l:List TFn} {m:List (Int×Int)},(∀f∈l,TyF T f)->FreshS (m.map Prod.fst) (sitF l)->∃z,wY T l m=some z
 | [],m,_,_=>⟨m,rfl⟩
 | f::l,m,h,O=>by
  obtain ⟨s1,d⟩:=FreshS.app.1 (show FreshS (m.map Prod.fst) (vW f.body++sitF l) from O);obtain ⟨t,a⟩:=ty_fun (h f msQ) s1;obtain ⟨z,c⟩:=j3i (l:=l) (m:=t.sites) (fun g b=>h g (mcQ _ b)) (by have:=(fun_ty a).2.2;unfold BS.keys at this;rw [this];exact d);exact ⟨z,by rw [wY,a];exact c⟩
mutual
theorem y9u:∀{e:TE} {deep n:Nat},deep<=n+1->n+zA e<=20000->kJ e deep n=some (n+zA e)
 | .mk k nm op num site args arms body,deep,n,c,a=>by
  rw [zA] at a;rw [kJ,if_pos (by omega),size_ofs (by omega) (by omega),Option.bind_some,size_ofa (by omega) (by omega),zA]
  congr 1;omega
theorem size_ofs:∀{l:List TE} {deep n:Nat},deep<=n+1->n+weightTs l<=20000->sizeTs l deep n=some (n+weightTs l)
 | [],_,_,_,_=>rfl
 | x::l,deep,n,c,a=>by
  rw [weightTs] at a;rw [sizeTs,y9u c (by omega),Option.bind_some,size_ofs (by omega) (by omega),weightTs]
  congr 1;omega
theorem size_ofa:∀{l:List TA} {deep n:Nat},deep<=n+1->n+weightTa l<=20000->sizeTa l deep n=some (n+weightTa l)
 | [],_,_,_,_=>rfl
 | .mk _ _ b::l,deep,n,c,a=>by
  rw [weightTa] at a;rw [sizeTa,y9u c (by omega),Option.bind_some,size_ofa (by omega) (by omega),weightTa]
  congr 1;omega
end
def wF (l:List TFn):Nat:=(l.map fun f=>zA f.body).sum
theorem q5c:∀{l:List TFn} {n:Nat},n+wF l<=20000->pX l n=some (n+wF l)
 | [],_,_=>rfl
 | f::l,n,h=>by
  have a:wF (f::l)=zA f.body+wF l:=by simp [wF]
  rw [a] at h ⊢;rw [pX,y9u (by omega) (by omega),Option.bind_some,q5c (by omega)]
  congr 1;omega
def q7y (cons:List TCon) (inputs:List Bs):Bool :=
 (List.range cons.length).all (fun i=>match cons[i]? with | some c=>nB cons i c | none=>false) &&
 (List.range inputs.length).all (fun i=>match inputs[i]? with | some n=>vC n && !(inputs.take i).contains n | none=>false)
structure FunsOk (l:List TFn):Prop where
 nd:(l.map TFn.name).Nodup
 ok:∀f∈l,vC f.name=true/\f.params.length<=16
theorem heads_iff {T:Trc}:qC T=true↔q7y T.cons T.inputs=true/\FunsOk T.funs/\∀n∈T.outputs,mT T n=true:=by
 have key:((List.range T.funs.length).all (fun i=>match T.funs[i]? with | some f=> !((T.funs.take i).any fun g=>decide (g.name=f.name))&&vC f.name&&decide (f.params.length<=16) | none=>false))=true↔FunsOk T.funs:=by
  rw [List.all_eq_true];constructor
  ·intro h
   have h':∀(i:Nat) (hi:i < T.funs.length),((T.funs.take i).any fun g=>decide (g.name=T.funs[i].name))=false/\vC T.funs[i].name=true/\T.funs[i].params.length<=16:=fun i hi=>by
    have:=h i (List.mem_range.2 hi);rw [List.getElem?_eq_getElem hi] at this;simp only [baQ,Bool.not_eq_true',decide_eq_true_eq] at this;exact ⟨this.1.1,this.1.2,this.2⟩
   refine ⟨?_,fun f k=>?_⟩
   ·rw [List.Nodup,List.pairwise_iff_getElem]
    intro i j hi a d b;simp only [List.length_map] at hi a;have:=List.any_eq_false.1 (h' j a).1 T.funs[i] (by rw [List.mem_iff_getElem?];exact ⟨i,by rw [List.getElem?_take,if_pos d,List.getElem?_eq_getElem hi]⟩);simp only [List.getElem_map] at b;exact this (by simpa using b)
   ·obtain ⟨i,hi,rfl⟩:=List.getElem_of_mem k
    exact (h' i hi).2
  ·intro h i hi
   have hi:=List.mem_range.1 hi;rw [List.getElem?_eq_getElem hi];simp only [baQ,Bool.not_eq_true',decide_eq_true_eq];refine ⟨⟨List.any_eq_false.2 fun g l b=>?_,(h.ok _ (List.getElem_mem hi)).1⟩,(h.ok _ (List.getElem_mem hi)).2⟩;obtain ⟨j,a⟩:=List.mem_iff_getElem?.1 l;rw [List.getElem?_take] at a;split at a
   ·rename_i e
    have hj':j < T.funs.length:=by omega
    rw [List.getElem?_eq_getElem hj'] at a;have c:=(List.pairwise_iff_getElem.1 h.nd) j i (by simpa using hj') (by simpa using hi) e;simp only [List.getElem_map] at c;rw [Option.some.inj a] at c;exact c (by simpa using b)
   ·cases a
 unfold qC q7y;exact ⟨fun h=>by rw [baQ,baQ] at h;exact ⟨h.1.1,key.1 h.1.2,List.all_eq_true.1 h.2⟩,fun h=>by rw [baQ,baQ];exact ⟨⟨h.1,key.2 h.2.1⟩,List.all_eq_true.2 h.2.2⟩⟩
structure Valid (T:Trc):Prop where
 bounds:T.cons.length<=300/\T.inputs.length<=6/\T.funs.length<=400/\T.outputs.length<=6
 size:wF T.funs<=20000
 heads:q7y T.cons T.inputs=true
 funs:FunsOk T.funs
 outs:∀n∈T.outputs,mT T n=true
 ty:∀f∈T.funs,TyF T f
 sites:FreshS [] (sitF T.funs)
theorem valid_iff {T:Trc}:zM T=true↔Valid T:=by
 unfold zM;simp only [baQ,decide_eq_true_eq];constructor
 ·rintro ⟨⟨⟨⟨⟨⟨f,g⟩,i⟩,j⟩,k⟩,l⟩,n⟩
  obtain ⟨m,N⟩:=Option.isSome_iff_exists.1 k;obtain ⟨z,a⟩:=Option.isSome_iff_exists.1 n;have o:=oW T.funs (Nat.zero_le _) N;obtain ⟨b,a2⟩:=j1p a;obtain ⟨c,d,e⟩:=heads_iff.1 l;exact ⟨⟨f,g,i,j⟩,by unfold wF;omega,c,d,e,b,a2⟩
 ·intro h
  refine ⟨⟨⟨⟨⟨⟨h.bounds.1,h.bounds.2.1⟩,h.bounds.2.2.1⟩,h.bounds.2.2.2⟩,?_⟩,heads_iff.2 ⟨h.heads,h.funs,h.outs⟩⟩,?_⟩
  ·rw [q5c (by have:=h.size;omega)];rfl
  ·obtain ⟨z,a⟩:=j3i (m:=[]) h.ty h.sites;rw [a];rfl
def HasK (Δ:Sco) (a:Atom) (v:Int):Prop:=(a.name=sNo/\v=1)∨(a.name≠sNo/\a.num=0/\zK Δ a.name=some v)
structure SubC (m:Atoms) (Γ Δ:Sco) (e:TE):Prop where
 nd:(qE e).Nodup
 fr:∀n∈qE e,zK Δ n=none/\zK m n=none
 vs:∀n,n≠sNo->xS n e≠0->∀v,zK Γ n=some v->(zK m n=none/\zK Δ n=some v)∨∃a,zK m n=some a/\HasK Δ a v/\(a.name=sNo->n∉qK e)
theorem SubC.into {m:Atoms} {Γ Δ Γ' Δ':Sco} {e x:TE} {NN:List Bs} (h:SubC m Γ Δ e) (l:∀n∈NN,n∈qE e) (o:∀n∈qE x,n∈qE e) (u:(NN++qE x).Nodup) (w:∀n,xS n x<=xS n e)
  (i:∀n∈qK x,n∈qK e) (g1:∀n,n∉NN->zK Γ' n=zK Γ n) (g:∀n,n∉NN->zK Δ' n=zK Δ n) (g3:∀n∈NN,zK Γ' n=zK Δ' n):SubC m Γ' Δ' x:=by
 obtain ⟨z,p,q⟩:=List.nodup_append.1 u;refine ⟨p,fun n f=>⟨?_,(h.fr n (o n f)).2⟩,fun n r f v j=>?_⟩
 ·rw [g n fun b=>q n b n f rfl];exact (h.fr n (o n f)).1
 ·by_cases b:n∈NN
  ·exact .inl ⟨(h.fr n (l n b)).2,by rw [<- g3 n b];exact j⟩
  ·rw [g1 n b] at j
   rcases h.vs n r (by have:=w n;omega) v j with d | ⟨a,d,c,s⟩
   ·exact .inl ⟨d.1,by rw [g n b];exact d.2⟩
   ·refine .inr ⟨a,d,?_,fun y O=>s y (i n O)⟩
    rcases c with c | ⟨c,t,k⟩
    ·exact .inl c
    ·refine .inr ⟨c,t,?_⟩
     rw [g _ fun N=>?_];exact k;have:=(h.fr _ (l _ N)).1;rw [k] at this;cases this
theorem x2e (m:Bool):vJ m≠0:=by cases m <;> decide
theorem atom_has {Γ:Sco} {a:Atom} {m:Bool}:(⟨[],Γ,[]⟩:BS).atom a m=true↔HasK Γ a (vJ m):=by
 unfold BS.atom HasK;by_cases h:a.name=sNo
 ·rw [if_pos h];cases m <;> simp [h,vJ]
 ·rw [if_neg h]
  simp only [baQ,decide_eq_true_eq];constructor
  ·rintro ⟨c,b⟩
   refine .inr ⟨h,c,?_⟩;cases d:zK Γ a.name with
   | none=>rw [d] at b;exact absurd b.symm (x2e m)
   | some v=>rw [d] at b;exact congrArg some b
  ·rintro (⟨c,_⟩ | ⟨_,c,b⟩)
   ·exact absurd c h
   ·exact ⟨c,by rw [b];rfl⟩
theorem y7h {n:Bs} {l:List Atom} {a:Atom} (d:a∈l) (h:a.name=n) (c:n≠sNo):wK n l≠0:=by
 unfold wK;intro e;have:=List.length_eq_zero_iff.1 e;have b:a∈l.filter (fun a=>decide (a.name=n/\¬a.name=sNo)):=List.mem_filter.2 ⟨d,decide_eq_true ⟨h,h▸c⟩⟩;rw [this] at b;cases b
theorem j8s {m:Atoms} {Γ Δ:Sco} {a:Atom} {b:Bool} (j:a.name≠sNo->∀v,zK Γ a.name=some v->(zK m a.name=none/\zK Δ a.name=some v)∨∃c,zK m a.name=some c/\HasK Δ c v)
  (h:(⟨[],Γ,[]⟩:BS).atom a b=true):(⟨[],Δ,[]⟩:BS).atom (pL m a) b=true:=by
 rw [atom_has] at h ⊢;rcases h with ⟨d,e⟩ | ⟨d,e,i⟩
 ·rw [pL,if_pos d];exact .inl ⟨d,e⟩
 ·rw [pL,if_neg d]
  rcases j d _ i with ⟨f,g⟩ | ⟨c,f,g⟩
  ·rw [f];exact .inr ⟨d,e,g⟩
  ·rw [f];exact g
theorem z4h {m:Atoms} {Γ Δ:Sco}:∀{l:List Atom} {b:List Bool},(∀a∈l,a.name≠sNo->∀v,zK Γ a.name=some v->(zK m a.name=none/\zK Δ a.name=some v)∨∃c,zK m a.name=some c/\HasK Δ c v) ->
  (⟨[],Γ,[]⟩:BS).atomL l b=true->(⟨[],Δ,[]⟩:BS).atomL (l.map (pL m)) b=true
 | [],[],_,_=>rfl
 | [],_::_,_,h=>by simp [BS.atomL] at h
 | _::_,[],_,h=>by simp [BS.atomL] at h
 | a::l,c::b,d,h=>by
  simp only [BS.atomL,baQ,List.map_cons] at h ⊢;exact ⟨j8s (d a msQ) h.1,z4h (fun a e=>d a (mcQ _ e)) h.2⟩
theorem y3g (m:Atoms):∀l:List TE,(withTs m l).length=l.length
 | []=>rfl
 | x::l=>by rw [withTs,lcQ,lcQ,y3g m l]
theorem z1o (m:Atoms):∀l:List TA,(withTa m l).length=l.length
 | []=>rfl
 | .mk _ _ b::l=>by rw [withTa,lcQ,lcQ,z1o m l]
theorem x4z (m:Atoms) (e:TE):Shp e (zR m e):=by
 cases e;exact ⟨rfl,rfl,rfl,rfl,rfl,List.length_map ..,z1o _ _,y3g _ _⟩
mutual
theorem z2z (m:Atoms):∀e:TE,qE (zR m e)=qE e
 | .mk _ nm _ _ _ _ arms body=>by rw [zR,qE,qE,nam_withA m arms,nam_withS m nm body]
theorem nam_withS (m:Atoms) (nm:Bs):∀l:List TE,namTs nm (withTs m l)=namTs nm l
 | []=>rfl
 | x::l=>by rw [withTs,namTs,namTs,z2z m x,nam_withS m nm l]
theorem nam_withA (m:Atoms):∀l:List TA,namTa (withTa m l)=namTa l
 | []=>rfl
 | .mk _ _ b::l=>by rw [withTa,namTa,namTa,z2z m b,nam_withA m l]
end
mutual
theorem z3t (m:Atoms):∀e:TE,vW (zR m e)=vW e
 | .mk _ _ _ _ _ _ arms body=>by rw [zR,vW,vW,sit_withA m arms,sit_withS m body]
theorem sit_withS (m:Atoms):∀l:List TE,sitKs (withTs m l)=sitKs l
 | []=>rfl
 | x::l=>by rw [withTs,sitKs,sitKs,z3t m x,sit_withS m l]
theorem sit_withA (m:Atoms):∀l:List TA,sitKa (withTa m l)=sitKa l
 | []=>rfl
 | .mk _ _ b::l=>by rw [withTa,sitKa,sitKa,z3t m b,sit_withA m l]
end
theorem wJ:∀{vs:List Bs} {ms:List Bool} {Γ:Sco} {n:Bs},n∉vs->zK (aA Γ vs ms) n=zK Γ n
 | [],_,_,_,_=>by rw [aA];intro _ _ _ _ h;cases h
 | v::vs,[],_,_,_=>by rw [aA];intro _ _ _ _ _ h;cases h
 | v::vs,m::ms,Γ,n,h=>by
  rw [aA,wJ (fun a=>h (mcQ _ a)),yJ,if_neg (fun a=>h (by first | exact a▸msQ | exact a.symm▸msQ))]
theorem q4e:∀{vs:List Bs} {ms:List Bool} {Γ Δ:Sco} {n:Bs},vs.length<=ms.length->n∈vs->zK (aA Γ vs ms) n=zK (aA Δ vs ms) n
 | v::vs,[],_,_,_,h,_=>by simp at h
 | v::vs,m::ms,Γ,Δ,n,h,b=>by
  rw [aA,aA];by_cases a:n∈vs
  ·exact q4e (by simpa using h) a
  ·rcases List.mem_cons.1 b with rfl | b
   ·rw [wJ a,wJ a,yJ,yJ];simp
   ·exact absurd b a
theorem z7e {T:Trc} {first i:Nat} {c:Bs} {vs:List Bs} {b:TE} (h:mM T first i (.mk c vs b)=true):vs.length<=(vI T (first+i)).length:=by
 unfold mM at h;split at h
 ·rename_i c0 d e a
  simp only [baQ,decide_eq_true_eq] at h;rw [vI,a];exact Nat.le_of_eq h.2
 ·cases h
theorem uJ:∀{l:List TA} {x:TA},x∈l->∃p q,namTa l=p++((x.vars++qE x.body)++q)
 | .mk _ vs b::l,x,h=>by
  rcases List.mem_cons.1 h with rfl | h
  ·exact ⟨[],namTa l,by rw [namTa];simp [TA.vars,TA.body]⟩
  ·obtain ⟨p,q,a⟩:=uJ h
   exact ⟨vs++(qE b++p),q,by rw [namTa,a];simp⟩
theorem z1m {n:Bs}:∀{l:List TA} {x:TA},x∈l->xS n x.body<=usesTa n l
 | .mk _ vs b::l,x,h=>by
  rw [usesTa];rcases List.mem_cons.1 h with rfl | h
  ·simp [TA.body]
  ·have:=z1m (n:=n) h;omega
theorem dS {n:Bs}:∀{l:List TA} {x:TA},x∈l->n∈qK x.body->n∈splitTa l
 | .mk _ vs b::l,x,h,a=>by
  rw [splitTa];rcases List.mem_cons.1 h with rfl | h
  ·exact List.mem_append_left _ a
  ·exact List.mem_append_right _ (dS h a)
mutual
theorem y2x {T:Trc} {chg:Bool} {m:Atoms}:∀{e:TE} {Γ Δ:Sco},tyT T chg Γ e->SubC m Γ Δ e->tyT T chg Δ (zR m e)
 | .mk k nm op num site args arms body,Γ,Δ,h,O=>by
  have F:∀a∈args,a.name≠sNo->∀v,zK Γ a.name=some v->(zK m a.name=none/\zK Δ a.name=some v)∨∃c,zK m a.name=some c/\HasK Δ c v:=by
   intro a F L v U;rcases O.vs a.name L (by rw [xS];have:=y7h F rfl L;omega) v U with r | ⟨c,r,s,_⟩
   ·exact .inl r
   ·exact .inr ⟨c,r,s⟩
  have j:=x4z m (.mk k nm op num site args arms body);have E:=O.nd;rw [qE] at E;obtain ⟨C,D,_⟩:=List.nodup_append.1 E
  have w:∀x∈arms,∀fs:List Bool,x.vars.length<=fs.length->SubC m (aA Γ x.vars fs) (aA Δ x.vars fs) x.body:=by
   intro x g fs S;obtain ⟨p,q,M⟩:=uJ g
   have u:∀n∈x.vars++qE x.body,n∈qE (.mk k nm op num site args arms body):=fun n d=>by
    rw [qE,M];exact List.mem_append_left _ (List.mem_append_right _ (List.mem_append_left _ d))
   refine O.into (NN:=x.vars) (fun n d=>u n (List.mem_append_left _ d)) (fun n d=>u n (List.mem_append_right _ d)) ?_ (fun n=>?_) (fun n d=>?_) (fun n d=>wJ d) (fun n d=>wJ d) (fun n d=>q4e S d)
   ·rw [M] at C;exact (List.nodup_append.1 (List.nodup_append.1 C).2.1).1
   ·rw [xS];have:=z1m (n:=n) g;omega
   ·rw [qK];exact List.mem_append_left _ (List.mem_append_right _ (dS g d))
  have A:∀x,body=[x]->SubC m (qT Γ nm (vJ (decide (k=4∨k=6)))) (qT Δ nm (vJ (decide (k=4∨k=6)))) x:=by
   intro x g;subst g;have u:∀n∈nm::qE x,n∈qE (.mk k nm op num site args arms [x]):=fun n d=>by rw [qE,namTs,namTs,List.append_nil];exact List.mem_append_right _ d
   refine O.into (NN:=[nm]) (fun n d=>u n (by rw [List.mem_singleton.1 d];exact msQ)) (fun n d=>u n (mcQ _ d)) ?_ (fun n=>?_) (fun n d=>?_) (fun n d=>?_) (fun n d=>?_) (fun n d=>?_)
   ·rw [namTs,namTs,List.append_nil] at D;exact D
   ·rw [xS,usesTs,usesTs];omega
   ·rw [qK,splitTs];exact List.mem_append_right _ (List.mem_append_left _ d)
   ·rw [yJ,if_neg (by simpa [eq_comm] using d)]
   ·rw [yJ,if_neg (by simpa [eq_comm] using d)]
   ·rw [yJ,yJ,List.mem_singleton.1 d];simp
  unfold tyT at h;rw [zR] at j ⊢;unfold tyT;refine ⟨?_,ty_subS h.2 A⟩;by_cases B:k=7
  ·rw [if_pos B];rw [if_pos B] at h
   obtain ⟨⟨r,s,first,f,P,Q⟩,_⟩:=h;refine ⟨by rw [j.only];exact r,z4h F s,first,?_,ty_subA P w,by rw [z1o];exact Q⟩
   match args,arms,f with
   | a::rest,.mk c vs b::arms,f=>
    refine ⟨fun o=>?_,f.2⟩
    have I:a.name∈qK (.mk k nm op num site (a::rest) (.mk c vs b::arms) body):=by
     rw [qK,tS,if_pos B];simp
    have K:xS a.name (.mk k nm op num site (a::rest) (.mk c vs b::arms) body)≠0:=by rw [xS];have:=y7h (l:=a::rest) msQ rfl f.1;omega
    unfold pL at o;rw [if_neg f.1] at o;simp only [BS.atomL,baQ] at s;rcases atom_has.1 s.1 with ⟨G,_⟩ | ⟨_,_,G⟩
    ·exact f.1 G
    ·rcases O.vs _ f.1 K _ G with ⟨H,_⟩ | ⟨y,H,W,R⟩
     ·rw [H] at o;exact f.1 o
     ·rw [H] at o;exact R o I
  ·rw [if_neg B];rw [if_neg B] at h
   obtain ⟨⟨z,V⟩,_⟩:=h;exact tB (t:=⟨[],Δ,[]⟩) V j (.refl _) (fun _=>.refl _ _) (fun l hl=>z4h F hl) (fun _ _ h=>by cases h)
theorem ty_subS {T:Trc} {chg:Bool} {m:Atoms} {Γ Δ:Sco}:∀{l:List TE},tyTs T chg Γ l->(∀x,l=[x]->SubC m Γ Δ x)->tyTs T chg Δ (withTs m l)
 | [],_,_=>trivial
 | x::l,h,O=>by obtain ⟨rfl,h⟩:=h;exact ⟨rfl,y2x h (O x rfl)⟩
theorem ty_subA {T:Trc} {chg:Bool} {m:Atoms} {first:Nat} {Γ Δ:Sco}:∀{l:List TA} {i:Nat},tyTa T chg first Γ i l->(∀x∈l,∀fs:List Bool,x.vars.length<=fs.length->SubC m (aA Γ x.vars fs) (aA Δ x.vars fs) x.body)->tyTa T chg first Δ i (withTa m l)
 | [],_,_,_=>trivial
 | .mk c vs b::l,i,h,g=>⟨h.1,y2x h.2.1 (g _ msQ _ (z7e h.1)),ty_subA h.2.2 fun x h=>g x (mcQ _ h)⟩
end
theorem y1y:∀{vs:List Bs} {ms:List Bool} {Γ:Sco} {j:Nat} {n:Bs},vs.length<=ms.length->vs.Nodup->vs[j]? = some n->zK (aA Γ vs ms) n=(ms[j]?).map vJ
 | [],_,_,j,_,_,_,h=>by simp at h
 | v::vs,[],_,_,_,h,_,_=>by simp at h
 | v::vs,m::ms,Γ,j,n,hl,c,h=>by
  obtain ⟨a,b⟩:=List.nodup_cons.1 c;rw [aA];cases j with
  | zero=>
   simp only [List.getElem?_cons_zero,Option.some.injEq] at h;subst h;rw [wJ a,yJ];simp
  | succ j=>exact y1y (by simpa using hl) b (by simpa using h)
theorem y6d:∀{l:List TA} {j:Nat} {a:TA} {b:TE},l[j]? = some a->(qE b).Sublist (qE a.body)->(namTa (l.set j (.mk a.con a.vars b))).Sublist (namTa l)
 | [],j,_,_,h,_=>by simp at h
 | .mk c vs x::l,0,a,b,h,O=>by
  simp only [List.getElem?_cons_zero,Option.some.injEq] at h;subst h;rw [List.set_cons_zero,namTa,namTa];exact (List.Sublist.refl _).append (O.append (List.Sublist.refl _))
 | .mk c vs x::l,j+1,a,b,h,O=>by
  rw [List.set_cons_succ,namTa,namTa];exact (List.Sublist.refl _).append ((List.Sublist.refl _).append (y6d (by simpa using h) O))
theorem y6v:∀{l:List TA} {j:Nat} {a:TA} {b:TE},l[j]? = some a->(vW b).Sublist (vW a.body)->(sitKa (l.set j (.mk a.con a.vars b))).Sublist (sitKa l)
 | [],j,_,_,h,_=>by simp at h
 | .mk c vs x::l,0,a,b,h,O=>by
  simp only [List.getElem?_cons_zero,Option.some.injEq] at h;subst h;rw [List.set_cons_zero,sitKa,sitKa];exact O.append (List.Sublist.refl _)
 | .mk c vs x::l,j+1,a,b,h,O=>by
  rw [List.set_cons_succ,sitKa,sitKa];exact (List.Sublist.refl _).append (y6v (by simpa using h) O)
theorem y2v {T:Trc} {chg:Bool} {first:Nat} {Γ:Sco}:∀{l:List TA} {i j:Nat} {a:TA},tyTa T chg first Γ i l->l[j]? = some a->mM T first (i+j) a=true/\tyT T chg (aA Γ a.vars (vI T (first+(i+j)))) a.body
 | [],_,j,_,_,h=>by simp at h
 | .mk c vs x::l,i,0,a,b,h=>by
  simp only [List.getElem?_cons_zero,Option.some.injEq] at h;subst h;exact ⟨b.1,b.2.1⟩
 | .mk c vs x::l,i,j+1,a,b,h=>by
  have:=y2v b.2.2 (j:=j) (by simpa using h);rw [show i+1+j=i+(j+1) from by omega] at this;exact this
theorem q5n {T:Trc} {chg:Bool} {first:Nat} {Γ:Sco}:∀{l:List TA} {i j:Nat} {a:TA} {b:TE},tyTa T chg first Γ i l->l[j]? = some a->tyT T chg (aA Γ a.vars (vI T (first+(i+j)))) b->tyTa T chg first Γ i (l.set j (.mk a.con a.vars b))
 | [],_,j,_,_,_,h,_=>by simp at h
 | .mk c vs x::l,i,0,a,b,d,h,hb=>by
  simp only [List.getElem?_cons_zero,Option.some.injEq] at h;subst h;exact ⟨d.1,hb,d.2.2⟩
 | .mk c vs x::l,i,j+1,a,b,d,h,hb=>by
  rw [List.set_cons_succ];exact ⟨d.1,d.2.1,q5n d.2.2 (by simpa using h) (by rw [show i+1+j=i+(j+1) from by omega];exact hb)⟩
structure Above (T:Trc) (chg:Bool) (Δ:Sco) (v:TE) (i:Int):Prop where
 ex:∃Γ,tyT T chg Γ v/\∀n k,zK Γ n=some k->zK Δ n=some k
 nm:v.kind≠7->zK Δ v.name=some (vJ (decide (v.kind=4∨v.kind=6)))
 arm:v.kind=7->∃(first j:Nat) (a:TA),i=(j:Int)/\v.arms[j]? = some a/\mM T first j a=true/\∀(q:Nat) (n:Bs),a.vars[q]? = some n->zK Δ n=((vI T (first+j))[q]?).map vJ
theorem Above.mono {T:Trc} {chg:Bool} {Δ Δ':Sco} {v:TE} {i:Int} (h:Above T chg Δ v i) (N:∀n k,zK Δ n=some k->zK Δ' n=some k):Above T chg Δ' v i:=by
 obtain ⟨⟨Γ,g,l⟩,m,o⟩:=h;refine ⟨⟨Γ,g,fun n k d=>N _ _ (l n k d)⟩,fun d=>N _ _ (m d),fun d=>?_⟩;obtain ⟨first,j,a,g1,f,g3,g4⟩:=o d;refine ⟨first,j,a,g1,f,g3,fun q n hq=>?_⟩;have e:=g4 q n hq
 have hl:q < (vI T (first+j)).length:=by
  have:=z7e (c:=a.con) (vs:=a.vars) (b:=a.body) (by cases a;exact g3);have:=(List.getElem?_eq_some_iff.1 hq).1;omega
 rw [List.getElem?_eq_getElem hl] at e ⊢;exact N _ _ e
structure Hole (T:Trc) (chg:Bool) (Γ:Sco) (e:TE) (p:List Int) (us:List TE) (x:TE) (Δ:Sco):Prop where
 ty:tyT T chg Δ x
 fr:∀n∈qE x,zK Δ n=none
 nd:(qE x).Nodup
 le:∀n k,zK Γ n=some k->zK Δ n=some k
 up:∀q∈us.zip p,Above T chg Δ q.1 q.2
 len:us.length=p.length
 dom:∀n k,zK Δ n=some k->zK Γ n=some k∨n∈qE e
 put:∀y,tyT T chg Δ y->(qE y).Sublist (qE x)->(vW y).Sublist (vW x)->tyT T chg Γ (zY e p y)/\(qE (zY e p y)).Sublist (qE e)/\(vW (zY e p y)).Sublist (vW e)
theorem j7h {T:Trc} {chg:Bool} {Γ:Sco} {e x:TE} {i:Int} (h:tyT T chg Γ e) (F:∀n∈qE e,zK Γ n=none) (E:(qE e).Nodup) (f:cQ e i=some x) :
  ∃Δ,tyT T chg Δ x/\(∀n∈qE x,zK Δ n=none)/\(qE x).Nodup/\(∀n k,zK Γ n=some k->zK Δ n=some k)/\Above T chg Δ e i/\(∀n k,zK Δ n=some k->zK Γ n=some k∨n∈qE e)/\(∀n∈qE x,n∈qE e) /\
   ∀(p:List Int) (y z:TE),tyT T chg Δ (zY x p y)->(qE (zY x p y)).Sublist (qE x)->(vW (zY x p y)).Sublist (vW x)->tyT T chg Γ (zY e (i::p) y)/\(qE (zY e (i::p) y)).Sublist (qE e)/\(vW (zY e (i::p) y)).Sublist (vW e):=by
 obtain ⟨k,nm,op,num,site,args,arms,body⟩:=e;have P:=h;unfold tyT at h;by_cases s:k=7
 ·rw [if_pos s] at h
  obtain ⟨⟨Q,V,first,D,R,W⟩,C⟩:=h;have hb:body=[]:=(kR Q).2.1 rfl;subst hb
  have hx':∃(j:Nat) (a:TA),i=(j:Int)/\arms[j]? = some a/\a.body=x:=by
   unfold cQ at f;split at f
   ·cases f
   ·rename_i hi
    split at f
    ·obtain ⟨a,m,rfl⟩:=Option.map_eq_some_iff.1 f
     exact ⟨i.toNat,a,by omega,m,rfl⟩
    ·split at f
     ·simp [TE.body] at f
     ·cases f
  obtain ⟨j,a,rfl,m,rfl⟩:=hx';obtain ⟨g1,M⟩:=y2v R m;rw [show 0+j=j from Nat.zero_add j] at g1 M;obtain ⟨pr,sf,S⟩:=uJ (mgQ m)
  have r:∀n∈a.vars++qE a.body,n∈qE (.mk k nm op num site args arms []):=fun n o=>by
   rw [qE,S];exact List.mem_append_left _ (List.mem_append_right _ (List.mem_append_left _ o))
  have A:(a.vars++qE a.body).Nodup:=by
   rw [qE,S] at E;exact (List.nodup_append.1 (List.nodup_append.1 (List.nodup_append.1 E).1).2.1).1
  obtain ⟨G,H,U⟩:=List.nodup_append.1 A
  have le:∀n v,zK Γ n=some v->zK (aA Γ a.vars (vI T (first+j))) n=some v:=fun n v g=>by
   rw [wJ fun d=>?_];exact g;rw [F n (r n (List.mem_append_left _ d))] at g;cases g
  refine ⟨aA Γ a.vars (vI T (first+j)),M,fun n o=>?_,H,le,⟨⟨Γ,P,le⟩,fun d=>absurd s d,fun _=>⟨first,j,a,rfl,m,g1,fun q n hq=>?_⟩⟩,fun n v g=>?_,fun n o=>r n (List.mem_append_right _ o),fun p y z L t2 t3=>?_⟩
  ·rw [wJ fun d=>U n d n o rfl];exact F n (r n (List.mem_append_right _ o))
  ·exact y1y (z7e (c:=a.con) (b:=a.body) (by cases a;exact g1)) G hq
  ·by_cases d:n∈a.vars
   ·exact .inr (r n (List.mem_append_left _ d))
   ·rw [wJ d] at g;exact .inl g
  ·have K:zY (.mk k nm op num site args arms []) ((j:Int)::p) y=.mk k nm op num site args (arms.set j (.mk a.con a.vars (zY a.body p y))) []:=by
    rw [zY,if_pos (show (TE.mk k nm op num site args arms []).kind=7 from s)];simp only [TE.kind,TE.name,TE.op,TE.num,TE.site,TE.args,TE.arms,TE.body,Int.toNat_natCast,m]
   rw [K];have B:Shp (.mk k nm op num site args arms []) (.mk k nm op num site args (arms.set j (.mk a.con a.vars (zY a.body p y))) []):=⟨rfl,rfl,rfl,rfl,rfl,rfl,List.length_set ..,rfl⟩;refine ⟨?_,?_,?_⟩
   ·unfold tyT
    rw [if_pos s];refine ⟨⟨by rw [B.only];exact Q,V,first,?_,q5n R m (by rw [show 0+j=j from Nat.zero_add j];exact L),by rw [List.length_set];exact W⟩,trivial⟩
    match args,arms,D,m with
    | b::rest,.mk c vs Y::arms,D,m=>
     cases j with
     | zero=>simp only [List.getElem?_cons_zero,Option.some.injEq] at m;subst m;exact D
     | succ j=>exact D
   ·rw [qE,qE];exact (y6d m t2).append (List.Sublist.refl _)
   ·rw [vW,vW];exact (List.Sublist.refl _).append ((y6v m t3).append (List.Sublist.refl _))
 ·rw [if_neg s] at h
  obtain ⟨⟨z,X⟩,C⟩:=h
  have hx':∃j:Nat,body[j]? = some x:=by
   unfold cQ at f;split at f
   ·cases f
   ·split at f
    ·rename_i d;exact absurd d.1 s
    ·split at f
     ·exact ⟨_,f⟩
     ·cases f
  obtain ⟨j,u⟩:=hx'
  match body,C,u with
  | [],_,u=>simp at u
  | b::rest,C,u=>
   obtain ⟨rfl,C⟩:=C;have I:j=0:=by have:=(List.getElem?_eq_some_iff.1 u).1;simpa using this
   subst I;simp only [List.getElem?_cons_zero,Option.some.injEq] at u;subst u
   have r:∀n∈nm::qE b,n∈qE (.mk k nm op num site args arms [b]):=fun n o=>by
    rw [qE,namTs,namTs,List.append_nil];exact List.mem_append_right _ o
   have A:(nm::qE b).Nodup:=by rw [qE,namTs,namTs,List.append_nil] at E;exact (List.nodup_append.1 E).2.1
   obtain ⟨G,H⟩:=List.nodup_cons.1 A
   have le:∀n v,zK Γ n=some v->zK (qT Γ nm (vJ (decide (k=4∨k=6)))) n=some v:=fun n v g=>by
    rw [yJ,if_neg fun d=>?_];exact g;have hc':n=nm:=by first | exact d | exact d.symm
    rw [hc',F nm (r nm msQ)] at g;cases g
   refine ⟨qT Γ nm (vJ (decide (k=4∨k=6))),C,fun n o=>?_,H,le,⟨⟨Γ,P,le⟩,fun _=>?_,fun d=>absurd d s⟩,fun n v g=>?_,fun n o=>r n (mcQ _ o),fun p y w L t2 t3=>?_⟩
   ·rw [yJ,if_neg fun d=>?_];exact F n (r n (mcQ _ o))
    have hc':n=nm:=by first | exact d | exact d.symm
    exact G (hc'▸o)
   ·show zK (qT Γ nm _) nm=_;rw [yJ,if_pos rfl];rfl
   ·rw [yJ] at g
    split at g
    ·rename_i d;have hc':n=nm:=by first | exact d | exact d.symm
     exact .inr (hc'▸r nm msQ)
    ·exact .inl g
   ·have K:zY (.mk k nm op num site args arms [b]) (i::p) y=.mk k nm op num site args arms [zY b p y]:=by
     rw [zY,if_neg (show ¬(TE.mk k nm op num site args arms [b]).kind=7 from s)];rfl
    rw [K];have B:Shp (.mk k nm op num site args arms [b]) (.mk k nm op num site args arms [zY b p y]):=⟨rfl,rfl,rfl,rfl,rfl,rfl,rfl,rfl⟩;refine ⟨?_,?_,?_⟩
    ·unfold tyT;rw [if_neg s]
     exact ⟨tB (t:=⟨[],Γ,[]⟩) X B (.refl _) (fun _=>.refl _ _) (fun l hl=>hl) (fun _ _ h=>by cases h),rfl,L⟩
    ·rw [qE,qE,namTs,namTs,namTs,namTs,List.append_nil,List.append_nil];exact (List.Sublist.refl _).append (t2.cons_cons _)
    ·rw [vW,vW,sitKs,sitKs,sitKs,sitKs,List.append_nil,List.append_nil];exact (List.Sublist.refl _).append ((List.Sublist.refl _).append t3)
theorem z7y {T:Trc} {chg:Bool}:∀(p:List Int) {Γ:Sco} {e x:TE} {up u:List TE},tyT T chg Γ e->(∀n∈qE e,zK Γ n=none)->(qE e).Nodup->yD up e p=some (u,x)->∃us Δ,u=up++us/\Hole T chg Γ e p us x Δ
 | [],Γ,e,x,up,u,h,d,c,a=>by
  rw [yD] at a;cases a;exact ⟨[],Γ,(List.append_nil _).symm,h,d,c,(fun _ _ h=>h),(fun _ h=>by simp at h),rfl,(fun _ _ h=>.inl h),fun y g f O=>⟨g,f,O⟩⟩
 | i::p,Γ,e,x,up,u,h,d,c,a=>by
  rw [yD] at a;obtain ⟨y,g,a⟩:=Option.bind_eq_some_iff.1 a;obtain ⟨Δ,g1,j,g3,g4,l,o,r,m⟩:=j7h h d c g;obtain ⟨us,Ξ,rfl,H⟩:=z7y p g1 j g3 a;refine ⟨e::us,Ξ,by simp,H.ty,H.fr,H.nd,fun n k s=>H.le _ _ (g4 n k s),fun q hq=>?_,by simp [H.len],fun n v b=>?_,fun z t f O=>?_⟩
  ·rw [List.zip_cons_cons] at hq
   rcases List.mem_cons.1 hq with rfl | hq
   ·exact l.mono H.le
   ·exact H.up q hq
  ·rcases H.dom n v b with b | b
   ·exact o n v b
   ·exact .inr (r n b)
  ·obtain ⟨w,A,B⟩:=H.put z t f O
   exact m p z z w A B
theorem j7m {e x:TE} {i:Int} {n:Bs} (h:cQ e i=some x):xS n x<=xS n e/\(n∈qK x->n∈qK e):=by
 obtain ⟨k,nm,op,num,site,args,arms,body⟩:=e
 have hb:∀{l:List TE} {j:Nat},l[j]? = some x->xS n x<=usesTs n l/\(n∈qK x->n∈splitTs l):=by
  intro l
  induction l with
  | nil=>intro j h;simp at h
  | cons y l f=>
   intro j h;rw [usesTs,splitTs];cases j with
   | zero=>simp only [List.getElem?_cons_zero,Option.some.injEq] at h;subst h;exact ⟨by omega,fun h=>List.mem_append_left _ h⟩
   | succ j=>have:=f (j:=j) (by simpa using h);exact ⟨by omega,fun h=>List.mem_append_right _ (this.2 h)⟩
 rw [xS,qK];unfold cQ at h;split at h
 ·cases h
 ·split at h
  ·obtain ⟨a,d,rfl⟩:=Option.map_eq_some_iff.1 h
   have c:=mgQ (show arms[_]? = some a from d);have:=z1m (n:=n) c;exact ⟨by omega,fun b=>List.mem_append_left _ (List.mem_append_right _ (dS c b))⟩
  ·split at h
   ·have:=hb (show body[_]? = some x from h);exact ⟨by omega,fun b=>List.mem_append_right _ (this.2 b)⟩
   ·cases h
theorem z1n {n:Bs}:∀{p:List Int} {up u:List TE} {e x:TE},yD up e p=some (u,x)->xS n x<=xS n e/\(n∈qK x->n∈qK e)
 | [],_,_,_,_,h=>by rw [yD] at h;cases h;exact ⟨Nat.le_refl _,id⟩
 | i::p,up,u,e,x,h=>by
  rw [yD] at h;obtain ⟨y,d,h⟩:=Option.bind_eq_some_iff.1 h;have a:=j7m (n:=n) d;have b:=z1n (n:=n) h;exact ⟨by omega,fun c=>a.2 (b.2 c)⟩
structure Fits (T:Trc) (chg:Bool) (Δ:Sco) (x y:TE):Prop where
 ty:tyT T chg Δ y
 nam:(qE y).Sublist (qE x)
 sit:(vW y).Sublist (vW x)
section
variable {T:Trc} {F:TFn} {Δ:Sco} {x y:TE}
theorem j2s (a:tyT T F.chg Δ x) (d:x.kind≠7) (hb:x.body.length=1):tyT T F.chg (qT Δ x.name (vJ (decide (x.kind=4∨x.kind=6)))) (jQ x)/\(x.name::qE (jQ x)).Sublist (qE x)/\(vW (jQ x)).Sublist (vW x) /\
  (∀n,xS n (jQ x)<=xS n x)/\∀n,n∈qK (jQ x)->n∈qK x:=by
 obtain ⟨k,nm,op,num,site,args,arms,body⟩:=x
 match body,hb with
 | [b],_=>
  unfold tyT at a;refine ⟨a.2.2,?_,?_,fun n=>?_,fun n c=>?_⟩
  ·rw [qE,namTs,namTs,List.append_nil];exact List.sublist_append_right _ _
  ·rw [vW,sitKs,sitKs,List.append_nil];exact (List.sublist_append_right _ _).trans (List.sublist_append_right _ _)
  ·rw [xS,usesTs,usesTs];show xS n b<=_;omega
  ·rw [qK,splitTs];exact List.mem_append_right _ (List.mem_append_left _ c)
theorem q4f {m:Atoms} {b:TE} (h:(⟨T,F⟩:FnS).put m b=some y):y=zR m b/\∀p∈m,p.2.name≠sNo∨p.1∉qK F.body:=by
 unfold FnS.put at h;obtain ⟨a,c⟩:=qD h;exact ⟨(Option.some.inj c).symm,a⟩
theorem y9j (s:tyT T F.chg Δ x) (p:∀n∈qE x,zK Δ n=none) (o:(qE x).Nodup) (O:∀n∈qK x,n∈qK F.body) (q:x.kind≠7) (hb:x.body.length=1) {a:Atom} (m:HasK Δ a (vJ (decide (x.kind=4∨x.kind=6))))
  (h:(⟨T,F⟩:FnS).put [(x.name,a)] (jQ x)=some y):Fits T F.chg Δ x y:=by
 obtain ⟨rfl,r⟩:=q4f h;obtain ⟨j,e,k,w,l⟩:=j2s s q hb;have f:=e.nodup o;obtain ⟨g,i⟩:=List.nodup_cons.1 f;refine ⟨y2x j ⟨i,fun n c=>⟨p n (e.subset (mcQ _ c)),?_⟩,fun n u _ v d=>?_⟩,?_,by rw [z3t];exact k⟩
 ·rw [zK,if_neg fun b=>?_,zK]
  have hc':n=x.name:=by first | exact b | exact b.symm
  exact g (hc'▸c)
 ·rw [yJ] at d
  split at d
  ·rename_i b;have hc':n=x.name:=by first | exact b | exact b.symm
   cases d;refine .inr ⟨a,by rw [hc',zK,if_pos rfl],m,fun t c=>?_⟩;rcases r _ msQ with h | h
   ·exact h t
   ·exact h (O _ (l _ (hc'▸c)))
  ·rename_i b
   refine .inl ⟨?_,d⟩;rw [zK,if_neg (by first | exact b | exact fun h=>b h.symm),zK]
 ·rw [z2z];exact (List.sublist_cons_self _ _).trans e
theorem oZ (a:tyT T F.chg Δ x) (b:x.kind≠7):∃z,yY T F.chg x ⟨[],Δ,[]⟩=some z:=by
 obtain ⟨k,nm,op,num,site,args,arms,body⟩:=x;have hk':¬k=7:=b;unfold tyT at a;rw [if_neg hk'] at a;exact a.1
theorem j9i {nm c:Bs} {body:List TE} {d:TCon} {s:BS} {chg:Bool} (hb:body.length=1) (b:((wH T c).bind fun i=>T.cons[i]?)=some d) (a:d.fields=[]):yY T chg (.mk 2 nm c 0 0 [] [] body) s=some s:=by
 unfold yY;rw [if_neg (show ¬(TE.mk 2 nm c 0 0 [] [] body).kind=1 from (by decide:¬(2:Int)=1)),if_pos (show (TE.mk 2 nm c 0 0 [] [] body).kind=2 from rfl),if_pos ?_]
 ·rw [show (TE.mk 2 nm c 0 0 [] [] body).op=c from rfl,b]
  simp only [TE.args];rw [a];rfl
 ·unfold zB;simp [TE.name,TE.op,TE.num,TE.site,TE.args,TE.arms,TE.body,hb]
theorem fold_ty (q:∀n,kL T n=(wH T n).bind fun i=>(T.cons[i]?).map TCon.fields) (e:tyT T F.chg Δ x) (o:∀n∈qE x,zK Δ n=none) (m:(qE x).Nodup) (O:∀n∈qK x,n∈qK F.body) (a:x.kind=1) (h:(⟨T,F⟩:FnS).fold x=some y):Fits T F.chg Δ x y:=by
 obtain ⟨z,g⟩:=oZ e (by rw [a];decide);have hb:=(oM g).rest (by rw [a];decide) (by rw [a];decide);unfold FnS.fold at h;simp only at h;generalize p:zX x.op (jW x 0).num (jW x 1).num=v at h;split at h
 ·refine y9j e o m O (by rw [a];decide) hb (.inl ⟨rfl,?_⟩) h
  rw [a];rfl
 ·split at h
  ·rename_i c f
   obtain ⟨j,l⟩:=qD h;cases l;obtain ⟨k,nm,op,num,site,args,arms,body⟩:=x;have b:=(oM g).arms (by rw [a];decide);simp only [TE.kind,TE.arms,TE.body] at a b hb;subst a b;rw [q] at f;obtain ⟨i,hi,N⟩:=Option.bind_eq_some_iff.1 f;obtain ⟨d,hd',rfl⟩:=Option.map_eq_some_iff.1 N;show Fits T F.chg Δ _ (.mk 2 nm v.con 0 0 [] [] body);refine ⟨?_,by rw [qE,qE];exact List.Sublist.refl _,by rw [vW,vW];exact List.Sublist.refl _⟩;unfold tyT at e ⊢;refine ⟨?_,e.2⟩;rw [if_neg (by decide)];exact ⟨_,j9i hb (by rw [hi,Option.bind_some];exact hd') (List.length_eq_zero_iff.1 j)⟩
  ·cases h
end
section
variable {T:Trc} {F:TFn} {Δ:Sco} {x y:TE}
theorem dead_ty (g:tyT T F.chg Δ x) (o:∀n∈qE x,zK Δ n=none) (m:(qE x).Nodup) (p:∀n,xS n x<=xS n F.body) (f:1<=x.kind/\x.kind<=6) (s:xS x.name F.body=0):Fits T F.chg Δ x (jQ x):=by
 have d:x.kind≠7:=by omega
 obtain ⟨z,q⟩:=oZ g d;obtain ⟨j,a,k,l,t⟩:=j2s g d ((oM q).rest f.1 f.2);obtain ⟨r,i⟩:=List.nodup_cons.1 (a.nodup m);refine ⟨?_,(List.sublist_cons_self _ _).trans a,k⟩;rw [<- z5q (jQ x)];refine y2x j ⟨i,fun n b=>⟨o n (a.subset (mcQ _ b)),rfl⟩,fun n _ b v c=>.inl ⟨rfl,?_⟩⟩;rw [yJ] at c;split at c
 ·rename_i e;have hc':n=x.name:=by first | exact e | exact e.symm
  have h:=l n;have a2:=p n;rw [hc'] at h a2 b;omega
 ·exact c
theorem j1q (d:tyT T F.chg Δ x) (j:∀n∈qE x,zK Δ n=none) (g:(qE x).Nodup) (O:∀n∈qK x,n∈qK F.body) (e:zK Δ sNo=none) (a:x.kind=5):∀{l:List TE},(∀v∈l,∃i,Above T F.chg Δ v i)->(⟨T,F⟩:FnS).fuse x l=some y->Fits T F.chg Δ x y
 | [],_,h=>by cases h
 | v::l,f,h=>by
  rw [FnS.fuse] at h;split at h
  ·rename_i b
   obtain ⟨z,m⟩:=oZ d (by rw [a];decide);obtain ⟨i,hi⟩:=f v msQ;have c:=hi.nm (by rw [b.1];decide);rw [show vJ (decide (v.kind=4∨v.kind=6))=1 from by rw [b.1];decide] at c;refine y9j d j g O (by rw [a];decide) ((oM m).rest (by rw [a];decide) (by rw [a];decide)) (.inr ⟨fun b=>?_,rfl,?_⟩) h
   ·rw [show (⟨v.name,0⟩:Atom).name=v.name from rfl] at b;rw [b,e] at c;cases c
   ·rw [a];exact c
  ·exact j1q d j g O e a (fun v k=>f v (mcQ _ k)) h
theorem z7s:∀{vs:List Bs} {as_:List Atom} {m:Atoms} {n:Bs},n∉vs->zK ((vs.zip as_).foldl (fun m p=>qT m p.1 p.2) m) n=zK m n
 | [],_,_,_,_=>rfl
 | _::_,[],_,_,_=>rfl
 | v::vs,a::l,m,n,h=>by
  rw [List.zip_cons_cons,List.foldl_cons,z7s fun b=>h (mcQ _ b),yJ,if_neg (fun b=>h (by first | exact b▸msQ | exact b.symm▸msQ))]
theorem j0k:∀{vs:List Bs} {as_:List Atom} {m:Atoms} {j:Nat} {n:Bs} {a:Atom},vs.Nodup->vs[j]? = some n->as_[j]? = some a->zK ((vs.zip as_).foldl (fun m p=>qT m p.1 p.2) m) n=some a
 | [],_,_,_,_,_,_,h,_=>by simp at h
 | _::_,[],_,_,_,_,_,_,h=>by simp at h
 | v::vs,a::l,m,j,n,b,f,h,c=>by
  obtain ⟨d,e⟩:=List.nodup_cons.1 f;rw [List.zip_cons_cons,List.foldl_cons];cases j with
  | zero=>
   simp only [List.getElem?_cons_zero,Option.some.injEq] at h c;subst h c;rw [z7s d,yJ];simp
  | succ j=>exact j0k e (by simpa using h) (by simpa using c)
theorem zip_mem:∀{vs:List Bs} {as_:List Atom} {m:Atoms} {p:Bs×Atom},vs.Nodup->p∈vs.zip as_->p∈(vs.zip as_).foldl (fun m p=>qT m p.1 p.2) m:=fun {vs as_ m p} f i=>by
 obtain ⟨j,g⟩:=List.mem_iff_getElem?.1 i;obtain ⟨a,b,c,d,e⟩:=List.getElem?_zip_eq_some.1 g |> fun h=>(⟨_,_,h.1,h.2,rfl⟩:∃a b,vs[j]? = some a/\as_[j]? = some b/\p=(a,b));exact tD (by rw [e] at *;exact j0k f c d)
theorem uA {Γ:Sco}:∀{l:List Atom} {b:List Bool},(⟨[],Γ,[]⟩:BS).atomL l b=true->l.length=b.length/\∀(j:Nat) (a:Atom),l[j]? = some a->∃c,b[j]? = some c/\HasK Γ a (vJ c)
 | [],[],_=>⟨rfl,fun j a h=>by simp at h⟩
 | [],_::_,h=>by simp [BS.atomL] at h
 | _::_,[],h=>by simp [BS.atomL] at h
 | a::l,c::b,h=>by
  simp only [BS.atomL,baQ] at h;obtain ⟨f,g⟩:=uA h.2;refine ⟨by simp [f],fun j d e=>?_⟩;cases j with
  | zero=>simp only [List.getElem?_cons_zero,Option.some.injEq] at e;subst e;exact ⟨c,rfl,atom_has.1 h.1⟩
  | succ j=>exact g j d (by simpa using e)
theorem HasK.mono {Γ:Sco} {a:Atom} {v:Int} (h:HasK Γ a v) (N:∀n k,zK Γ n=some k->zK Δ n=some k):HasK Δ a v:=by
 rcases h with h | ⟨b,c,d⟩
 ·exact .inl h
 ·exact .inr ⟨b,c,N _ _ d⟩
theorem arm_ty (S:tyT T F.chg Δ x) (P:∀n∈qE x,zK Δ n=none) (M:(qE x).Nodup) (O:∀n∈qK x,n∈qK F.body) (Q:x.kind=7) {con:Bs} {l:List Atom}
  (hl:∀(i:Nat) (d:TCon),T.cons[i]? = some d->d.name=con->∀(j:Nat) (a:Atom),l[j]? = some a->∀c,d.fields[j]? = some c->HasK Δ a (vJ c)) (h:(⟨T,F⟩:FnS).arm x con l=some y):Fits T F.chg Δ x y:=by
 unfold FnS.arm at h;obtain ⟨a,C,h⟩:=Option.bind_eq_some_iff.1 h;obtain ⟨rfl,R⟩:=q4f h;have D:=List.find?_some C;simp only [decide_eq_true_eq] at D;obtain ⟨j,t⟩:=List.mem_iff_getElem?.1 (List.mem_of_find?_eq_some C);obtain ⟨k,nm,op,num,site,args,arms,body⟩:=x;have hk':k=7:=Q;have hx':=S;unfold tyT at hx';rw [if_pos hk'] at hx';obtain ⟨⟨_,_,first,_,I,_⟩,_⟩:=hx';obtain ⟨g1,H⟩:=y2v I (show arms[j]? = some a from t);obtain ⟨pr,sf,K⟩:=uJ (mgQ (show arms[j]? = some a from t))
 have e:(a.vars++qE a.body).Sublist (qE (.mk k nm op num site args arms body)):=by
  rw [qE,K];exact ((List.sublist_append_left _ _).trans (List.sublist_append_right _ _)).trans (List.sublist_append_left _ _)
 obtain ⟨w,E,G⟩:=List.nodup_append.1 (e.nodup M);have B:∀n∈qK a.body,n∈qK F.body:=fun n g=>O n (by rw [qK];exact List.mem_append_left _ (List.mem_append_right _ (dS (mgQ t) g)));refine ⟨y2x H ⟨E,fun n g=>⟨P n (e.subset (List.mem_append_right _ g)),?_⟩,fun n W g v u=>?_⟩,?_,?_⟩
 ·rw [z7s fun N=>G n N n g rfl];rfl
 ·by_cases N:n∈a.vars
  ·obtain ⟨q,hq⟩:=List.mem_iff_getElem?.1 N
   have A:q < l.length:=by have:=(List.getElem?_eq_some_iff.1 hq).1;omega
   have z:=z7e (c:=a.con) (vs:=a.vars) (b:=a.body) (by cases a;exact g1);rw [y1y z w hq] at u;obtain ⟨c,o,rfl⟩:=Option.map_eq_some_iff.1 u;have f:=List.getElem?_eq_getElem A;refine .inr ⟨l[q],j0k w hq f,?_,fun U g=>?_⟩
   ·unfold mM at g1
    split at g1
    ·rename_i c0 d L r
     simp only [baQ,decide_eq_true_eq] at g1;rw [vI,r] at o;exact hl _ d r (g1.1.1.trans D.1) q _ f c o
    ·cases g1
   ·have s:=zip_mem (as_:=l) (m:=[]) (p:=(n,l[q])) w (mgQ (i:=q) (List.getElem?_zip_eq_some.2 ⟨hq,f⟩))
    rcases R _ s with h | h
    ·exact h U
    ·exact h (B n g)
  ·rw [wJ N] at u
   exact .inl ⟨by rw [z7s N];rfl,u⟩
 ·rw [z2z];exact (List.sublist_append_right _ _).trans e
 ·rw [z3t]
  have:∀{l:List TA},a∈l->(vW a.body).Sublist (sitKa l):=by
   intro l
   induction l with
   | nil=>intro h;cases h
   | cons b l V=>
    intro h;cases b with
    | mk c vs b=>
     rw [sitKa];rcases List.mem_cons.1 h with rfl | h
     ·exact List.sublist_append_left _ _
     ·exact (V h).trans (List.sublist_append_right _ _)
  rw [vW];exact ((this (mgQ t)).trans (List.sublist_append_left _ _)).trans (List.sublist_append_right _ _)
end
theorem q1h {T:Trc} (h:qC T=true) {i j:Nat} {c d:TCon} (hi:T.cons[i]? = some c) (a:T.cons[j]? = some d) (b:c.name=d.name):c=d:=by
 have key:∀{i j:Nat} {c d:TCon},i < j->T.cons[i]? = some c->T.cons[j]? = some d->c.name=d.name->False:=by
  intro i j c d e hi a b;have:=z4s h a;unfold nB at this;simp only [baQ,Bool.not_eq_true'] at this;have f:=List.any_eq_false.1 this.1.1.1.1 c (by rw [List.mem_iff_getElem?];exact ⟨i,by rw [List.getElem?_take,if_pos e,hi]⟩);exact f (by simpa using b)
 rcases Nat.lt_trichotomy i j with hl | hl | hl
 ·exact (key hl hi a b).elim
 ·subst hl;rw [hi] at a;exact Option.some.inj a
 ·exact (key hl a hi b.symm).elim
theorem q7d {T:Trc} {n:Bs} {i:Nat} (h:wH T n=some i):∃c,T.cons[i]? = some c/\c.name=n:=by
 unfold wH at h;obtain ⟨a,b,_⟩:=List.findIdx?_eq_some_iff_getElem.1 h;exact ⟨_,List.getElem?_eq_getElem a,by simpa using b⟩
theorem x1d {l:List TFn} (h:(l.map TFn.name).Nodup) {f g:TFn} (d:f∈l) (e:g∈l) (b:f.name=g.name):f=g:=by
 obtain ⟨i,hi,rfl⟩:=List.getElem_of_mem d;obtain ⟨j,a,rfl⟩:=List.getElem_of_mem e
 have key:∀{i j:Nat} (hi:i < l.length) (a:j < l.length),i < j->l[i].name=l[j].name->False:=by
  intro i j hi a c b;have:=(List.pairwise_iff_getElem.1 h) i j (by simpa using hi) (by simpa using a) c;simp only [List.getElem_map] at this;exact this b
 rcases Nat.lt_trichotomy i j with hl | hl | hl
 ·exact (key hi a hl b).elim
 ·subst hl;rfl
 ·exact (key a hi hl b.symm).elim
theorem inst2 {T:Trc} {chg:Bool} {e:TE} {s z:BS} (h:yY T chg e s=some z) (a:e.kind=2):∃i c,wH T e.op=some i/\T.cons[i]? = some c/\s.atomL e.args c.fields=true:=by
 unfold yY at h;rw [if_neg (by rw [a];decide),if_pos a] at h;have h:=(qD h).2;split at h
 ·rename_i c f
  obtain ⟨i,b,d⟩:=Option.bind_eq_some_iff.1 f;exact ⟨i,c,b,d,(qD h).1⟩
 ·cases h
theorem inst4 {T:Trc} {chg:Bool} {e:TE} {s z:BS} (h:yY T chg e s=some z) (a:e.kind=4):∃g∈T.funs,g.name=e.op/\s.atomL e.args (g.params.map TPar.mod)=true:=by
 unfold yY at h;rw [if_neg (by rw [a];decide),if_neg (by rw [a];decide),if_neg (by rw [a];decide),if_pos a] at h;have h:=(qD h).1;rw [baQ] at h;have h:=h.2;unfold BS.call at h;split at h
 ·rename_i g b
  rw [baQ] at h;exact ⟨g,List.mem_of_find?_eq_some b,by simpa using List.find?_some b,h.2⟩
 ·cases h
theorem inst9 {T:Trc} {chg:Bool} {e:TE} {s z:BS} (h:yY T chg e s=some z) (a:e.kind=9):s.atomL e.args [false]=true:=by
 unfold yY at h;rw [if_neg (by rw [a];decide),if_neg (by rw [a];decide),if_neg (by rw [a];decide),if_neg (by rw [a];decide),if_neg (by rw [a];decide),if_neg (by rw [a];decide),if_neg (by rw [a];decide),if_pos a] at h;have h:=(qD h).1;simp only [baQ] at h;exact h.2
section
variable {T:Trc} {F:TFn} {Δ:Sco} {x y:TE}
theorem q2o (r:qC T=true) (B:tyT T F.chg Δ x) (t:∀n∈qE x,zK Δ n=none) (s:(qE x).Nodup) (O:∀n∈qK x,n∈qK F.body) (E:zK Δ sNo=none) (u:x.kind=7) :
  ∀{l:List (TE×Int)},(∀q∈l,Above T F.chg Δ q.1 q.2)->(⟨T,F⟩:FnS).known x l=some y->Fits T F.chg Δ x y
 | [],_,h=>by cases h
 | (v,i)::l,H,h=>by
  have G:=H _ msQ;rw [FnS.known] at h;split at h
  ·rename_i o
   refine arm_ty B t s O u (fun i d f w j a M c e=>?_) h;obtain ⟨Γ,g1,L⟩:=G.ex;obtain ⟨z,C⟩:=oZ (F:=F) g1 (by rw [o.1];decide);obtain ⟨i0,c0,p,e2,e3⟩:=inst2 C o.1;obtain ⟨c0',e4,I⟩:=q7d p;rw [e2] at e4;cases e4;have:=q1h r f e2 (w.trans I.symm);subst this;obtain ⟨c2,D,K⟩:=(uA e3).2 j a M;rw [e] at D;cases D;exact K.mono L
  ·split at h
   ·rename_i o
    obtain ⟨a,k,h'⟩:=Option.bind_eq_some_iff.1 h;obtain ⟨first,j,a',rfl,p,e2,e3⟩:=G.arm o.1;rw [Int.toNat_natCast,p] at k;cases k;refine arm_ty B t s O u (fun i d f w q b hq c e=>?_) h';rw [List.getElem?_map] at hq;obtain ⟨n,A,rfl⟩:=Option.map_eq_some_iff.1 hq;have g:=e3 q n A;unfold mM at e2;split at e2
    ·rename_i c0 P _ m
     simp only [baQ,decide_eq_true_eq] at e2;have:=q1h r f m (w.trans e2.1.1.symm);subst this;rw [vI,m] at g;simp only [e,Option.map_some] at g;refine .inr ⟨fun C=>?_,rfl,g⟩;rw [show n=sNo from C,E] at g;cases g
    ·cases e2
   ·exact q2o r B t s O E u (fun q hq=>H q (mcQ _ hq)) h
theorem z9l (o:Valid T) (A:tyT T F.chg Δ x) (I:∀n∈qE x,zK Δ n=none) (H:(qE x).Nodup) (O:∀n∈qK x,n∈qK F.body) (a:x.kind=5) :
  ∀{l:List TE},(∀v∈l,∃i,Above T F.chg Δ v i)->(⟨T,F⟩:FnS).forward x l=some y->Fits T F.chg Δ x y
 | [],_,h=>by cases h
 | v::l,G,h=>by
  rw [FnS.forward] at h;split at h
  ·rename_i m
   obtain ⟨i,P⟩:=G v msQ;obtain ⟨Γ,g1,M⟩:=P.ex;obtain ⟨z,S⟩:=oZ (F:=F) g1 (by rw [m.1];decide);obtain ⟨g,q,k,f⟩:=inst4 S m.1;obtain ⟨g',j,r⟩:=z4p ⟨g,q,k⟩;have:=x1d o.funs.nd (mgQ j) q (r.trans k.symm);subst this;rw [j,Option.bind_some] at h;split at h
   ·rename_i p Q
    obtain ⟨b,h⟩:=qD h;obtain ⟨U,B⟩:=oZ A (by rw [a];decide);have hG:=o.ty _ q;have e:=hG.ty;have d:=hG.fn;rw [Q] at e d f;obtain ⟨z2,C⟩:=oZ (F:=g') e (by rw [b.1];decide);obtain ⟨D,K⟩:=uA (inst9 C b.1);obtain ⟨c,L,e2⟩:=K 0 _ (List.getElem?_eq_getElem (by rw [D];decide));cases L
    have u:p.name≠sNo:=fun m=>by
     have:=(d.2.1 p.name (by simp)).1;rw [m] at this;revert this;decide
    have s:jW g'.body 0=g'.body.args[0]'(by rw [D];decide):=by unfold jW;rw [List.getElem?_eq_getElem (by rw [D];decide)];rfl
    rw [s] at b
    have t:vJ p.mod=vJ false:=by
     rcases e2 with ⟨e2,_⟩ | ⟨_,_,e2⟩
     ·exact absurd (b.2.symm.trans e2) u
     ·rw [b.2] at e2
      simp only [List.map_cons,List.map_nil,aA,yJ,if_true] at e2;exact Option.some.inj e2
    obtain ⟨E,a2⟩:=uA f;obtain ⟨c,e3,e4⟩:=a2 0 _ (List.getElem?_eq_getElem (by rw [E];simp));simp only [List.map_cons,List.map_nil,List.getElem?_cons_zero,Option.some.injEq] at e3;subst e3;have w:jW v 0=v.args[0]'(by rw [E];simp):=by unfold jW;rw [List.getElem?_eq_getElem (by rw [E];simp)];rfl
    refine y9j A I H O (by rw [a];decide) ((oM B).rest (by rw [a];decide) (by rw [a];decide)) ?_ h;rw [w,a,show vJ (decide ((5:Int)=4∨(5:Int)=6))=vJ false from by decide,<- t];exact e4.mono M
   ·cases h
  ·exact z9l o A I H O a (fun v R=>G v (mcQ _ R)) h
end
theorem FreshN.sub {L NN M:List Bs} (h:FreshN L NN) (O:M.Sublist NN):FreshN L M:=by
 refine ⟨O.nodup h.1,fun n a=>h.2.1 n (O.subset a),?_⟩;have:=O.length_le;rcases h.2.2 with h | h
 ·subst h;exact .inl (List.sublist_nil.1 O)
 ·exact .inr (by omega)
theorem FreshS.sub {L NN M:List Int} (h:FreshS L NN) (O:M.Sublist NN):FreshS L M:=⟨O.nodup h.1,fun n a=>h.2 n (O.subset a)⟩
mutual
theorem y2w {T U:Trc} {chg:Bool} (d:SigQ T U):∀{e:TE} {Γ:Sco},clT (fun n _=>SigEq T U n) e->tyT T chg Γ e->tyT U chg Γ e
 | .mk k nm op num site args arms body,Γ,f,h=>by
  obtain ⟨o,c2,c3⟩:=(dW _).1 f;unfold tyT at h ⊢;refine ⟨?_,ty_sigS d c3 h.2⟩;by_cases g:k=7
  ·rw [if_pos g];rw [if_pos g] at h
   obtain ⟨⟨p,q,first,j,r,m⟩,_⟩:=h;refine ⟨p,q,first,?_,ty_sigA d c2 r,by unfold jN at m ⊢;rw [d.cons];exact m⟩
   match args,arms,j with
   | a::rest,.mk c vs b::arms,j=>exact ⟨j.1,by unfold wH;rw [d.cons];exact j.2⟩
  ·rw [if_neg g];rw [if_neg g] at h
   obtain ⟨⟨z,s⟩,_⟩:=h;exact tB (t:=⟨[],Γ,[]⟩) s (.refl _) d (fun g=>o g) (fun l hl=>hl) (fun _ _ h=>by cases h)
theorem ty_sigS {T U:Trc} {chg:Bool} (d:SigQ T U):∀{l:List TE} {Γ:Sco},clTs (fun n _=>SigEq T U n) l->tyTs T chg Γ l->tyTs U chg Γ l
 | [],_,_,_=>trivial
 | x::l,Γ,f,h=>⟨h.1,y2w d f.1 h.2⟩
theorem ty_sigA {T U:Trc} {chg:Bool} {first:Nat} (d:SigQ T U):∀{l:List TA} {Γ:Sco} {i:Nat},clTa (fun n _=>SigEq T U n) l->tyTa T chg first Γ i l->tyTa U chg first Γ i l
 | [],_,_,_,_=>trivial
 | .mk c vs b::l,Γ,i,f,h=>⟨by have:=h.1;unfold mM at this ⊢;rw [d.cons];exact this,by unfold vI;rw [d.cons];exact y2w d f.1 h.2.1,ty_sigA d f.2 h.2.2⟩
end
mutual
theorem z4l {C:Bs->Nat->Prop} (h:∀n k,C n k):∀e:TE,clT C e
 | .mk k nm op num site args arms body=>(dW _).2 ⟨fun _=>h _ _,cl_allA h arms,cl_allS h body⟩
theorem cl_allS {C:Bs->Nat->Prop} (h:∀n k,C n k):∀l:List TE,clTs C l
 | []=>trivial
 | x::l=>⟨z4l h x,cl_allS h l⟩
theorem cl_allA {C:Bs->Nat->Prop} (h:∀n k,C n k):∀l:List TA,clTa C l
 | []=>trivial
 | .mk _ _ b::l=>⟨z4l h b,cl_allA h l⟩
end
mutual
theorem z8x {C:Bs->Nat->Prop} {n:Bs} (h:∀m k,m≠n->C m k):∀{e:TE},pU n e=false->clT C e
 | .mk k nm op num site args arms body,a=>by
  rw [pU,Bool.or_eq_false_iff,Bool.or_eq_false_iff] at a;refine (dW _).2 ⟨fun d=>h _ _ fun J=>?_,cl_callsA h a.1.2,cl_callsS h a.2⟩;have c:=a.1.1;rw [Bool.and_eq_false_iff] at c;rcases c with c | c
  ·exact (of_decide_eq_false c) d
  ·exact (of_decide_eq_false c) J
theorem cl_callsS {C:Bs->Nat->Prop} {n:Bs} (h:∀m k,m≠n->C m k):∀{l:List TE},callsNs n l=false->clTs C l
 | [],_=>trivial
 | x::l,a=>by rw [callsNs,Bool.or_eq_false_iff] at a;exact ⟨z8x h a.1,cl_callsS h a.2⟩
theorem cl_callsA {C:Bs->Nat->Prop} {n:Bs} (h:∀m k,m≠n->C m k):∀{l:List TA},callsNa n l=false->clTa C l
 | [],_=>trivial
 | .mk _ _ b::l,a=>by rw [callsNa,Bool.or_eq_false_iff] at a;exact ⟨z8x h a.1,cl_callsA h a.2⟩
end
theorem q1q {n:Bs}:∀{l:List TFn} {i:Nat} {f g h:TFn},l[i]? = some f->g.name=f.name->g.chg=f.chg->g.params=f.params->l.find? (fun f=>decide (f.name=n))=some h ->
  ∃h',(l.set i g).find? (fun f=>decide (f.name=n))=some h'/\h'.chg=h.chg/\h'.params=h.params
 | [],_,_,_,_,hi,_,_,_,_=>by simp at hi
 | x::l,0,f,g,h,hi,b,c,d,a=>by
  simp only [List.getElem?_cons_zero,Option.some.injEq] at hi;subst hi;rw [List.set_cons_zero];rw [List.find?_cons] at a ⊢;rw [b];split at a
  ·rename_i e;cases a;exact ⟨g,rfl,c,d⟩
  ·rename_i e;exact ⟨h,a,rfl,rfl⟩
 | x::l,i+1,f,g,h,hi,b,c,d,a=>by
  rw [List.set_cons_succ];rw [List.find?_cons] at a ⊢;split at a
  ·rename_i e;cases a;exact ⟨_,rfl,rfl,rfl⟩
  ·rename_i e
   obtain ⟨h',j,e2⟩:=q1q (n:=n) (l:=l) (i:=i) (by simpa using hi) b c d a;exact ⟨h',j,e2⟩
theorem z9i {n:Bs}:∀{l:List TFn} {i:Nat} {f h:TFn},l[i]? = some f->f.name≠n->l.find? (fun f=>decide (f.name=n))=some h->(l.eraseIdx i).find? (fun f=>decide (f.name=n))=some h
 | [],_,_,_,hi,_,_=>by simp at hi
 | x::l,0,f,h,hi,b,a=>by
  simp only [List.getElem?_cons_zero,Option.some.injEq] at hi;subst hi;rw [List.find?_cons] at a;rw [show decide (x.name=n)=false from decide_eq_false b] at a;exact a
 | x::l,i+1,f,h,hi,b,a=>by
  rw [List.eraseIdx_cons_succ];rw [List.find?_cons] at a ⊢;split at a
  ·exact a
  ·exact z9i (by simpa using hi) b a
theorem q2w:∀{l:List TFn} {i:Nat} {f g:TFn},l[i]? = some f->g.name=f.name->(l.set i g).map TFn.name=l.map TFn.name
 | [],_,_,_,hi,_=>by simp at hi
 | x::l,0,f,g,hi,h=>by
  simp only [List.getElem?_cons_zero,Option.some.injEq] at hi;subst hi;rw [List.set_cons_zero,List.map_cons,List.map_cons,h]
 | x::l,i+1,f,g,hi,h=>by rw [List.set_cons_succ,List.map_cons,List.map_cons,q2w (by simpa using hi) h]
theorem j2y:∀{l:List TFn} {i:Nat} {f g:TFn},l[i]? = some f->(vW g.body).Sublist (vW f.body)->(sitF (l.set i g)).Sublist (sitF l)
 | [],_,_,_,hi,_=>by simp at hi
 | x::l,0,f,g,hi,h=>by
  simp only [List.getElem?_cons_zero,Option.some.injEq] at hi;subst hi;rw [List.set_cons_zero];exact h.append (List.Sublist.refl _)
 | x::l,i+1,f,g,hi,h=>by rw [List.set_cons_succ];exact (List.Sublist.refl (vW x.body)).append (j2y (by simpa using hi) h)
theorem y6w:∀(l:List TFn) (i:Nat),(sitF (l.eraseIdx i)).Sublist (sitF l)
 | [],_=>List.Sublist.refl _
 | x::l,0=>List.sublist_append_right _ _
 | x::l,i+1=>(List.Sublist.refl (vW x.body)).append (y6w l i)
theorem y6j {T U:Trc} {n:Bs} (h:SigEq T U n) (a:mT T n=true):mT U n=true:=by
 unfold mT at a ⊢;split at a
 ·rename_i f d
  obtain ⟨g,e,b,c⟩:=h f d;rw [e];simp only;rw [b,c];exact a
 ·cases a
theorem j7e {T:Trc} {i:Nat} {f:TFn} {b:TE} (h:Valid T) (d:T.funs[i]? = some f) (k:tyT T f.chg (aA [] (f.params.map TPar.name) (f.params.map TPar.mod)) b) (e:(qE b).Sublist (qE f.body)) (O:(vW b).Sublist (vW f.body)) (l:zA b<=zA f.body):Valid (jI T i b):=by
 have j:jI T i b={ T with funs:=T.funs.set i { f with body:=b } }:=by unfold jI;rw [d]
 rw [j];have a:∀n,SigEq T { T with funs:=T.funs.set i { f with body:=b } } n:=fun n g c=>q1q (g:={ f with body:=b }) d rfl rfl rfl c;have hQ:SigQ T { T with funs:=T.funs.set i { f with body:=b } }:=⟨rfl,rfl⟩;refine ⟨by simpa using h.bounds,Nat.le_trans (j2z (g:={ f with body:=b }) d l) h.size,h.heads,⟨by show ((T.funs.set i { f with body:=b }).map TFn.name).Nodup;rw [q2w (g:={ f with body:=b }) d rfl];exact h.funs.nd,fun g c=>?_⟩,fun n e=>y6j (a n) (h.outs n e),fun g c=>?_,h.sites.sub (j2y d O)⟩
 ·rcases List.mem_or_eq_of_mem_set c with c | rfl
  ·exact h.funs.ok g c
  ·exact h.funs.ok f (mgQ d)
 ·rcases List.mem_or_eq_of_mem_set c with c | rfl
  ·exact ⟨(h.ty g c).fn,y2w hQ (z4l (fun n _=>a n) _) (h.ty g c).ty⟩
  ·exact ⟨(h.ty f (mgQ d)).fn.sub ((List.Sublist.refl _).append e),y2w hQ (z4l (fun n _=>a n) _) k⟩
theorem contB {n:Bs}:∀{l:List Bs},n∈l->l.contains n=true
 | x::l,h=>by
  rw [List.contains_cons,wL];rcases List.mem_cons.1 h with rfl | h
  ·rw [decide_eq_true rfl,Bool.true_or]
  ·rw [contB h,Bool.or_true]
theorem q7g {T:Trc} {i:Nat} (h:Valid T) (d:xY T i=true):Valid { T with funs:=T.funs.eraseIdx i }:=by
 unfold xY at d;split at d
 ·rename_i f l
  rw [baQ] at d;have c:∀n,n≠f.name->SigEq T { T with funs:=T.funs.eraseIdx i } n:=fun n e g b=>⟨g,z9i l (fun k=>e k.symm) b,rfl,rfl⟩;have a:(T.funs.eraseIdx i).Sublist T.funs:=List.eraseIdx_sublist _ _;refine ⟨?_,Nat.le_trans (z5n T.funs i) h.size,h.heads,⟨(a.map _).nodup h.funs.nd,fun g b=>h.funs.ok g (a.subset b)⟩,fun n e=>y6j (c n fun k=>?_) (h.outs n e),fun g b=>?_,h.sites.sub (y6w _ _)⟩
  ·have hb:=h.bounds;have hl:=a.length_le;exact ⟨hb.1,hb.2.1,Nat.le_trans hl hb.2.2.1,hb.2.2.2⟩
  ·have:=d.1;subst k;simp only [Bool.not_eq_true'] at this;exact absurd (contB e) (by rw [this];decide)
  ·obtain ⟨j,o,b⟩:=uI b
   refine ⟨(h.ty g (mgQ b)).fn,y2w (T:=T) (U:={ T with funs:=T.funs.eraseIdx i }) ⟨rfl,rfl⟩ (z8x (n:=f.name) (fun m _ N=>c m N) ?_) (h.ty g (mgQ b)).ty⟩;have:=List.all_eq_true.1 d.2 j (List.mem_range.2 (List.getElem?_eq_some_iff.1 b).1);rw [b,Bool.or_eq_true] at this;rcases this with this | this
   ·exact absurd (of_decide_eq_true this) o
   ·simpa using this
 ·cases d
theorem try5_ty {T:Trc} {F:TFn} {x y:TE} {up:List TE} {p:List Int} {Γ Δ:Sco} {r:Int} (a:Valid T) (s:r≠6) (H:Hole T F.chg Γ F.body p up x Δ) (d:zK Δ sNo=none) (t:∀n,xS n x<=xS n F.body) (O:∀n∈qK x,n∈qK F.body)
  (h:(⟨T,F⟩:FnS).try5 r x up p=some y):Fits T F.chg Δ x y:=by
 have m:=valid_iff.2 a;have o:qC T=true:=heads_iff.2 ⟨a.heads,a.funs,a.outs⟩
 have b:∀v∈up.reverse,∃i,Above T F.chg Δ v i:=fun v u=>by
  obtain ⟨j,k⟩:=List.mem_iff_getElem?.1 (List.mem_reverse.1 u);have hl:j < p.length:=by have:=(List.getElem?_eq_some_iff.1 k).1;have:=H.len;omega
  exact ⟨p[j],H.up (v,p[j]) (mgQ (i:=j) (List.getElem?_zip_eq_some.2 ⟨k,List.getElem?_eq_getElem hl⟩))⟩
 unfold FnS.try5 at h;obtain ⟨N,h⟩:=qD h;unfold FnS.may at N;by_cases e:r=1
 ·rw [if_pos e] at h N
  exact fold_ty (fun n=>by unfold kL;rw [if_pos m]) H.ty H.fr H.nd O (of_decide_eq_true N).1 h
 rw [if_neg e] at h N;by_cases f:r=2
 ·rw [if_pos f] at h N
  have N:=of_decide_eq_true N;cases h;exact dead_ty H.ty H.fr H.nd t ⟨N.1,N.2.1⟩ N.2.2
 rw [if_neg f] at h N;by_cases c:r=4
 ·rw [if_neg (by omega),if_pos c] at h
  rw [if_pos c] at N;exact q2o o H.ty H.fr H.nd O d (of_decide_eq_true N) (fun q hq=>H.up q (List.mem_reverse.1 hq)) h
 rw [if_neg c,if_neg s] at N;have l:=(of_decide_eq_true N).1;by_cases g:r=3
 ·rw [if_pos g] at h;exact j1q H.ty H.fr H.nd O d l b h
 ·rw [if_neg g,if_neg c] at h;exact z9l a H.ty H.fr H.nd O l b h
theorem x1a {T:Trc} {F:TFn} {x:TE} {p:List Int} {u:List TE} (d:TyF T F) (f:yD [] F.body p=some (u,x)) :
  ∃Δ,Hole T F.chg (aA [] (F.params.map TPar.name) (F.params.map TPar.mod)) F.body p u x Δ/\zK Δ sNo=none:=by
 have b:=List.nodup_append.1 d.fn.1
 have c:∀n,n∈F.params.map TPar.name++qE F.body->n≠sNo:=fun n e a=>by
  have:=(d.fn.2.1 n e).1;rw [a,j6c] at this;cases this
 obtain ⟨us,Δ,rfl,H⟩:=z7y p d.ty (fun n e=>by rw [wJ fun a=>b.2.2 n a n e rfl];rfl) b.2.1 f;refine ⟨Δ,by simpa using H,?_⟩;cases hl:zK Δ sNo with
 | none=>rfl
 | some v=>
  rcases H.dom _ _ hl with h | h
  ·rw [wJ fun a=>c _ (List.mem_append_left _ a) rfl] at h;cases h
  ·exact absurd rfl (c _ (List.mem_append_right _ h))
theorem z5w {T U:Trc} {r:Rw} (b:Valid T) (h:xD T r=.ok U):Valid U:=by
 unfold xD at h;split at h
 ·split at h
  ·cases h
  split at h
  ·cases h
  split at h
  ·cases h
  split at h
  ·cases h
  split at h
  ·rename_i e;cases h;exact valid_iff.1 e
  ·cases h
 ·rename_i o
  unfold vF at h;split at h
  ·cases h
  split at h
  ·cases h
  split at h
  ·split at h
   ·cases h
   ·rename_i e;cases h
    simp only [not_or] at e;exact q7g b (by simpa using e.2.2)
  split at h
  ·cases h
  rename_i f k;split at h
  ·cases h
  rename_i up x c;split at h
  ·cases h
  split at h
  ·cases h
  rename_i y j;cases h;unfold z8e at k;obtain ⟨F,g,rfl⟩:=Option.map_eq_some_iff.1 k;obtain ⟨Δ,H,l⟩:=x1a (b.ty F (mgQ g)) c;have a:=try5_ty b o H l (fun n=>(z1n c).1) (fun n m=>(z1n c).2 m) j;obtain ⟨p,q,s⟩:=H.put y a.ty a.nam a.sit;have d:=(wV (valid_iff.2 b)).gd F (mgQ g);have i:=(z2d (C:=fun _ _=>True) _ d (z4l (fun _ _=>trivial) _) c).2;exact j7e b g p q s (z5e (gd_try i j) _ d c (y3d j)).2
end Go.Sw
