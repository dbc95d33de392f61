import Derived.Test.YtghdfphedgcpdaaGreatDoorProg
import Derived.Test.YtghdfphedgcpdaaGreatDoorZ03
import Derived.Test.YtghdfphedgcpdaaGreatDoorZ04
import Derived.Test.YtghdfphedgcpdaaGreatDoorZ10
import Derived.Test.YtghdfphedgcpdaaGreatDoorZ11
import Derived.Test.YtghdfphedgcpdaaGreatDoorZ12
import Derived.Test.YtghdfphedgcpdaaGreatDoorZ14
set_option linter.unusedVariables false
set_option linter.unusedSimpArgs false
namespace Go.Sw
theorem wX {s:Bs} (h:kF s=2∨kF s=3):(46:UInt8)∉tx s∧(47:UInt8)∉tx s:=by
 obtain ⟨_,_,h3⟩:=q1g h
 have:∀b∈tx s,b≠46∧b≠47:=fun b hb=>by
  obtain ⟨j,hj,e⟩:=tx_mem hb
  have h4:=h3 j hj
  rw [e] at h4
  simp only [qI,nS,aJ,yZ,Bool.or_eq_true,Bool.and_eq_true,decide_eq_true_eq] at h4
  constructor <;> (rintro rfl;simp at h4)
 exact ⟨fun hc=>(this _ hc).1 rfl,fun hc=>(this _ hc).2 rfl⟩
theorem j8c {s:Bs} (h:kF s=2∨kF s=3):s≠sE:=fun e=>by
 have:=(q1g h).1
 rw [e] at this;exact absurd this (by decide)
theorem z8u {c:UInt8}:∀{a a' b b':Tx},c∉a→c∉a'→a++c::b=a'++c::b'→a=a'∧b=b'
 | [],[],_,_,_,_,h=>by simp at h;exact ⟨rfl,h⟩
 | [],y::a',_,_,_,h2,h=>by
  simp only [List.nil_append,List.cons_append,List.cons.injEq] at h
  exact absurd (by rw [h.1];exact List.mem_cons_self) h2
 | x::a,[],_,_,h1,_,h=>by
  simp only [List.nil_append,List.cons_append,List.cons.injEq] at h
  exact absurd (by rw [← h.1];exact List.mem_cons_self) h1
 | x::a,y::a',b,b',h1,h2,h=>by
  simp only [List.cons_append,List.cons.injEq] at h
  obtain ⟨e1,e2⟩:=z8u (fun hc=>h1 (List.mem_cons_of_mem _ hc)) (fun hc=>h2 (List.mem_cons_of_mem _ hc)) h.2
  exact ⟨by rw [h.1,e1],e2⟩
theorem y2u (a b:Bs):tx (a++b)=tx a++tx b:=by simp [tx,ByteArray.data_append]
theorem y2v {a b:Bs} (h:tx a=tx b):a=b:=by rw [← q9g a,h,q9g]
theorem y6n (s:Bs):tx (inN s)=[105,110]++46::tx s:=by rw [inN,y2u];rfl
theorem q7n (s:Bs) (k:Nat):tx (wQ s k)=tx s++47::y0d (k:Int):=by rw [wQ,y2u,y2u,y0e,tx_ofTx];simp [tx]
theorem y6o (f x:Bs):tx (vrN f x)=tx f++46::tx x:=by rw [vrN,y2u,y2u];simp [tx]
theorem inN_inj {a b:Bs} (h:inN a=inN b):a=b:=by
 have:=congrArg tx h
 rw [y6n,y6n] at this
 exact y2v (z8u (by decide) (by decide) this).2
theorem q9w {f g x y:Bs} (hf:yY f=true) (hg:yY g=true) (h:vrN f x=vrN g y):f=g∧x=y:=by
 have:=congrArg tx h
 rw [y6o,y6o] at this
 obtain ⟨h1,h2⟩:=z8u (wX (.inl (wG hf))).1 (wX (.inl (wG hg))).1 this
 exact ⟨y2v h1,y2v h2⟩
theorem q0w {s t:Bs} {j k:Nat} (hs:qG s=true) (ht:qG t=true) (hj:j < 9223372036854775808) (hk:k < 9223372036854775808) (h:wQ s j=wQ t k):s=t∧j=k:=by
 have:=congrArg tx h
 rw [q7n,q7n] at this
 obtain ⟨h1,h2⟩:=z8u (wX (.inr (q0b hs))).2 (wX (.inr (q0b ht))).2 this
 refine ⟨y2v h1,?_⟩
 have e:aM (j:Int)=aM (k:Int):=by rw [y0e,y0e,h2]
 have h3:=q1i (n:=(j:Int)) ⟨by omega,by omega⟩
 rw [e,q1i (n:=(k:Int)) ⟨by omega,by omega⟩] at h3
 simp only [Option.some.injEq] at h3;omega
theorem z5i {f x g:Bs} (hg:yY g=true):vrN f x≠g:=fun h=>by
 have:=(wX (.inl (wG hg))).1
 rw [← h,y6o] at this;exact this (by simp)
theorem j1r {x g:Bs} (hg:yY g=true):inN x≠g:=fun h=>by
 have:=(wX (.inl (wG hg))).1
 rw [← h,y6n] at this;exact this (by simp)
theorem j1s {x f y:Bs} (hf:yY f=true):inN x≠vrN f y:=fun h=>by
 have:=congrArg tx h
 rw [y6n,y6o] at this
 have e:=(z8u (by decide) (wX (.inl (wG hf))).1 this).1
 have e2:f=⟨#[105,110]⟩:=y2v (e.symm.trans rfl)
 rw [e2] at hf;exact absurd hf (by decide)
theorem z2a (s:Bs) (k:Nat):(47:UInt8)∈tx (wQ s k):=by rw [q7n];simp
theorem in_no {x:Bs} (hx:yY x=true):(47:UInt8)∉tx (inN x):=by
 rw [y6n]
 have:=(wX (.inl (wG hx))).2
 simp [this]
theorem vr_no {f x:Bs} (hf:yY f=true) (hx:yY x=true):(47:UInt8)∉tx (vrN f x):=by
 rw [y6o]
 have h1:=(wX (.inl (wG hf))).2
 have h2:=(wX (.inl (wG hx))).2
 simp [h1,h2]
theorem aT {α β:Type} {f:α→β}:∀{l:List α},(∀a∈l,∀b∈l,f a=f b→a=b)→l.Nodup→(l.map f).Nodup
 | [],_,_=>by simp
 | x::l,h,hn=>by
  obtain ⟨h1,h2⟩:=List.nodup_cons.1 hn
  rw [List.map_cons,List.nodup_cons]
  refine ⟨fun hc =>?_,aT (fun a ha b hb=>h a (List.mem_cons_of_mem _ ha) b (List.mem_cons_of_mem _ hb)) h2⟩
  obtain ⟨y,hy,e⟩:=List.mem_map.1 hc
  exact h1 (h y (List.mem_cons_of_mem _ hy) x List.mem_cons_self e▸hy)
theorem z0y {α β γ:Type} {f:α→List β} {key:α→γ}:∀{l:List α},(l.map key).Nodup→(∀a∈l,(f a).Nodup)→(∀a∈l,∀b∈l,∀x,x∈f a→x∈f b→key a=key b)→(l.flatMap f).Nodup
 | [],_,_,_=>by simp
 | a::l,hk,hf,hd=>by
  rw [List.map_cons] at hk
  obtain ⟨h1,h2⟩:=List.nodup_cons.1 hk
  rw [List.flatMap_cons,List.nodup_append]
  refine ⟨hf a List.mem_cons_self,z0y h2 (fun b hb=>hf b (List.mem_cons_of_mem _ hb)) (fun b hb c hc=>hd b (List.mem_cons_of_mem _ hb) c (List.mem_cons_of_mem _ hc)),fun x hx y hy e =>?_⟩
  subst e
  obtain ⟨b,hb,hxb⟩:=List.mem_flatMap.1 hy
  exact h1 (by rw [hd a List.mem_cons_self b (List.mem_cons_of_mem _ hb) x hx hxb];exact List.mem_map_of_mem hb)
structure FunOk (c:Core) (f:Fun):Prop where
 name:yY f.name=true
 nodup:(f.params.map Param.name++zS f.body).Nodup
 names:∀v∈f.params.map Param.name++zS f.body,yY v=true
 ty:Tyd (zR c) (gI f.params) f.body f.result
theorem data_no {c:Core} (h:Right c):zH (zR c).datas sNo=none:=by
 cases hg:zH (zR c).datas sNo with
 | none=>rfl
 | some d =>
  rw [h.datas] at hg
  obtain ⟨x,hx,e,_⟩:=jI hg
  have:=(h.dN x hx).1
  rw [e,z2b] at this;cases this
theorem z4g {c:Core} (h:Right c) {f:Fun} (hf:f∈c.funs):FunOk c f:=by
 have h1:=h.fOk f hf
 simp only [pK,Bool.and_eq_true,decide_eq_true_eq] at h1
 obtain ⟨n1,_,n3⟩:=oH h1.1.2
 have hn:=yV n1
 have hne:f.result≠sNo:=q9u h h1.1.1.2
 refine ⟨h.fN f hf,n1,n3,?_⟩
 have:=z5g (zR c) (data_no h) _ f.body (gI f.params) (Nat.lt_succ_self _) hn.2.1 (fun m hm=>by
  rw [uR,mG (fun hp=>hn.2.2 m hp hm)];rfl) (by rw [h1.2];exact hne)
 rwa [h1.2] at this
section
variable {c:Core}
theorem q5l {p:Param} (h:p∈c.inputs):inN p.name∈zN c:=List.mem_append_left _ (List.mem_append_left _ (List.mem_map_of_mem (f:=fun p=>inN p.name) h))
theorem y8d {d:Data} {x:Con} {k:Nat} (hd:d∈c.datas) (hx:x∈d.cons) (hk:k < x.fields.length):wQ x.name k∈zN c :=
 List.mem_append_left _ (List.mem_append_right _ (List.mem_flatMap.2 ⟨d,hd,List.mem_flatMap.2 ⟨x,hx,List.mem_map_of_mem (List.mem_range.2 hk)⟩⟩))
theorem mem_fn {f:Fun} (h:f∈c.funs):f.name∈zN c:=List.mem_append_right _ (List.mem_flatMap.2 ⟨f,h,List.mem_cons_self⟩)
theorem mem_vr {f:Fun} {v:Bs} (h:f∈c.funs) (hv:v∈f.params.map Param.name++zS f.body):vrN f.name v∈zN c:=by
 refine List.mem_append_right _ (List.mem_flatMap.2 ⟨f,h,List.mem_cons_of_mem _ ?_⟩)
 rw [List.mem_append] at hv ⊢
 rcases hv with hv | hv
 ·obtain ⟨p,hp,rfl⟩:=List.mem_map.1 hv
  exact .inl (List.mem_map_of_mem (f:=fun p=>vrN f.name p.name) hp)
 ·exact .inr (List.mem_map_of_mem hv)
theorem y5q {n:Bs} (h:n∈zN c):(∃p∈c.inputs,n=inN p.name)∨(∃d∈c.datas,∃x∈d.cons,∃k,k < x.fields.length∧n=wQ x.name k)∨(∃f∈c.funs,n=f.name∨∃v∈f.params.map Param.name++zS f.body,n=vrN f.name v):=by
 rw [zN,List.mem_append,List.mem_append] at h
 rcases h with (h | h) | h
 ·obtain ⟨p,hp,e⟩:=List.mem_map.1 h;exact .inl ⟨p,hp,e.symm⟩
 ·obtain ⟨d,hd,h⟩:=List.mem_flatMap.1 h
  obtain ⟨x,hx,h⟩:=List.mem_flatMap.1 h
  obtain ⟨k,hk,e⟩:=List.mem_map.1 h
  exact .inr (.inl ⟨d,hd,x,hx,k,List.mem_range.1 hk,e.symm⟩)
 ·obtain ⟨f,hf,h⟩:=List.mem_flatMap.1 h
  refine .inr (.inr ⟨f,hf,?_⟩)
  rcases List.mem_cons.1 h with e | h
  ·exact .inl e
  ·rw [List.mem_append] at h
   rcases h with h | h
   ·obtain ⟨p,hp,e⟩:=List.mem_map.1 h;exact .inr ⟨p.name,List.mem_append_left _ (List.mem_map_of_mem hp),e.symm⟩
   ·obtain ⟨v,hv,e⟩:=List.mem_map.1 h;exact .inr ⟨v,List.mem_append_right _ hv,e.symm⟩
theorem z1q (h:Right c) {d:Data} {x:Con} (hd:d∈c.datas) (hx:x∈d.cons):qG x.name=true:=(h.dN d (List.mem_cons_of_mem _ hd)).2.2.2 x hx
theorem q4e (h:Right c):((c.datas.flatMap Data.cons).map Con.name).Nodup:=by
 have:=h.cU
 rw [List.map_cons,List.flatten_cons] at this
 have h2:=(List.nodup_append.1 this).2.1
 rw [List.map_flatMap]
 exact h2
theorem q1u (h:Right c) (hl:xL c=false):(zN c).Nodup:=by
 have hfl:∀d∈c.datas,∀x∈d.cons,x.fields.length≤16:=fun d hd x hx=>by
  simp only [xL,Bool.or_eq_false_iff] at hl
  have h1:(c.datas.any z5y)=false:=by simp_all
  have h2:=List.any_eq_false.1 h1 d hd
  simp only [z5y,Bool.or_eq_true,not_or,decide_eq_true_eq,List.any_eq_true,not_exists,not_and] at h2
  have:=h2.2 x hx;omega
 have hfun:∀f∈c.funs,FunOk c f:=fun f hf=>z4g h hf
 rw [zN,List.nodup_append,List.nodup_append]
 refine ⟨⟨?_,?_,?_⟩,?_,?_⟩
 ·have:=h.iU
  rw [show (c.inputs.map fun p=>inN p.name)=(c.inputs.map Param.name).map inN by rw [List.map_map];rfl]
  exact aT (fun a _ b _ e=>inN_inj e) this
 ·have e:c.datas.flatMap y3f=(c.datas.flatMap Data.cons).flatMap fun x=>z9k x.name x.fields.length:=by
   rw [List.flatMap_assoc];rfl
  have hm:∀x∈c.datas.flatMap Data.cons,qG x.name=true∧x.fields.length≤16:=fun x hx=>by
   obtain ⟨d,hd,hx⟩:=List.mem_flatMap.1 hx
   exact ⟨z1q h hd hx,hfl d hd x hx⟩
  rw [e]
  refine z0y (key:=Con.name) (q4e h) (fun x hx =>?_) (fun x hx y hy z hz hz' =>?_)
  ·obtain ⟨c1,c2⟩:=hm x hx
   exact aT (fun a ha b hb e=>(q0w c1 c1 (by have:=List.mem_range.1 ha;omega) (by have:=List.mem_range.1 hb;omega) e).2) List.nodup_range
  ·obtain ⟨i,hi,rfl⟩:=List.mem_map.1 hz
   obtain ⟨j,hj,e⟩:=List.mem_map.1 hz'
   have:=List.mem_range.1 hi;have:=List.mem_range.1 hj
   have:=(hm x hx).2;have:=(hm y hy).2
   exact (q0w (hm y hy).1 (hm x hx).1 (by omega) (by omega) e).1.symm
 ·intro a ha b hb e
  subst e
  obtain ⟨p,hp,rfl⟩:=List.mem_map.1 ha
  obtain ⟨d,hd,hb⟩:=List.mem_flatMap.1 hb
  obtain ⟨x,hx,hb⟩:=List.mem_flatMap.1 hb
  obtain ⟨k,hk,e⟩:=List.mem_map.1 hb
  exact in_no (h.iN p hp) (by have:=z2a x.name k;rw [e] at this;exact this)
 ·have hu:=h.fU
  refine z0y (key:=Fun.name) hu (fun f hf =>?_) (fun f hf g hg x hx hx' =>?_)
  ·have F:=hfun f hf
   have e:((f.params.map fun p=>vrN f.name p.name)++(zS f.body).map (vrN f.name))=(f.params.map Param.name++zS f.body).map (vrN f.name):=by
    rw [List.map_append,List.map_map];rfl
   rw [z0l,e,List.nodup_cons]
   refine ⟨fun hc =>?_,aT (fun a _ b _ e=>(q9w F.name F.name e).2) F.nodup⟩
   obtain ⟨v,_,e⟩:=List.mem_map.1 hc
   exact z5i F.name e
  ·have F:=hfun f hf;have G:=hfun g hg
   have key:∀(k:Fun),x∈z0l k→x=k.name∨∃v,x=vrN k.name v:=fun k hk=>by
    rcases List.mem_cons.1 hk with e | hk
    ·exact .inl e
    ·rw [List.mem_append] at hk
     rcases hk with hk | hk
     ·obtain ⟨p,_,e⟩:=List.mem_map.1 hk;exact .inr ⟨p.name,e.symm⟩
     ·obtain ⟨v,_,e⟩:=List.mem_map.1 hk;exact .inr ⟨v,e.symm⟩
   rcases key f hx with e1 | ⟨v,e1⟩
   ·rcases key g hx' with e2 | ⟨u,e2⟩
    ·exact e1.symm.trans e2
    ·exact absurd (e2.symm.trans e1) (z5i F.name)
   ·rcases key g hx' with e2 | ⟨u,e2⟩
    ·exact absurd (e1.symm.trans e2) (z5i G.name)
    ·exact (q9w F.name G.name (e1.symm.trans e2)).1
 ·intro a ha b hb e
  subst e
  obtain ⟨f,hf,hb⟩:=List.mem_flatMap.1 hb
  have F:=hfun f hf
  have hb':a=f.name∨∃v∈f.params.map Param.name++zS f.body,a=vrN f.name v:=by
   rcases List.mem_cons.1 hb with e | hb
   ·exact .inl e
   ·rw [List.mem_append] at hb
    rcases hb with hb | hb
    ·obtain ⟨p,hp,e⟩:=List.mem_map.1 hb;exact .inr ⟨p.name,List.mem_append_left _ (List.mem_map_of_mem hp),e.symm⟩
    ·obtain ⟨v,hv,e⟩:=List.mem_map.1 hb;exact .inr ⟨v,List.mem_append_right _ hv,e.symm⟩
  rw [List.mem_append] at ha
  rcases ha with ha | ha
  ·obtain ⟨p,hp,rfl⟩:=List.mem_map.1 ha
   rcases hb' with e | ⟨v,_,e⟩
   ·exact j1r F.name e
   ·exact j1s F.name e
  ·obtain ⟨d,hd,ha⟩:=List.mem_flatMap.1 ha
   obtain ⟨x,hx,ha⟩:=List.mem_flatMap.1 ha
   obtain ⟨k,hk,rfl⟩:=List.mem_map.1 ha
   rcases hb' with e | ⟨v,hv,e⟩
   ·have:=z2a x.name k;rw [e] at this;exact (wX (.inl (wG F.name))).2 this
   ·have:=z2a x.name k;rw [e] at this;exact vr_no F.name (F.names v hv) this
theorem j9g (h:Right c):sE∉zN c:=fun hc=>by
 rcases y5q hc with ⟨p,_,e⟩ | ⟨d,_,x,_,k,_,e⟩ | ⟨f,hf,e | ⟨v,_,e⟩⟩
 ·have:=congrArg tx e;rw [y6n] at this;cases this
 ·have:=z2a x.name k;rw [← e] at this;cases this
 ·exact j8c (.inl (wG (h.fN f hf))) e.symm
 ·have:=congrArg tx e;rw [y6o] at this
  have h2:(46:UInt8)∈tx sE:=by rw [this];simp
  cases h2
theorem j9m:∀{l:List Fun} {m:Pars},(l.map Fun.name).Nodup→(∀f∈l,zH m f.name=none)→∀f∈l,zH (l.foldl (fun m f=>qM m f.name f.params) m) f.name=some f.params:=by
 have keep:∀(l:List Fun) (m:Pars) (n:Bs),n∉l.map Fun.name→zH (l.foldl (fun m f=>qM m f.name f.params) m) n=zH m n:=by
  intro l
  induction l with
  | nil=>intro m n _;rfl
  | cons g l ih =>
   intro m n hn
   rw [List.map_cons,List.mem_cons,not_or] at hn
   rw [List.foldl_cons,ih _ _ hn.2,jE,if_neg hn.1]
 intro l
 induction l with
 | nil=>intro m _ _ f hf;cases hf
 | cons g l ih =>
  intro m hn hm f hf
  rw [List.map_cons] at hn
  obtain ⟨h1,h2⟩:=List.nodup_cons.1 hn
  rw [List.foldl_cons]
  rcases List.mem_cons.1 hf with rfl | hf
  ·rw [keep _ _ _ h1,jE,if_pos rfl]
  ·refine ih h2 (fun k hk =>?_) f hf
   rw [jE,if_neg]
   ·exact hm k (List.mem_cons_of_mem _ hk)
   ·intro e;exact h1 (e▸List.mem_map_of_mem hk)
theorem y8m (h:Right c) {g:Bs} {f:Fun} (hg:zH (zR c).funs g=some f):zH (wZ c) g=some f.params:=by
 rw [h.funs] at hg
 obtain ⟨x,hx,e1,e2⟩:=jI hg
 have e3:x=f:=e2
 subst e3;subst e1
 exact j9m h.fU (fun _ _=>rfl) x hx
theorem ends_ok (h:Right c) {f:Fun} (hf:f∈c.funs):Ends (zR c) (wZ c) f.name (f.params.map Param.name++zS f.body) (fun n=>n∈zN c) where
 var v hv:=mem_vr hf hv
 inp i t hi:=by
  rw [h.inputs] at hi
  obtain ⟨p,hp,e,_⟩:=jI hi
  exact e▸q5l hp
 fn g k hg:=by
  have hp:=y8m h hg
  rw [h.funs] at hg
  obtain ⟨x,hx,e1,e2⟩:=jI hg
  have e3:x=k:=e2
  subst e3;subst e1
  exact ⟨mem_fn hx,fun p hpp=>mem_vr hx (List.mem_append_left _ (List.mem_map_of_mem hpp)),hp⟩
 con k m hm j hj:=by
  rw [h.cons] at hm
  obtain ⟨d,hd,e1,e2,e3⟩:=z3s hm
  rcases List.mem_cons.1 hd with rfl | hd
  ·simp only [truthsD,List.mem_cons,List.not_mem_nil,or_false] at e2
   rcases e2 with e | e <;> (rw [e] at hj;simp at hj)
  ·rw [← e3];exact y8d hd e2 hj
 arm t d hd x hx j hj:=by
  rw [h.datas] at hd
  obtain ⟨y,hy,_,e2⟩:=jI hd
  have e3:y=d:=e2
  subst e3
  rcases List.mem_cons.1 hy with rfl | hy
  ·simp only [truthsD,List.mem_cons,List.not_mem_nil,or_false] at hx
   rcases hx with e | e <;> (rw [e] at hj;simp at hj)
  ·exact y8d hy hx hj
theorem z4i {f:Fun}:InV (f.params.map Param.name++zS f.body) (gI f.params):=fun n x hx=>by
 rw [uR] at hx
 by_cases hn:n∈f.params.map Param.name
 ·exact List.mem_append_left _ hn
 ·rw [mG hn] at hx;cases hx
theorem y5i {i:Param} {x:Bs} {z:Flow}:∀{l:List Bs} {k:Nat},z∈dP i x k l→∃j,j < l.length∧z=(inN i.name,wQ x (k+j))
 | [],_,h=>by cases h
 | t::l,k,h=>by
  simp only [dP,List.mem_append] at h
  rcases h with h | h
  ·split at h
   ·rw [List.mem_singleton] at h;exact ⟨0,by simp,h⟩
   ·cases h
  ·obtain ⟨j,h1,h2⟩:=y5i h
   exact ⟨j+1,by simp;omega,by rw [h2,show k+1+j=k+(j+1) by omega]⟩
theorem y9l (h:Right c):∀a b,(a,b)∈xJ c→a∈zN c∧b∈zN c:=fun a b hab=>by
 rw [xJ,List.mem_append] at hab
 rcases hab with hab | hab
 ·obtain ⟨i,hi,hab⟩:=List.mem_flatMap.1 hab
  obtain ⟨d,hd,hab⟩:=List.mem_flatMap.1 hab
  unfold z5v at hab
  split at hab
  ·obtain ⟨x,hx,hab⟩:=List.mem_flatMap.1 hab
   obtain ⟨j,hj,e⟩:=y5i hab
   cases e
   rw [Nat.zero_add]
   exact ⟨q5l hi,y8d hd hx hj⟩
  ·cases hab
 ·obtain ⟨f,hf,hab⟩:=List.mem_flatMap.1 hab
  have F:=z4g h hf
  have E:=ends_ok h hf
  have hb:∀b∈zS f.body,b∈f.params.map Param.name++zS f.body:=fun b hb=>List.mem_append_right _ hb
  rw [cQ,List.mem_append] at hab
  rcases hab with hab | hab
  ·exact z8a E F.ty z4i hb (mem_fn hf) a b hab
  ·exact j1f E F.ty z4i hb a b hab
theorem j7y (h:Right c) (hl:xL c=false):GOk (zN c) (jM c) where
 nd:=q1u h hl
 ends a b hab:=y9l h a b ((z2q _ _).1 hab)
 ne:=j9g h
theorem y9v (h:Right c) {f:Fun} (hf:f∈c.funs):mE (wZ c) f.body:=flow_ok (fun _ _ hg=>y8m h hg) (z4g h hf).ty
end
end Go.Sw

namespace Go.Sw
section
variable {α:Type} [DecidableEq α] {a l m:List α} {x y:α}
end
section
variable {T:Table} {pm:Pars} {f:Bs}
end
end Go.Sw

namespace Go.Sw
section
variable {f s:Bs} {pm:Pars}
theorem srcS_le:∀l:List Ex,(srcS f l).length≤(srcPs f l).length
 | []=>Nat.le_refl _
 | [_]=>by simp [srcS,srcH]
 | x::y::l=>by simp only [srcS,srcH,srcPs,List.length_append];omega
theorem srcH_le:∀l:List Ex,(srcH f l).length≤(srcPs f l).length
 | []=>Nat.le_refl _
 | x::l=>by simp only [srcH,srcPs,List.length_append];omega
mutual
theorem z3c:∀(e:Ex) (l:Int),(jC e l).1=false→((xG f e).length:Int)≤l - (jC e l).2∧(jC e l).2+1≤l
 | .mk k n s args arms,l=>by
  intro h
  simp only [jC] at h ⊢
  split at h
  ·cases h
  ·rename_i hl
   rw [if_neg hl]
   cases hm:meass args (l - 1) with
   | mk b q =>
    rw [hm] at h
    cases b with
    | true=>cases h
    | false =>
     have k1:=srcPs_len args (l - 1) (by rw [hm])
     have k2:=srcPa_len arms q h
     rw [hm] at k1
     have k3:=srcS_le (f:=f) args
     have k4:=srcH_le (f:=f) args
     simp only at k1 k2 ⊢
     have k5:(xG f (.mk k n s args arms)).length≤1+(srcPs f args).length+(srcPa f arms).length:=by
      simp only [xG]
      repeat' split
      all_goals first | omega | (simp only [List.length_append,List.length_cons,List.length_nil];omega)
     omega
theorem srcPs_len:∀(es:List Ex) (l:Int),(meass es l).1=false→((srcPs f es).length:Int)≤l - (meass es l).2∧(meass es l).2≤l
 | [],l=>by intro _;simp [srcPs,meass]
 | e::es,l=>by
  intro h
  simp only [meass] at h ⊢
  cases hm:jC e l with
  | mk b q =>
   rw [hm] at h
   cases b with
   | true=>cases h
   | false =>
    have k1:=z3c e l (by rw [hm])
    have k2:=srcPs_len es q h
    rw [hm] at k1
    simp only [srcPs,List.length_append] at k1 ⊢
    omega
theorem srcPa_len:∀(es:List Arm) (l:Int),(measa es l).1=false→((srcPa f es).length:Int)≤l - (measa es l).2∧(measa es l).2≤l
 | [],l=>by intro _;simp [srcPa,measa]
 | .mk c vs b::es,l=>by
  intro h
  simp only [measa] at h ⊢
  split at h
  ·cases h
  ·rename_i hv
   rw [if_neg hv]
   cases hm:jC b l with
   | mk q0 q =>
    rw [hm] at h
    cases q0 with
    | true=>cases h
    | false =>
     have k1:=z3c b l (by rw [hm])
     have k2:=srcPa_len es q h
     rw [hm] at k1
     simp only [srcPa,List.length_append] at k1 ⊢
     omega
end
theorem y9a (node:Bs) (e:Ex):(toP f node e).length≤(xG f e).length:=by rw [toP,List.length_map];exact dR _
theorem q8o:∀(l:List Ex) (k:Nat),(z6n f s k l).length≤(srcPs f l).length
 | [],_=>Nat.le_refl _
 | x::l,k=>by have h1:=y9a (f:=f) (wQ s k) x;have h2:=q8o l (k+1);simp only [z6n,srcPs,List.length_append];omega
theorem y9x:∀(ps:List Param) (l:List Ex),(dK f s ps l).length≤(srcPs f l).length
 | [],l=>by simp [dK]
 | _::_,[]=>Nat.le_refl _
 | p::ps,x::l=>by have h1:=y9a (f:=f) (vrN s p.name) x;have h2:=y9x ps l;simp only [dK,srcPs,List.length_append];omega
theorem letF_le:∀(l:List Ex),(letF f s l).length≤(srcPs f l).length
 | []=>Nat.le_refl _
 | x::l=>by have h1:=y9a (f:=f) (vrN f s) x;simp only [letF,srcPs,List.length_append];omega
theorem q3h:∀(l:List Bs) (k:Nat),(z7r f s k l).length=l.length
 | [],_=>rfl
 | _::l,k=>by simp only [z7r,List.length_cons,q3h l (k+1)]
theorem q8c:∀(es:List Arm) (l:Int),(measa es l).1=false→((z1n f es).length:Int)≤16 * (l - (measa es l).2)
 | [],l=>by intro _;simp [z1n,measa]
 | .mk c vs b::es,l=>by
  intro h
  simp only [measa] at h ⊢
  split at h
  ·cases h
  ·rename_i hv
   rw [if_neg hv]
   cases hm:jC b l with
   | mk q0 q =>
    rw [hm] at h
    cases q0 with
    | true=>cases h
    | false =>
     have k1:=z3c (f:=f) b l (by rw [hm])
     have k2:=q8c es q h
     rw [hm] at k1
     have e:(z1n f (.mk c vs b::es)).length=vs.length+(z1n f es).length:=by simp only [z1n,List.flatMap_cons,List.length_append,Arm.con,Arm.vars,q3h]
     rw [e];simp only at k1 ⊢;omega
theorem j8b (e:Ex) {l q:Int} (hl:1≤l) (h1:(meass e.args (l - 1)).1=false) (h2:(measa e.arms (meass e.args (l - 1)).2).1=false):((kN pm f e).length:Int)≤16 * l:=by
 have k1:=srcPs_len (f:=f) e.args (l - 1) h1
 have k2:=q8c (f:=f) e.arms _ h2
 have k3:=meass_le e.args (l - 1) h1 (by omega)
 have k4:=measa_le e.arms _ h2 k3.1
 unfold kN
 split
 ·have:=q8o (f:=f) (s:=e.name) e.args 0;omega
 ·split
  ·have:=y9x (f:=f) (s:=e.name) ((zH pm e.name).getD []) e.args;omega
  ·split
   ·have:=letF_le (f:=f) (s:=e.name) e.args;omega
   ·split
    ·omega
    ·simp;omega
mutual
theorem z4d:∀(e:Ex) (l:Int),l≤6000→(jC e l).1=false→((vL pm f e).length:Int)≤96000 * (l - (jC e l).2)
 | .mk k n s args arms,l=>by
  intro h0 h
  simp only [jC] at h ⊢
  split at h
  ·cases h
  ·rename_i hl
   rw [if_neg hl]
   cases hm:meass args (l - 1) with
   | mk b q =>
    rw [hm] at h
    cases b with
    | true=>cases h
    | false =>
     have k0:=meass_le args (l - 1) (by rw [hm]) (by omega)
     have k1:=flowPs_len args (l - 1) (by omega) (by rw [hm])
     have k2:=flowPa_len arms q (by rw [hm] at k0;simp only at k0;omega) h
     have k3:=j8b (pm:=pm) (f:=f) (.mk k n s args arms) (l:=l) (q:=0) (by omega) (by simp only [Ex.args];rw [hm]) (by simp only [Ex.args,Ex.arms];rw [hm];exact h)
     rw [hm] at k1
     simp only [vL,List.length_append] at k1 k2 ⊢
     omega
theorem flowPs_len:∀(es:List Ex) (l:Int),l≤6000→(meass es l).1=false→((flowPs pm f es).length:Int)≤96000 * (l - (meass es l).2)
 | [],l=>by intro _ _;simp [flowPs,meass]
 | e::es,l=>by
  intro h0 h
  simp only [meass] at h ⊢
  cases hm:jC e l with
  | mk b q =>
   rw [hm] at h
   cases b with
   | true=>cases h
   | false =>
    have k1:=z4d e l h0 (by rw [hm])
    have k0:=(mB e l (by rw [hm])).2
    rw [hm] at k1 k0
    have k2:=flowPs_len es q (by simp only at k0;omega) h
    simp only [flowPs,List.length_append] at k1 ⊢
    omega
theorem flowPa_len:∀(es:List Arm) (l:Int),l≤6000→(measa es l).1=false→((flowPa pm f es).length:Int)≤96000 * (l - (measa es l).2)
 | [],l=>by intro _ _;simp [flowPa,measa]
 | .mk c vs b::es,l=>by
  intro h0 h
  simp only [measa] at h ⊢
  split at h
  ·cases h
  ·rename_i hv
   rw [if_neg hv]
   cases hm:jC b l with
   | mk q0 q =>
    rw [hm] at h
    cases q0 with
    | true=>cases h
    | false =>
     have k1:=z4d b l h0 (by rw [hm])
     have k0:=(mB b l (by rw [hm])).2
     rw [hm] at k1 k0
     have k2:=flowPa_len es q (by simp only at k0;omega) h
     simp only [flowPa,List.length_append] at k1 ⊢
     omega
end
end
structure TTidy (T:Table):Prop where
 inp:∀n t,zH T.inputs n=some t→n.size≤1000
 fn:∀n f,zH T.funs n=some f→n.size≤1000∧f.params.length≤1000
 con:∀n m,zH T.cons n=some m→n.size≤1000∧m.con.fields.length≤1000
 arm:∀n d,zH T.datas n=some d→∀x∈d.cons,x.name.size≤1000∧x.fields.length≤1000
theorem tidy_of {T:Table} (hT:TTidy T) {V:List Bs} (hV:∀v∈V,v.size≤1000) {s:Scope} {e:Ex} {t:Bs} (h:Tyd T s e t):InV V s→(∀b∈zS e,b∈V)→pU e:=by
 induction h with
 | num hk ha hb=>intro _ _;rw [pV,ha,hb];simp [hk]
 | var hk ha hb hv=>intro hs _;rw [pV,ha,hb];exact ⟨fun _ _=>hV _ (hs _ _ hv),by simp,by simp,by simp⟩
 | inp hk ha hb hv=>intro hs _;rw [pV,ha,hb];exact ⟨fun _ _=>hT.inp _ _ hv,by simp,by simp,by simp⟩
 | @con s e m hk hz hm hl hty ih =>
  intro hs hb
  obtain ⟨h1,h2⟩:=hT.con _ _ hm
  rw [pV,hz]
  refine ⟨fun _ _=>h1,by omega,fun x hx =>?_,by simp⟩
  obtain ⟨i,hi⟩:=List.getElem?_of_mem hx
  obtain ⟨u,hu⟩:=zX (l:=m.con.fields) (i:=i) (by have:=(List.getElem?_eq_some_iff.1 hi).1;omega)
  exact ih i x u hi hu hs (xF hb hx)
 | @call s e g hk hz hm hl hty ih =>
  intro hs hb
  obtain ⟨h1,h2⟩:=hT.fn _ _ hm
  rw [pV,hz]
  refine ⟨fun _ _=>h1,by omega,fun x hx =>?_,by simp⟩
  obtain ⟨i,hi⟩:=List.getElem?_of_mem hx
  obtain ⟨u,hu⟩:=zX (l:=g.params) (i:=i) (by have:=(List.getElem?_eq_some_iff.1 hi).1;omega)
  exact ih i x u hi hu hs (xF hb hx)
 | let_ hk hz hxy _ _ ih1 ih2 =>
  intro hs hb
  rw [pV,hz,hxy]
  refine ⟨fun _ _=>hV _ (z7u hb hk),by simp,fun x hx =>?_,by simp⟩
  rcases List.mem_cons.1 hx with rfl | hx
  ·exact ih1 hs (xF hb (by rw [hxy];simp))
  ·rw [List.mem_singleton] at hx;subst hx
   exact ih2 (hs.put (z7u hb hk)) (xF hb (by rw [hxy];simp))
 | @case_ s e x dt u d hk hx hty hd hle hc hta ih1 ih2 =>
  intro hs hb
  rw [pV,hx]
  refine ⟨fun _ h=>(by omega),by simp,fun y hy =>?_,fun a ha =>?_⟩
  ·rw [List.mem_singleton] at hy;subst hy;exact ih1 hs (xF hb (by rw [hx];simp))
  ·obtain ⟨i,hi⟩:=List.getElem?_of_mem ha
   obtain ⟨c,hci⟩:=zX (l:=d.cons) (i:=i) (by have:=(List.getElem?_eq_some_iff.1 hi).1;omega)
   have hb':=z7t hb ha
   obtain ⟨h1,h2⟩:=hT.arm _ _ hd c (List.mem_of_getElem? hci)
   obtain ⟨g1,g2⟩:=hc i a c hi hci
   refine ⟨by rw [g1];exact h1,by omega,fun v hv=>hV _ (hb' v (List.mem_append_left _ hv)),?_⟩
   exact ih2 i a c hi hci (hs.putAll fun v hv=>hb' v (List.mem_append_left _ hv)) (fun b hbb=>hb' b (List.mem_append_right _ hbb))
 | op hk hz hxy _ _ ih1 ih2 =>
  intro hs hb
  rw [pV,hz,hxy]
  refine ⟨fun _ h=>(by omega),by simp,fun x hx =>?_,by simp⟩
  rcases List.mem_cons.1 hx with rfl | hx
  ·exact ih1 hs (xF hb (by rw [hxy];simp))
  ·rw [List.mem_singleton] at hx;subst hx;exact ih2 hs (xF hb (by rw [hxy];simp))
section
variable {c:Core}
theorem gU (hl:xL c=false) {d:Data} (hd:d∈c.datas):d.cons.length≤16∧∀x∈d.cons,x.fields.length≤16:=by
 simp only [xL,Bool.or_eq_false_iff,List.any_eq_false] at hl
 have:=hl.1.2 d hd
 simp only [z5y,Bool.or_eq_true,decide_eq_true_eq,not_or,List.any_eq_true,not_exists,not_and] at this
 exact ⟨by omega,fun x hx=>by have:=this.2 x hx;omega⟩
theorem z3j:∀x∈truthsD.cons,x.name.size≤1000∧x.fields.length≤1000:=by
 intro x hx
 simp only [truthsD,List.mem_cons,List.not_mem_nil,or_false] at hx
 rcases hx with rfl | rfl <;> exact ⟨by decide,by decide⟩
theorem ttidy (h:Right c) (hl:xL c=false):TTidy (zR c) where
 inp n t hn:=by
  rw [h.inputs] at hn
  obtain ⟨p,hp,e,_⟩:=jI hn
  have:=gZ (h.iN p hp);rw [← e];omega
 fn n f hn:=by
  rw [h.funs] at hn
  obtain ⟨x,hx,e1,e2⟩:=jI hn
  have e3:x=f:=e2
  subst e3;subst e1
  have:=gZ (h.fN x hx);have:=(tM hl hx).1;omega
 con n m hn:=by
  rw [h.cons] at hn
  obtain ⟨d,hd,e1,e2,e3⟩:=z3s hn
  rw [← e3]
  rcases List.mem_cons.1 hd with rfl | hd
  ·exact z3j _ e2
  ·have:=z8t (z1q h hd e2);have:=(gU hl hd).2 _ e2;omega
 arm n d hn x hx:=by
  rw [h.datas] at hn
  obtain ⟨y,hy,_,e2⟩:=jI hn
  have e3:y=d:=e2
  subst e3
  rcases List.mem_cons.1 hy with rfl | hy
  ·exact z3j _ hx
  ·have:=z8t (z1q h hy hx);have:=(gU hl hy).2 _ hx;omega
theorem z4f (h:Right c) {f:Fun} (hf:f∈c.funs):∀v∈f.params.map Param.name++zS f.body,v.size≤1000:=fun v hv=>by
 have:=gZ ((z4g h hf).names v hv);omega
theorem tidyC (h:Right c) (hl:xL c=false):TidyC c where
 inp p hp:=by have:=gZ (h.iN p hp);omega
 con d hd x hx:=by have:=z8t (z1q h hd hx);have:=(gU hl hd).2 _ hx;omega
 fn f hf:=by
  have h1:=z4f h hf
  have:=gZ (h.fN f hf)
  exact ⟨by omega,fun p hp=>h1 _ (List.mem_append_left _ (List.mem_map_of_mem hp)),fun b hb=>h1 b (List.mem_append_right _ hb)⟩
theorem mN {α β:Type} {f:α→List β} {n:Nat}:∀{l:List α},(∀x∈l,(f x).length≤n)→(l.flatMap f).length≤l.length * n
 | [],_=>by simp
 | x::l,h=>by
  rw [List.flatMap_cons,List.length_append,List.length_cons,Nat.add_mul]
  have h1:=h x List.mem_cons_self
  have h2:=mN (l:=l) fun y hy=>h y (List.mem_cons_of_mem _ hy)
  omega
theorem j2w (hl:xL c=false):(zN c).length≤1000000000:=by
 have a1:=tN hl;have a2:=z0u hl;have a3:=y5f hl
 have b2:(c.datas.flatMap y3f).length≤c.datas.length * 256:=mN fun d hd=>by
  obtain ⟨h1,h2⟩:=gU hl hd
  have:(y3f d).length≤d.cons.length * 16:=mN fun x hx=>by simp only [z9k,List.length_map,List.length_range];exact h2 x hx
  omega
 have b3:(c.funs.flatMap z0l).length≤c.funs.length * 102017:=mN fun f hf=>by
  obtain ⟨h1,h2⟩:=tM hl hf
  simp only [z0l,List.length_cons,List.length_append,List.length_map];omega
 have e:(zN c).length=c.inputs.length+(c.datas.flatMap y3f).length+(c.funs.flatMap z0l).length:=by simp only [zN,List.length_append,List.length_map]
 rw [e]
 have c2:c.datas.length * 256≤60 * 256:=Nat.mul_le_mul_right _ a2
 have c3:c.funs.length * 102017≤300 * 102017:=Nat.mul_le_mul_right _ a3
 omega
theorem y4y (i:Param) (x:Bs):∀(l:List Bs) (k:Nat),(dP i x k l).length≤l.length
 | [],_=>Nat.le_refl _
 | t::l,k=>by
  have:=y4y i x l (k+1)
  simp only [dP,List.length_append,List.length_cons];split <;> simp <;> omega
theorem j1h (hl:xL c=false):(xJ c).length≤1000000000000:=by
 have a1:=tN hl;have a2:=z0u hl;have a3:=y5f hl
 have b1:(c.inputs.flatMap (y7s c)).length≤c.inputs.length * 15360:=mN fun i hi=>by
  have:(y7s c i).length≤c.datas.length * 256:=mN fun d hd=>by
   obtain ⟨h1,h2⟩:=gU hl hd
   unfold z5v
   split
   ·have:(d.cons.flatMap fun x=>dP i x.name 0 x.fields).length≤d.cons.length * 16:=mN fun x hx=>Nat.le_trans (y4y i x.name x.fields 0) (h2 x hx)
    omega
   ·simp
  have:c.datas.length * 256≤60 * 256:=Nat.mul_le_mul_right _ a2
  omega
 have b3:(c.funs.flatMap (cQ (wZ c))).length≤c.funs.length * 600000000:=mN fun f hf=>by
  obtain ⟨m,m1,m2⟩:=y0u hl hf
  have k1:=z3c (f:=f.name) f.body m m2
  have k2:=z4d (pm:=wZ c) (f:=f.name) f.body m m1 m2
  have k3:=(mB f.body m m2).1
  have k4:=y9a (f:=f.name) f.name f.body
  simp only [cQ,List.length_append]
  omega
 have e:(xJ c).length=(c.inputs.flatMap (y7s c)).length+(c.funs.flatMap (cQ (wZ c))).length:=by simp only [xJ,List.length_append]
 rw [e]
 have c1:c.inputs.length * 15360≤6 * 15360:=Nat.mul_le_mul_right _ a1
 have c3:c.funs.length * 600000000≤300 * 600000000:=Nat.mul_le_mul_right _ a3
 omega
theorem q2e {n:Bs} {ps:List Param}:∀{l:List Fun} {m:Pars},zH (l.foldl (fun m f=>qM m f.name f.params) m) n=some ps→zH m n=some ps∨∃f∈l,f.params=ps
 | [],_,h=>.inl h
 | f::l,m,h=>by
  rcases q2e (l:=l) (m:=qM m f.name f.params) h with h1 | ⟨g,hg,e⟩
  ·rw [jE] at h1
   split at h1
   ·cases h1;exact .inr ⟨f,List.mem_cons_self,rfl⟩
   ·exact .inl h1
  ·exact .inr ⟨g,List.mem_cons_of_mem _ hg,e⟩
theorem z2m (h:yC c=0):LOk c:=by
 have hR:=kV h
 obtain ⟨hl,_⟩:=z0x h
 refine ⟨tidyC hR hl,j2w hl,by have:=tN hl;omega,fun f hf=>⟨tidy_of (ttidy hR hl) (z4f hR hf) (z4g hR hf).ty z4i (fun b hb=>List.mem_append_right _ hb),y9v hR hf⟩,fun n ps hn p hp =>?_,j1h hl,j7y hR hl⟩
 rcases q2e hn with h1 | ⟨f,hf,rfl⟩
 ·cases h1
 ·exact z4f hR hf _ (List.mem_append_left _ (List.mem_map_of_mem hp))
end
end Go.Sw

namespace Go.Sw
end Go.Sw

namespace Go.Sw
end Go.Sw

namespace Go.Sw
section
variable {c:Core} {e:Ex} {f s:Bs}
end
end Go.Sw

namespace Go.Sw
def RNat (_:Fz) (cs:List Value) (x:Nat):Prop:=cs=[.int .i64 ((x:Nat):Int)]
theorem RNat.mono (Φ Ψ:Fz) (c:List Value) (x:Nat) (_:Φ.Le Ψ) (h:RNat Φ c x):RNat Ψ c x:=h
end Go.Sw

namespace Go.Sw
open Go.Proofs
instance:AgT 86:=⟨Tryz.isAgg86⟩
instance:SzT 86 3:=⟨Tryz.sizeOf86⟩
instance:SlT 90 4:=⟨Tryz.runUnderlying90⟩
instance:ZeT 86 [.slice none 0 0,.slice none 0 0,.slice none 0 0]:=⟨_,Tryz.zeroValue86,rfl⟩
instance:BzT 86 [.slice none 0 0,.slice none 0 0,.slice none 0 0] [0,1,2]:=⟨trivial⟩
instance:MonoF RNat:=⟨RNat.mono⟩
end Go.Sw

namespace Go.Sw
open Go.Proofs
set_option maxRecDepth 20000
set_option maxHeartbeats 4000000
theorem j3p {c:Core} {x:List Bs} (h:sA c=.ok x):yC c=0∧x=oZ c:=by
 unfold sA at h;split at h
 cases h;exact ⟨by assumption,rfl⟩
 cases h
theorem q2x {c:Core} {e:Int} (h:sA c=.error e):¬yC c=0∧yC c=e:=by
 unfold sA at h;split at h
 cases h
 cases h;exact ⟨by assumption,rfl⟩
section
variable {Φ:Fz} {K:List Res} {w:World} {d0:List Value} {c:Core} {n:Bs}
end
section
variable {c:Core} {n x:Bs} {k a:Nat} {p:Param}
end
end Go.Sw

namespace Go.Sw
open Go.Proofs
set_option maxRecDepth 20000
set_option maxHeartbeats 4000000
theorem hasB_ok {Φ:Fz} {K:List Res} {w:World} {v0:Value} {l:List Bs} {s:Bs} (rpl:SliceOf RStr Φ 1 v0 l) (hm:Mem Φ K w) :
  Calls Tryz.prog 18 (List.toArray [v0,.string s]) w (fun ee w'=>ee=.returned (.bool (hasB l s))∧Mem Φ K w'):=by
 obtain ⟨p0,c0,rfl,hm0,hn0⟩:=rpl.fm
 refine zL Tryz.func18 Tryz.ntmps18 fun Q hQ a he =>?_
 refine go fun a he =>?_
 refine yF (he.ks [0,1]) hm (fun R mm a w=>∃(i:Nat),mm=l.length - i∧R Φ [(5,.int .i64 ((i:Nat):Int))] [] a w∧(hasB l s=hasB (l.drop i) s)) (l.length - 0) ⟨0,rfl,⟨he.pk,hm⟩,rfl⟩ ?_
 clear hm he
 rintro mm a w ⟨i,hmu,⟨he,hm⟩,hI5⟩ L4 hL4
 by_cases h8:i < l.length
 refine go fun a he =>?_
 obtain ⟨q11,rfl,x12,hx13,cs14,hl15,ha16,hr17⟩:=rpl.el hn0 h8
 obtain rfl:cs14=[.string x12]:=hr17
 by_cases h18:x12=s
 refine zI ?_
 exact zV hm (by rw [hI5,zA hx13,z4h];simp [*])
 refine go fun a he =>?_
 refine hL4 _ _ _ (by subst hmu;omega) ⟨(i+1),rfl,⟨he.pk,hm⟩,?_⟩
 rw [hI5,zA hx13,z4h];simp [*]
 refine zI ?_
 exact zV hm (by rw [hI5,zE h8];rfl)
end Go.Sw

namespace Go.Sw
section
variable {c:Core} {a b l:List Bs} {s x:Bs} {i:Nat}
theorem hasB_in:∀{l:List Bs} {s:Bs},hasB l s=true↔s∈l
 | [],s=>by simp [hasB]
 | y::l,s=>by
  rw [z4h,List.mem_cons]
  by_cases h:y=s
  ·simp [h]
  ·have h2:¬s=y:=fun e=>h e.symm
   simp [h,h2,hasB_in (l:=l)]
theorem gok (h0:yC c=0):GOk (zN c) (jM c):=(z2m h0).gok
end
end Go.Sw

namespace Go.Sw
open Go.Proofs
set_option maxRecDepth 20000
set_option maxHeartbeats 4000000
end Go.Sw

namespace Go.Sw
theorem z5s:∀{l:List Arm} {k:Bs} {a:Arm},xQ l k=some a→a∈l
 | [],_,_,h=>by cases h
 | b::l,k,a,h=>by
  simp only [xQ] at h
  split at h
  ·cases h;exact List.mem_cons_self
  ·exact List.mem_cons_of_mem _ (z5s h)
def AgreeE (f:Bs) (L:Bs→Prop) (E F:Env):Prop:=∀x,¬L (vrN f x)→zH E x=zH F x
theorem AgreeE.put {f:Bs} {L:Bs→Prop} {E F:Env} (h:AgreeE f L E F) {x:Bs} {u v:Val} (hv:¬L (vrN f x)→u=v):AgreeE f L ((x,u)::E) ((x,v)::F):=fun y hy=>by
 simp only [zH]
 by_cases e:y=x
 ·rw [if_pos e,if_pos e,hv (e▸hy)]
 ·rw [if_neg e,if_neg e];exact h y hy
theorem z5p {f:Bs} {L:Bs→Prop}:∀{ns:List Bs} {az bz:List Val} {E F E' F':Env},AgreeE f L E F→(∀(i:Nat) n a b,ns[i]? = some n→az[i]? = some a→bz[i]? = some b→¬L (vrN f n)→a=b) →
  kL ns az E=some E'→kL ns bz F=some F'→AgreeE f L E' F'
 | [],_,_,E,F,E',F',h,_,h1,h2=>by
  simp only [kL,Option.some.injEq] at h1 h2;subst h1;subst h2;exact h
 | n::ns,[],_,_,_,_,_,_,_,h1,_=>by simp [kL] at h1
 | n::ns,_::_,[],_,_,_,_,_,_,_,h2=>by simp [kL] at h2
 | n::ns,a::az,b::bz,E,F,E',F',h,hv,h1,h2=>by
  simp only [kL] at h1 h2
  exact z5p (h.put (hv 0 n a b rfl rfl rfl)) (fun i n a b g1 g2 g3=>hv (i+1) n a b g1 g2 g3) h1 h2
structure Calm (T:Table) (pm:Pars) (C D:Ctx) (L:Bs→Prop):Prop where
 funs:C.funs=T.funs∧D.funs=T.funs
 inp:∀i t,zH T.inputs i=some t→L (inN i)
 fld:∀k j,¬L (wQ k j)
 par:∀g h,zH T.funs g=some h→zH pm g=some h.params
 ty:∀g h,zH T.funs g=some h→Tyd T (gI h.params) h.body h.result
 flow:∀g h,zH T.funs g=some h→(∀a b,(a,b)∈vL pm g h.body→L a→L b)∧∀a∈xG g h.body,L a→L g
section
variable {T:Table} {pm:Pars} {C D:Ctx} {L:Bs→Prop}
theorem uJ {f:Bs} {n m:Nat} {E F:Env}:∀{l:List Ex} {g1 g2 r1 r2:Nat} {us vs:List Val},
  (∀(i:Nat) x,l[i]? = some x→∀g1 g2 u v r1 r2,(∀a∈xG f x,¬L a)→pQ C n g1 x E=.ok u r1→pQ D m g2 x F=.ok v r2→u=v) →
  xC (pQ C n) E l g1=.ok us r1→xC (pQ D m) F l g2=.ok vs r2→us.length=l.length∧vs.length=l.length∧∀(i:Nat) x u v,l[i]? = some x→us[i]? = some u→vs[i]? = some v→(∀a∈xG f x,¬L a)→u=v
 | [],_,_,_,_,us,vs,_,h1,h2=>by
  simp only [xC,Ev.ok.injEq] at h1 h2
  rw [← h1.1,← h2.1]
  exact ⟨rfl,rfl,fun i x u v h=>by simp at h⟩
 | x::l,g1,g2,r1,r2,us,vs,hx,h1,h2=>by
  simp only [xC] at h1 h2
  obtain ⟨u,k1,a1,b1⟩:=Ev.bind_ok h1
  obtain ⟨us',k2,a2,b2⟩:=Ev.bind_ok b1
  obtain ⟨v,k3,c1,d1⟩:=Ev.bind_ok h2
  obtain ⟨vs',k4,c2,d2⟩:=Ev.bind_ok d1
  simp only [Ev.ok.injEq] at b2 d2
  rw [← b2.1,← d2.1]
  obtain ⟨e1,e2,e3⟩:=uJ (l:=l) (fun i y hy=>hx (i+1) y hy) a2 c2
  refine ⟨by simp [e1],by simp [e2],fun i y p q hy hp hq hs =>?_⟩
  cases i with
  | zero =>
   simp only [List.getElem?_cons_zero,Option.some.injEq] at hy hp hq
   subst hy;subst hp;subst hq
   exact hx 0 x rfl _ _ _ _ _ _ hs a1 c1
  | succ i=>exact e3 i y p q hy hp hq hs
theorem z3q {f:Bs} {n m:Nat} (ih:∀(e:Ex) (s:Scope) (t:Bs) (g1 g2:Nat) (E F:Env) u v r1 r2,Tyd T s e t→(∀a b,(a,b)∈vL pm f e→L a→L b)→(∀a∈xG f e,¬L a)→AgreeE f L E F→pQ C n g1 e E=.ok u r1→pQ D m g2 e F=.ok v r2→u=v)
  {ns:List Bs} {az bz:List Val} {E F:Env} {b:Ex} {s:Scope} {t:Bs} {g1 g2 r1 r2:Nat} {u v:Val} (ht:Tyd T s b t) (hf:∀a c,(a,c)∈vL pm f b→L a→L c) (hs:∀a∈xG f b,¬L a) (ha:AgreeE f L E F)
  (hv:∀(i:Nat) n a b,ns[i]? = some n→az[i]? = some a→bz[i]? = some b→¬L (vrN f n)→a=b) (h1:mJ (pQ C n) ns az E b g1=.ok u r1) (h2:mJ (pQ D m) ns bz F b g2=.ok v r2):u=v:=by
 unfold mJ at h1 h2
 cases e1:kL ns az E with
 | none=>rw [e1] at h1;cases h1
 | some E' =>
  cases e2:kL ns bz F with
  | none=>rw [e2] at h2;cases h2
  | some F' =>
   rw [e1] at h1;rw [e2] at h2
   exact ih b s t g1 g2 E' F' u v r1 r2 ht hf hs (z5p ha hv e1 e2) h1 h2
theorem lock (hC:Calm T pm C D L):∀(n m:Nat) (f:Bs) (e:Ex) (s:Scope) (t:Bs) (g1 g2:Nat) (E F:Env) (u v:Val) (r1 r2:Nat),Tyd T s e t→(∀a b,(a,b)∈vL pm f e→L a→L b)→(∀a∈xG f e,¬L a)→AgreeE f L E F →
  pQ C n g1 e E=.ok u r1→pQ D m g2 e F=.ok v r2→u=v
 | 0,_,_,_,_,_,_,_,_,_,_,_,_,_,_,_,_,_,h1,_=>by cases h1
 | _+1,0,_,_,_,_,_,_,_,_,_,_,_,_,_,_,_,_,_,h2=>by cases h2
 | n+1,m+1,f,e,s,t,0,_,E,F,u,v,r1,r2,_,_,_,_,h1,_=>by cases h1
 | n+1,m+1,f,e,s,t,_+1,0,E,F,u,v,r1,r2,_,_,_,_,_,h2=>by cases h2
 | n+1,m+1,f,e,s,t,g1+1,g2+1,E,F,u,v,r1,r2,ht,hf,hs,ha,h1,h2=>by
  have ih:=lock hC n m
  have h1:xE (pQ C n) C g1 e E=.ok u r1:=h1
  have h2:xE (pQ D m) D g2 e F=.ok v r2:=h2
  have sub:∀x∈e.args,∀a b,(a,b)∈vL pm f x→L a→L b:=fun x hx a b hab=>hf a b (by
   rw [wC];exact List.mem_append_left _ (List.mem_append_right _ (mem_flowPs.2 ⟨x,hx,hab⟩)))
  have suba:∀z∈e.arms,∀a b,(a,b)∈vL pm f z.body→L a→L b:=fun z hz a b hab=>hf a b (by
   rw [wC];exact List.mem_append_right _ (mem_flowPa.2 ⟨z,hz,hab⟩))
  have hd:∀a b,(a,b)∈kN pm f e→L a→L b:=fun a b hab=>hf a b (by
   rw [wC];exact List.mem_append_left _ (List.mem_append_left _ hab))
  unfold xE at h1 h2
  cases ht with
  | num hk =>
   simp only [hk] at h1 h2
   simp only [if_true,Ev.ok.injEq] at h1 h2
   rw [← h1.1,← h2.1]
  | var hk =>
   simp only [hk] at h1 h2
   simp only [show ¬(2:Int)=1 by decide,if_false,if_true,Ev.ok.injEq] at h1 h2
   rw [← h1.1,← h2.1,ha e.name (hs _ (by rw [z3d hk];simp))]
  | inp hk _ _ hi=>exact absurd (hC.inp _ _ hi) (hs _ (by rw [z3b hk];simp))
  | @con _ _ mk hk _ hm hl hty =>
   simp only [hk] at h1 h2
   simp only [show ¬(4:Int)=1 by decide,show ¬(4:Int)=2 by decide,show ¬(4:Int)=3 by decide,if_false,if_true] at h1 h2
   obtain ⟨us,k1,a1,b1⟩:=Ev.bind_ok h1
   obtain ⟨vs,k2,a2,b2⟩:=Ev.bind_ok h2
   simp only [Ev.ok.injEq] at b1 b2
   rw [← b1.1,← b2.1]
   obtain ⟨e1,e2,e3⟩:=uJ (f:=f) (L:=L) (fun i x hx g1 g2 u v r1 r2 hsx p1 p2=>by
    obtain ⟨w,hw⟩:=zX (l:=mk.con.fields) (i:=i) (by have:=(List.getElem?_eq_some_iff.1 hx).1;omega)
    exact ih f x s w g1 g2 E F u v r1 r2 (hty i x w hx hw) (sub x (List.mem_of_getElem? hx)) hsx ha p1 p2) a1 a2
   have e4:us=vs:=by
    refine List.ext_getElem? fun i =>?_
    rcases Nat.lt_or_ge i e.args.length with hi | hi
    ·obtain ⟨x,hx⟩:=zX hi
     obtain ⟨p,hp⟩:=zX (l:=us) (i:=i) (by omega)
     obtain ⟨q,hq⟩:=zX (l:=vs) (i:=i) (by omega)
     rw [hp,hq,e3 i x p q hx hp hq fun a hax hLa=>hC.fld e.name i (hd a _ (by
      simp only [kN,hk,if_true]
      exact mem_conF.2 ⟨i,x,hx,mem_toP.2 ⟨hax,by rw [Nat.zero_add]⟩⟩) hLa)]
    ·rw [List.getElem?_eq_none (by omega),List.getElem?_eq_none (by omega)]
   rw [e4]
  | @call _ _ h hk _ hm hl hty =>
   simp only [hk] at h1 h2
   simp only [show ¬(5:Int)=1 by decide,show ¬(5:Int)=2 by decide,show ¬(5:Int)=3 by decide,show ¬(5:Int)=4 by decide,if_false,if_true] at h1 h2
   rw [hC.funs.1,hm] at h1
   rw [hC.funs.2,hm] at h2
   simp only at h1 h2
   obtain ⟨us,k1,a1,b1⟩:=Ev.bind_ok h1
   obtain ⟨vs,k2,a2,b2⟩:=Ev.bind_ok h2
   obtain ⟨e1,e2,e3⟩:=uJ (f:=f) (L:=L) (fun i x hx g1 g2 u v r1 r2 hsx p1 p2=>by
    obtain ⟨w,hw⟩:=zX (l:=h.params) (i:=i) (by have:=(List.getElem?_eq_some_iff.1 hx).1;omega)
    exact ih f x s w.type g1 g2 E F u v r1 r2 (hty i x w hx hw) (sub x (List.mem_of_getElem? hx)) hsx ha p1 p2) a1 a2
   obtain ⟨q1,q2⟩:=hC.flow _ _ hm
   have hg:¬L e.name:=hs _ (by rw [uS hk];simp)
   refine z3q (fun z s t g1 g2 E F u v r1 r2=>ih e.name z s t g1 g2 E F u v r1 r2) (f:=e.name) (hC.ty _ _ hm) q1 (fun a hax hLa=>hg (q2 a hax hLa)) (E:=[]) (F:=[]) (fun x _=>rfl) (fun i n p q hn hp hq hnL =>?_) b1 b2
   rw [List.getElem?_map] at hn
   cases hpi:h.params[i]? with
   | none=>rw [hpi] at hn;cases hn
   | some w =>
    rw [hpi] at hn
    simp only [Option.map_some,Option.some.injEq] at hn
    obtain ⟨x,hx⟩:=zX (l:=e.args) (i:=i) (by have:=(List.getElem?_eq_some_iff.1 hpi).1;omega)
    refine e3 i x p q hx hp hq fun a hax hLa=>hnL ?_
    rw [← hn]
    refine hd a _ ?_ hLa
    simp only [kN,hk,hC.par _ _ hm]
    exact mem_callF.2 ⟨i,w,x,hpi,hx,mem_toP.2 ⟨hax,rfl⟩⟩
  | @let_ _ _ x y t1 _ hk _ hxy hx hy =>
   simp only [hk,hxy] at h1 h2
   simp only [show ¬(6:Int)=1 by decide,show ¬(6:Int)=2 by decide,show ¬(6:Int)=3 by decide,show ¬(6:Int)=4 by decide,show ¬(6:Int)=5 by decide,if_false,if_true] at h1 h2
   obtain ⟨p,k1,a1,b1⟩:=Ev.bind_ok h1
   obtain ⟨q,k2,a2,b2⟩:=Ev.bind_ok h2
   have mx:x∈e.args:=by rw [hxy];simp
   have my:y∈e.args:=by rw [hxy];simp
   refine ih f y _ _ _ _ _ _ _ _ _ _ hy (sub y my) (fun a hay=>hs a (by rw [tU hk,hxy];exact hay)) (ha.put fun hnL =>?_) b1 b2
   refine ih f x _ _ _ _ _ _ _ _ _ _ hx (sub x mx) (fun a hax hLa=>hnL (hd a _ ?_ hLa)) ha a1 a2
   simp only [kN,hk,hxy,letF]
   exact mem_toP.2 ⟨hax,rfl⟩
  | @case_ _ _ x dt _ d hk hx hty hdt hle hc hta =>
   simp only [hk,hx] at h1 h2
   simp only [show ¬(7:Int)=1 by decide,show ¬(7:Int)=2 by decide,show ¬(7:Int)=3 by decide,show ¬(7:Int)=4 by decide,show ¬(7:Int)=5 by decide,show ¬(7:Int)=6 by decide,if_false,if_true] at h1 h2
   obtain ⟨p,k1,a1,b1⟩:=Ev.bind_ok h1
   obtain ⟨q,k2,a2,b2⟩:=Ev.bind_ok h2
   have mx:x∈e.args:=by rw [hx];simp
   have hsc:=oC (f:=f) hk
   have e1:p=q:=ih f x _ _ _ _ _ _ _ _ _ _ hty (sub x mx) (fun a hax=>hs a (by rw [hsc,hx];exact List.mem_append_left _ hax)) ha a1 a2
   subst e1
   cases hfa:xQ e.arms p.con with
   | none=>rw [hfa] at b1;cases b1
   | some z =>
    rw [hfa] at b1 b2
    simp only at b1 b2
    have hz:z∈e.arms:=z5s hfa
    obtain ⟨i,hi⟩:=List.getElem?_of_mem hz
    obtain ⟨c,hci⟩:=zX (l:=d.cons) (i:=i) (by have:=(List.getElem?_eq_some_iff.1 hi).1;omega)
    refine z3q (fun e s t g1 g2 E F u v r1 r2=>ih f e s t g1 g2 E F u v r1 r2) (f:=f) (hta i z c hi hci) (suba z hz) (fun a haz=>hs a (by rw [hsc];exact List.mem_append_right _ (mem_srcPa.2 ⟨z,hz,haz⟩))) ha (fun j n a b _ h3 h4 _ =>?_) b1 b2
    rw [h3] at h4;cases h4;rfl
  | @op _ _ x y hk _ hxy hx hy =>
   simp only [hk] at h1 h2
   simp only [show ¬(8:Int)=1 by decide,show ¬(8:Int)=2 by decide,show ¬(8:Int)=3 by decide,show ¬(8:Int)=4 by decide,show ¬(8:Int)=5 by decide,show ¬(8:Int)=6 by decide,show ¬(8:Int)=7 by decide,if_false,if_true] at h1 h2
   obtain ⟨us,k1,a1,b1⟩:=Ev.bind_ok h1
   obtain ⟨vs,k2,a2,b2⟩:=Ev.bind_ok h2
   have hso:=y8y (f:=f) hk
   obtain ⟨e1,e2,e3⟩:=uJ (f:=f) (L:=L) (fun i z hz g1 g2 u v r1 r2 hsz p1 p2=>by
    have mz:=List.mem_of_getElem? hz
    have:Tyd T s z qC:=by
     rw [hxy] at mz
     simp only [List.mem_cons,List.not_mem_nil,or_false] at mz
     rcases mz with rfl | rfl
     ·exact hx
     ·exact hy
    exact ih f z s qC g1 g2 E F u v r1 r2 this (sub z (List.mem_of_getElem? hz)) hsz ha p1 p2) a1 a2
   have e4:us=vs:=by
    refine List.ext_getElem? fun i =>?_
    rcases Nat.lt_or_ge i e.args.length with hi | hi
    ·obtain ⟨z,hz⟩:=zX hi
     obtain ⟨p,hp⟩:=zX (l:=us) (i:=i) (by omega)
     obtain ⟨q,hq⟩:=zX (l:=vs) (i:=i) (by omega)
     rw [hp,hq,e3 i z p q hz hp hq fun a haz=>hs a (by
      rw [hso]
      have mz:=List.mem_of_getElem? hz
      rw [hxy] at mz ⊢
      simp only [List.mem_cons,List.not_mem_nil,or_false] at mz
      simp only [srcPs,List.append_nil,List.mem_append]
      rcases mz with rfl | rfl
      ·exact .inl haz
      ·exact .inr haz)]
    ·rw [List.getElem?_eq_none (by omega),List.getElem?_eq_none (by omega)]
   subst e4
   cases us with
   | nil=>cases b1
   | cons p us =>
    cases us with
    | nil=>cases b1
    | cons q us =>
     simp only at b1 b2
     split at b1
     ·cases b1
     ·rename_i ho
      rw [if_neg ho] at b2
      simp only [Ev.ok.injEq] at b1 b2
      rw [← b1.1,← b2.1]
end
end Go.Sw

namespace Go.Sw
section
variable {c:Core}
theorem mem_sol {x:Bs}:x∈oZ c↔x∈zN c∧RchN (xA (jM c)) (yN c) x:=by rw [oZ,j2l,y5x]
theorem q2w (h0:yC c=0) {a b:Bs} (h:(a,b)∈xJ c) (ha:a∈oZ c):b∈oZ c:=by
 obtain ⟨_,k,hk⟩:=mem_sol.1 ha
 exact mem_sol.2 ⟨(y9l (kV h0) a b h).2,k+1,.step hk ((y5j _ _ _).2 ((z2q _ _).2 h))⟩
theorem q3a (h0:yC c=0) (hs:∀x∈oZ c,(47:UInt8)∉tx x) (i1 i2:List (Bs×Val)):Calm (zR c) (wZ c) ⟨(zR c).funs,i1⟩ ⟨(zR c).funs,i2⟩ (fun n=>n∈oZ c) where
 funs:=⟨rfl,rfl⟩
 inp i t h:=by
  rw [(kV h0).inputs] at h
  obtain ⟨p,hp,e,_⟩:=jI h
  exact mem_sol.2 ⟨e▸q5l hp,0,.root (e▸List.mem_map_of_mem (f:=fun p=>inN p.name) hp)⟩
 fld k j h:=hs _ h (z2a k j)
 par g h hg:=y8m (kV h0) hg
 ty g h hg:=by
  rw [(kV h0).funs] at hg
  obtain ⟨x,hx,e1,e2⟩:=jI hg
  have e3:x=h:=e2
  subst e3;exact (z4g (kV h0) hx).ty
 flow g h hg:=by
  rw [(kV h0).funs] at hg
  obtain ⟨x,hx,e1,e2⟩:=jI hg
  have e3:x=h:=e2
  subst e3;subst e1
  have hf:∀z,z∈cQ (wZ c) x→z∈xJ c:=fun z hz=>List.mem_append_right _ (List.mem_flatMap.2 ⟨x,hx,hz⟩)
  exact ⟨fun a b hab=>q2w h0 (hf _ (List.mem_append_right _ hab)),fun a ha=>q2w h0 (hf _ (List.mem_append_left _ (mem_toP.2 ⟨ha,rfl⟩)))⟩
theorem y5t {T:Table} {pm:Pars} {C D:Ctx} {L:Bs→Prop} (hC:Calm T pm C D L):∀{os:List Bs} {g1 g2 r1 r2:Nat} {us vs:List Val},vB C os g1=.ok us r1→vB D os g2=.ok vs r2 →
  us.length=os.length∧vs.length=os.length∧∀(i:Nat) o u v,os[i]? = some o→us[i]? = some u→vs[i]? = some v→¬L o→u=v
 | [],_,_,_,_,us,vs,h1,h2=>by
  cases h1;cases h2
  exact ⟨rfl,rfl,fun i o u v h=>by cases h⟩
 | o::os,g1,g2,r1,r2,us,vs,h1,h2=>by
  simp only [vB] at h1 h2
  cases hf:zH T.funs o with
  | none=>rw [hC.funs.1,hf] at h1;cases h1
  | some f =>
   rw [hC.funs.1,hf] at h1
   rw [hC.funs.2,hf] at h2
   simp only at h1 h2
   obtain ⟨u,k1,a1,b1⟩:=Ev.bind_ok h1
   obtain ⟨v,k2,a2,b2⟩:=Ev.bind_ok h2
   obtain ⟨us',k3,a3,b3⟩:=Ev.bind_ok b1
   obtain ⟨vs',k4,a4,b4⟩:=Ev.bind_ok b2
   obtain ⟨e1,e2,e3⟩:=y5t hC a3 a4
   cases b3;cases b4
   refine ⟨by simp [e1],by simp [e2],fun i p x y hp hx hy hL =>?_⟩
   cases i with
   | succ i =>
    rw [List.getElem?_cons_succ] at hp hx hy
    exact e3 i p x y hp hx hy hL
   | zero =>
    rw [List.getElem?_cons_zero,Option.some.injEq] at hp hx hy
    subst hp;subst hx;subst hy
    obtain ⟨q1,q2⟩:=hC.flow _ _ hf
    unfold pI at a1 a2
    exact z3q (n:=g1+1) (m:=g2+1) (fun e s t k1 k2 E F u v r1 r2=>lock hC _ _ o e s t k1 k2 E F u v r1 r2) (hC.ty _ _ hf) q1 (fun a ha hLa=>hL (q2 a ha hLa)) (E:=[]) (F:=[]) (fun x _=>rfl) (fun i n p q _ hp _ _=>by cases hp) a1 a2
theorem q9n {l:List Named} {a:Int} {o:Outcome} (h:mR c l a=(o,0)):∃vs g,vB ⟨(zR c).funs,z6r l⟩ c.outputs a.toNat=.ok vs g∧o.outputs=kH c.outputs vs:=by
 unfold mR at h
 split at h
 ·rename_i h1;simp only [Prod.mk.injEq] at h;exact absurd h.2 h1
 split at h
 ·simp at h
 split at h
 ·simp at h
 split at h
 ·rename_i vs g he
  obtain ⟨e1,_⟩:=evN_ok he
  simp only [Prod.mk.injEq,and_true] at h
  exact ⟨vs,g,e1,h▸rfl⟩
 ·rename_i e he
  simp only [Prod.mk.injEq] at h
  exact absurd (Int.natCast_eq_zero.1 h.2) (q0n he)
theorem z4u {os:List Bs} {vs:List Val} (h:vs.length=os.length):(kH os vs).length=os.length:=by rw [kH,List.length_zipWith,h,Nat.min_self]
theorem q7g (h0:yC c=0) (hs:∀x∈oZ c,(47:UInt8)∉tx x) {la lb:List Named} {a b:Int} {o p:Outcome} (h1:mR c la a=(o,0)) (h2:mR c lb b=(p,0)) :
  o.outputs.length=p.outputs.length∧∀(i:Nat) x y,o.outputs[i]? = some x→p.outputs[i]? = some y→x.name∉oZ c→x.value=y.value:=by
 obtain ⟨us,g1,a1,e1⟩:=q9n h1
 obtain ⟨vs,g2,a2,e2⟩:=q9n h2
 obtain ⟨l1,l2,hl⟩:=y5t (q3a h0 hs (z6r la) (z6r lb)) a1 a2
 rw [e1,e2]
 refine ⟨by rw [z4u l1,z4u l2],fun i x y hx hy hL =>?_⟩
 have hi:i < c.outputs.length:=by have:=(List.getElem?_eq_some_iff.1 hx).1;rw [z4u l1] at this;exact this
 obtain ⟨n,hn⟩:=zX hi
 obtain ⟨u,hu⟩:=zX (l:=us) (i:=i) (by omega)
 obtain ⟨v,hv⟩:=zX (l:=vs) (i:=i) (by omega)
 rw [z4t hn hu] at hx
 rw [z4t hn hv] at hy
 cases hx;cases hy
 exact hl i n u v hn hu hv hL
end
end Go.Sw

namespace Go.Sw
open Go.Proofs.Tryz
open Go.Proofs
set_option maxRecDepth 20000
set_option maxHeartbeats 4000000
section
variable {c:Core} {l:List Bs} {i k:Nat} {x:Bs} {y:UInt8}
def NoSb (x:Bs) (k:Nat):Prop:=∀m,m < k→x[m]? ≠ some 47
def NoSl (l:List Bs) (i:Nat):Prop:=∀j x,j < i→l[j]? = some x→NoSb x x.size
theorem NoSb.start:NoSb x 0:=fun m h=>absurd h (Nat.not_lt_zero m)
theorem NoSb.more (h:NoSb x k) (hy:x[k]? = some y) (hn:¬y.toNat=47):NoSb x (k+1):=fun m hm e=>by
 by_cases q:m=k
 subst q;rw [hy] at e;cases e;exact hn rfl
 exact h m (by omega) e
theorem NoSl.start:NoSl l 0:=fun j _ h=>absurd h (Nat.not_lt_zero j)
theorem NoSl.more (h:NoSl l i) (hx:l[i]? = some x) (hb:NoSb x k) (hk:¬k < x.size):NoSl l (i+1):=fun j z hj hz m hm=>by
 by_cases q:j=i
 subst q;rw [hx] at hz;cases hz;exact hb m (by omega)
 exact h j z (by omega) hz m hm
theorem NoSl.all (h:NoSl l i) (hi:¬i < l.length):∀z∈l,(47:UInt8)∉tx z:=fun z hz hm=>by
 obtain ⟨j,hj⟩:=List.getElem?_of_mem hz
 obtain ⟨m,hm⟩:=List.getElem?_of_mem hm
 have h1:=(List.getElem?_eq_some_iff.1 hj).1
 obtain ⟨h2,h3⟩:=List.getElem?_eq_some_iff.1 hm
 have h4:m < z.size:=by simpa [tx] using h2
 refine h j z (by omega) hj m h4 ?_
 rw [getElem?_pos z m h4,← h3]
 simp [tx,ByteArray.getElem_eq_getElem_data]
end
theorem j2v {c:Core} {n:Bs} (h0:yC c=0) (h:n∈zN c):n.size≤1000000:=by
 have T:=(z2m h0).tidy
 rcases y5q h with ⟨p,hp,rfl⟩ | ⟨d,hd,x,hx,k,hk,rfl⟩ | ⟨f,hf,h⟩
 have:=T.inp p hp;rw [j8g];omega
 obtain ⟨h1,h2⟩:=T.con d hd x hx
 have h3:=z0n (n:=(k:Int)) ⟨by omega,by omega⟩
 unfold wQ
 rw [ByteArray.size_append,ByteArray.size_append]
 show x.name.size+1+_≤_
 omega
 obtain ⟨h1,h2,h3⟩:=T.fn f hf
 rcases h with rfl | ⟨v,hv,rfl⟩
 omega
 rw [x1l]
 rcases List.mem_append.1 hv with hv | hv
 obtain ⟨p,hp,rfl⟩:=List.mem_map.1 hv
 have:=h2 p hp;omega
 have:=h3 v hv;omega
theorem x0s {c:Core} {n:Bs} {i:Nat} (h0:yC c=0) (h:(oZ c)[i]? = some n):n.size≤1000000:=j2v h0 (mem_sol.1 (List.mem_of_getElem? h)).1
mutual
theorem y2a:∀v:Val,tT v v=true
 | .mk c n l=>by simp only [tT,Val.con,Val.num,Val.args,decide_true,Bool.true_and];exact sameVs_self l
theorem sameVs_self:∀l:List Val,sameVs l l=true
 | []=>by simp only [sameVs]
 | x::xs=>by rw [z6h,y2a x,sameVs_self xs];rfl
end
theorem q6u {Φ:Fz} {K:List Res} {w:World} {v u:Val} {d e:List Value} (h1:RVal Φ d v) (h2:RVal Φ e u) (h:v=u) (hm:Mem Φ K w) :
  Calls prog 34 (List.toArray [.agg d.toArray,.agg e.toArray]) w (fun ee w'=>ee=.returned (.bool true)∧Mem Φ K w'):=by
 have q:=y8u h1 h2 hm
 rw [h,y2a] at q
 exact q
theorem y0s {Φ:Fz} {K:List Res} {w:World} {d0:List Value} {c:Core} {va vb:Value} {la lb:List Named} (rpc:RCore Φ d0 c) (ra:SliceOf RNamed Φ 4 va la) (rb:SliceOf RNamed Φ 4 vb lb) (G:Glob Φ) (hm:Mem Φ K w) :
  Calls prog 10 (List.toArray [.agg d0.toArray,va,vb]) w (fun ee w'=>ee=.returned (.bool true)∧Mem Φ K w'):=by
 have rpc0_:=rpc
 obtain ⟨p3,c4,p9,c10,p15,c16,p21,c22,rfl,h2,h8,h14,h20,hm5,hn6,hm11,hn12,hm17,hn18,hm23,hn24⟩:=RCore.fm rpc
 obtain ⟨p25,c26,rfl,hmx27,hn28⟩:=ra.fm
 obtain ⟨p29,c30,rfl,hmx31,hn32⟩:=rb.fm
 refine zL func10 ntmps10 fun Q hQ a he =>?_
 refine Bx fun b34 w hm a he =>?_
 refine zZ call11 (fun w hm a he =>?_) (c:=sane_ok G (fun _=>z2m) hm)
 refine go fun a he =>?_
 refine st he rfl rfl rfl (pD he rfl call15 (y6g rpc0_ G z2m hm) (fun q37 y38 w hq39 hG40 hm a he =>?_) (fun q37 w hq39 hm a he =>?_))
 obtain ⟨h0,rfl⟩:=j3p hq39
 replace hm:=hm.nf
 refine go fun a he =>?_
 have hm0_:=hm
 clear hm
 obtain ⟨Ψ42,le43,hm,hrow44⟩:=hm0_.freezeRow (i:=0) rfl
 clear hm0_
 replace rpc0_:=RCore.mono _ _ _ _ le43 rpc0_
 replace G:=G.mono le43
 replace ra:=ra.up le43
 replace rb:=rb.up le43
 replace hm:=hm.nf
 have hsl45:SliceOf RStr Ψ42 1 _ ((oZ c)):=SliceOf.strs.2 hrow44
 obtain ⟨p46,c47,hv_,hm48,hn49⟩:=hsl45.form (by decide)
 have hmk_:=hm
 clear hm
 subst hv_
 have hm:=hmk_
 clear hmk_
 refine jF call33 (fun y50 w hG51 hm a he =>?_) (c:=uQ (fuel:=4000) rpc0_ ra G hm)
 obtain ⟨Ψ52,d53⟩:=y50
 obtain ⟨le54,ho55⟩:=hG51
 simp only at le54 ho55 hm he
 replace rpc0_:=RCore.mono _ _ _ _ le54 rpc0_
 replace G:=G.mono le54
 replace ra:=ra.up le54
 replace rb:=rb.up le54
 replace hsl45:=hsl45.up le54
 replace hm:=hm.nf
 obtain ⟨s56,rfl,h57⟩:=id ho55
 obtain ⟨p58,c59,rfl,hm60,hn61⟩:=h57.fm
 refine Alc fun b62 w hm a he =>?_
 refine Sto 0 fun w hm a he =>?_
 refine jF call33 (fun y64 w hG65 hm a he =>?_) (c:=uQ (fuel:=4000) rpc0_ rb G hm)
 obtain ⟨Ψ66,d67⟩:=y64
 obtain ⟨le68,ho69⟩:=hG65
 simp only at le68 ho69 hm he
 replace rpc0_:=RCore.mono _ _ _ _ le68 rpc0_
 replace G:=G.mono le68
 replace ra:=ra.up le68
 replace rb:=rb.up le68
 replace hsl45:=hsl45.up le68
 replace h57:=h57.up le68
 replace ho55:=ROutcome.mono _ _ _ _ le68 ho55
 replace hm:=hm.nf
 obtain ⟨s70,rfl,h71⟩:=id ho69
 obtain ⟨p72,c73,rfl,hm74,hn75⟩:=h71.fm
 refine Alc fun b76 w hm a he =>?_
 refine Sto 0 fun w hm a he =>?_
 refine Qq (fun a he =>?_) (o:=by exact fun he hs=>nL false he rfl rfl rfl)
 by_cases h79:(mR c la 4000).2=0
 by_cases h80:(mR c lb 4000).2=0
 refine go fun a he =>?_
 refine yF (he.ks [7,8,10,12]) hm (fun R mm a w=>∃(i:Nat),mm=(oZ c).length - i∧R Ψ66 [(14,.int .i64 ((i:Nat):Int))] [] a w∧(NoSl (oZ c) i)) ((oZ c).length - 0) ⟨0,rfl,⟨he.pk,hm⟩,NoSl.start⟩ ?_
 clear hm he
 rintro mm a w ⟨i,hmu,⟨he,hm⟩,hI84⟩ L83 hL83
 by_cases h87:i < ((oZ c)).length
 refine go fun a he =>?_
 obtain ⟨xi_,hxi_⟩:=zX (l:=(oZ c)) (i:=i) (by assumption)
 have hzi_:=x0s h0 hxi_
 refine yF (he.ks [7,8,10,12,14]) hm (fun R mm a w=>∃(k:Nat),mm=xi_.size - k∧R Ψ66 [(15,.int .i64 ((k:Nat):Int))] [] a w∧(NoSb xi_ k)) (xi_.size - 0) ⟨0,rfl,⟨he.pk,hm⟩,NoSb.start⟩ ?_
 clear hm he
 rintro mm a w ⟨k,hmu,⟨he,hm⟩,hI91⟩ L90 hL90
 refine go fun a he =>?_
 have hmk_:=hm
 have hek_:=he
 clear hm he
 obtain ⟨q94,rfl⟩:=hn49 (aS h87)
 have hm:=hmk_
 have he:=hek_
 clear hmk_ hek_
 obtain ⟨x95,hx96⟩:=zX h87
 obtain ⟨cs97,hl98,ha99,hr100⟩:=hsl45.elem hx96
 obtain rfl:cs97=[.string x95]:=hr100
 have exi_:=Option.some.inj (hxi_.symm.trans hx96)
 have exs_:=congrArg (fun b:Bs=>b.size) exi_
 by_cases h101:k < x95.size
 obtain ⟨c104,hc105⟩:=wU h101
 refine Qq (fun a he =>?_) (o:=by exact fun he hs=>kR k c104 he rfl rfl runUnderlying9 hc105)
 by_cases h106:c104.toNat=47
 refine zI ?_
 replace hm:=hm.le (((le43).trans le54).trans le68)
 replace hm:=hm.dl [2,1,0]
 first | exact ⟨rfl,hm⟩
 refine go fun a he =>?_
 refine hL90 _ _ _ (by subst hmu;omega) ⟨(k+1),rfl,⟨he.pk,hm⟩,?_⟩
 exact NoSb.more hI91 (exi_▸hc105) h106
 refine go fun a he =>?_
 refine hL83 _ _ _ (by subst hmu;omega) ⟨(i+1),rfl,⟨he.pk,hm⟩,?_⟩
 exact NoSl.more hI84 hxi_ hI91 (by omega)
 have hlw_:=q7g h0 (NoSl.all hI84 h87) (Prod.ext rfl h79:(mR c la 4000)=((mR c la 4000).1,0)) (Prod.ext rfl h80:(mR c lb 4000)=((mR c lb 4000).1,0))
 have hln_:=hlw_.1
 refine go fun a he =>?_
 refine yF (he.ks [7,8,10,12]) hm (fun R mm a w=>∃(j_:Nat),mm=(mR c la 4000).1.outputs.length - j_∧R Ψ66 [(16,.int .i64 ((j_:Nat):Int))] [] a w∧(True)) ((mR c la 4000).1.outputs.length - 0) ⟨0,rfl,⟨he.pk,hm⟩,trivial⟩ ?_
 clear hm he
 rintro mm a w ⟨j_,hmu,⟨he,hm⟩,hI111⟩ L110 hL110
 by_cases h114:j_ < (mR c la 4000).1.outputs.length
 refine Reg [1,1,2,1,1,1,2,0,1,1,1,2,1,1,1,2,1,2,1,1,1,2,0,1,1] [0,1,2] fun w hm a he =>?_
 refine go fun a he =>?_
 have hmk_:=hm
 have hek_:=he
 clear hm he
 obtain ⟨q117,rfl⟩:=hn61 (aS h114)
 have hm:=hmk_
 have he:=hek_
 clear hmk_ hek_
 obtain ⟨x118,hx119⟩:=zX h114
 obtain ⟨cs120,hl121,ha122,hr123⟩:=h57.elem hx119
 obtain ⟨b124,rfl,h125⟩:=id hr123
 obtain ⟨p128,c129,rfl,hi132,h127,hm130,hn131⟩:=RVal.fm h125
 refine yK call18 (fun hB133 w hm a he =>?_) (fun hB133 w hm a he =>?_) (c:=hasB_ok (l:=(oZ c)) hsl45 hm)
 refine go fun a he =>?_
 refine hL110 _ _ _ (by subst hmu;omega) ⟨(j_+1),rfl,⟨he.pk,hm⟩,?_⟩
 trivial
 refine Qq (fun a he =>?_) (o:=by exact fun he hs=>sO 1 (vs:=[.string x118.value.con,.int .i64 (x118.value.num),.slice p128 x118.value.args.length c129]) he hs rfl ha122 isAgg58 sizeOf58 rfl rfl)
 refine go fun a he =>?_
 have hb134:j_ < (mR c lb 4000).1.outputs.length:=by omega
 have hmk_:=hm
 have hek_:=he
 clear hm he
 obtain ⟨q135,rfl⟩:=hn75 (aS hb134)
 have hm:=hmk_
 have he:=hek_
 clear hmk_ hek_
 obtain ⟨x136,hx137⟩:=zX hb134
 obtain ⟨cs138,hl139,ha140,hr141⟩:=h71.elem hx137
 obtain ⟨b142,rfl,h143⟩:=id hr141
 obtain ⟨p146,c147,rfl,hi150,h145,hm148,hn149⟩:=RVal.fm h143
 refine Qq (fun a he =>?_) (o:=by exact fun he hs=>sO 1 (vs:=[.string x136.value.con,.int .i64 (x136.value.num),.slice p146 x136.value.args.length c147]) he hs rfl ha140 isAgg58 sizeOf58 rfl rfl)
 refine zZ call34 (fun w hm a he =>?_) (c:=q6u h125 h143 (hlw_.2 _ _ _ hx119 hx137 fun hc_=>absurd ((hasB_in.2 hc_).symm.trans hB133) (by decide)) hm)
 refine go fun a he =>?_
 refine hL110 _ _ _ (by subst hmu;omega) ⟨(j_+1),rfl,⟨he.pk,hm⟩,?_⟩
 trivial
 refine zI ?_
 replace hm:=hm.le (((le43).trans le54).trans le68)
 replace hm:=hm.dl [2,1,0]
 first | exact ⟨rfl,hm⟩
 refine zI ?_
 replace hm:=hm.le (((le43).trans le54).trans le68)
 replace hm:=hm.dl [2,1,0]
 first | exact ⟨rfl,hm⟩
 refine zI ?_
 replace hm:=hm.le (((le43).trans le54).trans le68)
 replace hm:=hm.dl [2,1,0]
 first | exact ⟨rfl,hm⟩
 obtain ⟨hz_,rfl⟩:=q2x hq39
 refine jF call33 (fun y155 w hG156 hm a he =>?_) (c:=uQ (fuel:=4000) rpc0_ ra G hm)
 obtain ⟨Ψ157,d158⟩:=y155
 obtain ⟨le159,ho160⟩:=hG156
 simp only at le159 ho160 hm he
 replace rpc0_:=RCore.mono _ _ _ _ le159 rpc0_
 replace G:=G.mono le159
 replace rb:=rb.up le159
 replace hm:=hm.nf
 obtain ⟨s161,rfl,h162⟩:=id ho160
 obtain ⟨p163,c164,rfl,hm165,hn166⟩:=h162.fm
 refine Alc fun b167 w hm a he =>?_
 refine Sto 0 fun w hm a he =>?_
 refine jF call33 (fun y169 w hG170 hm a he =>?_) (c:=uQ (fuel:=4000) rpc0_ rb G hm)
 obtain ⟨Ψ171,d172⟩:=y169
 obtain ⟨le173,ho174⟩:=hG170
 simp only at le173 ho174 hm he
 replace rpc0_:=RCore.mono _ _ _ _ le173 rpc0_
 replace G:=G.mono le173
 replace ho160:=ROutcome.mono _ _ _ _ le173 ho160
 replace hm:=hm.nf
 obtain ⟨s175,rfl,h176⟩:=id ho174
 obtain ⟨p177,c178,rfl,hm179,hn180⟩:=h176.fm
 refine Alc fun b181 w hm a he =>?_
 refine Sto 0 fun w hm a he =>?_
 refine zI ?_
 replace hm:=hm.le ((le159).trans le173)
 replace hm:=hm.dl [2,1,0]
 first | exact ⟨rfl,hm⟩
end Go.Sw
