import Derived.Test.YtghdfphedgcpdaaGreatDoorY12
set_option linter.unusedVariables false
set_option linter.unusedSimpArgs false
namespace Go.Sw
open Go.Proofs Go.Proofs.Tryz
set_option maxRecDepth 20000
set_option maxHeartbeats 4000000
theorem mJ {s:Bs} (h:vQ s=2∨vQ s=3):(46:UInt8)∉tx s/\(47:UInt8)∉tx s:=by
 obtain ⟨_,_,d⟩:=z6g h
 have:∀b∈tx s,b≠46/\b≠47:=fun b hb=>by
  obtain ⟨j,f,e⟩:=tx_mem hb
  have a:=d j f
  rw [e] at a
  simp only [yR,qQ,qW,yF,Bool.or_eq_true,baQ,decide_eq_true_eq] at a
  constructor <;> (rintro rfl;simp at a)
 exact ⟨fun c=>(this _ c).1 rfl,fun c=>(this _ c).2 rfl⟩
theorem x6h {s:Bs} (h:vQ s=2∨vQ s=3):s≠sE:=fun e=>by
 have:=(z6g h).1
 rw [e] at this;exact absurd this (by decide)
theorem y3t {c:UInt8}:∀{a a' b b':Tx},c∉a->c∉a'->a++c::b=a'++c::b'->a=a'/\b=b'
 | [],[],_,_,_,_,h=>by simp at h;exact ⟨rfl,h⟩
 | [],y::a',_,_,_,d,h=>by
  simp only [List.nil_append,List.cons_append,List.cons.injEq] at h
  exact absurd (by rw [h.1];exact msQ) d
 | x::a,[],_,_,h1,_,h=>by
  simp only [List.nil_append,List.cons_append,List.cons.injEq] at h
  exact absurd (by rw [<- h.1];exact msQ) h1
 | x::a,y::a',b,b',h1,d,h=>by
  simp only [List.cons_append,List.cons.injEq] at h
  obtain ⟨f,e2⟩:=y3t (fun e=>h1 (mcQ _ e)) (fun e=>d (mcQ _ e)) h.2
  exact ⟨by rw [h.1,f],e2⟩
theorem y8i (a b:Bs):tx (a++b)=tx a++tx b:=by simp [tx,ByteArray.data_append]
theorem y8j {a b:Bs} (h:tx a=tx b):a=b:=by rw [<- j6z a,h,j6z]
theorem q2q (s:Bs):tx (inN s)=[105,110]++46::tx s:=by rw [inN,y8i];rfl
theorem j4q (s:Bs) (k:Nat):tx (vZ s k)=tx s++47::z6i (k:Int):=by rw [vZ,y8i,y8i,z1u,tx_ofTx];simp [tx]
theorem q2r (f x:Bs):tx (vrN f x)=tx f++46::tx x:=by rw [vrN,y8i,y8i];simp [tx]
theorem inN_inj {a b:Bs} (h:inN a=inN b):a=b:=by
 have:=congrArg tx h
 rw [q2q,q2q] at this
 exact y8j (y3t (by decide) (by decide) this).2
theorem j7u {f g x y:Bs} (b:yQ f=true) (c:yQ g=true) (h:vrN f x=vrN g y):f=g/\x=y:=by
 have:=congrArg tx h
 rw [q2r,q2r] at this
 obtain ⟨h1,a⟩:=y3t (mJ (.inl (wQ b))).1 (mJ (.inl (wQ c))).1 this
 exact ⟨y8j h1,y8j a⟩
theorem q6y {s t:Bs} {j k:Nat} (O:qB s=true) (c:qB t=true) (d:j < 9223372036854775808) (f:k < 9223372036854775808) (h:vZ s j=vZ t k):s=t/\j=k:=by
 have:=congrArg tx h
 rw [j4q,j4q] at this
 obtain ⟨h1,b⟩:=y3t (mJ (.inr (y3q O))).2 (mJ (.inr (y3q c))).2 this
 refine ⟨y8j h1,?_⟩
 have e:aU (j:Int)=aU (k:Int):=by rw [z1u,z1u,b]
 have a:=q7p (n:=(j:Int)) ⟨by omega,by omega⟩
 rw [e,q7p (n:=(k:Int)) ⟨by omega,by omega⟩] at a
 simp only [Option.some.injEq] at a;omega
theorem z9s {f x g:Bs} (a:yQ g=true):vrN f x≠g:=fun h=>by
 have:=(mJ (.inl (wQ a))).1
 rw [<- h,q2r] at this;exact this (by simp)
theorem j9q {x g:Bs} (a:yQ g=true):inN x≠g:=fun h=>by
 have:=(mJ (.inl (wQ a))).1
 rw [<- h,q2q] at this;exact this (by simp)
theorem j9r {x f y:Bs} (a:yQ f=true):inN x≠vrN f y:=fun h=>by
 have:=congrArg tx h
 rw [q2q,q2r] at this
 have e:=(y3t (by decide) (mJ (.inl (wQ a))).1 this).1
 have e2:f=⟨#[105,110]⟩:=y8j (e.symm.trans rfl)
 rw [e2] at a;exact absurd a (by decide)
theorem y2q (s:Bs) (k:Nat):(47:UInt8)∈tx (vZ s k):=by rw [j4q];simp
theorem in_no {x:Bs} (a:yQ x=true):(47:UInt8)∉tx (inN x):=by
 rw [q2q]
 have:=(mJ (.inl (wQ a))).2
 simp [this]
theorem vr_no {f x:Bs} (b:yQ f=true) (c:yQ x=true):(47:UInt8)∉tx (vrN f x):=by
 rw [q2r]
 have h1:=(mJ (.inl (wQ b))).2
 have a:=(mJ (.inl (wQ c))).2
 simp [h1,a]
theorem gG {α β:Type} {f:α->β}:∀{l:List α},(∀a∈l,∀b∈l,f a=f b->a=b)->l.Nodup->(l.map f).Nodup
 | [],_,_=>by simp
 | x::l,h,j=>by
  obtain ⟨h1,d⟩:=List.nodup_cons.1 j
  rw [List.map_cons,List.nodup_cons]
  refine ⟨fun i=>?_,gG (fun a g b hb=>h a (mcQ _ g) b (mcQ _ hb)) d⟩
  obtain ⟨y,c,e⟩:=List.mem_map.1 i
  exact h1 (h y (mcQ _ c) x msQ e▸c)
theorem z4z {α β γ:Type} {f:α->List β} {key:α->γ}:∀{l:List α},(l.map key).Nodup->(∀a∈l,(f a).Nodup)->(∀a∈l,∀b∈l,∀x,x∈f a->x∈f b->key a=key b)->(l.flatMap f).Nodup
 | [],_,_,_=>by simp
 | a::l,i,h,g=>by
  rw [List.map_cons] at i
  obtain ⟨h1,j⟩:=List.nodup_cons.1 i
  rw [List.flatMap_cons,List.nodup_append]
  refine ⟨h a msQ,z4z j (fun b hb=>h b (mcQ _ hb)) (fun b hb c k=>g b (mcQ _ hb) c (mcQ _ k)),fun x m y n e=>?_⟩
  subst e
  obtain ⟨b,hb,d⟩:=List.mem_flatMap.1 n
  exact h1 (by rw [g a msQ b (mcQ _ hb) x m d];exact List.mem_map_of_mem hb)
structure FunOk (c:Core) (f:Fun):Prop where
 name:yQ f.name=true
 nodup:(f.params.map Param.name++zN f.body).Nodup
 names:∀v∈f.params.map Param.name++zN f.body,yQ v=true
 ty:Tyd (yK c) (sW f.params) f.body f.result
theorem data_no {c:Core} (h:Right c):zK (yK c).datas sNo=none:=by
 cases a:zK (yK c).datas sNo with
 | none=>rfl
 | some d=>
  rw [h.datas] at a
  obtain ⟨x,b,e,_⟩:=vL a
  have:=(h.dN x b).1
  rw [e,z6h] at this;cases this
theorem z8n {c:Core} (h:Right c) {f:Fun} (b:f∈c.funs):FunOk c f:=by
 have h1:=h.fOk f b
 simp only [nI,baQ,decide_eq_true_eq] at h1
 obtain ⟨e,_,i⟩:=pC h1.1.2
 have d:=qH e
 have a:f.result≠sNo:=type_ne h h1.1.1.2
 refine ⟨h.fN f b,e,i,?_⟩
 have:=z9q (yK c) (data_no h) _ f.body (sW f.params) (Nat.lt_succ_self _) d.2.1 (fun m N=>by
  rw [z3l,nY (fun g=>d.2.2 m g N)];rfl) (by rw [h1.2];exact a)
 rwa [h1.2] at this
section
variable {c:Core}
theorem q4k {p:Param} (h:p∈c.inputs):inN p.name∈zC c:=List.mem_append_left _ (List.mem_append_left _ (List.mem_map_of_mem (f:=fun p=>inN p.name) h))
theorem q4j {d:Data} {x:Con} {k:Nat} (a:d∈c.datas) (e:x∈d.cons) (b:k < x.fields.length):vZ x.name k∈zC c :=
 List.mem_append_left _ (List.mem_append_right _ (List.mem_flatMap.2 ⟨d,a,List.mem_flatMap.2 ⟨x,e,List.mem_map_of_mem (List.mem_range.2 b)⟩⟩))
theorem mem_fn {f:Fun} (h:f∈c.funs):f.name∈zC c:=List.mem_append_right _ (List.mem_flatMap.2 ⟨f,h,msQ⟩)
theorem mem_vr {f:Fun} {v:Bs} (h:f∈c.funs) (a:v∈f.params.map Param.name++zN f.body):vrN f.name v∈zC c:=by
 refine List.mem_append_right _ (List.mem_flatMap.2 ⟨f,h,mcQ _ ?_⟩)
 rw [List.mem_append] at a ⊢
 rcases a with a | a
 ·obtain ⟨p,b,rfl⟩:=List.mem_map.1 a
  exact .inl (List.mem_map_of_mem (f:=fun p=>vrN f.name p.name) b)
 ·exact .inr (List.mem_map_of_mem a)
theorem x0y {n:Bs} (h:n∈zC c):(∃p∈c.inputs,n=inN p.name)∨(∃d∈c.datas,∃x∈d.cons,∃k,k < x.fields.length/\n=vZ x.name k)∨(∃f∈c.funs,n=f.name∨∃v∈f.params.map Param.name++zN f.body,n=vrN f.name v):=by
 rw [zC,List.mem_append,List.mem_append] at h
 rcases h with (h | h) | h
 ·obtain ⟨p,a,e⟩:=List.mem_map.1 h;exact .inl ⟨p,a,e.symm⟩
 ·obtain ⟨d,b,h⟩:=List.mem_flatMap.1 h
  obtain ⟨x,l,h⟩:=List.mem_flatMap.1 h
  obtain ⟨k,i,e⟩:=List.mem_map.1 h
  exact .inr (.inl ⟨d,b,x,l,k,List.mem_range.1 i,e.symm⟩)
 ·obtain ⟨f,g,h⟩:=List.mem_flatMap.1 h
  refine .inr (.inr ⟨f,g,?_⟩)
  rcases List.mem_cons.1 h with e | h
  ·exact .inl e
  ·rw [List.mem_append] at h
   rcases h with h | h
   ·obtain ⟨p,a,e⟩:=List.mem_map.1 h;exact .inr ⟨p.name,List.mem_append_left _ (List.mem_map_of_mem a),e.symm⟩
   ·obtain ⟨v,j,e⟩:=List.mem_map.1 h;exact .inr ⟨v,List.mem_append_right _ j,e.symm⟩
theorem z5v (h:Right c) {d:Data} {x:Con} (a:d∈c.datas) (b:x∈d.cons):qB x.name=true:=(h.dN d (mcQ _ a)).2.2.2 x b
theorem j1n (h:Right c):((c.datas.flatMap Data.cons).map Con.name).Nodup:=by
 have:=h.cU
 rw [List.map_cons,List.flatten_cons] at this
 have a:=(List.nodup_append.1 this).2.1
 rw [List.map_flatMap]
 exact a
theorem q8g (h:Right c) (hl:xN c=false):(zC c).Nodup:=by
 have w:∀d∈c.datas,∀x∈d.cons,x.fields.length<=16:=fun d r x l=>by
  simp only [xN,Bool.or_eq_false_iff] at hl
  have h1:(c.datas.any dC)=false:=by simp_all
  have C:=List.any_eq_false.1 h1 d r
  simp only [dC,Bool.or_eq_true,not_or,decide_eq_true_eq,List.any_eq_true,not_exists,not_and] at C
  have:=C.2 x l;omega
 have n:∀f∈c.funs,FunOk c f:=fun f q=>z8n h q
 rw [zC,List.nodup_append,List.nodup_append]
 refine ⟨⟨?_,?_,?_⟩,?_,?_⟩
 ·have:=h.iU
  rw [show (c.inputs.map fun p=>inN p.name)=(c.inputs.map Param.name).map inN by rw [List.map_map];rfl]
  exact gG (fun a _ b _ e=>inN_inj e) this
 ·have e:c.datas.flatMap z5x=(c.datas.flatMap Data.cons).flatMap fun x=>z6d x.name x.fields.length:=by
   rw [List.flatMap_assoc];rfl
  have N:∀x∈c.datas.flatMap Data.cons,qB x.name=true/\x.fields.length<=16:=fun x l=>by
   obtain ⟨d,r,l⟩:=List.mem_flatMap.1 l
   exact ⟨z5v h r l,w d r x l⟩
  rw [e]
  refine z4z (key:=Con.name) (j1n h) (fun x l=>?_) (fun x l y D z M hz'=>?_)
  ·obtain ⟨B,c2⟩:=N x l
   exact gG (fun a m b hb e=>(q6y B B (by have:=List.mem_range.1 m;omega) (by have:=List.mem_range.1 hb;omega) e).2) List.nodup_range
  ·obtain ⟨i,I,rfl⟩:=List.mem_map.1 M
   obtain ⟨j,K,e⟩:=List.mem_map.1 hz'
   have:=List.mem_range.1 I;have:=List.mem_range.1 K
   have:=(N x l).2;have:=(N y D).2
   exact (q6y (N y D).1 (N x l).1 (by omega) (by omega) e).1.symm
 ·intro a m b hb e
  subst e
  obtain ⟨p,t,rfl⟩:=List.mem_map.1 m
  obtain ⟨d,r,hb⟩:=List.mem_flatMap.1 hb
  obtain ⟨x,l,hb⟩:=List.mem_flatMap.1 hb
  obtain ⟨k,o,e⟩:=List.mem_map.1 hb
  exact in_no (h.iN p t) (by have:=y2q x.name k;rw [e] at this;exact this)
 ·have L:=h.fU
  refine z4z (key:=Fun.name) L (fun f q=>?_) (fun f q g H x l hx'=>?_)
  ·have F:=n f q
   have e:((f.params.map fun p=>vrN f.name p.name)++(zN f.body).map (vrN f.name))=(f.params.map Param.name++zN f.body).map (vrN f.name):=by
    rw [List.map_append,List.map_map];rfl
   rw [dP,e,List.nodup_cons]
   refine ⟨fun E=>?_,gG (fun a _ b _ e=>(j7u F.name F.name e).2) F.nodup⟩
   obtain ⟨v,_,e⟩:=List.mem_map.1 E
   exact z9s F.name e
  ·have F:=n f q;have G:=n g H
   have key:∀(k:Fun),x∈dP k->x=k.name∨∃v,x=vrN k.name v:=fun k o=>by
    rcases List.mem_cons.1 o with e | o
    ·exact .inl e
    ·rw [List.mem_append] at o
     rcases o with o | o
     ·obtain ⟨p,_,e⟩:=List.mem_map.1 o;exact .inr ⟨p.name,e.symm⟩
     ·obtain ⟨v,_,e⟩:=List.mem_map.1 o;exact .inr ⟨v,e.symm⟩
   rcases key f l with s | ⟨v,s⟩
   ·rcases key g hx' with e2 | ⟨u,e2⟩
    ·exact s.symm.trans e2
    ·exact absurd (e2.symm.trans s) (z9s F.name)
   ·rcases key g hx' with e2 | ⟨u,e2⟩
    ·exact absurd (s.symm.trans e2) (z9s G.name)
    ·exact (j7u F.name G.name (s.symm.trans e2)).1
 ·intro a m b hb e
  subst e
  obtain ⟨f,q,hb⟩:=List.mem_flatMap.1 hb
  have F:=n f q
  have hb':a=f.name∨∃v∈f.params.map Param.name++zN f.body,a=vrN f.name v:=by
   rcases List.mem_cons.1 hb with e | hb
   ·exact .inl e
   ·rw [List.mem_append] at hb
    rcases hb with hb | hb
    ·obtain ⟨p,t,e⟩:=List.mem_map.1 hb;exact .inr ⟨p.name,List.mem_append_left _ (List.mem_map_of_mem t),e.symm⟩
    ·obtain ⟨v,A,e⟩:=List.mem_map.1 hb;exact .inr ⟨v,List.mem_append_right _ A,e.symm⟩
  rw [List.mem_append] at m
  rcases m with m | m
  ·obtain ⟨p,t,rfl⟩:=List.mem_map.1 m
   rcases hb' with e | ⟨v,_,e⟩
   ·exact j9q F.name e
   ·exact j9r F.name e
  ·obtain ⟨d,r,m⟩:=List.mem_flatMap.1 m
   obtain ⟨x,l,m⟩:=List.mem_flatMap.1 m
   obtain ⟨k,o,rfl⟩:=List.mem_map.1 m
   rcases hb' with e | ⟨v,A,e⟩
   ·have:=y2q x.name k;rw [e] at this;exact (mJ (.inl (wQ F.name))).2 this
   ·have:=y2q x.name k;rw [e] at this;exact vr_no F.name (F.names v A) this
theorem x7j (h:Right c):sE∉zC c:=fun b=>by
 rcases x0y b with ⟨p,_,e⟩ | ⟨d,_,x,_,k,_,e⟩ | ⟨f,g,e | ⟨v,_,e⟩⟩
 ·have:=congrArg tx e;rw [q2q] at this;cases this
 ·have:=y2q x.name k;rw [<- e] at this;cases this
 ·exact x6h (.inl (wQ (h.fN f g))) e.symm
 ·have:=congrArg tx e;rw [q2r] at this
  have a:(46:UInt8)∈tx sE:=by rw [this];simp
  cases a
theorem x7p:∀{l:List Fun} {m:Pars},(l.map Fun.name).Nodup->(∀f∈l,zK m f.name=none)->∀f∈l,zK (l.foldl (fun m f=>jP m f.name f.params) m) f.name=some f.params:=by
 have keep:∀(l:List Fun) (m:Pars) (n:Bs),n∉l.map Fun.name->zK (l.foldl (fun m f=>jP m f.name f.params) m) n=zK m n:=by
  intro l
  induction l with
  | nil=>intro m n _;rfl
  | cons g l c=>
   intro m n a
   rw [List.map_cons,List.mem_cons,not_or] at a
   rw [List.foldl_cons,c _ _ a.2,xD,if_neg a.1]
 intro l
 induction l with
 | nil=>intro m _ _ f b;cases b
 | cons g l c=>
  intro m a N f b
  rw [List.map_cons] at a
  obtain ⟨h1,h⟩:=List.nodup_cons.1 a
  rw [List.foldl_cons]
  rcases List.mem_cons.1 b with rfl | b
  ·rw [keep _ _ _ h1,xD,if_pos rfl]
  ·refine c h (fun k d=>?_) f b
   rw [xD,if_neg]
   ·exact N k (mcQ _ d)
   ·intro e;exact h1 (e▸List.mem_map_of_mem d)
theorem q4u (h:Right c) {g:Bs} {f:Fun} (a:zK (yK c).funs g=some f):zK (yC c) g=some f.params:=by
 rw [h.funs] at a
 obtain ⟨x,d,b,e2⟩:=vL a
 have e3:x=f:=e2
 subst e3;subst b
 exact x7p h.fU (fun _ _=>rfl) x d
theorem ends_ok (h:Right c) {f:Fun} (z:f∈c.funs):Ends (yK c) (yC c) f.name (f.params.map Param.name++zN f.body) (fun n=>n∈zC c) where
 var v A:=mem_vr z A
 inp i t w:=by
  rw [h.inputs] at w
  obtain ⟨p,q,e,_⟩:=vL w
  exact e▸q4k q
 fn g k o:=by
  have q:=q4u h o
  rw [h.funs] at o
  obtain ⟨x,l,u,e2⟩:=vL o
  have e3:x=k:=e2
  subst e3;subst u
  exact ⟨mem_fn l,fun p r=>mem_vr l (List.mem_append_left _ (List.mem_map_of_mem r)),q⟩
 con k m N j a:=by
  rw [h.cons] at N
  obtain ⟨d,b,u,e2,e3⟩:=y9r N
  rcases List.mem_cons.1 b with rfl | b
  ·simp only [truthsD,List.mem_cons,List.not_mem_nil,or_false] at e2
   rcases e2 with e | e <;> (rw [e] at a;simp at a)
  ·rw [<- e3];exact q4j b e2 a
 arm t d b x l j a:=by
  rw [h.datas] at b
  obtain ⟨y,s,_,e2⟩:=vL b
  have e3:y=d:=e2
  subst e3
  rcases List.mem_cons.1 s with rfl | s
  ·simp only [truthsD,List.mem_cons,List.not_mem_nil,or_false] at l
   rcases l with e | e <;> (rw [e] at a;simp at a)
  ·exact q4j s l a
theorem z8u {f:Fun}:InV (f.params.map Param.name++zN f.body) (sW f.params):=fun n x a=>by
 rw [z3l] at a
 by_cases b:n∈f.params.map Param.name
 ·exact List.mem_append_left _ b
 ·rw [nY b] at a;cases a
theorem q1h {i:Param} {x:Bs} {z:Flow}:∀{l:List Bs} {k:Nat},z∈kQ i x k l->∃j,j < l.length/\z=(inN i.name,vZ x (k+j))
 | [],_,h=>by cases h
 | t::l,k,h=>by
  simp only [kQ,List.mem_append] at h
  rcases h with h | h
  ·split at h
   ·rw [List.mem_singleton] at h;exact ⟨0,by simp,h⟩
   ·cases h
  ·obtain ⟨j,h1,a⟩:=q1h h
   exact ⟨j+1,by simp;omega,by rw [a,show k+1+j=k+(j+1) by omega]⟩
theorem x2w (h:Right c):∀a b,(a,b)∈xW c->a∈zC c/\b∈zC c:=fun a b g=>by
 rw [xW,List.mem_append] at g
 rcases g with g | g
 ·obtain ⟨i,m,g⟩:=List.mem_flatMap.1 g
  obtain ⟨d,l,g⟩:=List.mem_flatMap.1 g
  unfold tG at g
  split at g
  ·obtain ⟨x,o,g⟩:=List.mem_flatMap.1 g
   obtain ⟨j,n,e⟩:=q1h g
   cases e
   rw [Nat.zero_add]
   exact ⟨q4k m,q4j l o n⟩
  ·cases g
 ·obtain ⟨f,k,g⟩:=List.mem_flatMap.1 g
  have F:=z8n h k
  have E:=ends_ok h k
  have hb:∀b∈zN f.body,b∈f.params.map Param.name++zN f.body:=fun b hb=>List.mem_append_right _ hb
  rw [wO,List.mem_append] at g
  rcases g with g | g
  ·exact y2z E F.ty z8u hb (mem_fn k) a b g
  ·exact j9e E F.ty z8u hb a b g
theorem x6d (h:Right c) (hl:xN c=false):GOk (zC c) (zQ c) where
 nd:=q8g h hl
 ends a b d:=x2w h a b ((y6h _ _).1 d)
 ne:=x7j h
theorem q6d (h:Right c) {f:Fun} (a:f∈c.funs):nV (yC c) f.body:=flow_ok (fun _ _ b=>q4u h b) (z8n h a).ty
end
def z4e {α:Type} [DecidableEq α] (a:List α) (x:α):List α:=if x∈a then a else a++[x]
def yL {α:Type} [DecidableEq α] (a l:List α):List α:=l.foldl z4e a
section
variable {α:Type} [DecidableEq α] {a l m:List α} {x y:α}
theorem z5c:yL a (x::l)=yL (z4e a x) l:=rfl
theorem qS:yL a (l++m)=yL (yL a l) m:=List.foldl_append ..
theorem j5h (h:x∈a):z4e a x=a:=if_pos h
theorem q5q (h:¬x∈a):z4e a x=a++[x]:=if_neg h
theorem q5p:(z4e a x).length<=a.length+1:=by
 unfold z4e;split
 ·omega
 ·simp
theorem z0a:∀{l:List α} {a:List α},(yL a l).length<=a.length+l.length
 | [],a=>by simp [yL]
 | x::l,a=>by
  rw [z5c,lcQ]
  have h1:=z0a (l:=l) (a:=z4e a x)
  have b:=q5p (a:=a) (x:=x)
  omega
end
mutual
def okR (T:Table):Ex->Prop
 | .mk k _ s args arms=>(k≠7->arms=[])/\(k=5->∃g,zK T.funs s=some g/\args.length<=g.params.length)/\(k=6->args≠[])/\okRs T args/\okRa T arms
def okRs (T:Table):List Ex->Prop
 | []=>True
 | x::l=>okR T x/\okRs T l
def okRa (T:Table):List Arm->Prop
 | []=>True
 | .mk _ _ b::l=>okR T b/\okRa T l
end
section
variable {T:Table} {pm:Pars} {f:Bs}
theorem nD (e:Ex):okR T e↔(e.kind≠7->e.arms=[])/\(e.kind=5->∃g,zK T.funs e.name=some g/\e.args.length<=g.params.length)/\(e.kind=6->e.args≠[])/\okRs T e.args/\okRa T e.arms:=by
 cases e;simp only [okR,Ex.kind,Ex.name,Ex.args,Ex.arms]
theorem x1g (a:Arm) (l:List Arm):okRa T (a::l)↔okR T a.body/\okRa T l:=by cases a;simp [okRa,Arm.body]
theorem okRs_iff:∀{l:List Ex},okRs T l↔∀e∈l,okR T e
 | []=>by simp [okRs]
 | a::l=>by simp only [okRs,okRs_iff (l:=l)];simp
theorem okRa_iff:∀{l:List Arm},okRa T l↔∀a∈l,okR T a.body
 | []=>by simp [okRa]
 | a::l=>by rw [x1g,okRa_iff];simp
theorem okR_of {s:Scope} {e:Ex} {t:Bs} (h:Tyd T s e t):okR T e:=by
 induction h with
 | num g j hr=>rw [nD,j,hr];exact ⟨fun _=>rfl,fun h=>absurd h (by omega),fun h=>absurd h (by omega),trivial,trivial⟩
 | var g j hr=>rw [nD,j,hr];exact ⟨fun _=>rfl,fun h=>absurd h (by omega),fun h=>absurd h (by omega),trivial,trivial⟩
 | inp g j hr=>rw [nD,j,hr];exact ⟨fun _=>rfl,fun h=>absurd h (by omega),fun h=>absurd h (by omega),trivial,trivial⟩
 | con g hr _ hl _ n=>
  rw [nD,hr]
  refine ⟨fun _=>rfl,fun h=>absurd h (by omega),fun h=>absurd h (by omega),okRs_iff.2 fun x l=>?_,trivial⟩
  obtain ⟨i,f⟩:=List.getElem?_of_mem l
  obtain ⟨t,m⟩:=zZ (i:=i) (hl▸(List.getElem?_eq_some_iff.1 f).1)
  exact n i x t f m
 | call g hr p hl _ n=>
  rw [nD,hr]
  refine ⟨fun _=>rfl,fun _=>⟨_,p,by omega⟩,fun h=>absurd h (by omega),okRs_iff.2 fun x l=>?_,trivial⟩
  obtain ⟨i,f⟩:=List.getElem?_of_mem l
  obtain ⟨t,m⟩:=zZ (i:=i) (hl▸(List.getElem?_eq_some_iff.1 f).1)
  exact n i x t f m
 | let_ g hr k _ _ b d=>
  rw [nD,hr,k]
  refine ⟨fun _=>rfl,fun h=>absurd h (by omega),fun _ h=>?_,⟨b,d,trivial⟩,trivial⟩
  cases h
 | case_ g l _ q hl _ _ b d=>
  rw [nD,l]
  refine ⟨fun h=>absurd g h,fun h=>absurd h (by omega),fun h=>absurd h (by omega),⟨b,trivial⟩,okRa_iff.2 fun a j=>?_⟩
  obtain ⟨i,f⟩:=List.getElem?_of_mem j
  obtain ⟨c,o⟩:=zZ (i:=i) (hl▸(List.getElem?_eq_some_iff.1 f).1)
  exact d i a c f o
 | op g hr k _ _ b d=>
  rw [nD,hr,k]
  exact ⟨fun _=>rfl,fun h=>absurd h (by omega),fun h=>absurd h (by omega),⟨b,d,trivial⟩,trivial⟩
def oK (f:Bs) (e:Ex) (i:Nat):List Bs:=(if e.kind=8 then srcPs f (e.args.drop i) else if i=0 then srcH f e.args else [])++srcPa f e.arms
theorem sK {e:Ex} (a:e.kind=8∨e.kind=7) (b:okR T e):qY f e=oK f e 0:=by
 rcases a with h | h
 ·rw [q5d h,oK,if_pos h,((nD e).1 b).1 (by omega)];simp [srcPa]
 ·rw [tZ h,oK,if_neg (by omega),if_pos rfl]
theorem pH {e x:Ex} {i:Nat} (b:e.args[i]? = some x) (h:i=0∨e.kind=8):oK f e i=qY f x++oK f e (i+1):=by
 unfold oK
 by_cases a:e.kind=8
 ·rw [if_pos a,if_pos a,zA b,srcPs,List.append_assoc]
 ·obtain rfl:i=0:=h.resolve_right a
  rw [if_neg a,if_neg a,if_pos rfl,if_neg (by omega),List.nil_append]
  have:=zA b
  rw [List.drop_zero] at this
  rw [this,srcH]
theorem x1o {e:Ex} {i:Nat} (h:¬i < e.args.length):oK f e i=srcPa f e.arms:=by
 unfold oK
 by_cases a:e.kind=8
 ·rw [if_pos a,zB h];rfl
 ·rw [if_neg a]
  split
  ·subst i
   rw [List.eq_nil_of_length_eq_zero (by omega:e.args.length=0)];rfl
  ·rfl
theorem j3k {e:Ex} {i:Nat} (h:¬i=0) (a:¬e.kind=8):oK f e i=srcPa f e.arms:=by
 rw [oK,if_neg a,if_neg h];rfl
end
section
variable {f s:Bs} {pm:Pars}
theorem srcS_le:∀l:List Ex,(srcS f l).length<=(srcPs f l).length
 | []=>Nat.le_refl _
 | [_]=>by simp [srcS,srcH]
 | x::y::l=>by simp only [srcS,srcH,srcPs,laQ];omega
theorem srcH_le:∀l:List Ex,(srcH f l).length<=(srcPs f l).length
 | []=>Nat.le_refl _
 | x::l=>by simp only [srcH,srcPs,laQ];omega
mutual
theorem z2k:∀(e:Ex) (l:Int),(jC e l).1=false->((qY f e).length:Int)<=l - (jC e l).2/\(jC e l).2+1<=l
 | .mk k n s args arms,l=>by
  intro h
  simp only [jC] at h ⊢
  split at h
  ·cases h
  ·rename_i hl
   rw [if_neg hl]
   cases N:meass args (l - 1) with
   | mk b q=>
    rw [N] at h
    cases b with
    | true=>cases h
    | false=>
     have a:=srcPs_len args (l - 1) (by rw [N])
     have d:=srcPa_len arms q h
     rw [N] at a
     have i:=srcS_le (f:=f) args
     have j:=srcH_le (f:=f) args
     simp only at a d ⊢
     have m:(qY f (.mk k n s args arms)).length<=1+(srcPs f args).length+(srcPa f arms).length:=by
      simp only [qY]
      repeat' split
      all_goals first | omega | (simp only [laQ,lcQ,lnQ];omega)
     omega
theorem srcPs_len:∀(es:List Ex) (l:Int),(meass es l).1=false->((srcPs f es).length:Int)<=l - (meass es l).2/\(meass es l).2<=l
 | [],l=>by intro _;simp [srcPs,meass]
 | e::es,l=>by
  intro h
  simp only [meass] at h ⊢
  cases N:jC e l with
  | mk b q=>
   rw [N] at h
   cases b with
   | true=>cases h
   | false=>
    have a:=z2k e l (by rw [N])
    have d:=srcPs_len es q h
    rw [N] at a
    simp only [srcPs,laQ] at a ⊢
    omega
theorem srcPa_len:∀(es:List Arm) (l:Int),(measa es l).1=false->((srcPa f es).length:Int)<=l - (measa es l).2/\(measa es l).2<=l
 | [],l=>by intro _;simp [srcPa,measa]
 | .mk c vs b::es,l=>by
  intro h
  simp only [measa] at h ⊢
  split at h
  ·cases h
  ·rename_i g
   rw [if_neg g]
   cases N:jC b l with
   | mk q0 q=>
    rw [N] at h
    cases q0 with
    | true=>cases h
    | false=>
     have a:=z2k b l (by rw [N])
     have d:=srcPa_len es q h
     rw [N] at a
     simp only [srcPa,laQ] at a ⊢
     omega
end
theorem q5f (node:Bs) (e:Ex):(toP f node e).length<=(qY f e).length:=by rw [toP,List.length_map];exact aG _
theorem j5s:∀(l:List Ex) (k:Nat),(z5u f s k l).length<=(srcPs f l).length
 | [],_=>Nat.le_refl _
 | x::l,k=>by have h1:=q5f (f:=f) (vZ s k) x;have a:=j5s l (k+1);simp only [z5u,srcPs,laQ];omega
theorem q6f:∀(ps:List Param) (l:List Ex),(cG f s ps l).length<=(srcPs f l).length
 | [],l=>by simp [cG]
 | _::_,[]=>Nat.le_refl _
 | p::ps,x::l=>by have h1:=q5f (f:=f) (vrN s p.name) x;have a:=q6f ps l;simp only [cG,srcPs,laQ];omega
theorem letF_le:∀(l:List Ex),(letF f s l).length<=(srcPs f l).length
 | []=>Nat.le_refl _
 | x::l=>by have h1:=q5f (f:=f) (vrN f s) x;simp only [letF,srcPs,laQ];omega
theorem j0h:∀(l:List Bs) (k:Nat),(z3t f s k l).length=l.length
 | [],_=>rfl
 | _::l,k=>by simp only [z3t,lcQ,j0h l (k+1)]
theorem j5j:∀(es:List Arm) (l:Int),(measa es l).1=false->((uI f es).length:Int)<=16 * (l - (measa es l).2)
 | [],l=>by intro _;simp [uI,measa]
 | .mk c vs b::es,l=>by
  intro h
  simp only [measa] at h ⊢
  split at h
  ·cases h
  ·rename_i d
   rw [if_neg d]
   cases N:jC b l with
   | mk q0 q=>
    rw [N] at h
    cases q0 with
    | true=>cases h
    | false=>
     have a:=z2k (f:=f) b l (by rw [N])
     have g:=j5j es q h
     rw [N] at a
     have e:(uI f (.mk c vs b::es)).length=vs.length+(uI f es).length:=by simp only [uI,List.flatMap_cons,laQ,Arm.con,Arm.vars,j0h]
     rw [e];simp only at a ⊢;omega
theorem x6g (e:Ex) {l q:Int} (hl:1<=l) (h1:(meass e.args (l - 1)).1=false) (a:(measa e.arms (meass e.args (l - 1)).2).1=false):((wX pm f e).length:Int)<=16 * l:=by
 have c:=srcPs_len (f:=f) e.args (l - 1) h1
 have d:=j5j (f:=f) e.arms _ a
 have b:=meass_le e.args (l - 1) h1 (by omega)
 have g:=measa_le e.arms _ a b.1
 unfold wX
 split
 ·have:=j5s (f:=f) (s:=e.name) e.args 0;omega
 ·split
  ·have:=q6f (f:=f) (s:=e.name) ((zK pm e.name).getD []) e.args;omega
  ·split
   ·have:=letF_le (f:=f) (s:=e.name) e.args;omega
   ·split
    ·omega
    ·simp;omega
mutual
theorem z8j:∀(e:Ex) (l:Int),l<=6000->(jC e l).1=false->((jK pm f e).length:Int)<=96000 * (l - (jC e l).2)
 | .mk k n s args arms,l=>by
  intro g h
  simp only [jC] at h ⊢
  split at h
  ·cases h
  ·rename_i hl
   rw [if_neg hl]
   cases N:meass args (l - 1) with
   | mk b q=>
    rw [N] at h
    cases b with
    | true=>cases h
    | false=>
     have a:=meass_le args (l - 1) (by rw [N]) (by omega)
     have d:=flowPs_len args (l - 1) (by omega) (by rw [N])
     have i:=flowPa_len arms q (by rw [N] at a;simp only at a;omega) h
     have m:=x6g (pm:=pm) (f:=f) (.mk k n s args arms) (l:=l) (q:=0) (by omega) (by simp only [Ex.args];rw [N]) (by simp only [Ex.args,Ex.arms];rw [N];exact h)
     rw [N] at d
     simp only [jK,laQ] at d i ⊢
     omega
theorem flowPs_len:∀(es:List Ex) (l:Int),l<=6000->(meass es l).1=false->((flowPs pm f es).length:Int)<=96000 * (l - (meass es l).2)
 | [],l=>by intro _ _;simp [flowPs,meass]
 | e::es,l=>by
  intro g h
  simp only [meass] at h ⊢
  cases N:jC e l with
  | mk b q=>
   rw [N] at h
   cases b with
   | true=>cases h
   | false=>
    have d:=z8j e l g (by rw [N])
    have a:=(wJ e l (by rw [N])).2
    rw [N] at d a
    have i:=flowPs_len es q (by simp only at a;omega) h
    simp only [flowPs,laQ] at d ⊢
    omega
theorem flowPa_len:∀(es:List Arm) (l:Int),l<=6000->(measa es l).1=false->((flowPa pm f es).length:Int)<=96000 * (l - (measa es l).2)
 | [],l=>by intro _ _;simp [flowPa,measa]
 | .mk c vs b::es,l=>by
  intro g h
  simp only [measa] at h ⊢
  split at h
  ·cases h
  ·rename_i j
   rw [if_neg j]
   cases N:jC b l with
   | mk q0 q=>
    rw [N] at h
    cases q0 with
    | true=>cases h
    | false=>
     have d:=z8j b l g (by rw [N])
     have a:=(wJ b l (by rw [N])).2
     rw [N] at d a
     have i:=flowPa_len es q (by simp only at a;omega) h
     simp only [flowPa,laQ] at d ⊢
     omega
end
end
structure TTidy (T:Table):Prop where
 inp:∀n t,zK T.inputs n=some t->n.size<=1000
 fn:∀n f,zK T.funs n=some f->n.size<=1000/\f.params.length<=1000
 con:∀n m,zK T.cons n=some m->n.size<=1000/\m.con.fields.length<=1000
 arm:∀n d,zK T.datas n=some d->∀x∈d.cons,x.name.size<=1000/\x.fields.length<=1000
theorem tidy_of {T:Table} (B:TTidy T) {V:List Bs} (C:∀v∈V,v.size<=1000) {s:Scope} {e:Ex} {t:Bs} (h:Tyd T s e t):InV V s->(∀b∈zN e,b∈V)->wT e:=by
 induction h with
 | num o q hb=>intro _ _;rw [kY,q,hb];simp [o]
 | var o q hb w=>intro O _;rw [kY,q,hb];exact ⟨fun _ _=>C _ (O _ _ w),by simp,by simp,by simp⟩
 | inp o q hb w=>intro O _;rw [kY,q,hb];exact ⟨fun _ _=>B.inp _ _ w,by simp,by simp,by simp⟩
 | @con s e m o z N hl A F=>
  intro O hb
  obtain ⟨h1,G⟩:=B.con _ _ N
  rw [kY,z]
  refine ⟨fun _ _=>h1,by omega,fun x f=>?_,by simp⟩
  obtain ⟨i,p⟩:=List.getElem?_of_mem f
  obtain ⟨u,E⟩:=zZ (l:=m.con.fields) (i:=i) (by have:=(List.getElem?_eq_some_iff.1 p).1;omega)
  exact F i x u p E O (xX hb f)
 | @call s e g o z N hl A F=>
  intro O hb
  obtain ⟨h1,G⟩:=B.fn _ _ N
  rw [kY,z]
  refine ⟨fun _ _=>h1,by omega,fun x f=>?_,by simp⟩
  obtain ⟨i,p⟩:=List.getElem?_of_mem f
  obtain ⟨u,E⟩:=zZ (l:=g.params) (i:=i) (by have:=(List.getElem?_eq_some_iff.1 p).1;omega)
  exact F i x u p E O (xX hb f)
 | let_ o z j _ _ k n=>
  intro O hb
  rw [kY,z,j]
  refine ⟨fun _ _=>C _ (y2n hb o),by simp,fun x f=>?_,by simp⟩
  rcases List.mem_cons.1 f with rfl | f
  ·exact k O (xX hb (by rw [j];simp))
  ·rw [List.mem_singleton] at f;subst f
   exact n (O.put (y2n hb o)) (xX hb (by rw [j];simp))
 | @case_ s e x dt u d o f A K L I M k n=>
  intro O hb
  rw [kY,f]
  refine ⟨fun _ h=>(by omega),by simp,fun y H=>?_,fun a q=>?_⟩
  ·rw [List.mem_singleton] at H;subst H;exact k O (xX hb (by rw [f];simp))
  ·obtain ⟨i,p⟩:=List.getElem?_of_mem q
   obtain ⟨c,r⟩:=zZ (l:=d.cons) (i:=i) (by have:=(List.getElem?_eq_some_iff.1 p).1;omega)
   have hb':=y2m hb q
   obtain ⟨h1,G⟩:=B.arm _ _ K c (mgQ r)
   obtain ⟨g1,P⟩:=I i a c p r
   refine ⟨by rw [g1];exact h1,by omega,fun v w=>C _ (hb' v (List.mem_append_left _ w)),?_⟩
   exact n i a c p r (O.putAll fun v w=>hb' v (List.mem_append_left _ w)) (fun b D=>hb' b (List.mem_append_right _ D))
 | op o z j _ _ k n=>
  intro O hb
  rw [kY,z,j]
  refine ⟨fun _ h=>(by omega),by simp,fun x f=>?_,by simp⟩
  rcases List.mem_cons.1 f with rfl | f
  ·exact k O (xX hb (by rw [j];simp))
  ·rw [List.mem_singleton] at f;subst f;exact n O (xX hb (by rw [j];simp))
section
variable {c:Core}
theorem tL (hl:xN c=false) {d:Data} (a:d∈c.datas):d.cons.length<=16/\∀x∈d.cons,x.fields.length<=16:=by
 simp only [xN,Bool.or_eq_false_iff,List.any_eq_false] at hl
 have:=hl.1.2 d a
 simp only [dC,Bool.or_eq_true,decide_eq_true_eq,not_or,List.any_eq_true,not_exists,not_and] at this
 exact ⟨by omega,fun x b=>by have:=this.2 x b;omega⟩
theorem z0o:∀x∈truthsD.cons,x.name.size<=1000/\x.fields.length<=1000:=by
 intro x a
 simp only [truthsD,List.mem_cons,List.not_mem_nil,or_false] at a
 rcases a with rfl | rfl <;> exact ⟨by decide,by decide⟩
theorem ttidy (h:Right c) (hl:xN c=false):TTidy (yK c) where
 inp n t a:=by
  rw [h.inputs] at a
  obtain ⟨p,k,e,_⟩:=vL a
  have:=tQ (h.iN p k);rw [<- e];omega
 fn n f a:=by
  rw [h.funs] at a
  obtain ⟨x,b,j,e2⟩:=vL a
  have e3:x=f:=e2
  subst e3;subst j
  have:=tQ (h.fN x b);have:=(z1z hl b).1;omega
 con n m a:=by
  rw [h.cons] at a
  obtain ⟨d,g,j,e2,e3⟩:=y9r a
  rw [<- e3]
  rcases List.mem_cons.1 g with rfl | g
  ·exact z0o _ e2
  ·have:=y3r (z5v h g e2);have:=(tL hl g).2 _ e2;omega
 arm n d a x b:=by
  rw [h.datas] at a
  obtain ⟨y,i,_,e2⟩:=vL a
  have e3:y=d:=e2
  subst e3
  rcases List.mem_cons.1 i with rfl | i
  ·exact z0o _ b
  ·have:=y3r (z5v h i b);have:=(tL hl i).2 _ b;omega
theorem z8m (h:Right c) {f:Fun} (a:f∈c.funs):∀v∈f.params.map Param.name++zN f.body,v.size<=1000:=fun v b=>by
 have:=tQ ((z8n h a).names v b);omega
theorem tidyC (h:Right c) (hl:xN c=false):TidyC c where
 inp p a:=by have:=tQ (h.iN p a);omega
 con d e x i:=by have:=y3r (z5v h e i);have:=(tL hl e).2 _ i;omega
 fn f g:=by
  have h1:=z8m h g
  have:=tQ (h.fN f g)
  exact ⟨by omega,fun p a=>h1 _ (List.mem_append_left _ (List.mem_map_of_mem a)),fun b hb=>h1 b (List.mem_append_right _ hb)⟩
theorem aE {α β:Type} {f:α->List β} {n:Nat}:∀{l:List α},(∀x∈l,(f x).length<=n)->(l.flatMap f).length<=l.length * n
 | [],_=>by simp
 | x::l,h=>by
  rw [List.flatMap_cons,laQ,lcQ,Nat.add_mul]
  have h1:=h x msQ
  have b:=aE (l:=l) fun y a=>h y (mcQ _ a)
  omega
theorem x0x (hl:xN c=false):(zC c).length<=1000000000:=by
 have i:=z2a hl;have a2:=z4u hl;have a3:=q1b hl
 have j:(c.datas.flatMap z5x).length<=c.datas.length * 256:=aE fun d b=>by
  obtain ⟨h1,a⟩:=tL hl b
  have:(z5x d).length<=d.cons.length * 16:=aE fun x h=>by simp only [z6d,List.length_map,List.length_range];exact a x h
  omega
 have k:(c.funs.flatMap dP).length<=c.funs.length * 102017:=aE fun f g=>by
  obtain ⟨h1,a⟩:=z1z hl g
  simp only [dP,lcQ,laQ,List.length_map];omega
 have e:(zC c).length=c.inputs.length+(c.datas.flatMap z5x).length+(c.funs.flatMap dP).length:=by simp only [zC,laQ,List.length_map]
 rw [e]
 have c2:c.datas.length * 256<=60 * 256:=Nat.mul_le_mul_right _ a2
 have c3:c.funs.length * 102017<=300 * 102017:=Nat.mul_le_mul_right _ a3
 omega
theorem q0t (i:Param) (x:Bs):∀(l:List Bs) (k:Nat),(kQ i x k l).length<=l.length
 | [],_=>Nat.le_refl _
 | t::l,k=>by
  have:=q0t i x l (k+1)
  simp only [kQ,laQ,lcQ];split <;> simp <;> omega
theorem j9h (hl:xN c=false):(xW c).length<=1000000000000:=by
 have a:=z2a hl;have a2:=z4u hl;have a3:=q1b hl
 have k:(c.inputs.flatMap (uO c)).length<=c.inputs.length * 15360:=aE fun i o=>by
  have:(uO c i).length<=c.datas.length * 256:=aE fun d g=>by
   obtain ⟨h1,b⟩:=tL hl g
   unfold tG
   split
   ·have:(d.cons.flatMap fun x=>kQ i x.name 0 x.fields).length<=d.cons.length * 16:=aE fun x j=>Nat.le_trans (q0t i x.name x.fields 0) (b x j)
    omega
   ·simp
  have:c.datas.length * 256<=60 * 256:=Nat.mul_le_mul_right _ a2
  omega
 have l:(c.funs.flatMap (wO (yC c))).length<=c.funs.length * 600000000:=aE fun f h=>by
  obtain ⟨m,m1,m2⟩:=z4v hl h
  have p:=z2k (f:=f.name) f.body m m2
  have q:=z8j (pm:=yC c) (f:=f.name) f.body m m1 m2
  have r:=(wJ f.body m m2).1
  have s:=q5f (f:=f.name) f.name f.body
  simp only [wO,laQ]
  omega
 have e:(xW c).length=(c.inputs.flatMap (uO c)).length+(c.funs.flatMap (wO (yC c))).length:=by simp only [xW,laQ]
 rw [e]
 have n:c.inputs.length * 15360<=6 * 15360:=Nat.mul_le_mul_right _ a
 have c3:c.funs.length * 600000000<=300 * 600000000:=Nat.mul_le_mul_right _ a3
 omega
theorem q8r {n:Bs} {ps:List Param}:∀{l:List Fun} {m:Pars},zK (l.foldl (fun m f=>jP m f.name f.params) m) n=some ps->zK m n=some ps∨∃f∈l,f.params=ps
 | [],_,h=>.inl h
 | f::l,m,h=>by
  rcases q8r (l:=l) (m:=jP m f.name f.params) h with h1 | ⟨g,a,e⟩
  ·rw [xD] at h1
   split at h1
   ·cases h1;exact .inr ⟨f,msQ,rfl⟩
   ·exact .inl h1
  ·exact .inr ⟨g,mcQ _ a,e⟩
theorem qN (h:yG c=0):LOk c:=by
 have a:=oC h
 obtain ⟨hl,_⟩:=j2l h
 refine ⟨tidyC a hl,x0x hl,by have:=z2a hl;omega,fun f d=>⟨tidy_of (ttidy a hl) (z8m a d) (z8n a d).ty z8u (fun b hb=>List.mem_append_right _ hb),q6d a d⟩,fun n ps e p g=>?_,j9h hl,x6d a hl⟩
 rcases q8r e with h1 | ⟨f,d,rfl⟩
 ·cases h1
 ·exact z8m a d _ (List.mem_append_left _ (List.mem_map_of_mem g))
end
theorem q8z {s:Bs} (h:kT (s.extract 0 s.size) ⟨#[40,42]⟩=true):zG s 0=40:=by
 simp only [kT,baQ,decide_eq_true_eq] at h
 obtain ⟨h1,c⟩:=h
 have h1:2<=s.size:=by
  have d:(⟨#[40,42]⟩:Bs).size=2:=rfl
  rw [ByteArray.size_extract] at h1;omega
 have a:=congrArg (fun b:Bs=>zG b 0) c
 have e:zG (⟨#[40,42]⟩:Bs) 0=40:=by decide
 rw [e] at a
 rw [<- a]
 rw [pM (by omega),pM (by rw [ByteArray.size_extract,ByteArray.size_extract];have d:(⟨#[40,42]⟩:Bs).size=2:=rfl;omega)]
 simp [ByteArray.getElem_extract]
theorem q8u {s:Bs} (hb:xR (zG s 0)=false) (a:zG s 0≠40):cH s 0=.ok 0:=by
 have hr:yS xR s s.size 0=0:=by rw [xV,if_neg (by simp [hb])]
 unfold cH
 rw [z2e,hr,if_neg (fun h=>a (q8z h))]
theorem x7r (s:Bs):∃q,cH s s.size=.ok q/\s.size<=q:=by
 have hr:yS xR s s.size s.size=0:=by rw [xV,if_neg (by omega)]
 refine ⟨s.size,?_,Nat.le_refl _⟩
 unfold cH
 rw [z2e,hr,if_neg]
 ·rfl
 ·intro h
  have:=jT h
  have a:(⟨#[40,42]⟩:Bs).size=2:=rfl
  omega
theorem q9u {c:Nat} (h:qQ c=true∨qW c=true):xR c=false/\c≠40/\yF c=false/\c≠126:=by
 simp only [qQ,qW,baQ,decide_eq_true_eq] at h
 refine ⟨?_,by omega,?_,by omega⟩
 ·simp only [xR,Bool.or_eq_false_iff,decide_eq_false_iff_not];omega
 ·simp only [yF,Bool.and_eq_false_iff,decide_eq_false_iff_not];omega
def y5o (c:Nat):Int:=if qQ c then 2 else 3
theorem q5g {s:Bs} (h:qQ (zG s 0)=true∨qW (zG s 0)=true):yB s 0=kR s 0 (y5o (zG s 0)):=by
 obtain ⟨_,_,a,b⟩:=q9u h
 unfold yB y5o
 rw [if_neg (by simp [a,b])]
 by_cases O:qQ (zG s 0)=true
 ·rw [if_pos O,if_pos O]
 ·rw [if_neg O,if_neg O,if_pos (h.resolve_left O)]
theorem gE {s:Bs} (f:s.size<=24) (b:0 < s.size) (h:qQ (zG s 0)=true∨qW (zG s 0)=true) :
  vQ s=if qG s 0=s.size then (if z1t s then 5 else y5o (zG s 0)) else 0:=by
 have hl:=y6j s 0 (by omega)
 obtain ⟨h1,d,_,_⟩:=q9u h
 have i:kR s 0 (y5o (zG s 0))=.ok ⟨if z1t (s.extract 0 (0+qG s 0)) then 5 else y5o (zG s 0),0,s.extract 0 (0+qG s 0),0⟩:=by
  unfold kR;rw [if_neg (by omega)]
 unfold vQ
 rw [if_neg (by omega)]
 unfold aL
 rw [gA,q8u h1 d]
 simp only [if_pos b,q5g h,i]
 by_cases O:qG s 0=s.size
 ·have j:s.extract 0 (0+qG s 0)=s:=by rw [O,Nat.zero_add];simp
  rw [j,if_pos O]
  obtain ⟨q,hq,g⟩:=x7r s
  have:gA s s.size (0+s.size)=.ok []:=by
   rw [Nat.zero_add,show s.size=(s.size - 1)+1 by omega,gA,show s.size - 1+1=s.size by omega,hq]
   simp only [if_neg (show ¬q < s.size by omega)]
  rw [this]
  simp
 ·rw [if_neg O]
  have a:s.extract 0 (0+qG s 0)≠s:=fun e=>by
   have:=congrArg ByteArray.size e
   rw [ByteArray.size_extract] at this;omega
  cases gA s s.size (0+(s.extract 0 (0+qG s 0)).size) with
  | error c=>rfl
  | ok l=>
   cases l with
   | nil=>simp only [if_neg a]
   | cons k l=>rfl
theorem y6v {c:Nat} (h:qQ c=true∨qW c=true):yR c=true:=by
 unfold yR;rcases h with h | h <;> simp [h]
theorem j0o {s:Bs} (a:0 < s.size) (h:qQ (zG s 0)=true∨qW (zG s 0)=true):yS yR s s.size 0=xO s:=by
 rw [xV,if_pos ⟨a,y6v h⟩];unfold xO;rw [Nat.zero_add];omega
theorem q4m {s:Bs} (b:0 < s.size) (h:qQ (zG s 0)=true∨qW (zG s 0)=true) :
  qG s 0=s.size↔(xO s=s.size∨(zG s (xO s)=39/\xO s+1≠s.size/\xO s+1+yS yF s s.size (xO s+1)=s.size)):=by
 unfold qG
 rw [j0o b h,Nat.zero_add,Nat.zero_add]
 by_cases a:zG s (xO s)=39
 ·rw [if_pos a]
  have c:=tB (t:=s) (i:=xO s) (by omega)
  have hr:=kU yF s s.size (xO s+1) (by omega)
  split <;> omega
 ·rw [if_neg a];omega
theorem q2v {s:Bs} {lo f:Nat} (h:∀c,lo<=c->c<=f->qQ c=true∨qW c=true) :
  z0z s lo f=true↔(0 < s.size/\s.size<=24/\lo<=zG s 0/\zG s 0<=f/\qG s 0=s.size):=by
 unfold z0z
 by_cases i:s.size < 1∨24 < s.size∨zG s 0 < lo∨f < zG s 0
 ·rw [if_pos i]
  refine ⟨fun g=>(by cases g),fun ⟨a,b,c,d,_⟩=>?_⟩
  omega
 ·rw [if_neg i]
  have hb:=h (zG s 0) (by omega) (by omega)
  rw [q4m (by omega) hb]
  by_cases h1:xO s=s.size
  ·rw [if_pos h1]
   exact ⟨fun _=>⟨by omega,by omega,by omega,by omega,.inl h1⟩,fun _=>rfl⟩
  ·rw [if_neg h1]
   by_cases e:zG s (xO s)≠39∨xO s+1=s.size
   ·rw [if_pos e]
    refine ⟨fun g=>(by cases g),fun ⟨_,_,_,_,g⟩=>?_⟩
    rcases g with g | ⟨g1,j,_⟩
    ·exact absurd g h1
    ·rcases e with e | e
     ·exact absurd g1 e
     ·exact absurd e j
   ·rw [if_neg e,decide_eq_true_eq]
    simp only [not_or,Decidable.not_not] at e
    exact ⟨fun g=>⟨by omega,by omega,by omega,by omega,.inr ⟨e.1,e.2,g⟩⟩,fun ⟨_,_,_,_,g⟩=>by rcases g with g | ⟨_,_,g⟩;exact absurd g h1;exact g⟩
theorem y5m (s:Bs):z1t s=dA wordsL s:=by
 unfold z1t wordsM
 have:∀l:List Bs,(yM (l.map (fun s=>(s,Value.int .i64 5))) s).isSome=dA l s:=by
  intro l
  induction l with
  | nil=>rfl
  | cons x l c=>
   simp only [List.map_cons,yM,z8p]
   by_cases a:s=x
   ·rw [if_pos a];simp [a]
   ·rw [if_neg a,c];have b:¬x=s:=fun e=>a e.symm
    simp [b]
 exact this wordsL
theorem q7x {s:Bs} (h:vQ s=2∨vQ s=3):s.size<=24:=by
 unfold vQ at h
 by_cases a:24 < s.size
 ·rw [if_pos a] at h;omega
 ·omega
theorem x7f (s:Bs):z3x s=yQ s:=by
 apply Bool.eq_iff_iff.2
 unfold z3x
 rw [baQ,q2v (fun c h1 a=>.inl (by simp [qQ,h1,a])),<- y5m]
 constructor
 ·rintro ⟨⟨h1,a,e,f,g⟩,i⟩
  have O:qQ (zG s 0)=true:=by simp [qQ,e,f]
  simp only [yQ,decide_eq_true_eq]
  rw [gE a h1 (.inl O),if_pos g,if_neg (by simpa using i),y5o,if_pos O]
 ·intro h
  have b:=wQ h
  obtain ⟨h1,a,_⟩:=z6g (.inl b)
  have d:=q7x (.inl b)
  have O:qQ (zG s 0)=true:=by
   rcases a with ⟨_,a⟩ | ⟨a,_⟩
   ·exact a
   ·omega
  rw [gE d h1 (.inl O)] at b
  have hs':=O
  simp only [qQ,baQ,decide_eq_true_eq] at hs'
  split at b
  ·rename_i hl
   refine ⟨⟨h1,d,hs'.1,hs'.2,hl⟩,?_⟩
   split at b
   ·cases b
   ·rename_i j;simpa using j
  ·cases b
theorem j4t {s:Bs} (h:z1t s=true):qQ (zG s 0)=true:=by
 rw [y5m] at h
 have:=(hasB_mem (l:=wordsL)).1 h
 simp only [wordsL,List.mem_cons,List.not_mem_nil,or_false] at this
 rcases this with rfl | rfl | rfl | rfl | rfl | rfl | rfl | rfl | rfl | rfl | rfl | rfl | rfl | rfl | rfl <;> decide
theorem j5t (s:Bs):conR s=qB s:=by
 apply Bool.eq_iff_iff.2
 unfold conR
 rw [q2v (fun c h1 a=>.inr (by simp [qW,h1,a]))]
 have e:∀c,qW c=true->qQ c=false:=fun c h=>by
  simp only [qW,baQ,decide_eq_true_eq] at h
  simp only [qQ,Bool.and_eq_false_iff,decide_eq_false_iff_not];omega
 constructor
 ·rintro ⟨h1,a,f,i,j⟩
  have O:qW (zG s 0)=true:=by simp [qW,f,i]
  simp only [qB,decide_eq_true_eq]
  rw [gE a h1 (.inr O),if_pos j,if_neg (fun g=>by have:=j4t g;rw [e _ O] at this;cases this),y5o,if_neg (by rw [e _ O];decide)]
 ·intro h
  have d:=y3q h
  obtain ⟨h1,a,_⟩:=z6g (.inr d)
  have b:=q7x (.inr d)
  have O:qW (zG s 0)=true:=by
   rcases a with ⟨a,_⟩ | ⟨_,a⟩
   ·omega
   ·exact a
  rw [gE b h1 (.inr O)] at d
  have hs':=O
  simp only [qW,baQ,decide_eq_true_eq] at hs'
  split at d
  ·rename_i hl;exact ⟨h1,b,hs'.1,hs'.2,hl⟩
  ·cases d
mutual
theorem z9d:∀(e:Ex) (most:Nat),(xG e most<=most->jC e (most:Int)=(false,(most:Int) - (xG e most:Int)))/\(¬xG e most<=most->(jC e (most:Int)).1=true)
 | .mk k nm s args arms,most=>by
  simp only [xG,jC]
  by_cases f:most=0
  ·subst f
   rw [z2j (by omega),sL (by omega)]
   exact ⟨fun h=>by omega,fun _=>by rw [if_pos (by omega)]⟩
  ·rw [if_neg (by omega)]
   have h1:=meass_size args most 1 (by omega)
   have a:=sizeRs_le args most 1 (by omega) (by omega)
   rw [show ((most:Int) - 1)=(most:Int) - ((1:Nat):Int) by omega]
   by_cases O:sizeRs args most 1<=most
   ·rw [h1.1 O]
    exact measa_size arms most _ O
   ·rw [sL O]
    refine ⟨fun g=>absurd g O,fun _=>?_⟩
    have:=h1.2 O
    cases N:meass args ((most:Int) - ((1:Nat):Int)) with
    | mk b q=>rw [N] at this;simp only at this;subst this;rfl
theorem meass_size:∀(es:List Ex) (most n:Nat),n<=most->(sizeRs es most n<=most->meass es ((most:Int) - (n:Int))=(false,(most:Int) - (sizeRs es most n:Int)))/\(¬sizeRs es most n<=most->(meass es ((most:Int) - (n:Int))).1=true)
 | [],most,n,h=>⟨fun _=>rfl,fun g=>absurd h g⟩
 | e::es,most,n,h=>by
  simp only [sizeRs,meass,if_pos h]
  have h1:=z9d e (most - n)
  have hl:=mM e (most - n)
  rw [show ((most:Int) - (n:Int))=((most - n:Nat):Int) by omega]
  by_cases O:xG e (most - n)<=most - n
  ·rw [h1.1 O]
   have a:=meass_size es most (n+xG e (most - n)) (by omega)
   rw [show ((most:Int) - ((n+xG e (most - n):Nat):Int))=((most - n:Nat):Int) - (xG e (most - n):Int) by omega] at a
   exact a
  ·rw [z2j (by omega)]
   refine ⟨fun g=>by omega,fun _=>?_⟩
   have:=h1.2 O
   cases N:jC e ((most - n:Nat):Int) with
   | mk b q=>rw [N] at this;simp only at this;subst this;rfl
theorem measa_size:∀(es:List Arm) (most n:Nat),n<=most->(sizeAr es most n<=most->measa es ((most:Int) - (n:Int))=(false,(most:Int) - (sizeAr es most n:Int)))/\(¬sizeAr es most n<=most->(measa es ((most:Int) - (n:Int))).1=true)
 | [],most,n,h=>⟨fun _=>rfl,fun g=>absurd h g⟩
 | .mk c vs e::es,most,n,h=>by
  simp only [sizeAr,measa,if_pos h]
  by_cases d:16 < vs.length
  ·rw [if_pos d,if_pos d]
   exact ⟨fun g=>by omega,fun _=>rfl⟩
  rw [if_neg d,if_neg d]
  have h1:=z9d e (most - n)
  have hl:=mM e (most - n)
  rw [show ((most:Int) - (n:Int))=((most - n:Nat):Int) by omega]
  by_cases O:xG e (most - n)<=most - n
  ·rw [h1.1 O]
   have a:=measa_size es most (n+xG e (most - n)) (by omega)
   rw [show ((most:Int) - ((n+xG e (most - n):Nat):Int))=((most - n:Nat):Int) - (xG e (most - n):Int) by omega] at a
   exact a
  ·rw [sL (by omega)]
   refine ⟨fun g=>by omega,fun _=>?_⟩
   have:=h1.2 O
   cases N:jC e ((most - n:Nat):Int) with
   | mk b q=>rw [N] at this;simp only at this;subst this;rfl
end
theorem y0m:∀(fs:List Fun) (n:Nat),6000 < n->dS fs n=true
 | [],n,h=>by simpa [dS] using h
 | f::fs,n,h=>by
  simp only [dS,if_neg (show ¬n<=6000 by omega)]
  split
  ·rfl
  ·exact y0m fs n h
theorem q8c:∀(fs:List Fun) (n:Nat),n<=6000->dZ fs ((6000:Int) - (n:Int))=dS fs n
 | [],n,h=>by simp only [dZ,dS];exact (decide_eq_false (by omega)).symm
 | f::fs,n,h=>by
  simp only [dZ,dS,if_pos h]
  have h1:=z9d f.body (6000 - n)
  have hl:=mM f.body (6000 - n)
  rw [show ((6000:Int) - (n:Int))=((6000 - n:Nat):Int) by omega]
  by_cases a:16 < f.params.length
  ·rw [if_pos a];simp [a]
  ·rw [if_neg a]
   by_cases O:xG f.body (6000 - n)<=6000 - n
   ·rw [h1.1 O]
    have b:=q8c fs (n+xG f.body (6000 - n)) (by omega)
    rw [show ((6000:Int) - ((n+xG f.body (6000 - n):Nat):Int))=((6000 - n:Nat):Int) - (xG f.body (6000 - n):Int) by omega] at b
    rw [b];simp [a]
   ·rw [y0m fs _ (by omega),h1.2 O];simp
theorem q8a (c:Core):sF c=xN c:=by
 unfold sF xN
 have:=q8c c.funs 0 (by omega)
 rw [<- this];rfl
theorem y0k {α:Type}:∀(a b:List (Bs×α)) (n:Bs),zK (a++b) n=match zK a n with | some v=>some v | none=>zK b n
 | [],b,n=>rfl
 | (k,x)::a,b,n=>by
  simp only [List.cons_append,zK]
  by_cases h:n=k
  ·rw [if_pos h,if_pos h]
  ·rw [if_neg h,if_neg h];exact y0k a b n
theorem z4h:∀(l:List Data) (n:Bs),zK (kM Data.name id l) n=vB l n
 | [],n=>rfl
 | d::l,n=>by
  simp only [kM,List.map_cons,zK,vB]
  by_cases h:n=d.name
  ·rw [if_pos h,if_pos h.symm];rfl
  ·rw [if_neg h,if_neg (fun e=>h e.symm)];exact z4h l n
theorem z4j (ds:List Data) (n:Bs):zK (kM Data.name id (truthsD::ds)) n=qR ds n:=by
 have h:truthsD.name=kV:=rfl
 rw [z4h,vB,qR,h]
 by_cases a:n=kV
 ·rw [if_pos a.symm,if_pos a]
 ·rw [if_neg (fun e=>a e.symm),if_neg a]
theorem y9q {β:Type} (f:Con->β):∀(l:List Con) (n:Bs),zK (kM Con.name f l) n=(oY l n).map f
 | [],n=>rfl
 | x::l,n=>by
  simp only [kM,List.map_cons,zK,oY]
  by_cases h:n=x.name
  ·rw [if_pos h,if_pos h.symm];rfl
  ·rw [if_neg h,if_neg (fun e=>h e.symm)];exact y9q f l n
theorem y0n:∀(l:List Data) (n:Bs),zK (z3u l) n=mT l n
 | [],n=>rfl
 | d::l,n=>by
  simp only [z3u,List.map_cons,List.flatten_cons,mT]
  rw [y0k,y9q]
  cases oY d.cons n with
  | some x=>rfl
  | none=>exact y0n l n
theorem q7o:∀(l:List Param) (n:Bs),zK (kM Param.name Param.type l) n=z8t l n
 | [],n=>rfl
 | d::l,n=>by
  simp only [kM,List.map_cons,zK,z8t]
  by_cases h:n=d.name
  ·rw [if_pos h,if_pos h.symm]
  ·rw [if_neg h,if_neg (fun e=>h e.symm)];exact q7o l n
theorem q0m:∀(l:List Fun) (n:Bs) (k:Nat),(match sA l n k with | some j=>k<=j/\l[j - k]? = zK (kM Fun.name id l) n/\j - k < l.length | none=>zK (kM Fun.name id l) n=none)
 | [],n,k=>rfl
 | f::l,n,k=>by
  simp only [kM,List.map_cons,zK,sA]
  by_cases h:n=f.name
  ·rw [if_pos h,if_pos h.symm]
   simp
  ·rw [if_neg h,if_neg (fun e=>h e.symm)]
   have a:=q0m l n (k+1)
   cases b:sA l n (k+1) with
   | none=>rw [b] at a;exact a
   | some j=>
    rw [b] at a
    simp only at a ⊢
    obtain ⟨h1,c,d⟩:=a
    refine ⟨by omega,?_,by simp only [lcQ];omega⟩
    rw [show j - k=(j - (k+1))+1 by omega,List.getElem?_cons_succ];exact c
theorem q0l (l:List Fun) (n:Bs):(match nH l n with | some j=>l[j]? | none=>none)=zK (kM Fun.name id l) n:=by
 have:=q0m l n 0
 unfold nH
 cases a:sA l n 0 with
 | none=>rw [a] at this;exact this.symm
 | some j=>rw [a] at this;exact this.2.1
theorem j7l (dn:Bs):∀{l:List Con} {m:List (Bs×Maker)},(∀x∈l,qB x.name=true/\zK m x.name=none)->(l.map Con.name).Nodup->(xY dn true m l).1=true
 | [],m,_,_=>rfl
 | x::l,m,h,a=>by
  have b:=h x msQ
  simp only [xY,b.1,Bool.and_self,if_true,b.2,Option.isNone_none,aH b.2]
  simp only [List.map_cons,List.nodup_cons] at a
  refine j7l dn (fun y c=>⟨(h y (mcQ _ c)).1,?_⟩) a.2
  rw [dB (h y (mcQ _ c)).2]
  exact lget_single.2 (fun e=>a.1 (by rw [<- e];exact List.mem_map_of_mem c))
theorem j7o:∀{l:List Param} {m:List (Bs×Bs)},(∀f∈l,yQ f.name=true/\zK m f.name=none)->(l.map Param.name).Nodup->(uD true m l).1=true
 | [],m,_,_=>rfl
 | x::l,m,h,a=>by
  have b:=h x msQ
  simp only [uD,b.1,Bool.and_self,if_true,b.2,Option.isNone_none,aH b.2]
  simp only [List.map_cons,List.nodup_cons] at a
  refine j7o (fun y c=>⟨(h y (mcQ _ c)).1,?_⟩) a.2
  rw [dB (h y (mcQ _ c)).2]
  exact lget_single.2 (fun e=>a.1 (by rw [<- e];exact List.mem_map_of_mem c))
theorem j8z {β α:Type} {key:β->Bs} {val:β->α} {l:List β} {n:Bs} (h:n∉l.map key):zK (kM key val l) n=none:=by
 cases a:zK (kM key val l) n with
 | none=>rfl
 | some v=>obtain ⟨x,b,e,_⟩:=vL a;exact absurd (e▸List.mem_map_of_mem b) h
theorem j7m:∀{l:List Data} {ds:List (Bs×Data)} {m:List (Bs×Maker)},
  (∀d∈l,qB d.name=true/\d.name≠yU/\zK ds d.name=none/\0 < d.cons.length/\∀x∈d.cons,qB x.name=true/\zK m x.name=none)->(l.map Data.name).Nodup ->
  ((l.map fun d=>d.cons.map Con.name).flatten).Nodup->(uB true ds m l).1=true
 | [],ds,m,_,_,_=>rfl
 | d::l,ds,m,h,a,k=>by
  obtain ⟨h1,g,i,p,q⟩:=h d msQ
  simp only [List.map_cons,List.nodup_cons] at a
  simp only [List.map_cons,List.flatten_cons] at k
  have hc':=qH k
  have b:aK true ds d=true:=by simp [aK,h1,g,i,p]
  have r:pW true ds d=ds++[(d.name,d)]:=by
   unfold pW
   rw [if_pos (by simp [h1,g])]
   exact aH i
  simp only [uB,b,r]
  have j:=j7l d.name q hc'.1
  obtain ⟨_,o,_,_⟩:=z2m d.name j
  rw [j,o]
  refine j7m (fun e J=>?_) a.2 hc'.2.1
  obtain ⟨s,t,u,v,n⟩:=h e (mcQ _ J)
  refine ⟨s,t,?_,v,fun x c=>⟨(n x c).1,?_⟩⟩
  ·rw [dB u]
   exact lget_single.2 (fun e'=>a.1 (by rw [<- e'];exact List.mem_map_of_mem J))
  ·rw [dB (n x c).2]
   refine j8z (fun N=>hc'.2.2 _ N ?_)
   exact List.mem_flatten.2 ⟨_,List.mem_map_of_mem (f:=fun d:Data=>d.cons.map Con.name) J,List.mem_map_of_mem c⟩
structure Tabled (c:Core):Prop where
 dN:∀d∈c.datas,qB d.name=true/\d.name≠yU/\d.name≠kV/\0 < d.cons.length/\∀x∈d.cons,qB x.name=true/\x.name≠y7o/\x.name≠q9r
 dU:(c.datas.map Data.name).Nodup
 cU:((c.datas.map fun d=>d.cons.map Con.name).flatten).Nodup
 fN:∀f∈c.funs,yQ f.name=true
 fU:(c.funs.map Fun.name).Nodup
 iN:∀p∈c.inputs,yQ p.name=true
 iU:(c.inputs.map Param.name).Nodup
theorem z0n:truthsD.cons.map Con.name=[y7o,q9r]:=rfl
theorem z9l {c:Core} (h:Tabled c):nS c=true:=by
 unfold nS isP
 have a:(dsP c).1=true:=by
  unfold dsP
  refine j7m (fun d a=>?_) ?_ ?_
  ·rcases List.mem_cons.1 a with rfl | a
   ·refine ⟨by decide,by decide,rfl,by decide,fun x g=>⟨?_,rfl⟩⟩
    simp only [truthsD,List.mem_cons,List.not_mem_nil,or_false] at g
    rcases g with rfl | rfl <;> decide
   ·obtain ⟨h1,k,s,l,o⟩:=h.dN d a
    exact ⟨h1,k,rfl,l,fun x g=>⟨(o x g).1,rfl⟩⟩
  ·simp only [List.map_cons,List.nodup_cons]
   refine ⟨fun N=>?_,h.dU⟩
   obtain ⟨d,a,e⟩:=List.mem_map.1 N
   exact (h.dN d a).2.2.1 e
  ·simp only [List.map_cons,List.flatten_cons]
   rw [List.nodup_append]
   refine ⟨by rw [z0n];decide,h.cU,fun n b m N e=>?_⟩
   subst e
   obtain ⟨ns,j,g⟩:=List.mem_flatten.1 N
   obtain ⟨d,a,rfl⟩:=List.mem_map.1 j
   obtain ⟨y,r,rfl⟩:=List.mem_map.1 g
   have:=((h.dN d a).2.2.2.2 y r).2
   rw [z0n] at b
   simp only [List.mem_cons,List.not_mem_nil,or_false] at b
   rcases b with b | b
   ·exact this.1 b
   ·exact this.2 b
 have i:(fsP c).1=true:=by unfold fsP;rw [a];exact j7n (fun f i=>⟨h.fN f i,rfl⟩) h.fU
 rw [i]
 exact j7o (fun p q=>⟨h.iN p q,rfl⟩) h.iU
theorem j0b:∀{l:List Data} {ok:Bool} {ds:List (Bs×Data)} {m:List (Bs×Maker)},(uB ok ds m l).1=true->∀d∈l,0 < d.cons.length
 | [],_,_,_,_,_,a=>by cases a
 | e::l,ok,ds,m,h,d,a=>by
  simp only [uB] at h
  rcases List.mem_cons.1 a with rfl | a
  ·have g1:=(z2m _ (z7i h).1).1
   simp only [aK,baQ,decide_eq_true_eq] at g1
   exact g1.2
  ·exact j0b h d a
theorem z0k {c:Core} (h:nS c=true):Tabled c/\(yK c).datas=kM Data.name id (truthsD::c.datas)/\(yK c).cons=z3u (truthsD::c.datas)/\(yK c).funs=kM Fun.name id c.funs/\(yK c).inputs=kM Param.name Param.type c.inputs:=by
 obtain ⟨s,i2,i3,i4⟩:=z2o (show (uD (fsP c).1 [] c.inputs).1=true from h)
 obtain ⟨l,m,n,o⟩:=z2n (show (uC (dsP c).1 [] c.funs).1=true from s)
 have k:=(show (uB true [] [] (truthsD::c.datas)).1=true from l)
 obtain ⟨_,d2,d3,d4,i,j⟩:=z7i k
 have a:=j0b k
 simp only [List.map_cons,List.nodup_cons] at i
 simp only [List.map_cons,List.flatten_cons] at j
 have d6':=qH j
 refine ⟨{ dN:=fun d b=>?_,dU:=i.2,cU:=d6'.2.1,fN:=fun f q=>(n f q).1,fU:=o,iN:=fun p r=>(i3 p r).1,iU:=i4 },d2,d3,m,i2⟩
 obtain ⟨t,u,_,_,v⟩:=d4 d (mcQ _ b)
 have g:∀x∈d.cons,x.name∉[y7o,q9r]:=fun x g N=>d6'.2.2 x.name (by rw [z0n];exact N)
  (List.mem_flatten.2 ⟨_,List.mem_map_of_mem (f:=fun d:Data=>d.cons.map Con.name) b,List.mem_map_of_mem g⟩)
 refine ⟨t,u,fun e=>i.1 (by rw [show truthsD.name=d.name from e.symm];exact List.mem_map_of_mem b),a d (mcQ _ b),fun x N=>⟨(v x N).1,fun e=>?_,fun e=>?_⟩⟩
 ·exact g x N (by rw [e];simp)
 ·exact g x N (by rw [e];simp)
theorem y9s (ds:List Data):∀{l:List Con} {seen:List Bs},z0v ds l seen=true↔(∀x∈l,qB x.name=true/\x.name∉seen/\x.fields.all (jZ ds)=true)/\(l.map Con.name).Nodup
 | [],seen=>by simp [z0v]
 | x::l,seen=>by
  simp only [z0v,baQ,y9s ds (l:=l),j5t,Bool.not_eq_true',List.map_cons,List.nodup_cons,List.mem_cons]
  have O:dA seen x.name=false↔x.name∉seen:=by rw [<- hasB_mem (l:=seen)];simp
  rw [O]
  constructor
  ·rintro ⟨⟨⟨h1,f⟩,h⟩,i,j⟩
   refine ⟨fun y d=>?_,fun N=>?_,j⟩
   ·rcases d with rfl | d
    ·exact ⟨h1,f,h⟩
    ·obtain ⟨a,b,c⟩:=i y d
     exact ⟨a,fun g=>b (by simp [g]),c⟩
   ·obtain ⟨y,d,e⟩:=List.mem_map.1 N
    exact (i y d).2.1 (by simp [e])
  ·rintro ⟨h1,f,h⟩
   obtain ⟨a,b,c⟩:=h1 x (.inl rfl)
   refine ⟨⟨⟨a,b⟩,c⟩,fun y d=>?_,h⟩
   obtain ⟨a',b',c'⟩:=h1 y (.inr d)
   refine ⟨a',fun g=>?_,c'⟩
   rcases List.mem_append.1 g with g | g
   ·exact b' g
   ·simp only [List.mem_cons,List.not_mem_nil,or_false] at g
    exact f (by rw [<- g];exact List.mem_map_of_mem d)
theorem z4k (ds:List Data):∀{l:List Data} {names cons:List Bs},cL ds l names cons=true ↔
  (∀d∈l,qB d.name=true/\d.name∉names/\0 < d.cons.length/\∀x∈d.cons,qB x.name=true/\x.name∉cons/\x.fields.all (jZ ds)=true)/\(l.map Data.name).Nodup/\((l.map fun d=>d.cons.map Con.name).flatten).Nodup
 | [],names,cons=>by simp [cL]
 | d::l,names,cons=>by
  simp only [cL,baQ,z4k ds (l:=l),y9s,j5t,Bool.not_eq_true',List.map_cons,List.nodup_cons,List.mem_cons,List.flatten_cons,decide_eq_true_eq]
  have O:dA names d.name=false↔d.name∉names:=by rw [<- hasB_mem (l:=names)];simp
  rw [O,List.nodup_append]
  constructor
  ·rintro ⟨⟨⟨⟨h1,j⟩,r⟩,o,p⟩,i,s,t⟩
   refine ⟨fun e J=>?_,⟨fun N=>?_,s⟩,p,t,fun n u m N e=>?_⟩
   ·rcases J with rfl | J
    ·exact ⟨h1,j,by omega,o⟩
    ·obtain ⟨a,b,c,k⟩:=i e J
     exact ⟨a,fun g=>b (by simp [g]),c,fun x h=>⟨(k x h).1,fun g=>(k x h).2.1 (by simp [g]),(k x h).2.2⟩⟩
   ·obtain ⟨e,J,ee⟩:=List.mem_map.1 N
    exact (i e J).2.1 (by simp [ee])
   ·subst e
    obtain ⟨ns,q,h⟩:=List.mem_flatten.1 N
    obtain ⟨e,J,rfl⟩:=List.mem_map.1 q
    obtain ⟨y,v,rfl⟩:=List.mem_map.1 h
    exact ((i e J).2.2.2 y v).2.1 (List.mem_append.2 (.inr u))
  ·rintro ⟨h1,⟨j,r⟩,o,p,i⟩
   obtain ⟨a,b,c,k⟩:=h1 d (.inl rfl)
   refine ⟨⟨⟨⟨a,b⟩,by omega⟩,k,o⟩,fun e J=>?_,r,p⟩
   obtain ⟨a',b',c',k'⟩:=h1 e (.inr J)
   refine ⟨a',fun g=>?_,c',fun x h=>⟨(k' x h).1,fun g=>?_,(k' x h).2.2⟩⟩
   ·rcases List.mem_append.1 g with g | g
    ·exact b' g
    ·simp only [List.mem_cons,List.not_mem_nil,or_false] at g
     exact j (by rw [<- g];exact List.mem_map_of_mem J)
   ·rcases List.mem_append.1 g with g | g
    ·exact (k' x h).2.1 g
    ·exact i _ g _ (List.mem_flatten.2 ⟨_,List.mem_map_of_mem (f:=fun d:Data=>d.cons.map Con.name) J,List.mem_map_of_mem h⟩) rfl
def z4y (e:Ex):Prop:=∃l:Int,l<=6000/\(jC e l).1=false
theorem q1f:∀{es:List Ex} {l:Int},l<=6000->(meass es l).1=false->∀x∈es,z4y x
 | [],l,_,_=>by simp
 | e::es,l,c,h=>by
  simp only [meass] at h
  cases N:jC e l with
  | mk b q=>
   rw [N] at h
   cases b with
   | true=>cases h
   | false=>
    have h1:=wJ e l (by rw [N])
    rw [N] at h1
    intro x a
    rcases List.mem_cons.1 a with rfl | a
    ·exact ⟨l,c,by rw [N]⟩
    ·exact q1f (l:=q) (by simp only at h1;omega) h x a
theorem q1e:∀{es:List Arm} {l:Int},l<=6000->(measa es l).1=false->∀a∈es,z4y a.body
 | [],l,_,_=>by simp
 | .mk c vs e::es,l,f,h=>by
  simp only [measa] at h
  split at h
  ·cases h
  ·cases N:jC e l with
   | mk b q=>
    rw [N] at h
    cases b with
    | true=>cases h
    | false=>
     have h1:=wJ e l (by rw [N])
     rw [N] at h1
     intro a d
     rcases List.mem_cons.1 d with rfl | d
     ·exact ⟨l,f,by simp only [Arm.body];rw [N]⟩
     ·exact q1e (l:=q) (by simp only at h1;omega) h a d
theorem y6g {e:Ex} (h:z4y e):(∀x∈e.args,z4y x)/\∀a∈e.arms,z4y a.body:=by
 obtain ⟨l,d,h⟩:=h
 cases e with
 | mk k n s args arms=>
  simp only [jC] at h
  split at h
  ·cases h
  ·rename_i hl
   cases N:meass args (l - 1) with
   | mk b q=>
    rw [N] at h
    cases b with
    | true=>cases h
    | false=>
     have c:=meass_le args (l - 1) (by rw [N]) (by omega)
     rw [N] at c
     exact ⟨q1f (l:=l - 1) (es:=args) (by omega) (by rw [N]),q1e (es:=arms) (l:=q) (by simp only at c;omega) h⟩
theorem wB {f:Bs} {e:Ex} (h:z4y e):(qY f e).length<=6000:=by
 obtain ⟨l,a,h⟩:=h
 have h1:=z2k (f:=f) e l h
 have b:=wJ e l h
 omega
theorem z1n (f:Bs) (e:Ex):(wW f e).length<=(qY f e).length:=aG _
def okF (c:Core) (e:Ex):Prop:=okR (yK c) e/\wT e/\z4y e
section
variable {c:Core} {e:Ex} {f s:Bs}
theorem kS (h:okF c e) {x:Ex} (a:x∈e.args):okF c x:=⟨okRs_iff.1 ((nD e).1 h.1).2.2.2.1 x a,((kY e).1 h.2.1).2.2.1 x a,(y6g h.2.2).1 x a⟩
theorem okF_arm (h:okF c e) {a:Arm} (b:a∈e.arms):okF c a.body:=⟨okRa_iff.1 ((nD e).1 h.1).2.2.2.2 a b,(((kY e).1 h.2.1).2.2.2 a b).2.2.2,(y6g h.2.2).2 a b⟩
theorem q8m (h:okF c e) (a:¬e.kind=7):e.arms=[]:=((nD e).1 h.1).1 a
theorem okF_let (h:okF c e) (a:e.kind=6):0 < e.args.length:=List.length_pos_iff.2 (((nD e).1 h.1).2.2.1 a)
theorem fun_at {g:Fun} (a:zK (yK c).funs s=some g) (d:Right c):∃j,nH c.funs s=some j/\c.funs[j]? = some g:=by
 rw [d.funs,<- q0l] at a
 cases b:nH c.funs s with
 | none=>rw [b] at a;cases a
 | some j=>rw [b] at a;exact ⟨j,rfl,a⟩
theorem y4r:∀{l:List Fun} {n:Bs} {i j:Nat},sA l n i=some j->∃g,l[j - i]? = some g/\g.name=n/\i<=j
 | [],_,_,_,h=>by cases h
 | g::l,n,i,j,h=>by
  simp only [sA] at h
  split at h
  ·rename_i b
   cases h
   exact ⟨g,by simp,b,Nat.le_refl _⟩
  ·obtain ⟨q,h1,a,c⟩:=y4r h
   exact ⟨q,by rw [show j - i=(j - (i+1))+1 by omega,List.getElem?_cons_succ];exact h1,a,by omega⟩
theorem x7m (h:okF c e) (l:e.kind=5) (b:Right c) (m:TidyC c):∃j g,nH c.funs e.name=some j/\c.funs[j]? = some g/\(zK (yC c) e.name).getD []=g.params/\g.name=e.name/\e.args.length<=g.params.length/\g.name.size<=1000/\∀p∈g.params,p.name.size<=1000:=by
 obtain ⟨g,d,hl⟩:=((nD e).1 h.1).2.1 l
 obtain ⟨j,f,a⟩:=fun_at d b
 obtain ⟨q,h1,k,_⟩:=y4r f
 rw [Nat.sub_zero,a] at h1
 cases h1
 have i:=m.fn g (mgQ a)
 exact ⟨j,g,f,a,by rw [q4u b d];rfl,k,hl,i.1,i.2.1⟩
theorem j9k {j:Nat} (h:nH c.funs s=some j):nB c.funs s=((j:Nat):Int):=by unfold nB;rw [h]
end
def RNat (_:Fz) (cs:List Value) (x:Nat):Prop:=cs=[.int .i64 x]
theorem RNat.mono (Φ Ψ:Fz) (c:List Value) (x:Nat) (_:Φ.Le Ψ) (h:RNat Φ c x):RNat Ψ c x:=h
def nats (l:List Nat):List Value:=l.map fun n=>.int .i64 ((n:Nat):Int)
theorem z2c (l:List Nat):(nats l).length=l.length:=by simp [nats]
theorem z9e (l:List Nat) (x:Nat):nats l++[.int .i64 x]=nats (l++[x]):=by simp [nats]
theorem chunks_nat {Φ:Fz}:∀{l:List Nat} {cs:List Value},Chunks (RNat Φ) 1 cs l↔cs=nats l
 | [],cs=>Iff.rfl
 | x::l,cs=>by
  constructor
  ·rintro ⟨a,b,rfl,h1,c,d⟩
   rw [chunks_nat.1 d];cases c;rfl
  ·rintro rfl
   exact ⟨_,_,rfl,rfl,rfl,chunks_nat.2 rfl⟩
theorem SliceOf.nats {Φ:Fz} {v:Value} {l:List Nat}:SliceOf RNat Φ 1 v l↔Row Φ v 1 (nats l) :=
 ⟨fun ⟨_,h1,a⟩=>chunks_nat.1 a▸h1,fun h=>⟨_,h,chunks_nat.2 rfl⟩⟩
structure GrD where
 nodes:List Bs
 fr:List Nat
 to:List Nat
def RGr (Φ:Fz) (cs:List Value) (g:GrD):Prop:=∃v0 a v2,cs=[v0,a,v2]/\SliceOf RStr Φ 1 v0 g.nodes/\SliceOf RNat Φ 1 a g.fr/\SliceOf RNat Φ 1 v2 g.to
theorem RGr.mono (Φ Ψ:Fz) (c:List Value) (g:GrD) (hl:Φ.Le Ψ) (h:RGr Φ c g):RGr Ψ c g :=
 let ⟨v0,e,v2,a,h1,b,d⟩:=h
 ⟨v0,e,v2,a,h1.mono RStr.mono hl,b.mono RNat.mono hl,d.mono RNat.mono hl⟩
def jH (c:Core):GrD:=⟨zC c,(zQ c).map fun f=>qC (zC c) f.1,(zQ c).map fun f=>qC (zC c) f.2⟩
theorem z6e (c:Core):(jH c).fr.zip (jH c).to=cM (zC c) (zQ c):=by
 simp only [jH,cM,List.zip_map',List.map_map]
theorem sH {c:Core} {i:Nat} {p:Param} (h:c.inputs[i]? = some p):(zC c)[i]? = some (inN p.name):=by
 have a:=(List.getElem?_eq_some_iff.1 h).1
 rw [zC,List.append_assoc,List.getElem?_append_left (by rw [List.length_map];exact a),List.getElem?_map,h];rfl
instance:AgT 86:=⟨Tryz.isAgg86⟩
instance:SzT 86 3:=⟨Tryz.sizeOf86⟩
instance:SlT 90 4:=⟨Tryz.runUnderlying90⟩
instance:ZeT 86 [.slice none 0 0,.slice none 0 0,.slice none 0 0]:=⟨_,Tryz.zeroValue86,rfl⟩
instance:BzT 86 [.slice none 0 0,.slice none 0 0,.slice none 0 0] [0,1,2]:=⟨trivial⟩
instance:MonoF RNat:=⟨RNat.mono⟩
section
variable {Φ:Fz} {K:List Res} {w:World}
theorem y9c {l:List Bs} {v:Value} {d1:List Value} {e:Ex} (k1:REx Φ d1 e) (hb:l.length+(zN e).length<=8796093000000) (ih:∀x:Ex,x.sz < e.sz->∀{Φ:Fz} {K:List Res} {w:World} {d:List Value} {v:Value} {l:List Bs},l.length+(zN x).length<=8796093000000->REx Φ d x->Mem Φ (.gs v 9 1 (strs l)::K) w->Calls prog 111 #[v,.agg d.toArray] w (fun ee w'=>∃v,ee=.returned v/\Mem Φ (.gs v 9 1 (strs (l++zN x))::K) w')) (N:Mem Φ (.gs v 9 1 (strs l)::K) w) :
  Calls prog 111 #[v,.agg d1.toArray] w (fun ee w'=>∃v,ee=.returned v/\Mem Φ (.gs v 9 1 (strs (l++zN e))::K) w'):=by
 obtain ⟨W,c4,p9,t,rfl,M1,h2,h8,F2,i0,S1,G⟩:=REx.fm k1
 refine zL func111 ntmps111 fun Q hQ a J=>?_
 refine Bx fun f w N a J=>?_
 by_cases A2:e.kind=6
 refine jQ fun V w N a J=>?_
 refine vH 2 xQ (fun v20 w N a J=>?_) (hb:=by simp [zR];omega)
 first | rw [qI] at N | rw [<- yN] at N
 refine go fun a J=>?_
 refine jS (fun mm a w=>∃(i:Nat) (u:Value) (m:List Bs),mm=e.args.length - i/\EnvR 53 [(0,u),(3,.pointer (some ⟨f,0,none⟩)),(5,.int .i64 i)] [] a/\Mem Φ (.gs (V) 9 1 [.string e.name]::.blk f (ob [.int .i64 (e.kind),.int .i64 (e.num),.string e.name,.slice W e.args.length c4,.slice p9 e.arms.length t] 110)::.gs (u) 9 1 (strs m)::K) w/\(l++zN e=m++bindPs (e.args.drop i)++bindPa e.arms)) (e.args.length - 0) ⟨0,v20,(l++[e.name]),rfl,J.pk,N,by rw [wM];simp [*]⟩ ?_
 clear N J
 rintro mm a w ⟨i,u,m,q,J,N,z⟩ q2 f0
 by_cases d0:i < e.args.length
 refine go fun a J=>?_
 obtain ⟨M2,rfl,n1,s,y1,P1,K1,H⟩:=h2.el i0 d0
 obtain ⟨G2,t2,H2,v2,rfl,N1,B2,C2,T1,Z1,U1,a2⟩:=REx.fm H
 refine go fun a J=>?_
 replace N:=N.pl 2
 refine st J rfl rfl rfl (jF J rfl call111 (ih _ (by first | exact Ex.lt_args (mgQ s) | exact Ex.lt_arms (mgQ s)) (l:=m) (by have hq:=congrArg List.length z;rw [zA s] at hq;simp only [bindPs,qE,laQ] at hq hb ⊢;omega) H N) fun l1 w N a J=>?_)
 replace N:=N.nf
 refine go fun a J=>?_
 replace N:=N.ar [] [2,2]
 refine f0 _ _ _ (by subst q;omega) ⟨(i+1),(l1),((m++zN n1)),rfl,J.pk,N,?_⟩
 rw [z,zA s];simp [bindPs]
 refine go fun a J=>?_
 refine jS (fun mm a w=>∃(j:Nat) (U:Value) (m2:List Bs),mm=e.arms.length - j/\EnvR 53 [(0,U),(3,.pointer (some ⟨f,0,none⟩)),(6,.int .i64 j)] [] a/\Mem Φ (.gs (V) 9 1 [.string e.name]::.blk f (ob [.int .i64 (e.kind),.int .i64 (e.num),.string e.name,.slice W e.args.length c4,.slice p9 e.arms.length t] 110)::.gs (U) 9 1 (strs m2)::K) w/\(l++zN e=m2++bindPa (e.arms.drop j))) (e.arms.length - 0) ⟨0,u,m,rfl,J.pk,N,by rw [z,zB d0];simp [bindPs]⟩ ?_
 clear N J
 rintro mm a w ⟨j,U,m2,q,J,N,r⟩ r2 g0
 by_cases L:j < e.arms.length
 refine go fun a J=>?_
 obtain ⟨j1,rfl,o1,I,z1,Q1,L1,j0⟩:=h8.el G L
 obtain ⟨N2,s2,rfl,e0,C0⟩:=RArm.iff.1 j0
 obtain ⟨I2,w2,rfl,V1,b2⟩:=e0.fm
 obtain ⟨J2,x2,K2,y2,rfl,O1,D2,E2,W1,c2,X1,d2⟩:=REx.fm C0
 refine vH 2 xQ (fun m1 w N a J=>?_) (hr:=(SliceOf.strs.1 e0).rowIn N.toSees) (h1:=z0j _) (hb:=by have hq:=congrArg List.length r;rw [zA I,qE] at hq;simp only [laQ,zR] at hq hb ⊢;omega)
 first | rw [qI] at N | rw [<- yN] at N
 refine go fun a J=>?_
 obtain ⟨g,h⟩:=zZ L
 obtain ⟨A1,R1,h0,k0⟩:=h8.elem h
 obtain ⟨O2,r1,rfl,D0,C⟩:=RArm.iff.1 k0
 obtain ⟨L2,z2,rfl,Y1,e2⟩:=D0.fm
 obtain ⟨l0,X,m0,Y,rfl,G0,B1,C1,N0,X0,O0,Y0⟩:=REx.fm C
 refine Qq (fun a J=>?_) (o:=by exact fun J O=>vK 2 (vs:=[.int .i64 (g.body.kind),.int .i64 (g.body.num),.string g.body.name,.slice l0 g.body.args.length X,.slice m0 g.body.arms.length Y]) J O rfl h0 isAgg110 sizeOf110 rfl rfl)
 replace N:Mem Φ (.gs (V) 9 1 [.string e.name]::.blk f (ob [.int .i64 (e.kind),.int .i64 (e.num),.string e.name,.slice W e.args.length c4,.slice (some j1) e.arms.length t] 110)::.gs (m1) 9 1 (strs (m2++g.vars))::K) w:=by rw [show g=o1 from Option.some.inj (h.symm.trans I)];exact N
 replace N:=N.pl 2
 refine st J rfl rfl rfl (jF J rfl call111 (ih _ (by first | exact Ex.lt_args (mgQ h) | exact Ex.lt_arms (mgQ h)) (l:=m2++g.vars) (by have hq:=congrArg List.length r;rw [zA h] at hq;simp only [bindPs,qE,laQ] at hq hb ⊢;omega) C N) fun q0 w N a J=>?_)
 replace N:=N.nf
 refine go fun a J=>?_
 replace N:=N.ar [] [2,2]
 refine g0 _ _ _ (by subst q;omega) ⟨(j+1),(q0),((m2++g.vars++zN g.body)),rfl,J.pk,N,?_⟩
 rw [r,zA h,qE];simp
 refine zD ?_
 replace N:=N.dl [1,0]
 refine ⟨_,rfl,?_⟩
 rw [show (strs (l++zN e))=(strs m2) by rw [r,zB L];simp [bindPa]];exact N
 refine go fun a J=>?_
 refine jS (fun mm a w=>∃(i:Nat) (u:Value) (m:List Bs),mm=e.args.length - i/\EnvR 53 [(0,u),(3,.pointer (some ⟨f,0,none⟩)),(5,.int .i64 i)] [] a/\Mem Φ (.blk f (ob [.int .i64 (e.kind),.int .i64 (e.num),.string e.name,.slice W e.args.length c4,.slice p9 e.arms.length t] 110)::.gs (u) 9 1 (strs m)::K) w/\(l++zN e=m++bindPs (e.args.drop i)++bindPa e.arms)) (e.args.length - 0) ⟨0,v,l,rfl,J.pk,N,by rw [wM];simp [*]⟩ ?_
 clear N J
 rintro mm a w ⟨i,u,m,q,J,N,p⟩ p1 M
 by_cases D:i < e.args.length
 refine go fun a J=>?_
 obtain ⟨n2,rfl,t0,n,z0,K0,E0,A⟩:=h2.el i0 D
 obtain ⟨f2,c135,g2,u1,rfl,H0,D1,E1,P0,Z0,Q0,a1⟩:=REx.fm A
 refine go fun a J=>?_
 replace N:=N.pl 1
 refine st J rfl rfl rfl (jF J rfl call111 (ih _ (by first | exact Ex.lt_args (mgQ n) | exact Ex.lt_arms (mgQ n)) (l:=m) (by have hq:=congrArg List.length p;rw [zA n] at hq;simp only [bindPs,qE,laQ] at hq hb ⊢;omega) A N) fun v145 w N a J=>?_)
 replace N:=N.nf
 refine go fun a J=>?_
 replace N:=N.pl 1
 refine M _ _ _ (by subst q;omega) ⟨(i+1),(v145),((m++zN t0)),rfl,J.pk,N,?_⟩
 rw [p,zA n];simp [bindPs]
 refine go fun a J=>?_
 refine jS (fun mm a w=>∃(j:Nat) (U:Value) (m2:List Bs),mm=e.arms.length - j/\EnvR 53 [(0,U),(3,.pointer (some ⟨f,0,none⟩)),(6,.int .i64 j)] [] a/\Mem Φ (.blk f (ob [.int .i64 (e.kind),.int .i64 (e.num),.string e.name,.slice W e.args.length c4,.slice p9 e.arms.length t] 110)::.gs (U) 9 1 (strs m2)::K) w/\(l++zN e=m2++bindPa (e.arms.drop j))) (e.arms.length - 0) ⟨0,u,m,rfl,J.pk,N,by rw [p,zB D];simp [bindPs]⟩ ?_
 clear N J
 rintro mm a w ⟨j,U,m2,q,J,N,k⟩ q1 P
 by_cases y:j < e.arms.length
 refine go fun a J=>?_
 obtain ⟨p0,rfl,u0,B,A0,L0,F0,S⟩:=h8.el G y
 obtain ⟨o2,s1,rfl,E,b0⟩:=RArm.iff.1 S
 obtain ⟨i2,v1,rfl,R0,b1⟩:=E.fm
 obtain ⟨j2,c173,k2,w1,rfl,I0,F1,G1,S0,c1,T0,e1⟩:=REx.fm b0
 refine vH 1 xQ (fun r0 w N a J=>?_) (hr:=(SliceOf.strs.1 E).rowIn N.toSees) (h1:=z0j _) (hb:=by have hq:=congrArg List.length k;rw [zA B,qE] at hq;simp only [laQ,zR] at hq hb ⊢;omega)
 first | rw [qI] at N | rw [<- yN] at N
 refine go fun a J=>?_
 obtain ⟨b,c⟩:=zZ y
 obtain ⟨B0,M0,R,T⟩:=h8.elem c
 obtain ⟨p2,t1,rfl,c0,F⟩:=RArm.iff.1 T
 obtain ⟨l2,x1,rfl,U0,f1⟩:=c0.fm
 obtain ⟨n0,Z,o0,a0,rfl,J0,H1,J1,V0,g1,W0,i1⟩:=REx.fm F
 refine Qq (fun a J=>?_) (o:=by exact fun J O=>vK 2 (vs:=[.int .i64 (b.body.kind),.int .i64 (b.body.num),.string b.body.name,.slice n0 b.body.args.length Z,.slice o0 b.body.arms.length a0]) J O rfl R isAgg110 sizeOf110 rfl rfl)
 replace N:Mem Φ (.blk f (ob [.int .i64 (e.kind),.int .i64 (e.num),.string e.name,.slice W e.args.length c4,.slice (some p0) e.arms.length t] 110)::.gs (r0) 9 1 (strs (m2++b.vars))::K) w:=by rw [show b=u0 from Option.some.inj (c.symm.trans B)];exact N
 replace N:=N.pl 1
 refine st J rfl rfl rfl (jF J rfl call111 (ih _ (by first | exact Ex.lt_args (mgQ c) | exact Ex.lt_arms (mgQ c)) (l:=m2++b.vars) (by have hq:=congrArg List.length k;rw [zA c] at hq;simp only [bindPs,qE,laQ] at hq hb ⊢;omega) F N) fun s0 w N a J=>?_)
 replace N:=N.nf
 refine go fun a J=>?_
 replace N:=N.pl 1
 refine P _ _ _ (by subst q;omega) ⟨(j+1),(s0),((m2++b.vars++zN b.body)),rfl,J.pk,N,?_⟩
 rw [k,zA c,qE];simp
 refine zD ?_
 replace N:=N.dl [0]
 refine ⟨_,rfl,?_⟩
 rw [show (strs (l++zN e))=(strs m2) by rw [k,zB y];simp [bindPa]];exact N
theorem q9b {d:List Value} {e:Ex} {v:Value} {l:List Bs} (hb:l.length+(zN e).length<=8796093000000) (re:REx Φ d e) (N:Mem Φ (.gs v 9 1 (strs l)::K) w) :
  Calls prog 111 #[v,.agg d.toArray] w (fun ee w'=>∃v,ee=.returned v/\Mem Φ (.gs v 9 1 (strs (l++zN e))::K) w'):=by
 suffices H:∀n (e:Ex),e.sz < n->∀{Φ:Fz} {K:List Res} {w:World} {d:List Value} {v:Value} {l:List Bs},l.length+(zN e).length<=8796093000000->REx Φ d e->Mem Φ (.gs v 9 1 (strs l)::K) w->Calls prog 111 #[v,.agg d.toArray] w (fun ee w'=>∃v,ee=.returned v/\Mem Φ (.gs v 9 1 (strs (l++zN e))::K) w') from H _ e (Nat.lt_succ_self _) hb re N
 intro n
 induction n with
 | zero=>intro e h;omega
 | succ n b=>intro e h Φ K w d v l hb re N;exact y9c re hb (fun x c _ _ _ _ _ _ a r m=>b x (by omega) a r m) N
theorem y2s {v0:Value} {l:List Bs} {s:Bs} (f:SliceOf RStr Φ 1 v0 l) (N:Mem Φ K w) :
  Calls prog 18 #[v0,.string s] w (fun ee w'=>ee=.returned (.bool (dA l s))/\Mem Φ K w'):=by
 obtain ⟨p0,c0,rfl,q,k⟩:=f.fm
 refine zL func18 ntmps18 fun Q hQ a J=>?_
 refine go fun a J=>?_
 refine zU (J.ks [0,1]) N (fun R mm a w=>∃(i:Nat),mm=l.length - i/\R Φ [(5,.int .i64 i)] [] a w/\(dA l s=dA (l.drop i) s)) (l.length - 0) ⟨0,rfl,⟨J.pk,N⟩,rfl⟩ ?_
 clear N J
 rintro mm a w ⟨i,j,⟨J,N⟩,c⟩ t h
 by_cases m:i < l.length
 refine go fun a J=>?_
 obtain ⟨r,rfl,g,b,d,o,n,e⟩:=f.el k m
 obtain rfl:d=[.string g]:=e
 by_cases p:g=s
 refine zD ?_
 exact zP N (by rw [c,zA b,z8p];simp [*])
 refine go fun a J=>?_
 refine h _ _ _ (by subst j;omega) ⟨(i+1),rfl,⟨J.pk,N⟩,?_⟩
 rw [c,zA b,z8p];simp [*]
 refine zD ?_
 exact zP N (by rw [c,zB m];rfl)
end
theorem q6e {Φ:Fz} {K:List Res} {w:World} {d0:List Value} {f:Fun} (n:RFun Φ d0 f) (hb:f.params.length+(zN f.body).length<=8796093000000) (N:Mem Φ K w) :
  Calls Tryz.prog 79 #[.agg d0.toArray] w (fun ee w'=>∃v,ee=.returned v/\Mem Φ (.gs v 9 1 (strs (f.params.map Param.name++zN f.body))::K) w'):=by
 obtain ⟨Y,W,rfl,r,s⟩:=id n
 obtain ⟨X,c4,rfl,M,k⟩:=r.fm
 obtain ⟨P,G,S,H,rfl,y,I,L,A,C,B,D⟩:=REx.fm s
 refine zL Tryz.func79 Tryz.ntmps79 fun Q hQ a J=>?_
 refine Bx fun F w N a J=>?_
 refine go fun a J=>?_
 replace N:=N.nilRow 9 1
 replace N:=N.nf
 refine go fun a J=>?_
 refine zU (J.ks [1]) N (fun R mm a w=>∃(i:Nat) (u:Value) (nl:List Bs),mm=f.params.length - i/\R Φ [(3,u),(4,.int .i64 i)] [(0,.gs (u) 9 1 (strs nl))] a w/\(f.params.map Param.name=nl++(f.params.drop i).map Param.name)) (f.params.length - 0) ⟨0,.slice none 0 0,[],rfl,⟨J.pk,N⟩,rfl⟩ ?_
 clear N J
 rintro mm a w ⟨i,u,nl,j,⟨J,N⟩,b⟩ E e
 replace N:=N.nf
 by_cases d:i < f.params.length
 refine go fun a J=>?_
 obtain ⟨T,rfl,p,h,q,z,t,g⟩:=r.el k d
 obtain rfl:=id g
 refine jQ fun U w N a J=>?_
 refine vH 1 xQ (fun o w N a J=>?_) (hb:=by have m:=congrArg List.length (b);simp only [List.length_map,laQ,zR,lcQ,lnQ] at m ⊢;omega)
 first | rw [qI] at N | rw [<- yN] at N
 refine go fun a J=>?_
 replace N:=N.dl [0]
 refine e _ _ _ (by subst j;omega) ⟨(i+1),(o),(nl++[p.name]),rfl,⟨J.pk,N⟩,?_⟩
 rw [b,zA h];simp
 refine go fun a J=>?_
 have c:=b
 rw [zB d] at c
 simp only [List.map_nil,List.append_nil] at c
 rw [<- c] at N
 refine go fun a J=>?_
 refine st J rfl rfl rfl (jF J rfl Tryz.call111 (q9b (l:=(f.params.map Param.name)) (by simp only [List.length_map];omega) s N) fun V w N a J=>?_)
 replace N:=N.nf
 refine zD ?_
 replace N:=N.dl [1]
 refine ⟨_,rfl,?_⟩
 rw [show (strs (f.params.map Param.name++zN f.body))=(strs ((f.params.map Param.name)++zN f.body)) by rfl];exact N
section
variable {Φ:Fz} {K:List Res} {w:World}
theorem z7p {s:Bs} {lo a:Nat} (h:s.size < 1∨24 < s.size∨zG s 0 < lo∨a < zG s 0):z0z s lo a=false:=if_pos h
theorem x2o {s:Bs} {lo a:Nat} (h:¬(s.size < 1∨24 < s.size∨zG s 0 < lo∨a < zG s 0)) (h1:xO s=s.size):z0z s lo a=true:=by unfold z0z;rw [if_neg h,if_pos h1]
theorem q2u {s:Bs} {lo c i:Nat} (h1:xO s=i) (a:i≠s.size) (b:zG s i≠39∨i+1=s.size):z0z s lo c=false:=by
 subst h1;unfold z0z;rw [if_neg a,if_pos b];split <;> rfl
theorem z9t {s:Bs} {lo a i:Nat} (h:¬(s.size < 1∨24 < s.size∨zG s 0 < lo∨a < zG s 0)) (h1:xO s=i) (b:i≠s.size) (c:¬(zG s i≠39∨i+1=s.size)):z0z s lo a=decide (i+1+yS yF s s.size (i+1)=s.size):=by
 subst h1;unfold z0z;rw [if_neg h,if_neg b,if_neg c]
theorem x1k {c:Nat}  (N:Mem Φ K w) :
  Calls prog 183 #[.int .u8 c] w (fun ee w'=>ee=.returned (.bool (yR c))/\Mem Φ K w'):=by
 refine zL func183 ntmps183 fun Q hQ a J=>?_
 by_cases l:97<=c
 by_cases m:c<=122
 rotate_left
 by_cases n:65<=c
 refine go fun a J=>?_
 by_cases p:c<=90
 rotate_left
 by_cases q:48<=c
 by_cases r:c<=57
 rotate_left
 refine Qq (fun a J=>?_) (o:=by exact fun J O=>mY (i:=c) (j:=95) J rfl rfl)
 rotate_left
 refine Qq (fun a J=>?_) (o:=by exact fun J O=>mY (i:=c) (j:=95) J rfl rfl)
 rotate_left
 refine go fun a J=>?_
 by_cases s:48<=c
 by_cases b:c<=57
 rotate_left
 refine Qq (fun a J=>?_) (o:=by exact fun J O=>mY (i:=c) (j:=95) J rfl rfl)
 rotate_left
 refine Qq (fun a J=>?_) (o:=by exact fun J O=>mY (i:=c) (j:=95) J rfl rfl)
 rotate_left
 by_cases d:65<=c
 by_cases e:c<=90
 rotate_left
 refine go fun a J=>?_
 by_cases f:48<=c
 by_cases g:c<=57
 rotate_left
 refine Qq (fun a J=>?_) (o:=by exact fun J O=>mY (i:=c) (j:=95) J rfl rfl)
 rotate_left
 refine Qq (fun a J=>?_) (o:=by exact fun J O=>mY (i:=c) (j:=95) J rfl rfl)
 rotate_left
 by_cases h:48<=c
 refine go fun a J=>?_
 by_cases k:c<=57
 rotate_left
 refine Qq (fun a J=>?_) (o:=by exact fun J O=>mY (i:=c) (j:=95) J rfl rfl)
 rotate_left
 refine Qq (fun a J=>?_) (o:=by exact fun J O=>mY (i:=c) (j:=95) J rfl rfl)
 rotate_left
 all_goals (refine zD ?_;exact zP N (by unfold yR qQ qW yF;simp <;> omega))
theorem j0q {s:Bs} {lo:Nat} {P:Nat}  (N:Mem Φ K w) :
  Calls prog 149 #[.string s,.int .u8 lo,.int .u8 P] w (fun ee w'=>ee=.returned (.bool (z0z s lo P))/\Mem Φ K w'):=by
 refine zL func149 ntmps149 fun Q hQ a J=>?_
 by_cases h4:s.size < 1
 rotate_left
 by_cases h6:24 < s.size
 rotate_left
 have M:0 < s.size:=by omega
 obtain ⟨c9,f⟩:=xT M
 refine Qq (fun a J=>?_) (o:=by exact fun J O=>xF 0 c9 J rfl rfl runUnderlying9 f)
 have W:=yP f
 by_cases a0:c9.toNat < lo
 have I:=yP f
 rotate_left
 obtain ⟨z,p⟩:=xT M
 refine Qq (fun a J=>?_) (o:=by exact fun J O=>xF 0 z J rfl rfl runUnderlying9 p)
 have I:=yP p
 refine go fun a J=>?_
 by_cases b0:P < z.toNat
 rotate_left
 refine goJ 6 fun a J=>?_
 refine sq fun S F=>?_
 have n:∀a w,(∃(i:Nat),EnvR 74 [(0,.string s),(7,.int .i64 i)] [] a/\Mem Φ (K) w/\(xO s=i/\1<=i/\i<=s.size/\¬(s.size < 1∨24 < s.size∨zG s 0 < lo∨P < zG s 0)))->S a w:=by
  clear N J
  rintro a w ⟨i,J,N,C⟩
  apply F
  obtain ⟨l,t,u,b⟩:=C
  by_cases c0:i=s.size
  refine zD ?_
  exact zP N (by exact (x2o b (by omega)).symm)
  have L:i < s.size:=by omega
  obtain ⟨A,q⟩:=xT L
  refine Qq (fun a J=>?_) (o:=by exact fun J O=>xF i A J rfl rfl runUnderlying9 q)
  have X:=yP q
  by_cases d0:A.toNat=39
  by_cases e0:(i+1)=s.size
  rotate_left
  refine go fun a J=>?_
  refine zU (J.ks [0]) N (fun R mm a w=>∃(k:Nat),mm=s.size - k/\R Φ [(8,.int .i64 k)] [] a w/\(k<=s.size/\i+1+yS yF s s.size (i+1)=k+yS yF s s.size k)) (s.size - (i+1)) ⟨i+1,rfl,⟨J.pk,N⟩,by exact ⟨by omega,rfl⟩⟩ ?_
  clear N J
  rintro mm a w ⟨k,y,⟨J,N⟩,D⟩ Y G
  obtain ⟨h0,m⟩:=D
  by_cases B:k < s.size
  obtain ⟨c42,g⟩:=xT B
  refine Qq (fun a J=>?_) (o:=by exact fun J O=>xF k c42 J rfl rfl runUnderlying9 g)
  have V:=yP g
  by_cases f0:c42.toNat < 48
  have r:=yP g
  rotate_left
  obtain ⟨c46,h⟩:=xT B
  refine Qq (fun a J=>?_) (o:=by exact fun J O=>xF k c46 J rfl rfl runUnderlying9 h)
  have r:=yP h
  by_cases g0:57 < c46.toNat
  rotate_left
  refine go fun a J=>?_
  refine G _ _ _ (by subst y;omega) ⟨(k+1),rfl,⟨J.pk,N⟩,?_⟩
  exact ⟨by omega,by rw [m,xV yF s k,if_pos ⟨by omega,by rw [yP h];simp [yF];omega⟩];omega⟩
  refine zD ?_
  exact zP N (by rw [z9t b l (by omega) (by omega),m,xV,if_neg (by omega)];exact (decide_eq_true (by omega)).symm)
  rotate_left
  all_goals first | (refine zD ?_;exact zP N (by rw [z9t b l (by omega) (by omega),m,xV,if_neg (by rintro ⟨_,d⟩;simp [yF] at d;omega)];exact (decide_eq_false (by omega)).symm)) | (refine zD ?_;exact zP N (by exact (q2u l (by omega) (by omega)).symm))
 refine go fun a J=>?_
 refine zU (J.ks [0]) N (fun R mm a w=>∃(i:Nat),mm=s.size - i/\R Φ [(7,.int .i64 i)] [] a w/\(1<=i/\i<=s.size/\xO s=i+yS yR s s.size i/\¬(s.size < 1∨24 < s.size∨zG s 0 < lo∨P < zG s 0))) (s.size - 1) ⟨1,rfl,⟨J.pk,N⟩,by exact ⟨by omega,by omega,rfl,by omega⟩⟩ ?_
 clear N J
 rintro mm a w ⟨i,y,⟨J,N⟩,E⟩ Z H
 obtain ⟨t,u,v,b⟩:=E
 by_cases U:i < s.size
 obtain ⟨T,j⟩:=xT U
 refine Qq (fun a J=>?_) (o:=by exact fun J O=>xF i T J rfl rfl runUnderlying9 j)
 refine yH call183 (fun e w N a J=>?_) (fun e w N a J=>?_) (c:=x1k N)
 refine go fun a J=>?_
 refine H _ _ _ (by subst y;omega) ⟨(i+1),rfl,⟨J.pk,N⟩,?_⟩
 exact ⟨by omega,by omega,by rw [v,xV yR s i,if_pos ⟨by omega,by rw [yP j];exact e⟩];omega,b⟩
 refine go fun a J=>?_
 exact n _ _ ⟨i,J.pk,N,⟨by rw [v,xV yR s i,if_neg (by rintro ⟨_,d⟩;rw [yP j,e] at d;cases d)];rfl,t,u,b⟩⟩
 refine go fun a J=>?_
 exact n _ _ ⟨i,J.pk,N,⟨by rw [v,xV yR s i,if_neg (by omega)];rfl,t,u,b⟩⟩
 all_goals (refine zD ?_;exact zP N (by exact (z7p (by omega)).symm))
theorem x7g {s:Bs}  (N:Mem Φ K w) :
  Calls prog 150 #[.string s] w (fun ee w'=>ee=.returned (.bool (z3x s))/\Mem Φ K w'):=by
 refine zL func150 ntmps150 fun Q hQ a J=>?_
 refine jQ fun v3 w N a J=>?_
 refine yH call149 (fun g w N a J=>?_) (fun g w N a J=>?_) (c:=j0q (s:=s) N)
 refine go fun a J=>?_
 have b:=N
 clear N
 obtain ⟨k,j,N,f⟩:=b.freezeRow (i:=0) rfl
 clear b
 replace N:=N.nf
 have e:SliceOf RStr k 1 _ (wordsL):=SliceOf.strs.2 f
 obtain ⟨o,n,h,l,m⟩:=e.form (by decide)
 have d:=N
 clear N
 subst h
 have N:=d
 clear d
 refine zT call18 (fun w N a J=>?_) (c:=y2s e N)
 refine zD ?_
 replace N:=N.le (j)
 exact zP N (by simp [z3x, *])
 refine zD ?_
 replace N:=N.dl [0]
 exact zP N (by simp [z3x, *])
theorem j9y {s:Bs}  (N:Mem Φ K w) :
  Calls prog 109 #[.string s] w (fun ee w'=>ee=.returned (.bool (z3x s))/\Mem Φ K w'):=by
 refine zL func109 ntmps109 fun Q hQ a J=>?_
 refine zT call150 (fun w N a J=>?_) (c:=x7g N)
 refine zD ?_
 exact zP N (by rfl)
theorem q0u {s:Bs}  (N:Mem Φ K w) :
  Calls prog 108 #[.string s] w (fun ee w'=>ee=.returned (.bool (conR s))/\Mem Φ K w'):=by
 refine zL func108 ntmps108 fun Q hQ a J=>?_
 refine zT call149 (fun w N a J=>?_) (c:=j0q (s:=s) N)
 refine zD ?_
 exact zP N (by rfl)
theorem y0a (N:Mem Φ K w) :
  Calls prog 151 #[] w (fun ee w'=>∃y:Fz×List Value,ee=.returned (.agg y.2.toArray)/\(Φ.Le y.1/\RData y.1 y.2 truthsD)/\Mem y.1 K w'):=by
 refine zL func151 ntmps151 fun Q hQ a J=>?_
 refine Alc fun n w N a J=>?_
 refine qO fun a J=>?_
 refine qO fun a J=>?_
 refine jQ fun v4 w N a J=>?_
 have b:=N
 clear N
 obtain ⟨f,j,N,e⟩:=b.freezeRow (i:=0) rfl
 clear b
 replace N:=N.nf
 have d:SliceOf RCon f 2 _ (truthsD.cons):=⟨_,e,⟨[_,_],[_,_],rfl,rfl,⟨_,rfl,SliceOf.nil 1⟩,[_,_],[],rfl,rfl,⟨_,rfl,SliceOf.nil 1⟩,rfl⟩⟩
 obtain ⟨o,m,h,k,l⟩:=d.form (by decide)
 have c:=N
 clear N
 subst h
 have N:=c
 clear c
 refine qO fun a J=>?_
 refine Sto 0 fun w N a J=>?_
 refine go fun a J=>?_
 have g:=N
 replace N:=N.dl [0]
 refine pS (N:=g) ?_
 exact ⟨(f,_),rfl,⟨j,_,rfl,d⟩,N⟩
end
end Go.Sw
