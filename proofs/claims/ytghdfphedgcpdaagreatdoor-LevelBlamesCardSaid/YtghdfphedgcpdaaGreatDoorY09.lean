import Derived.Test.YtghdfphedgcpdaaGreatDoorY08
set_option linter.unusedVariables false
set_option linter.unusedSimpArgs false
namespace Go.Sw
open Go.Proofs Go.Proofs.Tryz
set_option maxRecDepth 20000
set_option maxHeartbeats 4000000
def xB (nx:Next) (x:Bs):List Bs:=(zK nx x).getD []
theorem x0r (m:Next) (x:Flow) (s:Bs):xB (uX m x) s=if s=x.1 then xB m x.1++[x.2] else xB m s:=by
 simp only [xB,uX,xD]
 split <;> rfl
theorem gP (l:List Flow):∀a b,b∈xB (qK l) a↔(a,b)∈l:=by
 refine wR (p:=fun l=>∀a b,b∈xB (qK l) a↔(a,b)∈l) (fun a b=>by simp [qK,xB,zK]) (fun l x c a b=>?_) l
 rw [tR,x0r,List.mem_append,List.mem_singleton]
 obtain ⟨u,v⟩:=x
 by_cases h:a=u
 ·subst h;rw [if_pos rfl,List.mem_append,List.mem_singleton,c];simp
 ·rw [if_neg h,c];simp [h]
theorem oQ (x:Bs):∀(ns:List Bs) (o:From) (q:List Bs),∃t,(nM x ns o q).2=q++t/\t.Nodup/\(∀y∈t,y∈ns/\zK o y=none)/\(∀y∈ns,y∈t∨(zK o y).isSome=true) /\
  ∀s,zK (nM x ns o q).1 s=if s∈t then some x else zK o s
 | [],o,q=>⟨[],by simp [nM]⟩
 | n::ns,o,q=>by
  simp only [nM]
  by_cases h:(zK o n).isSome=true
  ·rw [if_pos h]
   obtain ⟨t,h1,f,c,i,j⟩:=oQ x ns o q
   refine ⟨t,h1,f,fun y a=>⟨mcQ _ (c y a).1,(c y a).2⟩,fun y a=>?_,j⟩
   rcases List.mem_cons.1 a with rfl | a
   ·exact .inr h
   ·exact i y a
  ·rw [if_neg h]
   have l:zK o n=none:=by simpa using h
   obtain ⟨t,h1,f,c,i,j⟩:=oQ x ns (jP o n x) (q++[n])
   have b:n∉t:=fun k=>by have:=(c n k).2;rw [xD,if_pos rfl] at this;cases this
   refine ⟨n::t,by rw [h1,List.append_assoc];rfl,List.nodup_cons.2 ⟨b,f⟩,fun y a=>?_,fun y a=>?_,fun s=>?_⟩
   ·rcases List.mem_cons.1 a with rfl | a
    ·exact ⟨msQ,l⟩
    ·obtain ⟨g1,d⟩:=c y a
     rw [xD] at d
     by_cases e:y=n
     ·exact absurd (e▸a) b
     ·rw [if_neg e] at d;exact ⟨mcQ _ g1,d⟩
   ·rcases List.mem_cons.1 a with rfl | a
    ·exact .inl msQ
    ·rcases i y a with g | g
     ·exact .inl (mcQ _ g)
     ·rw [xD] at g
      by_cases e:y=n
      ·exact .inl (e▸msQ)
      ·rw [if_neg e] at g;exact .inr g
   ·rw [j,xD]
    by_cases e:s=n
    ·subst e;rw [if_neg b,if_pos rfl,if_pos msQ]
    ·by_cases g:s∈t
     ·rw [if_pos g,if_pos (mcQ _ g)]
     ·rw [if_neg g,if_neg e,if_neg (fun k=>(List.mem_cons.1 k).elim e g)]
def sE:Bs:=⟨#[]⟩
theorem tV:∀(l:List Bs) (s:Bs),zK (vD l) s=if s∈l then some sE else none:=by
 refine wR (p:=fun l=>∀s,zK (vD l) s=if s∈l then some sE else none) (fun s=>rfl) (fun l x b s=>?_)
 rw [q9k,xD,b]
 by_cases e:s=x
 ·rw [if_pos e,if_pos (List.mem_append_right _ (List.mem_singleton.2 e))];rfl
 ·by_cases g:s∈l
  ·rw [if_neg e,if_pos g,if_pos (List.mem_append_left _ g)]
  ·rw [if_neg e,if_neg g,if_neg (fun a=>(List.mem_append.1 a).elim g (fun a=>e (List.mem_singleton.1 a)))]
structure Bfs (nx:Next) (l:List Bs) (i:Nat) (o:From) (q:List Bs) (d:Bs->Nat):Prop where
 pre:∃t,q=l++t/\t.Nodup/\(∀y∈t,∃a,y∈xB nx a)/\∀y∈t,y∉l
 mem:∀s,(zK o s).isSome=true↔s∈q
 root:∀s∈l,zK o s=some sE/\d s=0
 back:∀s p,zK o s=some p->s∉l->(zK o p).isSome=true/\s∈xB nx p/\d s=d p+1
 up:∀(j k:Nat) x y,j<=k->q[j]? = some x->q[k]? = some y->d x<=d y
 near:∀(j k:Nat) x y,i<=j+1->q[j]? = some x->q[k]? = some y->d y<=d x+1
 out:∀(j:Nat) x,j < i->q[j]? = some x->∀y∈xB nx x,(zK o y).isSome=true/\d y<=d x+1
theorem y9m (nx:Next) (l:List Bs):Bfs nx l 0 (vD l) l (fun _=>0) where
 pre:=⟨[],by simp⟩
 mem s:=by rw [tV];by_cases h:s∈l <;> simp [h]
 root s O:=by rw [tV,if_pos O];exact ⟨rfl,rfl⟩
 back s p h O:=by rw [tV,if_neg O] at h;cases h
 up _ _ _ _ _ _ _:=Nat.le_refl _
 near _ _ _ _ _ _ _:=Nat.zero_le _
 out j x h:=absurd h (Nat.not_lt_zero _)
theorem y3h {nx:Next} {l:List Bs} {i:Nat} {o:From} {q:List Bs} {d:Bs->Nat} (h:Bfs nx l i o q d) {x:Bs} (E:q[i]? = some x) :
  ∃d',Bfs nx l (i+1) (nM x (xB nx x) o q).1 (nM x (xB nx x) o q).2 d':=by
 obtain ⟨t,h1,T,R,U,P⟩:=oQ x (xB nx x) o q
 generalize (nM x (xB nx x) o q).1=o' at P ⊢
 generalize (nM x (xB nx x) o q).2=q' at h1 ⊢
 subst h1
 have W:i < q.length:=(List.getElem?_eq_some_iff.1 E).1
 have A:∀y∈t,y∉q:=fun y v D=>by have:=(h.mem y).2 D;rw [(R y v).2] at this;cases this
 have M:x∈q:=mgQ E
 have z:∀y∈q,(if y∈t then d x+1 else d y)=d y:=fun y v=>if_neg fun D=>A y D v
 have n:∀y∈t,(if y∈t then d x+1 else d y)=d x+1:=fun y v=>if_pos v
 have m:∀(j:Nat) y,(q++t)[j]? = some y->(j < q.length/\q[j]? = some y/\y∈q)∨(q.length<=j/\y∈t):=fun j y G=>by
  rcases Nat.lt_or_ge j q.length with g | g
  ·rw [List.getElem?_append_left g] at G;exact .inl ⟨g,G,mgQ G⟩
  ·rw [List.getElem?_append_right g] at G;exact .inr ⟨g,mgQ G⟩
 have H:∀s∈l,s∈q:=fun s O=>(h.mem s).1 (by rw [(h.root s O).1];rfl)
 have c:∀s,(zK o' s).isSome=true↔s∈q++t:=fun s=>by
  rw [P,List.mem_append]
  by_cases g:s∈t
  ·rw [if_pos g];simp [g]
  ·rw [if_neg g,h.mem];simp [g]
 have I:∀s∈q,zK o' s=zK o s:=fun s O=>by rw [P,if_neg fun D=>A s D O]
 refine ⟨fun y=>if y∈t then d x+1 else d y,?_⟩
 refine { pre := ?_,mem:=c,root:=fun s O=>?_,back:=fun s p K O=>?_,up:=fun j k a b S B hb=>?_,near:=fun j k a b V B hb=>?_,out:=fun j a G B y v=>?_ }
 ·obtain ⟨u,rfl,f,g3,g4⟩:=h.pre
  refine ⟨u++t,by rw [List.append_assoc],?_,fun y v=>?_,fun y v=>?_⟩
  ·refine List.nodup_append.2 ⟨f,T,fun a B b hb e=>?_⟩
   subst e;exact A a hb (List.mem_append_right _ B)
  ·rcases List.mem_append.1 v with g | g
   ·exact g3 y g
   ·exact ⟨x,(R y g).1⟩
  ·rcases List.mem_append.1 v with g | g
   ·exact g4 y g
   ·exact fun D=>A y g (List.mem_append_left _ D)
 ·show zK o' s=some sE/\(if s∈t then d x+1 else d s)=0
  rw [I s (H s O),z s (H s O)];exact h.root s O
 ·show (zK o' p).isSome=true/\s∈xB nx p/\(if s∈t then d x+1 else d s)=(if p∈t then d x+1 else d p)+1
  rw [P] at K
  by_cases g:s∈t
  ·rw [if_pos g] at K;cases K
   rw [if_pos g,z x M];exact ⟨(c x).2 (List.mem_append_left _ M),(R s g).1,rfl⟩
  ·rw [if_neg g] at K
   obtain ⟨g1,f,g3⟩:=h.back s p K O
   have L:=(h.mem p).1 g1
   rw [if_neg g,z p L];exact ⟨(c p).2 (List.mem_append_left _ L),f,g3⟩
 ·show (if a∈t then d x+1 else d a)<=(if b∈t then d x+1 else d b)
  rcases m j a B with ⟨g1,f,g3⟩ | ⟨g1,f⟩
  ·rw [z a g3]
   rcases m k b hb with ⟨F,w,Q⟩ | ⟨F,w⟩
   ·rw [z b Q];exact h.up j k a b S f w
   ·rw [n b w];exact h.near i j x a (by omega) E f
  ·rw [n a f]
   rcases m k b hb with ⟨F,w,Q⟩ | ⟨F,w⟩
   ·omega
   ·rw [n b w];exact Nat.le_refl _
 ·show (if b∈t then d x+1 else d b)<=(if a∈t then d x+1 else d a)+1
  have Y:d x<=(if a∈t then d x+1 else d a):=by
   rcases m j a B with ⟨g1,f,g3⟩ | ⟨g1,f⟩
   ·rw [z a g3];exact h.up i j x a (by omega) E f
   ·rw [n a f];omega
  rcases m k b hb with ⟨F,w,Q⟩ | ⟨F,w⟩
  ·rw [z b Q];have:=h.near i k x b (by omega) E w;omega
  ·rw [n b w];omega
 ·show (zK o' y).isSome=true/\(if y∈t then d x+1 else d y)<=(if a∈t then d x+1 else d a)+1
  have C:q[j]? = some a/\a∈q:=by
   rcases m j a B with ⟨g1,f,g3⟩ | ⟨g1,f⟩
   ·exact ⟨f,g3⟩
   ·omega
  rw [z a C.2]
  rcases Nat.lt_or_ge j i with g | g
  ·obtain ⟨F,w⟩:=h.out j a g C.1 y v
   have r:=(h.mem y).1 F
   rw [z y r];exact ⟨(c y).2 (List.mem_append_left _ r),w⟩
  ·have e:j=i:=by omega
   subst e
   have:=C.1;rw [E] at this;cases this
   rcases U y v with k | k
   ·rw [n y k];exact ⟨(c y).2 (List.mem_append_right _ k),Nat.le_refl _⟩
   ·have r:=(h.mem y).1 k
    rw [z y r]
    refine ⟨(c y).2 (List.mem_append_left _ r),?_⟩
    obtain ⟨k,X⟩:=List.getElem?_of_mem r
    exact h.near j k x y (by omega) E X
theorem z3h {α:Type}:∀{l U:List α},l.Nodup->(∀x∈l,x∈U)->l.length<=U.length
 | [],_,_,_=>Nat.zero_le _
 | x::l,U,e,O=>by
  obtain ⟨a,b,rfl⟩:=List.append_of_mem (O x msQ)
  obtain ⟨h1,d⟩:=List.nodup_cons.1 e
  have:=z3h (U:=a++b) d fun y c=>by
   have:=O y (mcQ _ c)
   rw [List.mem_append,List.mem_cons] at this
   rcases this with g | rfl | g
   ·exact List.mem_append_left _ g
   ·exact absurd c h1
   ·exact List.mem_append_right _ g
  simp only [laQ,lcQ] at this ⊢;omega
theorem q4l {nx:Next} {a y:Bs} (h:y∈xB nx a):y∈nx.flatMap (·.2):=by
 unfold xB at h
 have:∀(m:Next) v,zK m a=some v->∃p∈m,p.2=v:=by
  intro m
  induction m with
  | nil=>intro v h;cases h
  | cons p m d=>
   intro v h
   obtain ⟨k,u⟩:=p
   simp only [zK] at h
   split at h
   ·cases h;exact ⟨_,msQ,rfl⟩
   ·obtain ⟨p,h1,b⟩:=d v h;exact ⟨p,mcQ _ h1,b⟩
 cases c:zK nx a with
 | none=>rw [c] at h;simp at h
 | some v=>
  rw [c] at h
  obtain ⟨p,h1,b⟩:=this nx v c
  exact List.mem_flatMap.2 ⟨p,h1,by rw [b];exact h⟩
theorem y2k {nx:Next} {l:List Bs} {i:Nat} {o:From} {q:List Bs} {d:Bs->Nat} (h:Bfs nx l i o q d):q.length<=pE nx l:=by
 obtain ⟨t,rfl,b,c,g⟩:=h.pre
 have:=z3h (U:=nx.flatMap (·.2)) b fun y f=>let ⟨a,e⟩:=c y f;q4l e
 rw [laQ];unfold pE;omega
theorem y7g (nx:Next) (g:Nat) {i:Nat} {o:From} {q:List Bs} (h:q[i]? = none):z0f nx g i o q=o:=by
 cases g with
 | zero=>rfl
 | succ g=>simp only [z0f];rw [h]
theorem y0x (nx:Next) (g:Nat) {i:Nat} {o:From} {q:List Bs} {x:Bs} (h:q[i]? = some x) :
  z0f nx (g+1) i o q=z0f nx g (i+1) (nM x (xB nx x) o q).1 (nM x (xB nx x) o q).2:=by
 simp only [z0f];rw [h];rfl
theorem y7f {nx:Next} {l:List Bs}:∀(g i:Nat) (o:From) (q:List Bs) (d:Bs->Nat),Bfs nx l i o q d->i<=q.length->pE nx l+1<=g+i->∃q' d',Bfs nx l q'.length (z0f nx g i o q) q' d'
 | 0,i,o,q,d,h,c,b=>by have:=y2k h;omega
 | g+1,i,o,q,d,h,c,b=>by
  cases a:q[i]? with
  | none=>
   rw [y7g nx _ a]
   have:q.length<=i:=List.getElem?_eq_none_iff.1 a
   have e:i=q.length:=by omega
   exact ⟨q,d,e▸h⟩
  | some x=>
   rw [y0x nx g a]
   obtain ⟨d',h'⟩:=y3h h a
   refine y7f g (i+1) _ _ d' h' ?_ (by omega)
   obtain ⟨t,h1,_⟩:=oQ x (xB nx x) o q
   have:=(List.getElem?_eq_some_iff.1 a).1
   rw [h1,laQ];omega
theorem z9h (nx:Next) (l:List Bs):∃q d,Bfs nx l q.length (yV nx l) q d:=y7f _ _ _ _ _ (y9m nx l) (Nat.zero_le _) (by omega)
inductive Way (nx:Next) (l:List Bs):Nat->Bs->Prop
 | root {x:Bs}:x∈l->Way nx l 0 x
 | step {k:Nat} {x y:Bs}:Way nx l k x->y∈xB nx x->Way nx l (k+1) y
def RchN (nx:Next) (l:List Bs) (x:Bs):Prop:=∃k,Way nx l k x
section
variable {nx:Next} {l:List Bs} {o:From} {q:List Bs} {d:Bs->Nat}
theorem y2l (h:Bfs nx l q.length o q d):∀(k:Nat) (s:Bs),Way nx l k s->(zK o s).isSome=true/\d s<=k:=by
 intro k s c
 induction c with
 | root b=>rw [(h.root _ b).1,(h.root _ b).2];exact ⟨rfl,Nat.le_refl _⟩
 | @step k x y _ e f=>
  obtain ⟨j,a⟩:=List.getElem?_of_mem ((h.mem x).1 f.1)
  obtain ⟨h1,g⟩:=h.out j x (List.getElem?_eq_some_iff.1 a).1 a y e
  exact ⟨h1,by omega⟩
theorem q3g (h:Bfs nx l q.length o q d):∀(n:Nat) (s:Bs),d s<=n->(zK o s).isSome=true->Way nx l (d s) s
 | n,s,e,O=>by
  by_cases hl:s∈l
  ·rw [(h.root s hl).2];exact .root hl
  ·obtain ⟨p,c⟩:=Option.isSome_iff_exists.1 O
   obtain ⟨h1,a,b⟩:=h.back s p c hl
   cases n with
   | zero=>omega
   | succ n=>rw [b];exact .step (q3g h n p (by omega) h1) a
end
theorem z3k (nx:Next) (l:List Bs) (s:Bs):(zK (yV nx l) s).isSome=true↔RchN nx l s:=by
 obtain ⟨q,d,h⟩:=z9h nx l
 exact ⟨fun O=>⟨_,q3g h _ s (Nat.le_refl _) O⟩,fun ⟨k,a⟩=>(y2l h k s a).1⟩
def y3c (nx:Next) (p:List Bs):Prop:=∀(i:Nat) a b,p[i]? = some a->p[i+1]? = some b->b∈xB nx a
theorem x2j (nx:Next) (s:Bs):y3c nx [s]:=fun i a b h1 c=>by
 simp at c
section
variable {nx:Next} {l:List Bs} {o:From} {q:List Bs} {d:Bs->Nat}
end
theorem j0n {nx:Next} {l:List Bs}:∀{p:List Bs} {s:Bs},y3c nx (p++[s])->(∀x,(p++[s])[0]? = some x->x∈l)->Way nx l p.length s:=by
 intro p
 refine wR (p:=fun p=>∀{s:Bs},y3c nx (p++[s])->(∀x,(p++[s])[0]? = some x->x∈l)->Way nx l p.length s) ?_ ?_ p
 ·intro s _ h;exact .root (h s rfl)
 ·intro p x g s c hr
  have h1:Way nx l p.length x:=g (fun i a b e hb=>c i a b (by
    rw [List.getElem?_append_left (Nat.lt_trans (Nat.lt_succ_self _) (List.getElem?_eq_some_iff.1 hb).1)];exact e) (by
    rw [List.getElem?_append_left (List.getElem?_eq_some_iff.1 hb).1];exact hb)) (fun y f=>hr y (by
    rw [List.getElem?_append_left (by simp)];exact f))
  have d:s∈xB nx x:=c p.length x s (by simp) (by simp)
  rw [laQ];exact .step h1 d
def z1x {α:Type} (m:List (Bs×α)):Prop:=(m.map (·.1)).Nodup
theorem q1c {α:Type}:∀(m:List (Bs×α)) (k:Bs) (x:α),(jP m k x).map (·.1)=if k∈m.map (·.1) then m.map (·.1) else m.map (·.1)++[k]
 | [],k,x=>by simp [jP]
 | (j,y)::m,k,x=>by
  simp only [jP,List.map_cons,List.mem_cons]
  by_cases h:k=j
  ·subst h;simp
  ·rw [if_neg h,List.map_cons,q1c m k x]
   by_cases g:k∈m.map (·.1)
   ·rw [if_pos g,if_pos (.inr g)]
   ·rw [if_neg g,if_neg (fun a=>a.elim h g)];rfl
theorem j2m {α:Type} {m:List (Bs×α)} (h:z1x m) (k:Bs) (x:α):z1x (jP m k x):=by
 unfold z1x at *
 rw [q1c]
 split
 ·exact h
 ·rename_i g
  exact List.nodup_append.2 ⟨h,by simp,fun a c b hb e=>by rw [List.mem_singleton] at hb;subst hb;subst e;exact g c⟩
structure GOk (ns:List Bs) (fl:List Flow):Prop where
 nd:ns.Nodup
 ends:∀a b,(a,b)∈fl->a∈ns/\b∈ns
 ne:sE∉ns
section
variable {ns:List Bs} {fl:List Flow} {rs:List Bs}
theorem z7b (h:GOk ns fl) (hr:∀r∈rs,r∈ns) {s:Bs} (O:RchN (qK fl) rs s):s∈ns:=by
 obtain ⟨k,a⟩:=O
 induction a with
 | root b=>exact hr _ b
 | step _ c _=>exact (h.ends _ _ ((gP fl _ _).1 c)).2
theorem x0m {o:From} {s:Bs}:s∈wC ns o↔s∈ns/\(zK o s).isSome=true:=by simp [wC]
def q4a (ns l:List Bs):List Bs:=ns.filter fun n=>decide (n∈l)
theorem y0s (ns l:List Bs):wC ns (vD l)=q4a ns l:=by
 unfold wC q4a
 refine List.filter_congr fun x _=>?_
 rw [tV];by_cases h:x∈l <;> simp [h]
def cB (ns:List Bs) (fl:List Flow) (rs l:List Bs):Bool :=
 decide (q4a ns l=l)&&rs.all (fun r=>decide (r∈l))&&fl.all fun f=> !decide (f.1∈l) || decide (f.2∈l)
end
def nxM (NN:Next) (zf:Bs->Value):List (Bs×Value):=NN.map fun p=>(p.1,zf p.1)
def nxK (NN:Next) (zf:Bs->Value):List Res:=NN.map fun p=>.gs (zf p.1) 9 1 (strs p.2)
def oT (zf:Bs->Value) (s:Bs) (v:Value):Bs->Value:=fun t=>if t=s then v else zf t
def z3s:Next->Bs->Next
 | [],_=>[]
 | (k,x)::m,s=>if s=k then m else (k,x)::z3s m s
theorem j2f {α:Type} {k:Bs} {x:α} {m:List (Bs×α)} (h:z1x ((k,x)::m)):z1x m/\k∉m.map (·.1):=by
 unfold z1x at *;rw [List.map_cons,List.nodup_cons] at h;exact ⟨h.2,h.1⟩
theorem j6y (zf:Bs->Value) (s:Bs):∀NN:Next,yM (nxM NN zf) s=if (zK NN s).isSome then some (zf s) else none
 | []=>rfl
 | (k,x)::NN=>by
  show (if s=k then some (zf k) else yM (nxM NN zf) s)=_
  by_cases h:s=k
  ·simp [zK,h]
  ·simp only [zK,if_neg h,j6y zf s NN]
theorem q2f {s:Bs}:∀{NN:Next},zK NN s=none->z3s NN s=NN
 | [],_=>rfl
 | (k,x)::NN,h=>by
  simp only [zK] at h
  by_cases a:s=k
  ·rw [if_pos a] at h;cases h
  ·rw [if_neg a] at h;simp only [z3s,if_neg a,q2f h]
theorem q8k (zf:Bs->Value) {s:Bs}:∀{NN:Next} {l:List Bs},zK NN s=some l->(nxK NN zf).Perm (.gs (zf s) 9 1 (strs l)::nxK (z3s NN s) zf)
 | (k,x)::NN,l,h=>by
  simp only [zK] at h
  by_cases a:s=k
  ·rw [if_pos a] at h;cases h;subst a;simp only [z3s,if_true];exact List.Perm.refl _
  ·rw [if_neg a] at h
   simp only [z3s,if_neg a]
   exact (List.Perm.cons _ (q8k zf h)).trans (List.Perm.swap _ _ _)
theorem j6x {zf:Bs->Value} {s:Bs} {v:Value}:∀{NN:Next},s∉NN.map (·.1)->nxK NN (oT zf s v)=nxK NN zf/\nxM NN (oT zf s v)=nxM NN zf
 | [],_=>⟨rfl,rfl⟩
 | (k,x)::NN,h=>by
  simp only [List.map_cons,List.mem_cons,not_or] at h
  have:=j6x (zf:=zf) (v:=v) h.2
  have e:oT zf s v k=zf k:=if_neg fun e=>h.1 e.symm
  exact ⟨by show _::nxK NN _=_::nxK NN _;rw [this.1];simp only [e],by show _::nxM NN _=_::nxM NN _;rw [this.2];simp only [e]⟩
theorem y6p {zf:Bs->Value} {s:Bs} {v:Value} {l:List Bs}:∀{NN:Next},z1x NN->(Res.gs v 9 1 (strs l)::nxK (z3s NN s) zf).Perm (nxK (jP NN s l) (oT zf s v))/\cF (nxM NN zf) s v=nxM (jP NN s l) (oT zf s v)
 | [],_=>⟨by simp [z3s,nxK,jP,oT],by simp [nxM,jP,cF,oT]⟩
 | (k,x)::NN,h=>by
  obtain ⟨h1,c⟩:=j2f h
  by_cases a:s=k
  ·subst a
   obtain ⟨b,e2⟩:=j6x (zf:=zf) (v:=v) c
   have e:oT zf s v s=v:=if_pos rfl
   constructor
   ·simp only [z3s,if_true,jP]
    show List.Perm _ (Res.gs (oT zf s v s) 9 1 (strs l)::nxK NN (oT zf s v))
    rw [e,b]
   ·show cF ((s,zf s)::nxM NN zf) s v=_
    simp only [jP,cF,if_true]
    show _=(s,oT zf s v s)::nxM NN (oT zf s v)
    rw [e,e2]
  ·obtain ⟨d,i2⟩:=y6p (zf:=zf) (s:=s) (v:=v) (l:=l) h1
   have e:oT zf s v k=zf k:=if_neg fun e=>a e.symm
   constructor
   ·simp only [z3s,if_neg a,jP]
    show List.Perm (_::Res.gs (zf k) 9 1 (strs x)::nxK (z3s NN s) zf) (Res.gs (oT zf s v k) 9 1 (strs x)::nxK (jP NN s l) (oT zf s v))
    rw [e]
    exact (List.Perm.swap _ _ _).trans (List.Perm.cons _ d)
   ·show cF ((k,zf k)::nxM NN zf) s v=_
    simp only [jP,cF,if_neg a,i2]
    show _=(k,oT zf s v k)::nxM (jP NN s l) (oT zf s v)
    rw [e]
theorem q1v:∀l:List Flow,z1x (qK l):=by
 refine wR (by simp [qK,z1x]) (fun l x a=>?_)
 rw [tR];exact j2m a _ _
theorem nxt_len (s:Bs):∀l:List Flow,((zK (qK l) s).getD []).length<=l.length:=by
 refine wR (by simp [qK,zK]) (fun l x a=>?_)
 rw [tR,uX,xD,laQ]
 by_cases h:s=x.1
 ·subst h;simp only [if_true,Option.getD_some,laQ,lcQ,lnQ];omega
 ·rw [if_neg h];omega
section
variable {Φ:Fz} {K:List Res} {w:World} {zf:Bs->Value} {NN:Next}
theorem x7l (s:Bs) (N:Mem Φ (nxK NN zf++K) w):Mem Φ (.gs (zJ false (.slice none 0 0) (yM (nxM NN zf) s)) 9 1 (strs ((zK NN s).getD []))::(nxK (z3s NN s) zf++K)) w:=by
 rw [j6y]
 cases h:zK NN s with
 | none=>rw [q2f h];exact N.nilRow 9 1
 | some l=>exact N.perm ((q8k zf h).append_right K)
theorem x1d {s:Bs} {v:Value} {l:List Bs} (a:z1x NN) (N:Mem Φ (.gs v 9 1 (strs l)::(nxK (z3s NN s) zf++K)) w):Mem Φ (nxK (jP NN s l) (oT zf s v)++K) w :=
 N.perm ((y6p a).1.append_right K)
theorem q0k:∀{NN:Next} {Φ:Fz},Mem Φ (nxK NN zf++K) w->∃Ψ,Φ.Le Ψ/\Mem Ψ K w/\MapRel (fun v x=>SliceOf RStr Ψ 1 v x) (nxM NN zf) NN
 | [],Φ,N=>⟨Φ,Fz.Le.refl _,N,.nil⟩
 | (k,x)::NN,Φ,N=>by
  obtain ⟨a,d,m1,e⟩:=Mem.freezeRow (i:=0) N rfl
  obtain ⟨b,c,m2,f⟩:=q0k (NN:=NN) (Φ:=a) m1
  exact ⟨b,d.trans c,m2,.cons (SliceOf.strs.2 (e.mono c)) f⟩
end
theorem z2l {l:List Bs} {i:Nat} {x:Bs} (h:l[i]? = some x):(strs l)[i * 1]? = some (.string x):=by
 simp [strs,h]
theorem jW {Φ:Fz} {K:List Res} {w:World} {i:Nat} {v:Value} {l:List Bs} (N:Mem Φ K w) (c:qU K i=some (.gs v 9 1 (strs l))):∃p cap,v=.slice p l.length cap:=by
 obtain ⟨m,hl,a⟩:=N.own _ (qV c)
 rw [zR] at hl
 rcases a with ⟨rfl,rfl⟩ | ⟨b,cap,cur,rfl,_⟩
 ·exact ⟨none,0,by rw [show l.length=0 by omega]⟩
 ·exact ⟨_,cap,by rw [show l.length=m by omega]⟩
def zX (l:List Flow):List Value:=l.flatMap fun x=>[.string x.1,.string x.2]
def RFlow (_:Fz) (cs:List Value) (x:Flow):Prop:=cs=[.string x.1,.string x.2]
theorem RFlow.mono (Φ Ψ:Fz) (c:List Value) (x:Flow) (_:Φ.Le Ψ) (h:RFlow Φ c x):RFlow Ψ c x:=h
theorem z1k (l:List Flow) (x:Flow):zX l++[.string x.1,.string x.2]=zX (l++[x]):=by simp [zX]
theorem cN (Φ:Fz):∀l:List Flow,Chunks (RFlow Φ) 2 (zX l) l
 | []=>rfl
 | x::l=>⟨[.string x.1,.string x.2],zX l,rfl,rfl,rfl,cN Φ l⟩
instance:ScT 47:=⟨isAgg47⟩
instance:ScT 66:=⟨isAgg66⟩
instance:ScT 71:=⟨isAgg71⟩
instance:ScT 72:=⟨isAgg72⟩
instance:ScT 73:=⟨isAgg73⟩
instance:AgT 78:=⟨isAgg78⟩
instance:AgT 95:=⟨isAgg95⟩
instance:AgT 131:=⟨isAgg131⟩
instance:ScT 136:=⟨isAgg136⟩
instance:ScT 141:=⟨isAgg141⟩
instance:ScT 143:=⟨isAgg143⟩
instance:ScT 198:=⟨isAgg198⟩
instance:SzT 47 1:=⟨sizeOf47⟩
instance:SzT 66 1:=⟨sizeOf66⟩
instance:SzT 71 1:=⟨sizeOf71⟩
instance:SzT 72 1:=⟨sizeOf72⟩
instance:SzT 73 1:=⟨sizeOf73⟩
instance:SzT 78 1:=⟨sizeOf78⟩
instance:SzT 95 2:=⟨sizeOf95⟩
instance:SzT 131 9:=⟨sizeOf131⟩
instance:SzT 136 1:=⟨sizeOf136⟩
instance:SzT 198 1:=⟨sizeOf198⟩
instance:FoT 206 0 0:=⟨q7e⟩
instance:FoT 75 0 0:=⟨fo_75_0⟩
instance:FoT 75 1 4:=⟨fo_75_1⟩
instance:FoT 75 2 5:=⟨fo_75_2⟩
instance:FoT 75 3 6:=⟨fo_75_3⟩
instance:FoT 75 4 7:=⟨fo_75_4⟩
instance:FoT 75 5 8:=⟨fo_75_5⟩
instance:FoT 78 0 0:=⟨fo_78_0⟩
instance:FoT 86 0 0:=⟨fo_86_0⟩
instance:FoT 86 1 1:=⟨fo_86_1⟩
instance:FoT 86 2 2:=⟨fo_86_2⟩
instance:FoT 95 0 0:=⟨fo_95_0⟩
instance:FoT 95 1 1:=⟨fo_95_1⟩
instance:FoT 131 0 0:=⟨q7d⟩
instance:FoT 131 1 1:=⟨x5c⟩
instance:FoT 261 1 1:=⟨x5o⟩
instance:FoT 261 3 3:=⟨x5q⟩
instance:SlT 47 95:=⟨runUnderlying47⟩
instance:ZeT 23 [.slice none 0 0]:=⟨_,zeroValue23,rfl⟩
instance:ZeT 25 [.slice none 0 0]:=⟨_,zeroValue25,rfl⟩
instance:ZeT 66 [.pointer none]:=⟨_,zeroValue66,rfl⟩
instance:ZeT 70 [.map none]:=⟨_,zeroValue70,rfl⟩
instance:ZeT 95 [.string ⟨#[]⟩,.string ⟨#[]⟩]:=⟨_,zeroValue95,rfl⟩
instance:ZeT 131 [.string ⟨#[]⟩,.string ⟨#[]⟩,.slice none 0 0,.string ⟨#[]⟩,.int .i64 ((0:Nat):Int),.int .i64 ((0:Nat):Int),.string ⟨#[]⟩,.slice none 0 0,.slice none 0 0]:=⟨_,zeroValue131,rfl⟩
instance:ZeT 136 [.map none]:=⟨_,zeroValue136,rfl⟩
instance:ZeT 198 [.map none]:=⟨_,zeroValue198,rfl⟩
instance:BzT 75 [.slice none 0 0,.slice none 0 0,.slice none 0 0,.slice none 0 0,.slice none 0 0,.slice none 0 0,.map none,.map none,.nilFunc] [0,4,5,6,7,8]:=⟨trivial⟩
instance:BzT 78 [.string ⟨#[]⟩] [0]:=⟨trivial⟩
instance:BzT 95 [.string ⟨#[]⟩,.string ⟨#[]⟩] [0,1]:=⟨trivial⟩
instance:BzT 131 [.string ⟨#[]⟩,.string ⟨#[]⟩,.slice none 0 0,.string ⟨#[]⟩,.int .i64 ((0:Nat):Int),.int .i64 ((0:Nat):Int),.string ⟨#[]⟩,.slice none 0 0,.slice none 0 0] [0,1]:=⟨trivial⟩
instance:MonoF RFlow:=⟨RFlow.mono⟩
section
variable {Φ:Fz} {K:List Res} {w:World}
theorem y5a {s:Bs} (O:s.size<=1000000) (N:Mem Φ K w) :
  Calls prog 40 #[.agg #[.string s]] w (fun ee w'=>ee=.returned (.string (inN s))/\Mem Φ K w'):=by
 refine zL func40 ntmps40 fun Q hQ a J=>?_
 refine Bx fun b w N a J=>?_
 refine Qq (fun a J=>?_) (o:=by exact fun J O=>vP J rfl rfl (by show 3+s.size<=_;omega))
 refine zD ?_
 replace N:=N.dl [0]
 exact ⟨rfl,N⟩
theorem z9r {s x:Bs} (O:s.size<=1000000) (c:x.size<=1000000) (N:Mem Φ K w) :
  Calls prog 64 #[.agg #[.string s],.string x] w (fun ee w'=>ee=.returned (.string (vrN s x))/\Mem Φ K w'):=by
 refine zL func64 ntmps64 fun Q hQ a J=>?_
 refine Bx fun b w N a J=>?_
 refine Qq (fun a J=>?_) (o:=by exact fun J O=>vP J rfl rfl (by show s.size+1<=_;omega))
 refine Qq (fun a J=>?_) (o:=by exact fun J O=>vP J rfl rfl (by rw [ByteArray.size_append];show s.size+1+x.size<=_;omega))
 refine zD ?_
 replace N:=N.dl [0]
 exact ⟨rfl,N⟩
theorem y2p {s:Bs} {k:Nat} (G:Glob Φ) (O:s.size<=1000000) (f:k<=1000000) (N:Mem Φ K w) :
  Calls prog 63 #[.agg #[.string s],.int .i64 k] w (fun ee w'=>ee=.returned (.string (vZ s k))/\Mem Φ K w'):=by
 refine zL func63 ntmps63 fun Q hQ a J=>?_
 refine Bx fun e w N a J=>?_
 refine Reg [1,2,1,1,0,1,1] [0] fun w N a J=>?_
 have b:I64 ((k:Nat):Int):=⟨by omega,by omega⟩
 have d:=z4p b
 refine Qq (fun a J=>?_) (o:=by exact fun J O=>vP J rfl rfl (by show s.size+1<=_;omega))
 refine zT call99 (fun w N a J=>?_) (c:=q4f b G.tabs N)
 refine Qq (fun a J=>?_) (o:=by exact fun J O=>vP J rfl rfl (by rw [ByteArray.size_append];show s.size+1+_<=_;omega))
 refine zD ?_
 replace N:=N.dl [0]
 exact ⟨rfl,N⟩
end
def y4u (e:Ex):List Bs:=if e.kind=6 then [e.name] else []
theorem j1e (e:Ex):zN e=y4u e++bindPs e.args++bindPa e.arms:=wM e
theorem z2w {l:List Ex} {i:Nat} {x:Ex} (h:l[i]? = some x):bindPs (l.drop i)=zN x++bindPs (l.drop (i+1)):=by rw [zA h];rfl
theorem y3l {l:List Ex} {i:Nat} (h:¬i < l.length):bindPs (l.drop i)=[]:=by rw [zB h];rfl
theorem y9n {l:List Arm} {i:Nat} {x:Arm} (h:l[i]? = some x):bindPa (l.drop i)=x.vars++(zN x.body++bindPa (l.drop (i+1))):=by rw [zA h,qE,List.append_assoc]
theorem y3j {l:List Arm} {i:Nat} (h:¬i < l.length):bindPa (l.drop i)=[]:=by rw [zB h];rfl
theorem aN {a b c:List Bs} (h:a++c=b++c):a=b:=List.append_cancel_right h
theorem j8d {β:Type} {Φ:Fz} {y:Value} {items:List Bs} {KY:List Bs->β->List Res} (hy:Takes prog Φ y (fun s=>[.string s]) items KY) {e:Ex} (ih:∀x:Ex,x.sz < e.sz->∀{K0:List Res} {w:World} {d0:List Value} {pre post:List Bs} {z:β},REx Φ d0 x->Takes prog Φ y (fun s=>[.string s]) items KY->items=pre++zN x++post->Mem Φ (K0++KY pre z) w->Calls prog 101 #[.agg d0.toArray,y] w (fun ee w'=>∃z':β,ee=.returned (.bool true)/\True/\Mem Φ (K0++KY (pre++zN x) z') w')) {K0:List Res} {w:World} {d0:List Value} {pre post:List Bs} {z:β} (re:REx Φ d0 e) (m0:items=pre++zN e++post) (N:Mem Φ (K0++KY pre z) w) :
  Calls prog 101 #[.agg d0.toArray,y] w (fun ee w'=>∃z':β,ee=.returned (.bool true)/\True/\Mem Φ (K0++KY (pre++zN e) z') w'):=by
 have e2:=re
 obtain ⟨H,c4,p9,f,rfl,M1,h2,h8,s2,E0,R1,W⟩:=REx.fm re
 refine zL func101 ntmps101 fun Q hQ a J=>?_
 refine Bx fun g w N a J=>?_
 refine go1 fun a J=>?_
 refine xZ ?_
 have m:=m0
 rw [j1e,List.append_assoc,List.append_assoc] at m
 refine yZ J (by intro c h;cases h) (jE J rfl q7b rfl) rfl fun a J=>
   yZ J (by intro c h;cases h) (qD 0 J N.toSees rfl rfl rfl isAgg3) rfl fun a J=>?_
 by_cases t:e.kind=6
 refine yZ J (by intro c h;cases h) (vO true J rfl rfl (decide_eq_true t)) rfl fun a J=>
   yZ J (by intro c h;cases h) (jY J rfl) rfl fun a J=>?_
 refine z1q J rfl rfl rfl rfl rfl (by intro c h;cases h) (y2o (jY J rfl) fun a J=>?_)
 refine z1q J rfl rfl rfl rfl rfl (by intro c h;cases h) (y2o (jE J rfl z1m rfl) fun a J=>?_)
 refine z1q J rfl rfl rfl rfl rfl (by intro c h;cases h) (y2o (qD 0 J N.toSees rfl rfl rfl isAgg9) fun a J=>?_)
 refine z1q J rfl rfl rfl rfl rfl (by intro c h;cases h) (vY J rfl rfl (hy.go pre e.name _ z (.blk g (ob [.int .i64 (e.kind),.int .i64 (e.num),.string e.name,.slice H e.args.length c4,.slice p9 e.arms.length f] 110)::K0) w (by rw [m,show y4u e=[e.name] by rw [y4u,if_pos t]];simp only [List.append_assoc,List.cons_append,List.nil_append];rfl) N) fun w B a J=>?_)
 obtain ⟨u1,N⟩:=B
 replace N:=N.nf
 refine z1q J rfl rfl rfl rfl rfl (by intro c h;cases h) (y2o (z4c J rfl) fun a J=>?_)
 refine yZ J (by intro c h;cases h) (j5c J rfl rfl) rfl fun a J=>?_
 refine nC ?_
 refine go fun a J=>?_
 have l0:items=(pre++[e.name])++(bindPs e.args++(bindPa e.arms++post)):=by
  rw [m,show y4u e=[e.name] by rw [y4u,if_pos t]];simp only [List.append_assoc,List.nil_append,List.append_nil]
 refine go fun a J=>?_
 refine jS (fun mm a w=>∃(i:Nat) (pr:List Bs) (zz:β),mm=e.args.length - i/\EnvR 58 [(1,y),(2,.pointer (some ⟨g,0,none⟩)),(22,.slice H e.args.length c4),(23,.int .i64 e.args.length),(24,.int .i64 i)] [] a/\Mem Φ (.blk g (ob [.int .i64 (e.kind),.int .i64 (e.num),.string e.name,.slice H e.args.length c4,.slice p9 e.arms.length f] 110)::K0++KY pr zz) w/\(items=pr++(bindPs (e.args.drop i)++(bindPa e.arms++post)))) (e.args.length - 0) ⟨0,(pre++[e.name]),u1,rfl,J.pk,N,l0⟩ ?_
 clear N J
 rintro mm a w ⟨i,pr,zz,j,J,N,A⟩ g2 B0
 by_cases x0:i < e.args.length
 refine go fun a J=>?_
 obtain ⟨v2,rfl,s1,G,B1,P1,K1,X⟩:=h2.el E0 x0
 obtain ⟨t2,m2,u2,n2,rfl,N1,o2,p2,S1,X1,T1,Y1⟩:=REx.fm X
 refine Alc fun k2 w N a J=>?_
 refine Sto 0 fun w N a J=>?_
 refine yO call101 (fun t1 w J1 N a J=>?_) (c:=ih _ (Ex.lt_args (mgQ G)) (K0:=_::_::K0) (post:=_) X hy (by rw [A,z2w G];simp only [List.append_assoc];rfl) N)
 refine go fun a J=>?_
 replace N:=N.dl [0]
 refine B0 _ _ _ (by subst j;omega) ⟨(i+1),((pr++zN s1)),(t1),rfl,J.pk,N,?_⟩
 rw [A,z2w G];simp only [List.append_assoc]
 refine go fun a J=>?_
 refine jS (fun mm a w=>∃(i:Nat) (pr:List Bs) (zz:β),mm=e.arms.length - i/\EnvR 58 [(1,y),(34,.slice p9 e.arms.length f),(35,.int .i64 e.arms.length),(36,.int .i64 i)] [] a/\Mem Φ (.blk g (ob [.int .i64 (e.kind),.int .i64 (e.num),.string e.name,.slice H e.args.length c4,.slice p9 e.arms.length f] 110)::K0++KY pr zz) w/\(items=pr++(bindPa (e.arms.drop i)++post))) (e.arms.length - 0) ⟨0,pr,zz,rfl,J.pk,N,by rw [A,y3l x0,List.nil_append];rfl⟩ ?_
 clear N J
 rintro mm a w ⟨i,pr,zz,j,J,N,V⟩ i2 C0
 by_cases y0:i < e.arms.length
 refine go fun a J=>?_
 obtain ⟨t0,rfl,d,Y,C1,Q1,L1,G0⟩:=h8.el W y0
 obtain ⟨w2,l2,rfl,z0,A0⟩:=RArm.iff.1 G0
 obtain ⟨H0,e0,rfl,U1,F0⟩:=z0.fm
 obtain ⟨I0,u0,J0,w0,rfl,O1,q2,r2,V1,Z1,W1,a2⟩:=REx.fm A0
 refine Alc fun c0 w N a J=>?_
 refine Sto 0 fun w N a J=>?_
 refine go fun a J=>?_
 refine jS (fun mm a w=>∃(k:Nat) (pr:List Bs) (zz:β),mm=d.vars.length - k/\EnvR 58 [(1,y),(8,.pointer (some ⟨c0,0,none⟩)),(34,.slice (some t0) e.arms.length f),(35,.int .i64 e.arms.length),(36,.int .i64 i),(41,.slice H0 d.vars.length e0),(42,.int .i64 d.vars.length),(43,.int .i64 k)] [] a/\Mem Φ (.blk c0 (ob [.string d.con,.slice H0 d.vars.length e0,.int .i64 (d.body.kind),.int .i64 (d.body.num),.string d.body.name,.slice I0 d.body.args.length u0,.slice J0 d.body.arms.length w0] 174)::.blk g (ob [.int .i64 (e.kind),.int .i64 (e.num),.string e.name,.slice H e.args.length c4,.slice (some t0) e.arms.length f] 110)::K0++KY pr zz) w/\(items=pr++(d.vars.drop k++(zN d.body++(bindPa (e.arms.drop (i+1))++post))))) (d.vars.length - 0) ⟨0,pr,zz,rfl,J.pk,N,by rw [V,y9n Y];simp only [List.append_assoc,List.drop_zero]⟩ ?_
 clear N J
 rintro mm a w ⟨k,pr,zz,j,J,N,p⟩ j2 D0
 by_cases h0:k < d.vars.length
 refine go fun a J=>?_
 obtain ⟨L0,rfl,K,D,f0,f1,Z0,o0⟩:=z0.el F0 h0
 obtain rfl:f0=[.string K]:=o0
 refine go1 fun a J=>?_
 refine xZ ?_
 refine yZ J (by intro c h;cases h) (jY J rfl) rfl fun a J=>
   yZ J (by intro c h;cases h) (jY J rfl) rfl fun a J=>?_
 refine z1r J rfl rfl rfl (by intro c h;cases h) (vY J rfl rfl (hy.go pr K _ zz (.blk c0 (ob [.string d.con,.slice (some L0) d.vars.length e0,.int .i64 (d.body.kind),.int .i64 (d.body.num),.string d.body.name,.slice I0 d.body.args.length u0,.slice J0 d.body.arms.length w0] 174)::.blk g (ob [.int .i64 (e.kind),.int .i64 (e.num),.string e.name,.slice H e.args.length c4,.slice (some t0) e.arms.length f] 110)::K0) w (by have h_:=p;rw [zA D] at h_;rw [h_];simp only [List.append_assoc,List.cons_append];rfl) N) fun w B a J=>?_)
 obtain ⟨R0,N⟩:=B
 replace N:=N.nf
 refine yZ J (by intro c h;cases h) (z4c J rfl) rfl fun a J=>?_
 refine nC ?_
 refine go fun a J=>?_
 refine D0 _ _ _ (by subst j;omega) ⟨(k+1),((pr++[K])),(R0),rfl,J.pk,N,?_⟩
 rw [p,zA D];simp only [List.append_assoc,List.cons_append,List.nil_append]
 refine yO call101 (fun O0 w W0 N a J=>?_) (c:=ih _ (Ex.lt_arms (mgQ Y)) (K0:=_::_::K0) (post:=_) A0 hy (by have h_:=p;rw [zB h0] at h_;rw [h_];simp only [List.append_assoc,List.nil_append];rfl) N)
 refine go fun a J=>?_
 replace N:=N.dl [0]
 refine C0 _ _ _ (by subst j;omega) ⟨(i+1),((pr++zN d.body)),(O0),rfl,J.pk,N,?_⟩
 have h_:=p
 rw [zB h0] at h_
 rw [h_];simp only [List.append_assoc,List.nil_append]
 refine zD ?_
 replace N:=N.dl [0]
 have h_:=V
 rw [y3j y0,List.nil_append,m0] at h_
 rw [aN h_];exact ⟨_,rfl,trivial,N⟩
 refine yZ J (by intro c h;cases h) (vO false J rfl rfl (decide_eq_false t)) rfl fun a J=>
   yZ J (by intro c h;cases h) (jY J rfl) rfl fun a J=>
   y5b J rfl rfl rfl rfl rfl rfl fun a J=>
   y5b J rfl rfl rfl rfl rfl rfl fun a J=>
   y5b J rfl rfl rfl rfl rfl rfl fun a J=>
   y5b J rfl rfl rfl rfl rfl rfl fun a J=>
   y5b J rfl rfl rfl rfl rfl rfl fun a J=>
   yZ J (by intro c h;cases h) (j5c J rfl rfl) rfl fun a J=>?_
 refine nC ?_
 refine go fun a J=>?_
 have l0:items=pre++(bindPs e.args++(bindPa e.arms++post)):=by
  rw [m,show y4u e=[] by rw [y4u,if_neg t]];simp only [List.append_assoc,List.nil_append,List.append_nil]
 refine go fun a J=>?_
 refine jS (fun mm a w=>∃(i:Nat) (pr:List Bs) (zz:β),mm=e.args.length - i/\EnvR 58 [(1,y),(2,.pointer (some ⟨g,0,none⟩)),(22,.slice H e.args.length c4),(23,.int .i64 e.args.length),(24,.int .i64 i)] [] a/\Mem Φ (.blk g (ob [.int .i64 (e.kind),.int .i64 (e.num),.string e.name,.slice H e.args.length c4,.slice p9 e.arms.length f] 110)::K0++KY pr zz) w/\(items=pr++(bindPs (e.args.drop i)++(bindPa e.arms++post)))) (e.args.length - 0) ⟨0,pre,z,rfl,J.pk,N,l0⟩ ?_
 clear N J
 rintro mm a w ⟨i,pr,zz,j,J,N,n⟩ v1 i0
 by_cases R:i < e.args.length
 refine go fun a J=>?_
 obtain ⟨d2,rfl,N0,o,U0,g1,a1,C⟩:=h2.el E0 R
 obtain ⟨b2,c135,c2,A1,rfl,d1,D1,E1,j1,o1,k1,p1⟩:=REx.fm C
 refine Alc fun y1 w N a J=>?_
 refine Sto 0 fun w N a J=>?_
 refine yO call101 (fun P0 w X0 N a J=>?_) (c:=ih _ (Ex.lt_args (mgQ o)) (K0:=_::_::K0) (post:=_) C hy (by rw [n,z2w o];simp only [List.append_assoc];rfl) N)
 refine go fun a J=>?_
 replace N:=N.dl [0]
 refine i0 _ _ _ (by subst j;omega) ⟨(i+1),((pr++zN N0)),(P0),rfl,J.pk,N,?_⟩
 rw [n,z2w o];simp only [List.append_assoc]
 refine go fun a J=>?_
 refine jS (fun mm a w=>∃(i:Nat) (pr:List Bs) (zz:β),mm=e.arms.length - i/\EnvR 58 [(1,y),(34,.slice p9 e.arms.length f),(35,.int .i64 e.arms.length),(36,.int .i64 i)] [] a/\Mem Φ (.blk g (ob [.int .i64 (e.kind),.int .i64 (e.num),.string e.name,.slice H e.args.length c4,.slice p9 e.arms.length f] 110)::K0++KY pr zz) w/\(items=pr++(bindPa (e.arms.drop i)++post))) (e.arms.length - 0) ⟨0,pr,zz,rfl,J.pk,N,by rw [n,y3l R,List.nil_append];rfl⟩ ?_
 clear N J
 rintro mm a w ⟨i,pr,zz,j,J,N,v⟩ w1 j0
 by_cases S:i < e.arms.length
 refine go fun a J=>?_
 obtain ⟨I,rfl,b,E,V0,h1,b1,p0⟩:=h8.el W S
 obtain ⟨f2,z1,rfl,T,U⟩:=RArm.iff.1 p0
 obtain ⟨Z,r,rfl,l1,n0⟩:=T.fm
 obtain ⟨a0,M,b0,P,rfl,e1,F1,G1,m1,q1,n1,r1⟩:=REx.fm U
 refine Alc fun q w N a J=>?_
 refine Sto 0 fun w N a J=>?_
 refine go fun a J=>?_
 refine jS (fun mm a w=>∃(k:Nat) (pr:List Bs) (zz:β),mm=b.vars.length - k/\EnvR 58 [(1,y),(8,.pointer (some ⟨q,0,none⟩)),(34,.slice (some I) e.arms.length f),(35,.int .i64 e.arms.length),(36,.int .i64 i),(41,.slice Z b.vars.length r),(42,.int .i64 b.vars.length),(43,.int .i64 k)] [] a/\Mem Φ (.blk q (ob [.string b.con,.slice Z b.vars.length r,.int .i64 (b.body.kind),.int .i64 (b.body.num),.string b.body.name,.slice a0 b.body.args.length M,.slice b0 b.body.arms.length P] 174)::.blk g (ob [.int .i64 (e.kind),.int .i64 (e.num),.string e.name,.slice H e.args.length c4,.slice (some I) e.arms.length f] 110)::K0++KY pr zz) w/\(items=pr++(b.vars.drop k++(zN b.body++(bindPa (e.arms.drop (i+1))++post))))) (b.vars.length - 0) ⟨0,pr,zz,rfl,J.pk,N,by rw [v,y9n E];simp only [List.append_assoc,List.drop_zero]⟩ ?_
 clear N J
 rintro mm a w ⟨k,pr,zz,j,J,N,l⟩ x1 k0
 by_cases u:k < b.vars.length
 refine go fun a J=>?_
 obtain ⟨M0,rfl,L,F,g0,i1,c1,q0⟩:=T.el n0 u
 obtain rfl:g0=[.string L]:=q0
 refine go1 fun a J=>?_
 refine xZ ?_
 refine yZ J (by intro c h;cases h) (jY J rfl) rfl fun a J=>
   yZ J (by intro c h;cases h) (jY J rfl) rfl fun a J=>?_
 refine z1r J rfl rfl rfl (by intro c h;cases h) (vY J rfl rfl (hy.go pr L _ zz (.blk q (ob [.string b.con,.slice (some M0) b.vars.length r,.int .i64 (b.body.kind),.int .i64 (b.body.num),.string b.body.name,.slice a0 b.body.args.length M,.slice b0 b.body.arms.length P] 174)::.blk g (ob [.int .i64 (e.kind),.int .i64 (e.num),.string e.name,.slice H e.args.length c4,.slice (some I) e.arms.length f] 110)::K0) w (by have h_:=l;rw [zA F] at h_;rw [h_];simp only [List.append_assoc,List.cons_append];rfl) N) fun w B a J=>?_)
 obtain ⟨S0,N⟩:=B
 replace N:=N.nf
 refine yZ J (by intro c h;cases h) (z4c J rfl) rfl fun a J=>?_
 refine nC ?_
 refine go fun a J=>?_
 refine k0 _ _ _ (by subst j;omega) ⟨(k+1),((pr++[L])),(S0),rfl,J.pk,N,?_⟩
 rw [l,zA F];simp only [List.append_assoc,List.cons_append,List.nil_append]
 refine yO call101 (fun Q0 w Y0 N a J=>?_) (c:=ih _ (Ex.lt_arms (mgQ E)) (K0:=_::_::K0) (post:=_) U hy (by have h_:=l;rw [zB u] at h_;rw [h_];simp only [List.append_assoc,List.nil_append];rfl) N)
 refine go fun a J=>?_
 replace N:=N.dl [0]
 refine j0 _ _ _ (by subst j;omega) ⟨(i+1),((pr++zN b.body)),(Q0),rfl,J.pk,N,?_⟩
 have h_:=l
 rw [zB u] at h_
 rw [h_];simp only [List.append_assoc,List.nil_append]
 refine zD ?_
 replace N:=N.dl [0]
 have h_:=v
 rw [y3j S,List.nil_append,m0] at h_
 rw [aN h_];exact ⟨_,rfl,trivial,N⟩
theorem bind_ok {β:Type} {Φ:Fz} {y:Value} {items:List Bs} {KY:List Bs->β->List Res} (c:Takes prog Φ y (fun s=>[.string s]) items KY) {e:Ex} {K0:List Res} {w:World} {d0:List Value} {pre post:List Bs} {z:β} (re:REx Φ d0 e) (a:items=pre++zN e++post) (N:Mem Φ (K0++KY pre z) w) :
  Calls prog 101 #[.agg d0.toArray,y] w (fun ee w'=>∃z':β,ee=.returned (.bool true)/\True/\Mem Φ (K0++KY (pre++zN e) z') w'):=by
 have:∀(n:Nat) (e:Ex),e.sz < n->∀{K0:List Res} {w:World} {d0:List Value} {pre post:List Bs} {z:β},REx Φ d0 e->items=pre++zN e++post->Mem Φ (K0++KY pre z) w ->
   Calls prog 101 #[.agg d0.toArray,y] w (fun ee w'=>∃z':β,ee=.returned (.bool true)/\True/\Mem Φ (K0++KY (pre++zN e) z') w'):=by
  intro n
  induction n with
  | zero=>intro e h;omega
  | succ n d=>intro e h K0 w d0 pre post z re a N;exact j8d c (fun x f K0 w d0 pre post z r _ h1 b=>d x (by omega) r h1 b) re a N
 exact this _ e (Nat.lt_succ_self _) re a N
theorem q6c {Φ:Fz} {K:List Res} {w:World} {d0:List Value} {e:Ex} (re:REx Φ d0 e) (N:Mem Φ K w) :
  Calls prog 65 #[.agg d0.toArray] w (fun ee w'=>∃b:Nat,ee=.returned (.func (.func 100) #[] #[.pointer (some ⟨b,0,none⟩)])/\True/\Mem Φ (.blk b (ob d0 110)::K) w'):=by
 have g:=re
 obtain ⟨n,c4,o,i,rfl,c,l,m,j,k,d,f⟩:=REx.fm re
 refine zL func65 ntmps65 fun Q hQ a J=>?_
 refine Bx fun h w N a J=>?_
 refine zD ?_
 exact ⟨_,rfl,trivial,N⟩
theorem q6b {β:Type} {Φ:Fz} {w:World} {d0:List Value} {e:Ex} {y:Value} {KY:List Bs->β->List Res} {z:β} {b:Nat} (re:REx Φ d0 e) (m:Takes prog Φ y (fun s=>[.string s]) (zN e) KY) (N:Mem Φ (.blk b (ob d0 110)::KY [] z) w) :
  Calls prog 100 #[y,.pointer (some ⟨b,0,none⟩)] w (fun ee w'=>∃z':β,ee=.returned (.tuple #[])/\True/\Mem Φ (.blk b (ob d0 110)::KY (zN e) z') w'):=by
 have j:=re
 obtain ⟨n,c4,o,d,rfl,g,q,r,k,l,h,i⟩:=REx.fm re
 refine zL func100 ntmps100 fun Q hQ a J=>?_
 refine yO call101 (fun p w f N a J=>?_) (c:=bind_ok m re (K0:=[.blk b (ob [.int .i64 (e.kind),.int .i64 (e.num),.string e.name,.slice n e.args.length c4,.slice o e.arms.length d] 110)]) (pre:=[]) (post:=[]) (by simp) N)
 refine go fun a J=>?_
 refine hQ _ _ _ (q2a J results100 ?_)
 exact ⟨_,rfl,trivial,N⟩
structure TidyC (c:Core):Prop where
 inp:∀p∈c.inputs,p.name.size<=1000
 con:∀d∈c.datas,∀x∈d.cons,x.name.size<=1000/\x.fields.length<=1000
 fn:∀f∈c.funs,f.name.size<=1000/\(∀p∈f.params,p.name.size<=1000)/\∀b∈zN f.body,b.size<=1000
theorem j5z {s:Bs} {j n:Nat} (h:j < n):(List.range' j (n - j)).map (vZ s)=vZ s j::(List.range' (j+1) (n - (j+1))).map (vZ s):=by
 obtain ⟨m,N⟩:∃m,n - j=m+1:=⟨n - j - 1,by omega⟩
 rw [N,List.range'_succ,List.map_cons,show n - (j+1)=m by omega]
theorem q7a {s:Bs} {j n:Nat} (h:¬j < n):(List.range' j (n - j)).map (vZ s)=[]:=by rw [show n - j=0 by omega];rfl
theorem q6z (s:Bs) (n:Nat):z6d s n=(List.range' 0 (n - 0)).map (vZ s):=by rw [z6d,List.range_eq_range',Nat.sub_zero]
theorem q8h (c:Core):zC c=[]++((c.inputs.drop 0).map (fun p=>inN p.name)++(c.datas.flatMap z5x++c.funs.flatMap dP)):=by simp [zC]
theorem funN_eq (f:Fun):dP f=[f.name]++((f.params.drop 0).map (fun p=>vrN f.name p.name)++(zN f.body).map (vrN f.name)):=by simp [dP]
theorem sD {α:Type} {n:List α} {a b:List α} (h:n=a++b):a.length<=n.length:=by rw [h,laQ];omega
theorem vC {Φ:Fz} {K:List Res} {w:World} {d0:List Value} {c:Core} (m1:RCore Φ d0 c) (G:Glob Φ) (hT:TidyC c) (hN:(zC c).length<=1000000000) (N:Mem Φ K w) :
  Calls prog 37 #[.agg d0.toArray] w (fun ee w'=>∃v:Value,ee=.returned v/\True/\Mem Φ (.gs v 9 1 (strs (zC c))::K) w'):=by
 obtain ⟨p3,c4,p9,S,K0,M,Y,c22,rfl,h2,h8,T0,Y1,a2,j1,E1,D0,F1,E0,G1,J1⟩:=RCore.fm m1
 refine z8h func37 rfl ntmps37 rfl (fun Q hQ a J=>?_)
 refine Bx fun P w N a J=>?_
 refine Alc fun o w N a J=>?_
 refine go fun a J=>?_
 replace N:=N.nilRow 9 1
 replace N:=N.nf
 refine go fun a J=>?_
 refine zU (J.ks [1,3,18,19]) N (fun R mm a w=>∃(i:Nat) (u:Value) (acc:List Bs),mm=c.inputs.length - i/\R Φ [(20,.int .i64 i)] [(0,.gs (u) 9 1 (strs acc)),(1,.blk o (ob [u] 25))] a w/\(zC c=acc++((c.inputs.drop i).map (fun p=>inN p.name)++(c.datas.flatMap z5x++c.funs.flatMap dP)))) (c.inputs.length - 0) ⟨0,.slice none 0 0,[],rfl,⟨J.pk,N⟩,q8h c⟩ ?_
 clear N J
 rintro mm a w ⟨i,u,acc,r,⟨J,N⟩,U⟩ Q1 x0
 replace N:=N.nf
 by_cases r0:i < c.inputs.length
 refine go fun a J=>?_
 obtain ⟨f2,rfl,o1,g0,t1,B1,y1,H0⟩:=h8.el D0 r0
 obtain rfl:=id H0
 refine Alc fun U1 w N a J=>?_
 refine Sto 0 fun w N a J=>?_
 refine Reg [2,1,2,1,0,0,0,0] [0,2,3] fun w N a J=>?_
 have p0:=hT.inp _ (mgQ g0)
 refine qO fun a J=>?_
 refine zT call40 (fun w N a J=>?_) (c:=y5a (by omega) N)
 refine jQ fun v46 w N a J=>?_
 refine vH 2 xQ (fun n1 w N a J=>?_) (hb:=by have l0:=sD U;simp only [zR,lcQ,lnQ];omega)
 first | rw [qI] at N | rw [<- yN] at N
 refine Sto 3 fun w N a J=>?_
 refine go fun a J=>?_
 replace N:=N.dl [1,0]
 refine x0 _ _ _ (by subst r;omega) ⟨(i+1),(n1),((acc++[inN o1.name])),rfl,⟨J.pk,N⟩,?_⟩
 rw [U,zA g0];simp only [List.append_assoc,List.cons_append,List.nil_append,List.map_cons]
 refine go fun a J=>?_
 refine zU (J.ks [1,3,33,34]) N (fun R mm a w=>∃(i:Nat) (u:Value) (acc:List Bs),mm=c.datas.length - i/\R Φ [(35,.int .i64 i)] [(0,.gs (u) 9 1 (strs acc)),(1,.blk o (ob [u] 25))] a w/\(zC c=acc++((c.datas.drop i).flatMap z5x++c.funs.flatMap dP))) (c.datas.length - 0) ⟨0,u,acc,rfl,⟨J.pk,N⟩,by rw [U,zB r0];rfl⟩ ?_
 clear N J
 rintro mm a w ⟨i,u,acc,r,⟨J,N⟩,e0⟩ R1 y0
 replace N:=N.nf
 by_cases s0:i < c.datas.length
 refine go fun a J=>?_
 obtain ⟨g2,rfl,Z,h0,u1,C1,z1,I0⟩:=h2.el j1 s0
 obtain ⟨j2,rfl,t0⟩:=id I0
 obtain ⟨d2,c68,rfl,H1,F0⟩:=t0.fm
 refine Alc fun V1 w N a J=>?_
 refine Sto 0 fun w N a J=>?_
 refine go fun a J=>?_
 refine zU (J.ks [1,3,33,34,35,40,41]) N (fun R mm a w=>∃(k:Nat) (u:Value) (acc:List Bs),mm=Z.cons.length - k/\R Φ [(42,.int .i64 k)] [(1,.gs (u) 9 1 (strs acc)),(2,.blk o (ob [u] 25))] a w/\(zC c=acc++((Z.cons.drop k).flatMap (fun y=>z6d y.name y.fields.length)++((c.datas.drop (i+1)).flatMap z5x++c.funs.flatMap dP)))) (Z.cons.length - 0) ⟨0,u,acc,rfl,⟨J.pk,N⟩,by rw [e0,zA h0,List.flatMap_cons,List.append_assoc];rfl⟩ ?_
 clear N J
 rintro mm a w ⟨k,u,acc,r,⟨J,N⟩,f0⟩ S1 z0
 replace N:=N.nf
 by_cases u0:k < Z.cons.length
 refine go fun a J=>?_
 obtain ⟨i2,rfl,E,i0,v1,D1,A1,J0⟩:=t0.el F0 u0
 obtain ⟨k2,rfl,V0⟩:=id J0
 obtain ⟨e2,X1,rfl,I1,K1⟩:=V0.fm
 refine Alc fun W1 w N a J=>?_
 refine Sto 0 fun w N a J=>?_
 refine go fun a J=>?_
 refine zU (J.ks [1,3,9,33,34,35,40,41,42,48]) N (fun R mm a w=>∃(j:Nat) (u:Value) (acc:List Bs),mm=E.fields.length - j/\R Φ [(49,.int .i64 j)] [(2,.gs (u) 9 1 (strs acc)),(3,.blk o (ob [u] 25))] a w/\(zC c=acc++((List.range' j (E.fields.length - j)).map (vZ E.name)++((Z.cons.drop (k+1)).flatMap (fun y=>z6d y.name y.fields.length)++((c.datas.drop (i+1)).flatMap z5x++c.funs.flatMap dP))))) (E.fields.length - 0) ⟨0,u,acc,rfl,⟨J.pk,N⟩,by rw [f0,zA i0,List.flatMap_cons,List.append_assoc,q6z]⟩ ?_
 clear N J
 rintro mm a w ⟨j,u,acc,r,⟨J,N⟩,V⟩ T1 A0
 replace N:=N.nf
 by_cases w0:j < E.fields.length
 refine Reg [2,1,2,1,1,0,0,0,0] [0,1,3,4] fun w N a J=>?_
 have p0:=hT.con _ (mgQ h0) _ (mgQ i0)
 refine qO fun a J=>?_
 refine zT call63 (fun w N a J=>?_) (c:=y2p G (by omega) (by omega) N)
 refine jQ fun N1 w N a J=>?_
 refine vH 3 xQ (fun N0 w N a J=>?_) (hb:=by have l0:=sD V;simp only [zR,lcQ,lnQ];omega)
 first | rw [qI] at N | rw [<- yN] at N
 refine Sto 4 fun w N a J=>?_
 refine go fun a J=>?_
 replace N:=N.dl [0]
 refine A0 _ _ _ (by subst r;omega) ⟨(j+1),(N0),((acc++[vZ E.name j])),rfl,⟨J.pk,N⟩,?_⟩
 rw [V,j5z (s:=E.name) w0];simp only [List.append_assoc,List.cons_append,List.nil_append]
 refine go fun a J=>?_
 replace N:=N.dl [0]
 refine z0 _ _ _ (by subst r;omega) ⟨(k+1),(u),(acc),rfl,⟨J.pk,N⟩,?_⟩
 have h_:=V
 rw [q7a w0] at h_
 rw [h_];simp only [List.nil_append]
 refine go fun a J=>?_
 replace N:=N.dl [0]
 refine y0 _ _ _ (by subst r;omega) ⟨(i+1),(u),(acc),rfl,⟨J.pk,N⟩,?_⟩
 have h_:=f0
 rw [zB u0] at h_
 rw [h_];simp only [List.flatMap_nil,List.nil_append]
 refine go fun a J=>?_
 refine jS (fun mm a w=>∃(i:Nat) (u:Value) (acc:List Bs) (ds:List Nat),mm=c.funs.length - i/\EnvR 112 [(3,.pointer (some ⟨o,0,none⟩)),(64,.slice K0 c.funs.length M),(65,.int .i64 c.funs.length),(66,.int .i64 i)] (z3w ds) a/\Mem Φ (.gs (u) 9 1 (strs acc)::.blk o (ob [u] 25)::.blk P (ob [.slice p3 c.datas.length c4,.slice p9 c.inputs.length S,.slice K0 c.funs.length M,.slice Y c.outputs.length c22] 27)::vM ds++K) w/\(zC c=acc++(c.funs.drop i).flatMap dP)) (c.funs.length - 0) ⟨0,u,acc,[],rfl,J.pk,N,by rw [e0,zB s0];rfl⟩ ?_
 clear N J
 rintro mm a w ⟨i,u,acc,ds,r,J,N,D⟩ p1 j0
 by_cases b0:i < c.funs.length
 refine go fun a J=>?_
 obtain ⟨I,rfl,b,W,R0,b1,Y0,n0⟩:=T0.el E0 b0
 obtain ⟨M1,r1,rfl,c0,q0⟩:=id n0
 obtain ⟨n,m,rfl,d1,m0⟩:=c0.fm
 obtain ⟨g,d,l,f,rfl,a1,w1,x1,e1,g1,f1,i1⟩:=REx.fm q0
 refine Alc fun F w N a J=>?_
 refine Sto 0 fun w N a J=>?_
 have B0:=hT.fn _ (mgQ W)
 refine qO fun a J=>?_
 refine mP fun a J=>?_
 refine Alc fun H w N a J=>?_
 refine Sto 0 fun w N a J=>?_
 refine jQ fun L w N a J=>?_
 refine vH 3 xQ (fun O0 w N a J=>?_) (hb:=by have l0:=sD D;simp only [zR,lcQ,lnQ];omega)
 first | rw [qI] at N | rw [<- yN] at N
 refine Sto 4 fun w N a J=>?_
 refine go fun a J=>?_
 refine zU (J.ks [3,13,64,65,66,83,84]) N (fun R mm a w=>∃(k:Nat) (u:Value) (acc:List Bs),mm=b.params.length - k/\R Φ [(85,.int .i64 k)] [(3,.gs (u) 9 1 (strs acc)),(4,.blk o (ob [u] 25))] a w/\(zC c=acc++((b.params.drop k).map (fun p=>vrN b.name p.name)++((zN b.body).map (vrN b.name)++(c.funs.drop (i+1)).flatMap dP)))) (b.params.length - 0) ⟨0,O0,(acc++[b.name]),rfl,⟨J.pk,N⟩,by rw [D,zA W,List.flatMap_cons,funN_eq];simp only [List.append_assoc,List.cons_append,List.nil_append]⟩ ?_
 clear N J
 rintro mm a w ⟨k,u,acc,r,⟨J,N⟩,t⟩ q1 k0
 replace N:=N.nf
 by_cases T:k < b.params.length
 refine go fun a J=>?_
 obtain ⟨L1,rfl,Q0,X,S0,c1,Z0,o0⟩:=c0.el m0 T
 obtain rfl:=id o0
 refine Alc fun s1 w N a J=>?_
 refine Sto 0 fun w N a J=>?_
 refine Reg [2,1,2,1,2,0,0,0,0] [0,1,2,3,5,6] fun w N a J=>?_
 have p0:=B0.2.1 _ (mgQ X)
 refine zT call64 (fun w N a J=>?_) (c:=z9r (by omega) (by omega) N)
 refine jQ fun v167 w N a J=>?_
 refine vH 5 xQ (fun v168 w N a J=>?_) (hb:=by have l0:=sD t;simp only [zR,lcQ,lnQ];omega)
 first | rw [qI] at N | rw [<- yN] at N
 refine Sto 6 fun w N a J=>?_
 refine go fun a J=>?_
 replace N:=N.dl [1,0]
 refine k0 _ _ _ (by subst r;omega) ⟨(k+1),(v168),((acc++[vrN b.name Q0.name])),rfl,⟨J.pk,N⟩,?_⟩
 rw [t,zA X];simp only [List.append_assoc,List.cons_append,List.nil_append,List.map_cons]
 refine yO call65 (fun a0 w W0 N a J=>?_) (c:=q6c (by assumption) N)
 refine go fun a J=>?_
 refine z9u (p:=102) (zN b.body) (fun x=>.string x) [.blk a0 (ob [.int .i64 (b.body.kind),.int .i64 (b.body.num),.string b.body.name,.slice g b.body.args.length d,.slice l b.body.arms.length f] 110)] (fun pre z=>.gs (L) 9 1 [.string b.name]::.blk H (ob [.string b.name,.string b.name,.slice n b.params.length m,.string b.result,.int .i64 (b.body.kind),.int .i64 (b.body.num),.string b.body.name,.slice g b.body.args.length d,.slice l b.body.arms.length f] 131)::.blk F (ob [.string b.name,.slice n b.params.length m,.string b.result,.int .i64 (b.body.kind),.int .i64 (b.body.num),.string b.body.name,.slice g b.body.args.length d,.slice l b.body.arms.length f] 112)::.gs (z) 9 1 (strs (acc++pre.map (vrN b.name)))::.blk o (ob [z] 25)::.blk P (ob [.slice p3 c.datas.length c4,.slice p9 c.inputs.length S,.slice (some I) c.funs.length M,.slice Y c.outputs.length c22] 27)::vM ds++K) u J (by simpa using N.nf) rfl call100 rfl (fun pre x post z l_ b2 c2 O1 a w C0 J N=>?_) (fun y_ P1 w l1 N=>?_) (fun Dk z a w J N=>?_)
 replace N:=N.nf
 refine regI ?_
 refine yZ J (by intro c h;cases h) (kZ J rfl) rfl fun a J=>?_
 refine nC ?_
 refine ⟨_,N,fun w N=>?_⟩
 replace N:=N.nf
 refine blkI ?_
 refine cV [2,1,2,1,0,0,0,0] (.q 0 (.q 1 (.q 2 (.q 3 (.e 4 (.e 5 (.e 6 (.e 7 (.done))))))))) [.gs (L) 9 1 [.string b.name],.blk H (ob [.string b.name,.string b.name,.slice n b.params.length m,.string b.result,.int .i64 (b.body.kind),.int .i64 (b.body.num),.string b.body.name,.slice g b.body.args.length d,.slice l b.body.arms.length f] 131),.blk F (ob [.string b.name,.slice n b.params.length m,.string b.result,.int .i64 (b.body.kind),.int .i64 (b.body.num),.string b.body.name,.slice g b.body.args.length d,.slice l b.body.arms.length f] 112),.blk o (ob [z] 25),.blk P (ob [.slice p3 c.datas.length c4,.slice p9 c.inputs.length S,.slice (some I) c.funs.length M,.slice Y c.outputs.length c22] 27)] J N mixed (by kernel_rfl) (by simp) (by kernel_rfl) fun w N=>?_
 have p0:=B0.2.2 x (by rw [C0];simp)
 have k1:=congrArg List.length C0
 simp only [laQ,lcQ] at k1
 have G0:=congrArg List.length t
 rw [zB T] at G0
 simp only [laQ,List.length_map,lnQ] at G0
 refine zT call64 (fun w N a J=>?_) (c:=z9r (by omega) (by omega) N)
 refine jQ fun v173 w N a J=>?_
 refine vH 5 xQ (fun P0 w N a J=>?_) (hb:=by simp only [zR,laQ,List.length_map,lcQ,lnQ];omega)
 first | rw [qI] at N | rw [<- yN] at N
 refine Sto 6 fun w N a J=>?_
 refine go fun a J=>?_
 replace N:=N.dl [0]
 refine ⟨rfl,P0,?_⟩
 rw [List.map_append,List.map_cons,List.map_nil,<- List.append_assoc];exact N
 exact (q6b (by assumption) l1 N).mono fun e w h=>let ⟨z,h1,_,h2⟩:=h;⟨_,z,h1,h2⟩
 replace N:Mem Φ (.blk a0 (ob [.int .i64 (b.body.kind),.int .i64 (b.body.num),.string b.body.name,.slice g b.body.args.length d,.slice l b.body.arms.length f] 110)::.gs (L) 9 1 [.string b.name]::.blk H (ob [.string b.name,.string b.name,.slice n b.params.length m,.string b.result,.int .i64 (b.body.kind),.int .i64 (b.body.num),.string b.body.name,.slice g b.body.args.length d,.slice l b.body.arms.length f] 131)::.blk F (ob [.string b.name,.slice n b.params.length m,.string b.result,.int .i64 (b.body.kind),.int .i64 (b.body.num),.string b.body.name,.slice g b.body.args.length d,.slice l b.body.arms.length f] 112)::.gs (z) 9 1 (strs (acc++(zN b.body).map (vrN b.name)))::.blk o (ob [z] 25)::.blk P (ob [.slice p3 c.datas.length c4,.slice p9 c.inputs.length S,.slice (some I) c.funs.length M,.slice Y c.outputs.length c22] 27)::vM (Dk::ds)++K) w:=Mem.mid (A:=[.blk Dk (.deferred (some []))]) (B:=[.blk a0 (ob [.int .i64 (b.body.kind),.int .i64 (b.body.num),.string b.body.name,.slice g b.body.args.length d,.slice l b.body.arms.length f] 110),.gs (L) 9 1 [.string b.name],.blk H (ob [.string b.name,.string b.name,.slice n b.params.length m,.string b.result,.int .i64 (b.body.kind),.int .i64 (b.body.num),.string b.body.name,.slice g b.body.args.length d,.slice l b.body.arms.length f] 131),.blk F (ob [.string b.name,.slice n b.params.length m,.string b.result,.int .i64 (b.body.kind),.int .i64 (b.body.num),.string b.body.name,.slice g b.body.args.length d,.slice l b.body.arms.length f] 112),.gs (z) 9 1 (strs (acc++(zN b.body).map (vrN b.name))),.blk o (ob [z] 25),.blk P (ob [.slice p3 c.datas.length c4,.slice p9 c.inputs.length S,.slice (some I) c.funs.length M,.slice Y c.outputs.length c22] 27)]) (C:=vM ds++K) N
 refine go fun a J=>?_
 replace N:=N.dl [3,2,1,0]
 refine j0 _ _ _ (by subst r;omega) ⟨(i+1),(z),((acc++(zN b.body).map (vrN b.name))),((Dk::ds)),rfl,J.pk,N,?_⟩
 have h_:=t
 rw [zB T] at h_
 rw [h_];simp only [List.map_nil,List.nil_append,List.append_assoc]
 refine go fun a J=>?_
 replace N:=N.dl [2,1]
 replace N:Mem Φ (vM ds++(.gs (u) 9 1 (strs acc)::K)) w:=Mem.mid (A:=[.gs (u) 9 1 (strs acc)]) (B:=vM ds) (C:=K) N
 refine hQ _ _ _ (retX1 (ds:=ds) J results37 rfl N fun w N=>?_)
 have h_:=D
 rw [zB b0,List.flatMap_nil,List.append_nil] at h_
 rw [h_];exact ⟨_,rfl,trivial,N⟩
inductive Tyd (T:Table):Scope->Ex->Bs->Prop
 | num {s:Scope} {e:Ex}:e.kind=1->e.args=[]->e.arms=[]->Tyd T s e yU
 | var {s:Scope} {e:Ex} {t:Bs}:e.kind=2->e.args=[]->e.arms=[]->zK s e.name=some t->Tyd T s e t
 | inp {s:Scope} {e:Ex} {t:Bs}:e.kind=3->e.args=[]->e.arms=[]->zK T.inputs e.name=some t->Tyd T s e t
 | con {s:Scope} {e:Ex} {m:Maker}:e.kind=4->e.arms=[]->zK T.cons e.name=some m->e.args.length=m.con.fields.length ->
   (∀(i:Nat) x t,e.args[i]? = some x->m.con.fields[i]? = some t->Tyd T s x t)->Tyd T s e m.data
 | call {s:Scope} {e:Ex} {f:Fun}:e.kind=5->e.arms=[]->zK T.funs e.name=some f->e.args.length=f.params.length ->
   (∀(i:Nat) x p,e.args[i]? = some x->f.params[i]? = some p->Tyd T s x p.type)->Tyd T s e f.result
 | let_ {s:Scope} {e x y:Ex} {t u:Bs}:e.kind=6->e.arms=[]->e.args=[x,y]->Tyd T s x t->Tyd T (jP s e.name t) y u->Tyd T s e u
 | case_ {s:Scope} {e x:Ex} {dt u:Bs} {d:Data}:e.kind=7->e.args=[x]->Tyd T s x dt->zK T.datas dt=some d->e.arms.length=d.cons.length ->
   (∀(i:Nat) a c,e.arms[i]? = some a->d.cons[i]? = some c->a.con=c.name/\a.vars.length=c.fields.length) ->
   (∀(i:Nat) a c,e.arms[i]? = some a->d.cons[i]? = some c->Tyd T (putAll s a.vars c.fields) a.body u)->Tyd T s e u
 | op {s:Scope} {e x y:Ex}:e.kind=8->e.arms=[]->e.args=[x,y]->Tyd T s x yU->Tyd T s y yU->Tyd T s e (opT e.name)
theorem q5w {l:List Ex} (hl:l.length=2):∃x y,l=[x,y]:=by
 match l,hl with
 | [x,y],_=>exact ⟨x,y,rfl⟩
theorem x2z {l:List Ex} (hl:l.length=1):∃x,l=[x]:=by
 match l,hl with
 | [x],_=>exact ⟨x,rfl⟩
theorem j1d {e:Ex} {a b:Bool} {r:Int} {n:Nat} (h:qP e a b r (n:Int)=true):e.arms.length=n:=by
 simp only [qP,baQ,Bool.or_eq_true,decide_eq_true_eq] at h
 omega
theorem mA {e:Ex} {a b:Bool} {r:Int} (h:qP e a b r 0=true):e.arms=[]:=List.eq_nil_of_length_eq_zero (j1d (n:=0) h)
theorem z1d {e:Ex} {a b:Bool} {r:Int} (h:qP e a b 0 r=true):e.args=[]:=List.eq_nil_of_length_eq_zero (pD (n:=0) h)
theorem z8w:∀{es:List Ex} {x:Ex} {m:Bs},x∈es->m∈zN x->m∈bindPs es
 | y::es,x,m,h,N=>by
  simp only [bindPs,List.mem_append]
  rcases List.mem_cons.1 h with rfl | h
  ·exact .inl N
  ·exact .inr (z8w h N)
theorem z8v:∀{es:List Arm} {a:Arm} {m:Bs},a∈es->m∈a.vars++zN a.body->m∈bindPa es
 | b::es,a,m,h,N=>by
  rw [qE,List.mem_append]
  rcases List.mem_cons.1 h with rfl | h
  ·exact .inl N
  ·exact .inr (z8v h N)
theorem q1o:∀{es:List Ex} {x:Ex},(bindPs es).Nodup->x∈es->(zN x).Nodup
 | y::es,x,a,h=>by
  have hn':=qH (show (zN y++bindPs es).Nodup from a)
  rcases List.mem_cons.1 h with rfl | h
  ·exact hn'.1
  ·exact q1o hn'.2.1 h
theorem q1n:∀{es:List Arm} {a:Arm},(bindPa es).Nodup->a∈es->(a.vars++zN a.body).Nodup
 | b::es,a,c,h=>by
  rw [qE] at c
  have hn':=qH c
  rcases List.mem_cons.1 h with rfl | h
  ·exact hn'.1
  ·exact q1n hn'.2.1 h
theorem z9q (T:Table) (j:zK T.datas sNo=none):∀(n:Nat) (e:Ex) (s:Scope),e.sz < n->(zN e).Nodup->Fresh s (zN e)->(zI T e s).1≠sNo->Tyd T s e (zI T e s).1
 | 0,_,_,h,_,_,_=>by omega
 | n+1,e,s,Y,G,u,h=>by
  have v:∀x∈e.args,gT T x:=fun x l=>tK T j (n+1) x (by have:=Ex.lt_args l;omega)
  have U:∀a∈e.arms,gT T a.body:=fun a f=>tK T j (n+1) a.body (by have:=Ex.lt_arms f;omega)
  rw [wM] at G u
  have z:=qH G
  have A:=qH z.1
  have fa:Fresh s (bindPs e.args):=u.sub fun m N=>List.mem_append.2 (.inl (List.mem_append.2 (.inr N)))
  have fb:Fresh s (bindPa e.arms):=u.sub fun m N=>List.mem_append.2 (.inr N)
  have k:∀(ts:List Bs),(vT T e.args s ts).1=true->e.args.length=ts.length/\∀(i:Nat) x t,e.args[i]? = some x->ts[i]? = some t->Tyd T s x t:=fun ts f=>by
   have h1:=(z5r v A.2.1 fa f).2
   refine ⟨h1.length,fun i x t l Z=>?_⟩
   have r:Ty T x s t:=h1.get l Z
   have mx:=mgQ l
   rw [<- r.1]
   exact z9q T j n x s (by have:=Ex.lt_args mx;omega) (q1o A.2.1 mx) (fa.sub fun m N=>z8w mx N) (r.1▸r.2)
  by_cases h1:e.kind=1
  ·rw [z0q T e s h1] at h ⊢
   simp only [sI] at h ⊢
   split at h
   ·rename_i hb;rw [if_pos hb];exact .num h1 (z1d hb) (mA hb)
   ·exact absurd rfl h
  by_cases r:e.kind=2
  ·rw [oP T e s r] at h ⊢
   simp only [mW] at h ⊢
   split at h
   ·rename_i hb
    rw [if_pos hb]
    cases B:zK s e.name with
    | none=>rw [B] at h;exact absurd rfl h
    | some x=>exact .var r (z1d hb) (mA hb) B
   ·exact absurd rfl h
  by_cases I:e.kind=3
  ·rw [oN T e s I] at h ⊢
   simp only [uQ] at h ⊢
   split at h
   ·rename_i hb
    rw [if_pos hb]
    cases B:zK T.inputs e.name with
    | none=>rw [B] at h;exact absurd rfl h
    | some x=>exact .inp I (z1d hb) (mA hb) B
   ·exact absurd rfl h
  by_cases K:e.kind=4
  ·rw [oM T e s K] at h ⊢
   unfold uM at h ⊢
   cases N:zK T.cons e.name with
   | none=>rw [N] at h;exact absurd rfl h
   | some m=>
    simp only [N] at h ⊢
    by_cases hb:qP e false true (-1) 0=true
    ·rw [if_pos hb] at h ⊢
     by_cases f:(vT T e.args s m.con.fields).1=true
     ·simp only [f,if_true]
      obtain ⟨C,a2⟩:=k _ f
      exact .con K (mA hb) N C a2
     ·simp [f] at h
    ·rw [if_neg hb] at h;exact absurd rfl h
  by_cases L:e.kind=5
  ·rw [dK T e s L] at h ⊢
   unfold aP at h ⊢
   cases N:zK T.funs e.name with
   | none=>rw [N] at h;exact absurd rfl h
   | some m=>
    simp only [N] at h ⊢
    by_cases hb:qP e false true (-1) 0=true
    ·rw [if_pos hb] at h ⊢
     by_cases f:(vT T e.args s (m.params.map Param.type)).1=true
     ·simp only [f,if_true]
      obtain ⟨C,a2⟩:=k _ f
      rw [List.length_map] at C
      exact .call L (mA hb) N C fun i x p l X=>a2 i x p.type l (by rw [List.getElem?_map,X];rfl)
     ·simp [f] at h
    ·rw [if_neg hb] at h;exact absurd rfl h
  by_cases F:e.kind=6
  ·rw [oO T e s F] at h ⊢
   unfold z3q at h ⊢
   by_cases hb:qP e false true 2 0=true
   ·rw [if_pos hb] at h ⊢
    obtain ⟨x,y,b⟩:=q5w (pD (n:=2) hb)
    have l:e.args[0]? = some x:=by rw [b];rfl
    have hy:e.args[1]? = some y:=by rw [b];rfl
    by_cases q:(zI T x s).1=sNo
    ·rw [y2w l q] at h;exact absurd rfl h
    ·simp only [if_pos F,b,bindPs,List.append_nil] at G u
     have V:=qH G
     have D:=qH V.1
     have w:=qH D.2.1
     have mx:x∈e.args:=by rw [b];simp
     have my:y∈e.args:=by rw [b];simp
     have H:=v x mx s w.1 (u.sub fun m N=>by simp [N]) q
     rw [z6o l hy q] at h ⊢
     simp only [H] at h ⊢
     refine .let_ F (mA hb) b (z9q T j n x s (by have:=Ex.lt_args mx;omega) w.1 (u.sub fun m N=>by simp [N]) q)
      (z9q T j n y _ (by have:=Ex.lt_args my;omega) w.2.1 (fun m N=>?_) h)
     rw [xD,if_neg]
     ·exact u m (by simp [N])
     ·rintro rfl
      exact D.2.2 e.name (by simp) (by simp [N])
   ·rw [if_neg hb] at h;exact absurd rfl h
  by_cases M:e.kind=7
  ·rw [sM T e s M] at h ⊢
   unfold xK at h ⊢
   by_cases hb:qP e false false 1 (-1)=true
   ·rw [if_pos hb] at h ⊢
    obtain ⟨x,b⟩:=x2z (pD (n:=1) hb)
    have l:e.args[0]? = some x:=by rw [b];rfl
    rw [jV l] at h ⊢
    by_cases q:(zI T x s).1=sNo
    ·simp only [q,j] at h;exact absurd rfl h
    ·have na:=A.2.1
     have fx:=fa
     rw [b] at fx na
     simp only [bindPs,List.append_nil] at fx na
     have mx:x∈e.args:=by rw [b];simp
     have H:=v x mx s na fx q
     rw [H] at h ⊢
     cases S:zK T.datas (zI T x s).1 with
     | none=>rw [S] at h;exact absurd rfl h
     | some d=>
      simp only [S] at h ⊢
      by_cases o:d.cons.length=e.arms.length
      ·rw [if_pos o] at h ⊢
       obtain ⟨_,W,_⟩:=z5f h U o z.2.1 fb rfl
       refine .case_ M b (z9q T j n x s (by have:=Ex.lt_args mx;omega) na fx q) S o.symm (fun i a c f R=>?_) (fun i a c f R=>?_)
       ·have g:=W.get f R;exact ⟨g.1,g.2.1⟩
       ·have g:ArmOk T s _ a c:=W.get f R
        have ma:=mgQ f
        have Q:=q1n z.2.1 ma
        have E:=qH Q
        rw [<- g.2.2.1]
        refine z9q T j n a.body _ (by have:=Ex.lt_arms ma;omega) E.2.1 (fun m N=>?_) (g.2.2.1▸g.2.2.2)
        rw [nY fun B=>E.2.2 m B N]
        exact fb m (z8v ma (List.mem_append_right _ N))
      ·rw [if_neg o] at h;exact absurd rfl h
   ·rw [if_neg hb] at h;exact absurd rfl h
  by_cases P:e.kind=8
  ·rw [uE T e s P] at h ⊢
   unfold nX at h ⊢
   by_cases hb:qP e false true 2 0=true
   ·rw [if_pos hb] at h ⊢
    by_cases f:(vT T e.args s [yU,yU]).1=true
    ·simp only [f,if_true]
     obtain ⟨C,a2⟩:=k _ f
     obtain ⟨x,y,b⟩:=q5w C
     rw [b] at a2
     exact .op P (mA hb) b (a2 0 x yU rfl rfl) (a2 1 y yU rfl rfl)
    ·simp [f] at h
   ·rw [if_neg hb] at h;exact absurd rfl h
  rw [dL T e s h1 r I K L F M P] at h
  exact absurd rfl h
section
variable {f:Bs} {e:Ex} {pm:Pars}
theorem x9f (h:e.kind=1):qY f e=[]:=by cases e;simp only [Ex.kind] at h;subst h;simp [qY]
theorem z7h (h:e.kind=2):qY f e=[vrN f e.name]:=by cases e;simp only [Ex.kind] at h;subst h;simp [qY,Ex.name]
theorem z7g (h:e.kind=3):qY f e=[inN e.name]:=by cases e;simp only [Ex.kind] at h;subst h;simp [qY,Ex.name]
theorem x9e (h:e.kind=4):qY f e=[]:=by cases e;simp only [Ex.kind] at h;subst h;simp [qY]
theorem z3m (h:e.kind=5):qY f e=[e.name]:=by cases e;simp only [Ex.kind] at h;subst h;simp [qY,Ex.name]
theorem oL (h:e.kind=6):qY f e=srcS f e.args:=by cases e;simp only [Ex.kind] at h;subst h;simp [qY,Ex.args]
theorem tZ (h:e.kind=7):qY f e=srcH f e.args++srcPa f e.arms:=by cases e;simp only [Ex.kind] at h;subst h;simp [qY,Ex.args,Ex.arms]
theorem q5d (h:e.kind=8):qY f e=srcPs f e.args:=by cases e;simp only [Ex.kind] at h;subst h;simp [qY,Ex.args]
theorem y7x (a:Arm) (l:List Arm):srcPa f (a::l)=qY f a.body++srcPa f l:=by cases a;simp [srcPa,Arm.body]
theorem mH (e:Ex):jK pm f e=wX pm f e++flowPs pm f e.args++flowPa pm f e.arms:=by cases e;simp [jK,Ex.args,Ex.arms]
theorem y0g (a:Arm) (l:List Arm):flowPa pm f (a::l)=jK pm f a.body++flowPa pm f l:=by cases a;simp [flowPa,Arm.body]
theorem mR (e:Ex):nV pm e↔(e.kind=5->e.args.length<=((zK pm e.name).getD []).length)/\(e.kind=6->e.args≠[])/\flowOks pm e.args/\flowOka pm e.arms:=by cases e;simp [nV,Ex.args,Ex.arms,Ex.kind,Ex.name]
theorem q3q (a:Arm) (l:List Arm):flowOka pm (a::l)↔nV pm a.body/\flowOka pm l:=by cases a;simp [flowOka,Arm.body]
theorem q1i {x:Bs}:∀{l:List Arm},x∈srcPa f l↔∃a∈l,x∈qY f a.body
 | []=>by simp [srcPa]
 | a::l=>by rw [y7x,List.mem_append,q1i];simp
theorem mem_flowPs {x:Flow}:∀{l:List Ex},x∈flowPs pm f l↔∃e∈l,x∈jK pm f e
 | []=>by simp [flowPs]
 | a::l=>by simp only [flowPs,List.mem_append,mem_flowPs (l:=l)];simp
theorem mem_flowPa {x:Flow}:∀{l:List Arm},x∈flowPa pm f l↔∃a∈l,x∈jK pm f a.body
 | []=>by simp [flowPa]
 | a::l=>by rw [y0g,List.mem_append,mem_flowPa];simp
theorem oZ:∀{l:List Ex},flowOks pm l↔∀e∈l,nV pm e
 | []=>by simp [flowOks]
 | a::l=>by simp only [flowOks,oZ (l:=l)];simp
theorem z1l:∀{l:List Arm},flowOka pm l↔∀a∈l,nV pm a.body
 | []=>by simp [flowOka]
 | a::l=>by rw [q3q,z1l];simp
theorem mem_toP {node a b:Bs}:(a,b)∈toP f node e↔a∈qY f e/\b=node:=by
 unfold toP wW
 rw [List.mem_map]
 constructor
 ·rintro ⟨x,c,h⟩;cases h;exact ⟨(y6h _ _).1 c,rfl⟩
 ·rintro ⟨h,rfl⟩;exact ⟨a,(y6h _ _).2 h,rfl⟩
theorem mem_conF {s:Bs} {x:Flow}:∀{l:List Ex} {k:Nat},x∈z5u f s k l↔∃i e,l[i]? = some e/\x∈toP f (vZ s (k+i)) e
 | [],k=>by simp [z5u]
 | a::l,k=>by
  simp only [z5u,List.mem_append,mem_conF (l:=l)]
  constructor
  ·rintro (h | ⟨i,e,h1,b⟩)
   ·exact ⟨0,a,rfl,h⟩
   ·exact ⟨i+1,e,h1,by rw [show k+(i+1)=k+1+i by omega];exact b⟩
  ·rintro ⟨i,e,h1,b⟩
   cases i with
   | zero=>simp only [List.getElem?_cons_zero,Option.some.injEq] at h1;subst h1;exact .inl b
   | succ i=>exact .inr ⟨i,e,h1,by rw [show k+1+i=k+(i+1) by omega];exact b⟩
theorem mem_callF {s:Bs} {x:Flow}:∀{ps:List Param} {l:List Ex},x∈cG f s ps l↔∃(i:Nat) (p:Param) (e:Ex),ps[i]? = some p/\l[i]? = some e/\x∈toP f (vrN s p.name) e
 | [],l=>by simp [cG]
 | p::ps,[]=>by simp [cG]
 | p::ps,a::l=>by
  simp only [cG,List.mem_append,mem_callF (ps:=ps) (l:=l)]
  constructor
  ·rintro (h | ⟨i,q,e,h1,b,c⟩)
   ·exact ⟨0,p,a,rfl,rfl,h⟩
   ·exact ⟨i+1,q,e,h1,b,c⟩
  ·rintro ⟨i,q,e,h1,b,c⟩
   cases i with
   | zero=>simp only [List.getElem?_cons_zero,Option.some.injEq] at h1 b;subst h1;subst b;exact .inl c
   | succ i=>exact .inr ⟨i,q,e,h1,b,c⟩
theorem q8d {s:Bs} {x:Flow}:∀{l:List Bs} {k:Nat},x∈z3t f s k l↔∃(i:Nat) (v:Bs),l[i]? = some v/\x=(vZ s (k+i),vrN f v)
 | [],k=>by simp [z3t]
 | a::l,k=>by
  simp only [z3t,List.mem_cons,q8d (l:=l)]
  constructor
  ·rintro (h | ⟨i,v,h1,b⟩)
   ·exact ⟨0,a,rfl,h⟩
   ·exact ⟨i+1,v,h1,by rw [b,show k+(i+1)=k+1+i by omega]⟩
  ·rintro ⟨i,v,h1,b⟩
   cases i with
   | zero=>simp only [List.getElem?_cons_zero,Option.some.injEq] at h1;subst h1;exact .inl b
   | succ i=>exact .inr ⟨i,v,h1,by rw [b,show k+1+i=k+(i+1) by omega]⟩
theorem mem_armF {l:List Arm} {x:Flow}:x∈uI f l↔∃a∈l,∃(i:Nat) (v:Bs),a.vars[i]? = some v/\x=(vZ a.con i,vrN f v):=by
 simp only [uI,List.mem_flatMap,q8d,Nat.zero_add]
end
structure Ends (T:Table) (pm:Pars) (f:Bs) (V:List Bs) (NN:Bs->Prop):Prop where
 var:∀v∈V,NN (vrN f v)
 inp:∀i t,zK T.inputs i=some t->NN (inN i)
 fn:∀g h,zK T.funs g=some h->NN g/\(∀p∈h.params,NN (vrN g p.name))/\zK pm g=some h.params
 con:∀k m,zK T.cons k=some m->∀j,j < m.con.fields.length->NN (vZ k j)
 arm:∀t d,zK T.datas t=some d->∀c∈d.cons,∀j,j < c.fields.length->NN (vZ c.name j)
def InV (V:List Bs) (s:Scope):Prop:=∀n x,zK s n=some x->n∈V
theorem InV.put {V:List Bs} {s:Scope} (h:InV V s) {k x:Bs} (b:k∈V):InV V (jP s k x):=fun n y a=>by
 rw [xD] at a
 split at a
 ·rename_i e;exact e▸b
 ·exact h n y a
theorem InV.putAll {V:List Bs}:∀{vs fs:List Bs} {s:Scope},InV V s->(∀v∈vs,v∈V)->InV V (putAll s vs fs)
 | [],fs,_,h,_=>by rw [vJ];exact h
 | _::_,[],_,h,_=>h
 | v::vs,f::fs,_,h,a=>by rw [dD];exact InV.putAll (h.put (a v msQ)) fun x b=>a x (mcQ _ b)
section
variable {T:Table} {pm:Pars} {f:Bs} {V:List Bs} {NN:Bs->Prop}
theorem xX {e x:Ex} (hb:∀b∈zN e,b∈V) (a:x∈e.args):∀b∈zN x,b∈V:=fun b h=>hb b (by
 rw [wM];exact List.mem_append_left _ (List.mem_append_right _ (z8w a h)))
theorem y2m {e:Ex} {a:Arm} (hb:∀b∈zN e,b∈V) (c:a∈e.arms):∀b∈a.vars++zN a.body,b∈V:=fun b h=>hb b (by
 rw [wM];exact List.mem_append_right _ (z8v c h))
theorem y2n {e:Ex} (hb:∀b∈zN e,b∈V) (h:e.kind=6):e.name∈V:=hb _ (by rw [wM,if_pos h];simp)
theorem x9g (p:Ends T pm f V NN) {s:Scope} {e:Ex} {t:Bs} (h:Tyd T s e t):InV V s->(∀b∈zN e,b∈V)->∀x∈qY f e,NN x:=by
 induction h with
 | num j=>intro _ _ x g;rw [x9f j] at g;cases g
 | var j _ _ o=>intro O _ x g;rw [z7h j,List.mem_singleton] at g;subst g;exact p.var _ (O _ _ o)
 | inp j _ _ o=>intro _ _ x g;rw [z7g j,List.mem_singleton] at g;subst g;exact p.inp _ _ o
 | con j=>intro _ _ x g;rw [x9e j] at g;cases g
 | call j _ A=>intro _ _ x g;rw [z3m j,List.mem_singleton] at g;subst g;exact (p.fn _ _ A).1
 | let_ j _ k _ _ _ C=>
  intro O hb x g
  rw [oL j,k] at g
  exact C (O.put (y2n hb j)) (xX hb (by rw [k];simp)) x g
 | @case_ s e y dt u d j g _ E B D _ m n=>
  intro O hb x N
  rw [tZ j,g,List.mem_append,q1i] at N
  rcases N with N | ⟨a,w,N⟩
  ·exact m O (xX hb (by rw [g];simp)) x N
  ·obtain ⟨i,z⟩:=List.getElem?_of_mem w
   obtain ⟨c,r⟩:=zZ (l:=d.cons) (i:=i) (by have:=(List.getElem?_eq_some_iff.1 z).1;omega)
   have hb':=y2m hb w
   exact n i a c z r (O.putAll fun v o=>hb' v (List.mem_append_left _ o)) (fun b q=>hb' b (List.mem_append_right _ q)) x N
 | op j _ k _ _ m n=>
  intro O hb x g
  rw [q5d j,k] at g
  simp only [srcPs,List.append_nil,List.mem_append] at g
  rcases g with g | g
  ·exact m O (xX hb (by rw [k];simp)) x g
  ·exact n O (xX hb (by rw [k];simp)) x g
theorem y2z (d:Ends T pm f V NN) {s:Scope} {e:Ex} {t node:Bs} (h:Tyd T s e t) (O:InV V s) (hb:∀b∈zN e,b∈V) (g:NN node):∀a b,(a,b)∈toP f node e->NN a/\NN b:=fun a b c=>by
 obtain ⟨h1,rfl⟩:=mem_toP.1 c
 exact ⟨x9g d h O hb a h1,g⟩
theorem j9e (G:Ends T pm f V NN) {s:Scope} {e:Ex} {t:Bs} (h:Tyd T s e t):InV V s->(∀b∈zN e,b∈V)->∀a b,(a,b)∈jK pm f e->NN a/\NN b:=by
 induction h with
 | num r I hb=>intro _ _ a b k;rw [mH,I,hb] at k;simp [wX,r,flowPs,flowPa] at k
 | var r I hb=>intro _ _ a b k;rw [mH,I,hb] at k;simp [wX,r,flowPs,flowPa] at k
 | inp r I hb=>intro _ _ a b k;rw [mH,I,hb] at k;simp [wX,r,flowPs,flowPa] at k
 | @con s e m r w N hl F L=>
  intro O hb a b k
  rw [mH,w,List.mem_append,List.mem_append] at k
  rcases k with (k | k) | k
  ·simp only [wX,r,if_true] at k
   obtain ⟨i,x,o,B⟩:=mem_conF.1 k
   obtain ⟨u,H⟩:=zZ (l:=m.con.fields) (i:=i) (by have:=(List.getElem?_eq_some_iff.1 o).1;omega)
   rw [Nat.zero_add] at B
   exact y2z G (F i x u o H) O (xX hb (mgQ o)) (G.con _ _ N i (List.getElem?_eq_some_iff.1 H).1) a b B
  ·obtain ⟨x,o,B⟩:=mem_flowPs.1 k
   obtain ⟨i,C⟩:=List.getElem?_of_mem o
   obtain ⟨u,H⟩:=zZ (l:=m.con.fields) (i:=i) (by have:=(List.getElem?_eq_some_iff.1 C).1;omega)
   exact L i x u C H O (xX hb o) a b B
  ·simp [flowPa] at k
 | @call s e g r w N hl F L=>
  intro O hb a b k
  obtain ⟨f1,R,S⟩:=G.fn _ _ N
  rw [mH,w,List.mem_append,List.mem_append] at k
  rcases k with (k | k) | k
  ·simp only [wX,r,S] at k
   obtain ⟨i,p,x,P,o,B⟩:=mem_callF.1 k
   exact y2z G (F i x p o P) O (xX hb (mgQ o)) (R p (mgQ P)) a b B
  ·obtain ⟨x,o,B⟩:=mem_flowPs.1 k
   obtain ⟨i,C⟩:=List.getElem?_of_mem o
   obtain ⟨u,H⟩:=zZ (l:=g.params) (i:=i) (by have:=(List.getElem?_eq_some_iff.1 C).1;omega)
   exact L i x u C H O (xX hb o) a b B
  ·simp [flowPa] at k
 | @let_ s e x y t u r w n o hy D E=>
  intro O hb a b k
  have M:=y2n hb r
  rw [mH,w,List.mem_append,List.mem_append] at k
  rcases k with (k | k) | k
  ·simp only [wX,r,n,letF] at k
   exact y2z G o O (xX hb (by rw [n];simp)) (G.var _ M) a b k
  ·rw [n] at k
   simp only [flowPs,List.append_nil,List.mem_append] at k
   rcases k with k | k
   ·exact D O (xX hb (by rw [n];simp)) a b k
   ·exact E (O.put M) (xX hb (by rw [n];simp)) a b k
  ·simp [flowPa] at k
 | @case_ s e x dt u d r o F W X U Y D E=>
  intro O hb a b k
  rw [mH,o,List.mem_append,List.mem_append] at k
  have arm:∀z∈e.arms,∃i c,e.arms[i]? = some z/\d.cons[i]? = some c:=fun z w=>by
   obtain ⟨i,C⟩:=List.getElem?_of_mem w
   obtain ⟨c,A⟩:=zZ (l:=d.cons) (i:=i) (by have:=(List.getElem?_eq_some_iff.1 C).1;omega)
   exact ⟨i,c,C,A⟩
  rcases k with (k | k) | k
  ·simp only [wX,r] at k
   obtain ⟨z,w,j,v,K,B⟩:=mem_armF.1 k
   obtain ⟨i,c,C,A⟩:=arm z w
   obtain ⟨Q,c2⟩:=U i z c C A
   cases B
   have Z:=(List.getElem?_eq_some_iff.1 K).1
   refine ⟨?_,G.var _ (y2m hb w _ (List.mem_append_left _ (mgQ K)))⟩
   rw [Q];exact G.arm _ _ W c (mgQ A) j (by omega)
  ·simp only [flowPs,List.append_nil] at k
   exact D O (xX hb (by rw [o];simp)) a b k
  ·obtain ⟨z,w,B⟩:=mem_flowPa.1 k
   obtain ⟨i,c,C,A⟩:=arm z w
   have hb':=y2m hb w
   exact E i z c C A (O.putAll fun v K=>hb' v (List.mem_append_left _ K)) (fun q hq=>hb' q (List.mem_append_right _ hq)) a b B
 | @op s e x y r w n o hy D E=>
  intro O hb a b k
  rw [mH,w,n] at k
  simp only [wX,r,flowPs,flowPa,List.append_nil,List.mem_append] at k
  simp only [show ¬(8:Int)=4 by decide,show ¬(8:Int)=5 by decide,show ¬(8:Int)=6 by decide,show ¬(8:Int)=7 by decide,if_false,List.not_mem_nil,false_or] at k
  rcases k with k | k
  ·exact D O (xX hb (by rw [n];simp)) a b k
  ·exact E O (xX hb (by rw [n];simp)) a b k
theorem flow_ok (y:∀g h,zK T.funs g=some h->zK pm g=some h.params) {s:Scope} {e:Ex} {t:Bs} (h:Tyd T s e t):nV pm e:=by
 induction h with
 | num a o hb=>rw [mR,o,hb];simp [a,flowOks,flowOka]
 | var a o hb=>rw [mR,o,hb];simp [a,flowOks,flowOka]
 | inp a o hb=>rw [mR,o,hb];simp [a,flowOks,flowOka]
 | @con s e m a j N hl p w=>
  rw [mR,j,oZ]
  refine ⟨fun h=>(by rw [a] at h;cases h),fun h=>(by rw [a] at h;cases h),fun x q=>?_,trivial⟩
  obtain ⟨i,k⟩:=List.getElem?_of_mem q
  obtain ⟨u,v⟩:=zZ (l:=m.con.fields) (i:=i) (by have:=(List.getElem?_eq_some_iff.1 k).1;omega)
  exact w i x u k v
 | @call s e g a j N hl p w=>
  rw [mR,j,oZ]
  refine ⟨fun _=>(by rw [y _ _ N];simp [hl]),fun h=>(by rw [a] at h;cases h),fun x q=>?_,trivial⟩
  obtain ⟨i,k⟩:=List.getElem?_of_mem q
  obtain ⟨u,v⟩:=zZ (l:=g.params) (i:=i) (by have:=(List.getElem?_eq_some_iff.1 k).1;omega)
  exact w i x u k v
 | let_ a j n _ _ b f=>
  rw [mR,j,n]
  exact ⟨fun h=>(by rw [a] at h;cases h),fun _=>(by simp),⟨b,f,trivial⟩,trivial⟩
 | @case_ s e x dt u d a q p D A C B b f=>
  rw [mR,q,z1l]
  refine ⟨fun h=>(by rw [a] at h;cases h),fun h=>(by rw [a] at h;cases h),⟨b,trivial⟩,fun z j=>?_⟩
  obtain ⟨i,k⟩:=List.getElem?_of_mem j
  obtain ⟨c,r⟩:=zZ (l:=d.cons) (i:=i) (by have:=(List.getElem?_eq_some_iff.1 k).1;omega)
  exact f i z c k r
 | op a j n _ _ b f=>
  rw [mR,j,n]
  exact ⟨fun h=>(by rw [a] at h;cases h),fun h=>(by rw [a] at h;cases h),⟨b,f,trivial⟩,trivial⟩
end
mutual
def wT:Ex->Prop
 | .mk k _ s args arms=>(2<=k->k<=6->s.size<=1000)/\args.length<=1000/\tidyEs args/\tidyEa arms
def tidyEs:List Ex->Prop
 | []=>True
 | x::l=>wT x/\tidyEs l
def tidyEa:List Arm->Prop
 | []=>True
 | .mk c vs b::l=>(c.size<=1000/\vs.length<=1000/\(∀v∈vs,v.size<=1000)/\wT b)/\tidyEa l
end
theorem y8d:∀{l:List Ex},tidyEs l↔∀x∈l,wT x
 | []=>by simp [tidyEs]
 | x::l=>by simp only [tidyEs,y8d (l:=l)];simp
theorem y8c:∀{l:List Arm},tidyEa l↔∀a∈l,a.con.size<=1000/\a.vars.length<=1000/\(∀v∈a.vars,v.size<=1000)/\wT a.body
 | []=>by simp [tidyEa]
 | .mk c vs b::l=>by simp only [tidyEa,y8c (l:=l)];simp [Arm.con,Arm.vars,Arm.body]
theorem kY (e:Ex):wT e↔(2<=e.kind->e.kind<=6->e.name.size<=1000)/\e.args.length<=1000/\(∀x∈e.args,wT x)/\∀a∈e.arms,a.con.size<=1000/\a.vars.length<=1000/\(∀v∈a.vars,v.size<=1000)/\wT a.body:=by
 cases e;simp only [wT,y8d,y8c,Ex.kind,Ex.name,Ex.args,Ex.arms]
theorem x2d {f:Bs} {e:Ex} (a:¬e.kind=2) (b:¬e.kind=3) (c:¬e.kind=5) (d:¬e.kind=6) (h:¬e.kind=8) (g:¬e.kind=7):qY f e=[]:=by
 cases e;simp only [Ex.kind] at *;simp [qY,a,b,c,d,g,h]
theorem q9y {f:Bs} {l:List Ex} {i:Nat} {x:Ex} (h:l[i]? = some x):srcPs f (l.drop i)=qY f x++srcPs f (l.drop (i+1)):=by rw [zA h];rfl
theorem x2e {f:Bs} {l:List Ex} {i:Nat} (h:¬i < l.length):srcPs f (l.drop i)=[]:=by rw [zB h];rfl
theorem wS {f:Bs} {l:List Arm} {i:Nat} {x:Arm} (h:l[i]? = some x):srcPa f (l.drop i)=qY f x.body++srcPa f (l.drop (i+1)):=by rw [zA h,y7x]
theorem uA {f:Bs} {l:List Arm} {i:Nat} (h:¬i < l.length):srcPa f (l.drop i)=[]:=by rw [zB h];rfl
theorem y2y {f:Bs} {l:List Ex} {x:Ex} (h:l[1]? = some x):srcS f l=qY f x:=by
 match l,h with
 | _::y::_,h=>simp only [List.getElem?_cons_succ,List.getElem?_cons_zero,Option.some.injEq] at h;subst h;rfl
theorem q9z {f:Bs} {l:List Ex} (h:l.length < 2):srcS f l=[]:=by
 match l,h with
 | [],_=>rfl
 | [_],_=>rfl
theorem j7k {f:Bs} {l:List Ex} {x:Ex} (h:l[0]? = some x):srcH f l=qY f x:=by
 match l,h with
 | y::_,h=>simp only [List.getElem?_cons_zero,Option.some.injEq] at h;subst h;rfl
theorem x9d {f:Bs} {l:List Ex} (h:¬0 < l.length):srcH f l=[]:=by
 match l,h with
 | [],_=>rfl
 | _::_,h=>simp at h
theorem q5c {β:Type} {Φ:Fz} {y:Value} {items:List Bs} {KY:List Bs->β->List Res} (hy:Takes prog Φ y (fun s=>[.string s]) items KY) {f:Bs} {L q2 M P R S T U:Value} (hf:f.size<=1000) {e:Ex} (ih:∀x:Ex,x.sz < e.sz->∀{K0:List Res} {w:World} {d0:List Value} {pre post:List Bs} {z:β},REx Φ d0 x->wT x->items=pre++qY f x++post->Mem Φ (K0++KY pre z) w->Calls prog 146 #[.agg #[.string f,L,q2,M,P,R,S,T,U],.agg d0.toArray,y] w (fun ee w'=>∃z':β,ee=.returned (.bool true)/\True/\Mem Φ (K0++KY (pre++qY f x) z') w')) {K0:List Res} {w:World} {d0:List Value} {pre post:List Bs} {z:β} (re:REx Φ d0 e) (ht:wT e) (d:items=pre++qY f e++post) (N:Mem Φ (K0++KY pre z) w) :
  Calls prog 146 #[.agg #[.string f,L,q2,M,P,R,S,T,U],.agg d0.toArray,y] w (fun ee w'=>∃z':β,ee=.returned (.bool true)/\True/\Mem Φ (K0++KY (pre++qY f e) z') w'):=by
 have n2:=re
 obtain ⟨p0,I2,c0,q0⟩:=(kY e).1 ht
 obtain ⟨p3,c4,K,m,rfl,O1,h2,h8,A2,Z,T1,G⟩:=REx.fm re
 refine zL func146 ntmps146 fun Q hQ a J=>?_
 refine Bx fun g w N a J=>?_
 refine Bx fun t w N a J=>?_
 refine go fun a J=>?_
 by_cases h0:e.kind=2
 refine go1 fun a J=>?_
 refine xZ ?_
 have h1:=p0 (by omega) (by omega)
 refine yZ J (by intro c h;cases h) (jY J rfl) rfl fun a J=>
   yZ J (by intro c h;cases h) (jE J rfl q7d rfl) rfl fun a J=>
   yZ J (by intro c h;cases h) (vS 1 (vs:=[.string f]) J N.toSees rfl rfl isAgg78 sizeOf78 rfl rfl) rfl fun a J=>
   yZ J (by intro c h;cases h) (jE J rfl z1m rfl) rfl fun a J=>
   yZ J (by intro c h;cases h) (qD 0 J N.toSees rfl rfl rfl isAgg9) rfl fun a J=>?_
 refine y5c J rfl rfl rfl (by intro c h;cases h) (tE J rfl call64 (z9r (by omega) (by omega) N) fun w N a J=>?_)
 refine z1r J rfl rfl rfl (by intro c h;cases h) (vY J rfl rfl (hy.go pre (vrN f e.name) _ z (.blk t (ob [.int .i64 (e.kind),.int .i64 (e.num),.string e.name,.slice p3 e.args.length c4,.slice K e.arms.length m] 110)::.blk g (ob [.string f,L,q2,M,P,R,S,T,U] 131)::K0) w (by rw [d,z7h h0];simp only [List.append_assoc,List.cons_append,List.nil_append,List.append_nil];rfl) N) fun w v a J=>?_)
 obtain ⟨K2,N⟩:=v
 replace N:=N.nf
 refine yZ J (by intro c h;cases h) (kZ J rfl) rfl fun a J=>?_
 refine nC ?_
 refine zD ?_
 replace N:=N.dl [1,0]
 have b:items=(pre++[vrN f e.name])++post:=by
  rw [d,z7h h0]
 rw [d] at b
 rw [aN b];exact ⟨_,rfl,trivial,N⟩
 refine go fun a J=>?_
 by_cases i0:e.kind=3
 refine go1 fun a J=>?_
 refine xZ ?_
 have h1:=p0 (by omega) (by omega)
 refine yZ J (by intro c h;cases h) (jY J rfl) rfl fun a J=>
   yZ J (by intro c h;cases h) (jE J rfl z1m rfl) rfl fun a J=>
   yZ J (by intro c h;cases h) (qD 0 J N.toSees rfl rfl rfl isAgg9) rfl fun a J=>
   yZ J (by intro c h;cases h) (z0u (vs:=[(0,.string e.name)]) (cs:=[.string e.name]) J rfl (by kernel_rfl)) rfl fun a J=>?_
 refine y5c J rfl rfl rfl (by intro c h;cases h) (tE J rfl call40 (y5a (by omega) N) fun w N a J=>?_)
 refine z1r J rfl rfl rfl (by intro c h;cases h) (vY J rfl rfl (hy.go pre (inN e.name) _ z (.blk t (ob [.int .i64 (e.kind),.int .i64 (e.num),.string e.name,.slice p3 e.args.length c4,.slice K e.arms.length m] 110)::.blk g (ob [.string f,L,q2,M,P,R,S,T,U] 131)::K0) w (by rw [d,z7g i0];simp only [List.append_assoc,List.cons_append,List.nil_append,List.append_nil];rfl) N) fun w v a J=>?_)
 obtain ⟨L2,N⟩:=v
 replace N:=N.nf
 refine yZ J (by intro c h;cases h) (kZ J rfl) rfl fun a J=>?_
 refine nC ?_
 refine zD ?_
 replace N:=N.dl [1,0]
 have b:items=(pre++[inN e.name])++post:=by
  rw [d,z7g i0]
 rw [d] at b
 rw [aN b];exact ⟨_,rfl,trivial,N⟩
 refine go fun a J=>?_
 by_cases j0:e.kind=5
 refine go1 fun a J=>?_
 refine xZ ?_
 refine yZ J (by intro c h;cases h) (jY J rfl) rfl fun a J=>
   yZ J (by intro c h;cases h) (jE J rfl z1m rfl) rfl fun a J=>
   yZ J (by intro c h;cases h) (qD 0 J N.toSees rfl rfl rfl isAgg9) rfl fun a J=>?_
 refine z1r J rfl rfl rfl (by intro c h;cases h) (vY J rfl rfl (hy.go pre e.name _ z (.blk t (ob [.int .i64 (e.kind),.int .i64 (e.num),.string e.name,.slice p3 e.args.length c4,.slice K e.arms.length m] 110)::.blk g (ob [.string f,L,q2,M,P,R,S,T,U] 131)::K0) w (by rw [d,z3m j0];simp only [List.append_assoc,List.cons_append,List.nil_append,List.append_nil];rfl) N) fun w v a J=>?_)
 obtain ⟨M2,N⟩:=v
 replace N:=N.nf
 refine yZ J (by intro c h;cases h) (kZ J rfl) rfl fun a J=>?_
 refine nC ?_
 refine zD ?_
 replace N:=N.dl [1,0]
 have b:items=(pre++[e.name])++post:=by
  rw [d,z3m j0]
 rw [d] at b
 rw [aN b];exact ⟨_,rfl,trivial,N⟩
 by_cases V:e.kind=6
 refine Reg [1,2,1,1,1,2,1,2,1,2,1,0,1,1] [0,1] fun w N a J=>?_
 by_cases C0:e.args.length < 2
 refine zD ?_
 replace N:=N.dl [1,0]
 have b:items=pre++post:=by
  rw [d,oL V,q9z C0]
  simp only [List.append_assoc,List.cons_append,List.nil_append,List.append_nil]
 rw [d] at b
 rw [aN b];exact ⟨_,rfl,trivial,N⟩
 refine go fun a J=>?_
 have n0:1 < e.args.length:=by omega
 obtain ⟨G2,rfl,k1,q,B1,R1,M1,H⟩:=h2.el Z n0
 obtain ⟨C2,c46,D2,t2,rfl,P1,w2,x2,U1,Y1,V1,Z1⟩:=REx.fm H
 refine yO call146 (fun J2 w K1 N a J=>?_) (c:=ih _ (Ex.lt_args (mgQ q)) (K0:=_::_::K0) (post:=_) H (c0 _ (mgQ q)) (by rw [d,oL V,y2y q]) N)
 refine zD ?_
 replace N:=N.dl [1,0]
 have b:items=(pre++qY f k1)++post:=by
  rw [d,oL V,y2y q]
 rw [d] at b
 rw [aN b];exact ⟨_,rfl,trivial,N⟩
 by_cases D0:e.kind=8
 refine go fun a J=>?_
 refine jS (fun mm a w=>∃(i:Nat) (pr:List Bs) (zz:β),mm=e.args.length - i/\EnvR 96 [(2,y),(3,.pointer (some ⟨g,0,none⟩)),(54,.slice p3 e.args.length c4),(55,.int .i64 e.args.length),(56,.int .i64 i)] [] a/\Mem Φ (.blk t (ob [.int .i64 (e.kind),.int .i64 (e.num),.string e.name,.slice p3 e.args.length c4,.slice K e.arms.length m] 110)::.blk g (ob [.string f,L,q2,M,P,R,S,T,U] 131)::K0++KY pr zz) w/\(items=pr++(srcPs f (e.args.drop i)++post))) (e.args.length - 0) ⟨0,pre,z,rfl,J.pk,N,by rw [d,q5d D0,List.append_assoc];rfl⟩ ?_
 clear N J
 rintro mm a w ⟨i,pr,zz,A,J,N,u⟩ r2 m0
 by_cases k0:i < e.args.length
 refine go fun a J=>?_
 obtain ⟨H2,rfl,l1,r,C1,S1,N1,I⟩:=h2.el Z k0
 obtain ⟨E2,u2,F2,v2,rfl,Q1,y2,z2,W1,a2,X1,b2⟩:=REx.fm I
 refine Alc fun s2 w N a J=>?_
 refine Sto 0 fun w N a J=>?_
 refine yO call146 (fun m1 w L1 N a J=>?_) (c:=ih _ (Ex.lt_args (mgQ r)) (K0:=_::_::_::K0) (post:=_) I (c0 _ (mgQ r)) (by rw [u,q9y r];simp only [List.append_assoc];rfl) N)
 refine go fun a J=>?_
 replace N:=N.dl [0]
 refine m0 _ _ _ (by subst A;omega) ⟨(i+1),((pr++qY f l1)),(m1),rfl,J.pk,N,?_⟩
 rw [u,q9y r];simp only [List.append_assoc]
 refine zD ?_
 replace N:=N.dl [1,0]
 have b:items=pr++post:=by
  have n:=u
  rw [x2e k0,List.nil_append] at n
  exact n
 rw [d] at b
 rw [aN b];exact ⟨_,rfl,trivial,N⟩
 by_cases W:e.kind=7
 refine Reg [1,2,1,1,1,2,1,2,1,2,1,0,1,1] [0,1] fun w N a J=>?_
 by_cases l0:0 < e.args.length
 refine go fun a J=>?_
 obtain ⟨j1,rfl,r0,j,y0,O0,H0,B⟩:=h2.el Z l0
 obtain ⟨c2,u1,d2,v1,rfl,L0,D1,E1,R0,Z0,S0,a1⟩:=REx.fm B
 refine yO call146 (fun u0 w E0 N a J=>?_) (c:=ih _ (Ex.lt_args (mgQ j)) (K0:=_::_::K0) (post:=_) B (c0 _ (mgQ j)) (by rw [d,tZ W,j7k j];simp only [List.append_assoc];rfl) N)
 refine go fun a J=>?_
 refine jS (fun mm a w=>∃(i:Nat) (pr:List Bs) (zz:β),mm=e.arms.length - i/\EnvR 96 [(2,y),(3,.pointer (some ⟨g,0,none⟩)),(83,.slice K e.arms.length m),(84,.int .i64 e.arms.length),(85,.int .i64 i)] [] a/\Mem Φ (.blk t (ob [.int .i64 (e.kind),.int .i64 (e.num),.string e.name,.slice (some j1) e.args.length c4,.slice K e.arms.length m] 110)::.blk g (ob [.string f,L,q2,M,P,R,S,T,U] 131)::K0++KY pr zz) w/\(items=pr++(srcPa f (e.arms.drop i)++post))) (e.arms.length - 0) ⟨0,(pre++qY f r0),u0,rfl,J.pk,N,by rw [d,tZ W,j7k j];simp only [List.append_assoc,List.nil_append];rfl⟩ ?_
 clear N J
 rintro mm a w ⟨i,pr,zz,A,J,N,o⟩ n1 X
 by_cases C:i < e.arms.length
 refine go fun a J=>?_
 obtain ⟨l2,rfl,s0,k,z0,P0,I0,a0⟩:=h8.el G C
 obtain ⟨o2,p1,rfl,f0,D⟩:=RArm.iff.1 a0
 obtain ⟨e2,w1,rfl,T0,b1⟩:=f0.fm
 obtain ⟨f2,x1,g2,y1,rfl,M0,F1,G1,U0,c1,V0,d1⟩:=REx.fm D
 refine Alc fun r1 w N a J=>?_
 refine Sto 0 fun w N a J=>?_
 refine yO call146 (fun w0 w F0 N a J=>?_) (c:=ih _ (Ex.lt_arms (mgQ k)) (K0:=_::_::_::K0) (post:=_) D ((q0 _ (mgQ k)).2.2.2) (by rw [o,wS k];simp only [List.append_assoc];rfl) N)
 refine go fun a J=>?_
 replace N:=N.dl [0]
 refine X _ _ _ (by subst A;omega) ⟨(i+1),((pr++qY f s0.body)),(w0),rfl,J.pk,N,?_⟩
 rw [o,wS k];simp only [List.append_assoc]
 refine zD ?_
 replace N:=N.dl [1,0]
 have b:items=pr++post:=by
  have n:=o
  rw [uA C,List.nil_append] at n
  exact n
 rw [d] at b
 rw [aN b];exact ⟨_,rfl,trivial,N⟩
 refine go fun a J=>?_
 refine jS (fun mm a w=>∃(i:Nat) (pr:List Bs) (zz:β),mm=e.arms.length - i/\EnvR 96 [(2,y),(3,.pointer (some ⟨g,0,none⟩)),(83,.slice K e.arms.length m),(84,.int .i64 e.arms.length),(85,.int .i64 i)] [] a/\Mem Φ (.blk t (ob [.int .i64 (e.kind),.int .i64 (e.num),.string e.name,.slice p3 e.args.length c4,.slice K e.arms.length m] 110)::.blk g (ob [.string f,L,q2,M,P,R,S,T,U] 131)::K0++KY pr zz) w/\(items=pr++(srcPa f (e.arms.drop i)++post))) (e.arms.length - 0) ⟨0,pre,z,rfl,J.pk,N,by rw [d,tZ W,x9d l0];simp only [List.append_assoc,List.nil_append];rfl⟩ ?_
 clear N J
 rintro mm a w ⟨i,pr,zz,A,J,N,p⟩ o1 Y
 by_cases E:i < e.arms.length
 refine go fun a J=>?_
 obtain ⟨m2,rfl,t0,l,A0,Q0,J0,b0⟩:=h8.el G E
 obtain ⟨p2,s1,rfl,g0,F⟩:=RArm.iff.1 b0
 obtain ⟨i2,z1,rfl,W0,e1⟩:=g0.fm
 obtain ⟨j2,A1,k2,c195,rfl,N0,H1,I1,X0,f1,Y0,g1⟩:=REx.fm F
 refine Alc fun t1 w N a J=>?_
 refine Sto 0 fun w N a J=>?_
 refine yO call146 (fun x0 w G0 N a J=>?_) (c:=ih _ (Ex.lt_arms (mgQ l)) (K0:=_::_::_::K0) (post:=_) F ((q0 _ (mgQ l)).2.2.2) (by rw [p,wS l];simp only [List.append_assoc];rfl) N)
 refine go fun a J=>?_
 replace N:=N.dl [0]
 refine Y _ _ _ (by subst A;omega) ⟨(i+1),((pr++qY f t0.body)),(x0),rfl,J.pk,N,?_⟩
 rw [p,wS l];simp only [List.append_assoc]
 refine zD ?_
 replace N:=N.dl [1,0]
 have b:items=pr++post:=by
  have n:=p
  rw [uA E,List.nil_append] at n
  exact n
 rw [d] at b
 rw [aN b];exact ⟨_,rfl,trivial,N⟩
 refine zD ?_
 replace N:=N.dl [1,0]
 have b:items=pre++post:=by
  rw [d,x2d (by assumption) (by assumption) (by assumption) (by assumption) (by assumption) (by assumption),List.append_nil]
 rw [d] at b
 rw [aN b];exact ⟨_,rfl,trivial,N⟩
theorem j4h {β:Type} {Φ:Fz} {y:Value} {items:List Bs} {KY:List Bs->β->List Res} (p:Takes prog Φ y (fun s=>[.string s]) items KY) {f:Bs} {c q2 d g i j k l:Value} (o:f.size<=1000) {e:Ex} {K0:List Res} {w:World} {d0:List Value} {pre post:List Bs} {z:β} (re:REx Φ d0 e) (b:wT e) (a:items=pre++qY f e++post) (N:Mem Φ (K0++KY pre z) w) :
  Calls prog 146 #[.agg #[.string f,c,q2,d,g,i,j,k,l],.agg d0.toArray,y] w (fun ee w'=>∃z':β,ee=.returned (.bool true)/\True/\Mem Φ (K0++KY (pre++qY f e) z') w'):=by
 have:∀(n:Nat) (e:Ex),e.sz < n->∀{K0:List Res} {w:World} {d0:List Value} {pre post:List Bs} {z:β},REx Φ d0 e->wT e->items=pre++qY f e++post->Mem Φ (K0++KY pre z) w ->
   Calls prog 146 #[.agg #[.string f,c,q2,d,g,i,j,k,l],.agg d0.toArray,y] w (fun ee w'=>∃z':β,ee=.returned (.bool true)/\True/\Mem Φ (K0++KY (pre++qY f e) z') w'):=by
  intro n
  induction n with
  | zero=>intro e h;omega
  | succ n q=>intro e h K0 w d0 pre post z re b a N;exact q5c p o (fun x u K0 w d0 pre post z r t h1 m=>q x (by omega) r t h1 m) re b a N
 exact this _ e (Nat.lt_succ_self _) re b a N
end Go.Sw
