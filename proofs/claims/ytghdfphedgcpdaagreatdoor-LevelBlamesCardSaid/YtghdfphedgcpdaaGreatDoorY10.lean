import Derived.Deep.DeepAppendWide
import Derived.Test.YtghdfphedgcpdaaGreatDoorY09
set_option linter.unusedVariables false
set_option linter.unusedSimpArgs false
namespace Go.Sw
open Go.Proofs Go.Proofs.Tryz
set_option maxRecDepth 20000
set_option maxHeartbeats 4000000
theorem hasN {l:List Bs} {s:Bs}:has l s=true↔s∈l:=by simp [has]
theorem nubL_in {l:List Bs} {x:Bs} (h:has (qJ l) x=true):qJ (l++[x])=qJ l:=by rw [cP,if_pos (hasN.1 h)]
theorem q8i {l:List Bs} {x:Bs} (h:has (qJ l) x=false):qJ (l++[x])=qJ l++[x]:=by
 rw [cP,if_neg (fun a=>by rw [hasN.2 a] at h;cases h)]
theorem x7k {α:Type} [DecidableEq α] (l m:List α):∃r,qJ (l++m)=qJ l++r:=by
 refine wR (p:=fun m=>∃r,qJ (l++m)=qJ l++r) ⟨[],by simp⟩ (fun m x a=>?_) m
 obtain ⟨r,hr⟩:=a
 rw [<- List.append_assoc,cP]
 split
 exact ⟨r,hr⟩
 exact ⟨r++[x],by rw [hr,List.append_assoc]⟩
theorem x1b {l pre post:List Bs} {x:Bs} (a:l=pre++x::post) (h:has (qJ pre) x=false):∃po,qJ l=qJ pre++x::po:=by
 obtain ⟨r,hr⟩:=x7k (pre++[x]) post
 refine ⟨r,?_⟩
 rw [a,show pre++x::post=(pre++[x])++post by simp,hr,q8i h];simp
theorem j9j {β:Type} {Φ:Fz} {w:World} {l:List Bs} {y:Value} {KY:List Bs->β->List Res} (n:Takes prog Φ y (fun s=>[.string s]) (qJ l) KY) {pre post:List Bs} {x:Bs} {z:β} {i g mb:Nat} {K0:List Res} (k:l=pre++x::post) (N:Mem Φ (.blk i (ob [.map (some mb)] 198)::.mp mb (mZ (qJ pre))::.blk g (ob [y] 141)::(K0++KY (qJ pre) z)) w) :
  Calls prog 147 #[.string x,.pointer (some ⟨i,0,none⟩),.pointer (some ⟨g,0,none⟩)] w (fun ee w'=>ee=.returned (.bool true)/\∃z':β,Mem Φ (.blk i (ob [.map (some mb)] 198)::.mp mb (mZ (qJ (pre++[x])))::.blk g (ob [y] 141)::(K0++KY (qJ (pre++[x])) z')) w'):=by
 refine zL func147 ntmps147 fun Q hQ a J=>?_
 refine go fun a J=>?_
 rcases d:yM ((mZ (qJ pre))) x with _ | q
 have b:=congrArg (zJ false (.bool false)) d
 refine Qq (fun a J=>?_) (o:=by exact fun J O=>Ok.cast (zW 1 runUnderlying198 runUnderlying9 zeroValue4 J O rfl rfl rfl) (show zJ false (.bool false) (yM ((mZ (qJ pre))) x)=.bool false from b))
 have e:=y7q d
 obtain ⟨p,f⟩:=x1b k e
 refine z4d 1 runUnderlying198 runUnderlying9 fun w N a J=>?_
 refine go1 fun a J=>?_
 refine xZ ?_
 refine yZ J (by intro c h;cases h) (qD 2 J N.toSees rfl rfl rfl isAgg141) rfl fun a J=>
   yZ J (by intro c h;cases h) (jY J rfl) rfl fun a J=>?_
 refine z1r J rfl rfl rfl (by intro c h;cases h) (vY J rfl rfl (n.go (qJ pre) x _ z (.blk i (ob [.map (some mb)] 198)::.mp mb (cF (mZ (qJ pre)) x (.bool true))::.blk g (ob [y] 141)::K0) w (f) N) fun w j a J=>?_)
 obtain ⟨r,N⟩:=j
 replace N:=N.nf
 refine yZ J (by intro c h;cases h) (kZ J rfl) rfl fun a J=>?_
 refine nC ?_
 refine zD ?_
 rw [q8i e,z5e];exact ⟨rfl,_,N⟩
 obtain ⟨rfl,m⟩:=y7r d
 have b:=congrArg (zJ false (.bool false)) d
 refine Qq (fun a J=>?_) (o:=by exact fun J O=>Ok.cast (zW 1 runUnderlying198 runUnderlying9 zeroValue4 J O rfl rfl rfl) (show zJ false (.bool false) (yM ((mZ (qJ pre))) x)=.bool true from b))
 refine zD ?_
 rw [nubL_in m];exact ⟨rfl,_,N⟩
theorem Mem.mid3 {Φ:Fz} {w:World} {a b c:Res} {K0 K:List Res} (h:Mem Φ (K0++(a::b::c::K)) w):Mem Φ (a::b::c::(K0++K)) w:=Mem.mid (A:=K0) (B:=[a,b,c]) (C:=K) h
theorem Mem.unmid3 {Φ:Fz} {w:World} {a b c:Res} {K0 K:List Res} (h:Mem Φ (a::b::c::(K0++K)) w):Mem Φ (K0++(a::b::c::K)) w:=Mem.mid (A:=[a,b,c]) (B:=K0) (C:=K) h
theorem q7g {β:Type} {Φ:Fz} {w:World} {f:Bs} {t q2 u v A B C D:Value} {d0:List Value} {e:Ex} {y:Value} {KY:List Bs->β->List Res} {z:β} {l m:Nat} (T:f.size<=1000) (re:REx Φ d0 e) (W:wT e) (P:Takes prog Φ y (fun s=>[.string s]) (wW f e) KY) (N:Mem Φ (.blk l (ob [.string f,t,q2,u,v,A,B,C,D] 131)::.blk m (ob d0 110)::KY [] z) w) :
  Calls prog 145 #[y,.pointer (some ⟨l,0,none⟩),.pointer (some ⟨m,0,none⟩)] w (fun ee w'=>∃z':β,ee=.returned (.tuple #[])/\True/\Mem Φ (.blk l (ob [.string f,t,q2,u,v,A,B,C,D] 131)::.blk m (ob d0 110)::KY (wW f e) z') w'):=by
 obtain ⟨G,E,F,j⟩:=P.fn
 subst j
 have k:=re
 obtain ⟨X,c4,Y,n,rfl,K,h2,h8,U,V,L,M⟩:=REx.fm re
 refine zL func145 ntmps145 fun Q hQ a J=>?_
 refine Bx fun d w N a J=>?_
 refine MkM fun g w N a J=>?_
 refine Alc fun h w N a J=>?_
 refine Sto 0 fun w N a J=>?_
 refine go fun a J=>?_
 replace N:=N.ar [] [2,2,2,4,4]
 refine yO call146 (fun a0 w I N a J=>?_) (c:=j4h (KY:=fun b R=>.blk h (ob [.map (some g)] 198)::.mp g (mZ (qJ b))::.blk d (ob [.func G E F] 141)::KY (qJ b) R) (items:=qY f e) (K0:=[.blk l (ob [.string f,t,q2,u,v,A,B,C,D] 131),.blk m (ob [.int .i64 (e.kind),.int .i64 (e.num),.string e.name,.slice X e.args.length c4,.slice Y e.arms.length n] 110)]) (pre:=[]) (post:=[]) (z:=z) (y:=.func (.func 147) #[] #[.pointer (some ⟨h,0,none⟩),.pointer (some ⟨d,0,none⟩)]) ⟨⟨_,_,_,rfl⟩,fun b x_ r R S Z i q=>.inl ⟨147,[],_,rfl,call147,(j9j P i (Mem.mid3 q)).mono fun e_ Z h_=>let ⟨o,H,p⟩:=h_;⟨o,H,Mem.unmid3 p⟩⟩⟩ T k W (by simp) N)
 refine go fun a J=>?_
 replace N:=N.dl [4,3,2]
 refine hQ _ _ _ (q2a J results145 ?_)
 exact ⟨_,rfl,trivial,N⟩
theorem j6b {Φ:Fz} {K:List Res} {w:World} {f:Bs} {j q2 k l m n o p:Value} {d0:List Value} {e:Ex} (re:REx Φ d0 e) (N:Mem Φ K w) :
  Calls prog 103 #[.agg #[.string f,j,q2,k,l,m,n,o,p],.agg d0.toArray] w (fun ee w'=>∃b:Nat×Nat,ee=.returned (.func (.func 145) #[] #[.pointer (some ⟨b.1,0,none⟩),.pointer (some ⟨b.2,0,none⟩)])/\True/\Mem Φ (.blk b.1 (ob [.string f,j,q2,k,l,m,n,o,p] 131)::.blk b.2 (ob d0 110)::K) w'):=by
 obtain ⟨v,c4,y,q,rfl,g,t,u,r,s,h,i⟩:=REx.fm re
 refine zL func103 ntmps103 fun Q hQ a J=>?_
 refine Bx fun c w N a J=>?_
 refine Bx fun d w N a J=>?_
 replace N:=N.pl 1
 refine zD ?_
 exact ⟨(c,d),rfl,trivial,N⟩
abbrev flV:Flow->List Value:=fun s=>[.agg #[.string s.1,.string s.2]]
theorem x2y {α:Type} {a b c:List α} (h:a++c=b++c):a=b:=List.append_cancel_right h
section
variable {pm:Pars} {f s:Bs} {e:Ex}
theorem z8q (h:e.kind=4):wX pm f e=z5u f e.name 0 e.args:=by rw [wX,if_pos h]
theorem hM (h:e.kind=5):wX pm f e=cG f e.name ((zK pm e.name).getD []) e.args:=by rw [wX,if_neg (by omega),if_pos h]
theorem z8r (h:e.kind=6):wX pm f e=letF f e.name e.args:=by rw [wX,if_neg (by omega),if_neg (by omega),if_pos h]
theorem y4v (h:e.kind=7):wX pm f e=uI f e.arms:=by rw [wX,if_neg (by omega),if_neg (by omega),if_neg (by omega),if_pos h]
theorem y4w (a:¬e.kind=4) (b:¬e.kind=5) (c:¬e.kind=6) (d:¬e.kind=7):wX pm f e=[]:=by rw [wX,if_neg a,if_neg b,if_neg c,if_neg d]
theorem q3k {l:List Ex} {i:Nat} {x:Ex} (h:l[i]? = some x):z5u f s i (l.drop i)=toP f (vZ s i) x++z5u f s (i+1) (l.drop (i+1)):=by rw [zA h];rfl
theorem q6j {l:List Ex} {i:Nat} (h:¬i < l.length):z5u f s i (l.drop i)=[]:=by rw [zB h];rfl
theorem z5t {ps:List Param} {l:List Ex} {i:Nat} {x:Ex} {p:Param} (h:l[i]? = some x) (a:ps[i]? = some p):cG f s (ps.drop i) (l.drop i)=toP f (vrN s p.name) x++cG f s (ps.drop (i+1)) (l.drop (i+1)):=by rw [zA h,zA a];rfl
theorem z7x {ps:List Param} {l:List Ex} {i:Nat} (h:¬i < l.length):cG f s (ps.drop i) (l.drop i)=[]:=by rw [zB h];cases ps.drop i <;> rfl
theorem q4g {l:List Ex} {x:Ex} (h:l[0]? = some x):letF f s l=toP f (vrN f s) x:=by
 match l,h with
 | y::_,h=>simp only [List.getElem?_cons_zero,Option.some.injEq] at h;subst h;rfl
theorem j5i {l:List Arm} {i:Nat} {x:Arm} (h:l[i]? = some x):uI f (l.drop i)=z3t f x.con 0 x.vars++uI f (l.drop (i+1)):=by rw [zA h];rfl
theorem q5x {l:List Arm} {i:Nat} (h:¬i < l.length):uI f (l.drop i)=[]:=by rw [zB h];rfl
theorem q5j {l:List Bs} {k:Nat} {v:Bs} (h:l[k]? = some v):z3t f s k (l.drop k)=(vZ s k,vrN f v)::z3t f s (k+1) (l.drop (k+1)):=by rw [zA h];rfl
theorem j0i {l:List Bs} {k:Nat} (h:¬k < l.length):z3t f s k (l.drop k)=[]:=by rw [zB h];rfl
theorem z3c {l:List Ex} {i:Nat} {x:Ex} (h:l[i]? = some x):flowPs pm f (l.drop i)=jK pm f x++flowPs pm f (l.drop (i+1)):=by rw [zA h];rfl
theorem y4o {l:List Ex} {i:Nat} (h:¬i < l.length):flowPs pm f (l.drop i)=[]:=by rw [zB h];rfl
theorem z3b {l:List Arm} {i:Nat} {x:Arm} (h:l[i]? = some x):flowPa pm f (l.drop i)=jK pm f x.body++flowPa pm f (l.drop (i+1)):=by rw [zA h,y0g]
theorem y4n {l:List Arm} {i:Nat} (h:¬i < l.length):flowPa pm f (l.drop i)=[]:=by rw [zB h];rfl
end
theorem y4m {β:Type} {Φ:Fz} {w:World} {y:Value} {items:List Flow} {KY:List Flow->β->List Res} (hy:Takes prog Φ y flV items KY) {f:Bs} {j q2 k l m n o q:Value} (hf:f.size<=1000) {d0:List Value} {e:Ex} {node:Bs} {p0 q0:List Flow} {z0:β} {t u:Nat} {K0:List Res} (re:REx Φ d0 e) (ht:wT e) (H:items=p0++toP f node e++q0) (N:Mem Φ (.blk t (ob [.string f,j,q2,k,l,m,n,o,q] 131)::.blk u (ob [y] 143)::(K0++KY p0 z0)) w) :
  Calls prog 148 #[.agg d0.toArray,.string node,.pointer (some ⟨t,0,none⟩),.pointer (some ⟨u,0,none⟩)] w (fun ee w'=>∃z':β,ee=.returned (.bool true)/\True/\Mem Φ (.blk t (ob [.string f,j,q2,k,l,m,n,o,q] 131)::.blk u (ob [y] 143)::(K0++KY (p0++toP f node e) z')) w'):=by
 have L:=re
 obtain ⟨D,c4,E,b,rfl,W,U,h8,c0,e0,X,Y⟩:=REx.fm re
 refine z8h func148 rfl ntmps148 rfl (fun Q hQ a J=>?_)
 refine Bx fun g w N a J=>?_
 refine Bx fun i w N a J=>?_
 refine Alc fun d w N a J=>?_
 refine yO call103 (fun r w V N a J=>?_) (c:=j6b re N)
 refine go fun a J=>?_
 refine z9u (p:=11) (wW f e) (fun x=>.string x) [.blk r.1 (ob [.string f,j,q2,k,l,m,n,o,q] 131),.blk r.2 (ob [.int .i64 (e.kind),.int .i64 (e.num),.string e.name,.slice D e.args.length c4,.slice E e.arms.length b] 110)] (fun pre z=>.blk d (ob [.bool false] 4)::.blk i (ob [.string node] 9)::.blk g (ob [.int .i64 (e.kind),.int .i64 (e.num),.string e.name,.slice D e.args.length c4,.slice E e.arms.length b] 110)::.blk t (ob [.string f,j,q2,k,l,m,n,o,q] 131)::.blk u (ob [y] 143)::K0++KY (p0++pre.map (fun s=>(s,node))) z) z0 J (by simpa using N.nf) rfl call145 rfl (fun pre x post z M I K F a w R J N=>?_) (fun y_ Z w S N=>?_) (fun Dk z a w J N=>?_)
 replace N:=N.nf
 replace N:Mem Φ (.blk M I::.blk d (ob [.bool false] 4)::.blk i (ob [.string node] 9)::.blk g (ob [.int .i64 (e.kind),.int .i64 (e.num),.string e.name,.slice D e.args.length c4,.slice E e.arms.length b] 110)::.blk t (ob [.string f,j,q2,k,l,m,n,o,q] 131)::.blk u (ob [y] 143)::(F++K0)++KY (p0++pre.map (fun s=>(s,node))) z) w:=Mem.rot (A:=[.blk M I,.blk d (ob [.bool false] 4),.blk i (ob [.string node] 9),.blk g (ob [.int .i64 (e.kind),.int .i64 (e.num),.string e.name,.slice D e.args.length c4,.slice E e.arms.length b] 110),.blk t (ob [.string f,j,q2,k,l,m,n,o,q] 131),.blk u (ob [y] 143)]) N
 refine regI ?_
 refine yZ J (by intro c h;cases h) (kZ J rfl) rfl fun a J=>?_
 refine nC ?_
 refine ⟨_,N,fun w N=>?_⟩
 replace N:=N.nf
 refine blkI ?_
 refine sqI fun a0 G=>?_
 refine regI ?_
 refine yZ J (by intro c h;cases h) (qD 5 J N.toSees rfl rfl rfl isAgg143) rfl fun a J=>
   yZ J (by intro c h;cases h) (jY J rfl) rfl fun a J=>
   yZ J (by intro c h;cases h) (qD 2 J N.toSees rfl rfl rfl isAgg9) rfl fun a J=>
   yZ J (by intro c h;cases h) (z0u (vs:=[(0,.string x),(1,.string node)]) (cs:=[.string x,.string node]) J rfl (by kernel_rfl)) rfl fun a J=>?_
 refine z1r J rfl rfl rfl (by intro c h;cases h) (vY J rfl rfl (hy.go (p0++pre.map (fun s=>(s,node))) (x,node) _ z (.blk M K::.blk d (ob [.bool false] 4)::.blk i (ob [.string node] 9)::.blk g (ob [.int .i64 (e.kind),.int .i64 (e.num),.string e.name,.slice D e.args.length c4,.slice E e.arms.length b] 110)::.blk t (ob [.string f,j,q2,k,l,m,n,o,q] 131)::.blk u (ob [y] 143)::(F++K0)) w (by rw [H,toP,R];simp only [List.map_append,List.map_cons,List.append_assoc,List.cons_append];rfl) N) fun w P a J=>?_)
 obtain ⟨T,N⟩:=P
 replace N:=N.nf
 refine yZ J (by intro c h;cases h) (z4c J rfl) rfl fun a J=>?_
 refine nC ?_
 apply G
 refine if_fI J rfl ?_
 refine skipI ?_
 refine ⟨rfl,T,?_⟩
 rw [List.map_append,List.map_cons,List.map_nil,<- List.append_assoc]
 exact Mem.unrot (A:=[.blk M K,.blk d (ob [.bool false] 4),.blk i (ob [.string node] 9),.blk g (ob [.int .i64 (e.kind),.int .i64 (e.num),.string e.name,.slice D e.args.length c4,.slice E e.arms.length b] 110),.blk t (ob [.string f,j,q2,k,l,m,n,o,q] 131),.blk u (ob [y] 143)]) N
 exact (q7g hf L ht S N).mono fun e_ w h=>let ⟨z,h1,_,U⟩:=h;⟨_,z,h1,U⟩
 replace N:Mem Φ (.blk r.1 (ob [.string f,j,q2,k,l,m,n,o,q] 131)::.blk r.2 (ob [.int .i64 (e.kind),.int .i64 (e.num),.string e.name,.slice D e.args.length c4,.slice E e.arms.length b] 110)::.blk d (ob [.bool false] 4)::.blk i (ob [.string node] 9)::.blk g (ob [.int .i64 (e.kind),.int .i64 (e.num),.string e.name,.slice D e.args.length c4,.slice E e.arms.length b] 110)::.blk t (ob [.string f,j,q2,k,l,m,n,o,q] 131)::.blk u (ob [y] 143)::vM (Dk::[])++K0++KY (p0++(wW f e).map (fun s=>(s,node))) z) w:=Mem.mid (A:=[.blk Dk (.deferred (some []))]) (B:=[.blk r.1 (ob [.string f,j,q2,k,l,m,n,o,q] 131),.blk r.2 (ob [.int .i64 (e.kind),.int .i64 (e.num),.string e.name,.slice D e.args.length c4,.slice E e.arms.length b] 110),.blk d (ob [.bool false] 4),.blk i (ob [.string node] 9),.blk g (ob [.int .i64 (e.kind),.int .i64 (e.num),.string e.name,.slice D e.args.length c4,.slice E e.arms.length b] 110),.blk t (ob [.string f,j,q2,k,l,m,n,o,q] 131),.blk u (ob [y] 143)]) (C:=vM []++K0++KY (p0++(wW f e).map (fun s=>(s,node))) z) N
 refine Sto 2 fun w N a J=>?_
 refine go fun a J=>?_
 replace N:=N.dl [4,3,1,0]
 replace N:Mem Φ (vM (Dk::[])++(.blk d (ob [.bool true] 4)::.blk t (ob [.string f,j,q2,k,l,m,n,o,q] 131)::.blk u (ob [y] 143)::K0++KY (p0++(wW f e).map (fun s=>(s,node))) z)) w:=Mem.mid (A:=[.blk d (ob [.bool true] 4),.blk t (ob [.string f,j,q2,k,l,m,n,o,q] 131),.blk u (ob [y] 143)]) (B:=vM (Dk::[])) (C:=K0++KY (p0++(wW f e).map (fun s=>(s,node))) z) N
 refine hQ _ _ _ (retXc (ds:=(Dk::[])) (v:=.bool true) J results148 rfl isAgg4 N fun w N=>?_)
 exact ⟨_,rfl,trivial,N⟩
theorem j9f {β:Type} {Φ:Fz} {y:Value} {items:List Flow} {KY:List Flow->β->List Res} (hy:Takes prog Φ y flV items KY) {gb pmb:Nat} {s1 s2 s3 s4 nd:Value} (hv:∀pre z K0 w,Mem Φ (K0++KY pre z) w->∃u v x,Sees Φ [.blk gb (ob [s1,s2,s3,s4,nd,u,.map (some pmb),v,x] 75)] w) {m:List (Bs×Value)} {pmL:Pars} (d3:MapAt Φ pmb m) (D1:MapRel (fun v x=>SliceOf RParam Φ 2 v x) m pmL) (e3:∀n ps,zK pmL n=some ps->∀p∈ps,p.name.size<=1000) (G:Glob Φ) {f:Bs} {X q2 Y Z q5 q6 q7 q8:Value} (hf:f.size<=1000) {e:Ex} (ih:∀x:Ex,x.sz < e.sz->∀{K0:List Res} {w:World} {d0:List Value} {p0 q0:List Flow} {z0:β},REx Φ d0 x->wT x->nV pmL x->items=p0++jK pmL f x++q0->Mem Φ (K0++KY p0 z0) w->Calls prog 104 #[.pointer (some ⟨gb,0,none⟩),.agg #[.string f,X,q2,Y,Z,q5,q6,q7,q8],.agg d0.toArray,y] w (fun ee w'=>∃z':β,ee=.returned (.bool true)/\True/\Mem Φ (K0++KY (p0++jK pmL f x) z') w')) {K0:List Res} {w:World} {d0:List Value} {p0 q0:List Flow} {z0:β} (re:REx Φ d0 e) (ht:wT e) (b3:nV pmL e) (A1:items=p0++jK pmL f e++q0) (N:Mem Φ (K0++KY p0 z0) w) :
  Calls prog 104 #[.pointer (some ⟨gb,0,none⟩),.agg #[.string f,X,q2,Y,Z,q5,q6,q7,q8],.agg d0.toArray,y] w (fun ee w'=>∃z':β,ee=.returned (.bool true)/\True/\Mem Φ (K0++KY (p0++jK pmL f e) z') w'):=by
 obtain ⟨B,t,A,G1⟩:=hy.fn
 subst G1
 have l4:=re
 obtain ⟨i1,H4,C0,Q1⟩:=(kY e).1 ht
 obtain ⟨H1,g3,I1,J1⟩:=(mR e).1 b3
 rw [oZ] at I1
 rw [z1l] at J1
 have r:=A1
 rw [mH,List.append_assoc,List.append_assoc,List.append_assoc] at r
 obtain ⟨p3,c4,W,j,rfl,P3,h2,h8,z4,B0,U3,O0⟩:=REx.fm re
 refine zL func104 ntmps104 fun Q hQ a J=>?_
 refine Bx fun d w N a J=>?_
 refine Bx fun g w N a J=>?_
 refine Bx fun h w N a J=>?_
 refine goJ 31 fun a J=>?_
 refine sq fun Z1 x1=>?_
 have E:∀a w,(∃(pr:List Flow) (zz:β),EnvR 150 [(0,.pointer (some ⟨gb,0,none⟩)),(5,.pointer (some ⟨d,0,none⟩)),(6,.pointer (some ⟨g,0,none⟩)),(7,.pointer (some ⟨h,0,none⟩))] [] a/\Mem Φ (.blk h (ob [.func B t A] 143)::.blk g (ob [.int .i64 (e.kind),.int .i64 (e.num),.string e.name,.slice p3 e.args.length c4,.slice W e.arms.length j] 110)::.blk d (ob [.string f,X,q2,Y,Z,q5,q6,q7,q8] 131)::K0++KY pr zz) w/\(items=pr++(flowPs pmL f e.args++(flowPa pmL f e.arms++q0))))->Z1 a w:=by
  clear N J
  rintro a w ⟨pr,zz,J,N,v1⟩
  apply x1
  refine go fun a J=>?_
  refine jS (fun mm a w=>∃(i:Nat) (pr:List Flow) (zz:β),mm=e.args.length - i/\EnvR 150 [(0,.pointer (some ⟨gb,0,none⟩)),(5,.pointer (some ⟨d,0,none⟩)),(6,.pointer (some ⟨g,0,none⟩)),(7,.pointer (some ⟨h,0,none⟩)),(122,.slice p3 e.args.length c4),(123,.int .i64 e.args.length),(124,.int .i64 i)] [] a/\Mem Φ (.blk h (ob [.func B t A] 143)::.blk g (ob [.int .i64 (e.kind),.int .i64 (e.num),.string e.name,.slice p3 e.args.length c4,.slice W e.arms.length j] 110)::.blk d (ob [.string f,X,q2,Y,Z,q5,q6,q7,q8] 131)::K0++KY pr zz) w/\(items=pr++(flowPs pmL f (e.args.drop i)++(flowPa pmL f e.arms++q0)))) (e.args.length - 0) ⟨0,pr,zz,rfl,J.pk,N,by rw [v1];rfl⟩ ?_
  clear N J
  rintro mm a w ⟨i,pr,zz,s,J,N,m0⟩ r4 y1
  by_cases r1:i < e.args.length
  refine go fun a J=>?_
  obtain ⟨m3,rfl,f0,F,A3,S3,N3,P0⟩:=h2.el B0 r1
  obtain ⟨h3,c2,i3,d2,rfl,Q3,v4,w4,V3,a4,W3,b4⟩:=REx.fm P0
  refine Alc fun a2 w N a J=>?_
  refine Sto 0 fun w N a J=>?_
  refine yO call104 (fun r3 w L3 N a J=>?_) (c:=ih _ (Ex.lt_args (mgQ F)) (K0:=(.blk a2 (ob [.int .i64 (f0.kind),.int .i64 (f0.num),.string f0.name,.slice h3 f0.args.length c2,.slice i3 f0.arms.length d2] 110)::.blk h (ob [.func B t A] 143)::.blk g (ob [.int .i64 (e.kind),.int .i64 (e.num),.string e.name,.slice (some m3) e.args.length c4,.slice W e.arms.length j] 110)::.blk d (ob [.string f,X,q2,Y,Z,q5,q6,q7,q8] 131)::K0)) (q0:=_) P0 (C0 _ (mgQ F)) (I1 _ (mgQ F)) (by rw [m0,z3c F];simp only [List.append_assoc,List.cons_append,List.nil_append];rfl) N)
  refine go fun a J=>?_
  replace N:=N.dl [0]
  refine y1 _ _ _ (by subst s;omega) ⟨(i+1),((pr++jK pmL f f0)),(r3),rfl,J.pk,N,?_⟩
  rw [m0,z3c F];simp only [List.append_assoc,List.cons_append,List.nil_append]
  refine go fun a J=>?_
  refine jS (fun mm a w=>∃(i:Nat) (pr:List Flow) (zz:β),mm=e.arms.length - i/\EnvR 150 [(0,.pointer (some ⟨gb,0,none⟩)),(5,.pointer (some ⟨d,0,none⟩)),(7,.pointer (some ⟨h,0,none⟩)),(136,.slice W e.arms.length j),(137,.int .i64 e.arms.length),(138,.int .i64 i)] [] a/\Mem Φ (.blk h (ob [.func B t A] 143)::.blk g (ob [.int .i64 (e.kind),.int .i64 (e.num),.string e.name,.slice p3 e.args.length c4,.slice W e.arms.length j] 110)::.blk d (ob [.string f,X,q2,Y,Z,q5,q6,q7,q8] 131)::K0++KY pr zz) w/\(items=pr++(flowPa pmL f (e.arms.drop i)++q0))) (e.arms.length - 0) ⟨0,pr,zz,rfl,J.pk,N,by rw [m0,y4o r1,List.nil_append];rfl⟩ ?_
  clear N J
  rintro mm a w ⟨i,pr,zz,s,J,N,n0⟩ t4 z1
  by_cases t1:i < e.arms.length
  refine go fun a J=>?_
  obtain ⟨n3,rfl,I,H,B3,T3,O3,E1⟩:=h8.el O0 t1
  obtain ⟨G4,u4,rfl,m2,u1⟩:=RArm.iff.1 E1
  obtain ⟨j3,c75,rfl,X3,d4⟩:=m2.fm
  obtain ⟨k3,e2,l3,f2,rfl,R3,x4,y4,Y3,e4,Z3,f4⟩:=REx.fm u1
  refine Alc fun b2 w N a J=>?_
  refine Sto 0 fun w N a J=>?_
  refine yO call104 (fun t3 w M3 N a J=>?_) (c:=ih _ (Ex.lt_arms (mgQ H)) (K0:=(.blk b2 (ob [.string I.con,.slice j3 I.vars.length c75,.int .i64 (I.body.kind),.int .i64 (I.body.num),.string I.body.name,.slice k3 I.body.args.length e2,.slice l3 I.body.arms.length f2] 174)::.blk h (ob [.func B t A] 143)::.blk g (ob [.int .i64 (e.kind),.int .i64 (e.num),.string e.name,.slice p3 e.args.length c4,.slice (some n3) e.arms.length j] 110)::.blk d (ob [.string f,X,q2,Y,Z,q5,q6,q7,q8] 131)::K0)) (q0:=_) u1 ((Q1 _ (mgQ H)).2.2.2) (J1 _ (mgQ H)) (by rw [n0,z3b H];simp only [List.append_assoc,List.cons_append,List.nil_append];rfl) N)
  refine go fun a J=>?_
  replace N:=N.dl [0]
  refine z1 _ _ _ (by subst s;omega) ⟨(i+1),((pr++jK pmL f I.body)),(t3),rfl,J.pk,N,?_⟩
  rw [n0,z3b H];simp only [List.append_assoc,List.cons_append,List.nil_append]
  refine zD ?_
  replace N:=N.dl [2,1,0]
  have h_:=n0
  rw [y4n t1,List.nil_append,A1] at h_
  rw [x2y h_];exact ⟨_,rfl,trivial,N⟩
 by_cases n1:e.kind=4
 refine go fun a J=>?_
 refine jS (fun mm a w=>∃(i:Nat) (pr:List Flow) (zz:β),mm=e.args.length - i/\EnvR 150 [(0,.pointer (some ⟨gb,0,none⟩)),(5,.pointer (some ⟨d,0,none⟩)),(6,.pointer (some ⟨g,0,none⟩)),(7,.pointer (some ⟨h,0,none⟩)),(9,.func (.func 148) #[] #[.pointer (some ⟨d,0,none⟩),.pointer (some ⟨h,0,none⟩)]),(28,.slice p3 e.args.length c4),(29,.int .i64 e.args.length),(30,.int .i64 i)] [] a/\Mem Φ (.blk h (ob [.func B t A] 143)::.blk g (ob [.int .i64 (e.kind),.int .i64 (e.num),.string e.name,.slice p3 e.args.length c4,.slice W e.arms.length j] 110)::.blk d (ob [.string f,X,q2,Y,Z,q5,q6,q7,q8] 131)::K0++KY pr zz) w/\(items=pr++(z5u f e.name i (e.args.drop i)++(flowPs pmL f e.args++(flowPa pmL f e.arms++q0))))) (e.args.length - 0) ⟨0,p0,z0,rfl,J.pk,N,by rw [r,z8q n1];rfl⟩ ?_
 clear N J
 rintro mm a w ⟨i,pr,zz,s,J,N,K⟩ u3 X0
 by_cases I0:i < e.args.length
 refine go fun a J=>?_
 obtain ⟨N1,rfl,C,R,g2,E2,r2,o0⟩:=h2.el B0 I0
 obtain ⟨K1,k1,L1,l1,rfl,A2,C3,D3,K2,T2,L2,U2⟩:=REx.fm o0
 refine Alc fun j1 w N a J=>?_
 refine Sto 0 fun w N a J=>?_
 refine Reg [1,2,1,2,1,1,0,0,1] [0,1,2,3] fun w N a J=>?_
 have B1:=i1 (by omega) (by omega)
 refine qO fun a J=>?_
 refine zT call63 (fun w N a J=>?_) (c:=y2p G (by omega) (by omega) N)
 replace N:=N.ar [] [1,3]
 refine d_e J rfl rfl rfl (mG J rfl rfl call148 (y4m hy hf (p0:=pr) (q0:=_) (z0:=zz) (K0:=(.blk j1 (ob [.int .i64 (C.kind),.int .i64 (C.num),.string C.name,.slice K1 C.args.length k1,.slice L1 C.arms.length l1] 110)::.blk g (ob [.int .i64 (e.kind),.int .i64 (e.num),.string e.name,.slice (some N1) e.args.length c4,.slice W e.arms.length j] 110)::K0)) o0 (C0 _ (mgQ R)) (by rw [K,q3k R];simp only [List.append_assoc,List.cons_append,List.nil_append];rfl) N) (fun T1 w n2 N=>⟨fun _=>N.sn (Fz.Le.refl _),fun a J=>?_⟩))
 refine go fun a J=>?_
 replace N:=N.ar [2] [2,2]
 refine X0 _ _ _ (by subst s;omega) ⟨(i+1),((pr++toP f (vZ e.name i) C)),(T1),rfl,J.pk,N,?_⟩
 rw [K,q3k R];simp only [List.append_assoc,List.cons_append,List.nil_append]
 refine go fun a J=>?_
 exact E _ _ ⟨pr,zz,J.pk,N,by rw [K,q6j I0,List.nil_append]⟩
 by_cases j0:e.kind=5
 refine go fun a J=>?_
 refine jS (fun mm a w=>∃(i:Nat) (pr:List Flow) (zz:β),mm=e.args.length - i/\EnvR 150 [(0,.pointer (some ⟨gb,0,none⟩)),(5,.pointer (some ⟨d,0,none⟩)),(6,.pointer (some ⟨g,0,none⟩)),(7,.pointer (some ⟨h,0,none⟩)),(9,.func (.func 148) #[] #[.pointer (some ⟨d,0,none⟩),.pointer (some ⟨h,0,none⟩)]),(48,.slice p3 e.args.length c4),(49,.int .i64 e.args.length),(50,.int .i64 i)] [] a/\Mem Φ (.blk h (ob [.func B t A] 143)::.blk g (ob [.int .i64 (e.kind),.int .i64 (e.num),.string e.name,.slice p3 e.args.length c4,.slice W e.arms.length j] 110)::.blk d (ob [.string f,X,q2,Y,Z,q5,q6,q7,q8] 131)::K0++KY pr zz) w/\(items=pr++(cG f e.name (((zK pmL e.name).getD []).drop i) (e.args.drop i)++(flowPs pmL f e.args++(flowPa pmL f e.arms++q0))))) (e.args.length - 0) ⟨0,p0,z0,rfl,J.pk,N,by rw [r,hM j0];rfl⟩ ?_
 clear N J
 rintro mm a w ⟨i,pr,zz,s,J,N,L⟩ v3 Y0
 by_cases J0:i < e.args.length
 refine go fun a J=>?_
 obtain ⟨V0,rfl,l,S,i2,F2,t2,r0⟩:=h2.el B0 J0
 obtain ⟨Q0,E0,R0,F0,rfl,B2,E3,F3,M2,V2,N2,W2⟩:=REx.fm r0
 refine Alc fun D0 w N a J=>?_
 refine Sto 0 fun w N a J=>?_
 refine go fun a J=>?_
 refine yI [1,2,1,2,1,1,1,1,0,1,2,2,1,1,1,2,0,0,1] (.q 0 (.q 1 (.q 2 (.q 3 (.q 4 (.q 5 (.q 6 (.q 7 (.q 9 (.q 10 (.q 12 (.e 8 (.q 11 (.q 13 (.q 14 (.q 15 (.e 16 (.e 17 (.q 18 (.done)))))))))))))))))))) [0,1,2,3] J N fun w N=>?_
 have B1:=i1 (by omega) (by omega)
 refine qO fun a J=>?_
 refine go fun a J=>?_
 obtain ⟨n4,o4,p4,h1⟩:=hv pr zz (.blk D0 (ob [.int .i64 (l.kind),.int .i64 (l.num),.string l.name,.slice Q0 l.args.length E0,.slice R0 l.arms.length F0] 110)::.blk h (ob [.func B t A] 143)::.blk g (ob [.int .i64 (e.kind),.int .i64 (e.num),.string e.name,.slice (some V0) e.args.length c4,.slice W e.arms.length j] 110)::.blk d (ob [.string f,X,q2,Y,Z,q5,q6,q7,q8] 131)::K0) _ N
 refine d_e J rfl rfl rfl (dO (qD 0 J h1 rfl rfl rfl isAgg71) ⟨fun _=>N.sn (Fz.Le.refl _),fun a J=>?_⟩)
 rcases P:yM (m) e.name with _ | o3
 exact (by have h_:=H1 j0;rw [D1.none P] at h_;simp only [Option.getD_none,lnQ] at h_;omega:False).elim
 obtain ⟨y0,D,t0⟩:=D1.get P
 obtain ⟨M1,m1,rfl,Y1,c1⟩:=t0.fm
 have g4:e.args.length<=y0.length:=by have h_:=H1 j0;rw [D] at h_;exact h_
 have A0:=congrArg (zJ false (.slice none 0 0)) P
 refine Qq (fun a J=>?_) (o:=by exact fun J O=>Ok.cast (qA runUnderlying71 runUnderlying9 zeroValue23 J O rfl rfl d3) (show zJ false (.slice none 0 0) (yM (m) e.name)=.slice M1 y0.length m1 from A0))
 have b1:i < y0.length:=by omega
 obtain ⟨k4,rfl,R1,T,j2,G2,u2,e1⟩:=t0.el c1 b1
 obtain rfl:=id e1
 have f3:=e3 _ _ D _ (mgQ T)
 refine zT call64 (fun w N a J=>?_) (c:=z9r (by omega) (by omega) N)
 replace N:=N.ar [] [1,3]
 refine d_e J rfl rfl rfl (mG J rfl rfl call148 (y4m hy hf (p0:=pr) (q0:=_) (z0:=zz) (K0:=(.blk D0 (ob [.int .i64 (l.kind),.int .i64 (l.num),.string l.name,.slice Q0 l.args.length E0,.slice R0 l.arms.length F0] 110)::.blk g (ob [.int .i64 (e.kind),.int .i64 (e.num),.string e.name,.slice (some V0) e.args.length c4,.slice W e.arms.length j] 110)::K0)) r0 (C0 _ (mgQ S)) (by rw [L,z5t S (show ((zK pmL e.name).getD [])[i]? = _ by rw [D];exact T)];simp only [List.append_assoc,List.cons_append,List.nil_append];rfl) N) (fun U1 w o2 N=>⟨fun _=>N.sn (Fz.Le.refl _),fun a J=>?_⟩))
 refine go fun a J=>?_
 replace N:=N.ar [2] [2,2]
 refine Y0 _ _ _ (by subst s;omega) ⟨(i+1),((pr++toP f (vrN e.name R1.name) l)),(U1),rfl,J.pk,N,?_⟩
 rw [L,z5t S (show ((zK pmL e.name).getD [])[i]? = _ by rw [D];exact T)];simp only [List.append_assoc,List.cons_append,List.nil_append]
 refine go fun a J=>?_
 exact E _ _ ⟨pr,zz,J.pk,N,by rw [L,z7x J0,List.nil_append]⟩
 by_cases k0:e.kind=6
 refine Reg [1,1,2,1,2,1,2,1,2,0,0,1] [0,1,2] fun w N a J=>?_
 have B1:=i1 (by omega) (by omega)
 have C1:0 < e.args.length:=List.length_pos_iff.2 (g3 k0)
 refine go fun a J=>?_
 obtain ⟨O1,rfl,S1,U,k2,H2,v2,s0⟩:=h2.el B0 C1
 obtain ⟨i4,z3,j4,c210,rfl,C2,G3,H3,O2,X2,P2,Y2⟩:=REx.fm s0
 refine zT call64 (fun w N a J=>?_) (c:=z9r (by omega) (by omega) N)
 replace N:=N.pl 2
 refine d_e J rfl rfl rfl (mG J rfl rfl call148 (y4m hy hf (p0:=p0) (q0:=_) (z0:=z0) (K0:=(.blk g (ob [.int .i64 (e.kind),.int .i64 (e.num),.string e.name,.slice (some O1) e.args.length c4,.slice W e.arms.length j] 110)::K0)) s0 (C0 _ (mgQ U)) (by rw [r,z8r k0,q4g U];simp only [List.append_assoc,List.cons_append,List.nil_append];rfl) N) (fun V1 w p2 N=>⟨fun _=>N.sn (Fz.Le.refl _),fun a J=>?_⟩))
 refine go fun a J=>?_
 replace N:=N.ar [] [2,2]
 exact E _ _ ⟨(p0++toP f (vrN f e.name) S1),V1,J.pk,N,by rw [r,z8r k0,q4g U];simp only [List.append_assoc,List.cons_append,List.nil_append]⟩
 refine go fun a J=>?_
 by_cases o1:e.kind=7
 refine go fun a J=>?_
 refine jS (fun mm a w=>∃(i:Nat) (pr:List Flow) (zz:β),mm=e.arms.length - i/\EnvR 150 [(0,.pointer (some ⟨gb,0,none⟩)),(5,.pointer (some ⟨d,0,none⟩)),(6,.pointer (some ⟨g,0,none⟩)),(7,.pointer (some ⟨h,0,none⟩)),(92,.slice W e.arms.length j),(93,.int .i64 e.arms.length),(94,.int .i64 i)] [] a/\Mem Φ (.blk h (ob [.func B t A] 143)::.blk g (ob [.int .i64 (e.kind),.int .i64 (e.num),.string e.name,.slice p3 e.args.length c4,.slice W e.arms.length j] 110)::.blk d (ob [.string f,X,q2,Y,Z,q5,q6,q7,q8] 131)::K0++KY pr zz) w/\(items=pr++(uI f (e.arms.drop i)++(flowPs pmL f e.args++(flowPa pmL f e.arms++q0))))) (e.arms.length - 0) ⟨0,p0,z0,rfl,J.pk,N,by rw [r,y4v o1];rfl⟩ ?_
 clear N J
 rintro mm a w ⟨i,pr,zz,s,J,N,l0⟩ w3 Z0
 by_cases L0:i < e.arms.length
 refine go fun a J=>?_
 obtain ⟨w0,rfl,b,u0,l2,I2,w2,f1⟩:=h8.el O0 L0
 obtain ⟨m4,y3,rfl,M0,p1⟩:=RArm.iff.1 f1
 obtain ⟨S0,i0,rfl,Q2,d1⟩:=M0.fm
 obtain ⟨T0,G0,U0,H0,rfl,D2,I3,J3,R2,Z2,S2,a3⟩:=REx.fm p1
 refine Alc fun h0 w N a J=>?_
 refine Sto 0 fun w N a J=>?_
 have y2:=Q1 _ (mgQ u0)
 refine go fun a J=>?_
 refine jS (fun mm a w=>∃(k:Nat) (pr:List Flow) (zz:β),mm=b.vars.length - k/\EnvR 150 [(0,.pointer (some ⟨gb,0,none⟩)),(5,.pointer (some ⟨d,0,none⟩)),(6,.pointer (some ⟨g,0,none⟩)),(7,.pointer (some ⟨h,0,none⟩)),(15,.pointer (some ⟨h0,0,none⟩)),(92,.slice (some w0) e.arms.length j),(93,.int .i64 e.arms.length),(94,.int .i64 i),(99,.slice S0 b.vars.length i0),(100,.int .i64 b.vars.length),(101,.int .i64 k)] [] a/\Mem Φ (.blk h0 (ob [.string b.con,.slice S0 b.vars.length i0,.int .i64 (b.body.kind),.int .i64 (b.body.num),.string b.body.name,.slice T0 b.body.args.length G0,.slice U0 b.body.arms.length H0] 174)::.blk h (ob [.func B t A] 143)::.blk g (ob [.int .i64 (e.kind),.int .i64 (e.num),.string e.name,.slice p3 e.args.length c4,.slice (some w0) e.arms.length j] 110)::.blk d (ob [.string f,X,q2,Y,Z,q5,q6,q7,q8] 131)::K0++KY pr zz) w/\(items=pr++(z3t f b.con k (b.vars.drop k)++(uI f (e.arms.drop (i+1))++(flowPs pmL f e.args++(flowPa pmL f e.arms++q0)))))) (b.vars.length - 0) ⟨0,pr,zz,rfl,J.pk,N,by rw [l0,j5i u0];simp only [List.append_assoc,List.cons_append,List.nil_append];rfl⟩ ?_
 clear N J
 rintro mm a w ⟨k,pr,zz,s,J,N,M⟩ x3 a1
 by_cases N0:k < b.vars.length
 refine go fun a J=>?_
 obtain ⟨P1,rfl,x0,V,W0,J2,x2,g1⟩:=M0.el d1 N0
 obtain rfl:W0=[.string x0]:=g1
 refine go fun a J=>?_
 refine yI [2,1,2,1,1,0,1,2,1,0,1,0,1] (.q 0 (.q 1 (.q 2 (.q 3 (.q 4 (.q 6 (.q 7 (.q 8 (.e 5 (.e 9 (.q 10 (.e 11 (.q 12 (.done)))))))))))))) [0,1,2,3] J N fun w N=>?_
 have f3:=y2.2.2.1 _ (mgQ V)
 refine qO fun a J=>?_
 refine zT call63 (fun w N a J=>?_) (c:=y2p G (by omega) (by omega) N)
 refine zT call64 (fun w N a J=>?_) (c:=z9r (by omega) (by omega) N)
 refine qO fun a J=>?_
 refine d_fire J rfl rfl rfl (vY J rfl rfl (hy.go pr (vZ b.con k,vrN f x0) _ zz (.blk h0 (ob [.string b.con,.slice (some P1) b.vars.length i0,.int .i64 (b.body.kind),.int .i64 (b.body.num),.string b.body.name,.slice T0 b.body.args.length G0,.slice U0 b.body.arms.length H0] 174)::.blk h (ob [.func B t A] 143)::.blk g (ob [.int .i64 (e.kind),.int .i64 (e.num),.string e.name,.slice p3 e.args.length c4,.slice (some w0) e.arms.length j] 110)::.blk d (ob [.string f,X,q2,Y,Z,q5,q6,q7,q8] 131)::K0) w (by rw [M,q5j V];simp only [List.append_assoc,List.cons_append,List.nil_append];rfl) N) fun w w1=>⟨fun _=>w1.elim fun z_ N=>N.sn (Fz.Le.refl _),fun a J=>?_⟩)
 obtain ⟨W1,N⟩:=w1
 replace N:=N.nf
 refine go fun a J=>?_
 refine a1 _ _ _ (by subst s;omega) ⟨(k+1),((pr++[(vZ b.con k,vrN f x0)])),(W1),rfl,J.pk,N,?_⟩
 rw [M,q5j V];simp only [List.append_assoc,List.cons_append,List.nil_append]
 refine go fun a J=>?_
 replace N:=N.dl [0]
 refine Z0 _ _ _ (by subst s;omega) ⟨(i+1),(pr),(zz),rfl,J.pk,N,?_⟩
 have h_:=M
 rw [j0i N0,List.nil_append] at h_
 rw [h_]
 refine go fun a J=>?_
 exact E _ _ ⟨pr,zz,J.pk,N,by rw [l0,q5x L0,List.nil_append]⟩
 refine go fun a J=>?_
 exact E _ _ ⟨p0,z0,J.pk,N,by rw [r,y4w (by assumption) (by assumption) (by assumption) (by assumption),List.nil_append]⟩
theorem x4i {β:Type} {Φ:Fz} {y:Value} {items:List Flow} {KY:List Flow->β->List Res} (F:Takes prog Φ y flV items KY) {gb pmb:Nat} {I K L M nd:Value} (E:∀pre z K0 w,Mem Φ (K0++KY pre z) w->∃u v x,Sees Φ [.blk gb (ob [I,K,L,M,nd,u,.map (some pmb),v,x] 75)] w) {m:List (Bs×Value)} {pmL:Pars} (c:MapAt Φ pmb m) (d:MapRel (fun v x=>SliceOf RParam Φ 2 v x) m pmL) (g:∀n ps,zK pmL n=some ps->∀p∈ps,p.name.size<=1000) (G:Glob Φ) {f:Bs} {j q2 k l q s A B:Value} (D:f.size<=1000) {e:Ex} {K0:List Res} {w:World} {d0:List Value} {p0 q0:List Flow} {z0:β} (re:REx Φ d0 e) (i:wT e) (b:nV pmL e) (a:items=p0++jK pmL f e++q0) (N:Mem Φ (K0++KY p0 z0) w) :
  Calls prog 104 #[.pointer (some ⟨gb,0,none⟩),.agg #[.string f,j,q2,k,l,q,s,A,B],.agg d0.toArray,y] w (fun ee w'=>∃z':β,ee=.returned (.bool true)/\True/\Mem Φ (K0++KY (p0++jK pmL f e) z') w'):=by
 have:∀(n:Nat) (e:Ex),e.sz < n->∀{K0:List Res} {w:World} {d0:List Value} {p0 q0:List Flow} {z0:β},REx Φ d0 e->wT e->nV pmL e->items=p0++jK pmL f e++q0->Mem Φ (K0++KY p0 z0) w ->
   Calls prog 104 #[.pointer (some ⟨gb,0,none⟩),.agg #[.string f,j,q2,k,l,q,s,A,B],.agg d0.toArray,y] w (fun ee w'=>∃z':β,ee=.returned (.bool true)/\True/\Mem Φ (K0++KY (p0++jK pmL f e) z') w'):=by
  intro n
  induction n with
  | zero=>intro e h;omega
  | succ n H=>intro e h K0 w d0 p0 q0 z0 re i b a N;exact j9f F E c d g G D (fun x P K0 w d0 p0 q0 z0 r t o h1 C=>H x (by omega) r t o h1 C) re i b a N
 exact this _ e (Nat.lt_succ_self _) re i b a N
theorem y4z {i:Param} {x:Bs} {l:List Bs} {k:Nat} {t:Bs} (h:l[k]? = some t):kQ i x k (l.drop k)=(if t=i.type then [(inN i.name,vZ x k)] else [])++kQ i x (k+1) (l.drop (k+1)):=by rw [zA h];rfl
theorem j9p {i:Param} {x:Bs} {l:List Bs} {k:Nat} (h:¬k < l.length):kQ i x k (l.drop k)=[]:=by rw [zB h];rfl
theorem x6j {i:Param} {d:Data} (h:¬d.name=i.type):tG i d=[]:=if_neg h
theorem j9n {i:Param} {d:Data} (h:d.name=i.type):tG i d=(d.cons.drop 0).flatMap fun x=>kQ i x.name 0 x.fields:=if_pos h
theorem q5r (c:Core):xW c=[]++((c.inputs.drop 0).flatMap (uO c)++c.funs.flatMap (wO (yC c))):=rfl
theorem all_ok' {Φ:Fz} {K:List Res} {w:World} {gb:Nat} (N:Mem Φ K w) :
  Calls prog 66 #[.pointer (some ⟨gb,0,none⟩)] w (fun ee w'=>∃b:Nat,ee=.returned (.func (.func 102) #[] #[.pointer (some ⟨b,0,none⟩)])/\True/\Mem Φ (.blk b (ob [.pointer (some ⟨gb,0,none⟩)] 66)::K) w'):=by
 refine zL func66 ntmps66 fun Q hQ a J=>?_
 refine Bx fun c w N a J=>?_
 refine zD ?_
 exact ⟨_,rfl,trivial,N⟩
theorem all1_ok {β:Type} {Φ:Fz} {w:World} {c:Core} {d0:List Value} {y:Value} {KY:List Flow->β->List Res} {z0:β} {gb pmb b:Nat} {nd:Value} {m:List (Bs×Value)} (hy:Takes prog Φ y flV (xW c) KY) (hv:∀pre z K0 w,Mem Φ (K0++KY pre z) w->∃u v x,Sees Φ [.blk gb (ob (d0++[nd,u,.map (some pmb),v,x]) 75)] w) (N1:RCore Φ d0 c) (I1:MapAt Φ pmb m) (J1:MapRel (fun v x=>SliceOf RParam Φ 2 v x) m (yC c)) (K1:∀n ps,zK (yC c) n=some ps->∀p∈ps,p.name.size<=1000) (hT:TidyC c) (hF:∀f∈c.funs,wT f.body/\nV (yC c) f.body) (G:Glob Φ) (N:Mem Φ (.blk b (ob [.pointer (some ⟨gb,0,none⟩)] 66)::KY [] z0) w) :
  Calls prog 102 #[y,.pointer (some ⟨b,0,none⟩)] w (fun ee w'=>∃z':β,ee=.returned (.tuple #[])/\True/\Mem Φ (.blk b (ob [.pointer (some ⟨gb,0,none⟩)] 66)::KY (xW c) z') w'):=by
 obtain ⟨K,H,I,b1⟩:=hy.fn
 subst b1
 obtain ⟨p3,c4,p9,g0,M1,o1,z2,c22,rfl,h2,h8,q1,t2,x2,H1,d2,S0,e2,T0,f2,j2⟩:=RCore.fm N1
 refine z8h func102 rfl ntmps102 rfl (fun Q hQ a J=>?_)
 refine Bx fun E w N a J=>?_
 refine go fun a J=>?_
 obtain ⟨E2,F2,G2,Z0⟩:=hv [] z0 (.blk E (ob [.func K H I] 143)::.blk b (ob [.pointer (some ⟨gb,0,none⟩)] 66)::[]) _ N
 refine kB J (qD 0 J Z0 rfl rfl rfl isAgg23) rfl fun a J=>?_
 refine go fun a J=>?_
 refine jS (fun mm a w=>∃(i:Nat) (pr:List Flow) (zz:β),mm=c.inputs.length - i/\EnvR 113 [(1,.pointer (some ⟨b,0,none⟩)),(2,.pointer (some ⟨E,0,none⟩)),(19,.slice p9 c.inputs.length g0),(20,.int .i64 c.inputs.length),(21,.int .i64 i)] [] a/\Mem Φ (.blk E (ob [.func K H I] 143)::.blk b (ob [.pointer (some ⟨gb,0,none⟩)] 66)::KY pr zz) w/\(xW c=pr++((c.inputs.drop i).flatMap (uO c)++c.funs.flatMap (wO (yC c))))) (c.inputs.length - 0) ⟨0,[],z0,rfl,J.pk,N,q5r c⟩ ?_
 clear N J
 rintro mm a w ⟨i,pr,zz,T,J,N,k0⟩ q2 P0
 by_cases I0:i < c.inputs.length
 refine go fun a J=>?_
 obtain ⟨E0,rfl,F,n0,S1,a2,X1,W0⟩:=h8.el S0 I0
 obtain rfl:=id W0
 refine Alc fun X w N a J=>?_
 refine Sto 0 fun w N a J=>?_
 refine go fun a J=>?_
 obtain ⟨H2,I2,J2,a1⟩:=hv pr zz (.blk X (ob [.string F.name,.string F.type] 36)::.blk E (ob [.func K H I] 143)::.blk b (ob [.pointer (some ⟨gb,0,none⟩)] 66)::[]) _ N
 refine kB J (qD 0 J a1 rfl rfl rfl isAgg22) rfl fun a J=>?_
 refine go fun a J=>?_
 refine jS (fun mm a w=>∃(k:Nat) (pr:List Flow) (zz:β),mm=c.datas.length - k/\EnvR 113 [(1,.pointer (some ⟨b,0,none⟩)),(2,.pointer (some ⟨E,0,none⟩)),(4,.pointer (some ⟨X,0,none⟩)),(19,.slice (some E0) c.inputs.length g0),(20,.int .i64 c.inputs.length),(21,.int .i64 i),(29,.slice p3 c.datas.length c4),(30,.int .i64 c.datas.length),(31,.int .i64 k)] [] a/\Mem Φ (.blk X (ob [.string F.name,.string F.type] 36)::.blk E (ob [.func K H I] 143)::.blk b (ob [.pointer (some ⟨gb,0,none⟩)] 66)::KY pr zz) w/\(xW c=pr++((c.datas.drop k).flatMap (tG F)++((c.inputs.drop (i+1)).flatMap (uO c)++c.funs.flatMap (wO (yC c)))))) (c.datas.length - 0) ⟨0,pr,zz,rfl,J.pk,N,by rw [k0,zA n0,List.flatMap_cons,List.append_assoc];rfl⟩ ?_
 clear N J
 rintro mm a w ⟨k,pr,zz,T,J,N,c0⟩ r2 m0
 by_cases J0:k < c.datas.length
 refine go fun a J=>?_
 obtain ⟨i1,rfl,L,f0,T1,b2,Y1,X0⟩:=h2.el H1 J0
 obtain ⟨C2,rfl,L0⟩:=id X0
 obtain ⟨e1,Z,rfl,g2,U0⟩:=L0.fm
 refine Alc fun s0 w N a J=>?_
 refine Sto 0 fun w N a J=>?_
 by_cases M0:L.name=F.type
 refine go fun a J=>?_
 refine jS (fun mm a w=>∃(j:Nat) (pr:List Flow) (zz:β),mm=L.cons.length - j/\EnvR 113 [(1,.pointer (some ⟨b,0,none⟩)),(2,.pointer (some ⟨E,0,none⟩)),(4,.pointer (some ⟨X,0,none⟩)),(19,.slice (some E0) c.inputs.length g0),(20,.int .i64 c.inputs.length),(21,.int .i64 i),(29,.slice (some i1) c.datas.length c4),(30,.int .i64 c.datas.length),(31,.int .i64 k),(41,.slice e1 L.cons.length Z),(42,.int .i64 L.cons.length),(43,.int .i64 j)] [] a/\Mem Φ (.blk s0 (ob [.string L.name,.slice e1 L.cons.length Z] 126)::.blk X (ob [.string F.name,.string F.type] 36)::.blk E (ob [.func K H I] 143)::.blk b (ob [.pointer (some ⟨gb,0,none⟩)] 66)::KY pr zz) w/\(xW c=pr++((L.cons.drop j).flatMap (fun x=>kQ F x.name 0 x.fields)++((c.datas.drop (k+1)).flatMap (tG F)++((c.inputs.drop (i+1)).flatMap (uO c)++c.funs.flatMap (wO (yC c))))))) (L.cons.length - 0) ⟨0,pr,zz,rfl,J.pk,N,by rw [c0,zA f0,List.flatMap_cons,j9n M0,List.append_assoc]⟩ ?_
 clear N J
 rintro mm a w ⟨j,pr,zz,T,J,N,l0⟩ s2 Q0
 by_cases N0:j < L.cons.length
 refine go fun a J=>?_
 obtain ⟨F0,rfl,M,o0,U1,c2,Z1,Y0⟩:=L0.el U0 N0
 obtain ⟨D2,rfl,O0⟩:=id Y0
 obtain ⟨f1,u0,rfl,i2,V0⟩:=O0.fm
 refine Alc fun t0 w N a J=>?_
 refine Sto 0 fun w N a J=>?_
 refine go fun a J=>?_
 refine jS (fun mm a w=>∃(l:Nat) (pr:List Flow) (zz:β),mm=M.fields.length - l/\EnvR 113 [(1,.pointer (some ⟨b,0,none⟩)),(2,.pointer (some ⟨E,0,none⟩)),(4,.pointer (some ⟨X,0,none⟩)),(8,.pointer (some ⟨t0,0,none⟩)),(19,.slice (some E0) c.inputs.length g0),(20,.int .i64 c.inputs.length),(21,.int .i64 i),(29,.slice (some i1) c.datas.length c4),(30,.int .i64 c.datas.length),(31,.int .i64 k),(41,.slice (some F0) L.cons.length Z),(42,.int .i64 L.cons.length),(43,.int .i64 j),(48,.slice f1 M.fields.length u0),(49,.int .i64 M.fields.length),(50,.int .i64 l)] [] a/\Mem Φ (.blk t0 (ob [.string M.name,.slice f1 M.fields.length u0] 128)::.blk s0 (ob [.string L.name,.slice (some F0) L.cons.length Z] 126)::.blk X (ob [.string F.name,.string F.type] 36)::.blk E (ob [.func K H I] 143)::.blk b (ob [.pointer (some ⟨gb,0,none⟩)] 66)::KY pr zz) w/\(xW c=pr++(kQ F M.name l (M.fields.drop l)++((L.cons.drop (j+1)).flatMap (fun x=>kQ F x.name 0 x.fields)++((c.datas.drop (k+1)).flatMap (tG F)++((c.inputs.drop (i+1)).flatMap (uO c)++c.funs.flatMap (wO (yC c)))))))) (M.fields.length - 0) ⟨0,pr,zz,rfl,J.pk,N,by rw [l0,zA o0,List.flatMap_cons,List.append_assoc];rfl⟩ ?_
 clear N J
 rintro mm a w ⟨l,pr,zz,T,J,N,V⟩ O1 e0
 by_cases i0:l < M.fields.length
 refine go fun a J=>?_
 obtain ⟨g1,rfl,r0,Y,w0,z1,v1,B0⟩:=O0.el V0 i0
 obtain rfl:w0=[.string r0]:=B0
 refine go fun a J=>?_
 refine yI [1,1,2,1,1,2,1,2,1,0,1,2,1,1,0,1,0,1,1] (.q 0 (.q 1 (.q 2 (.q 3 (.q 4 (.q 5 (.q 6 (.q 7 (.q 8 (.q 10 (.q 11 (.q 12 (.q 13 (.e 9 (.e 14 (.q 15 (.e 16 (.q 17 (.q 18 (.done)))))))))))))))))))) [0,1,2,3,4] J N fun w N=>?_
 have y2:=hT.con _ (mgQ f0) _ (mgQ o0)
 have w2:=hT.inp _ (mgQ n0)
 by_cases a0:r0=F.type
 refine qO fun a J=>?_
 refine qO fun a J=>?_
 refine zT call40 (fun w N a J=>?_) (c:=y5a (by omega) N)
 refine zT call63 (fun w N a J=>?_) (c:=y2p G (by omega) (by omega) N)
 refine qO fun a J=>?_
 refine d_fireg J rfl rfl rfl rfl rfl (vY J rfl rfl (hy.go pr (inN F.name,vZ M.name l) _ zz (.blk t0 (ob [.string M.name,.slice (some g1) M.fields.length u0] 128)::.blk s0 (ob [.string L.name,.slice (some F0) L.cons.length Z] 126)::.blk X (ob [.string F.name,.string F.type] 36)::.blk E (ob [.func K H I] 143)::.blk b (ob [.pointer (some ⟨gb,0,none⟩)] 66)::[]) w (by rw [V,y4z Y,if_pos a0];simp only [List.append_assoc,List.cons_append,List.nil_append];rfl) N) fun w h0=>⟨fun _=>h0.elim fun z_ N=>N.sn (Fz.Le.refl _),fun a J=>?_⟩)
 obtain ⟨z116,N⟩:=h0
 replace N:=N.nf
 refine go fun a J=>?_
 refine e0 _ _ _ (by subst T;omega) ⟨(l+1),((pr++[(inN F.name,vZ M.name l)])),(z116),rfl,J.pk,N,?_⟩
 rw [V,y4z Y,if_pos a0];simp only [List.append_assoc,List.cons_append,List.nil_append]
 refine go fun a J=>?_
 refine e0 _ _ _ (by subst T;omega) ⟨(l+1),(pr),(zz),rfl,J.pk,N,?_⟩
 rw [V,y4z Y,if_neg a0];simp only [List.append_assoc,List.cons_append,List.nil_append]
 refine go fun a J=>?_
 replace N:=N.dl [0]
 refine Q0 _ _ _ (by subst T;omega) ⟨(j+1),(pr),(zz),rfl,J.pk,N,?_⟩
 have h_:=V
 rw [j9p i0,List.nil_append] at h_
 rw [h_]
 refine go fun a J=>?_
 replace N:=N.dl [0]
 refine m0 _ _ _ (by subst T;omega) ⟨(k+1),(pr),(zz),rfl,J.pk,N,?_⟩
 have h_:=l0
 rw [zB N0,List.flatMap_nil,List.nil_append] at h_
 rw [h_]
 refine go fun a J=>?_
 replace N:=N.dl [0]
 refine m0 _ _ _ (by subst T;omega) ⟨(k+1),(pr),(zz),rfl,J.pk,N,?_⟩
 rw [c0,zA f0,List.flatMap_cons,x6j M0,List.nil_append]
 refine go fun a J=>?_
 replace N:=N.dl [0]
 refine P0 _ _ _ (by subst T;omega) ⟨(i+1),(pr),(zz),rfl,J.pk,N,?_⟩
 have h_:=c0
 rw [zB J0,List.flatMap_nil,List.nil_append] at h_
 rw [h_]
 refine go fun a J=>?_
 obtain ⟨m2,n2,o2,D0⟩:=hv pr zz (.blk E (ob [.func K H I] 143)::.blk b (ob [.pointer (some ⟨gb,0,none⟩)] 66)::[]) _ N
 refine kB J (qD 0 J D0 rfl rfl rfl isAgg24) rfl fun a J=>?_
 refine go fun a J=>?_
 refine jS (fun mm a w=>∃(i:Nat) (pr:List Flow) (zz:β) (ds:List Nat),mm=c.funs.length - i/\EnvR 113 [(1,.pointer (some ⟨b,0,none⟩)),(2,.pointer (some ⟨E,0,none⟩)),(82,.slice M1 c.funs.length o1),(83,.int .i64 c.funs.length),(84,.int .i64 i)] (z3w ds) a/\Mem Φ (.blk E (ob [.func K H I] 143)::.blk b (ob [.pointer (some ⟨gb,0,none⟩)] 66)::vM ds++KY pr zz) w/\(xW c=pr++(c.funs.drop i).flatMap (wO (yC c)))) (c.funs.length - 0) ⟨0,pr,zz,[],rfl,J.pk,N,by rw [k0,zB I0,List.flatMap_nil,List.nil_append];rfl⟩ ?_
 clear N J
 rintro mm a w ⟨i,pr,zz,ds,T,J,N,W⟩ P1 x0
 by_cases j0:i < c.funs.length
 refine go fun a J=>?_
 obtain ⟨k2,rfl,d,U,p1,A1,w1,C0⟩:=q1.el T0 j0
 obtain ⟨l2,R1,rfl,H0,b0⟩:=id C0
 obtain ⟨D,c143,rfl,B1,E1⟩:=H0.fm
 obtain ⟨r,g,t,o,rfl,x1,V1,W1,C1,F1,D1,G1⟩:=REx.fm b0
 refine Alc fun P w N a J=>?_
 refine Sto 0 fun w N a J=>?_
 have R0:=hT.fn _ (mgQ U)
 have A0:=hF _ (mgQ U)
 refine qO fun a J=>?_
 refine mP fun a J=>?_
 refine Alc fun R w N a J=>?_
 refine Sto 0 fun w N a J=>?_
 refine yO call103 (fun S w s1 N a J=>?_) (c:=j6b b0 N)
 refine go fun a J=>?_
 refine z9u (p:=97) (wW d.name d.body) (fun x=>.string x) [.blk S.1 (ob [.string d.name,.string d.name,.slice D d.params.length c143,.string d.result,.int .i64 (d.body.kind),.int .i64 (d.body.num),.string d.body.name,.slice r d.body.args.length g,.slice t d.body.arms.length o] 131),.blk S.2 (ob [.int .i64 (d.body.kind),.int .i64 (d.body.num),.string d.body.name,.slice r d.body.args.length g,.slice t d.body.arms.length o] 110)] (fun pre z=>.blk R (ob [.string d.name,.string d.name,.slice D d.params.length c143,.string d.result,.int .i64 (d.body.kind),.int .i64 (d.body.num),.string d.body.name,.slice r d.body.args.length g,.slice t d.body.arms.length o] 131)::.blk P (ob [.string d.name,.slice D d.params.length c143,.string d.result,.int .i64 (d.body.kind),.int .i64 (d.body.num),.string d.body.name,.slice r d.body.args.length g,.slice t d.body.arms.length o] 112)::.blk E (ob [.func K H I] 143)::.blk b (ob [.pointer (some ⟨gb,0,none⟩)] 66)::vM ds++KY (pr++pre.map (fun s=>(s,d.name))) z) zz J (by simpa using N.nf) rfl call145 rfl (fun pre x post z l_ c1 d1 G0 a w y1 J N=>?_) (fun y_ p2 w L1 N=>?_) (fun Dk z a w J N=>?_)
 replace N:=N.nf
 replace N:Mem Φ (.blk l_ c1::.blk R (ob [.string d.name,.string d.name,.slice D d.params.length c143,.string d.result,.int .i64 (d.body.kind),.int .i64 (d.body.num),.string d.body.name,.slice r d.body.args.length g,.slice t d.body.arms.length o] 131)::.blk P (ob [.string d.name,.slice D d.params.length c143,.string d.result,.int .i64 (d.body.kind),.int .i64 (d.body.num),.string d.body.name,.slice r d.body.args.length g,.slice t d.body.arms.length o] 112)::.blk E (ob [.func K H I] 143)::.blk b (ob [.pointer (some ⟨gb,0,none⟩)] 66)::(G0++vM ds)++KY (pr++pre.map (fun s=>(s,d.name))) z) w:=Mem.rot (A:=[.blk l_ c1,.blk R (ob [.string d.name,.string d.name,.slice D d.params.length c143,.string d.result,.int .i64 (d.body.kind),.int .i64 (d.body.num),.string d.body.name,.slice r d.body.args.length g,.slice t d.body.arms.length o] 131),.blk P (ob [.string d.name,.slice D d.params.length c143,.string d.result,.int .i64 (d.body.kind),.int .i64 (d.body.num),.string d.body.name,.slice r d.body.args.length g,.slice t d.body.arms.length o] 112),.blk E (ob [.func K H I] 143),.blk b (ob [.pointer (some ⟨gb,0,none⟩)] 66)]) N
 refine regI ?_
 refine yZ J (by intro c h;cases h) (kZ J rfl) rfl fun a J=>?_
 refine nC ?_
 refine ⟨_,N,fun w N=>?_⟩
 replace N:=N.nf
 refine blkI ?_
 refine sqI fun Q1 y0=>?_
 refine regI ?_
 refine yZ J (by intro c h;cases h) (qD 3 J N.toSees rfl rfl rfl isAgg143) rfl fun a J=>
   yZ J (by intro c h;cases h) (jY J rfl) rfl fun a J=>
   yZ J (by intro c h;cases h) (jE J rfl q7c rfl) rfl fun a J=>
   yZ J (by intro c h;cases h) (qD 2 J N.toSees rfl rfl rfl isAgg9) rfl fun a J=>
   yZ J (by intro c h;cases h) (z0u (vs:=[(0,.string x),(1,.string d.name)]) (cs:=[.string x,.string d.name]) J rfl (by kernel_rfl)) rfl fun a J=>?_
 refine z1r J rfl rfl rfl (by intro c h;cases h) (vY J rfl rfl (hy.go (pr++pre.map (fun s=>(s,d.name))) (x,d.name) _ z (.blk l_ d1::.blk R (ob [.string d.name,.string d.name,.slice D d.params.length c143,.string d.result,.int .i64 (d.body.kind),.int .i64 (d.body.num),.string d.body.name,.slice r d.body.args.length g,.slice t d.body.arms.length o] 131)::.blk P (ob [.string d.name,.slice D d.params.length c143,.string d.result,.int .i64 (d.body.kind),.int .i64 (d.body.num),.string d.body.name,.slice r d.body.args.length g,.slice t d.body.arms.length o] 112)::.blk E (ob [.func K H I] 143)::.blk b (ob [.pointer (some ⟨gb,0,none⟩)] 66)::(G0++vM ds)) w (by rw [W,zA U,List.flatMap_cons,wO,toP,y1];simp only [List.map_append,List.map_cons,List.append_assoc,List.cons_append];rfl) N) fun w h0 a J=>?_)
 obtain ⟨k1,N⟩:=h0
 replace N:=N.nf
 refine yZ J (by intro c h;cases h) (z4c J rfl) rfl fun a J=>?_
 refine nC ?_
 apply y0
 refine if_fI J rfl ?_
 refine skipI ?_
 refine ⟨rfl,k1,?_⟩
 rw [List.map_append,List.map_cons,List.map_nil,<- List.append_assoc]
 exact Mem.unrot (A:=[.blk l_ d1,.blk R (ob [.string d.name,.string d.name,.slice D d.params.length c143,.string d.result,.int .i64 (d.body.kind),.int .i64 (d.body.num),.string d.body.name,.slice r d.body.args.length g,.slice t d.body.arms.length o] 131),.blk P (ob [.string d.name,.slice D d.params.length c143,.string d.result,.int .i64 (d.body.kind),.int .i64 (d.body.num),.string d.body.name,.slice r d.body.args.length g,.slice t d.body.arms.length o] 112),.blk E (ob [.func K H I] 143),.blk b (ob [.pointer (some ⟨gb,0,none⟩)] 66)]) N
 exact (q7g R0.1 (by assumption) A0.1 L1 N).mono fun e_ w h=>let ⟨z,h1,_,h2⟩:=h;⟨_,z,h1,h2⟩
 replace N:Mem Φ (.blk S.1 (ob [.string d.name,.string d.name,.slice D d.params.length c143,.string d.result,.int .i64 (d.body.kind),.int .i64 (d.body.num),.string d.body.name,.slice r d.body.args.length g,.slice t d.body.arms.length o] 131)::.blk S.2 (ob [.int .i64 (d.body.kind),.int .i64 (d.body.num),.string d.body.name,.slice r d.body.args.length g,.slice t d.body.arms.length o] 110)::.blk R (ob [.string d.name,.string d.name,.slice D d.params.length c143,.string d.result,.int .i64 (d.body.kind),.int .i64 (d.body.num),.string d.body.name,.slice r d.body.args.length g,.slice t d.body.arms.length o] 131)::.blk P (ob [.string d.name,.slice D d.params.length c143,.string d.result,.int .i64 (d.body.kind),.int .i64 (d.body.num),.string d.body.name,.slice r d.body.args.length g,.slice t d.body.arms.length o] 112)::.blk E (ob [.func K H I] 143)::.blk b (ob [.pointer (some ⟨gb,0,none⟩)] 66)::vM (Dk::ds)++KY (pr++(wW d.name d.body).map (fun s=>(s,d.name))) z) w:=Mem.mid (A:=[.blk Dk (.deferred (some []))]) (B:=[.blk S.1 (ob [.string d.name,.string d.name,.slice D d.params.length c143,.string d.result,.int .i64 (d.body.kind),.int .i64 (d.body.num),.string d.body.name,.slice r d.body.args.length g,.slice t d.body.arms.length o] 131),.blk S.2 (ob [.int .i64 (d.body.kind),.int .i64 (d.body.num),.string d.body.name,.slice r d.body.args.length g,.slice t d.body.arms.length o] 110),.blk R (ob [.string d.name,.string d.name,.slice D d.params.length c143,.string d.result,.int .i64 (d.body.kind),.int .i64 (d.body.num),.string d.body.name,.slice r d.body.args.length g,.slice t d.body.arms.length o] 131),.blk P (ob [.string d.name,.slice D d.params.length c143,.string d.result,.int .i64 (d.body.kind),.int .i64 (d.body.num),.string d.body.name,.slice r d.body.args.length g,.slice t d.body.arms.length o] 112),.blk E (ob [.func K H I] 143),.blk b (ob [.pointer (some ⟨gb,0,none⟩)] 66)]) (C:=vM ds++KY (pr++(wW d.name d.body).map (fun s=>(s,d.name))) z) N
 replace N:=N.nf
 refine yO call104 (fun j1 w t1 N a J=>?_) (c:=x4i hy hv I1 J1 K1 G (R0.1) (K0:=(.blk S.1 (ob [.string d.name,.string d.name,.slice D d.params.length c143,.string d.result,.int .i64 (d.body.kind),.int .i64 (d.body.num),.string d.body.name,.slice r d.body.args.length g,.slice t d.body.arms.length o] 131)::.blk S.2 (ob [.int .i64 (d.body.kind),.int .i64 (d.body.num),.string d.body.name,.slice r d.body.args.length g,.slice t d.body.arms.length o] 110)::.blk R (ob [.string d.name,.string d.name,.slice D d.params.length c143,.string d.result,.int .i64 (d.body.kind),.int .i64 (d.body.num),.string d.body.name,.slice r d.body.args.length g,.slice t d.body.arms.length o] 131)::.blk P (ob [.string d.name,.slice D d.params.length c143,.string d.result,.int .i64 (d.body.kind),.int .i64 (d.body.num),.string d.body.name,.slice r d.body.args.length g,.slice t d.body.arms.length o] 112)::.blk E (ob [.func K H I] 143)::.blk b (ob [.pointer (some ⟨gb,0,none⟩)] 66)::vM (Dk::ds))) (p0:=(pr++toP d.name d.name d.body)) (q0:=_) b0 (A0.1) (A0.2) (by rw [W,zA U,List.flatMap_cons,wO];simp only [List.append_assoc,List.cons_append,List.nil_append];rfl) N)
 refine go fun a J=>?_
 replace N:=N.dl [3,2,1,0]
 refine x0 _ _ _ (by subst T;omega) ⟨(i+1),(((pr++toP d.name d.name d.body)++jK (yC c) d.name d.body)),(j1),((Dk::ds)),rfl,J.pk,N,?_⟩
 rw [W,zA U,List.flatMap_cons,wO];simp only [List.append_assoc,List.cons_append,List.nil_append]
 refine go fun a J=>?_
 replace N:=N.dl [0]
 replace N:Mem Φ (vM ds++(.blk b (ob [.pointer (some ⟨gb,0,none⟩)] 66)::KY pr zz)) w:=Mem.mid (A:=[.blk b (ob [.pointer (some ⟨gb,0,none⟩)] 66)]) (B:=vM ds) (C:=KY pr zz) N
 refine hQ _ _ _ (retX0N (ds:=ds) J results102 N fun w N=>?_)
 have h_:=W
 rw [zB j0,List.flatMap_nil,List.append_nil] at h_
 rw [h_];exact ⟨_,rfl,trivial,N⟩
section
variable {Φ:Fz} {K:List Res} {w:World}
def ixG (s:Bs):List Bs->Nat->Int
 | [],_=>-1
 | x::l,i=>if s=x then ((i:Nat):Int) else ixG s l (i+1)
theorem y5n (s:Bs):∀(l:List Bs) (i:Nat),decide (0<=ixG s l i)=decide (s∈l)
 | [],_=>by simp [ixG]
 | x::l,i=>by
  by_cases h:s=x
  simp [ixG,h]
  simp only [ixG,if_neg h,y5n s l (i+1)];simp [h]
theorem RFlow.ones (Φ:Fz) (cs:List Value) (x:Flow) (h:RFlow Φ cs x):cs.all Value.oneCell'=true:=by rw [h];rfl
theorem y5f {Φ:Fz} {w:World} {σ:Type} {step:σ->Flow->Bool×σ} {Kf:σ->List Res} {g:Nat} {fs cs:List Value} {s0:σ} {v0:Value} {l:List Flow} (hl:SliceOf RFlow Φ 2 v0 l)
  (v:∀args w,(callFunc g args).run prog w=.ok (.enter g args) w)
  (u:∀s x c w,x∈l->RFlow Φ c x->Mem Φ (Kf s) w->Calls prog g (fs++[Value.agg c.toArray]++cs).toArray w (fun e w'=>e=.returned (.bool (step s x).1)/\Mem Φ (Kf (step s x).2) w'))
  (N:Mem Φ (Kf s0) w):Calls prog 106 #[v0,.func (.func g) fs.toArray cs.toArray] w (fun e w'=>e=.returned (.int .i64 (yX step s0 l 0).1)/\Mem Φ (Kf (yX step s0 l 0).2) w'):=by
 obtain ⟨p0,c0,rfl,y,n⟩:=hl.fm
 refine zL func106 ntmps106 fun Q hQ a J=>?_
 refine go fun a J=>?_
 refine jS (fun mm a w=>∃(i:Nat) (s:σ),mm=l.length - i/\EnvR 19 [(0,.slice p0 l.length c0),(1,.func (.func g) (List.toArray fs) (List.toArray cs)),(7,.int .i64 l.length),(8,.int .i64 i)] [] a/\Mem Φ (Kf s) w/\(yX step s0 l 0=yX step s (l.drop i) i)) (l.length - 0) ⟨0,s0,rfl,J.pk,N,rfl⟩ ?_
 clear N J
 rintro mm a w ⟨i,s,m,J,N,j⟩ A k
 by_cases q:i < l.length
 refine go fun a J=>?_
 obtain ⟨z,rfl,o,f,p,t,r,h⟩:=hl.el n q
 obtain rfl:=id h
 refine q3b v (fun d w N a J=>?_) (fun d w N a J=>?_) (c:=by exact u s _ _ _ (mgQ f) h N)
 refine zD ?_
 have b:=j
 rw [zA f] at b
 simp only [yX,d,if_true] at b
 rw [b]
 exact ⟨rfl,N⟩
 refine go fun a J=>?_
 refine k _ _ _ (by subst m;omega) ⟨(i+1),((step s o).2),rfl,J.pk,N,?_⟩
 rw [j,zA f];simp [yX,d]
 refine zD ?_
 have b:=j
 rw [zB q] at b
 simp only [yX] at b
 rw [b]
 exact ⟨rfl,N⟩
theorem z5w {Φ:Fz} {w:World} {σ:Type} {step:σ->Flow->Bool×σ} {Kf:σ->List Res} {g:Nat} {fs cs:List Value} {s0:σ} {v0:Value} {l:List Flow} (hl:SliceOf RFlow Φ 2 v0 l)
  (d:∀args w,(callFunc g args).run prog w=.ok (.enter g args) w)
  (b:∀s x c w,x∈l->RFlow Φ c x->Mem Φ (Kf s) w->Calls prog g (fs++[Value.agg c.toArray]++cs).toArray w (fun e w'=>e=.returned (.bool (step s x).1)/\Mem Φ (Kf (step s x).2) w'))
  (N:Mem Φ (Kf s0) w):Calls prog 71 #[v0,.func (.func g) fs.toArray cs.toArray] w (fun e w'=>e=.returned (.bool (z8s step s0 l))/\Mem Φ (Kf (yX step s0 l 0).2) w'):=by
 obtain ⟨p0,c0,rfl,f,i⟩:=hl.fm
 refine Calls.mono (R:=fun e w'=>e=.returned (.bool (decide (0<=(yX step s0 l 0).1)))/\Mem Φ (Kf (yX step s0 l 0).2) w') ?_ (fun e w' h=>by rw [kO] at h;exact h)
 refine zL func71 ntmps71 fun Q hQ a J=>?_
 refine zT call106 (fun w N a J=>?_) (c:=y5f (Φ:=Φ) (step:=step) (Kf:=Kf) (s0:=s0) (l:=l) hl d b N)
 refine Qq (fun a J=>?_) (o:=by exact fun J O=>z2s J rfl rfl)
 refine zD ?_
 exact ⟨rfl,N⟩
theorem q3e {p:Flow->Bool} {g:Nat} {fs cs:List Value} {v0:Value} {l:List Flow} (hl:SliceOf RFlow Φ 2 v0 l)
  (d:∀args w,(callFunc g args).run prog w=.ok (.enter g args) w)
  (b:∀x c w,x∈l->RFlow Φ c x->Mem Φ K w->Calls prog g (fs++[Value.agg c.toArray]++cs).toArray w (fun e w'=>e=.returned (.bool (p x))/\Mem Φ K w'))
  (N:Mem Φ K w):Calls prog 71 #[v0,.func (.func g) fs.toArray cs.toArray] w (fun e w'=>e=.returned (.bool (l.any p))/\Mem Φ K w') :=
 (z5w (σ:=Unit) (step:=fun s x=>(p x,s)) (Kf:=fun _=>K) (s0:=()) hl d (fun _ x c w f a N=>b x c w f a N) N).mono (fun e w' h=>by rw [aF] at h;exact h)
theorem x6l {v:Value} {l:List Bs} {s:Bs} (rl:SliceOf RStr Φ 1 v l) (N:Mem Φ K w) :
  Calls prog 83 #[v,.string s] w (fun ee w'=>ee=.returned (.int .i64 (ixG s l 0))/\Mem Φ K w'):=by
 obtain ⟨t,c2,rfl,p,m⟩:=rl.fm
 refine zL func83 ntmps83 fun Q hQ a J=>?_
 refine go fun a J=>?_
 refine zU (J.ks [0,1,7]) N (fun R mm a w=>∃(i:Nat),mm=l.length - i/\R Φ [(8,.int .i64 i)] [] a w/\(ixG s l 0=ixG s (l.drop i) i)) (l.length - 0) ⟨0,rfl,⟨J.pk,N⟩,rfl⟩ ?_
 clear N J
 rintro mm a w ⟨i,k,⟨J,N⟩,c⟩ r j
 by_cases e:i < l.length
 refine go fun a J=>?_
 obtain ⟨q,rfl,h,b,d,o,n,g⟩:=rl.el m e
 obtain rfl:d=[.string h]:=g
 by_cases f:s=h
 refine zD ?_
 rw [c,zA b,ixG,if_pos f];exact ⟨rfl,N⟩
 refine go fun a J=>?_
 refine j _ _ _ (by subst k;omega) ⟨(i+1),rfl,⟨J.pk,N⟩,?_⟩
 rw [c,zA b,ixG,if_neg f]
 refine zD ?_
 rw [c,zB e];exact ⟨rfl,N⟩
theorem z1f {v:Value} {l:List Bs} {s:Bs} (rl:SliceOf RStr Φ 1 v l) (N:Mem Φ K w) :
  Calls prog 48 #[v,.string s] w (fun ee w'=>ee=.returned (.bool (decide (s∈l)))/\Mem Φ K w'):=by
 obtain ⟨e,c2,rfl,b,d⟩:=rl.fm
 rw [<- y5n s l 0]
 refine zL func48 ntmps48 fun Q hQ a J=>?_
 refine zT call83 (fun w N a J=>?_) (c:=x6l (l:=l) rl N)
 refine Qq (fun a J=>?_) (o:=by exact fun J O=>z2s J rfl rfl)
 refine zD ?_
 exact ⟨rfl,N⟩
theorem x4b {v u:Value} {l m:List Bs} (rl:SliceOf RStr Φ 1 v l) (rm:SliceOf RStr Φ 1 u m) (N:Mem Φ K w) :
  Calls prog 68 #[v,u] w (fun ee w'=>ee=.returned (.bool (decide (l=m)))/\Mem Φ K w'):=by
 obtain ⟨M,c2,rfl,E,y⟩:=rl.fm
 obtain ⟨P,L,rfl,F,z⟩:=rm.fm
 refine zL func68 ntmps68 fun Q hQ a J=>?_
 by_cases s:l.length=m.length
 refine go fun a J=>?_
 refine zU (J.ks [0,1,12]) N (fun R mm a w=>∃(i:Nat),mm=l.length - i/\R Φ [(13,.int .i64 i)] [] a w/\((l=m↔l.drop i=m.drop i))) (l.length - 0) ⟨0,rfl,⟨J.pk,N⟩,Iff.rfl⟩ ?_
 clear N J
 rintro mm a w ⟨i,t,⟨J,N⟩,b⟩ G j
 by_cases g:i < l.length
 refine Reg [1,1,1,2,1,1,1,2,1] [] fun w N a J=>?_
 refine go fun a J=>?_
 obtain ⟨H,rfl,p,c,e,C,A,n⟩:=rl.el y g
 obtain rfl:e=[.string p]:=n
 refine go fun a J=>?_
 have k:i < m.length:=by omega
 obtain ⟨I,rfl,q,d,f,D,B,o⟩:=rm.el z k
 obtain rfl:f=[.string q]:=o
 by_cases h:p=q
 refine go fun a J=>?_
 refine j _ _ _ (by subst t;omega) ⟨(i+1),rfl,⟨J.pk,N⟩,?_⟩
 rw [b,zA c,zA d,h];simp
 refine zD ?_
 rw [decide_eq_false (fun r=>h (by have h_:=b.1 r;rw [zA c,zA d] at h_;exact (List.cons.inj h_).1))];exact ⟨rfl,N⟩
 refine zD ?_
 rw [decide_eq_true (b.2 (by rw [zB g,zB (by omega)]))];exact ⟨rfl,N⟩
 refine zD ?_
 rw [decide_eq_false (fun r=>s (by rw [r]))];exact ⟨rfl,N⟩
end
def walkV (b:Addr):Value:=.func (.func 67) #[.pointer (some b)] #[]
def RGraph (Φ:Fz) (b:Addr) (g:Graph):Prop:=∃d0 nd fl pm nb nm,At Φ b (d0++[nd,fl,pm,.map (some nb),walkV b])/\RCore Φ d0 g.core/\SliceOf RStr Φ 1 nd g.nodes/\SliceOf RFlow Φ 2 fl g.flows/\MapAt Φ nb nm/\MapRel (fun v x=>SliceOf RStr Φ 1 v x) nm g.next
theorem tW {Φ:Fz} {K:List Res} {w:World} {b:Addr} {g:Graph} (rg:RGraph Φ b g) (hz:∀p∈g.core.inputs,p.name.size<=1000) (hn:g.core.inputs.length<=1000000000) (N:Mem Φ K w) :
  Calls Tryz.prog 39 #[.pointer (some b)] w (fun ee w'=>∃v:Value,ee=.returned v/\True/\Mem Φ (.gs v 9 1 (strs (zV g.core))::K) w'):=by
 obtain ⟨d1,j0,c0,r0,i0,k0,E,m,A,n,V,W⟩:=id rg
 have X:=m
 obtain ⟨l0,Z,m0,c22,n0,a0,o0,b0,rfl,d0,r,e0,f0,G,M,H,k,I,P,L,S⟩:=RCore.fm m
 obtain ⟨p0,c38,rfl,t,T⟩:=A.fm
 obtain ⟨q0,c42,rfl,y,U⟩:=n.fm
 refine zL Tryz.func39 Tryz.ntmps39 fun Q hQ a J=>?_
 refine go fun a J=>?_
 replace N:=N.nilRow 9 1
 replace N:=N.nf
 refine go fun a J=>?_
 refine zU (J.ks [10,11]) N (fun R mm a w=>∃(i:Nat) (u:Value) (acc:List Bs),mm=g.core.inputs.length - i/\R Φ [(3,u),(12,.int .i64 i)] [(0,.gs (u) 9 1 (strs acc))] a w/\(zV g.core=acc++(g.core.inputs.drop i).map (fun p=>inN p.name))) (g.core.inputs.length - 0) ⟨0,.slice none 0 0,[],rfl,⟨J.pk,N⟩,rfl⟩ ?_
 clear N J
 rintro mm a w ⟨i,u,acc,s,⟨J,N⟩,d⟩ Y j
 replace N:=N.nf
 by_cases h:i < g.core.inputs.length
 refine go fun a J=>?_
 obtain ⟨s0,rfl,e,f,C,F,D,l⟩:=r.el k h
 obtain rfl:=id l
 refine Alc fun q w N a J=>?_
 refine Sto 0 fun w N a J=>?_
 have h0:=hz _ (mgQ f)
 refine qO fun a J=>?_
 refine zT Tryz.call40 (fun w N a J=>?_) (c:=y5a (by omega) N)
 refine jQ fun B w N a J=>?_
 refine vH 2 xQ (fun o w N a J=>?_) (hb:=by have z:=congrArg List.length d;simp only [zV,List.length_map,laQ,List.length_drop,zR,lcQ,lnQ] at z ⊢;omega)
 replace N:Mem Φ (.gs (B) 9 1 [.string (inN e.name)]::.blk q (ob [.string e.name,.string e.type] 36)::.gs (o) 9 1 (strs (acc++[inN e.name]))::K) w:=by rw [qI] at N;exact N
 refine go fun a J=>?_
 replace N:=N.dl [1,0]
 refine j _ _ _ (by subst s;omega) ⟨(i+1),(o),((acc++[inN e.name])),rfl,⟨J.pk,N⟩,?_⟩
 rw [d,zA f];simp
 refine zD ?_
 have h_:=d
 rw [zB h,List.map_nil,List.append_nil] at h_
 rw [h_];exact ⟨_,rfl,trivial,N⟩
inductive PlanT where
 | q (i:Nat) (p:PlanT)
 | e3 (i j k:Nat) (p q r:PlanT)
 | e4 (i j k m:Nat) (p q r s:PlanT)
 | pl (p:Plan)
def mU (md:Region.Mode) (ops:Array Oper) (kd:List Nat):PlanT->Array Bool->Bool
 | .pl p,l=>oH md ops kd p l
 | .q i p,l=>(Region.ready md ops l).contains i&&Region.free md ops l i&&qM kd i != 0&&mU md ops kd p (l.setIfInBounds i true)
 | .e3 i j k p q r,l=>Region.ready md ops l==[i,j,k]&&[i,j,k].all (qM kd ·==0)&&mU md ops kd p (l.setIfInBounds i true)&&mU md ops kd q (l.setIfInBounds j true)&&mU md ops kd r (l.setIfInBounds k true)
 | .e4 i j k m p q r s,l=>Region.ready md ops l==[i,j,k,m]&&[i,j,k,m].all (qM kd ·==0)&&mU md ops kd p (l.setIfInBounds i true)&&mU md ops kd q (l.setIfInBounds j true)&&mU md ops kd r (l.setIfInBounds k true)&&mU md ops kd s (l.setIfInBounds m true)
def PlanT.len:PlanT->Nat
 | .pl p=>p.len
 | .q _ p=>p.len+1
 | .e3 _ _ _ p _ _=>p.len+1
 | .e4 _ _ _ _ p _ _ _=>p.len+1
def PlanT.even:PlanT->Bool
 | .pl p=>p.even
 | .q _ p=>p.even
 | .e3 _ _ _ p u r=>p.even&&u.even&&r.even&&p.len==u.len&&p.len==r.len
 | .e4 _ _ _ _ p u r s=>p.even&&u.even&&r.even&&s.even&&p.len==u.len&&p.len==r.len&&p.len==s.len
section
variable {P:Program} {md:Region.Mode} {ops:Array Oper} {B:World->Prop} {kd:List Nat} {Qp:List PanicEntry->World->Prop}
def xP (P:Program) (md:Region.Mode) (ops:Array Oper) (B:World->Prop) (kd:List Nat) (Qp:List PanicEntry->World->Prop) (Q:Act->World->Prop):PlanT->Act->World->Prop
 | .pl p,a,w=>yE P md ops B kd Qp Q p a w
 | .q i p,a,w=>vV P md ops B kd Qp i (xP P md ops B kd Qp Q p) a w
 | .e3 i j k p q r,a,w=>vV P md ops B kd Qp i (xP P md ops B kd Qp Q p) a w/\vV P md ops B kd Qp j (xP P md ops B kd Qp Q q) a w/\vV P md ops B kd Qp k (xP P md ops B kd Qp Q r) a w
 | .e4 i j k m p q r s,a,w=>vV P md ops B kd Qp i (xP P md ops B kd Qp Q p) a w/\vV P md ops B kd Qp j (xP P md ops B kd Qp Q q) a w/\vV P md ops B kd Qp k (xP P md ops B kd Qp Q r) a w/\vV P md ops B kd Qp m (xP P md ops B kd Qp Q s) a w
theorem xJ {Q:Act->World->Prop} (O:Region.noSelect ops=true):∀(p:PlanT) (listed:Array Bool) (a:Act) (w:World),p.even=true->mU md ops kd p listed=true ->
  xP P md ops B kd Qp Q p a w->y9e P md ops B kd Qp Q p.len listed a w
 | .pl p,l,a,w,b,c,h=>vN O p l a w b c h
 | .q i p,l,a,w,b,c,h=>by
  simp only [mU,baQ,List.contains_iff_mem,bne_iff_ne,ne_eq] at c
  obtain ⟨⟨⟨hr,F⟩,A⟩,c⟩:=c
  obtain ⟨_,o,n,_⟩:=mem_ready.1 hr
  unfold xP vV at h
  simp only [n] at h
  by_cases t:Region.wanted o (yielded ops a.tmps)=true
  ·rw [if_pos t,if_neg A] at h
   obtain ⟨v,h1,g⟩:=h
   exact z0s n (Region.noSelect_spec O) A _ _ _ _ (Region.free_spec n F) hr (.inl ⟨t,h1⟩) (xJ O p _ _ _ b c g)
  ·rw [if_neg t] at h
   exact z0s n (Region.noSelect_spec O) A _ _ _ _ (Region.free_spec n F) hr (.inr ⟨by simpa using t,rfl⟩) (xJ O p _ _ _ b c h)
 | .e3 i j k p q r,l,a,w,b,c,h=>by
  simp only [mU,baQ,beq_iff_eq] at c
  obtain ⟨⟨⟨⟨hr,_⟩,c⟩,hq⟩,e⟩:=c
  simp only [PlanT.even,baQ,beq_iff_eq] at b
  obtain ⟨⟨⟨⟨u,e2⟩,e3⟩,D⟩,E⟩:=b
  obtain ⟨h1,g,z⟩:=h
  simp only [PlanT.len,y9e]
  refine ⟨fun y=>(by rw [y] at hr;cases hr),fun x f=>?_⟩
  rw [hr] at f
  simp only [List.mem_cons,List.not_mem_nil,or_false] at f
  rcases f with rfl | rfl | rfl
  ·exact pN (fun a' w' _ d=>xJ O p _ _ _ u c d) h1
  ·exact pN (fun a' w' _ d=>by rw [D];exact xJ O q _ _ _ e2 hq d) g
  ·exact pN (fun a' w' _ d=>by rw [E];exact xJ O r _ _ _ e3 e d) z
 | .e4 i j k m p q r s,l,a,w,b,c,h=>by
  simp only [mU,baQ,beq_iff_eq] at c
  obtain ⟨⟨⟨⟨⟨hr,_⟩,c⟩,hq⟩,e⟩,C⟩:=c
  simp only [PlanT.even,baQ,beq_iff_eq] at b
  obtain ⟨⟨⟨⟨⟨⟨u,e2⟩,e3⟩,e4⟩,D⟩,E⟩,H⟩:=b
  obtain ⟨h1,g,z,G⟩:=h
  simp only [PlanT.len,y9e]
  refine ⟨fun y=>(by rw [y] at hr;cases hr),fun x f=>?_⟩
  rw [hr] at f
  simp only [List.mem_cons,List.not_mem_nil,or_false] at f
  rcases f with rfl | rfl | rfl | rfl
  ·exact pN (fun a' w' _ d=>xJ O p _ _ _ u c d) h1
  ·exact pN (fun a' w' _ d=>by rw [D];exact xJ O q _ _ _ e2 hq d) g
  ·exact pN (fun a' w' _ d=>by rw [E];exact xJ O r _ _ _ e3 e d) z
  ·exact pN (fun a' w' _ d=>by rw [H];exact xJ O s _ _ _ e4 C d) G
def planBT (ops:Array Oper) (kd:List Nat) (p:PlanT):Bool:=Region.noSelect ops&&p.even&&p.len==ops.size&&mU .any ops kd p (Array.replicate ops.size false)
section
variable {n:Nat} {E:List (Nat×Value)} {D:List Deferred} {a:Act} {Φ:Fz} {K:List Res} {w:World}
theorem q4v {id:Nat} {l:List Oper} {Q:Exit->Act->World->Prop} (kd:List Nat) (p:PlanT) (K':List Res) (J:EnvR n E D a) (N:Mem Φ K w) (g:P.follows .mixedOrders=true) (e:planBT l.toArray kd p=true) (f:∀r∈K',r∈K)
  (h:∀w,Mem Φ K w->xP P .any l.toArray (Sees Φ K') kd (fun c w=>∀a,a.defers=D->Q (.panic c) a w) (Q .normal) p a w):(Code.region id l.toArray true).wp P Q a w:=by
 have hm':=N.drew
 simp only [planBT,baQ,beq_iff_eq] at e
 obtain ⟨⟨⟨O,b⟩,hl⟩,d⟩:=e
 refine (wpIn_wide (n:=3)).1 (wpIn_region_any g (cD (r:=none) (Inv:=fun a=>a.defers=D) (kd:=kd) (B:=Sees Φ K') (Qp:=fun c w=>∀a,a.defers=D->Q (.panic c) a w) (Q:=Q .normal) (fun h=>absurd rfl h) (fun i o a v _ J=>by cases j:o.dst <;> exact J) (fun _ _ h=>h) (fun c a w J h=>h a J) _ _ _ _ J.defs (fun _=>⟨hm'.fz,fun r hr=>hm'.own r (f r hr)⟩) ?_))
 have:=xJ O p _ _ _ b d (h _ hm')
 rw [hl] at this
 exact this
variable {Q:Act->World->Prop} {d:Nat} {v:Value} {op:Op} {ty:TypeId} {pos:String} {aft:Array Edge} {i j k m:Nat} {p q r s:PlanT} {L:Act->World->Prop}
theorem drOp_q (J:EnvR n E D a) (e:ops[i]? = some ⟨some d,op,ty,pos,aft,none⟩) (b:qM kd i=2) (f:∀w,B w->Ok P a op ty w v) (c:Nat.blt d n=true)
  (k:∀a,EnvR n ((d,v)::E) D a->L a w):vV P .any ops B kd Qp i L a w:=by
 unfold vV
 simp only [e]
 rw [if_pos (aM rfl _),if_neg (by rw [b];decide)]
 exact ⟨v,fun w g=>f w (g b) _ _ _ _,k _ (J.put c)⟩
theorem t_q (h:vV P .any ops B kd Qp i (xP P .any ops B kd Qp Q p) a w):xP P .any ops B kd Qp Q (.q i p) a w:=h
theorem y2j {p:Plan} (h:yE P .any ops B kd Qp Q p a w):xP P .any ops B kd Qp Q (.pl p) a w:=h
theorem t_e3 (h1:vV P .any ops B kd Qp i (xP P .any ops B kd Qp Q p) a w) (b:vV P .any ops B kd Qp j (xP P .any ops B kd Qp Q q) a w) (c:vV P .any ops B kd Qp k (xP P .any ops B kd Qp Q r) a w):xP P .any ops B kd Qp Q (.e3 i j k p q r) a w:=⟨h1,b,c⟩
theorem t_e4 (h1:vV P .any ops B kd Qp i (xP P .any ops B kd Qp Q p) a w) (b:vV P .any ops B kd Qp j (xP P .any ops B kd Qp Q q) a w) (c:vV P .any ops B kd Qp k (xP P .any ops B kd Qp Q r) a w) (d:vV P .any ops B kd Qp m (xP P .any ops B kd Qp Q s) a w):xP P .any ops B kd Qp Q (.e4 i j k m p q r s) a w:=⟨h1,b,c,d⟩
end
end
section
variable {P:Program} {Φ:Fz} {K:List Res} {w:World}
theorem j4x {α β:Type} {n gf p:Nat} {E:List (Nat×Value)} {Dd:List Deferred} {a:Act} {g:Operand} {assign body:Code} {Q:Exit->Act->World->Prop} {fs cs:List Value}
  (items:List α) (arg:α->Value) (KX:List Res) (KV:List α->β->List Res) (z0:β)
  (J:EnvR n E Dd a) (N:Mem Φ (KX++KV [] z0) w) (D:ev E g=some (.func (.func gf) fs.toArray cs.toArray)) (C:∀args w,(callFunc gf args).run P w=.ok (.enter gf args) w) (H:Nat.blt p n=true)
  (hr:∀pre x post z l o o2 K' a w,items=pre++x::post->EnvR n ((p,arg x)::E) [] a->Mem Φ (.blk l o::(KV pre z++K')) w ->
   assign.wpIn (FO (some l)) 2 P (Exit.then (fun s I=>∃K1,Mem Φ (.blk l o::K1) I/\∀q,Mem Φ (.blk l o2::K1) q ->
    body.wpIn (FO (some l)) 2 P (fun e _ w=>e=.normal/\∃z,Mem Φ (.blk l o2::(KV (pre++[x]) z++K')) w) s q) (fun _ _ _=>False)) a w)
  (A:∀(y:Value) (KY:List α->β->List Res) (w:World),Takes P Φ y (fun x=>[arg x]) items KY->(∀pre z K0 w,Mem Φ (K0++KY pre z) w->∃K1,Mem Φ (K1++KV pre z) w)->Mem Φ (KX++KY [] z0) w->Calls P gf (fs++[y]++cs).toArray w (fun e w'=>∃v z,e=.returned v/\Mem Φ (KX++KY items z) w'))
  (kn:∀Dk z a w,EnvR n E ({ target:=.collected Dk,args:=#[] }::Dd) a->Mem Φ (.blk Dk (.deferred (some []))::(KX++KV items z)) w->Q .normal a w):(Code.rangeFunc g #[p] assign body).wp P Q a w:=by
 refine z7q (β:=β) (δ:=Unit) (F1:=fun _=>Φ) (KO:=fun z=>KX++KV items z) (KE:=fun _=>[]) (G:=fun _=>True) (B:=fun _ _=>False) J N D C (fun Dk l r w c has f m k u N=>?_) (fun Dk z a w _ J N=>kn Dk z a w J N) (fun _ _ _ _ _ h=>h.elim)
 subst has;subst f
 have key:=A (.func (.yield l) #[] #[]) (fun pre z=>.blk l (.loop r)::.blk Dk (.deferred (some []))::KV pre z) w ⟨⟨_,_,_,rfl⟩,fun pre x post z K0 w j N=>.inr ⟨l,rfl,?_⟩⟩ (fun pre z K0 w N=>⟨K0++[.blk l (.loop r),.blk Dk (.deferred (some []))],by rw [List.append_assoc];exact N⟩) ?_
 ·refine key.mono fun e w' h=>?_
  obtain ⟨v,z,rfl,h⟩:=h
  refine .inl ⟨v,z,rfl,trivial,h.perm ?_⟩
  exact (List.perm_middle.trans (List.Perm.cons _ List.perm_middle))
 ·have b:Mem Φ (.blk l (.loop r)::(KV pre z++(.blk Dk (.deferred (some []))::K0))) w:=N.perm (List.perm_middle.trans (List.Perm.cons _ (List.perm_middle.trans ((List.Perm.cons _ List.perm_append_comm).trans List.perm_middle.symm))))
  have hl:w.heap[l]? = some (.loop r):=b.own _ msQ
  refine ⟨r.fn,r.tmps.setIfInBounds p (arg x),r.assign,r.body,?_,?_⟩
  ·rw [run_yield hl (by rw [c];rfl),c]
   simp
  ·have i:EnvR n ((p,arg x)::E) [] ⟨r.tmps.setIfInBounds p (arg x),[]⟩:=u.put (d:=p) H
   have h:=q2c (P:=P) (Φ:=Φ) (tmps:=r.tmps.setIfInBounds p (arg x)) (KO:=fun z=>KV (pre++[x]) z++(.blk Dk (.deferred (some []))::K0)) m k (hr pre x post z l _ _ _ _ _ j i b)
   refine h.mono fun e w' F=>?_
   obtain ⟨h1,z',t⟩:=F
   refine ⟨h1,z',t.perm ?_⟩
   exact ((List.Perm.cons _ ((List.perm_middle.trans (List.Perm.cons _ List.perm_append_comm)).trans List.perm_middle.symm)).trans List.perm_middle.symm)
 ·refine N.perm ?_
  exact ((List.Perm.cons _ List.perm_middle.symm).trans List.perm_middle.symm)
theorem Mem.see1 {r:Res} {K1:List Res} (h:Mem Φ (K1++(r::K)) w):Sees Φ [r] w:=⟨h.fz,fun x a=>h.own x (by rw [List.mem_singleton] at a;subst a;simp)⟩
theorem y7b {A B C:List Res}:(A++(B++C)).Perm (B++(A++C)):=by
 rw [<- List.append_assoc,<- List.append_assoc];exact List.perm_append_comm.append_right _
theorem x1e {A K':List Res} {NN:Next} {zf:Bs->Value} (s:Bs) (N:Mem Φ (A++((nxK NN zf++K)++K')) w):Mem Φ (.gs (zJ false (.slice none 0 0) (yM (nxM NN zf) s)) 9 1 (strs ((zK NN s).getD []))::(A++((nxK (z3s NN s) zf++K)++K'))) w:=by
 rw [List.append_assoc] at N ⊢
 have h:=x7l s (Mem.mid (A:=A) N)
 exact h.perm (List.Perm.cons _ y7b)
theorem j2t {A K':List Res} {NN:Next} {zf:Bs->Value} {s:Bs} {v:Value} {l:List Bs} (a:z1x NN) (N:Mem Φ (.gs v 9 1 (strs l)::(A++((nxK (z3s NN s) zf++K)++K'))) w):Mem Φ (A++((nxK (jP NN s l) (oT zf s v)++K)++K')) w:=by
 rw [List.append_assoc] at N ⊢
 have h:=x1d (K:=A++(K++K')) a (N.perm (List.Perm.cons _ y7b))
 exact Mem.mid (A:=nxK (jP NN s l) (oT zf s v)) h
end
section
variable {P:Program} {n:Nat} {E:List (Nat×Value)} {D:List Deferred} {a:Act} {Φ:Fz} {K:List Res} {w:World}
variable {dst:Option Tmp} {ty:TypeId} {pos:String} {aft:Array Edge} {g:Option (Nat×Bool)} {Kn:Value->World->Prop} {Qp:List PanicEntry->World->Prop}
theorem q6o (i:Nat) {s x:Operand} {t e:TypeId} {size bytes:Nat} {v vx:Value} {xs news:List Value} (A:RowT P t e size bytes) (J:EnvR n E D a) (N:Mem Φ K w)
  (O:ev E s=some v) (S:qU K i=some (.gs v e size xs)) (hx:ev E x=some vx) (hr:y9g w vx size news) (h1:news.all Value.oneCell'=true)
  (hb:∀n m,xs.length=n * size->news.length=m * size->((n+m)+(n+m) / 4+192) * bytes<=281474976710656)
  (k:∀v' w',Mem Φ (pU K i (.gs v' e size (xs++news))) w'->Kn v' w') :
  Oper.eff P ⟨dst,.call { callee:=.builtin .append,args:=#[s,x],argTypes:=#[t,t] },ty,pos,aft,g⟩ a w Kn Qp:=by
 obtain ⟨inf,z,L,U,l,G,R⟩:=A.info
 obtain ⟨nn,f⟩:=N.own _ (qV S)
 have V:=A.pos
 have Q:xs.length=nn * size:=f.1
 have o:∀v' w',(Builtin.append_ #[t,t] ty #[v,vx]).run P w=.ok v' w'->Kn v' w' ->
   Oper.eff P ⟨dst,.call { callee:=.builtin .append,args:=#[s,x],argTypes:=#[t,t] },ty,pos,aft,g⟩ a w Kn Qp:=by
  intro v' w' d X
  unfold Oper.eff
  have:(execOp a.eval ⟨dst,.call { callee:=.builtin .append,args:=#[s,x],argTypes:=#[t,t] },ty,pos,aft,g⟩).run P w=.ok (.value v') w':=by
   simp only [execOp,resolve,invoke,builtin,Sem.run_bind,Sem.run_pure,Result.andThen_ok,List.map_toArray,List.map_cons,List.map_nil,J.ev O,J.ev hx,d]
  rw [this]
  exact X
 rcases hr with ⟨rfl,rfl⟩ | ⟨q,m',c,rfl,hl,B⟩
 ·
  have r:∃p nn cap,v=.slice p nn cap/\nn<=cap:=by
   rcases f.2 with ⟨rfl,rfl⟩ | ⟨b,cap,cur,rfl,_,_,H,_⟩
   ·exact ⟨none,0,0,rfl,Nat.le_refl _⟩
   ·exact ⟨_,nn,cap,rfl,H⟩
  obtain ⟨p,nn',cap,rfl,H⟩:=r
  refine o (.slice p nn' cap) w ?_ (k _ _ ?_)
  ·cases p with
   | none=>simp [Builtin.append_,run_underlying A.under,sizeOf,typeInfo,L,Builtin.lenOf,Builtin.firstCells,H]
   | some q=>simp [Builtin.append_,run_underlying A.under,sizeOf,typeInfo,L,Builtin.lenOf,Builtin.firstCells,H,storeCells]
  ·rw [List.append_nil]
   exact N.upd S rfl rfl (fun _ _ _=>rfl) ⟨nn,f⟩ (.inl rfl)
 ·have C:((nn+m')+(nn+m') / 4+192) * bytes<=281474976710656:=hb nn m' Q hl
  have F:nn+m'<=Go.maxLen:=by
   have:=Nat.le_trans (Nat.le_mul_of_pos_right ((nn+m')+(nn+m') / 4+192) A.bpos) C
   simp only [Go.maxLen];omega
  have hsmall:nn+m'<=9223372036854775807:=by simp only [Go.maxLen] at F;omega
  rcases f.2 with ⟨rfl,rfl⟩ | ⟨b,cap,cur,rfl,_,Z,H,Y,T,_⟩
  ·obtain ⟨v',w',d,ho',h,_⟩:=run_append_own_wide (P:=P) w w.heap.size t ty e inf z size bytes A.under L U l G R V (.slice none 0 0) 0 xs ⟨f.1,.inl ⟨rfl,rfl⟩⟩ q m' c news hl B (fun u M=>List.all_eq_true.1 h1 u M) F C (Nat.le_refl _)
   refine o v' w' d (k _ _ (N.upd S h.os h.output (fun b hb I=>h.block b hb I) ⟨0+m',?_⟩ (.inr fun b hb=>(ho'.lt b hb).1)))
   exact ⟨ho'.1,ho'.2.imp id fun ⟨g,cap,cur,h1,_,W⟩=>⟨g,cap,cur,h1,Nat.zero_le _,W⟩⟩
  ·obtain ⟨v',w',d,ho',h,_⟩:=run_append_own_wide (P:=P) w 0 t ty e inf z size bytes A.under L U l G R V _ nn xs f q m' c news hl B (fun u M=>List.all_eq_true.1 h1 u M) F C (Nat.zero_le _)
   refine o v' w' d (k _ _ (N.upd S h.os h.output (fun b hb I=>h.block b hb I) ⟨nn+m',ho'⟩ ?_))
   by_cases y:nn+m'<=cap
   ·have r:nn * inf.size+news.length<=cur.size:=by rw [hl,T,l,<- Nat.add_mul];exact Nat.mul_le_mul_right _ y
    have hr:=run_append_room (P:=P) w t ty e inf A.under L b nn cap cur Z q m' c news (by rw [l];exact hl) B (fun u M=>List.all_eq_true.1 h1 u M) y r
    rw [hr] at d
    cases d
    exact .inl rfl
   ·have holds:∀j u,xs[j]? = some u->w.cell? ((⟨b,0,none⟩:Addr).add j)=some u:=f.cells (g:=b) rfl
    have hr:=run_append_grow (P:=P) w t ty e inf z A.under L U ⟨b,0,none⟩ nn cap xs (by rw [l];exact Q) holds q m' c news (by rw [l];exact hl) B (by omega) (by omega) (by rw [G];exact growslice_fits_wide (by omega) C)
    rw [hr] at d
    cases d
    exact .inr fun c H=>by simp [Res.foot,Value.ownBlock] at H;omega
end
theorem q8e {Φ:Fz} {m:List (Bs×Value)} {NN:Next} (hr:MapRel (fun v x=>SliceOf RStr Φ 1 v x) m NN) (s:Bs):SliceOf RStr Φ 1 (zJ false (.slice none 0 0) (yM m s)) (xB NN s):=by
 cases h:yM m s with
 | none=>rw [xB,hr.none h];exact SliceOf.nil 1
 | some v=>obtain ⟨x,h1,a⟩:=hr.get h;rw [xB,h1];exact a
def RI (nx:Next) (l:List Bs) (i:Nat) (o:From) (q:List Bs):Prop:=∃d,Bfs nx l i o q d/\i<=q.length/\yV nx l=z0f nx (pE nx l+1 - i) i o q
def VI (x:Bs) (ns:List Bs) (o:From) (q:List Bs) (i k:Nat) (o2:From) (q2:List Bs):Prop:=nM x (ns.drop k) o2 q2=nM x ns o q/\q2[i]? = some x
section
variable {nx:Next} {l:List Bs} {i k:Nat} {o o2:From} {q q2 ns:List Bs} {x n:Bs}
theorem RI.start:RI nx l 0 (vD l) l:=⟨_,y9m nx l,Nat.zero_le _,rfl⟩
theorem RI.len (h:RI nx l i o q):q.length<=pE nx l:=let ⟨_,h1,_⟩:=h;y2k h1
theorem RI.step (h:RI nx l i o q) (a:q[i]? = some x) (f:nM x (xB nx x) o q=(o2,q2)) (hl:q2[i]? = some x):RI nx l (i+1) o2 q2:=by
 have e:=h.len
 obtain ⟨d,h1,g,b⟩:=h
 obtain ⟨d',c⟩:=y3h h1 a
 have j:i < q.length:=(List.getElem?_eq_some_iff.1 a).1
 rw [show pE nx l+1 - i=(pE nx l+1 - (i+1))+1 by omega,y0x nx _ a,f] at b
 rw [f] at c
 exact ⟨d',c,(List.getElem?_eq_some_iff.1 hl).1,b⟩
theorem RI.fin (h:RI nx l i o q) (c:¬i < q.length):o=yV nx l:=by
 obtain ⟨d,h1,b,a⟩:=h
 rw [a,y7g nx _ (List.getElem?_eq_none_iff.2 (by omega))]
theorem x2n (x:Bs) (ns:List Bs) (o:From) (q:List Bs):q.length<=(nM x ns o q).2.length:=by
 obtain ⟨t,h,_⟩:=oQ x ns o q
 rw [h,laQ];omega
theorem VI.start (a:q[i]? = some x):VI x ns o q i 0 o q:=⟨rfl,a⟩
theorem VI.len (h:VI x (xB nx x) o q i k o2 q2) (hr:RI nx l i o q) (c:q[i]? = some x):q2.length<=pE nx l:=by
 obtain ⟨d,h1,e,f⟩:=hr
 obtain ⟨d',b⟩:=y3h h1 c
 have a:=y2k b
 rw [<- h.1] at a
 exact Nat.le_trans (x2n _ _ _ _) a
theorem VI.skip (h:VI x ns o q i k o2 q2) (c:ns[k]? = some n) {y:Bs} (b:zK o2 n=some y):VI x ns o q i (k+1) o2 q2:=by
 obtain ⟨h1,a⟩:=h
 rw [zA c] at h1
 exact ⟨by rw [<- h1,nM,b];rfl,a⟩
theorem VI.new (h:VI x ns o q i k o2 q2) (c:ns[k]? = some n) (b:zK o2 n=none):VI x ns o q i (k+1) (jP o2 n x) (q2++[n]):=by
 obtain ⟨h1,a⟩:=h
 rw [zA c] at h1
 exact ⟨by rw [<- h1,nM,b];rfl,by rw [List.getElem?_append_left (List.getElem?_eq_some_iff.1 a).1];exact a⟩
theorem VI.fin (h:VI x ns o q i k o2 q2) (a:¬k < ns.length):nM x ns o q=(o2,q2):=by
 obtain ⟨h1,b⟩:=h
 rw [zB a] at h1
 exact h1.symm
theorem VI.at (h:VI x ns o q i k o2 q2):q2[i]? = some x:=h.2
end
theorem tS {Φ:Fz} {K:List Res} {w:World} {b:Addr} {g:Graph} {v:Value} {l:List Bs} (rg:RGraph Φ b g) (hb:pE g.next l<=10000000000000) (N:Mem Φ (.gs v 9 1 (strs l)::K) w) :
  Calls prog 67 #[.pointer (some b),v] w (fun ee w'=>∃nb:Nat,ee=.returned (.map (some nb))/\True/\Mem Φ (.mp nb (yW (yV g.next l))::K) w'):=by
 obtain ⟨d1,j1,c1,s1,i1,k1,E0,i0,A0,j0,f0,g0⟩:=id rg
 have U0:=i0
 obtain ⟨l1,Y0,m1,c22,n1,Z0,o1,a1,rfl,e1,f1,g1,h1,J0,N0,K0,O0,L0,P0,M0,Q0⟩:=RCore.fm i0
 obtain ⟨p1,c38,rfl,q0,R0⟩:=A0.fm
 obtain ⟨q1,c42,rfl,r0,S0⟩:=j0.fm
 obtain ⟨w0,S,rfl⟩:=jW N (i:=0) rfl
 have H0:l.length<=10000000000000:=by unfold pE at hb;omega
 refine zL func67 ntmps67 fun Q hQ a J=>?_
 refine MkM fun C w N a J=>?_
 refine go fun a J=>?_
 replace N:=N.nf
 refine go fun a J=>?_
 refine zU (J.ks [0,1,5,14,15]) N (fun R mm a w=>∃(i:Nat) (X:From),mm=l.length - i/\R Φ [(16,.int .i64 i)] [(0,.mp C (yW X))] a w/\(vD l=(l.drop i).foldl (fun m s=>jP m s ⟨#[]⟩) X)) (l.length - 0) ⟨0,[],rfl,⟨J.pk,N⟩,rfl⟩ ?_
 clear N J
 rintro mm a w ⟨i,X,r,⟨J,N⟩,D⟩ V0 a0
 replace N:=N.nf
 by_cases U:i < l.length
 refine go fun a J=>?_
 obtain ⟨x0,F⟩:=N.toSees.gsSome (i:=1) rfl U
 obtain ⟨C0,L⟩:=zZ (l:=l) (i:=i) (by first | omega | exact (List.getElem?_eq_some_iff.1 (VI.at {I})).1)
 refine Qq (fun a J=>?_) (o:=by exact fun J O=>qX (p:=x0) i J (by rw [<- F];rfl) rfl runUnderlying25 sizeOf9 U)
 refine Qq (fun a J=>?_) (o:=by exact fun J O=>pR 1 i J O rfl (by rw [<- F];rfl) (z2l L) isAgg9)
 refine z4d 0 runUnderlying70 runUnderlying9 fun w N a J=>?_
 rw [dH] at N
 refine go fun a J=>?_
 refine a0 _ _ _ (by subst r;omega) ⟨(i+1),((jP X C0 (⟨#[]⟩:Bs))),rfl,⟨J.pk,N⟩,?_⟩
 rw [D,zA L];rfl
 refine go fun a J=>?_
 refine zU (J.ks [0,5]) N (fun R mm a w=>∃(i:Nat) (u:Value) (q:List Bs) (o:From),mm=pE g.next l - i/\R Φ [(1,u),(8,.int .i64 i)] [(0,.mp C (yW o)),(1,.gs (u) 9 1 (strs q))] a w/\(RI g.next l i o q)) (pE g.next l - 0) ⟨0,.slice w0 l.length S,l,X,rfl,⟨J.pk,N⟩,by have h_:=D;rw [zB U] at h_;rw [show X=vD l from h_.symm];exact RI.start⟩ ?_
 clear N J
 rintro mm a w ⟨i,u,q,o,r,⟨J,N⟩,h⟩ W0 b0
 replace N:=N.nf
 refine go fun a J=>?_
 obtain ⟨y0,T,rfl⟩:=jW N (i:=1) rfl
 have I0:=RI.len h
 by_cases V:i < q.length
 refine Reg [1,1,1,2,1,1,1,2,2,1,1] [0,1] fun w N a J=>?_
 refine go fun a J=>?_
 obtain ⟨z0,G⟩:=N.toSees.gsSome (i:=1) rfl V
 obtain ⟨j,n⟩:=zZ (l:=q) (i:=i) (by first | omega | exact (List.getElem?_eq_some_iff.1 (VI.at {I})).1)
 refine Qq (fun a J=>?_) (o:=by exact fun J O=>qX (p:=z0) i J (by rw [<- G];rfl) rfl runUnderlying25 sizeOf9 V)
 refine Qq (fun a J=>?_) (o:=by exact fun J O=>pR 1 i J O rfl (by rw [<- G];rfl) (z2l n) isAgg9)
 have z:=q8e g0 j
 obtain ⟨r1,b1,H,s0,c0⟩:=z.form (by decide)
 rw [H] at z
 refine Qq (fun a J=>?_) (o:=by exact fun J O=>Ok.cast (qA runUnderlying72 runUnderlying9 zeroValue25 J O rfl rfl f0) H)
 refine go fun a J=>?_
 refine zU (J.ks [0,5,8,37,38]) N (fun R mm a w=>∃(k:Nat) (u2:Value) (q2:List Bs) (o2:From),mm=(xB g.next j).length - k/\R Φ [(1,u2),(39,.int .i64 k)] [(0,.mp C (yW o2)),(1,.gs (u2) 9 1 (strs q2))] a w/\(VI j (xB g.next j) o q i k o2 q2)) ((xB g.next j).length - 0) ⟨0,.slice y0 q.length T,q,o,rfl,⟨J.pk,N⟩,VI.start n⟩ ?_
 clear N J
 rintro mm a w ⟨k,u2,q2,o2,r,⟨J,N⟩,c⟩ X0 E
 replace N:=N.nf
 by_cases Z:k < (xB g.next j).length
 refine go fun a J=>?_
 obtain ⟨t1,rfl,d,M,Y,G0,D0,d0⟩:=z.el c0 Z
 obtain rfl:Y=[.string d]:=d0
 refine go fun a J=>?_
 rcases e:yM ((yW o2)) d with _ | B0
 have f:=congrArg (zJ true (.string ⟨#[]⟩)) e
 refine Qq (fun a J=>?_) (o:=by exact fun J O=>Ok.cast (zW 0 runUnderlying70 runUnderlying9 zeroValue9 J O rfl rfl rfl) (show zJ true (.string ⟨#[]⟩) (yM ((yW o2)) d)=.tuple #[.string ⟨#[]⟩,.bool false] from f))
 refine go fun a J=>?_
 obtain ⟨T0,n0,rfl⟩:=jW N (i:=1) rfl
 have F0:=(List.getElem?_eq_some_iff.1 (VI.at c)).1
 refine go fun a J=>?_
 have t:i < q2.length:=by omega
 obtain ⟨h0,y⟩:=N.toSees.gsSome (i:=1) rfl t
 obtain ⟨B,A⟩:=zZ (l:=q2) (i:=i) (by first | omega | exact (List.getElem?_eq_some_iff.1 (VI.at {I})).1)
 refine Qq (fun a J=>?_) (o:=by exact fun J O=>qX (p:=h0) i J (by rw [<- y];rfl) rfl runUnderlying25 sizeOf9 t)
 refine Qq (fun a J=>?_) (o:=by exact fun J O=>pR 1 i J O rfl (by rw [<- y];rfl) (z2l A) isAgg9)
 have e0:B=j:=Option.some.inj (A.symm.trans (VI.at c))
 refine z4d 0 runUnderlying70 runUnderlying9 fun w N a J=>?_
 rw [dH] at N
 refine jQ fun l0 w N a J=>?_
 refine st J rfl rfl rfl (q6o 2 (xs:=(strs q2)) (news:=[.string d]) xQ J N rfl rfl rfl (N.toSees.rowIn (i:=0) rfl) rfl (by intro n_ m_ t0 u0;have p0:=VI.len c h n;simp only [zR,lcQ,lnQ] at t0 u0;omega) fun P w N a J=>?_)
 replace N:=N.nf
 replace N:Mem Φ (.gs (l0) 9 1 [.string d]::.mp C (yW (jP o2 d B))::.gs (P) 9 1 (strs (q2++[d]))::K) w:=by rw [qI] at N;exact N
 refine go fun a J=>?_
 replace N:=N.dl [0]
 refine E _ _ _ (by subst r;omega) ⟨(k+1),(P),((q2++[d])),((jP o2 d B)),rfl,⟨J.pk,N⟩,?_⟩
 rw [e0];exact VI.new c M (kI e)
 obtain ⟨m0,W,rfl⟩:=kJ e
 have f:=congrArg (zJ true (.string ⟨#[]⟩)) e
 refine Qq (fun a J=>?_) (o:=by exact fun J O=>Ok.cast (zW 0 runUnderlying70 runUnderlying9 zeroValue9 J O rfl rfl rfl) (show zJ true (.string ⟨#[]⟩) (yM ((yW o2)) d)=.tuple #[.string m0,.bool true] from f))
 refine go fun a J=>?_
 refine E _ _ _ (by subst r;omega) ⟨(k+1),(u2),(q2),(o2),rfl,⟨J.pk,N⟩,?_⟩
 exact VI.skip c M W
 refine go fun a J=>?_
 refine b0 (pE g.next l - (i+1)) _ _ (by subst r;have p0:=RI.len h;omega) ⟨(i+1),(u2),(q2),(o2),rfl,⟨J.pk,N⟩,?_⟩
 exact RI.step h n (VI.fin c Z) (VI.at c)
 refine zD ?_
 replace N:=N.dl [1]
 rw [<- RI.fin h V];exact ⟨_,rfl,trivial,N⟩
theorem y6l {o:From} {l:List Bs} {i:Nat} {x y:Bs} (h:l[i]? = some x) (a:zK o x=some y):wC (l.drop i) o=x::wC (l.drop (i+1)) o:=by
 rw [zA h,wC,List.filter_cons,if_pos (by rw [a];rfl)];rfl
theorem x0o {o:From} {l:List Bs} {i:Nat} {x:Bs} (h:l[i]? = some x) (a:zK o x=none):wC (l.drop i) o=wC (l.drop (i+1)) o:=by
 rw [zA h,wC,List.filter_cons,if_neg (by rw [a];simp)];rfl
theorem j2q (l:List Bs) (o:From):(wC l o).length<=l.length:=List.length_filter_le _ _
theorem j2p {o:From} {l:List Bs} {i:Nat} (h:¬i < l.length):wC (l.drop i) o=[]:=by rw [zB h];rfl
theorem q1m {Φ:Fz} {K:List Res} {w:World} {b:Addr} {g:Graph} {mb:Nat} {o:From} (rg:RGraph Φ b g) (hn:g.nodes.length<=1000000000) (N:Mem Φ (.mp mb (yW o)::K) w) :
  Calls prog 42 #[.pointer (some b),.map (some mb)] w (fun ee w'=>∃v:Value,ee=.returned v/\True/\Mem Φ (.gs v 9 1 (strs (wC g.nodes o))::.mp mb (yW o)::K) w'):=by
 obtain ⟨d1,k0,d0,s0,j0,l0,E,s,y,t,V,W⟩:=id rg
 have X:=s
 obtain ⟨m0,a0,n0,c22,o0,b0,p0,c0,rfl,e0,f0,g0,h0,G,M,H,P,I,S,L,T⟩:=RCore.fm s
 obtain ⟨q0,c38,rfl,A,p⟩:=y.fm
 obtain ⟨r0,c42,rfl,B,U⟩:=t.fm
 refine zL func42 ntmps42 fun Q hQ a J=>?_
 refine go fun a J=>?_
 replace N:=N.nilRow 9 1
 replace N:=N.nf
 refine go fun a J=>?_
 refine zU (J.ks [1,13,14]) N (fun R mm a w=>∃(i:Nat) (u:Value) (acc:List Bs),mm=g.nodes.length - i/\R Φ [(5,u),(15,.int .i64 i)] [(0,.gs (u) 9 1 (strs acc))] a w/\(wC g.nodes o=acc++wC (g.nodes.drop i) o)) (g.nodes.length - 0) ⟨0,.slice none 0 0,[],rfl,⟨J.pk,N⟩,rfl⟩ ?_
 clear N J
 rintro mm a w ⟨i,u,acc,n,⟨J,N⟩,e⟩ Z j
 replace N:=N.nf
 by_cases m:i < g.nodes.length
 refine go fun a J=>?_
 obtain ⟨t0,rfl,d,h,l,F,D,r⟩:=y.el p m
 obtain rfl:l=[.string d]:=r
 refine go fun a J=>?_
 rcases f:yM ((yW o)) d with _ | Y
 have c:=congrArg (zJ true (.string ⟨#[]⟩)) f
 refine Qq (fun a J=>?_) (o:=by exact fun J O=>Ok.cast (zW 1 runUnderlying70 runUnderlying9 zeroValue9 J O rfl rfl rfl) (show zJ true (.string ⟨#[]⟩) (yM ((yW o)) d)=.tuple #[.string ⟨#[]⟩,.bool false] from c))
 refine go fun a J=>?_
 refine j _ _ _ (by subst n;omega) ⟨(i+1),(u),(acc),rfl,⟨J.pk,N⟩,?_⟩
 rw [e,x0o h (kI f)]
 obtain ⟨C,k,rfl⟩:=kJ f
 have c:=congrArg (zJ true (.string ⟨#[]⟩)) f
 refine Qq (fun a J=>?_) (o:=by exact fun J O=>Ok.cast (zW 1 runUnderlying70 runUnderlying9 zeroValue9 J O rfl rfl rfl) (show zJ true (.string ⟨#[]⟩) (yM ((yW o)) d)=.tuple #[.string C,.bool true] from c))
 refine jQ fun v70 w N a J=>?_
 refine vH 1 xQ (fun z w N a J=>?_) (hb:=by have q:=congrArg List.length e;rw [y6l h k] at q;have i0:=j2q g.nodes o;simp only [laQ,zR,lcQ,lnQ] at q ⊢;omega)
 replace N:Mem Φ (.gs (v70) 9 1 [.string d]::.gs (z) 9 1 (strs (acc++[d]))::.mp mb (yW o)::K) w:=by rw [qI] at N;exact N
 refine go fun a J=>?_
 replace N:=N.dl [0]
 refine j _ _ _ (by subst n;omega) ⟨(i+1),(z),((acc++[d])),rfl,⟨J.pk,N⟩,?_⟩
 rw [e,y6l h k];simp
 refine zD ?_
 have h_:=e
 rw [j2p m,List.append_nil] at h_
 rw [h_];exact ⟨_,rfl,trivial,N⟩
end Go.Sw
