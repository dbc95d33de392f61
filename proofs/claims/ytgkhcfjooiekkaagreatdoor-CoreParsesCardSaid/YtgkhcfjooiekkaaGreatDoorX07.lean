import Derived.Test.YtgkhcfjooiekkaaGreatDoorX06
set_option linter.unusedVariables false
set_option linter.unusedSimpArgs false
namespace Go.Sw
open Go.Proofs Go.Proofs.Tryz
set_option maxRecDepth 20000
set_option maxHeartbeats 4000000
section
variable {V:Fz} {K:List Res} {w:World}
theorem j1v {g:Nat} {fs cs:List Value} {v0 H:Value} {l:List Val} {m:List Param} {p:Val->Param->Bool} (rl:SliceOf RVal V 3 v0 l) (rm:SliceOf RParam V 2 H m)
  (S:∀args w,(callFunc g args).run prog w=.ok (.enter g args) w)
  (P:∀x c y d w,x∈l->y∈m->RVal V c x->RParam V d y->Mem V K w->Calls prog g (fs++[Value.agg c.toArray,Value.agg d.toArray]++cs).toArray w (fun e w'=>e=.returned (.bool (p x y))/\Mem V K w'))
  (N:Mem V K w):Calls prog 59 #[v0,H,.func (.func g) fs.toArray cs.toArray] w (fun ee w'=>ee=.returned (.bool (eqF p l m))/\Mem V K w'):=by
 obtain ⟨p0,c0,rfl,T,t⟩:=rl.fm
 obtain ⟨p1,c1,rfl,U,u⟩:=rm.fm
 refine zI func59 ntmps59 fun Q hQ a J=>?_
 by_cases h4:l.length=m.length
 refine go fun a J=>?_
 refine zR (J.ks [1,2,15,16]) N (fun R mm a w=>∃(i:Nat),mm=l.length - i/\R V [(17,.int .i64 i)] [] a w/\(eqF p l m=eqF p (l.drop i) (m.drop i))) (l.length - 0) ⟨0,rfl,⟨J.pk,N⟩,rfl⟩ ?_
 clear N J
 rintro mm a w ⟨i,s,⟨J,N⟩,k⟩ L7 r
 by_cases n:i < l.length
 refine go fun a J=>?_
 obtain ⟨X,rfl,Z,b,v,D,A,h⟩:=rl.el t n
 obtain ⟨W,c24,rfl,C,M,F,G⟩:=RVal.fm h
 refine Alc fun I w N a J=>?_
 refine Sto 0 fun w N a J=>?_
 refine go fun a J=>?_
 have q:i < m.length:=by omega
 obtain ⟨Y,rfl,a0,f,z,E,B,j⟩:=rm.el u q
 obtain rfl:=id j
 refine Alc fun L w N a J=>?_
 refine Sto 0 fun w N a J=>?_
 refine go fun a J=>?_
 replace N:=N.dl [1,0]
 refine y1u S (fun o w N a J=>?_) (fun o w N a J=>?_) (c:=by exact P _ _ _ _ _ (mgQ b) (mgQ f) h j N)
 refine go fun a J=>?_
 refine r _ _ _ (by subst s;omega) ⟨(i+1),rfl,⟨J.pk,N⟩,?_⟩
 rw [k,zA b,zA f];simp [eqF, *]
 refine zF ?_
 exact zJ N (by rw [k,zA b,zA f];simp [eqF, *])
 refine zF ?_
 exact zJ N (by rw [k,zE n,zE (l:=m) (by omega)];rfl)
 refine zF ?_
 exact zJ N (by rw [q3u (by assumption)])
theorem q3v {g:Nat} {fs cs:List Value} {v0 I:Value} {l:List Named} {m:List Param} {p:Named->Param->Bool} (rl:SliceOf RNamed V 4 v0 l) (rm:SliceOf RParam V 2 I m)
  (W:∀args w,(callFunc g args).run prog w=.ok (.enter g args) w)
  (U:∀x c y d w,x∈l->y∈m->RNamed V c x->RParam V d y->Mem V K w->Calls prog g (fs++[Value.agg c.toArray,Value.agg d.toArray]++cs).toArray w (fun e w'=>e=.returned (.bool (p x y))/\Mem V K w'))
  (N:Mem V K w):Calls prog 100 #[v0,I,.func (.func g) fs.toArray cs.toArray] w (fun ee w'=>ee=.returned (.bool (eqF p l m))/\Mem V K w'):=by
 obtain ⟨p0,c0,rfl,X,u⟩:=rl.fm
 obtain ⟨p1,c1,rfl,Y,v⟩:=rm.fm
 refine zI func100 ntmps100 fun Q hQ a J=>?_
 by_cases h4:l.length=m.length
 refine go fun a J=>?_
 refine zR (J.ks [1,2,15,16]) N (fun R mm a w=>∃(i:Nat),mm=l.length - i/\R V [(17,.int .i64 i)] [] a w/\(eqF p l m=eqF p (l.drop i) (m.drop i))) (l.length - 0) ⟨0,rfl,⟨J.pk,N⟩,rfl⟩ ?_
 clear N J
 rintro mm a w ⟨i,t,⟨J,N⟩,k⟩ L7 s
 by_cases n:i < l.length
 refine go fun a J=>?_
 obtain ⟨a0,rfl,d0,b,z,E,B,h⟩:=rl.el u n
 obtain ⟨L,rfl,r⟩:=id h
 obtain ⟨Z,S,rfl,D,T,G,H⟩:=RVal.fm r
 refine Alc fun M w N a J=>?_
 refine Sto 0 fun w N a J=>?_
 refine go fun a J=>?_
 have q:i < m.length:=by omega
 obtain ⟨b0,rfl,f0,f,A,F,C,j⟩:=rm.el v q
 obtain rfl:=id j
 refine Alc fun P w N a J=>?_
 refine Sto 0 fun w N a J=>?_
 refine go fun a J=>?_
 replace N:=N.dl [1,0]
 refine y1u W (fun o w N a J=>?_) (fun o w N a J=>?_) (c:=by exact U _ _ _ _ _ (mgQ b) (mgQ f) h j N)
 refine go fun a J=>?_
 refine s _ _ _ (by subst t;omega) ⟨(i+1),rfl,⟨J.pk,N⟩,?_⟩
 rw [k,zA b,zA f];simp [eqF, *]
 refine zF ?_
 exact zJ N (by rw [k,zA b,zA f];simp [eqF, *])
 refine zF ?_
 exact zJ N (by rw [k,zE n,zE (l:=m) (by omega)];rfl)
 refine zF ?_
 exact zJ N (by rw [q3u (by assumption)])
theorem q8c {left:Int} {d0:List Value} {v:Val} {b:Nat} {e:Nat} (g:RVal V d0 v) (n:∀x:Val,x.sz < v.sz->∀{V:Fz} {K:List Res} {w:World} {d:List Value} {b e:Nat} {left:Int},RVal V d x->Mem V (.blk b (ob [.int .i64 left] 3)::.blk e (ob [.func (.func 105) #[] #[.pointer (some ⟨b,0,none⟩),.pointer (some ⟨e,0,none⟩)]] 108)::K) w->Calls prog 105 #[.agg d.toArray,.pointer (some ⟨b,0,none⟩),.pointer (some ⟨e,0,none⟩)] w (fun ee w'=>ee=.returned (.bool (xS x left).1)/\Mem V (.blk b (ob [.int .i64 (xS x left).2] 3)::.blk e (ob [.func (.func 105) #[] #[.pointer (some ⟨b,0,none⟩),.pointer (some ⟨e,0,none⟩)]] 108)::K) w')) (N:Mem V (.blk b (ob [.int .i64 (left)] 3)::.blk e (ob [.func (.func 105) #[] #[.pointer (some ⟨b,0,none⟩),.pointer (some ⟨e,0,none⟩)]] 108)::K) w) :
  Calls prog 105 #[.agg d0.toArray,.pointer (some ⟨b,0,none⟩),.pointer (some ⟨e,0,none⟩)] w (fun ee w'=>ee=.returned (.bool ((xS v left).1))/\Mem V (.blk b (ob [.int .i64 ((xS v left).2)] 3)::.blk e (ob [.func (.func 105) #[] #[.pointer (some ⟨b,0,none⟩),.pointer (some ⟨e,0,none⟩)]] 108)::K) w'):=by
 obtain ⟨p,c4,rfl,j,h2,k,l⟩:=RVal.fm g
 refine zI func105 ntmps105 fun Q hQ a J=>?_
 refine Bx fun h w N a J=>?_
 refine Qq (fun a J=>?_) (o:=by exact fun J O=>jT _ J rfl rfl rfl)
 refine Sto 1 fun w N a J=>?_
 refine go fun a J=>?_
 by_cases f:IntKind.i64.wrap (left - 1) < 0
 refine zF ?_
 replace N:=N.dl [0]
 have hr_:xS v left=(true,IntKind.i64.wrap (left - 1)):=by
  rw [z8o,if_pos f]
 show _/\_;rw [hr_];exact ⟨rfl,N⟩
 replace N:=N.ar [] [2,2]
 refine zO call49 (fun w N a J=>?_) (c:=sZ (V:=V) (σ:=Int) (step:=fun s x=>xS x s) (Kf:=fun s=>.blk b (ob [.int .i64 s] 3)::.blk e (ob [.func (.func 105) #[] #[.pointer (some ⟨b,0,none⟩),.pointer (some ⟨e,0,none⟩)]] 108)::.blk h (ob [.string v.con,.int .i64 (v.num),.slice p v.args.length c4] 42)::K) (s0:=IntKind.i64.wrap (left - 1)) (fs:=[]) (cs:=[.pointer (some ⟨b,0,none⟩),.pointer (some ⟨e,0,none⟩)]) h2 call105 (fun s x c w m i N=>n x (Val.lt_args m) i N) N)
 replace N:=N.nf
 refine zF ?_
 replace N:=N.dl [2]
 have hr_:xS v left=(z3h (fun s x=>xS x s) (IntKind.i64.wrap (left - 1)) v.args,(yP (fun s x=>xS x s) (IntKind.i64.wrap (left - 1)) v.args 0).2):=by
  rw [z8o,if_neg f];exact Prod.ext (z4j v.args _ 0).1 (z4j v.args _ 0).2
 show _/\_;rw [hr_];exact ⟨rfl,N⟩
theorem x0f {d:List Value} {v:Val} {a b:Nat} {left:Int} (rv:RVal V d v) (N:Mem V (.blk a (ob [.int .i64 left] 3)::.blk b (ob [.func (.func 105) #[] #[.pointer (some ⟨a,0,none⟩),.pointer (some ⟨b,0,none⟩)]] 108)::K) w) :
  Calls prog 105 #[.agg d.toArray,.pointer (some ⟨a,0,none⟩),.pointer (some ⟨b,0,none⟩)] w (fun ee w'=>ee=.returned (.bool (xS v left).1)/\Mem V (.blk a (ob [.int .i64 (xS v left).2] 3)::.blk b (ob [.func (.func 105) #[] #[.pointer (some ⟨a,0,none⟩),.pointer (some ⟨b,0,none⟩)]] 108)::K) w'):=by
 suffices H:∀n (x:Val),x.sz < n->∀{V:Fz} {K:List Res} {w:World} {d:List Value} {a b:Nat} {left:Int},RVal V d x->Mem V (.blk a (ob [.int .i64 left] 3)::.blk b (ob [.func (.func 105) #[] #[.pointer (some ⟨a,0,none⟩),.pointer (some ⟨b,0,none⟩)]] 108)::K) w ->
   Calls prog 105 #[.agg d.toArray,.pointer (some ⟨a,0,none⟩),.pointer (some ⟨b,0,none⟩)] w (fun ee w'=>ee=.returned (.bool (xS x left).1)/\Mem V (.blk a (ob [.int .i64 (xS x left).2] 3)::.blk b (ob [.func (.func 105) #[] #[.pointer (some ⟨a,0,none⟩),.pointer (some ⟨b,0,none⟩)]] 108)::K) w') from H _ v (Nat.lt_succ_self _) rv N
 intro n
 induction n with
 | zero=>intro e h;omega
 | succ n c=>intro x h V K w d a b left rv N;exact q8c rv (fun y f _ _ _ _ _ _ _ r m=>c y (by omega) r m) N
theorem z6e {d0:List Value} {v:Val} (b:RVal V d0 v) (N:Mem V K w) :
  Calls prog 50 #[.agg d0.toArray] w (fun ee w'=>ee=.returned (.bool (mD v))/\Mem V K w'):=by
 obtain ⟨j,c4,rfl,f,h2,g,h⟩:=RVal.fm b
 refine zI func50 ntmps50 fun Q hQ a J=>?_
 refine Bx fun i w N a J=>?_
 refine Alc fun d w N a J=>?_
 refine Sto 0 fun w N a J=>?_
 refine Alc fun e w N a J=>?_
 refine Sto 0 fun w N a J=>?_
 replace N:=N.pl 1
 refine q3b call105 (fun w N a J=>?_) (c:=by exact x0f b N)
 refine zF ?_
 replace N:=N.dl [2,1,0]
 exact zJ N (by rfl)
theorem x5c {p0:Addr} {T:Table} {name:Bs} {d2:List Value} {v:Val} (G:RTable V p0 T) (f0:RVal V d2 v) (ih:∀x:Val,x.sz < v.sz->∀{V:Fz} {K:List Res} {w:World} {p:Addr} {d:List Value} {name:Bs},RTable V p T->RVal V d x->Mem V K w->Calls prog 61 #[.pointer (some p),.string name,.agg d.toArray] w (fun ee w'=>ee=.returned (.bool (z3g T x name))/\Mem V K w')) (N:Mem V K w) :
  Calls prog 61 #[.pointer (some p0),.string name,.agg d2.toArray] w (fun ee w'=>ee=.returned (.bool (z3g T v name))/\Mem V K w'):=by
 obtain ⟨i0,m1,m2,m3,m4,d5,L,d7,d8,W,X,l,d1,C0,r,s,A0,D0,B0,E0⟩:=G.ex
 obtain ⟨e1,c24,f1,O0,g1,P0,h1,c42,rfl,S0,T0,U0,V0,o0,w0,q0,x0,r0,y0,s0,z0⟩:=RCore.fm l
 obtain ⟨i1,Q0,rfl,m0,M,t0,D⟩:=RVal.fm f0
 refine zI func61 ntmps61 fun Q hQ a J=>?_
 refine Bx fun K0 w N a J=>?_
 by_cases W0:v.con=(⟨#[]⟩:Bs)
 by_cases X0:name=(⟨#[73,110,116]⟩:Bs)
 refine Qq (fun a J=>?_) (o:=by exact fun J O=>pR (i:=v.args.length) (j:=0) J rfl rfl)
 refine zF ?_
 replace N:=N.dl [0]
 rotate_left
 refine zF ?_
 replace N:=N.dl [0]
 rotate_left
 by_cases Y0:name=(⟨#[73,110,116]⟩:Bs)
 refine zF ?_
 replace N:=N.dl [0]
 rotate_left
 refine Reg [1,1,1,2,1,2,2,1,1,1,0,0,1] [0] fun w N a J=>?_
 refine go fun a J=>?_
 rcases g:yV (L) v.con with _ | I0
 have f:=congrArg (zK true (.agg #[.string ⟨#[]⟩,.string ⟨#[]⟩,.slice none 0 0])) g
 refine Qq (fun a J=>?_) (o:=by exact fun J O=>Ok.cast (yC runUnderlying102 runUnderlying9 zeroValue190 J O rfl rfl r) (show zK true (.agg #[.string ⟨#[]⟩,.string ⟨#[]⟩,.slice none 0 0]) (yV (L) v.con)=.tuple #[.agg #[.string ⟨#[]⟩,.string ⟨#[]⟩,.slice none 0 0],.bool false] from f))
 refine Alc fun L0 w N a J=>?_
 refine Sto 0 fun w N a J=>?_
 refine zF ?_
 replace N:=N.dl [1,0]
 exact zJ N (by have e_:=MapRel.none s g;rw [sE,if_neg (by simp [sNo,yL, *])];simp [e_])
 obtain ⟨b,h,j0,rfl,F⟩:=s.get g
 obtain ⟨M0,rfl,P⟩:=id F
 obtain ⟨k1,rfl,z⟩:=id P
 obtain ⟨d0,I,rfl,u0,E⟩:=z.fm
 have f:=congrArg (zK true (.agg #[.string ⟨#[]⟩,.string ⟨#[]⟩,.slice none 0 0])) g
 refine Qq (fun a J=>?_) (o:=by exact fun J O=>Ok.cast (yC runUnderlying102 runUnderlying9 zeroValue190 J O rfl rfl r) (show zK true (.agg #[.string ⟨#[]⟩,.string ⟨#[]⟩,.slice none 0 0]) (yV (L) v.con)=.tuple #[.agg #[.string b.data,.string b.con.name,.slice d0 b.con.fields.length I],.bool true] from f))
 refine Alc fun N0 w N a J=>?_
 refine Sto 0 fun w N a J=>?_
 by_cases Z0:b.data=name
 by_cases a1:v.num=0
 by_cases b1:b.con.fields.length=v.args.length
 refine go fun a J=>?_
 have B:z3g T v name=hasL T v.args b.con.fields:=by
  rw [sE,if_neg (by simp [sNo,yL, *])]
  simp only [h]
  simp [*]
 refine go fun a J=>?_
 refine zR (J.ks [0,7,65,66]) N (fun R mm a w=>∃(i:Nat),mm=v.args.length - i/\R V [(67,.int .i64 i)] [] a w/\(hasL T v.args b.con.fields=hasL T (v.args.drop i) (b.con.fields.drop i))) (v.args.length - 0) ⟨0,rfl,⟨J.pk,N⟩,rfl⟩ ?_
 clear N J
 rintro mm a w ⟨i,b0,⟨J,N⟩,k⟩ J0 C
 by_cases A:i < v.args.length
 refine go fun a J=>?_
 obtain ⟨j1,rfl,l1,q,k0,n0,S,m⟩:=M.el D A
 obtain ⟨G0,h0,rfl,Y,l0,a0,c0⟩:=RVal.fm m
 refine Alc fun g0 w N a J=>?_
 refine Sto 0 fun w N a J=>?_
 refine Reg [1,1,1,2,1,1,2,2,0,1] [0,1,2] fun w N a J=>?_
 refine go fun a J=>?_
 have u:i < b.con.fields.length:=by omega
 obtain ⟨H0,rfl,H,n,t,Z,U,y⟩:=z.el E u
 obtain rfl:t=[.string H]:=y
 refine zX call61 (fun e w N a J=>?_) (fun e w N a J=>?_) (c:=ih _ (Val.lt_args (mgQ q)) G m N)
 refine go fun a J=>?_
 replace N:=N.dl [0]
 refine C _ _ _ (by subst b0;omega) ⟨(i+1),rfl,⟨J.pk,N⟩,?_⟩
 rw [k,zA q,zA n,j9u,e];rfl
 refine zF ?_
 replace N:=N.dl [2,1,0]
 exact zJ N (by rw [B,k,zA q,zA n];simp [hasL,e])
 refine zF ?_
 replace N:=N.dl [1,0]
 exact zJ N (by rw [B,k,zE A];rfl)
 refine zF ?_
 replace N:=N.dl [1,0]
 rotate_left
 refine zF ?_
 replace N:=N.dl [1,0]
 rotate_left
 refine zF ?_
 replace N:=N.dl [1,0]
 rotate_left
 all_goals first | (exact zJ N (by rw [sE,if_neg (by simp [sNo,yL, *])];simp only [h];simp [*])) | (exact zJ N (by rw [sE,if_pos (by simp [sNo,yL, *])];simp [sNo,yL, *]))
theorem has_ok {T:Table} {V:Fz} {K:List Res} {w:World} {p:Addr} {d:List Value} {name:Bs} {v:Val} (rT:RTable V p T) (rv:RVal V d v) (N:Mem V K w) :
  Calls prog 61 #[.pointer (some p),.string name,.agg d.toArray] w (fun ee w'=>ee=.returned (.bool (z3g T v name))/\Mem V K w'):=by
 suffices H:∀n (x:Val),x.sz < n->∀{V:Fz} {K:List Res} {w:World} {p:Addr} {d:List Value} {name:Bs},RTable V p T->RVal V d x->Mem V K w ->
   Calls prog 61 #[.pointer (some p),.string name,.agg d.toArray] w (fun ee w'=>ee=.returned (.bool (z3g T x name))/\Mem V K w') from H _ v (Nat.lt_succ_self _) rT rv N
 intro n
 induction n with
 | zero=>intro e h;omega
 | succ n a=>intro x h V K w p d name rT rv N;exact x5c rT rv (fun y f _ _ _ _ _ _ b c m=>a y (by omega) b c m) N
theorem j9t {pt:Addr} {T:Table} {d0:List Value} {v:Named} {d1:List Value} {p:Param} {b:Nat} (f:RNamed V d0 v) (e:RParam V d1 p) (rT:RTable V pt T) (N:Mem V (.blk b (ob [.pointer (some pt)] 89)::K) w) :
  Calls prog 101 #[.agg d0.toArray,.agg d1.toArray,.pointer (some ⟨b,0,none⟩)] w (fun ee w'=>ee=.returned (.bool ((decide (v.name=p.name) && !mD v.value&&z3g T v.value p.type)))/\Mem V (.blk b (ob [.pointer (some pt)] 89)::K) w'):=by
 obtain ⟨m,rfl,h2⟩:=id f
 obtain ⟨q,n,rfl,j,o,k,l⟩:=RVal.fm h2
 obtain rfl:=id e
 refine zI func101 ntmps101 fun Q hQ a J=>?_
 refine Bx fun g w N a J=>?_
 refine Bx fun h w N a J=>?_
 by_cases i:v.name=p.name
 refine zX call50 (fun d w N a J=>?_) (fun d w N a J=>?_) (c:=z6e h2 N)
 refine zF ?_
 replace N:=N.dl [1,0]
 exact zJ N (by simp [*])
 refine zO call61 (fun w N a J=>?_) (c:=has_ok rT h2 N)
 refine zF ?_
 replace N:=N.dl [1,0]
 exact zJ N (by simp [*])
 refine zF ?_
 replace N:=N.dl [1,0]
 exact zJ N (by simp [*])
theorem x4z {k:Addr} {T:Table} {H:Value} {l:List Named} (f:RTable V k T) (g:SliceOf RNamed V 4 H l) (N:Mem V K w) :
  Calls prog 44 #[.pointer (some k),H] w (fun ee w'=>ee=.returned (.bool (z1c T l T.core.inputs))/\Mem V K w'):=by
 obtain ⟨m,m1,m2,m3,m4,d5,d6,d7,d8,i,j,b,Y,D,A,E,B,F,C,G⟩:=f.ex
 obtain ⟨Z,c24,a0,I,b0,L,c0,c42,rfl,M,h,P,R,n,s,o,t,q,u,r,z⟩:=RCore.fm b
 obtain ⟨p1,c1,rfl,W,X⟩:=g.fm
 refine zI func44 ntmps44 fun Q hQ a J=>?_
 refine Bx fun e w N a J=>?_
 refine zO call100 (fun w N a J=>?_) (c:=q3v (V:=V) (K:=.blk e (ob [.pointer (some k)] 89)::K) (p:=fun v p=>decide (v.name=p.name) && !mD v.value&&z3g T v.value p.type) (fs:=[]) (cs:=[.pointer (some ⟨e,0,none⟩)]) g h call101 (fun x c y d w hx hy S U N=>j9t S U f N) N)
 refine zF ?_
 replace N:=N.dl [0]
 exact zJ N (by rw [q1b])
end
theorem y0i {V:Fz} {K:List Res} {w:World} {b:Bool}  (N:Mem V K w) :
  Calls prog 196 #[.bool b] w (fun ee w'=>∃yy:Fz×List Value,ee=.returned (.agg yy.2.toArray)/\(V.Le yy.1/\RVal yy.1 yy.2 (tR b))/\Mem yy.1 K w'):=by
 refine zI func196 ntmps196 fun Q hQ a J=>?_
 refine Alc fun d w N a J=>?_
 refine go fun a J=>?_
 cases b
 refine zU fun a J=>?_
 refine Sto 0 fun w N a J=>?_
 refine go fun a J=>?_
 have c:=N
 replace N:=N.dl [0]
 refine qI (N:=c) ?_
 exact ⟨(V,_),rfl,⟨Fz.Le.refl _,by
  rw [show tR false=Val.mk (⟨#[70,97,108,115,101]⟩:Bs) (0) [] by rfl]
  exact RVal.iff.2 ⟨_,rfl,(show I64 0 by unfold I64;omega),SliceOf.nil 3⟩⟩,N⟩
 refine zU fun a J=>?_
 refine Sto 0 fun w N a J=>?_
 refine go fun a J=>?_
 have c:=N
 replace N:=N.dl [0]
 refine qI (N:=c) ?_
 exact ⟨(V,_),rfl,⟨Fz.Le.refl _,by
  rw [show tR true=Val.mk (⟨#[84,114,117,101]⟩:Bs) (0) [] by rfl]
  exact RVal.iff.2 ⟨_,rfl,(show I64 0 by unfold I64;omega),SliceOf.nil 3⟩⟩,N⟩
theorem tG {a b:Int} (h:I64 a):I64 (a.tmod b):=by
 unfold I64 at *
 have h1:=Int.natAbs_tmod a b
 have h2:a.natAbs % b.natAbs<=a.natAbs:=Nat.mod_le _ _
 by_cases c:0<=a
 have:=Int.tmod_nonneg b c;omega
 have:a.tmod b<=0:=by
  have:=Int.tmod_nonneg b (show 0<=-a by omega)
  rw [Int.neg_tmod] at this;omega
 omega
theorem j2z {V:Fz} {K:List Res} {w:World} {op:Bs} {x y:Int} (h:I64 x) (hb:I64 y) (N:Mem V K w) :
  Calls prog 159 #[.string op,.int .i64 x,.int .i64 y] w (fun ee w'=>∃yy:Fz×List Value,ee=.returned (.agg yy.2.toArray)/\(V.Le yy.1/\RVal yy.1 yy.2 (jV op x y))/\Mem yy.1 K w'):=by
 refine zI func159 ntmps159 fun Q hQ a J=>?_
 refine Alc fun P w N a J=>?_
 by_cases R:op=(⟨#[43]⟩:Bs)
 refine Qq (fun a J=>?_) (o:=by exact fun J O=>z0p _ J rfl rfl rfl)
 refine zU fun a J=>?_
 refine Sto 0 fun w N a J=>?_
 refine go fun a J=>?_
 have c:=N
 replace N:=N.dl [0]
 refine qI (N:=c) ?_
 exact ⟨(V,_),rfl,⟨Fz.Le.refl _,by
  rw [show jV op x y=Val.mk (⟨#[]⟩:Bs) (IntKind.i64.wrap (x+y)) [] by simp [jV,z9c,v0,tR,sNo, *]]
  exact RVal.iff.2 ⟨_,rfl,(by first | exact I64.of_wrap _ | exact tG h | exact (show I64 0 from ⟨by decide,by decide⟩)),SliceOf.nil 3⟩⟩,N⟩
 by_cases C:op=(⟨#[45]⟩:Bs)
 refine Qq (fun a J=>?_) (o:=by exact fun J O=>jT _ J rfl rfl rfl)
 refine zU fun a J=>?_
 refine Sto 0 fun w N a J=>?_
 refine go fun a J=>?_
 have c:=N
 replace N:=N.dl [0]
 refine qI (N:=c) ?_
 exact ⟨(V,_),rfl,⟨Fz.Le.refl _,by
  rw [show jV op x y=Val.mk (⟨#[]⟩:Bs) (IntKind.i64.wrap (x - y)) [] by simp [jV,z9c,v0,tR,sNo, *]]
  exact RVal.iff.2 ⟨_,rfl,(by first | exact I64.of_wrap _ | exact tG h | exact (show I64 0 from ⟨by decide,by decide⟩)),SliceOf.nil 3⟩⟩,N⟩
 by_cases D:op=(⟨#[42]⟩:Bs)
 refine Qq (fun a J=>?_) (o:=by exact fun J O=>j8a _ J rfl rfl rfl)
 refine zU fun a J=>?_
 refine Sto 0 fun w N a J=>?_
 refine go fun a J=>?_
 have c:=N
 replace N:=N.dl [0]
 refine qI (N:=c) ?_
 exact ⟨(V,_),rfl,⟨Fz.Le.refl _,by
  rw [show jV op x y=Val.mk (⟨#[]⟩:Bs) (IntKind.i64.wrap (x * y)) [] by simp [jV,z9c,v0,tR,sNo, *]]
  exact RVal.iff.2 ⟨_,rfl,(by first | exact I64.of_wrap _ | exact tG h | exact (show I64 0 from ⟨by decide,by decide⟩)),SliceOf.nil 3⟩⟩,N⟩
 refine go fun a J=>?_
 by_cases E:op=(⟨#[60]⟩:Bs)
 refine Qq (fun a J=>?_) (o:=by exact fun J O=>y_lssD J rfl rfl)
 refine st J rfl rfl rfl (oJ J rfl rfl call196 (y0i (b:=(decide (x < y))) N) (fun n w j N a J=>?_))
 obtain ⟨l,A⟩:=n
 obtain ⟨f,d⟩:=j
 simp only at f d N J
 replace N:=N.nf
 obtain ⟨L,c27,rfl,q,F,s,u⟩:=RVal.fm d
 refine Sto 0 fun w N a J=>?_
 refine go fun a J=>?_
 have c:=N
 replace N:=N.dl [0]
 refine qI (N:=c) ?_
 exact ⟨(l,_),rfl,⟨f,by
  rw [show jV op x y=(tR (decide (x < y))) by simp [jV, *]]
  exact d⟩,N⟩
 by_cases G:op=(⟨#[61]⟩:Bs)
 refine Qq (fun a J=>?_) (o:=by exact fun J O=>aR J rfl rfl)
 refine st J rfl rfl rfl (oJ J rfl rfl call196 (y0i (b:=(decide (x=y))) N) (fun p w k N a J=>?_))
 obtain ⟨m,B⟩:=p
 obtain ⟨g,e⟩:=k
 simp only at g e N J
 replace N:=N.nf
 obtain ⟨M,z,rfl,r,H,t,v⟩:=RVal.fm e
 refine Sto 0 fun w N a J=>?_
 refine go fun a J=>?_
 have c:=N
 replace N:=N.dl [0]
 refine qI (N:=c) ?_
 exact ⟨(m,_),rfl,⟨g,by
  rw [show jV op x y=(tR (decide (x=y))) by simp [jV, *]]
  exact e⟩,N⟩
 by_cases i:y=0
 refine zU fun a J=>?_
 refine Sto 0 fun w N a J=>?_
 refine go fun a J=>?_
 have c:=N
 replace N:=N.dl [0]
 refine qI (N:=c) ?_
 exact ⟨(V,_),rfl,⟨Fz.Le.refl _,by
  rw [show jV op x y=Val.mk (⟨#[]⟩:Bs) (0) [] by simp [jV,z9c,v0,tR,sNo, *]]
  exact RVal.iff.2 ⟨_,rfl,(by first | exact I64.of_wrap _ | exact tG h | exact (show I64 0 from ⟨by decide,by decide⟩)),SliceOf.nil 3⟩⟩,N⟩
 by_cases I:op=(⟨#[47]⟩:Bs)
 refine Qq (fun a J=>?_) (o:=by exact fun J O=>y_quo _ J rfl rfl i rfl)
 refine zU fun a J=>?_
 refine Sto 0 fun w N a J=>?_
 refine go fun a J=>?_
 have c:=N
 replace N:=N.dl [0]
 refine qI (N:=c) ?_
 exact ⟨(V,_),rfl,⟨Fz.Le.refl _,by
  rw [show jV op x y=Val.mk (⟨#[]⟩:Bs) (IntKind.i64.wrap (x.tdiv y)) [] by simp [jV,z9c,v0,tR,sNo, *]]
  exact RVal.iff.2 ⟨_,rfl,(by first | exact I64.of_wrap _ | exact tG h | exact (show I64 0 from ⟨by decide,by decide⟩)),SliceOf.nil 3⟩⟩,N⟩
 refine Qq (fun a J=>?_) (o:=by exact fun J O=>y_rem _ J rfl rfl i rfl)
 refine zU fun a J=>?_
 refine Sto 0 fun w N a J=>?_
 refine go fun a J=>?_
 have c:=N
 replace N:=N.dl [0]
 refine qI (N:=c) ?_
 exact ⟨(V,_),rfl,⟨Fz.Le.refl _,by
  rw [show jV op x y=Val.mk (⟨#[]⟩:Bs) (x.tmod y) [] by simp [jV,z9c,v0,tR,sNo, *]]
  exact RVal.iff.2 ⟨_,rfl,(by first | exact I64.of_wrap _ | exact tG h | exact (show I64 0 from ⟨by decide,by decide⟩)),SliceOf.nil 3⟩⟩,N⟩
section
variable {V:Fz} {K:List Res} {w:World}
theorem y7l {v:Value} {l:List Int} (n:l.length<=1000000) (N:Mem V (.gs v 3 1 (z3i l)::K) w) :
  Calls prog 47 #[v] w (fun ee w'=>ee=.returned (.int .i64 (gH l))/\Mem V (.gs v 3 1 (z3i l)::K) w'):=by
 obtain ⟨u,e,c0,rfl,g,r⟩:=N.toSees.gsForm (i:=0) rfl
 have s:l.length=e:=by simpa [z9x] using g
 refine zI func47 ntmps47 fun Q hQ a J=>?_
 refine go fun a J=>?_
 refine zR (J.ks [6,7]) N (fun R mm a w=>∃(i:Nat) (q:Int),mm=e - i/\R V [(3,.int .i64 (q)),(8,.int .i64 i)] [] a w/\(gH (l.take i)=q)) (e - 0) ⟨0,0,rfl,⟨J.pk,N⟩,rfl⟩ ?_
 clear N J
 rintro mm a w ⟨i,q,h,⟨J,N⟩,d⟩ t f
 by_cases m:i < e
 refine go fun a J=>?_
 obtain ⟨j,b⟩:=N.toSees.gsSome (i:=0) rfl m
 obtain ⟨k,c⟩:=jC (l:=l) (i:=i) (by omega)
 refine Qq (fun a J=>?_) (o:=by exact fun J O=>z2g (p:=j) i J (by rw [<- b];rfl) rfl runUnderlying93 sizeOf3 m)
 refine Qq (fun a J=>?_) (o:=by exact fun J O=>x2g 0 i J O rfl (by rw [<- b];rfl) (x5h c) isAgg3)
 refine Qq (fun a J=>?_) (o:=by exact fun J O=>z0p _ J rfl rfl rfl)
 refine go fun a J=>?_
 refine f _ _ _ (by subst h;omega) ⟨(i+1),(IntKind.i64.wrap (q+k)),rfl,⟨J.pk,by exact N⟩,?_⟩
 rw [xK c,yS,d]
 refine zF ?_
 exact pF N (by rw [<- d,y7h (by omega)])
theorem x6g {d:List Value} {v:Val} (ih:∀x:Val,x.sz < v.sz->z9k x->∀{V:Fz} {K:List Res} {w:World} {d:List Value},RVal V d x->Mem V K w ->
   Calls prog 51 #[.agg d.toArray] w (fun ee w'=>∃yy:Fz×List Value,ee=.returned (.agg yy.2.toArray)/\(V.Le yy.1/\RVal yy.1 yy.2 x)/\Mem yy.1 K w')) (O:z9k v) (rv:RVal V d v) (N:Mem V K w) :
  Calls prog 51 #[.agg d.toArray] w (fun ee w'=>∃yy:Fz×List Value,ee=.returned (.agg yy.2.toArray)/\(V.Le yy.1/\RVal yy.1 yy.2 v)/\Mem yy.1 K w'):=by
 obtain ⟨p3,c4,rfl,m0,h2,n0,G⟩:=RVal.fm rv
 refine zI func51 ntmps51 fun Q hQ a J=>?_
 refine Bx fun b9 w N a J=>?_
 refine Alc fun c0 w N a J=>?_
 refine zU fun a J=>?_
 refine Alc fun C w N a J=>?_
 refine Sto 0 fun w N a J=>?_
 refine go fun a J=>?_
 replace N:=N.nilRow 42 3
 replace N:=N.nf
 refine go fun a J=>?_
 refine zR (J.ks [2,3,12,13]) N (fun R mm a w=>∃(g:Fz) (i:Nat) (u:Value) (cs:List Value),mm=v.args.length - i/\R g [(14,.int .i64 i)] [(0,.gs (u) 42 3 cs),(1,.blk C (ob [.string v.con,.int .i64 (v.num),u] 42))] a w/\(V.Le g/\(Chunks (RVal g) 3 cs (v.args.take i)))) (v.args.length - 0) ⟨V,0,.slice none 0 0,[],rfl,⟨J.pk,N⟩,⟨Fz.Le.refl _,rfl⟩⟩ ?_
 clear N J
 rintro mm a w ⟨g,i,u,cs,F,⟨J,N⟩,j⟩ b0 A
 replace N:=N.nf
 obtain ⟨f,j⟩:=j
 replace h2:=h2.up f
 replace rv:=rv.up f
 have hch:=j
 by_cases y:i < v.args.length
 refine go fun a J=>?_
 obtain ⟨r0,rfl,t,m,M,T,p,e⟩:=h2.el G y
 obtain ⟨p0,f0,rfl,P,j0,U,Y⟩:=RVal.fm e
 refine Alc fun d0 w N a J=>?_
 refine Sto 0 fun w N a J=>?_
 refine Reg [1,2,2,0,0,0,1,0] [0,2,3,4] fun w N a J=>?_
 refine zV call51 (fun L w z N a J=>?_) (c:=ih _ (Val.lt_args (mgQ m)) ((y7a O).2 _ (mgQ m)) e N)
 obtain ⟨B,h0⟩:=L
 obtain ⟨b,k⟩:=z
 simp only at b k N J
 replace rv:=rv.up b
 replace hch:=hch.mono fun _ _ h=>h.up b
 replace p:=p.mono b
 replace e:=e.up b
 replace N:=N.nf
 obtain ⟨I,D,rfl,S,l0,W,Z⟩:=RVal.fm k
 refine yK fun s0 w N a J=>?_
 refine yU 2 wU (fun v53 w N a J=>?_) (hb:=by have h_:=hch.length;have i0:=(y7a O).1;have k0:(v.args.take i).length<=v.args.length:=(by rw [List.length_take];omega);rw [h_];simp only [lcQ,lnQ];omega)
 refine Sto 3 fun w N a J=>?_
 refine go fun a J=>?_
 replace N:=N.dl [1,0]
 refine A _ _ _ (by subst F;omega) ⟨(B),(i+1),(v53),((cs++[.string t.con,.int .i64 (t.num),.slice I t.args.length D])),rfl,⟨J.pk,by exact N⟩,?_⟩
 refine ⟨(f).trans b,?_⟩
 rw [xK m];exact hch.snoc rfl k
 refine go fun a J=>?_
 rw [y7h y] at hch
 have q:=N
 clear N
 obtain ⟨s,n,N,o⟩:=q.freezeRow (i:=0) rfl
 clear q
 replace rv:=rv.up n
 replace hch:=hch.mono fun _ _ h=>h.up n
 replace N:=N.nf
 have l:SliceOf RVal s 3 _ (v.args):=⟨_,o,hch⟩
 obtain ⟨q0,g0,H,X,a0⟩:=l.form (by decide)
 have r:=N
 clear N
 subst H
 have N:=r
 clear r
 refine Sto 1 fun w N a J=>?_
 refine go fun a J=>?_
 have E:=N
 replace N:=N.dl [2,1,0]
 refine qI (N:=E) ?_
 exact ⟨(s,_),rfl,⟨(f).trans n,by obtain ⟨_,_,h_,_⟩:=RVal.iff.1 rv;exact RVal.iff.2 ⟨_,rfl,h_,l⟩⟩,N⟩
theorem own_ok {d:List Value} {v:Val} (O:z9k v) (rv:RVal V d v) (N:Mem V K w) :
  Calls prog 51 #[.agg d.toArray] w (fun ee w'=>∃yy:Fz×List Value,ee=.returned (.agg yy.2.toArray)/\(V.Le yy.1/\RVal yy.1 yy.2 v)/\Mem yy.1 K w'):=by
 suffices H:∀n (x:Val),x.sz < n->z9k x->∀{V:Fz} {K:List Res} {w:World} {d:List Value},RVal V d x->Mem V K w ->
   Calls prog 51 #[.agg d.toArray] w (fun ee w'=>∃yy:Fz×List Value,ee=.returned (.agg yy.2.toArray)/\(V.Le yy.1/\RVal yy.1 yy.2 x)/\Mem yy.1 K w') from H _ v (Nat.lt_succ_self _) O rv N
 intro n
 induction n with
 | zero=>intro e h;omega
 | succ n a=>intro x h O V K w d rv N;exact x6g (fun y b h1 _ _ _ _ r m=>a y (by omega) h1 r m) O rv N
end
theorem z7y {T:Table} {inp:List (Bs×Val)} {g:Nat} (ih:∀g1,g1<=g->oD prog T inp g1):x2j prog T inp g:=by
 intro V K w p l env ov s mg bs fuel G rG rl rv a0 E0 hg C0 Z N
 obtain ⟨p1,c1,rfl,F0,Y⟩:=rl.fm
 refine zI func158 ntmps158 fun Q hQ a J=>?_
 refine Bx fun b2 w N a J=>?_
 refine go fun a J=>?_
 replace N:=N.nilRow 42 3
 replace N:=N.nf
 refine go fun a J=>?_
 refine zR (J.ks [2,3,10,11]) N (fun R mm a w=>∃(z:Fz) (i:Nat) (u:Value) (cs:List Value) (xs:List Val) (g1:Nat),mm=l.length - i/\R z [(7,u),(12,.int .i64 i)] [(0,.gs (u) 42 3 cs),(2,.blk bs (ob [.int .i64 ((fuel - g1:Nat):Int)] 3))] a w/\(V.Le z/\(Chunks (RVal z) 3 cs xs/\xs.length=i/\g1<=g/\kA (jR ⟨T.funs,inp⟩) env l g=(kA (jR ⟨T.funs,inp⟩) env (l.drop i) g1).bind fun vs g2=>.ok (xs++vs) g2))) (l.length - 0) ⟨V,0,.slice none 0 0,[],[],g,rfl,⟨J.pk,N⟩,⟨Fz.Le.refl _,⟨rfl,rfl,Nat.le_refl _,j5z _⟩⟩⟩ ?_
 clear N J
 rintro mm a w ⟨z,i,u,cs,xs,g1,X,⟨J,N⟩,E⟩ L8 U
 replace N:=N.nf
 obtain ⟨e,E⟩:=E
 replace G:=G.mono e
 replace rG:=RGiven.mono e rG
 replace rl:=rl.up e
 replace rv:=REnv.mono e rv
 obtain ⟨hch,c0,D0,t⟩:=E
 by_cases H:i < l.length
 refine go fun a J=>?_
 obtain ⟨K0,rfl,g0,j,i0,l0,A,f⟩:=rl.el Y H
 obtain ⟨H0,c25,I0,w0,rfl,j0,z0,A0,m0,q0,n0,r0⟩:=REx.fm f
 refine Alc fun u0 w N a J=>?_
 refine Sto 0 fun w N a J=>?_
 refine go fun a J=>?_
 have b:=Z
 rw [t,zA j] at b
 replace b:=jX (r:=jR ⟨T.funs,inp⟩ g1 g0 env) (jX b)
 replace N:=N.pl 3
 refine xV call103 (fun L h0 w m I N a J=>?_) (fun L w m N=>?_) (c:=ih g1 (by omega) G rG f rv (a0 _ (mgQ j)) (by omega) (by omega) b N)
 obtain ⟨y,S⟩:=L
 obtain ⟨M,x0⟩:=h0
 obtain ⟨d,n⟩:=I
 have q:=wV m
 simp only at d n N J q
 have W:=jK _ _ _ _ _ _ q
 replace rG:=RGiven.mono d rG
 replace rv:=REnv.mono d rv
 replace hch:=hch.mono fun _ _ h=>h.up d
 replace A:=A.mono d
 replace f:=f.up d
 replace N:=N.nf
 obtain ⟨d0,P,rfl,k0,B0,o0,s0⟩:=RVal.fm n
 refine yK fun L0 w N a J=>?_
 refine yU 3 wU (fun f0 w N a J=>?_)
 refine go fun a J=>?_
 replace N:=N.ar [2,0] [2,2]
 refine U _ _ _ (by subst X;omega) ⟨(M),(i+1),(f0),((cs++[.string y.con,.int .i64 (y.num),.slice d0 y.args.length P])),(xs++[y]),(S),rfl,⟨J.pk,by exact N⟩,?_⟩
 refine ⟨(e).trans d,?_⟩
 refine ⟨hch.snoc rfl n,by simp [c0],by omega,?_⟩
 rw [t,zA j]
 exact q3q q
 have F:=vB m b
 replace N:=N.dl [3,2,1]
 exact nD (by rw [t,zA j];exact q3r F) ⟨rfl,N.le (e)⟩
 refine go fun a J=>?_
 have B:=N
 clear N
 obtain ⟨D,k,N,v⟩:=B.freezeRow (i:=0) rfl
 clear B
 replace rG:=RGiven.mono k rG
 replace rv:=REnv.mono k rv
 replace hch:=hch.mono fun _ _ h=>h.up k
 replace N:=N.nf
 have o:SliceOf RVal D 3 _ (xs):=⟨_,v,hch⟩
 obtain ⟨J0,c66,b0,p0,t0⟩:=o.form (by decide)
 have C:=N
 clear N
 subst b0
 have N:=C
 clear C
 refine zF ?_
 replace N:=N.dl [0]
 exact tC (by rw [t,zE H];exact q6w) ⟨(D,_),rfl,⟨(e).trans k,o⟩,N⟩
theorem y2i {T:Table} {inp:List (Bs×Val)} {g:Nat} (ih:oD prog T inp g):q5x prog T inp g:=by
 intro V K w p d f l s mg bs fuel v rG rf rs V0 l0 hg S0 W N
 obtain ⟨s1,b7,rfl,h2,A⟩:=id rf
 obtain ⟨p3,c4,rfl,U0,k0⟩:=h2.fm
 obtain ⟨X0,J0,Y0,K0,rfl,q0,O0,P0,w0,A0,x0,B0⟩:=REx.fm A
 obtain ⟨p2,c2,rfl,T0,j0⟩:=rs.fm
 obtain ⟨M,d0⟩:=j1f W
 refine zI func48 ntmps48 fun Q hQ a J=>?_
 refine Bx fun F0 w N a J=>?_
 refine Bx fun G0 w N a J=>?_
 refine Alc fun H0 w N a J=>?_
 refine go fun a J=>?_
 refine zR (J.ks [2,3,4,6,11,12]) N (fun R mm a w=>∃(m:Fz) (i:Nat) (en:Env) (nv:Option Addr),mm=f.params.length - i/\R m [(7,.pointer nv),(13,.int .i64 i)] [] a w/\(V.Le m/\(REnv m en nv/\dD (f.params.map Param.name) l []=dD ((f.params.map Param.name).drop i) (l.drop i) en))) (f.params.length - 0) ⟨V,0,[],none,rfl,⟨J.pk,N⟩,⟨Fz.Le.refl _,⟨rfl,rfl⟩⟩⟩ ?_
 clear N J
 rintro mm a w ⟨m,i,en,nv,i0,⟨J,N⟩,n⟩ E0 S
 obtain ⟨e,n⟩:=n
 replace v:=v.mono e
 replace rG:=RGiven.mono e rG
 replace h2:=h2.up e
 replace A:=A.up e
 replace rf:=rf.up e
 replace rs:=rs.up e
 obtain ⟨rn,G⟩:=n
 by_cases F:i < f.params.length
 have U:i < l.length:=z7l (env:=en) (env':=M) (by rw [<- G];exact d0) (by simpa using F)
 refine go fun a J=>?_
 obtain ⟨a1,rfl,a0,X,o0,t0,B,q⟩:=h2.el k0 F
 obtain rfl:=id q
 refine Alc fun I0 w N a J=>?_
 refine Sto 0 fun w N a J=>?_
 refine Reg [1,2,1,1,1,2,1,1,0,1] [0,1,2,3,4] fun w N a J=>?_
 refine go fun a J=>?_
 obtain ⟨b1,rfl,y,Y,p0,u0,C,k⟩:=rs.el j0 U
 obtain ⟨m0,c0,rfl,r0,Q0,y0,C0⟩:=RVal.fm k
 refine z3v fun a J=>?_
 refine Bx fun L w N a J=>?_
 have D:=N
 clear N
 obtain ⟨E,b,N,H⟩:=D.freezeBlk (i:=0) rfl
 clear D
 replace v:=v.mono b
 replace rG:=RGiven.mono b rG
 replace A:=A.up b
 replace rf:=rf.up b
 replace rn:=REnv.mono b rn
 replace B:=B.mono b
 replace q:=RParam.mono _ _ _ _ b q
 replace C:=C.mono b
 replace k:=k.up b
 replace N:=N.nf
 have z:REnv E ((a0.name,y)::en) (some ⟨L,0,none⟩):=⟨_,[.string y.con,.int .i64 (y.num),.slice m0 y.args.length c0],_,rfl,H,rfl,k,rn⟩
 refine go fun a J=>?_
 replace N:=N.dl [0]
 refine S _ _ _ (by subst i0;omega) ⟨(E),(i+1),((a0.name,y)::en),((some ⟨L,0,none⟩)),rfl,⟨J.pk,by exact N⟩,?_⟩
 refine ⟨(e).trans b,?_⟩
 refine ⟨z,?_⟩
 rw [G,zA (show (f.params.map Param.name)[i]? = some _ by rw [List.getElem?_map,X];rfl),zA Y];rfl
 refine go fun a J=>?_
 have t:vN (jR ⟨T.funs,inp⟩) f l g=jR ⟨T.funs,inp⟩ g f.body en:=by
  have f0:¬i < (f.params.map Param.name).length:=by simpa using F
  unfold vN aU
  rw [G,zE f0];rfl
 have j:=W
 rw [t] at j
 replace N:=N.pl 3
 refine xV call103 (fun Z n0 w o P N a J=>?_) (fun Z w o N=>?_) (c:=ih v rG A rn l0 (by omega) (by omega) j N)
 obtain ⟨c1,N0⟩:=Z
 obtain ⟨b0,M0⟩:=n0
 obtain ⟨h,r⟩:=P
 have u:=wV o
 simp only at h r N J u
 have g0:=jK _ _ _ _ _ _ u
 replace rG:=RGiven.mono h rG
 replace A:=A.up h
 replace rf:=rf.up h
 replace rn:=REnv.mono h rn
 replace N:=N.nf
 obtain ⟨Z0,L0,rfl,s0,R0,z0,D0⟩:=RVal.fm r
 refine Sto 1 fun w N a J=>?_
 refine go fun a J=>?_
 have h0:=N
 replace N:=N.dl [3,2,1]
 refine qI (N:=h0) ?_
 exact tC (by rw [t];exact u) ⟨(b0,_),rfl,⟨(e).trans h,r⟩,N⟩
 have I:=vB o j
 replace N:=N.dl [3,2,1]
 exact nD (by rw [t];exact I) ⟨rfl,N.le (e)⟩
theorem j9g {T:Table} {inp:List (Bs×Val)}:oD prog T inp 0:=by
 intro V K w p d e env ov mg bs fuel g rG re rv g0 hg c0 f0 N
 obtain ⟨i,m1,m2,m3,m4,d5,d6,d7,d8,c,f,b,h0,D,A,E,B,F,C,G⟩:=g.ex
 obtain ⟨i0,c24,j0,M,k0,P,l0,c42,rfl,U,W,X,Y,k,s,l,t,m,u,n,v⟩:=RCore.fm b
 obtain ⟨m0,R,n0,S,rfl,j,Z,a0,q,y,r,z⟩:=REx.fm re
 refine zI func103 ntmps103 fun Q hQ a J=>?_
 refine Bx fun H w N a J=>?_
 refine Bx fun I w N a J=>?_
 refine Alc fun L w N a J=>?_
 refine Sto 3 fun w N a J=>?_
 refine Reg [1,2,1,2,1,2,1] [0,1,2,3] fun w N a J=>?_
 have d0:fuel < fuel+1:=by omega
 refine zU fun a J=>?_
 refine Qq (fun a J=>?_) (o:=by exact fun J O=>qN J rfl runUnderlying177 (by intro ms h;cases h))
 refine st0 J rfl rfl (vK J rfl (vM _) (fun a hd=>hQ _ _ _ (yY hd ?_)))
 replace N:=N.dl [2,1,0]
 exact nD (z4d _ _ _) ⟨rfl,N⟩
theorem j9f {T:Table} {inp:List (Bs×Val)} {g:Nat} (hF:z0s T) (ih:∀g1,g1<=g->oD prog T inp g1):oD prog T inp (g+1):=by
 intro V K w p d e env ov mg bs fuel f rG re rv i0 hg hfu y0 N
 rw [yW] at y0
 obtain ⟨I8,m1,m2,m3,m4,d5,d6,d7,d8,b,U5,B2,ma9,Y9,W9,Z9,H2,k2,X9,mr16⟩:=f.ex
 obtain ⟨p23,c24,p29,c30,p35,c36,p41,c42,rfl,h22,h28,h34,h40,K9,R9,L9,S9,M9,T9,N9,U9⟩:=RCore.fm B2
 obtain ⟨p47,c48,p53,c54,rfl,H9,h,A,O9,n3,P9,o3⟩:=REx.fm re
 refine zI func103 ntmps103 fun Q hQ a J=>?_
 refine Bx fun b59 w N a J=>?_
 refine Bx fun b60 w N a J=>?_
 refine Alc fun b61 w N a J=>?_
 refine Sto 3 fun w N a J=>?_
 rw [show fuel - (g+1)+1=fuel - g by omega] at N
 refine Reg [1,2,1,2,1,2,1] [0,1,2,3] fun w N a J=>?_
 have hk_:¬fuel < fuel - g:=by omega
 by_cases L4:e.kind=1
 refine zU fun a J=>?_
 refine Sto 0 fun w N a J=>?_
 refine go fun a J=>?_
 have D:=N
 replace N:=N.dl [2,1,0]
 refine qI (N:=D) ?_
 exact tC ((yW _ _ _ _).trans (x7j L4)) ⟨(V,_),rfl,⟨Fz.Le.refl _,RVal.iff.2 ⟨_,rfl,(by obtain ⟨_,_,_,h_,_⟩:=REx.iff.1 re;exact h_),SliceOf.nil 3⟩⟩,N⟩
 by_cases G3:e.kind=2
 refine go fun a J=>?_
 refine zR (J.ks [4,6]) N (fun R mm a w=>∃(en:Env) (nv:Option Addr),mm=en.length/\R V [(2,.pointer nv)] [] a w/\(REnv V en nv/\zW env e.name=zW en e.name)) (env.length) ⟨env,ov,rfl,⟨J.pk,N⟩,⟨rv,rfl⟩⟩ ?_
 clear N J
 rintro mm a w ⟨en,nv,T0,⟨J,N⟩,O4⟩ L72 P4
 obtain ⟨rn,G0⟩:=O4
 refine go fun a J=>?_
 obtain _ | ⟨⟨N7,k4⟩,h3⟩:=en
 obtain rfl:=rn
 refine Qq (fun a J=>?_) (o:=by exact fun J O=>j2u rfl J rfl rfl (fun _=>by kernel_rfl))
 refine zU fun a J=>?_
 refine Sto 0 fun w N a J=>?_
 refine go fun a J=>?_
 have D:=N
 replace N:=N.dl [2,1,0]
 refine qI (N:=D) ?_
 exact tC (((yW _ _ _ _).trans (q9w G3)).trans (show Ev.ok ((zW env e.name).getD v0) g=.ok v0 g by rw [G0];rfl)) ⟨(V,_),rfl,⟨Fz.Le.refl _,RVal.iff.2 ⟨_,rfl,(show I64 0 from ⟨by decide,by decide⟩),SliceOf.nil 3⟩⟩,N⟩
 obtain ⟨p79,c80,R4,rfl,Q4,J9,q3,e4⟩:=rn
 obtain ⟨O7,H5,rfl,I9,h88,Q9,V9⟩:=RVal.fm q3
 refine Qq (fun a J=>?_) (o:=by exact fun J O=>j2v rfl J rfl rfl (fun _=>by kernel_rfl))
 refine Reg [1,1,1,2,1,2,1] [0,1,2,3] fun w N a J=>?_
 by_cases M4:N7=e.name
 refine Qq (fun a J=>?_) (o:=by exact fun J O=>vY 1 (vs:=[.string k4.con,.int .i64 (k4.num),.slice O7 k4.args.length H5]) J O rfl Q4 isAgg42 sizeOf42 rfl rfl)
 refine Sto 0 fun w N a J=>?_
 refine go fun a J=>?_
 have D:=N
 replace N:=N.dl [2,1,0]
 refine qI (N:=D) ?_
 exact tC (((yW _ _ _ _).trans (q9w G3)).trans (by rw [G0];simp only [zW,if_pos M4.symm,Option.getD_some])) ⟨(V,_),rfl,⟨Fz.Le.refl _,q3⟩,N⟩
 refine go fun a J=>?_
 refine P4 (h3.length) _ _ (by subst T0;simp only [lcQ];omega) ⟨(h3),(R4),rfl,⟨J.pk,N⟩,?_⟩
 refine ⟨e4,?_⟩
 rw [G0];simp only [zW,if_neg (Ne.symm M4)]
 by_cases N4:e.kind=3
 refine go fun a J=>?_
 refine st J rfl rfl rfl (j9d rG runUnderlying94 runUnderlying9 zeroValue42 J N.toSees rfl rfl (fun I5 F2 a J=>?_))
 obtain ⟨p105,i8,rfl,V5,f9,E6,l7⟩:=RVal.fm F2
 refine Sto 0 fun w N a J=>?_
 refine go fun a J=>?_
 have D:=N
 replace N:=N.dl [2,1,0]
 refine qI (N:=D) ?_
 exact tC ((yW _ _ _ _).trans (x7i N4)) ⟨(V,_),rfl,⟨Fz.Le.refl _,F2⟩,N⟩
 refine go fun a J=>?_
 by_cases Z1:e.kind=4
 refine Reg [1,2,2,1,2,1,0,1,0] [0,1,2] fun w N a J=>?_
 refine go fun a J=>?_
 have z0:=y0
 rw [y7e Z1] at z0
 replace N:=N.pl 3
 refine xV call158 (fun r3 b5 w u1 H3 N a J=>?_) (fun r3 w u1 N=>?_) (c:=z7y (fun p2 h_=>ih p2 (by omega)) f rG h rv (qZ i0).2.1 (qZ i0).1 (by omega) (by omega) (jX z0) N)
 obtain ⟨z118,X8⟩:=r3
 obtain ⟨l4,J8⟩:=b5
 obtain ⟨M,G1⟩:=H3
 have d1:=wV u1
 simp only at M G1 N J d1
 have p5:=q3s d1
 replace f:=f.mono M
 replace rG:=RGiven.mono M rG
 replace re:=re.up M
 replace rv:=REnv.mono M rv
 replace b:=b.mono M
 replace H2:=H2.mono M
 replace k2:=k2.up M
 replace h:=h.up M
 replace A:=A.up M
 replace N:=N.nf
 obtain ⟨p126,c127,rfl,B5,F5⟩:=G1.fm
 have E5:=y5q z0 d1
 refine zU fun a J=>?_
 refine Sto 1 fun w N a J=>?_
 refine go fun a J=>?_
 have D:=N
 replace N:=N.dl [3,2,1]
 refine qI (N:=D) ?_
 exact tC (((yW _ _ _ _).trans (y7e Z1)).trans (mX d1)) ⟨(l4,_),rfl,⟨M,RVal.iff.2 ⟨_,rfl,(show I64 0 from ⟨by decide,by decide⟩),G1⟩⟩,N⟩
 have S2:=vB u1 (jX z0)
 replace N:=N.dl [3,2,1]
 exact nD (((yW _ _ _ _).trans (y7e Z1)).trans (nB S2)) ⟨rfl,N.le (Fz.Le.refl _)⟩
 by_cases Q0:e.kind=5
 refine Reg [2,1,2,1,1,2,1,2,2,2,1,2,1,0,0,0] [0,1,2] fun w N a J=>?_
 refine go fun a J=>?_
 rcases t1:yV (d7) e.name with _ | P7
 exact absurd (j4n Q0 (MapRel.none k2 t1)) y0
 obtain ⟨u0,o0,J5,rfl,l0⟩:=k2.get t1
 obtain ⟨s141,Y7,rfl,K4,i1⟩:=id l0
 obtain ⟨S4,y4,rfl,F6,m7⟩:=K4.fm
 obtain ⟨T4,z4,U4,A4,rfl,W5,g9,h9,G6,n7,H6,o7⟩:=REx.fm i1
 have Q2:=congrArg (zK false (.agg #[.string ⟨#[]⟩,.slice none 0 0,.string ⟨#[]⟩,.int .i64 ((0:Nat):Int),.int .i64 ((0:Nat):Int),.string ⟨#[]⟩,.slice none 0 0,.slice none 0 0])) t1
 refine Qq (fun a J=>?_) (o:=by exact fun J O=>Ok.cast (yC runUnderlying103 runUnderlying9 zeroValue68 J O rfl rfl H2) (show zK false (.agg #[.string ⟨#[]⟩,.slice none 0 0,.string ⟨#[]⟩,.int .i64 ((0:Nat):Int),.int .i64 ((0:Nat):Int),.string ⟨#[]⟩,.slice none 0 0,.slice none 0 0]) (yV (d7) e.name)=.agg #[.string u0.name,.slice S4 u0.params.length y4,.string u0.result,.int .i64 (u0.body.kind),.int .i64 (u0.body.num),.string u0.body.name,.slice T4 u0.body.args.length z4,.slice U4 u0.body.arms.length A4] from Q2))
 refine go fun a J=>?_
 have A0:=y0
 rw [z3a Q0 o0] at A0
 replace N:=N.pl 3
 refine xV call158 (fun s3 c5 w v1 I3 N a J=>?_) (fun s3 w v1 N=>?_) (c:=z7y (fun p2 h_=>ih p2 (by omega)) f rG h rv (qZ i0).2.1 (qZ i0).1 (by omega) (by omega) (jX A0) N)
 obtain ⟨z167,F4⟩:=s3
 obtain ⟨Q7,K8⟩:=c5
 obtain ⟨F,H1⟩:=I3
 have L0:=wV v1
 simp only at F H1 N J L0
 have q5:=q3s L0
 replace f:=f.mono F
 replace rG:=RGiven.mono F rG
 replace re:=re.up F
 replace rv:=REnv.mono F rv
 replace b:=b.mono F
 replace h:=h.up F
 replace A:=A.up F
 replace l0:=l0.up F
 replace i1:=i1.up F
 replace N:=N.nf
 obtain ⟨p175,j8,rfl,C5,G5⟩:=H1.fm
 have d2:=y5q A0 L0
 refine xV call48 (fun t3 e5 w w1 J3 N a J=>?_) (fun t3 w w1 N=>?_) (c:=y2i (ih F4 (by omega)) f rG l0 H1 (hF _ _ o0).1 (hF _ _ o0).2 (by omega) (by omega) d2 N)
 obtain ⟨z184,Y8⟩:=t3
 obtain ⟨n4,L8⟩:=e5
 obtain ⟨P,I1⟩:=J3
 have O1:=wV w1
 simp only at P I1 N J O1
 have r5:=sB O1
 replace f:=f.mono P
 replace rG:=RGiven.mono P rG
 replace re:=re.up P
 replace rv:=REnv.mono P rv
 replace b:=b.mono P
 replace h:=h.up P
 replace A:=A.up P
 replace l0:=l0.up P
 replace i1:=i1.up P
 replace N:=N.nf
 obtain ⟨p194,c195,rfl,X5,i9,I6,p7⟩:=RVal.fm I1
 refine Sto 1 fun w N a J=>?_
 refine go fun a J=>?_
 have D:=N
 replace N:=N.dl [3,2,1]
 refine qI (N:=D) ?_
 exact tC ((((yW _ _ _ _).trans (z3a Q0 o0)).trans (mX L0)).trans O1) ⟨(n4,_),rfl,⟨(F).trans P,I1⟩,N⟩
 have T2:=vB w1 d2
 replace N:=N.dl [3,2,1]
 exact nD ((((yW _ _ _ _).trans (z3a Q0 o0)).trans (mX L0)).trans T2) ⟨rfl,N.le (F)⟩
 have U2:=vB v1 (jX A0)
 replace N:=N.dl [3,2,1]
 exact nD (((yW _ _ _ _).trans (z3a Q0 o0)).trans (nB U2)) ⟨rfl,N.le (Fz.Le.refl _)⟩
 by_cases a0:e.kind=6
 refine go fun a J=>?_
 refine qP [2,1,2,1,2,1,0,0,0] (.q 0 (.q 1 (.q 2 (.q 3 (.q 4 (.q 5 (.e2 6 7 (.e 7 (.e 8 (.done))) (.e 6 (.e 8 (.done)))))))))) [0,1,2] J N fun w N=>?_
 have p3:=x1p a0 y0
 have j1:0 < e.args.length:=by omega
 have k1:1 < e.args.length:=by omega
 obtain ⟨x4,c0⟩:=jC k1
 refine go fun a J=>?_
 obtain ⟨q204,rfl,x205,S,K5,s6,E,u⟩:=h.el n3 j1
 obtain ⟨p213,k8,p219,l8,rfl,Y5,j9,k9,J6,q7,K6,r7⟩:=REx.fm u
 refine go fun a J=>?_
 refine aT ?_ ?_
 have B0:=y0
 rw [dO a0 S c0] at B0
 replace N:=N.pl 3
 refine xV call103 (fun u3 f5 w x1 K3 N a J=>?_) (fun u3 w x1 N=>?_) (c:=ih g (by omega) f rG u rv ((qZ i0).2.1 _ (mgQ S)) (by omega) (by omega) (jX B0) N)
 obtain ⟨l2,G4⟩:=u3
 obtain ⟨R7,M8⟩:=f5
 obtain ⟨G,d0⟩:=K3
 have M0:=wV x1
 simp only at G d0 N J M0
 have s5:=jK _ _ _ _ _ _ M0
 replace f:=f.mono G
 replace rG:=RGiven.mono G rG
 replace re:=re.up G
 replace rv:=REnv.mono G rv
 replace b:=b.mono G
 replace h:=h.up G
 replace A:=A.up G
 replace E:=E.mono G
 replace u:=u.up G
 replace N:=N.nf
 obtain ⟨V4,B4,rfl,Z5,l9,L6,s7⟩:=RVal.fm d0
 have f2:=y5q B0 M0
 refine Alc fun Z7 w N a J=>?_
 refine Sto 0 fun w N a J=>?_
 refine Reg [2,1,2,1,2,1,2,2,1,1,0,0,0] [0,2,3,4] fun w N a J=>?_
 refine go fun a J=>?_
 obtain ⟨Z4,T1⟩:=jC k1
 obtain ⟨L5,t6,R0,m0⟩:=h.elem T1
 obtain ⟨p255,m8,p261,n8,rfl,a6,m9,n9,M6,t7,N6,u7⟩:=REx.fm m0
 refine z3v fun a J=>?_
 refine Bx fun v4 w N a J=>?_
 have X:=N
 clear N
 obtain ⟨o4,B,N,M2⟩:=X.freezeBlk (i:=0) rfl
 clear X
 replace f:=f.mono B
 replace rG:=RGiven.mono B rG
 replace re:=re.up B
 replace rv:=REnv.mono B rv
 replace b:=b.mono B
 replace h:=h.up B
 replace A:=A.up B
 replace E:=E.mono B
 replace u:=u.up B
 replace d0:=d0.up B
 replace R0:=R0.mono B
 replace m0:=m0.up B
 replace N:=N.nf
 have I0:REnv o4 ((e.name,l2)::env) (some ⟨v4,0,none⟩):=⟨_,[.string l2.con,.int .i64 (l2.num),.slice V4 l2.args.length B4],_,rfl,M2,rfl,d0,rv⟩
 obtain rfl:x4=Z4:=Option.some.inj (c0.symm.trans T1)
 replace N:=N.pl 1
 refine xV call103 (fun v3 g5 w y1 L3 N a J=>?_) (fun v3 w y1 N=>?_) (c:=ih G4 (by omega) f rG m0 I0 ((qZ i0).2.1 _ (mgQ T1)) (by omega) (by omega) f2 N)
 obtain ⟨z275,Z8⟩:=v3
 obtain ⟨p4,N8⟩:=g5
 obtain ⟨v,J1⟩:=L3
 have P1:=wV y1
 simp only at v J1 N J P1
 have t5:=jK _ _ _ _ _ _ P1
 replace f:=f.mono v
 replace rG:=RGiven.mono v rG
 replace re:=re.up v
 replace rv:=REnv.mono v rv
 replace b:=b.mono v
 replace h:=h.up v
 replace A:=A.up v
 replace E:=E.mono v
 replace u:=u.up v
 replace d0:=d0.up v
 replace R0:=R0.mono v
 replace m0:=m0.up v
 replace I0:=REnv.mono v I0
 replace N:=N.nf
 obtain ⟨p285,o8,rfl,b6,o9,O6,v7⟩:=RVal.fm J1
 refine Sto 2 fun w N a J=>?_
 refine go fun a J=>?_
 have D:=N
 replace N:=N.dl [4,3,2,1]
 refine qI (N:=D) ?_
 exact tC ((((yW _ _ _ _).trans (dO a0 S c0)).trans (mX M0)).trans P1) ⟨(p4,_),rfl,⟨((G).trans B).trans v,J1⟩,N⟩
 have V2:=vB y1 f2
 replace N:=N.dl [4,3,2,1]
 exact nD ((((yW _ _ _ _).trans (dO a0 S c0)).trans (mX M0)).trans V2) ⟨rfl,N.le ((G).trans B)⟩
 have W2:=vB x1 (jX B0)
 replace N:=N.dl [3,2,1]
 exact nD (((yW _ _ _ _).trans (dO a0 S c0)).trans (nB W2)) ⟨rfl,N.le (Fz.Le.refl _)⟩
 refine Alc fun a8 w N a J=>?_
 have C0:=y0
 rw [dO a0 S c0] at C0
 replace N:=N.pl 4
 refine xV call103 (fun w3 h5 w z1 M3 N a J=>?_) (fun w3 w z1 N=>?_) (c:=ih g (by omega) f rG u rv ((qZ i0).2.1 _ (mgQ S)) (by omega) (by omega) (jX C0) N)
 obtain ⟨n2,H4⟩:=w3
 obtain ⟨S7,O8⟩:=h5
 obtain ⟨H,f0⟩:=M3
 have N0:=wV z1
 simp only at H f0 N J N0
 have u5:=jK _ _ _ _ _ _ N0
 replace f:=f.mono H
 replace rG:=RGiven.mono H rG
 replace re:=re.up H
 replace rv:=REnv.mono H rv
 replace b:=b.mono H
 replace h:=h.up H
 replace A:=A.up H
 replace E:=E.mono H
 replace u:=u.up H
 replace N:=N.nf
 obtain ⟨W4,C4,rfl,c6,p9,P6,w7⟩:=RVal.fm f0
 have g2:=y5q C0 N0
 refine Sto 1 fun w N a J=>?_
 refine Reg [2,1,2,1,2,1,2,2,1,1,0,0,0] [1,2,3,4] fun w N a J=>?_
 refine go fun a J=>?_
 obtain ⟨a5,U1⟩:=jC k1
 obtain ⟨M5,u6,S0,n0⟩:=h.elem U1
 obtain ⟨p323,p8,p329,q8,rfl,e6,q9,r9,Q6,x7,R6,y7⟩:=REx.fm n0
 refine z3v fun a J=>?_
 refine Bx fun w4 w N a J=>?_
 have X:=N
 clear N
 obtain ⟨q4,C,N,N2⟩:=X.freezeBlk (i:=0) rfl
 clear X
 replace f:=f.mono C
 replace rG:=RGiven.mono C rG
 replace re:=re.up C
 replace rv:=REnv.mono C rv
 replace b:=b.mono C
 replace h:=h.up C
 replace A:=A.up C
 replace E:=E.mono C
 replace u:=u.up C
 replace f0:=f0.up C
 replace S0:=S0.mono C
 replace n0:=n0.up C
 replace N:=N.nf
 have J0:REnv q4 ((e.name,n2)::env) (some ⟨w4,0,none⟩):=⟨_,[.string n2.con,.int .i64 (n2.num),.slice W4 n2.args.length C4],_,rfl,N2,rfl,f0,rv⟩
 obtain rfl:x4=a5:=Option.some.inj (c0.symm.trans U1)
 refine xV call103 (fun x3 i5 w A1 N3 N a J=>?_) (fun x3 w A1 N=>?_) (c:=ih H4 (by omega) f rG n0 J0 ((qZ i0).2.1 _ (mgQ U1)) (by omega) (by omega) g2 N)
 obtain ⟨z343,a9⟩:=x3
 obtain ⟨r4,P8⟩:=i5
 obtain ⟨y,K1⟩:=N3
 have Q1:=wV A1
 simp only at y K1 N J Q1
 have v5:=jK _ _ _ _ _ _ Q1
 replace f:=f.mono y
 replace rG:=RGiven.mono y rG
 replace re:=re.up y
 replace rv:=REnv.mono y rv
 replace b:=b.mono y
 replace h:=h.up y
 replace A:=A.up y
 replace E:=E.mono y
 replace u:=u.up y
 replace f0:=f0.up y
 replace S0:=S0.mono y
 replace n0:=n0.up y
 replace J0:=REnv.mono y J0
 replace N:=N.nf
 obtain ⟨p353,r8,rfl,f6,s9,S6,z7⟩:=RVal.fm K1
 refine Sto 2 fun w N a J=>?_
 refine go fun a J=>?_
 have D:=N
 replace N:=N.dl [4,3,2,1]
 refine qI (N:=D) ?_
 exact tC ((((yW _ _ _ _).trans (dO a0 S c0)).trans (mX N0)).trans Q1) ⟨(r4,_),rfl,⟨((H).trans C).trans y,K1⟩,N⟩
 have X2:=vB A1 g2
 replace N:=N.dl [4,3,2,1]
 exact nD ((((yW _ _ _ _).trans (dO a0 S c0)).trans (mX N0)).trans X2) ⟨rfl,N.le ((H).trans C)⟩
 have Y2:=vB z1 (jX C0)
 replace N:=N.dl [4,3,2,1]
 exact nD (((yW _ _ _ _).trans (dO a0 S c0)).trans (nB Y2)) ⟨rfl,N.le (Fz.Le.refl _)⟩
 by_cases b0:e.kind=7
 refine go fun a J=>?_
 refine qP [2,1,2,1,2,1,0,0,0] (.q 0 (.q 1 (.q 2 (.q 3 (.q 4 (.q 5 (.e2 6 7 (.e 7 (.e 8 (.done))) (.e 6 (.e 8 (.done)))))))))) [0,1,2] J N fun w N=>?_
 have p3:=j4m b0 y0
 have j1:0 < e.args.length:=by omega
 refine go fun a J=>?_
 obtain ⟨q363,rfl,x364,U,N5,v6,s,j⟩:=h.el n3 j1
 obtain ⟨p372,s8,p378,t8,rfl,g6,t9,u9,T6,A7,U6,B7⟩:=REx.fm j
 refine go fun a J=>?_
 refine aT ?_ ?_
 have D0:=y0
 rw [nP b0 U] at D0
 replace N:=N.pl 3
 refine xV call103 (fun y3 j5 w B1 O3 N a J=>?_) (fun y3 w B1 N=>?_) (c:=ih g (by omega) f rG j rv ((qZ i0).2.1 _ (mgQ U)) (by omega) (by omega) (jX D0) N)
 obtain ⟨w0,I4⟩:=y3
 obtain ⟨X1,Q8⟩:=j5
 obtain ⟨I,Y⟩:=O3
 have O0:=wV B1
 simp only at I Y N J O0
 have w5:=jK _ _ _ _ _ _ O0
 replace f:=f.mono I
 replace rG:=RGiven.mono I rG
 replace re:=re.up I
 replace rv:=REnv.mono I rv
 replace b:=b.mono I
 replace h:=h.up I
 replace A:=A.up I
 replace s:=s.mono I
 replace j:=j.up I
 replace N:=N.nf
 obtain ⟨p398,u8,rfl,h6,q2,V6,Y3⟩:=RVal.fm Y
 have h2:=y5q D0 O0
 refine Alc fun b8 w N a J=>?_
 refine Sto 0 fun w N a J=>?_
 refine go fun a J=>?_
 refine zR (J.ks [2,3,6,8,120,121]) N (fun R mm a w=>∃(i:Nat),mm=e.arms.length - i/\R X1 [(122,.int .i64 i)] [] a w/\(wW e.arms w0.con=wW (e.arms.drop i) w0.con)) (e.arms.length - 0) ⟨0,rfl,⟨J.pk,N⟩,rfl⟩ ?_
 clear N J
 rintro mm a w ⟨i,T0,⟨J,N⟩,p1⟩ U7 U3
 by_cases i3:i < e.arms.length
 refine go fun a J=>?_
 obtain ⟨q413,rfl,s0,V1,O5,w6,j0,g0⟩:=A.el o3 i3
 obtain ⟨s420,c8,rfl,a2,q0⟩:=RArm.iff.1 g0
 obtain ⟨p422,v8,rfl,W6,Z3⟩:=a2.fm
 obtain ⟨p430,w8,p436,x8,rfl,i6,v9,w9,X6,C7,Y6,D7⟩:=REx.fm q0
 refine Alc fun e8 w N a J=>?_
 refine Sto 0 fun w N a J=>?_
 by_cases j3:s0.con=w0.con
 refine go fun a J=>?_
 have K0:wW e.arms w0.con=some s0:=by
  rw [p1,zA V1];simp [wW,j3]
 have U0:=h2
 rw [cD K0] at U0
 obtain ⟨o1,A2⟩:=y2g U0
 refine go fun a J=>?_
 refine zR (J.ks [3,6,8,10,132,133]) N (fun R mm a w=>∃(f1:Fz) (k:Nat) (en:Env) (nv:Option Addr),mm=s0.vars.length - k/\R f1 [(2,.pointer nv),(134,.int .i64 k)] [] a w/\(X1.Le f1/\(REnv f1 en nv/\dD s0.vars w0.args env=dD (s0.vars.drop k) (w0.args.drop k) en))) (s0.vars.length - 0) ⟨X1,0,env,ov,rfl,⟨J.pk,N⟩,⟨Fz.Le.refl _,⟨rv,rfl⟩⟩⟩ ?_
 clear N J
 rintro mm a w ⟨f1,k,en,nv,T0,⟨J,N⟩,q1⟩ V7 V3
 obtain ⟨l,q1⟩:=q1
 replace f:=f.mono l
 replace rG:=RGiven.mono l rG
 replace re:=re.up l
 replace rv:=REnv.mono l rv
 replace b:=b.mono l
 replace h:=h.up l
 replace A:=A.up l
 replace s:=s.mono l
 replace j:=j.up l
 replace q2:=q2.up l
 replace Y:=Y.up l
 replace j0:=j0.mono l
 replace g0:=g0.up l
 replace a2:=a2.up l
 replace q0:=q0.up l
 obtain ⟨rn,G0⟩:=q1
 by_cases r2:k < s0.vars.length
 have E2:k < w0.args.length:=z7l (env:=en) (env':=o1) (by rw [<- G0];exact A2) r2
 refine go fun a J=>?_
 obtain ⟨q457,rfl,I2,f4,E3,x6,u2,c4⟩:=a2.el Z3 r2
 obtain rfl:E3=[.string I2]:=c4
 refine go fun a J=>?_
 obtain ⟨q464,rfl,l1,g4,P5,y6,v2,Y0⟩:=q2.el Y3 E2
 obtain ⟨X4,D4,rfl,j6,x9,Z6,E7⟩:=RVal.fm Y0
 refine z3v fun a J=>?_
 refine Bx fun f3 w N a J=>?_
 have X:=N
 clear N
 obtain ⟨K2,m,N,O2⟩:=X.freezeBlk (i:=0) rfl
 clear X
 replace f:=f.mono m
 replace rG:=RGiven.mono m rG
 replace re:=re.up m
 replace rv:=REnv.mono m rv
 replace b:=b.mono m
 replace h:=h.up m
 replace A:=A.up m
 replace s:=s.mono m
 replace j:=j.up m
 replace Y:=Y.up m
 replace j0:=j0.mono m
 replace g0:=g0.up m
 replace q0:=q0.up m
 replace rn:=REnv.mono m rn
 replace u2:=u2.mono m
 replace v2:=v2.mono m
 replace Y0:=Y0.up m
 replace N:=N.nf
 have C2:REnv K2 ((I2,l1)::en) (some ⟨f3,0,none⟩):=⟨_,[.string l1.con,.int .i64 (l1.num),.slice X4 l1.args.length D4],_,rfl,O2,rfl,Y0,rn⟩
 refine go fun a J=>?_
 refine V3 _ _ _ (by subst T0;omega) ⟨(K2),(k+1),((I2,l1)::en),((some ⟨f3,0,none⟩)),rfl,⟨J.pk,N⟩,?_⟩
 refine ⟨(l).trans m,?_⟩
 refine ⟨C2,?_⟩
 rw [G0,zA f4,zA g4];rfl
 refine go fun a J=>?_
 have H0:dD s0.vars w0.args env=some en:=by
  rw [G0,zE r2,y9y]
 have V0:=U0
 rw [z2k H0] at V0
 replace N:=N.pl 2
 refine xV call103 (fun z3 k5 w C1 P3 N a J=>?_) (fun z3 w C1 N=>?_) (c:=ih I4 (by omega) f rG q0 rn ((qZ i0).2.2 _ (mgQ V1)).1 (by omega) (by omega) V0 N)
 obtain ⟨z490,b9⟩:=z3
 obtain ⟨s4,R8⟩:=k5
 obtain ⟨t,L1⟩:=P3
 have R1:=wV C1
 simp only at t L1 N J R1
 have x5:=jK _ _ _ _ _ _ R1
 replace f:=f.mono t
 replace rG:=RGiven.mono t rG
 replace re:=re.up t
 replace rv:=REnv.mono t rv
 replace b:=b.mono t
 replace h:=h.up t
 replace A:=A.up t
 replace s:=s.mono t
 replace j:=j.up t
 replace Y:=Y.up t
 replace j0:=j0.mono t
 replace g0:=g0.up t
 replace q0:=q0.up t
 replace rn:=REnv.mono t rn
 replace N:=N.nf
 obtain ⟨p500,y8,rfl,k6,y9,a7,F7⟩:=RVal.fm L1
 refine Sto 3 fun w N a J=>?_
 refine go fun a J=>?_
 have D:=N
 replace N:=N.dl [5,4,3,2,1]
 refine qI (N:=D) ?_
 exact tC ((((((yW _ _ _ _).trans (nP b0 U)).trans (mX O0)).trans (cD K0)).trans (z2k H0)).trans R1) ⟨(s4,_),rfl,⟨((I).trans l).trans t,L1⟩,N⟩
 have Z2:=vB C1 V0
 replace N:=N.dl [5,4,3,2,1]
 exact nD ((((((yW _ _ _ _).trans (nP b0 U)).trans (mX O0)).trans (cD K0)).trans (z2k H0)).trans Z2) ⟨rfl,N.le ((I).trans l)⟩
 refine go fun a J=>?_
 replace N:=N.dl [0]
 refine U3 _ _ _ (by subst T0;omega) ⟨(i+1),rfl,⟨J.pk,N⟩,?_⟩
 rw [p1,zA V1];simp only [wW,if_neg j3]
 refine zU fun a J=>?_
 refine Sto 2 fun w N a J=>?_
 refine go fun a J=>?_
 have D:=N
 replace N:=N.dl [4,3,2,0]
 refine qI (N:=D) ?_
 exact absurd (y2a (by rw [p1,zE i3];rfl)) h2
 have a3:=vB B1 (jX D0)
 replace N:=N.dl [3,2,1]
 exact nD (((yW _ _ _ _).trans (nP b0 U)).trans (nB a3)) ⟨rfl,N.le (Fz.Le.refl _)⟩
 refine Alc fun f8 w N a J=>?_
 have E0:=y0
 rw [nP b0 U] at E0
 replace N:=N.pl 4
 refine xV call103 (fun A3 l5 w D1 Q3 N a J=>?_) (fun A3 w D1 N=>?_) (c:=ih g (by omega) f rG j rv ((qZ i0).2.1 _ (mgQ U)) (by omega) (by omega) (jX E0) N)
 obtain ⟨x0,J4⟩:=A3
 obtain ⟨Y1,S8⟩:=l5
 obtain ⟨L,Z⟩:=Q3
 have P0:=wV D1
 simp only at L Z N J P0
 have y5:=jK _ _ _ _ _ _ P0
 replace f:=f.mono L
 replace rG:=RGiven.mono L rG
 replace re:=re.up L
 replace rv:=REnv.mono L rv
 replace b:=b.mono L
 replace h:=h.up L
 replace A:=A.up L
 replace s:=s.mono L
 replace j:=j.up L
 replace N:=N.nf
 obtain ⟨p525,z8,rfl,l6,s2,b7,a4⟩:=RVal.fm Z
 have i2:=y5q E0 P0
 refine Sto 1 fun w N a J=>?_
 refine go fun a J=>?_
 refine zR (J.ks [2,3,6,8,120,121]) N (fun R mm a w=>∃(i:Nat),mm=e.arms.length - i/\R Y1 [(122,.int .i64 i)] [] a w/\(wW e.arms x0.con=wW (e.arms.drop i) x0.con)) (e.arms.length - 0) ⟨0,rfl,⟨J.pk,N⟩,rfl⟩ ?_
 clear N J
 rintro mm a w ⟨i,T0,⟨J,N⟩,r1⟩ W7 W3
 by_cases k3:i < e.arms.length
 refine go fun a J=>?_
 obtain ⟨q539,rfl,t0,W1,Q5,z6,k0,h0⟩:=A.el o3 k3
 obtain ⟨s546,g8,rfl,b2,r0⟩:=RArm.iff.1 h0
 obtain ⟨p548,A8,rfl,c7,b4⟩:=b2.fm
 obtain ⟨p556,B8,p562,C8,rfl,m6,z9,A9,e7,G7,f7,H7⟩:=REx.fm r0
 refine Alc fun h8 w N a J=>?_
 refine Sto 0 fun w N a J=>?_
 by_cases l3:t0.con=x0.con
 refine go fun a J=>?_
 have K0:wW e.arms x0.con=some t0:=by
  rw [r1,zA W1];simp [wW,l3]
 have W0:=i2
 rw [cD K0] at W0
 obtain ⟨o1,A2⟩:=y2g W0
 refine go fun a J=>?_
 refine zR (J.ks [3,6,8,10,132,133]) N (fun R mm a w=>∃(h1:Fz) (k:Nat) (en:Env) (nv:Option Addr),mm=t0.vars.length - k/\R h1 [(2,.pointer nv),(134,.int .i64 k)] [] a w/\(Y1.Le h1/\(REnv h1 en nv/\dD t0.vars x0.args env=dD (t0.vars.drop k) (x0.args.drop k) en))) (t0.vars.length - 0) ⟨Y1,0,env,ov,rfl,⟨J.pk,N⟩,⟨Fz.Le.refl _,⟨rv,rfl⟩⟩⟩ ?_
 clear N J
 rintro mm a w ⟨h1,k,en,nv,T0,⟨J,N⟩,s1⟩ X7 X3
 obtain ⟨n,s1⟩:=s1
 replace f:=f.mono n
 replace rG:=RGiven.mono n rG
 replace re:=re.up n
 replace rv:=REnv.mono n rv
 replace b:=b.mono n
 replace h:=h.up n
 replace s:=s.mono n
 replace j:=j.up n
 replace s2:=s2.up n
 replace Z:=Z.up n
 replace k0:=k0.mono n
 replace h0:=h0.up n
 replace b2:=b2.up n
 replace r0:=r0.up n
 obtain ⟨rn,G0⟩:=s1
 by_cases t2:k < t0.vars.length
 have E2:k < x0.args.length:=z7l (env:=en) (env':=o1) (by rw [<- G0];exact A2) t2
 refine go fun a J=>?_
 obtain ⟨q583,rfl,J2,h4,F3,A6,w2,d4⟩:=b2.el b4 t2
 obtain rfl:F3=[.string J2]:=d4
 refine go fun a J=>?_
 obtain ⟨q590,rfl,n1,i4,R5,B6,x2,Z0⟩:=s2.el a4 E2
 obtain ⟨Y4,E4,rfl,n6,B9,g7,I7⟩:=RVal.fm Z0
 refine z3v fun a J=>?_
 refine Bx fun g3 w N a J=>?_
 have X:=N
 clear N
 obtain ⟨L2,r,N,P2⟩:=X.freezeBlk (i:=0) rfl
 clear X
 replace f:=f.mono r
 replace rG:=RGiven.mono r rG
 replace re:=re.up r
 replace rv:=REnv.mono r rv
 replace b:=b.mono r
 replace h:=h.up r
 replace s:=s.mono r
 replace j:=j.up r
 replace Z:=Z.up r
 replace k0:=k0.mono r
 replace h0:=h0.up r
 replace r0:=r0.up r
 replace rn:=REnv.mono r rn
 replace w2:=w2.mono r
 replace x2:=x2.mono r
 replace Z0:=Z0.up r
 replace N:=N.nf
 have D2:REnv L2 ((J2,n1)::en) (some ⟨g3,0,none⟩):=⟨_,[.string n1.con,.int .i64 (n1.num),.slice Y4 n1.args.length E4],_,rfl,P2,rfl,Z0,rn⟩
 refine go fun a J=>?_
 refine X3 _ _ _ (by subst T0;omega) ⟨(L2),(k+1),((J2,n1)::en),((some ⟨g3,0,none⟩)),rfl,⟨J.pk,N⟩,?_⟩
 refine ⟨(n).trans r,?_⟩
 refine ⟨D2,?_⟩
 rw [G0,zA h4,zA i4];rfl
 refine go fun a J=>?_
 have H0:dD t0.vars x0.args env=some en:=by
  rw [G0,zE t2,y9y]
 have X0:=W0
 rw [z2k H0] at X0
 replace N:=N.pl 1
 refine xV call103 (fun B3 m5 w E1 R3 N a J=>?_) (fun B3 w E1 N=>?_) (c:=ih J4 (by omega) f rG r0 rn ((qZ i0).2.2 _ (mgQ W1)).1 (by omega) (by omega) X0 N)
 obtain ⟨z616,d9⟩:=B3
 obtain ⟨t4,T8⟩:=m5
 obtain ⟨z,M1⟩:=R3
 have S1:=wV E1
 simp only at z M1 N J S1
 have z5:=jK _ _ _ _ _ _ S1
 replace f:=f.mono z
 replace rG:=RGiven.mono z rG
 replace re:=re.up z
 replace rv:=REnv.mono z rv
 replace b:=b.mono z
 replace h:=h.up z
 replace s:=s.mono z
 replace j:=j.up z
 replace Z:=Z.up z
 replace k0:=k0.mono z
 replace h0:=h0.up z
 replace r0:=r0.up z
 replace rn:=REnv.mono z rn
 replace N:=N.nf
 obtain ⟨p626,D8,rfl,o6,C9,h7,J7⟩:=RVal.fm M1
 refine Sto 3 fun w N a J=>?_
 refine go fun a J=>?_
 have D:=N
 replace N:=N.dl [5,4,3,2,1]
 refine qI (N:=D) ?_
 exact tC ((((((yW _ _ _ _).trans (nP b0 U)).trans (mX P0)).trans (cD K0)).trans (z2k H0)).trans S1) ⟨(t4,_),rfl,⟨((L).trans n).trans z,M1⟩,N⟩
 have b3:=vB E1 X0
 replace N:=N.dl [5,4,3,2,1]
 exact nD ((((((yW _ _ _ _).trans (nP b0 U)).trans (mX P0)).trans (cD K0)).trans (z2k H0)).trans b3) ⟨rfl,N.le ((L).trans n)⟩
 refine go fun a J=>?_
 replace N:=N.dl [0]
 refine W3 _ _ _ (by subst T0;omega) ⟨(i+1),rfl,⟨J.pk,N⟩,?_⟩
 rw [r1,zA W1];simp only [wW,if_neg l3]
 refine zU fun a J=>?_
 refine Sto 2 fun w N a J=>?_
 refine go fun a J=>?_
 have D:=N
 replace N:=N.dl [4,3,2,1]
 refine qI (N:=D) ?_
 exact absurd (y2a (by rw [r1,zE k3];rfl)) i2
 have d3:=vB D1 (jX E0)
 replace N:=N.dl [4,3,2,1]
 exact nD (((yW _ _ _ _).trans (nP b0 U)).trans (nB d3)) ⟨rfl,N.le (Fz.Le.refl _)⟩
 refine go fun a J=>?_
 by_cases c2:e.kind=8
 refine go fun a J=>?_
 have F0:=y0
 rw [q5h c2] at F0
 replace N:=N.pl 3
 refine xV call158 (fun C3 n5 w F1 S3 N a J=>?_) (fun C3 w F1 N=>?_) (c:=z7y (fun p2 h_=>ih p2 (by omega)) f rG h rv (qZ i0).2.1 (qZ i0).1 (by omega) (by omega) (jX F0) N)
 obtain ⟨D3,e9⟩:=C3
 obtain ⟨T7,U8⟩:=n5
 obtain ⟨p0,a1⟩:=S3
 have e1:=wV F1
 simp only at p0 a1 N J e1
 have A5:=q3s e1
 replace rG:=RGiven.mono p0 rG
 replace re:=re.up p0
 replace rv:=REnv.mono p0 rv
 replace b:=b.mono p0
 replace N:=N.nf
 obtain ⟨p651,E8,rfl,D5,R2⟩:=a1.fm
 have j2:=y5q F0 e1
 refine Reg [1,2,1,1,1,2,1,1,1,2,0,0] [1,2,3] fun w N a J=>?_
 have p3:=x6c j2
 have j1:0 < D3.length:=by omega
 have k1:1 < D3.length:=by omega
 refine go fun a J=>?_
 obtain ⟨q657,rfl,x658,j4,S5,C6,y2,b1⟩:=a1.el R2 j1
 obtain ⟨p666,F8,rfl,p6,D9,i7,K7⟩:=RVal.fm b1
 refine go fun a J=>?_
 obtain ⟨x671,G2⟩:=jC k1
 obtain ⟨T5,D6,z2,c1⟩:=a1.elem G2
 obtain ⟨p679,G8,rfl,q6,E9,j7,L7⟩:=RVal.fm c1
 refine zV call159 (fun o5 w T3 N a J=>?_) (c:=j2z (by obtain ⟨_,_,h_,_⟩:=RVal.iff.1 b1;exact h_) (by obtain ⟨_,_,h_,_⟩:=RVal.iff.1 c1;exact h_) N)
 obtain ⟨u4,V8⟩:=o5
 obtain ⟨W,N1⟩:=T3
 simp only at W N1 N J
 replace rG:=RGiven.mono W rG
 replace re:=re.up W
 replace rv:=REnv.mono W rv
 replace b:=b.mono W
 replace y2:=y2.mono W
 replace b1:=b1.up W
 replace z2:=z2.mono W
 replace c1:=c1.up W
 replace N:=N.nf
 obtain ⟨p692,H8,rfl,r6,F9,k7,M7⟩:=RVal.fm N1
 refine Sto 1 fun w N a J=>?_
 refine go fun a J=>?_
 have D:=N
 replace N:=N.dl [3,2,1]
 refine qI (N:=D) ?_
 exact tC ((((yW _ _ _ _).trans (q5h c2)).trans (mX e1)).trans (opOf_eq j4 G2 j2).2) ⟨(u4,_),rfl,⟨(p0).trans W,N1⟩,N⟩
 have e3:=vB F1 (jX F0)
 replace N:=N.dl [3,2,1]
 exact nD (((yW _ _ _ _).trans (q5h c2)).trans (nB e3)) ⟨rfl,N.le (Fz.Le.refl _)⟩
 refine zU fun a J=>?_
 refine Sto 0 fun w N a J=>?_
 refine go fun a J=>?_
 have D:=N
 replace N:=N.dl [2,1,0]
 refine qI (N:=D) ?_
 exact absurd (x1q (by have h_:=L4;omega) (by have h_:=G3;omega) (by have h_:=N4;omega) (by have h_:=Z1;omega) (by have h_:=Q0;omega) (by have h_:=a0;omega) (by have h_:=b0;omega) (by have h_:=c2;omega)) y0
theorem x3i {T:Table} {inp:List (Bs×Val)} (a:z0s T):∀g,oD prog T inp g:=by
 suffices H:∀n g,g < n->oD prog T inp g from fun g=>H _ g (Nat.lt_succ_self _)
 intro n
 induction n with
 | zero=>intro g h;omega
 | succ n b=>
  intro g h
  cases g with
  | zero=>exact j9g
  | succ g=>exact j9f a fun g1 h1=>b g1 (by omega)
theorem z0w {T:Table} {inp:List (Bs×Val)} (a:z0s T) (g:Nat):q5x prog T inp g:=y2i (x3i a g)
end Go.Sw
