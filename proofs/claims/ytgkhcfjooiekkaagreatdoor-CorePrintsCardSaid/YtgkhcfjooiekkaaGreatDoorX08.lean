import Derived.Test.YtgkhcfjooiekkaaGreatDoorX07
set_option linter.unusedVariables false
set_option linter.unusedSimpArgs false
namespace Go.Sw
open Go.Proofs.Tryz
open Go.Proofs
set_option maxRecDepth 20000
set_option maxHeartbeats 4000000
variable {V:Fz} {K:List Res} {w:World}
theorem q9y {g:Nat} {fs cs:List Value} {v0 H:Value} {l:List Val} {m:List Param} {p:Val->Param->Bool} (rl:SliceOf RVal V 3 v0 l) (rm:SliceOf RParam V 2 H m)
  (S:∀args w,(callFunc g args).run prog w=.ok (.enter g args) w)
  (P:∀x c y d w,x∈l->y∈m->RVal V c x->RParam V d y->Mem V K w->Calls prog g (fs++[Value.agg c.toArray,Value.agg d.toArray]++cs).toArray w (fun e w'=>e=.returned (.bool (p x y))/\Mem V K w'))
  (N:Mem V K w):Calls prog 59 #[v0,H,.func (.func g) fs.toArray cs.toArray] w (fun ee w'=>ee=.returned (.bool (eqF p l m))/\Mem V K w'):=by
 obtain ⟨p0,c0,rfl,T,t⟩:=rl.fm
 obtain ⟨p1,c1,rfl,U,u⟩:=rm.fm
 refine zM func59 ntmps59 fun Q hQ a J=>?_
 by_cases h4:l.length=m.length
 refine go fun a J=>?_
 refine zV (J.ks [1,2,15,16]) N (fun R mm a w=>∃(i:Nat),mm=l.length - i/\R V [(17,.int .i64 ((i:Nat):Int))] [] a w/\(eqF p l m=eqF p (l.drop i) (m.drop i))) (l.length - 0) ⟨0,rfl,⟨J.pk,N⟩,rfl⟩ ?_
 clear N J
 rintro mm a w ⟨i,s,⟨J,N⟩,k⟩ L7 r
 by_cases n:i < l.length
 refine go fun a J=>?_
 obtain ⟨X,rfl,Z,b,v,D,A,h⟩:=rl.el t n
 obtain ⟨W,c24,rfl,C,M,F,G⟩:=RVal.fm h
 refine Alc fun I w N a J=>?_
 refine Sto 0 fun w N a J=>?_
 refine go fun a J=>?_
 have q:i < m.length:=by omega
 obtain ⟨Y,rfl,a0,f,z,E,B,j⟩:=rm.el u q
 obtain rfl:=id j
 refine Alc fun L w N a J=>?_
 refine Sto 0 fun w N a J=>?_
 refine go fun a J=>?_
 replace N:=N.dl [1,0]
 refine y0n S (fun o w N a J=>?_) (fun o w N a J=>?_) (c:=by exact P _ _ _ _ _ (mgQ b) (mgQ f) h j N)
 refine go fun a J=>?_
 refine r _ _ _ (by subst s;omega) ⟨(i+1),rfl,⟨J.pk,N⟩,?_⟩
 rw [k,zA b,zA f];simp [eqF, *]
 refine zF ?_
 exact zN N (by rw [k,zA b,zA f];simp [eqF, *])
 refine zF ?_
 exact zN N (by rw [k,zE n,zE (l:=m) (by omega)];rfl)
 refine zF ?_
 exact zN N (by rw [q2c (by assumption)])
theorem q2d {g:Nat} {fs cs:List Value} {v0 I:Value} {l:List Named} {m:List Param} {p:Named->Param->Bool} (rl:SliceOf RNamed V 4 v0 l) (rm:SliceOf RParam V 2 I m)
  (W:∀args w,(callFunc g args).run prog w=.ok (.enter g args) w)
  (U:∀x c y d w,x∈l->y∈m->RNamed V c x->RParam V d y->Mem V K w->Calls prog g (fs++[Value.agg c.toArray,Value.agg d.toArray]++cs).toArray w (fun e w'=>e=.returned (.bool (p x y))/\Mem V K w'))
  (N:Mem V K w):Calls prog 100 #[v0,I,.func (.func g) fs.toArray cs.toArray] w (fun ee w'=>ee=.returned (.bool (eqF p l m))/\Mem V K w'):=by
 obtain ⟨p0,c0,rfl,X,u⟩:=rl.fm
 obtain ⟨p1,c1,rfl,Y,v⟩:=rm.fm
 refine zM func100 ntmps100 fun Q hQ a J=>?_
 by_cases h4:l.length=m.length
 refine go fun a J=>?_
 refine zV (J.ks [1,2,15,16]) N (fun R mm a w=>∃(i:Nat),mm=l.length - i/\R V [(17,.int .i64 ((i:Nat):Int))] [] a w/\(eqF p l m=eqF p (l.drop i) (m.drop i))) (l.length - 0) ⟨0,rfl,⟨J.pk,N⟩,rfl⟩ ?_
 clear N J
 rintro mm a w ⟨i,t,⟨J,N⟩,k⟩ L7 s
 by_cases n:i < l.length
 refine go fun a J=>?_
 obtain ⟨a0,rfl,d0,b,z,E,B,h⟩:=rl.el u n
 obtain ⟨L,rfl,r⟩:=id h
 obtain ⟨Z,S,rfl,D,T,G,H⟩:=RVal.fm r
 refine Alc fun M w N a J=>?_
 refine Sto 0 fun w N a J=>?_
 refine go fun a J=>?_
 have q:i < m.length:=by omega
 obtain ⟨b0,rfl,e0,f,A,F,C,j⟩:=rm.el v q
 obtain rfl:=id j
 refine Alc fun P w N a J=>?_
 refine Sto 0 fun w N a J=>?_
 refine go fun a J=>?_
 replace N:=N.dl [1,0]
 refine y0n W (fun o w N a J=>?_) (fun o w N a J=>?_) (c:=by exact U _ _ _ _ _ (mgQ b) (mgQ f) h j N)
 refine go fun a J=>?_
 refine s _ _ _ (by subst t;omega) ⟨(i+1),rfl,⟨J.pk,N⟩,?_⟩
 rw [k,zA b,zA f];simp [eqF, *]
 refine zF ?_
 exact zN N (by rw [k,zA b,zA f];simp [eqF, *])
 refine zF ?_
 exact zN N (by rw [k,zE n,zE (l:=m) (by omega)];rfl)
 refine zF ?_
 exact zN N (by rw [q2c (by assumption)])
theorem q6e {left:Int} {d0:List Value} {v:Val} {b:Nat} {e:Nat} (g:RVal V d0 v) (p:∀x:Val,x.sz < v.sz->∀{V:Fz} {K:List Res} {w:World} {d:List Value} {b e:Nat} {left:Int},RVal V d x->Mem V (.blk b (ob [.int .i64 left] 3)::.blk e (ob [.func (.func 105) #[] #[.pointer (some ⟨b,0,none⟩),.pointer (some ⟨e,0,none⟩)]] 108)::K) w->Calls prog 105 #[.agg d.toArray,.pointer (some ⟨b,0,none⟩),.pointer (some ⟨e,0,none⟩)] w (fun ee w'=>ee=.returned (.bool (jX x left).1)/\Mem V (.blk b (ob [.int .i64 (jX x left).2] 3)::.blk e (ob [.func (.func 105) #[] #[.pointer (some ⟨b,0,none⟩),.pointer (some ⟨e,0,none⟩)]] 108)::K) w')) (N:Mem V (.blk b (ob [.int .i64 (left)] 3)::.blk e (ob [.func (.func 105) #[] #[.pointer (some ⟨b,0,none⟩),.pointer (some ⟨e,0,none⟩)]] 108)::K) w) :
  Calls prog 105 #[.agg d0.toArray,.pointer (some ⟨b,0,none⟩),.pointer (some ⟨e,0,none⟩)] w (fun ee w'=>ee=.returned (.bool ((jX v left).1))/\Mem V (.blk b (ob [.int .i64 ((jX v left).2)] 3)::.blk e (ob [.func (.func 105) #[] #[.pointer (some ⟨b,0,none⟩),.pointer (some ⟨e,0,none⟩)]] 108)::K) w'):=by
 obtain ⟨q,c4,rfl,k,i,l,m⟩:=RVal.fm g
 refine zM func105 ntmps105 fun Q hQ a J=>?_
 refine Bx fun h w N a J=>?_
 refine Qq (fun a J=>?_) (o:=by exact fun J O=>vY _ J rfl rfl rfl)
 refine Sto 1 fun w N a J=>?_
 refine go fun a J=>?_
 by_cases f:IntKind.i64.wrap (left - 1) < 0
 refine zF ?_
 replace N:=N.dl [0]
 have hr_:jX v left=(true,IntKind.i64.wrap (left - 1)):=by
  rw [z7x,if_pos f]
 show _/\_;rw [hr_];exact ⟨rfl,N⟩
 replace N:=N.ar [] [2,2]
 refine zS call49 (fun w N a J=>?_) (c:=tM (V:=V) (σ:=Int) (step:=fun s x=>jX x s) (Kf:=fun s=>.blk b (ob [.int .i64 s] 3)::.blk e (ob [.func (.func 105) #[] #[.pointer (some ⟨b,0,none⟩),.pointer (some ⟨e,0,none⟩)]] 108)::.blk h (ob [.string v.con,.int .i64 (v.num),.slice q v.args.length c4] 42)::K) (s0:=IntKind.i64.wrap (left - 1)) (fs:=[]) (cs:=[.pointer (some ⟨b,0,none⟩),.pointer (some ⟨e,0,none⟩)]) i call105 (fun s x c w n j N=>p x (Val.lt_args n) j N) N)
 replace N:=N.nf
 refine zF ?_
 replace N:=N.dl [2]
 have hr_:jX v left=(z3h (fun s x=>jX x s) (IntKind.i64.wrap (left - 1)) v.args,(yI (fun s x=>jX x s) (IntKind.i64.wrap (left - 1)) v.args 0).2):=by
  rw [z7x,if_neg f];exact Prod.ext (z4d v.args _ 0).1 (z4d v.args _ 0).2
 show _/\_;rw [hr_];exact ⟨rfl,N⟩
theorem j7u {d:List Value} {v:Val} {a b:Nat} {left:Int} (rv:RVal V d v) (N:Mem V (.blk a (ob [.int .i64 left] 3)::.blk b (ob [.func (.func 105) #[] #[.pointer (some ⟨a,0,none⟩),.pointer (some ⟨b,0,none⟩)]] 108)::K) w) :
  Calls prog 105 #[.agg d.toArray,.pointer (some ⟨a,0,none⟩),.pointer (some ⟨b,0,none⟩)] w (fun ee w'=>ee=.returned (.bool (jX v left).1)/\Mem V (.blk a (ob [.int .i64 (jX v left).2] 3)::.blk b (ob [.func (.func 105) #[] #[.pointer (some ⟨a,0,none⟩),.pointer (some ⟨b,0,none⟩)]] 108)::K) w'):=by
 suffices H:∀n (x:Val),x.sz < n->∀{V:Fz} {K:List Res} {w:World} {d:List Value} {a b:Nat} {left:Int},RVal V d x->Mem V (.blk a (ob [.int .i64 left] 3)::.blk b (ob [.func (.func 105) #[] #[.pointer (some ⟨a,0,none⟩),.pointer (some ⟨b,0,none⟩)]] 108)::K) w ->
   Calls prog 105 #[.agg d.toArray,.pointer (some ⟨a,0,none⟩),.pointer (some ⟨b,0,none⟩)] w (fun ee w'=>ee=.returned (.bool (jX x left).1)/\Mem V (.blk a (ob [.int .i64 (jX x left).2] 3)::.blk b (ob [.func (.func 105) #[] #[.pointer (some ⟨a,0,none⟩),.pointer (some ⟨b,0,none⟩)]] 108)::K) w') from H _ v (Nat.lt_succ_self _) rv N
 intro n
 induction n with
 | zero=>intro e h;omega
 | succ n c=>intro x h V K w d a b left rv N;exact q6e rv (fun y f _ _ _ _ _ _ _ r m=>c y (by omega) r m) N
theorem z5o {d0:List Value} {v:Val} (b:RVal V d0 v) (N:Mem V K w) :
  Calls prog 50 #[.agg d0.toArray] w (fun ee w'=>ee=.returned (.bool (kR v))/\Mem V K w'):=by
 obtain ⟨k,c4,rfl,f,j,g,h⟩:=RVal.fm b
 refine zM func50 ntmps50 fun Q hQ a J=>?_
 refine Bx fun i w N a J=>?_
 refine Alc fun d w N a J=>?_
 refine Sto 0 fun w N a J=>?_
 refine Alc fun e w N a J=>?_
 refine Sto 0 fun w N a J=>?_
 replace N:=N.pl 1
 refine q1j call105 (fun w N a J=>?_) (c:=by exact j7u b N)
 refine zF ?_
 replace N:=N.dl [2,1,0]
 exact zN N (by rfl)
theorem x3a {p0:Addr} {T:Table} {name:Bs} {d2:List Value} {v:Val} (G:RTable V p0 T) (e0:RVal V d2 v) (ih:∀x:Val,x.sz < v.sz->∀{V:Fz} {K:List Res} {w:World} {p:Addr} {d:List Value} {name:Bs},RTable V p T->RVal V d x->Mem V K w->Calls prog 61 #[.pointer (some p),.string name,.agg d.toArray] w (fun ee w'=>ee=.returned (.bool (pV T x name))/\Mem V K w')) (N:Mem V K w) :
  Calls prog 61 #[.pointer (some p0),.string name,.agg d2.toArray] w (fun ee w'=>ee=.returned (.bool (pV T v name))/\Mem V K w'):=by
 obtain ⟨h0,m1,m2,m3,m4,d5,L,d7,d8,W,X,l,c1,B0,r,s,z0,C0,A0,D0⟩:=G.ex
 obtain ⟨d1,c24,e1,N0,f1,O0,g1,c42,rfl,R0,S0,T0,U0,n0,u0,o0,w0,q0,x0,r0,y0⟩:=RCore.fm l
 obtain ⟨h1,P0,rfl,l0,M,s0,D⟩:=RVal.fm e0
 refine zM func61 ntmps61 fun Q hQ a J=>?_
 refine Bx fun J0 w N a J=>?_
 by_cases V0:v.con=(⟨#[]⟩:Bs)
 by_cases W0:name=(⟨#[73,110,116]⟩:Bs)
 refine Qq (fun a J=>?_) (o:=by exact fun J O=>pU (i:=v.args.length) (j:=0) J rfl rfl)
 refine zF ?_
 replace N:=N.dl [0]
 exact zN N (by rw [sL,if_pos (by simp [sNo,yB, *])];simp [sNo,yB, *])
 refine zF ?_
 replace N:=N.dl [0]
 exact zN N (by rw [sL,if_pos (by simp [sNo,yB, *])];simp [sNo,yB, *])
 by_cases X0:name=(⟨#[73,110,116]⟩:Bs)
 refine zF ?_
 replace N:=N.dl [0]
 exact zN N (by rw [sL,if_pos (by simp [sNo,yB, *])];simp [sNo,yB, *])
 refine Reg [1,1,1,2,1,2,2,1,1,1,0,0,1] [0] fun w N a J=>?_
 refine go fun a J=>?_
 rcases g:yO (L) v.con with _ | H0
 have f:=congrArg (zK true (.agg #[.string ⟨#[]⟩,.string ⟨#[]⟩,.slice none 0 0])) g
 refine Qq (fun a J=>?_) (o:=by exact fun J O=>Ok.cast (zX runUnderlying102 runUnderlying9 zeroValue190 J O rfl rfl r) (show zK true (.agg #[.string ⟨#[]⟩,.string ⟨#[]⟩,.slice none 0 0]) (yO (L) v.con)=.tuple #[.agg #[.string ⟨#[]⟩,.string ⟨#[]⟩,.slice none 0 0],.bool false] from f))
 refine Alc fun K0 w N a J=>?_
 refine Sto 0 fun w N a J=>?_
 refine zF ?_
 replace N:=N.dl [1,0]
 exact zN N (by have e_:=MapRel.none s g;rw [sL,if_neg (by simp [sNo,yB, *])];simp [e_])
 obtain ⟨b,h,i0,rfl,F⟩:=s.get g
 obtain ⟨L0,rfl,P⟩:=id F
 obtain ⟨j1,rfl,z⟩:=id P
 obtain ⟨d0,I,rfl,t0,E⟩:=z.fm
 have f:=congrArg (zK true (.agg #[.string ⟨#[]⟩,.string ⟨#[]⟩,.slice none 0 0])) g
 refine Qq (fun a J=>?_) (o:=by exact fun J O=>Ok.cast (zX runUnderlying102 runUnderlying9 zeroValue190 J O rfl rfl r) (show zK true (.agg #[.string ⟨#[]⟩,.string ⟨#[]⟩,.slice none 0 0]) (yO (L) v.con)=.tuple #[.agg #[.string b.data,.string b.con.name,.slice d0 b.con.fields.length I],.bool true] from f))
 refine Alc fun M0 w N a J=>?_
 refine Sto 0 fun w N a J=>?_
 by_cases Y0:b.data=name
 by_cases Z0:v.num=0
 by_cases a1:b.con.fields.length=v.args.length
 refine go fun a J=>?_
 have B:pV T v name=hasL T v.args b.con.fields:=by
  rw [sL,if_neg (by simp [sNo,yB, *])]
  simp only [h]
  simp [*]
 refine go fun a J=>?_
 refine zV (J.ks [0,7,65,66]) N (fun R mm a w=>∃(i:Nat),mm=v.args.length - i/\R V [(67,.int .i64 ((i:Nat):Int))] [] a w/\(hasL T v.args b.con.fields=hasL T (v.args.drop i) (b.con.fields.drop i))) (v.args.length - 0) ⟨0,rfl,⟨J.pk,N⟩,rfl⟩ ?_
 clear N J
 rintro mm a w ⟨i,b0,⟨J,N⟩,k⟩ I0 C
 by_cases A:i < v.args.length
 refine go fun a J=>?_
 obtain ⟨i1,rfl,k1,q,j0,m0,S,m⟩:=M.el D A
 obtain ⟨F0,g0,rfl,Y,k0,a0,c0⟩:=RVal.fm m
 refine Alc fun f0 w N a J=>?_
 refine Sto 0 fun w N a J=>?_
 refine Reg [1,1,1,2,1,1,2,2,0,1] [0,1,2] fun w N a J=>?_
 refine go fun a J=>?_
 have u:i < b.con.fields.length:=by omega
 obtain ⟨G0,rfl,H,n,t,Z,U,y⟩:=z.el E u
 obtain rfl:t=[.string H]:=y
 refine zZ call61 (fun e w N a J=>?_) (fun e w N a J=>?_) (c:=ih _ (Val.lt_args (mgQ q)) G m N)
 refine go fun a J=>?_
 replace N:=N.dl [0]
 refine C _ _ _ (by subst b0;omega) ⟨(i+1),rfl,⟨J.pk,N⟩,?_⟩
 rw [k,zA q,zA n,j7h,e];rfl
 refine zF ?_
 replace N:=N.dl [2,1,0]
 exact zN N (by rw [B,k,zA q,zA n];simp [hasL,e])
 refine zF ?_
 replace N:=N.dl [1,0]
 exact zN N (by rw [B,k,zE A];rfl)
 refine zF ?_
 replace N:=N.dl [1,0]
 exact zN N (by rw [sL,if_neg (by simp [sNo,yB, *])];simp only [h];simp [*])
 refine zF ?_
 replace N:=N.dl [1,0]
 exact zN N (by rw [sL,if_neg (by simp [sNo,yB, *])];simp only [h];simp [*])
 refine zF ?_
 replace N:=N.dl [1,0]
 exact zN N (by rw [sL,if_neg (by simp [sNo,yB, *])];simp only [h];simp [*])
theorem has_ok {T:Table} {V:Fz} {K:List Res} {w:World} {p:Addr} {d:List Value} {name:Bs} {v:Val} (rT:RTable V p T) (rv:RVal V d v) (N:Mem V K w) :
  Calls prog 61 #[.pointer (some p),.string name,.agg d.toArray] w (fun ee w'=>ee=.returned (.bool (pV T v name))/\Mem V K w'):=by
 suffices H:∀n (x:Val),x.sz < n->∀{V:Fz} {K:List Res} {w:World} {p:Addr} {d:List Value} {name:Bs},RTable V p T->RVal V d x->Mem V K w ->
   Calls prog 61 #[.pointer (some p),.string name,.agg d.toArray] w (fun ee w'=>ee=.returned (.bool (pV T x name))/\Mem V K w') from H _ v (Nat.lt_succ_self _) rT rv N
 intro n
 induction n with
 | zero=>intro e h;omega
 | succ n a=>intro x h V K w p d name rT rv N;exact x3a rT rv (fun y f _ _ _ _ _ _ b c m=>a y (by omega) b c m) N
theorem j7f {pt:Addr} {T:Table} {d0:List Value} {v:Named} {d1:List Value} {p:Param} {b:Nat} (g:RNamed V d0 v) (f:RParam V d1 p) (rT:RTable V pt T) (N:Mem V (.blk b (ob [.pointer (some pt)] 89)::K) w) :
  Calls prog 101 #[.agg d0.toArray,.agg d1.toArray,.pointer (some ⟨b,0,none⟩)] w (fun ee w'=>ee=.returned (.bool ((decide (v.name=p.name) && !kR v.value&&pV T v.value p.type)))/\Mem V (.blk b (ob [.pointer (some pt)] 89)::K) w'):=by
 obtain ⟨n,rfl,e⟩:=id g
 obtain ⟨r,o,rfl,k,q,l,m⟩:=RVal.fm e
 obtain rfl:=id f
 refine zM func101 ntmps101 fun Q hQ a J=>?_
 refine Bx fun h w N a J=>?_
 refine Bx fun i w N a J=>?_
 by_cases j:v.name=p.name
 refine zZ call50 (fun d w N a J=>?_) (fun d w N a J=>?_) (c:=z5o e N)
 refine zF ?_
 replace N:=N.dl [1,0]
 exact zN N (by simp [*])
 refine zS call61 (fun w N a J=>?_) (c:=has_ok rT e N)
 refine zF ?_
 replace N:=N.dl [1,0]
 exact zN N (by simp [*])
 refine zF ?_
 replace N:=N.dl [1,0]
 exact zN N (by simp [*])
theorem x2x {k:Addr} {T:Table} {H:Value} {l:List Named} (f:RTable V k T) (g:SliceOf RNamed V 4 H l) (N:Mem V K w) :
  Calls prog 44 #[.pointer (some k),H] w (fun ee w'=>ee=.returned (.bool (pN T l T.core.inputs))/\Mem V K w'):=by
 obtain ⟨m,m1,m2,m3,m4,d5,d6,d7,d8,i,j,b,Y,D,A,E,B,F,C,G⟩:=f.ex
 obtain ⟨Z,c24,a0,I,b0,L,c0,c42,rfl,M,h,P,R,n,s,o,t,q,u,r,z⟩:=RCore.fm b
 obtain ⟨p1,c1,rfl,W,X⟩:=g.fm
 refine zM func44 ntmps44 fun Q hQ a J=>?_
 refine Bx fun e w N a J=>?_
 refine zS call100 (fun w N a J=>?_) (c:=q2d (V:=V) (K:=.blk e (ob [.pointer (some k)] 89)::K) (p:=fun v p=>decide (v.name=p.name) && !kR v.value&&pV T v.value p.type) (fs:=[]) (cs:=[.pointer (some ⟨e,0,none⟩)]) g h call101 (fun x c y d w hx hy S U N=>j7f S U f N) N)
 refine zF ?_
 replace N:=N.dl [0]
 exact zN N (by rw [y9k])
end Go.Sw

namespace Go.Sw
open Go.Proofs.Tryz
open Go.Proofs
set_option maxRecDepth 20000
set_option maxHeartbeats 4000000
theorem z9l {V:Fz} {K:List Res} {w:World} {b:Bool}  (N:Mem V K w) :
  Calls prog 196 #[.bool b] w (fun ee w'=>∃yy:Fz×List Value,ee=.returned (.agg yy.2.toArray)/\(V.Le yy.1/\RVal yy.1 yy.2 (sR b))/\Mem yy.1 K w'):=by
 refine zM func196 ntmps196 fun Q hQ a J=>?_
 refine Alc fun d w N a J=>?_
 refine go fun a J=>?_
 cases b
 refine yC fun a J=>?_
 refine Sto 0 fun w N a J=>?_
 refine go fun a J=>?_
 have c:=N
 replace N:=N.dl [0]
 refine jW (N:=c) ?_
 exact ⟨(V,_),rfl,⟨Fz.Le.refl _,by
  rw [show sR false=Val.mk (⟨#[70,97,108,115,101]⟩:Bs) (0) [] by rfl]
  exact RVal.iff.2 ⟨_,rfl,(show I64 0 by unfold I64;omega),SliceOf.nil 3⟩⟩,N⟩
 refine yC fun a J=>?_
 refine Sto 0 fun w N a J=>?_
 refine go fun a J=>?_
 have c:=N
 replace N:=N.dl [0]
 refine jW (N:=c) ?_
 exact ⟨(V,_),rfl,⟨Fz.Le.refl _,by
  rw [show sR true=Val.mk (⟨#[84,114,117,101]⟩:Bs) (0) [] by rfl]
  exact RVal.iff.2 ⟨_,rfl,(show I64 0 by unfold I64;omega),SliceOf.nil 3⟩⟩,N⟩
theorem tS {a b:Int} (h:I64 a):I64 (a.tmod b):=by
 unfold I64 at *
 have h1:=Int.natAbs_tmod a b
 have d:a.natAbs % b.natAbs<=a.natAbs:=Nat.mod_le _ _
 by_cases c:0<=a
 have:=Int.tmod_nonneg b c;omega
 have:a.tmod b<=0:=by
  have:=Int.tmod_nonneg b (show 0<=-a by omega)
  rw [Int.neg_tmod] at this;omega
 omega
theorem j1c {V:Fz} {K:List Res} {w:World} {op:Bs} {x y:Int} (h:I64 x) (hb:I64 y) (N:Mem V K w) :
  Calls prog 159 #[.string op,.int .i64 x,.int .i64 y] w (fun ee w'=>∃yy:Fz×List Value,ee=.returned (.agg yy.2.toArray)/\(V.Le yy.1/\RVal yy.1 yy.2 (jO op x y))/\Mem yy.1 K w'):=by
 refine zM func159 ntmps159 fun Q hQ a J=>?_
 refine Alc fun P w N a J=>?_
 by_cases R:op=(⟨#[43]⟩:Bs)
 refine Qq (fun a J=>?_) (o:=by exact fun J O=>z2j _ J rfl rfl rfl)
 refine yC fun a J=>?_
 refine Sto 0 fun w N a J=>?_
 refine go fun a J=>?_
 have c:=N
 replace N:=N.dl [0]
 refine jW (N:=c) ?_
 exact ⟨(V,_),rfl,⟨Fz.Le.refl _,by
  rw [show jO op x y=Val.mk (⟨#[]⟩:Bs) (IntKind.i64.wrap (x+y)) [] by simp [jO,z4k,v0,sR,sNo, *]]
  exact RVal.iff.2 ⟨_,rfl,(by first | exact I64.of_wrap _ | exact tS h | exact (show I64 0 from ⟨by decide,by decide⟩)),SliceOf.nil 3⟩⟩,N⟩
 by_cases C:op=(⟨#[45]⟩:Bs)
 refine Qq (fun a J=>?_) (o:=by exact fun J O=>vY _ J rfl rfl rfl)
 refine yC fun a J=>?_
 refine Sto 0 fun w N a J=>?_
 refine go fun a J=>?_
 have c:=N
 replace N:=N.dl [0]
 refine jW (N:=c) ?_
 exact ⟨(V,_),rfl,⟨Fz.Le.refl _,by
  rw [show jO op x y=Val.mk (⟨#[]⟩:Bs) (IntKind.i64.wrap (x - y)) [] by simp [jO,z4k,v0,sR,sNo, *]]
  exact RVal.iff.2 ⟨_,rfl,(by first | exact I64.of_wrap _ | exact tS h | exact (show I64 0 from ⟨by decide,by decide⟩)),SliceOf.nil 3⟩⟩,N⟩
 by_cases D:op=(⟨#[42]⟩:Bs)
 refine Qq (fun a J=>?_) (o:=by exact fun J O=>y_mul _ J rfl rfl rfl)
 refine yC fun a J=>?_
 refine Sto 0 fun w N a J=>?_
 refine go fun a J=>?_
 have c:=N
 replace N:=N.dl [0]
 refine jW (N:=c) ?_
 exact ⟨(V,_),rfl,⟨Fz.Le.refl _,by
  rw [show jO op x y=Val.mk (⟨#[]⟩:Bs) (IntKind.i64.wrap (x * y)) [] by simp [jO,z4k,v0,sR,sNo, *]]
  exact RVal.iff.2 ⟨_,rfl,(by first | exact I64.of_wrap _ | exact tS h | exact (show I64 0 from ⟨by decide,by decide⟩)),SliceOf.nil 3⟩⟩,N⟩
 refine go fun a J=>?_
 by_cases E:op=(⟨#[60]⟩:Bs)
 refine Qq (fun a J=>?_) (o:=by exact fun J O=>y_lssD J rfl rfl)
 refine st J rfl rfl rfl (oP J rfl rfl call196 (z9l (b:=(decide (x < y))) N) (fun n w j N a J=>?_))
 obtain ⟨l,A⟩:=n
 obtain ⟨f,d⟩:=j
 simp only at f d N J
 replace N:=N.nf
 obtain ⟨L,c27,rfl,q,F,s,u⟩:=RVal.fm d
 refine Sto 0 fun w N a J=>?_
 refine go fun a J=>?_
 have c:=N
 replace N:=N.dl [0]
 refine jW (N:=c) ?_
 exact ⟨(l,_),rfl,⟨f,by
  rw [show jO op x y=(sR (decide (x < y))) by simp [jO, *]]
  exact d⟩,N⟩
 by_cases G:op=(⟨#[61]⟩:Bs)
 refine Qq (fun a J=>?_) (o:=by exact fun J O=>aX J rfl rfl)
 refine st J rfl rfl rfl (oP J rfl rfl call196 (z9l (b:=(decide (x=y))) N) (fun p w k N a J=>?_))
 obtain ⟨m,B⟩:=p
 obtain ⟨g,e⟩:=k
 simp only at g e N J
 replace N:=N.nf
 obtain ⟨M,z,rfl,r,H,t,v⟩:=RVal.fm e
 refine Sto 0 fun w N a J=>?_
 refine go fun a J=>?_
 have c:=N
 replace N:=N.dl [0]
 refine jW (N:=c) ?_
 exact ⟨(m,_),rfl,⟨g,by
  rw [show jO op x y=(sR (decide (x=y))) by simp [jO, *]]
  exact e⟩,N⟩
 by_cases i:y=0
 refine yC fun a J=>?_
 refine Sto 0 fun w N a J=>?_
 refine go fun a J=>?_
 have c:=N
 replace N:=N.dl [0]
 refine jW (N:=c) ?_
 exact ⟨(V,_),rfl,⟨Fz.Le.refl _,by
  rw [show jO op x y=Val.mk (⟨#[]⟩:Bs) (0) [] by simp [jO,z4k,v0,sR,sNo, *]]
  exact RVal.iff.2 ⟨_,rfl,(by first | exact I64.of_wrap _ | exact tS h | exact (show I64 0 from ⟨by decide,by decide⟩)),SliceOf.nil 3⟩⟩,N⟩
 by_cases I:op=(⟨#[47]⟩:Bs)
 refine Qq (fun a J=>?_) (o:=by exact fun J O=>y_quo _ J rfl rfl i rfl)
 refine yC fun a J=>?_
 refine Sto 0 fun w N a J=>?_
 refine go fun a J=>?_
 have c:=N
 replace N:=N.dl [0]
 refine jW (N:=c) ?_
 exact ⟨(V,_),rfl,⟨Fz.Le.refl _,by
  rw [show jO op x y=Val.mk (⟨#[]⟩:Bs) (IntKind.i64.wrap (x.tdiv y)) [] by simp [jO,z4k,v0,sR,sNo, *]]
  exact RVal.iff.2 ⟨_,rfl,(by first | exact I64.of_wrap _ | exact tS h | exact (show I64 0 from ⟨by decide,by decide⟩)),SliceOf.nil 3⟩⟩,N⟩
 refine Qq (fun a J=>?_) (o:=by exact fun J O=>y_rem _ J rfl rfl i rfl)
 refine yC fun a J=>?_
 refine Sto 0 fun w N a J=>?_
 refine go fun a J=>?_
 have c:=N
 replace N:=N.dl [0]
 refine jW (N:=c) ?_
 exact ⟨(V,_),rfl,⟨Fz.Le.refl _,by
  rw [show jO op x y=Val.mk (⟨#[]⟩:Bs) (x.tmod y) [] by simp [jO,z4k,v0,sR,sNo, *]]
  exact RVal.iff.2 ⟨_,rfl,(by first | exact I64.of_wrap _ | exact tS h | exact (show I64 0 from ⟨by decide,by decide⟩)),SliceOf.nil 3⟩⟩,N⟩
end Go.Sw

namespace Go.Sw
open Go.Proofs.Tryz
open Go.Proofs
set_option maxRecDepth 20000
set_option maxHeartbeats 4000000
variable {V:Fz} {K:List Res} {w:World}
theorem y5u {v:Value} {l:List Int} (n:l.length<=1000000) (N:Mem V (.gs v 3 1 (z3i l)::K) w) :
  Calls prog 47 #[v] w (fun ee w'=>ee=.returned (.int .i64 (gG l))/\Mem V (.gs v 3 1 (z3i l)::K) w'):=by
 obtain ⟨u,e,c0,rfl,g,r⟩:=N.toSees.gsForm (i:=0) rfl
 have s:l.length=e:=by simpa [z9d] using g
 refine zM func47 ntmps47 fun Q hQ a J=>?_
 refine go fun a J=>?_
 refine zV (J.ks [6,7]) N (fun R mm a w=>∃(i:Nat) (q:Int),mm=e - i/\R V [(3,.int .i64 (q)),(8,.int .i64 ((i:Nat):Int))] [] a w/\(gG (l.take i)=q)) (e - 0) ⟨0,0,rfl,⟨J.pk,N⟩,rfl⟩ ?_
 clear N J
 rintro mm a w ⟨i,q,h,⟨J,N⟩,d⟩ t f
 by_cases m:i < e
 refine go fun a J=>?_
 obtain ⟨j,b⟩:=N.toSees.gsSome (i:=0) rfl m
 obtain ⟨k,c⟩:=qR (l:=l) (i:=i) (by omega)
 refine Qq (fun a J=>?_) (o:=by exact fun J O=>z2l (p:=j) i J (by rw [<- b];rfl) rfl runUnderlying93 sizeOf3 m)
 refine Qq (fun a J=>?_) (o:=by exact fun J O=>j9w 0 i J O rfl (by rw [<- b];rfl) (x3h c) isAgg3)
 refine Qq (fun a J=>?_) (o:=by exact fun J O=>z2j _ J rfl rfl rfl)
 refine go fun a J=>?_
 refine f _ _ _ (by subst h;omega) ⟨(i+1),(IntKind.i64.wrap (q+k)),rfl,⟨J.pk,by exact N⟩,?_⟩
 rw [xI c,yM,d]
 refine zF ?_
 exact pG N (by rw [<- d,y5p (by omega)])
theorem x4g {d:List Value} {v:Val} (ih:∀x:Val,x.sz < v.sz->z8q x->∀{V:Fz} {K:List Res} {w:World} {d:List Value},RVal V d x->Mem V K w ->
   Calls prog 51 #[.agg d.toArray] w (fun ee w'=>∃yy:Fz×List Value,ee=.returned (.agg yy.2.toArray)/\(V.Le yy.1/\RVal yy.1 yy.2 x)/\Mem yy.1 K w')) (O:z8q v) (rv:RVal V d v) (N:Mem V K w) :
  Calls prog 51 #[.agg d.toArray] w (fun ee w'=>∃yy:Fz×List Value,ee=.returned (.agg yy.2.toArray)/\(V.Le yy.1/\RVal yy.1 yy.2 v)/\Mem yy.1 K w'):=by
 obtain ⟨p3,c4,rfl,m0,E,n0,H⟩:=RVal.fm rv
 refine zM func51 ntmps51 fun Q hQ a J=>?_
 refine Bx fun b9 w N a J=>?_
 refine Alc fun d0 w N a J=>?_
 refine yC fun a J=>?_
 refine Alc fun C w N a J=>?_
 refine Sto 0 fun w N a J=>?_
 refine go fun a J=>?_
 replace N:=N.nilRow 42 3
 replace N:=N.nf
 refine go fun a J=>?_
 refine zV (J.ks [2,3,12,13]) N (fun R mm a w=>∃(g:Fz) (i:Nat) (u:Value) (cs:List Value),mm=v.args.length - i/\R g [(14,.int .i64 ((i:Nat):Int))] [(0,.gs (u) 42 3 cs),(1,.blk C (ob [.string v.con,.int .i64 (v.num),u] 42))] a w/\(V.Le g/\(Chunks (RVal g) 3 cs (v.args.take i)))) (v.args.length - 0) ⟨V,0,.slice none 0 0,[],rfl,⟨J.pk,N⟩,⟨Fz.Le.refl _,rfl⟩⟩ ?_
 clear N J
 rintro mm a w ⟨g,i,u,cs,G,⟨J,N⟩,j⟩ c0 A
 replace N:=N.nf
 obtain ⟨f,j⟩:=j
 replace E:=E.up f
 replace rv:=RVal.mono _ _ _ _ f rv
 have hch:=j
 by_cases y:i < v.args.length
 refine go fun a J=>?_
 obtain ⟨r0,rfl,t,m,P,U,p,e⟩:=E.el H y
 obtain ⟨p0,f0,rfl,S,j0,W,Z⟩:=RVal.fm e
 refine Alc fun e0 w N a J=>?_
 refine Sto 0 fun w N a J=>?_
 refine Reg [1,2,2,0,0,0,1,0] [0,2,3,4] fun w N a J=>?_
 refine qO call51 (fun M w z N a J=>?_) (c:=ih _ (Val.lt_args (mgQ m)) ((y5i O).2 _ (mgQ m)) e N)
 obtain ⟨B,h0⟩:=M
 obtain ⟨b,k⟩:=z
 simp only at b k N J
 replace rv:=RVal.mono _ _ _ _ b rv
 replace hch:=hch.mono fun _ _ h=>RVal.mono _ _ _ _ b h
 replace p:=p.mono b
 replace e:=RVal.mono _ _ _ _ b e
 replace N:=N.nf
 obtain ⟨L,D,rfl,T,l0,X,a0⟩:=RVal.fm k
 refine qH fun s0 w N a J=>?_
 refine qP 2 wR (fun v53 w N a J=>?_) (hb:=by have h_:=hch.length;have i0:=(y5i O).1;have k0:(v.args.take i).length<=v.args.length:=(by rw [List.length_take];omega);rw [h_];simp only [lcQ,lnQ];omega)
 refine Sto 3 fun w N a J=>?_
 refine go fun a J=>?_
 replace N:=N.dl [1,0]
 refine A _ _ _ (by subst G;omega) ⟨(B),(i+1),(v53),((cs++[.string t.con,.int .i64 (t.num),.slice L t.args.length D])),rfl,⟨J.pk,by exact N⟩,?_⟩
 refine ⟨(f).trans b,?_⟩
 rw [xI m];exact hch.snoc rfl k
 refine go fun a J=>?_
 rw [y5p y] at hch
 have q:=N
 clear N
 obtain ⟨s,n,N,o⟩:=q.freezeRow (i:=0) rfl
 clear q
 replace rv:=RVal.mono _ _ _ _ n rv
 replace hch:=hch.mono fun _ _ h=>RVal.mono _ _ _ _ n h
 replace N:=N.nf
 have l:SliceOf RVal s 3 _ (v.args):=⟨_,o,hch⟩
 obtain ⟨q0,g0,I,Y,b0⟩:=l.form (by decide)
 have r:=N
 clear N
 subst I
 have N:=r
 clear r
 refine Sto 1 fun w N a J=>?_
 refine go fun a J=>?_
 have F:=N
 replace N:=N.dl [2,1,0]
 refine jW (N:=F) ?_
 exact ⟨(s,_),rfl,⟨(f).trans n,by obtain ⟨_,_,h_,_⟩:=RVal.iff.1 rv;exact RVal.iff.2 ⟨_,rfl,h_,l⟩⟩,N⟩
theorem own_ok {d:List Value} {v:Val} (O:z8q v) (rv:RVal V d v) (N:Mem V K w) :
  Calls prog 51 #[.agg d.toArray] w (fun ee w'=>∃yy:Fz×List Value,ee=.returned (.agg yy.2.toArray)/\(V.Le yy.1/\RVal yy.1 yy.2 v)/\Mem yy.1 K w'):=by
 suffices H:∀n (x:Val),x.sz < n->z8q x->∀{V:Fz} {K:List Res} {w:World} {d:List Value},RVal V d x->Mem V K w ->
   Calls prog 51 #[.agg d.toArray] w (fun ee w'=>∃yy:Fz×List Value,ee=.returned (.agg yy.2.toArray)/\(V.Le yy.1/\RVal yy.1 yy.2 x)/\Mem yy.1 K w') from H _ v (Nat.lt_succ_self _) O rv N
 intro n
 induction n with
 | zero=>intro e h;omega
 | succ n a=>intro x h O V K w d rv N;exact x4g (fun y b h1 _ _ _ _ r m=>a y (by omega) h1 r m) O rv N
end Go.Sw

namespace Go.Sw
open Go.Proofs.Tryz
open Go.Proofs
set_option maxRecDepth 20000
set_option maxHeartbeats 4000000
theorem z7i {T:Table} {inp:List (Bs×Val)} {g:Nat} (ih:∀g1,g1<=g->oJ prog T inp g1):x0b prog T inp g:=by
 intro V K w p l env ov s mg bs fuel G rG rl rv a0 D0 hg B0 Z N
 obtain ⟨p1,c1,rfl,E0,Y⟩:=rl.fm
 refine zM func158 ntmps158 fun Q hQ a J=>?_
 refine Bx fun b2 w N a J=>?_
 refine go fun a J=>?_
 replace N:=N.nilRow 42 3
 replace N:=N.nf
 refine go fun a J=>?_
 refine zV (J.ks [2,3,10,11]) N (fun R mm a w=>∃(z:Fz) (i:Nat) (u:Value) (cs:List Value) (xs:List Val) (g1:Nat),mm=l.length - i/\R z [(7,u),(12,.int .i64 ((i:Nat):Int))] [(0,.gs (u) 42 3 cs),(2,.blk bs (ob [.int .i64 ((fuel - g1:Nat):Int)] 3))] a w/\(V.Le z/\(Chunks (RVal z) 3 cs xs/\xs.length=i/\g1<=g/\xJ (qM ⟨T.funs,inp⟩) env l g=(xJ (qM ⟨T.funs,inp⟩) env (l.drop i) g1).bind fun vs g2=>.ok (xs++vs) g2))) (l.length - 0) ⟨V,0,.slice none 0 0,[],[],g,rfl,⟨J.pk,N⟩,⟨Fz.Le.refl _,⟨rfl,rfl,Nat.le_refl _,j3s _⟩⟩⟩ ?_
 clear N J
 rintro mm a w ⟨z,i,u,cs,xs,g1,X,⟨J,N⟩,E⟩ L8 U
 replace N:=N.nf
 obtain ⟨e,E⟩:=E
 replace G:=G.mono e
 replace rG:=RGiven.mono e rG
 replace rl:=rl.up e
 replace rv:=REnv.mono e rv
 obtain ⟨hch,c0,C0,t⟩:=E
 by_cases H:i < l.length
 refine go fun a J=>?_
 obtain ⟨J0,rfl,f0,j,h0,k0,A,f⟩:=rl.el Y H
 obtain ⟨G0,c25,H0,u0,rfl,i0,y0,z0,l0,p0,m0,q0⟩:=REx.fm f
 refine Alc fun t0 w N a J=>?_
 refine Sto 0 fun w N a J=>?_
 refine go fun a J=>?_
 have b:=Z
 rw [t,zA j] at b
 replace b:=jV (r:=qM ⟨T.funs,inp⟩ g1 f0 env) (jV b)
 replace N:=N.pl 3
 refine xV call103 (fun L g0 w m I N a J=>?_) (fun L w m N=>?_) (c:=ih g1 (by omega) G rG f rv (a0 _ (mgQ j)) (by omega) (by omega) b N)
 obtain ⟨y,S⟩:=L
 obtain ⟨M,w0⟩:=g0
 obtain ⟨d,n⟩:=I
 have q:=wT m
 simp only at d n N J q
 have W:=qV _ _ _ _ _ _ q
 replace rG:=RGiven.mono d rG
 replace rv:=REnv.mono d rv
 replace hch:=hch.mono fun _ _ h=>RVal.mono _ _ _ _ d h
 replace A:=A.mono d
 replace f:=REx.mono _ _ _ _ d f
 replace N:=N.nf
 obtain ⟨d0,P,rfl,j0,A0,n0,r0⟩:=RVal.fm n
 refine qH fun K0 w N a J=>?_
 refine qP 3 wR (fun e0 w N a J=>?_)
 refine go fun a J=>?_
 replace N:=N.ar [2,0] [2,2]
 refine U _ _ _ (by subst X;omega) ⟨(M),(i+1),(e0),((cs++[.string y.con,.int .i64 (y.num),.slice d0 y.args.length P])),(xs++[y]),(S),rfl,⟨J.pk,by exact N⟩,?_⟩
 refine ⟨(e).trans d,?_⟩
 refine ⟨hch.snoc rfl n,by simp [c0],by omega,?_⟩
 rw [t,zA j]
 exact q1y q
 have F:=vH m b
 replace N:=N.dl [3,2,1]
 exact nL (by rw [t,zA j];exact q1z F) ⟨rfl,N.le (e)⟩
 refine go fun a J=>?_
 have B:=N
 clear N
 obtain ⟨D,k,N,v⟩:=B.freezeRow (i:=0) rfl
 clear B
 replace rG:=RGiven.mono k rG
 replace rv:=REnv.mono k rv
 replace hch:=hch.mono fun _ _ h=>RVal.mono _ _ _ _ k h
 replace N:=N.nf
 have o:SliceOf RVal D 3 _ (xs):=⟨_,v,hch⟩
 obtain ⟨I0,c66,b0,o0,s0⟩:=o.form (by decide)
 have C:=N
 clear N
 subst b0
 have N:=C
 clear C
 refine zF ?_
 replace N:=N.dl [0]
 exact gK (by rw [t,zE H];exact q5b) ⟨(D,_),rfl,⟨(e).trans k,o⟩,N⟩
theorem y1c {T:Table} {inp:List (Bs×Val)} {g:Nat} (ih:oJ prog T inp g):q4f prog T inp g:=by
 intro V K w p d f l s mg bs fuel v rG rf rs V0 l0 hg S0 W N
 obtain ⟨s1,b7,rfl,h2,A⟩:=id rf
 obtain ⟨p3,c4,rfl,U0,k0⟩:=h2.fm
 obtain ⟨X0,J0,Y0,K0,rfl,q0,O0,P0,w0,A0,x0,B0⟩:=REx.fm A
 obtain ⟨p2,c2,rfl,T0,j0⟩:=rs.fm
 obtain ⟨M,e0⟩:=q9g W
 refine zM func48 ntmps48 fun Q hQ a J=>?_
 refine Bx fun F0 w N a J=>?_
 refine Bx fun G0 w N a J=>?_
 refine Alc fun H0 w N a J=>?_
 refine go fun a J=>?_
 refine zV (J.ks [2,3,4,6,11,12]) N (fun R mm a w=>∃(m:Fz) (i:Nat) (en:Env) (nv:Option Addr),mm=f.params.length - i/\R m [(7,.pointer nv),(13,.int .i64 ((i:Nat):Int))] [] a w/\(V.Le m/\(REnv m en nv/\cA (f.params.map Param.name) l []=cA ((f.params.map Param.name).drop i) (l.drop i) en))) (f.params.length - 0) ⟨V,0,[],none,rfl,⟨J.pk,N⟩,⟨Fz.Le.refl _,⟨rfl,rfl⟩⟩⟩ ?_
 clear N J
 rintro mm a w ⟨m,i,en,nv,i0,⟨J,N⟩,n⟩ E0 S
 obtain ⟨e,n⟩:=n
 replace v:=v.mono e
 replace rG:=RGiven.mono e rG
 replace h2:=h2.up e
 replace A:=REx.mono _ _ _ _ e A
 replace rf:=RFun.mono _ _ _ _ e rf
 replace rs:=rs.up e
 obtain ⟨rn,G⟩:=n
 by_cases F:i < f.params.length
 have U:i < l.length:=z6t (env:=en) (env':=M) (by rw [<- G];exact e0) (by simpa using F)
 refine go fun a J=>?_
 obtain ⟨a1,rfl,a0,X,o0,t0,B,q⟩:=h2.el k0 F
 obtain rfl:=id q
 refine Alc fun I0 w N a J=>?_
 refine Sto 0 fun w N a J=>?_
 refine Reg [1,2,1,1,1,2,1,1,0,1] [0,1,2,3,4] fun w N a J=>?_
 refine go fun a J=>?_
 obtain ⟨b1,rfl,y,Y,p0,u0,C,k⟩:=rs.el j0 U
 obtain ⟨m0,d0,rfl,r0,Q0,y0,C0⟩:=RVal.fm k
 refine z3t fun a J=>?_
 refine Bx fun L w N a J=>?_
 have D:=N
 clear N
 obtain ⟨E,b,N,H⟩:=D.freezeBlk (i:=0) rfl
 clear D
 replace v:=v.mono b
 replace rG:=RGiven.mono b rG
 replace A:=REx.mono _ _ _ _ b A
 replace rf:=RFun.mono _ _ _ _ b rf
 replace rn:=REnv.mono b rn
 replace B:=B.mono b
 replace q:=RParam.mono _ _ _ _ b q
 replace C:=C.mono b
 replace k:=RVal.mono _ _ _ _ b k
 replace N:=N.nf
 have z:REnv E ((a0.name,y)::en) (some ⟨L,0,none⟩):=⟨_,[.string y.con,.int .i64 (y.num),.slice m0 y.args.length d0],_,rfl,H,rfl,k,rn⟩
 refine go fun a J=>?_
 replace N:=N.dl [0]
 refine S _ _ _ (by subst i0;omega) ⟨(E),(i+1),((a0.name,y)::en),((some ⟨L,0,none⟩)),rfl,⟨J.pk,by exact N⟩,?_⟩
 refine ⟨(e).trans b,?_⟩
 refine ⟨z,?_⟩
 rw [G,zA (show (f.params.map Param.name)[i]? = some _ by rw [List.getElem?_map,X];rfl),zA Y];rfl
 refine go fun a J=>?_
 have t:vC (qM ⟨T.funs,inp⟩) f l g=qM ⟨T.funs,inp⟩ g f.body en:=by
  have f0:¬i < (f.params.map Param.name).length:=by simpa using F
  unfold vC nR
  rw [G,zE f0];rfl
 have j:=W
 rw [t] at j
 replace N:=N.pl 3
 refine xV call103 (fun Z n0 w o P N a J=>?_) (fun Z w o N=>?_) (c:=ih v rG A rn l0 (by omega) (by omega) j N)
 obtain ⟨c1,N0⟩:=Z
 obtain ⟨b0,M0⟩:=n0
 obtain ⟨h,r⟩:=P
 have u:=wT o
 simp only at h r N J u
 have g0:=qV _ _ _ _ _ _ u
 replace rG:=RGiven.mono h rG
 replace A:=REx.mono _ _ _ _ h A
 replace rf:=RFun.mono _ _ _ _ h rf
 replace rn:=REnv.mono h rn
 replace N:=N.nf
 obtain ⟨Z0,L0,rfl,s0,R0,z0,D0⟩:=RVal.fm r
 refine Sto 1 fun w N a J=>?_
 refine go fun a J=>?_
 have h0:=N
 replace N:=N.dl [3,2,1]
 refine jW (N:=h0) ?_
 exact gK (by rw [t];exact u) ⟨(b0,_),rfl,⟨(e).trans h,r⟩,N⟩
 have I:=vH o j
 replace N:=N.dl [3,2,1]
 exact nL (by rw [t];exact I) ⟨rfl,N.le (e)⟩
theorem j6z {T:Table} {inp:List (Bs×Val)}:oJ prog T inp 0:=by
 intro V K w p d e env ov mg bs fuel g rG re rv f0 hg c0 e0 N
 obtain ⟨i,m1,m2,m3,m4,d5,d6,d7,d8,c,f,b,g0,D,A,E,B,F,C,G⟩:=g.ex
 obtain ⟨h0,c24,i0,M,j0,P,k0,c42,rfl,U,W,X,Y,k,s,l,t,m,u,n,v⟩:=RCore.fm b
 obtain ⟨l0,R,m0,S,rfl,j,Z,a0,q,y,r,z⟩:=REx.fm re
 refine zM func103 ntmps103 fun Q hQ a J=>?_
 refine Bx fun H w N a J=>?_
 refine Bx fun I w N a J=>?_
 refine Alc fun L w N a J=>?_
 refine Sto 3 fun w N a J=>?_
 refine Reg [1,2,1,2,1,2,1] [0,1,2,3] fun w N a J=>?_
 have d0:fuel < fuel+1:=by omega
 refine yC fun a J=>?_
 refine Qq (fun a J=>?_) (o:=by exact fun J O=>qL J rfl runUnderlying177 (by intro ms h;cases h))
 refine st0 J rfl rfl (vQ J rfl (vS _) (fun a hd=>hQ _ _ _ (yU hd ?_)))
 replace N:=N.dl [2,1,0]
 exact nL (oQ _ _ _) ⟨rfl,N⟩
theorem j6y {T:Table} {inp:List (Bs×Val)} {g:Nat} (hF:z0x T) (ih:∀g1,g1<=g->oJ prog T inp g1):oJ prog T inp (g+1):=by
 intro V K w p d e env ov mg bs fuel f rG re rv h0 hg hfu L0 N
 rw [yH] at L0
 obtain ⟨H8,m1,m2,m3,m4,d5,d6,d7,d8,b,T5,x2,ma9,X9,V9,Y9,D2,g2,W9,Z9⟩:=f.ex
 obtain ⟨p23,c24,p29,c30,p35,c36,p41,c42,rfl,h22,h28,h34,h40,J9,Q9,K9,R9,L9,S9,M9,T9⟩:=RCore.fm x2
 obtain ⟨p47,c48,p53,c54,rfl,G9,h,A,N9,l3,O9,n3⟩:=REx.fm re
 refine zM func103 ntmps103 fun Q hQ a J=>?_
 refine Bx fun b59 w N a J=>?_
 refine Bx fun b60 w N a J=>?_
 refine Alc fun b61 w N a J=>?_
 refine Sto 3 fun w N a J=>?_
 rw [show fuel - (g+1)+1=fuel - g by omega] at N
 refine Reg [1,2,1,2,1,2,1] [0,1,2,3] fun w N a J=>?_
 have hk_:¬fuel < fuel - g:=by omega
 by_cases K4:e.kind=1
 refine yC fun a J=>?_
 refine Sto 0 fun w N a J=>?_
 refine go fun a J=>?_
 have D:=N
 replace N:=N.dl [2,1,0]
 refine jW (N:=D) ?_
 exact gK ((yH _ _ _ _).trans (x5k K4)) ⟨(V,_),rfl,⟨Fz.Le.refl _,RVal.iff.2 ⟨_,rfl,(by obtain ⟨_,_,_,h_,_⟩:=REx.iff.1 re;exact h_),SliceOf.nil 3⟩⟩,N⟩
 by_cases F3:e.kind=2
 refine go fun a J=>?_
 refine zV (J.ks [4,6]) N (fun R mm a w=>∃(en:Env) (nv:Option Addr),mm=en.length/\R V [(2,.pointer nv)] [] a w/\(REnv V en nv/\zL env e.name=zL en e.name)) (env.length) ⟨env,ov,rfl,⟨J.pk,N⟩,⟨rv,rfl⟩⟩ ?_
 clear N J
 rintro mm a w ⟨en,nv,S0,⟨J,N⟩,N4⟩ L72 O4
 obtain ⟨rn,G0⟩:=N4
 refine go fun a J=>?_
 obtain _ | ⟨⟨M7,j4⟩,g3⟩:=en
 obtain rfl:=rn
 refine Qq (fun a J=>?_) (o:=by exact fun J O=>j0y rfl J rfl rfl (fun _=>by kernel_rfl))
 refine yC fun a J=>?_
 refine Sto 0 fun w N a J=>?_
 refine go fun a J=>?_
 have D:=N
 replace N:=N.dl [2,1,0]
 refine jW (N:=D) ?_
 exact gK (((yH _ _ _ _).trans (q7y F3)).trans (show Ev.ok ((zL env e.name).getD v0) g=.ok v0 g by rw [G0];rfl)) ⟨(V,_),rfl,⟨Fz.Le.refl _,RVal.iff.2 ⟨_,rfl,(show I64 0 from ⟨by decide,by decide⟩),SliceOf.nil 3⟩⟩,N⟩
 obtain ⟨p79,c80,Q4,rfl,P4,I9,p3,d4⟩:=rn
 obtain ⟨N7,G5,rfl,H9,h88,P9,U9⟩:=RVal.fm p3
 refine Qq (fun a J=>?_) (o:=by exact fun J O=>j0z rfl J rfl rfl (fun _=>by kernel_rfl))
 refine Reg [1,1,1,2,1,2,1] [0,1,2,3] fun w N a J=>?_
 by_cases L4:M7=e.name
 refine Qq (fun a J=>?_) (o:=by exact fun J O=>kV 1 (vs:=[.string j4.con,.int .i64 (j4.num),.slice N7 j4.args.length G5]) J O rfl P4 isAgg42 sizeOf42 rfl rfl)
 refine Sto 0 fun w N a J=>?_
 refine go fun a J=>?_
 have D:=N
 replace N:=N.dl [2,1,0]
 refine jW (N:=D) ?_
 exact gK (((yH _ _ _ _).trans (q7y F3)).trans (by rw [G0];simp only [zL,if_pos L4.symm,Option.getD_some])) ⟨(V,_),rfl,⟨Fz.Le.refl _,p3⟩,N⟩
 refine go fun a J=>?_
 refine O4 (g3.length) _ _ (by subst S0;simp only [lcQ];omega) ⟨(g3),(Q4),rfl,⟨J.pk,N⟩,?_⟩
 refine ⟨d4,?_⟩
 rw [G0];simp only [zL,if_neg (Ne.symm L4)]
 by_cases M4:e.kind=3
 refine go fun a J=>?_
 refine st J rfl rfl rfl (j6w rG runUnderlying94 runUnderlying9 zeroValue42 J N.toSees rfl rfl (fun H5 B2 a J=>?_))
 obtain ⟨p105,h8,rfl,U5,e9,D6,k7⟩:=RVal.fm B2
 refine Sto 0 fun w N a J=>?_
 refine go fun a J=>?_
 have D:=N
 replace N:=N.dl [2,1,0]
 refine jW (N:=D) ?_
 exact gK ((yH _ _ _ _).trans (x5j M4)) ⟨(V,_),rfl,⟨Fz.Le.refl _,B2⟩,N⟩
 refine go fun a J=>?_
 by_cases Y1:e.kind=4
 refine Reg [1,2,2,1,2,1,0,1,0] [0,1,2] fun w N a J=>?_
 refine go fun a J=>?_
 have z0:=L0
 rw [y5n Y1] at z0
 replace N:=N.pl 3
 refine xV call158 (fun q3 a5 w v1 G3 N a J=>?_) (fun q3 w v1 N=>?_) (c:=z7i (fun k2 h_=>ih k2 (by omega)) f rG h rv (qX h0).2.1 (qX h0).1 (by omega) (by omega) (jV z0) N)
 obtain ⟨z118,W8⟩:=q3
 obtain ⟨k4,I8⟩:=a5
 obtain ⟨P,H1⟩:=G3
 have c1:=wT v1
 simp only at P H1 N J c1
 have o5:=q2a c1
 replace f:=f.mono P
 replace rG:=RGiven.mono P rG
 replace re:=REx.mono _ _ _ _ P re
 replace rv:=REnv.mono P rv
 replace b:=b.mono P
 replace D2:=D2.mono P
 replace g2:=g2.up P
 replace h:=h.up P
 replace A:=A.up P
 replace N:=N.nf
 obtain ⟨p126,c127,rfl,A5,E5⟩:=H1.fm
 have D5:=y4b z0 c1
 refine yC fun a J=>?_
 refine Sto 1 fun w N a J=>?_
 refine go fun a J=>?_
 have D:=N
 replace N:=N.dl [3,2,1]
 refine jW (N:=D) ?_
 exact gK (((yH _ _ _ _).trans (y5n Y1)).trans (pP c1)) ⟨(k4,_),rfl,⟨P,RVal.iff.2 ⟨_,rfl,(show I64 0 from ⟨by decide,by decide⟩),H1⟩⟩,N⟩
 have R2:=vH v1 (jV z0)
 replace N:=N.dl [3,2,1]
 exact nL (((yH _ _ _ _).trans (y5n Y1)).trans (nJ R2)) ⟨rfl,N.le (Fz.Le.refl _)⟩
 by_cases P0:e.kind=5
 refine Reg [2,1,2,1,1,2,1,2,2,2,1,2,1,0,0,0] [0,1,2] fun w N a J=>?_
 refine go fun a J=>?_
 rcases u1:yO (d7) e.name with _ | O7
 exact absurd (j2j P0 (MapRel.none g2 u1)) L0
 obtain ⟨w0,p0,I5,rfl,k0⟩:=g2.get u1
 obtain ⟨s141,X7,rfl,J4,j1⟩:=id k0
 obtain ⟨R4,x4,rfl,E6,l7⟩:=J4.fm
 obtain ⟨S4,y4,T4,z4,rfl,V5,f9,g9,F6,m7,G6,n7⟩:=REx.fm j1
 have M2:=congrArg (zK false (.agg #[.string ⟨#[]⟩,.slice none 0 0,.string ⟨#[]⟩,.int .i64 ((0:Nat):Int),.int .i64 ((0:Nat):Int),.string ⟨#[]⟩,.slice none 0 0,.slice none 0 0])) u1
 refine Qq (fun a J=>?_) (o:=by exact fun J O=>Ok.cast (zX runUnderlying103 runUnderlying9 zeroValue68 J O rfl rfl D2) (show zK false (.agg #[.string ⟨#[]⟩,.slice none 0 0,.string ⟨#[]⟩,.int .i64 ((0:Nat):Int),.int .i64 ((0:Nat):Int),.string ⟨#[]⟩,.slice none 0 0,.slice none 0 0]) (yO (d7) e.name)=.agg #[.string w0.name,.slice R4 w0.params.length x4,.string w0.result,.int .i64 (w0.body.kind),.int .i64 (w0.body.num),.string w0.body.name,.slice S4 w0.body.args.length y4,.slice T4 w0.body.arms.length z4] from M2))
 refine go fun a J=>?_
 have A0:=L0
 rw [z3d P0 p0] at A0
 replace N:=N.pl 3
 refine xV call158 (fun r3 b5 w w1 H3 N a J=>?_) (fun r3 w w1 N=>?_) (c:=z7i (fun k2 h_=>ih k2 (by omega)) f rG h rv (qX h0).2.1 (qX h0).1 (by omega) (by omega) (jV A0) N)
 obtain ⟨z167,E4⟩:=r3
 obtain ⟨P7,J8⟩:=b5
 obtain ⟨I,I1⟩:=H3
 have M0:=wT w1
 simp only at I I1 N J M0
 have p5:=q2a M0
 replace f:=f.mono I
 replace rG:=RGiven.mono I rG
 replace re:=REx.mono _ _ _ _ I re
 replace rv:=REnv.mono I rv
 replace b:=b.mono I
 replace h:=h.up I
 replace A:=A.up I
 replace k0:=RFun.mono _ _ _ _ I k0
 replace j1:=REx.mono _ _ _ _ I j1
 replace N:=N.nf
 obtain ⟨p175,i8,rfl,B5,F5⟩:=I1.fm
 have c2:=y4b A0 M0
 refine xV call48 (fun s3 c5 w x1 I3 N a J=>?_) (fun s3 w x1 N=>?_) (c:=y1c (ih E4 (by omega)) f rG k0 I1 (hF _ _ p0).1 (hF _ _ p0).2 (by omega) (by omega) c2 N)
 obtain ⟨z184,X8⟩:=s3
 obtain ⟨l4,K8⟩:=c5
 obtain ⟨S,J1⟩:=I3
 have P1:=wT x1
 simp only at S J1 N J P1
 have q5:=dI P1
 replace f:=f.mono S
 replace rG:=RGiven.mono S rG
 replace re:=REx.mono _ _ _ _ S re
 replace rv:=REnv.mono S rv
 replace b:=b.mono S
 replace h:=h.up S
 replace A:=A.up S
 replace k0:=RFun.mono _ _ _ _ S k0
 replace j1:=REx.mono _ _ _ _ S j1
 replace N:=N.nf
 obtain ⟨p194,c195,rfl,W5,h9,H6,o7⟩:=RVal.fm J1
 refine Sto 1 fun w N a J=>?_
 refine go fun a J=>?_
 have D:=N
 replace N:=N.dl [3,2,1]
 refine jW (N:=D) ?_
 exact gK ((((yH _ _ _ _).trans (z3d P0 p0)).trans (pP M0)).trans P1) ⟨(l4,_),rfl,⟨(I).trans S,J1⟩,N⟩
 have S2:=vH x1 c2
 replace N:=N.dl [3,2,1]
 exact nL ((((yH _ _ _ _).trans (z3d P0 p0)).trans (pP M0)).trans S2) ⟨rfl,N.le (I)⟩
 have T2:=vH w1 (jV A0)
 replace N:=N.dl [3,2,1]
 exact nL (((yH _ _ _ _).trans (z3d P0 p0)).trans (nJ T2)) ⟨rfl,N.le (Fz.Le.refl _)⟩
 by_cases b0:e.kind=6
 refine go fun a J=>?_
 refine qN [2,1,2,1,2,1,0,0,0] (.q 0 (.q 1 (.q 2 (.q 3 (.q 4 (.q 5 (.e2 6 7 (.e 7 (.e 8 (.done))) (.e 6 (.e 8 (.done)))))))))) [0,1,2] J N fun w N=>?_
 have o3:=j9e b0 L0
 have k1:0 < e.args.length:=by omega
 have l1:1 < e.args.length:=by omega
 obtain ⟨w4,c0⟩:=qR l1
 refine go fun a J=>?_
 obtain ⟨q204,rfl,x205,U,J5,r6,G,u⟩:=h.el l3 k1
 obtain ⟨p213,j8,p219,k8,rfl,X5,i9,j9,I6,p7,J6,q7⟩:=REx.fm u
 refine go fun a J=>?_
 refine aZ ?_ ?_
 have B0:=L0
 rw [dV b0 U c0] at B0
 replace N:=N.pl 3
 refine xV call103 (fun t3 e5 w y1 J3 N a J=>?_) (fun t3 w y1 N=>?_) (c:=ih g (by omega) f rG u rv ((qX h0).2.1 _ (mgQ U)) (by omega) (by omega) (jV B0) N)
 obtain ⟨h2,F4⟩:=t3
 obtain ⟨Q7,L8⟩:=e5
 obtain ⟨L,d0⟩:=J3
 have N0:=wT y1
 simp only at L d0 N J N0
 have r5:=qV _ _ _ _ _ _ N0
 replace f:=f.mono L
 replace rG:=RGiven.mono L rG
 replace re:=REx.mono _ _ _ _ L re
 replace rv:=REnv.mono L rv
 replace b:=b.mono L
 replace h:=h.up L
 replace A:=A.up L
 replace G:=G.mono L
 replace u:=REx.mono _ _ _ _ L u
 replace N:=N.nf
 obtain ⟨U4,A4,rfl,Y5,k9,K6,r7⟩:=RVal.fm d0
 have d2:=y4b B0 N0
 refine Alc fun Y7 w N a J=>?_
 refine Sto 0 fun w N a J=>?_
 refine Reg [2,1,2,1,2,1,2,2,1,1,0,0,0] [0,2,3,4] fun w N a J=>?_
 refine go fun a J=>?_
 obtain ⟨Y4,U1⟩:=qR l1
 obtain ⟨K5,s6,Q0,l0⟩:=h.elem U1
 obtain ⟨p255,l8,p261,m8,rfl,Z5,l9,m9,L6,s7,M6,t7⟩:=REx.fm l0
 refine z3t fun a J=>?_
 refine Bx fun u4 w N a J=>?_
 have Y:=N
 clear N
 obtain ⟨n4,B,N,I2⟩:=Y.freezeBlk (i:=0) rfl
 clear Y
 replace f:=f.mono B
 replace rG:=RGiven.mono B rG
 replace re:=REx.mono _ _ _ _ B re
 replace rv:=REnv.mono B rv
 replace b:=b.mono B
 replace h:=h.up B
 replace A:=A.up B
 replace G:=G.mono B
 replace u:=REx.mono _ _ _ _ B u
 replace d0:=RVal.mono _ _ _ _ B d0
 replace Q0:=Q0.mono B
 replace l0:=REx.mono _ _ _ _ B l0
 replace N:=N.nf
 have I0:REnv n4 ((e.name,h2)::env) (some ⟨u4,0,none⟩):=⟨_,[.string h2.con,.int .i64 (h2.num),.slice U4 h2.args.length A4],_,rfl,I2,rfl,d0,rv⟩
 obtain rfl:w4=Y4:=Option.some.inj (c0.symm.trans U1)
 replace N:=N.pl 1
 refine xV call103 (fun u3 f5 w z1 K3 N a J=>?_) (fun u3 w z1 N=>?_) (c:=ih F4 (by omega) f rG l0 I0 ((qX h0).2.1 _ (mgQ U1)) (by omega) (by omega) d2 N)
 obtain ⟨z275,Y8⟩:=u3
 obtain ⟨o4,M8⟩:=f5
 obtain ⟨v,K1⟩:=K3
 have Q1:=wT z1
 simp only at v K1 N J Q1
 have s5:=qV _ _ _ _ _ _ Q1
 replace f:=f.mono v
 replace rG:=RGiven.mono v rG
 replace re:=REx.mono _ _ _ _ v re
 replace rv:=REnv.mono v rv
 replace b:=b.mono v
 replace h:=h.up v
 replace A:=A.up v
 replace G:=G.mono v
 replace u:=REx.mono _ _ _ _ v u
 replace d0:=RVal.mono _ _ _ _ v d0
 replace Q0:=Q0.mono v
 replace l0:=REx.mono _ _ _ _ v l0
 replace I0:=REnv.mono v I0
 replace N:=N.nf
 obtain ⟨p285,n8,rfl,a6,n9,N6,u7⟩:=RVal.fm K1
 refine Sto 2 fun w N a J=>?_
 refine go fun a J=>?_
 have D:=N
 replace N:=N.dl [4,3,2,1]
 refine jW (N:=D) ?_
 exact gK ((((yH _ _ _ _).trans (dV b0 U c0)).trans (pP N0)).trans Q1) ⟨(o4,_),rfl,⟨((L).trans B).trans v,K1⟩,N⟩
 have U2:=vH z1 d2
 replace N:=N.dl [4,3,2,1]
 exact nL ((((yH _ _ _ _).trans (dV b0 U c0)).trans (pP N0)).trans U2) ⟨rfl,N.le ((L).trans B)⟩
 have V2:=vH y1 (jV B0)
 replace N:=N.dl [3,2,1]
 exact nL (((yH _ _ _ _).trans (dV b0 U c0)).trans (nJ V2)) ⟨rfl,N.le (Fz.Le.refl _)⟩
 refine Alc fun Z7 w N a J=>?_
 have C0:=L0
 rw [dV b0 U c0] at C0
 replace N:=N.pl 4
 refine xV call103 (fun v3 g5 w A1 L3 N a J=>?_) (fun v3 w A1 N=>?_) (c:=ih g (by omega) f rG u rv ((qX h0).2.1 _ (mgQ U)) (by omega) (by omega) (jV C0) N)
 obtain ⟨i2,G4⟩:=v3
 obtain ⟨R7,N8⟩:=g5
 obtain ⟨M,e0⟩:=L3
 have O0:=wT A1
 simp only at M e0 N J O0
 have t5:=qV _ _ _ _ _ _ O0
 replace f:=f.mono M
 replace rG:=RGiven.mono M rG
 replace re:=REx.mono _ _ _ _ M re
 replace rv:=REnv.mono M rv
 replace b:=b.mono M
 replace h:=h.up M
 replace A:=A.up M
 replace G:=G.mono M
 replace u:=REx.mono _ _ _ _ M u
 replace N:=N.nf
 obtain ⟨V4,B4,rfl,b6,o9,O6,v7⟩:=RVal.fm e0
 have f2:=y4b C0 O0
 refine Sto 1 fun w N a J=>?_
 refine Reg [2,1,2,1,2,1,2,2,1,1,0,0,0] [1,2,3,4] fun w N a J=>?_
 refine go fun a J=>?_
 obtain ⟨Z4,V1⟩:=qR l1
 obtain ⟨L5,t6,R0,m0⟩:=h.elem V1
 obtain ⟨p323,o8,p329,p8,rfl,c6,p9,q9,P6,w7,Q6,x7⟩:=REx.fm m0
 refine z3t fun a J=>?_
 refine Bx fun v4 w N a J=>?_
 have Y:=N
 clear N
 obtain ⟨p4,C,N,J2⟩:=Y.freezeBlk (i:=0) rfl
 clear Y
 replace f:=f.mono C
 replace rG:=RGiven.mono C rG
 replace re:=REx.mono _ _ _ _ C re
 replace rv:=REnv.mono C rv
 replace b:=b.mono C
 replace h:=h.up C
 replace A:=A.up C
 replace G:=G.mono C
 replace u:=REx.mono _ _ _ _ C u
 replace e0:=RVal.mono _ _ _ _ C e0
 replace R0:=R0.mono C
 replace m0:=REx.mono _ _ _ _ C m0
 replace N:=N.nf
 have J0:REnv p4 ((e.name,i2)::env) (some ⟨v4,0,none⟩):=⟨_,[.string i2.con,.int .i64 (i2.num),.slice V4 i2.args.length B4],_,rfl,J2,rfl,e0,rv⟩
 obtain rfl:w4=Z4:=Option.some.inj (c0.symm.trans V1)
 refine xV call103 (fun w3 h5 w B1 M3 N a J=>?_) (fun w3 w B1 N=>?_) (c:=ih G4 (by omega) f rG m0 J0 ((qX h0).2.1 _ (mgQ V1)) (by omega) (by omega) f2 N)
 obtain ⟨z343,Z8⟩:=w3
 obtain ⟨q4,O8⟩:=h5
 obtain ⟨y,L1⟩:=M3
 have R1:=wT B1
 simp only at y L1 N J R1
 have u5:=qV _ _ _ _ _ _ R1
 replace f:=f.mono y
 replace rG:=RGiven.mono y rG
 replace re:=REx.mono _ _ _ _ y re
 replace rv:=REnv.mono y rv
 replace b:=b.mono y
 replace h:=h.up y
 replace A:=A.up y
 replace G:=G.mono y
 replace u:=REx.mono _ _ _ _ y u
 replace e0:=RVal.mono _ _ _ _ y e0
 replace R0:=R0.mono y
 replace m0:=REx.mono _ _ _ _ y m0
 replace J0:=REnv.mono y J0
 replace N:=N.nf
 obtain ⟨p353,q8,rfl,e6,r9,R6,y7⟩:=RVal.fm L1
 refine Sto 2 fun w N a J=>?_
 refine go fun a J=>?_
 have D:=N
 replace N:=N.dl [4,3,2,1]
 refine jW (N:=D) ?_
 exact gK ((((yH _ _ _ _).trans (dV b0 U c0)).trans (pP O0)).trans R1) ⟨(q4,_),rfl,⟨((M).trans C).trans y,L1⟩,N⟩
 have W2:=vH B1 f2
 replace N:=N.dl [4,3,2,1]
 exact nL ((((yH _ _ _ _).trans (dV b0 U c0)).trans (pP O0)).trans W2) ⟨rfl,N.le ((M).trans C)⟩
 have X2:=vH A1 (jV C0)
 replace N:=N.dl [4,3,2,1]
 exact nL (((yH _ _ _ _).trans (dV b0 U c0)).trans (nJ X2)) ⟨rfl,N.le (Fz.Le.refl _)⟩
 by_cases X:e.kind=7
 refine go fun a J=>?_
 refine qN [2,1,2,1,2,1,0,0,0] (.q 0 (.q 1 (.q 2 (.q 3 (.q 4 (.q 5 (.e2 6 7 (.e 7 (.e 8 (.done))) (.e 6 (.e 8 (.done)))))))))) [0,1,2] J N fun w N=>?_
 have o3:=j2i X L0
 have k1:0 < e.args.length:=by omega
 refine go fun a J=>?_
 obtain ⟨q363,rfl,x364,H,M5,u6,s,j⟩:=h.el l3 k1
 obtain ⟨p372,r8,p378,s8,rfl,f6,s9,t9,S6,z7,T6,A7⟩:=REx.fm j
 refine go fun a J=>?_
 refine aZ ?_ ?_
 have D0:=L0
 rw [pL X H] at D0
 replace N:=N.pl 3
 refine xV call103 (fun x3 i5 w C1 N3 N a J=>?_) (fun x3 w C1 N=>?_) (c:=ih g (by omega) f rG j rv ((qX h0).2.1 _ (mgQ H)) (by omega) (by omega) (jV D0) N)
 obtain ⟨x0,H4⟩:=x3
 obtain ⟨e1,P8⟩:=i5
 obtain ⟨E,Z⟩:=N3
 have n0:=wT C1
 simp only at E Z N J n0
 have v5:=qV _ _ _ _ _ _ n0
 replace f:=f.mono E
 replace rG:=RGiven.mono E rG
 replace re:=REx.mono _ _ _ _ E re
 replace rv:=REnv.mono E rv
 replace b:=b.mono E
 replace h:=h.up E
 replace A:=A.up E
 replace s:=s.mono E
 replace j:=REx.mono _ _ _ _ E j
 replace N:=N.nf
 obtain ⟨p398,t8,rfl,g6,l2,U6,X3⟩:=RVal.fm Z
 have N2:=y4b D0 n0
 refine Alc fun a8 w N a J=>?_
 refine Sto 0 fun w N a J=>?_
 refine go fun a J=>?_
 refine zV (J.ks [2,3,6,8,120,121]) N (fun R mm a w=>∃(i:Nat),mm=e.arms.length - i/\R e1 [(122,.int .i64 ((i:Nat):Int))] [] a w/\(kG e.arms x0.con=kG (e.arms.drop i) x0.con)) (e.arms.length - 0) ⟨0,rfl,⟨J.pk,N⟩,rfl⟩ ?_
 clear N J
 rintro mm a w ⟨i,S0,⟨J,N⟩,q1⟩ T7 T3
 by_cases h3:i < e.arms.length
 refine go fun a J=>?_
 obtain ⟨q413,rfl,t0,W1,N5,v6,i0,f0⟩:=A.el n3 h3
 obtain ⟨s420,b8,rfl,Z1,r0⟩:=RArm.iff.1 f0
 obtain ⟨p422,u8,rfl,V6,Y3⟩:=Z1.fm
 obtain ⟨p430,v8,p436,w8,rfl,h6,u9,v9,W6,B7,X6,C7⟩:=REx.fm r0
 refine Alc fun c8 w N a J=>?_
 refine Sto 0 fun w N a J=>?_
 by_cases i3:t0.con=x0.con
 refine go fun a J=>?_
 have K0:kG e.arms x0.con=some t0:=by
  rw [q1,zA W1];simp [kG,i3]
 have T0:=N2
 rw [cJ K0] at T0
 obtain ⟨p1,w2⟩:=y0y T0
 refine go fun a J=>?_
 refine zV (J.ks [3,6,8,10,132,133]) N (fun R mm a w=>∃(f1:Fz) (k:Nat) (en:Env) (nv:Option Addr),mm=t0.vars.length - k/\R f1 [(2,.pointer nv),(134,.int .i64 ((k:Nat):Int))] [] a w/\(e1.Le f1/\(REnv f1 en nv/\cA t0.vars x0.args env=cA (t0.vars.drop k) (x0.args.drop k) en))) (t0.vars.length - 0) ⟨e1,0,env,ov,rfl,⟨J.pk,N⟩,⟨Fz.Le.refl _,⟨rv,rfl⟩⟩⟩ ?_
 clear N J
 rintro mm a w ⟨f1,k,en,nv,S0,⟨J,N⟩,r1⟩ U7 U3
 obtain ⟨l,r1⟩:=r1
 replace f:=f.mono l
 replace rG:=RGiven.mono l rG
 replace re:=REx.mono _ _ _ _ l re
 replace rv:=REnv.mono l rv
 replace b:=b.mono l
 replace h:=h.up l
 replace A:=A.up l
 replace s:=s.mono l
 replace j:=REx.mono _ _ _ _ l j
 replace l2:=l2.up l
 replace Z:=RVal.mono _ _ _ _ l Z
 replace i0:=i0.mono l
 replace f0:=RArm.mono _ _ _ _ l f0
 replace Z1:=Z1.up l
 replace r0:=REx.mono _ _ _ _ l r0
 obtain ⟨rn,G0⟩:=r1
 by_cases n2:k < t0.vars.length
 have A2:k < x0.args.length:=z6t (env:=en) (env':=p1) (by rw [<- G0];exact w2) n2
 refine go fun a J=>?_
 obtain ⟨q457,rfl,E2,e4,D3,w6,q2,b4⟩:=Z1.el Y3 n2
 obtain rfl:D3=[.string E2]:=b4
 refine go fun a J=>?_
 obtain ⟨q464,rfl,n1,f4,O5,x6,r2,X0⟩:=l2.el X3 A2
 obtain ⟨W4,C4,rfl,i6,w9,Y6,D7⟩:=RVal.fm X0
 refine z3t fun a J=>?_
 refine Bx fun e3 w N a J=>?_
 have Y:=N
 clear N
 obtain ⟨G2,m,N,K2⟩:=Y.freezeBlk (i:=0) rfl
 clear Y
 replace f:=f.mono m
 replace rG:=RGiven.mono m rG
 replace re:=REx.mono _ _ _ _ m re
 replace rv:=REnv.mono m rv
 replace b:=b.mono m
 replace h:=h.up m
 replace A:=A.up m
 replace s:=s.mono m
 replace j:=REx.mono _ _ _ _ m j
 replace Z:=RVal.mono _ _ _ _ m Z
 replace i0:=i0.mono m
 replace f0:=RArm.mono _ _ _ _ m f0
 replace r0:=REx.mono _ _ _ _ m r0
 replace rn:=REnv.mono m rn
 replace q2:=q2.mono m
 replace r2:=r2.mono m
 replace X0:=RVal.mono _ _ _ _ m X0
 replace N:=N.nf
 have y2:REnv G2 ((E2,n1)::en) (some ⟨e3,0,none⟩):=⟨_,[.string n1.con,.int .i64 (n1.num),.slice W4 n1.args.length C4],_,rfl,K2,rfl,X0,rn⟩
 refine go fun a J=>?_
 refine U3 _ _ _ (by subst S0;omega) ⟨(G2),(k+1),((E2,n1)::en),((some ⟨e3,0,none⟩)),rfl,⟨J.pk,N⟩,?_⟩
 refine ⟨(l).trans m,?_⟩
 refine ⟨y2,?_⟩
 rw [G0,zA e4,zA f4];rfl
 refine go fun a J=>?_
 have H0:cA t0.vars x0.args env=some en:=by
  rw [G0,zE n2,y8h]
 have U0:=T0
 rw [z2r H0] at U0
 replace N:=N.pl 2
 refine xV call103 (fun y3 j5 w D1 O3 N a J=>?_) (fun y3 w D1 N=>?_) (c:=ih H4 (by omega) f rG r0 rn ((qX h0).2.2 _ (mgQ W1)).1 (by omega) (by omega) U0 N)
 obtain ⟨z490,a9⟩:=y3
 obtain ⟨r4,Q8⟩:=j5
 obtain ⟨t,M1⟩:=O3
 have S1:=wT D1
 simp only at t M1 N J S1
 have w5:=qV _ _ _ _ _ _ S1
 replace f:=f.mono t
 replace rG:=RGiven.mono t rG
 replace re:=REx.mono _ _ _ _ t re
 replace rv:=REnv.mono t rv
 replace b:=b.mono t
 replace h:=h.up t
 replace A:=A.up t
 replace s:=s.mono t
 replace j:=REx.mono _ _ _ _ t j
 replace Z:=RVal.mono _ _ _ _ t Z
 replace i0:=i0.mono t
 replace f0:=RArm.mono _ _ _ _ t f0
 replace r0:=REx.mono _ _ _ _ t r0
 replace rn:=REnv.mono t rn
 replace N:=N.nf
 obtain ⟨p500,x8,rfl,j6,x9,Z6,E7⟩:=RVal.fm M1
 refine Sto 3 fun w N a J=>?_
 refine go fun a J=>?_
 have D:=N
 replace N:=N.dl [5,4,3,2,1]
 refine jW (N:=D) ?_
 exact gK ((((((yH _ _ _ _).trans (pL X H)).trans (pP n0)).trans (cJ K0)).trans (z2r H0)).trans S1) ⟨(r4,_),rfl,⟨((E).trans l).trans t,M1⟩,N⟩
 have Y2:=vH D1 U0
 replace N:=N.dl [5,4,3,2,1]
 exact nL ((((((yH _ _ _ _).trans (pL X H)).trans (pP n0)).trans (cJ K0)).trans (z2r H0)).trans Y2) ⟨rfl,N.le ((E).trans l)⟩
 refine go fun a J=>?_
 replace N:=N.dl [0]
 refine T3 _ _ _ (by subst S0;omega) ⟨(i+1),rfl,⟨J.pk,N⟩,?_⟩
 rw [q1,zA W1];simp only [kG,if_neg i3]
 refine yC fun a J=>?_
 refine Sto 2 fun w N a J=>?_
 refine go fun a J=>?_
 have D:=N
 replace N:=N.dl [4,3,2,0]
 refine jW (N:=D) ?_
 exact gK ((((yH _ _ _ _).trans (pL X H)).trans (pP n0)).trans (y0s (by rw [q1,zE h3];rfl))) ⟨(e1,_),rfl,⟨E,RVal.iff.2 ⟨_,rfl,(show I64 0 from ⟨by decide,by decide⟩),SliceOf.nil 3⟩⟩,N⟩
 have Z2:=vH C1 (jV D0)
 replace N:=N.dl [3,2,1]
 exact nL (((yH _ _ _ _).trans (pL X H)).trans (nJ Z2)) ⟨rfl,N.le (Fz.Le.refl _)⟩
 refine Alc fun e8 w N a J=>?_
 have E0:=L0
 rw [pL X H] at E0
 replace N:=N.pl 4
 refine xV call103 (fun z3 k5 w E1 P3 N a J=>?_) (fun z3 w E1 N=>?_) (c:=ih g (by omega) f rG j rv ((qX h0).2.1 _ (mgQ H)) (by omega) (by omega) (jV E0) N)
 obtain ⟨y0,I4⟩:=z3
 obtain ⟨h1,R8⟩:=k5
 obtain ⟨F,a0⟩:=P3
 have o0:=wT E1
 simp only at F a0 N J o0
 have x5:=qV _ _ _ _ _ _ o0
 replace f:=f.mono F
 replace rG:=RGiven.mono F rG
 replace re:=REx.mono _ _ _ _ F re
 replace rv:=REnv.mono F rv
 replace b:=b.mono F
 replace h:=h.up F
 replace A:=A.up F
 replace s:=s.mono F
 replace j:=REx.mono _ _ _ _ F j
 replace N:=N.nf
 obtain ⟨p525,y8,rfl,k6,o2,a7,Z3⟩:=RVal.fm a0
 have O2:=y4b E0 o0
 refine Sto 1 fun w N a J=>?_
 refine go fun a J=>?_
 refine zV (J.ks [2,3,6,8,120,121]) N (fun R mm a w=>∃(i:Nat),mm=e.arms.length - i/\R h1 [(122,.int .i64 ((i:Nat):Int))] [] a w/\(kG e.arms y0.con=kG (e.arms.drop i) y0.con)) (e.arms.length - 0) ⟨0,rfl,⟨J.pk,N⟩,rfl⟩ ?_
 clear N J
 rintro mm a w ⟨i,S0,⟨J,N⟩,s1⟩ V7 V3
 by_cases j3:i < e.arms.length
 refine go fun a J=>?_
 obtain ⟨q539,rfl,u0,X1,P5,y6,j0,g0⟩:=A.el n3 j3
 obtain ⟨s546,f8,rfl,a2,s0⟩:=RArm.iff.1 g0
 obtain ⟨p548,z8,rfl,b7,a4⟩:=a2.fm
 obtain ⟨p556,A8,p562,B8,rfl,l6,y9,z9,c7,F7,e7,G7⟩:=REx.fm s0
 refine Alc fun g8 w N a J=>?_
 refine Sto 0 fun w N a J=>?_
 by_cases k3:u0.con=y0.con
 refine go fun a J=>?_
 have K0:kG e.arms y0.con=some u0:=by
  rw [s1,zA X1];simp [kG,k3]
 have V0:=O2
 rw [cJ K0] at V0
 obtain ⟨p1,w2⟩:=y0y V0
 refine go fun a J=>?_
 refine zV (J.ks [3,6,8,10,132,133]) N (fun R mm a w=>∃(i1:Fz) (k:Nat) (en:Env) (nv:Option Addr),mm=u0.vars.length - k/\R i1 [(2,.pointer nv),(134,.int .i64 ((k:Nat):Int))] [] a w/\(h1.Le i1/\(REnv i1 en nv/\cA u0.vars y0.args env=cA (u0.vars.drop k) (y0.args.drop k) en))) (u0.vars.length - 0) ⟨h1,0,env,ov,rfl,⟨J.pk,N⟩,⟨Fz.Le.refl _,⟨rv,rfl⟩⟩⟩ ?_
 clear N J
 rintro mm a w ⟨i1,k,en,nv,S0,⟨J,N⟩,t1⟩ W7 W3
 obtain ⟨n,t1⟩:=t1
 replace f:=f.mono n
 replace rG:=RGiven.mono n rG
 replace re:=REx.mono _ _ _ _ n re
 replace rv:=REnv.mono n rv
 replace b:=b.mono n
 replace h:=h.up n
 replace s:=s.mono n
 replace j:=REx.mono _ _ _ _ n j
 replace o2:=o2.up n
 replace a0:=RVal.mono _ _ _ _ n a0
 replace j0:=j0.mono n
 replace g0:=RArm.mono _ _ _ _ n g0
 replace a2:=a2.up n
 replace s0:=REx.mono _ _ _ _ n s0
 obtain ⟨rn,G0⟩:=t1
 by_cases p2:k < u0.vars.length
 have A2:k < y0.args.length:=z6t (env:=en) (env':=p1) (by rw [<- G0];exact w2) p2
 refine go fun a J=>?_
 obtain ⟨q583,rfl,F2,g4,E3,z6,s2,c4⟩:=a2.el a4 p2
 obtain rfl:E3=[.string F2]:=c4
 refine go fun a J=>?_
 obtain ⟨q590,rfl,o1,h4,Q5,A6,t2,Y0⟩:=o2.el Z3 A2
 obtain ⟨X4,D4,rfl,m6,A9,f7,H7⟩:=RVal.fm Y0
 refine z3t fun a J=>?_
 refine Bx fun f3 w N a J=>?_
 have Y:=N
 clear N
 obtain ⟨H2,r,N,L2⟩:=Y.freezeBlk (i:=0) rfl
 clear Y
 replace f:=f.mono r
 replace rG:=RGiven.mono r rG
 replace re:=REx.mono _ _ _ _ r re
 replace rv:=REnv.mono r rv
 replace b:=b.mono r
 replace h:=h.up r
 replace s:=s.mono r
 replace j:=REx.mono _ _ _ _ r j
 replace a0:=RVal.mono _ _ _ _ r a0
 replace j0:=j0.mono r
 replace g0:=RArm.mono _ _ _ _ r g0
 replace s0:=REx.mono _ _ _ _ r s0
 replace rn:=REnv.mono r rn
 replace s2:=s2.mono r
 replace t2:=t2.mono r
 replace Y0:=RVal.mono _ _ _ _ r Y0
 replace N:=N.nf
 have z2:REnv H2 ((F2,o1)::en) (some ⟨f3,0,none⟩):=⟨_,[.string o1.con,.int .i64 (o1.num),.slice X4 o1.args.length D4],_,rfl,L2,rfl,Y0,rn⟩
 refine go fun a J=>?_
 refine W3 _ _ _ (by subst S0;omega) ⟨(H2),(k+1),((F2,o1)::en),((some ⟨f3,0,none⟩)),rfl,⟨J.pk,N⟩,?_⟩
 refine ⟨(n).trans r,?_⟩
 refine ⟨z2,?_⟩
 rw [G0,zA g4,zA h4];rfl
 refine go fun a J=>?_
 have H0:cA u0.vars y0.args env=some en:=by
  rw [G0,zE p2,y8h]
 have W0:=V0
 rw [z2r H0] at W0
 replace N:=N.pl 1
 refine xV call103 (fun A3 l5 w F1 Q3 N a J=>?_) (fun A3 w F1 N=>?_) (c:=ih I4 (by omega) f rG s0 rn ((qX h0).2.2 _ (mgQ X1)).1 (by omega) (by omega) W0 N)
 obtain ⟨z616,b9⟩:=A3
 obtain ⟨s4,S8⟩:=l5
 obtain ⟨z,N1⟩:=Q3
 have T1:=wT F1
 simp only at z N1 N J T1
 have y5:=qV _ _ _ _ _ _ T1
 replace f:=f.mono z
 replace rG:=RGiven.mono z rG
 replace re:=REx.mono _ _ _ _ z re
 replace rv:=REnv.mono z rv
 replace b:=b.mono z
 replace h:=h.up z
 replace s:=s.mono z
 replace j:=REx.mono _ _ _ _ z j
 replace a0:=RVal.mono _ _ _ _ z a0
 replace j0:=j0.mono z
 replace g0:=RArm.mono _ _ _ _ z g0
 replace s0:=REx.mono _ _ _ _ z s0
 replace rn:=REnv.mono z rn
 replace N:=N.nf
 obtain ⟨p626,C8,rfl,n6,B9,g7,I7⟩:=RVal.fm N1
 refine Sto 3 fun w N a J=>?_
 refine go fun a J=>?_
 have D:=N
 replace N:=N.dl [5,4,3,2,1]
 refine jW (N:=D) ?_
 exact gK ((((((yH _ _ _ _).trans (pL X H)).trans (pP o0)).trans (cJ K0)).trans (z2r H0)).trans T1) ⟨(s4,_),rfl,⟨((F).trans n).trans z,N1⟩,N⟩
 have a3:=vH F1 W0
 replace N:=N.dl [5,4,3,2,1]
 exact nL ((((((yH _ _ _ _).trans (pL X H)).trans (pP o0)).trans (cJ K0)).trans (z2r H0)).trans a3) ⟨rfl,N.le ((F).trans n)⟩
 refine go fun a J=>?_
 replace N:=N.dl [0]
 refine V3 _ _ _ (by subst S0;omega) ⟨(i+1),rfl,⟨J.pk,N⟩,?_⟩
 rw [s1,zA X1];simp only [kG,if_neg k3]
 refine yC fun a J=>?_
 refine Sto 2 fun w N a J=>?_
 refine go fun a J=>?_
 have D:=N
 replace N:=N.dl [4,3,2,1]
 refine jW (N:=D) ?_
 exact gK ((((yH _ _ _ _).trans (pL X H)).trans (pP o0)).trans (y0s (by rw [s1,zE j3];rfl))) ⟨(h1,_),rfl,⟨F,RVal.iff.2 ⟨_,rfl,(show I64 0 from ⟨by decide,by decide⟩),SliceOf.nil 3⟩⟩,N⟩
 have b3:=vH E1 (jV E0)
 replace N:=N.dl [4,3,2,1]
 exact nL (((yH _ _ _ _).trans (pL X H)).trans (nJ b3)) ⟨rfl,N.le (Fz.Le.refl _)⟩
 refine go fun a J=>?_
 by_cases b2:e.kind=8
 refine go fun a J=>?_
 have F0:=L0
 rw [q3m b2] at F0
 replace N:=N.pl 3
 refine xV call158 (fun B3 m5 w G1 R3 N a J=>?_) (fun B3 w G1 N=>?_) (c:=z7i (fun k2 h_=>ih k2 (by omega)) f rG h rv (qX h0).2.1 (qX h0).1 (by omega) (by omega) (jV F0) N)
 obtain ⟨C3,d9⟩:=B3
 obtain ⟨S7,T8⟩:=m5
 obtain ⟨q0,Z0⟩:=R3
 have d1:=wT G1
 simp only at q0 Z0 N J d1
 have z5:=q2a d1
 replace rG:=RGiven.mono q0 rG
 replace re:=REx.mono _ _ _ _ q0 re
 replace rv:=REnv.mono q0 rv
 replace b:=b.mono q0
 replace N:=N.nf
 obtain ⟨p651,D8,rfl,C5,Q2⟩:=Z0.fm
 have P2:=y4b F0 d1
 refine Reg [1,2,1,1,1,2,1,1,1,2,0,0] [1,2,3] fun w N a J=>?_
 have o3:=x4b P2
 have k1:0 < C3.length:=by omega
 have l1:1 < C3.length:=by omega
 refine go fun a J=>?_
 obtain ⟨q657,rfl,x658,i4,R5,B6,u2,a1⟩:=Z0.el Q2 k1
 obtain ⟨p666,E8,rfl,o6,C9,h7,J7⟩:=RVal.fm a1
 refine go fun a J=>?_
 obtain ⟨x671,C2⟩:=qR l1
 obtain ⟨S5,C6,v2,b1⟩:=Z0.elem C2
 obtain ⟨p679,F8,rfl,p6,D9,i7,K7⟩:=RVal.fm b1
 refine qO call159 (fun n5 w S3 N a J=>?_) (c:=j1c (by obtain ⟨_,_,h_,_⟩:=RVal.iff.1 a1;exact h_) (by obtain ⟨_,_,h_,_⟩:=RVal.iff.1 b1;exact h_) N)
 obtain ⟨t4,U8⟩:=n5
 obtain ⟨W,O1⟩:=S3
 simp only at W O1 N J
 replace rG:=RGiven.mono W rG
 replace re:=REx.mono _ _ _ _ W re
 replace rv:=REnv.mono W rv
 replace b:=b.mono W
 replace u2:=u2.mono W
 replace a1:=RVal.mono _ _ _ _ W a1
 replace v2:=v2.mono W
 replace b1:=RVal.mono _ _ _ _ W b1
 replace N:=N.nf
 obtain ⟨p692,G8,rfl,q6,E9,j7,L7⟩:=RVal.fm O1
 refine Sto 1 fun w N a J=>?_
 refine go fun a J=>?_
 have D:=N
 replace N:=N.dl [3,2,1]
 refine jW (N:=D) ?_
 exact gK ((((yH _ _ _ _).trans (q3m b2)).trans (pP d1)).trans (opOf_eq i4 C2)) ⟨(t4,_),rfl,⟨(q0).trans W,O1⟩,N⟩
 have d3:=vH G1 (jV F0)
 replace N:=N.dl [3,2,1]
 exact nL (((yH _ _ _ _).trans (q3m b2)).trans (nJ d3)) ⟨rfl,N.le (Fz.Le.refl _)⟩
 refine yC fun a J=>?_
 refine Sto 0 fun w N a J=>?_
 refine go fun a J=>?_
 have D:=N
 replace N:=N.dl [2,1,0]
 refine jW (N:=D) ?_
 exact gK ((yH _ _ _ _).trans (j9f (by have h_:=K4;omega) (by have h_:=F3;omega) (by have h_:=M4;omega) (by have h_:=Y1;omega) (by have h_:=P0;omega) (by have h_:=b0;omega) (by have h_:=X;omega) (by have h_:=b2;omega))) ⟨(V,_),rfl,⟨Fz.Le.refl _,RVal.iff.2 ⟨_,rfl,(show I64 0 from ⟨by decide,by decide⟩),SliceOf.nil 3⟩⟩,N⟩
theorem x1j {T:Table} {inp:List (Bs×Val)} (a:z0x T):∀g,oJ prog T inp g:=by
 suffices H:∀n g,g < n->oJ prog T inp g from fun g=>H _ g (Nat.lt_succ_self _)
 intro n
 induction n with
 | zero=>intro g h;omega
 | succ n b=>
  intro g h
  cases g with
  | zero=>exact j6z
  | succ g=>exact j6y a fun g1 h1=>b g1 (by omega)
theorem z1b {T:Table} {inp:List (Bs×Val)} (a:z0x T) (g:Nat):q4f prog T inp g:=y1c (x1j a g)
end Go.Sw
