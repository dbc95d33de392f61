import Derived.Test.YtgkhcfjooiekkaaGreatDoorX07
set_option linter.unusedVariables false
set_option linter.unusedSimpArgs false
namespace Go.Sw
open Go.Proofs Go.Proofs.Tryz
set_option maxRecDepth 20000
set_option maxHeartbeats 4000000
section
variable {V:Fz} {K:List Res} {w:World}
theorem j3q {g:Nat} {fs cs:List Value} {v0 H:Value} {l:List Val} {m:List Param} {p:Val->Param->Bool} (rl:SliceOf RVal V 3 v0 l) (rm:SliceOf RParam V 2 H m)
  (S:∀args w,(callFunc g args).run prog w=.ok (.enter g args) w)
  (P:∀x c y d w,x∈l->y∈m->RVal V c x->RParam V d y->Mem V K w->Calls prog g (fs++[Value.agg c.toArray,Value.agg d.toArray]++cs).toArray w (fun e w'=>e=.returned (.bool (p x y))/\Mem V K w'))
  (N:Mem V K w):Calls prog 59 #[v0,H,.func (.func g) fs.toArray cs.toArray] w (fun ee w'=>ee=.returned (.bool (eqF p l m))/\Mem V K w'):=by
 obtain ⟨p0,c0,rfl,T,t⟩:=rl.fm
 obtain ⟨p1,c1,rfl,U,u⟩:=rm.fm
 refine zK func59 ntmps59 fun Q hQ a J=>?_
 by_cases h4:l.length=m.length
 refine go fun a J=>?_
 refine zU (J.ks [1,2,15,16]) N (fun R mm a w=>∃(i:Nat),mm=l.length - i/\R V [(17,.int .i64 ((i:Nat):Int))] [] a w/\(eqF p l m=eqF p (l.drop i) (m.drop i))) (l.length - 0) ⟨0,rfl,⟨J.pk,N⟩,rfl⟩ ?_
 clear N J
 rintro mm a w ⟨i,s,⟨J,N⟩,k⟩ L7 r
 by_cases n:i < l.length
 refine go fun a J=>?_
 obtain ⟨X,rfl,Z,b,v,D,A,h⟩:=rl.el t n
 obtain ⟨W,c24,rfl,C,M,F,G⟩:=RVal.fm h
 refine Alc fun I w N a J=>?_
 refine Sto 0 fun w N a J=>?_
 refine go fun a J=>?_
 have q:i < m.length:=by omega
 obtain ⟨Y,rfl,a0,f,z,E,B,j⟩:=rm.el u q
 obtain rfl:=id j
 refine Alc fun L w N a J=>?_
 refine Sto 0 fun w N a J=>?_
 refine go fun a J=>?_
 replace N:=N.dl [1,0]
 refine y2o S (fun o w N a J=>?_) (fun o w N a J=>?_) (c:=by exact P _ _ _ _ _ (mgQ b) (mgQ f) h j N)
 refine go fun a J=>?_
 refine r _ _ _ (by subst s;omega) ⟨(i+1),rfl,⟨J.pk,N⟩,?_⟩
 rw [k,zA b,zA f];simp [eqF, *]
 refine zF ?_
 exact zM N (by rw [k,zA b,zA f];simp [eqF, *])
 refine zF ?_
 exact zM N (by rw [k,zB n,zB (l:=m) (by omega)];rfl)
 refine zF ?_
 exact zM N (by rw [q5f (by assumption)])
theorem q5g {g:Nat} {fs cs:List Value} {v0 I:Value} {l:List Named} {m:List Param} {p:Named->Param->Bool} (rl:SliceOf RNamed V 4 v0 l) (rm:SliceOf RParam V 2 I m)
  (W:∀args w,(callFunc g args).run prog w=.ok (.enter g args) w)
  (U:∀x c y d w,x∈l->y∈m->RNamed V c x->RParam V d y->Mem V K w->Calls prog g (fs++[Value.agg c.toArray,Value.agg d.toArray]++cs).toArray w (fun e w'=>e=.returned (.bool (p x y))/\Mem V K w'))
  (N:Mem V K w):Calls prog 100 #[v0,I,.func (.func g) fs.toArray cs.toArray] w (fun ee w'=>ee=.returned (.bool (eqF p l m))/\Mem V K w'):=by
 obtain ⟨p0,c0,rfl,X,u⟩:=rl.fm
 obtain ⟨p1,c1,rfl,Y,v⟩:=rm.fm
 refine zK func100 ntmps100 fun Q hQ a J=>?_
 by_cases h4:l.length=m.length
 refine go fun a J=>?_
 refine zU (J.ks [1,2,15,16]) N (fun R mm a w=>∃(i:Nat),mm=l.length - i/\R V [(17,.int .i64 ((i:Nat):Int))] [] a w/\(eqF p l m=eqF p (l.drop i) (m.drop i))) (l.length - 0) ⟨0,rfl,⟨J.pk,N⟩,rfl⟩ ?_
 clear N J
 rintro mm a w ⟨i,t,⟨J,N⟩,k⟩ L7 s
 by_cases n:i < l.length
 refine go fun a J=>?_
 obtain ⟨a0,rfl,d0,b,z,E,B,h⟩:=rl.el u n
 obtain ⟨L,rfl,r⟩:=id h
 obtain ⟨Z,S,rfl,D,T,G,H⟩:=RVal.fm r
 refine Alc fun M w N a J=>?_
 refine Sto 0 fun w N a J=>?_
 refine go fun a J=>?_
 have q:i < m.length:=by omega
 obtain ⟨b0,rfl,e0,f,A,F,C,j⟩:=rm.el v q
 obtain rfl:=id j
 refine Alc fun P w N a J=>?_
 refine Sto 0 fun w N a J=>?_
 refine go fun a J=>?_
 replace N:=N.dl [1,0]
 refine y2o W (fun o w N a J=>?_) (fun o w N a J=>?_) (c:=by exact U _ _ _ _ _ (mgQ b) (mgQ f) h j N)
 refine go fun a J=>?_
 refine s _ _ _ (by subst t;omega) ⟨(i+1),rfl,⟨J.pk,N⟩,?_⟩
 rw [k,zA b,zA f];simp [eqF, *]
 refine zF ?_
 exact zM N (by rw [k,zA b,zA f];simp [eqF, *])
 refine zF ?_
 exact zM N (by rw [k,zB n,zB (l:=m) (by omega)];rfl)
 refine zF ?_
 exact zM N (by rw [q5f (by assumption)])
theorem j0c {left:Int} {d0:List Value} {v:Val} {b:Nat} {e:Nat} (g:RVal V d0 v) (p:∀x:Val,x.sz < v.sz->∀{V:Fz} {K:List Res} {w:World} {d:List Value} {b e:Nat} {left:Int},RVal V d x->Mem V (.blk b (ob [.int .i64 left] 3)::.blk e (ob [.func (.func 105) #[] #[.pointer (some ⟨b,0,none⟩),.pointer (some ⟨e,0,none⟩)]] 108)::K) w->Calls prog 105 #[.agg d.toArray,.pointer (some ⟨b,0,none⟩),.pointer (some ⟨e,0,none⟩)] w (fun ee w'=>ee=.returned (.bool (xL x left).1)/\Mem V (.blk b (ob [.int .i64 (xL x left).2] 3)::.blk e (ob [.func (.func 105) #[] #[.pointer (some ⟨b,0,none⟩),.pointer (some ⟨e,0,none⟩)]] 108)::K) w')) (N:Mem V (.blk b (ob [.int .i64 (left)] 3)::.blk e (ob [.func (.func 105) #[] #[.pointer (some ⟨b,0,none⟩),.pointer (some ⟨e,0,none⟩)]] 108)::K) w) :
  Calls prog 105 #[.agg d0.toArray,.pointer (some ⟨b,0,none⟩),.pointer (some ⟨e,0,none⟩)] w (fun ee w'=>ee=.returned (.bool ((xL v left).1))/\Mem V (.blk b (ob [.int .i64 ((xL v left).2)] 3)::.blk e (ob [.func (.func 105) #[] #[.pointer (some ⟨b,0,none⟩),.pointer (some ⟨e,0,none⟩)]] 108)::K) w'):=by
 obtain ⟨q,c4,rfl,k,i,l,m⟩:=RVal.fm g
 refine zK func105 ntmps105 fun Q hQ a J=>?_
 refine Bx fun h w N a J=>?_
 refine Qq (fun a J=>?_) (o:=by exact fun J O=>xX _ J rfl rfl rfl)
 refine Sto 1 fun w N a J=>?_
 refine go fun a J=>?_
 by_cases f:IntKind.i64.wrap (left - 1) < 0
 refine zF ?_
 replace N:=N.dl [0]
 have hr_:xL v left=(true,IntKind.i64.wrap (left - 1)):=by
  rw [z9j,if_pos f]
 show _/\_;rw [hr_];exact ⟨rfl,N⟩
 replace N:=N.ar [] [2,2]
 refine zO call49 (fun w N a J=>?_) (c:=uD (V:=V) (σ:=Int) (step:=fun s x=>xL x s) (Kf:=fun s=>.blk b (ob [.int .i64 s] 3)::.blk e (ob [.func (.func 105) #[] #[.pointer (some ⟨b,0,none⟩),.pointer (some ⟨e,0,none⟩)]] 108)::.blk h (ob [.string v.con,.int .i64 (v.num),.slice q v.args.length c4] 42)::K) (s0:=IntKind.i64.wrap (left - 1)) (fs:=[]) (cs:=[.pointer (some ⟨b,0,none⟩),.pointer (some ⟨e,0,none⟩)]) i call105 (fun s x c w n j N=>p x (Val.lt_args n) j N) N)
 replace N:=N.nf
 refine zF ?_
 replace N:=N.dl [2]
 have hr_:xL v left=(z4j (fun s x=>xL x s) (IntKind.i64.wrap (left - 1)) v.args,(yQ (fun s x=>xL x s) (IntKind.i64.wrap (left - 1)) v.args 0).2):=by
  rw [z9j,if_neg f];exact Prod.ext (z5j v.args _ 0).1 (z5j v.args _ 0).2
 show _/\_;rw [hr_];exact ⟨rfl,N⟩
theorem x1w {d:List Value} {v:Val} {a b:Nat} {left:Int} (rv:RVal V d v) (N:Mem V (.blk a (ob [.int .i64 left] 3)::.blk b (ob [.func (.func 105) #[] #[.pointer (some ⟨a,0,none⟩),.pointer (some ⟨b,0,none⟩)]] 108)::K) w) :
  Calls prog 105 #[.agg d.toArray,.pointer (some ⟨a,0,none⟩),.pointer (some ⟨b,0,none⟩)] w (fun ee w'=>ee=.returned (.bool (xL v left).1)/\Mem V (.blk a (ob [.int .i64 (xL v left).2] 3)::.blk b (ob [.func (.func 105) #[] #[.pointer (some ⟨a,0,none⟩),.pointer (some ⟨b,0,none⟩)]] 108)::K) w'):=by
 suffices H:∀n (x:Val),x.sz < n->∀{V:Fz} {K:List Res} {w:World} {d:List Value} {a b:Nat} {left:Int},RVal V d x->Mem V (.blk a (ob [.int .i64 left] 3)::.blk b (ob [.func (.func 105) #[] #[.pointer (some ⟨a,0,none⟩),.pointer (some ⟨b,0,none⟩)]] 108)::K) w ->
   Calls prog 105 #[.agg d.toArray,.pointer (some ⟨a,0,none⟩),.pointer (some ⟨b,0,none⟩)] w (fun ee w'=>ee=.returned (.bool (xL x left).1)/\Mem V (.blk a (ob [.int .i64 (xL x left).2] 3)::.blk b (ob [.func (.func 105) #[] #[.pointer (some ⟨a,0,none⟩),.pointer (some ⟨b,0,none⟩)]] 108)::K) w') from H _ v (Nat.lt_succ_self _) rv N
 intro n
 induction n with
 | zero=>intro e h;omega
 | succ n c=>intro x h V K w d a b left rv N;exact j0c rv (fun y f _ _ _ _ _ _ _ r m=>c y (by omega) r m) N
theorem z6w {d0:List Value} {v:Val} (b:RVal V d0 v) (N:Mem V K w) :
  Calls prog 50 #[.agg d0.toArray] w (fun ee w'=>ee=.returned (.bool (vX v))/\Mem V K w'):=by
 obtain ⟨k,c4,rfl,f,j,g,h⟩:=RVal.fm b
 refine zK func50 ntmps50 fun Q hQ a J=>?_
 refine Bx fun i w N a J=>?_
 refine Alc fun d w N a J=>?_
 refine Sto 0 fun w N a J=>?_
 refine Alc fun e w N a J=>?_
 refine Sto 0 fun w N a J=>?_
 replace N:=N.pl 1
 refine q3j call105 (fun w N a J=>?_) (c:=by exact x1w b N)
 refine zF ?_
 replace N:=N.dl [2,1,0]
 exact zM N (by rfl)
theorem x6z {p0:Addr} {T:Table} {name:Bs} {d2:List Value} {v:Val} (G:RTable V p0 T) (e0:RVal V d2 v) (ih:∀x:Val,x.sz < v.sz->∀{V:Fz} {K:List Res} {w:World} {p:Addr} {d:List Value} {name:Bs},RTable V p T->RVal V d x->Mem V K w->Calls prog 61 #[.pointer (some p),.string name,.agg d.toArray] w (fun ee w'=>ee=.returned (.bool (mR T x name))/\Mem V K w')) (N:Mem V K w) :
  Calls prog 61 #[.pointer (some p0),.string name,.agg d2.toArray] w (fun ee w'=>ee=.returned (.bool (mR T v name))/\Mem V K w'):=by
 obtain ⟨h0,m1,m2,m3,m4,d5,L,d7,d8,W,X,l,c1,B0,r,s,z0,C0,A0,D0⟩:=G.ex
 obtain ⟨d1,c24,e1,N0,f1,O0,g1,c42,rfl,R0,S0,T0,U0,n0,u0,o0,w0,q0,x0,r0,y0⟩:=RCore.fm l
 obtain ⟨h1,P0,rfl,l0,M,s0,D⟩:=RVal.fm e0
 refine zK func61 ntmps61 fun Q hQ a J=>?_
 refine Bx fun J0 w N a J=>?_
 by_cases V0:v.con=(⟨#[]⟩:Bs)
 by_cases W0:name=(⟨#[73,110,116]⟩:Bs)
 refine Qq (fun a J=>?_) (o:=by exact fun J O=>pS (i:=v.args.length) (j:=0) J rfl rfl)
 refine zF ?_
 replace N:=N.dl [0]
 exact zM N (by rw [sZ,if_pos (by simp [sNo,yH, *])];simp [sNo,yH, *])
 refine zF ?_
 replace N:=N.dl [0]
 exact zM N (by rw [sZ,if_pos (by simp [sNo,yH, *])];simp [sNo,yH, *])
 by_cases X0:name=(⟨#[73,110,116]⟩:Bs)
 refine zF ?_
 replace N:=N.dl [0]
 exact zM N (by rw [sZ,if_pos (by simp [sNo,yH, *])];simp [sNo,yH, *])
 refine Reg [1,1,1,2,1,2,2,1,1,1,0,0,1] [0] fun w N a J=>?_
 refine go fun a J=>?_
 rcases g:yY (L) v.con with _ | H0
 have f:=congrArg (zN true (.agg #[.string ⟨#[]⟩,.string ⟨#[]⟩,.slice none 0 0])) g
 refine Qq (fun a J=>?_) (o:=by exact fun J O=>Ok.cast (yB runUnderlying102 runUnderlying9 zeroValue190 J O rfl rfl r) (show zN true (.agg #[.string ⟨#[]⟩,.string ⟨#[]⟩,.slice none 0 0]) (yY (L) v.con)=.tuple #[.agg #[.string ⟨#[]⟩,.string ⟨#[]⟩,.slice none 0 0],.bool false] from f))
 refine Alc fun K0 w N a J=>?_
 refine Sto 0 fun w N a J=>?_
 refine zF ?_
 replace N:=N.dl [1,0]
 exact zM N (by have e_:=MapRel.none s g;rw [sZ,if_neg (by simp [sNo,yH, *])];simp [e_])
 obtain ⟨b,h,i0,rfl,F⟩:=s.get g
 obtain ⟨L0,rfl,P⟩:=id F
 obtain ⟨j1,rfl,z⟩:=id P
 obtain ⟨d0,I,rfl,t0,E⟩:=z.fm
 have f:=congrArg (zN true (.agg #[.string ⟨#[]⟩,.string ⟨#[]⟩,.slice none 0 0])) g
 refine Qq (fun a J=>?_) (o:=by exact fun J O=>Ok.cast (yB runUnderlying102 runUnderlying9 zeroValue190 J O rfl rfl r) (show zN true (.agg #[.string ⟨#[]⟩,.string ⟨#[]⟩,.slice none 0 0]) (yY (L) v.con)=.tuple #[.agg #[.string b.data,.string b.con.name,.slice d0 b.con.fields.length I],.bool true] from f))
 refine Alc fun M0 w N a J=>?_
 refine Sto 0 fun w N a J=>?_
 by_cases Y0:b.data=name
 by_cases Z0:v.num=0
 by_cases a1:b.con.fields.length=v.args.length
 refine go fun a J=>?_
 have B:mR T v name=hasL T v.args b.con.fields:=by
  rw [sZ,if_neg (by simp [sNo,yH, *])]
  simp only [h]
  simp [*]
 refine go fun a J=>?_
 refine zU (J.ks [0,7,65,66]) N (fun R mm a w=>∃(i:Nat),mm=v.args.length - i/\R V [(67,.int .i64 ((i:Nat):Int))] [] a w/\(hasL T v.args b.con.fields=hasL T (v.args.drop i) (b.con.fields.drop i))) (v.args.length - 0) ⟨0,rfl,⟨J.pk,N⟩,rfl⟩ ?_
 clear N J
 rintro mm a w ⟨i,b0,⟨J,N⟩,k⟩ I0 C
 by_cases A:i < v.args.length
 refine go fun a J=>?_
 obtain ⟨i1,rfl,k1,q,j0,m0,S,m⟩:=M.el D A
 obtain ⟨F0,g0,rfl,Y,k0,a0,c0⟩:=RVal.fm m
 refine Alc fun f0 w N a J=>?_
 refine Sto 0 fun w N a J=>?_
 refine Reg [1,1,1,2,1,1,2,2,0,1] [0,1,2] fun w N a J=>?_
 refine go fun a J=>?_
 have u:i < b.con.fields.length:=by omega
 obtain ⟨G0,rfl,H,n,t,Z,U,y⟩:=z.el E u
 obtain rfl:t=[.string H]:=y
 refine zZ call61 (fun e w N a J=>?_) (fun e w N a J=>?_) (c:=ih _ (Val.lt_args (mgQ q)) G m N)
 refine go fun a J=>?_
 replace N:=N.dl [0]
 refine C _ _ _ (by subst b0;omega) ⟨(i+1),rfl,⟨J.pk,N⟩,?_⟩
 rw [k,zA q,zA n,x1j,e];rfl
 refine zF ?_
 replace N:=N.dl [2,1,0]
 exact zM N (by rw [B,k,zA q,zA n];simp [hasL,e])
 refine zF ?_
 replace N:=N.dl [1,0]
 exact zM N (by rw [B,k,zB A];rfl)
 refine zF ?_
 replace N:=N.dl [1,0]
 exact zM N (by rw [sZ,if_neg (by simp [sNo,yH, *])];simp only [h];simp [*])
 refine zF ?_
 replace N:=N.dl [1,0]
 exact zM N (by rw [sZ,if_neg (by simp [sNo,yH, *])];simp only [h];simp [*])
 refine zF ?_
 replace N:=N.dl [1,0]
 exact zM N (by rw [sZ,if_neg (by simp [sNo,yH, *])];simp only [h];simp [*])
theorem has_ok {T:Table} {V:Fz} {K:List Res} {w:World} {p:Addr} {d:List Value} {name:Bs} {v:Val} (rT:RTable V p T) (rv:RVal V d v) (N:Mem V K w) :
  Calls prog 61 #[.pointer (some p),.string name,.agg d.toArray] w (fun ee w'=>ee=.returned (.bool (mR T v name))/\Mem V K w'):=by
 suffices H:∀n (x:Val),x.sz < n->∀{V:Fz} {K:List Res} {w:World} {p:Addr} {d:List Value} {name:Bs},RTable V p T->RVal V d x->Mem V K w ->
   Calls prog 61 #[.pointer (some p),.string name,.agg d.toArray] w (fun ee w'=>ee=.returned (.bool (mR T x name))/\Mem V K w') from H _ v (Nat.lt_succ_self _) rT rv N
 intro n
 induction n with
 | zero=>intro e h;omega
 | succ n a=>intro x h V K w p d name rT rv N;exact x6z rT rv (fun y f _ _ _ _ _ _ b c m=>a y (by omega) b c m) N
theorem x1i {pt:Addr} {T:Table} {d0:List Value} {v:Named} {d1:List Value} {p:Param} {b:Nat} (g:RNamed V d0 v) (f:RParam V d1 p) (rT:RTable V pt T) (N:Mem V (.blk b (ob [.pointer (some pt)] 89)::K) w) :
  Calls prog 101 #[.agg d0.toArray,.agg d1.toArray,.pointer (some ⟨b,0,none⟩)] w (fun ee w'=>ee=.returned (.bool ((decide (v.name=p.name) && !vX v.value&&mR T v.value p.type)))/\Mem V (.blk b (ob [.pointer (some pt)] 89)::K) w'):=by
 obtain ⟨n,rfl,e⟩:=id g
 obtain ⟨r,o,rfl,k,q,l,m⟩:=RVal.fm e
 obtain rfl:=id f
 refine zK func101 ntmps101 fun Q hQ a J=>?_
 refine Bx fun h w N a J=>?_
 refine Bx fun i w N a J=>?_
 by_cases j:v.name=p.name
 refine zZ call50 (fun d w N a J=>?_) (fun d w N a J=>?_) (c:=z6w e N)
 refine zF ?_
 replace N:=N.dl [1,0]
 exact zM N (by simp [*])
 refine zO call61 (fun w N a J=>?_) (c:=has_ok rT e N)
 refine zF ?_
 replace N:=N.dl [1,0]
 exact zM N (by simp [*])
 refine zF ?_
 replace N:=N.dl [1,0]
 exact zM N (by simp [*])
theorem x6w {k:Addr} {T:Table} {H:Value} {l:List Named} (f:RTable V k T) (g:SliceOf RNamed V 4 H l) (N:Mem V K w) :
  Calls prog 44 #[.pointer (some k),H] w (fun ee w'=>ee=.returned (.bool (kL T l T.core.inputs))/\Mem V K w'):=by
 obtain ⟨m,m1,m2,m3,m4,d5,d6,d7,d8,i,j,b,Y,D,A,E,B,F,C,G⟩:=f.ex
 obtain ⟨Z,c24,a0,I,b0,L,c0,c42,rfl,M,h,P,R,n,s,o,t,q,u,r,z⟩:=RCore.fm b
 obtain ⟨p1,c1,rfl,W,X⟩:=g.fm
 refine zK func44 ntmps44 fun Q hQ a J=>?_
 refine Bx fun e w N a J=>?_
 refine zO call100 (fun w N a J=>?_) (c:=q5g (V:=V) (K:=.blk e (ob [.pointer (some k)] 89)::K) (p:=fun v p=>decide (v.name=p.name) && !vX v.value&&mR T v.value p.type) (fs:=[]) (cs:=[.pointer (some ⟨e,0,none⟩)]) g h call101 (fun x c y d w hx hy S U N=>x1i S U f N) N)
 refine zF ?_
 replace N:=N.dl [0]
 exact zM N (by rw [q1g])
end
theorem y1d {V:Fz} {K:List Res} {w:World} {b:Bool}  (N:Mem V K w) :
  Calls prog 196 #[.bool b] w (fun ee w'=>∃yy:Fz×List Value,ee=.returned (.agg yy.2.toArray)/\(V.Le yy.1/\RVal yy.1 yy.2 (pY b))/\Mem yy.1 K w'):=by
 refine zK func196 ntmps196 fun Q hQ a J=>?_
 refine Alc fun d w N a J=>?_
 refine go fun a J=>?_
 cases b
 refine zX fun a J=>?_
 refine Sto 0 fun w N a J=>?_
 refine go fun a J=>?_
 have c:=N
 replace N:=N.dl [0]
 refine qG (N:=c) ?_
 exact ⟨(V,_),rfl,⟨Fz.Le.refl _,by
  rw [show pY false=Val.mk (⟨#[70,97,108,115,101]⟩:Bs) (0) [] by rfl]
  exact RVal.iff.2 ⟨_,rfl,(show I64 0 by unfold I64;omega),SliceOf.nil 3⟩⟩,N⟩
 refine zX fun a J=>?_
 refine Sto 0 fun w N a J=>?_
 refine go fun a J=>?_
 have c:=N
 replace N:=N.dl [0]
 refine qG (N:=c) ?_
 exact ⟨(V,_),rfl,⟨Fz.Le.refl _,by
  rw [show pY true=Val.mk (⟨#[84,114,117,101]⟩:Bs) (0) [] by rfl]
  exact RVal.iff.2 ⟨_,rfl,(show I64 0 by unfold I64;omega),SliceOf.nil 3⟩⟩,N⟩
theorem vN {a b:Int} (h:I64 a):I64 (a.tmod b):=by
 unfold I64 at *
 have h1:=Int.natAbs_tmod a b
 have d:a.natAbs % b.natAbs<=a.natAbs:=Nat.mod_le _ _
 by_cases c:0<=a
 have:=Int.tmod_nonneg b c;omega
 have:a.tmod b<=0:=by
  have:=Int.tmod_nonneg b (show 0<=-a by omega)
  rw [Int.neg_tmod] at this;omega
 omega
theorem j4z {V:Fz} {K:List Res} {w:World} {op:Bs} {x y:Int} (h:I64 x) (hb:I64 y) (N:Mem V K w) :
  Calls prog 159 #[.string op,.int .i64 x,.int .i64 y] w (fun ee w'=>∃yy:Fz×List Value,ee=.returned (.agg yy.2.toArray)/\(V.Le yy.1/\RVal yy.1 yy.2 (yJ op x y))/\Mem yy.1 K w'):=by
 refine zK func159 ntmps159 fun Q hQ a J=>?_
 refine Alc fun P w N a J=>?_
 by_cases R:op=(⟨#[43]⟩:Bs)
 refine Qq (fun a J=>?_) (o:=by exact fun J O=>z1m _ J rfl rfl rfl)
 refine zX fun a J=>?_
 refine Sto 0 fun w N a J=>?_
 refine go fun a J=>?_
 have c:=N
 replace N:=N.dl [0]
 refine qG (N:=c) ?_
 exact ⟨(V,_),rfl,⟨Fz.Le.refl _,by
  rw [show yJ op x y=Val.mk (⟨#[]⟩:Bs) (IntKind.i64.wrap (x+y)) [] by simp [yJ,gQ,v0,pY,sNo, *]]
  exact RVal.iff.2 ⟨_,rfl,(by first | exact I64.of_wrap _ | exact vN h | exact (show I64 0 from ⟨by decide,by decide⟩)),SliceOf.nil 3⟩⟩,N⟩
 by_cases C:op=(⟨#[45]⟩:Bs)
 refine Qq (fun a J=>?_) (o:=by exact fun J O=>xX _ J rfl rfl rfl)
 refine zX fun a J=>?_
 refine Sto 0 fun w N a J=>?_
 refine go fun a J=>?_
 have c:=N
 replace N:=N.dl [0]
 refine qG (N:=c) ?_
 exact ⟨(V,_),rfl,⟨Fz.Le.refl _,by
  rw [show yJ op x y=Val.mk (⟨#[]⟩:Bs) (IntKind.i64.wrap (x - y)) [] by simp [yJ,gQ,v0,pY,sNo, *]]
  exact RVal.iff.2 ⟨_,rfl,(by first | exact I64.of_wrap _ | exact vN h | exact (show I64 0 from ⟨by decide,by decide⟩)),SliceOf.nil 3⟩⟩,N⟩
 by_cases D:op=(⟨#[42]⟩:Bs)
 refine Qq (fun a J=>?_) (o:=by exact fun J O=>j9u _ J rfl rfl rfl)
 refine zX fun a J=>?_
 refine Sto 0 fun w N a J=>?_
 refine go fun a J=>?_
 have c:=N
 replace N:=N.dl [0]
 refine qG (N:=c) ?_
 exact ⟨(V,_),rfl,⟨Fz.Le.refl _,by
  rw [show yJ op x y=Val.mk (⟨#[]⟩:Bs) (IntKind.i64.wrap (x * y)) [] by simp [yJ,gQ,v0,pY,sNo, *]]
  exact RVal.iff.2 ⟨_,rfl,(by first | exact I64.of_wrap _ | exact vN h | exact (show I64 0 from ⟨by decide,by decide⟩)),SliceOf.nil 3⟩⟩,N⟩
 refine go fun a J=>?_
 by_cases E:op=(⟨#[60]⟩:Bs)
 refine Qq (fun a J=>?_) (o:=by exact fun J O=>y_lssD J rfl rfl)
 refine st J rfl rfl rfl (sF J rfl rfl call196 (y1d (b:=(decide (x < y))) N) (fun n w j N a J=>?_))
 obtain ⟨l,A⟩:=n
 obtain ⟨f,d⟩:=j
 simp only at f d N J
 replace N:=N.nf
 obtain ⟨L,c27,rfl,q,F,s,u⟩:=RVal.fm d
 refine Sto 0 fun w N a J=>?_
 refine go fun a J=>?_
 have c:=N
 replace N:=N.dl [0]
 refine qG (N:=c) ?_
 exact ⟨(l,_),rfl,⟨f,by
  rw [show yJ op x y=(pY (decide (x < y))) by simp [yJ, *]]
  exact d⟩,N⟩
 by_cases G:op=(⟨#[61]⟩:Bs)
 refine Qq (fun a J=>?_) (o:=by exact fun J O=>dA J rfl rfl)
 refine st J rfl rfl rfl (sF J rfl rfl call196 (y1d (b:=(decide (x=y))) N) (fun p w k N a J=>?_))
 obtain ⟨m,B⟩:=p
 obtain ⟨g,e⟩:=k
 simp only at g e N J
 replace N:=N.nf
 obtain ⟨M,z,rfl,r,H,t,v⟩:=RVal.fm e
 refine Sto 0 fun w N a J=>?_
 refine go fun a J=>?_
 have c:=N
 replace N:=N.dl [0]
 refine qG (N:=c) ?_
 exact ⟨(m,_),rfl,⟨g,by
  rw [show yJ op x y=(pY (decide (x=y))) by simp [yJ, *]]
  exact e⟩,N⟩
 by_cases i:y=0
 refine zX fun a J=>?_
 refine Sto 0 fun w N a J=>?_
 refine go fun a J=>?_
 have c:=N
 replace N:=N.dl [0]
 refine qG (N:=c) ?_
 exact ⟨(V,_),rfl,⟨Fz.Le.refl _,by
  rw [show yJ op x y=Val.mk (⟨#[]⟩:Bs) (0) [] by simp [yJ,gQ,v0,pY,sNo, *]]
  exact RVal.iff.2 ⟨_,rfl,(by first | exact I64.of_wrap _ | exact vN h | exact (show I64 0 from ⟨by decide,by decide⟩)),SliceOf.nil 3⟩⟩,N⟩
 by_cases I:op=(⟨#[47]⟩:Bs)
 refine Qq (fun a J=>?_) (o:=by exact fun J O=>y_quo _ J rfl rfl i rfl)
 refine zX fun a J=>?_
 refine Sto 0 fun w N a J=>?_
 refine go fun a J=>?_
 have c:=N
 replace N:=N.dl [0]
 refine qG (N:=c) ?_
 exact ⟨(V,_),rfl,⟨Fz.Le.refl _,by
  rw [show yJ op x y=Val.mk (⟨#[]⟩:Bs) (IntKind.i64.wrap (x.tdiv y)) [] by simp [yJ,gQ,v0,pY,sNo, *]]
  exact RVal.iff.2 ⟨_,rfl,(by first | exact I64.of_wrap _ | exact vN h | exact (show I64 0 from ⟨by decide,by decide⟩)),SliceOf.nil 3⟩⟩,N⟩
 refine Qq (fun a J=>?_) (o:=by exact fun J O=>y_rem _ J rfl rfl i rfl)
 refine zX fun a J=>?_
 refine Sto 0 fun w N a J=>?_
 refine go fun a J=>?_
 have c:=N
 replace N:=N.dl [0]
 refine qG (N:=c) ?_
 exact ⟨(V,_),rfl,⟨Fz.Le.refl _,by
  rw [show yJ op x y=Val.mk (⟨#[]⟩:Bs) (x.tmod y) [] by simp [yJ,gQ,v0,pY,sNo, *]]
  exact RVal.iff.2 ⟨_,rfl,(by first | exact I64.of_wrap _ | exact vN h | exact (show I64 0 from ⟨by decide,by decide⟩)),SliceOf.nil 3⟩⟩,N⟩
section
variable {V:Fz} {K:List Res} {w:World}
theorem y7d {v:Value} {l:List Int} (n:l.length<=1000000) (N:Mem V (.gs v 3 1 (z4k l)::K) w) :
  Calls prog 47 #[v] w (fun ee w'=>ee=.returned (.int .i64 (gY l))/\Mem V (.gs v 3 1 (z4k l)::K) w'):=by
 obtain ⟨u,e,c0,rfl,g,r⟩:=N.toSees.gsForm (i:=0) rfl
 have s:l.length=e:=by simpa [y0u] using g
 refine zK func47 ntmps47 fun Q hQ a J=>?_
 refine go fun a J=>?_
 refine zU (J.ks [6,7]) N (fun R mm a w=>∃(i:Nat) (q:Int),mm=e - i/\R V [(3,.int .i64 (q)),(8,.int .i64 ((i:Nat):Int))] [] a w/\(gY (l.take i)=q)) (e - 0) ⟨0,0,rfl,⟨J.pk,N⟩,rfl⟩ ?_
 clear N J
 rintro mm a w ⟨i,q,h,⟨J,N⟩,d⟩ t f
 by_cases m:i < e
 refine go fun a J=>?_
 obtain ⟨j,b⟩:=N.toSees.gsSome (i:=0) rfl m
 obtain ⟨k,c⟩:=qR (l:=l) (i:=i) (by omega)
 refine Qq (fun a J=>?_) (o:=by exact fun J O=>tK (p:=j) i J (by rw [<- b];rfl) rfl runUnderlying93 sizeOf3 m)
 refine Qq (fun a J=>?_) (o:=by exact fun J O=>q3h 0 i J O rfl (by rw [<- b];rfl) (x7h c) isAgg3)
 refine Qq (fun a J=>?_) (o:=by exact fun J O=>z1m _ J rfl rfl rfl)
 refine go fun a J=>?_
 refine f _ _ _ (by subst h;omega) ⟨(i+1),(IntKind.i64.wrap (q+k)),rfl,⟨J.pk,by exact N⟩,?_⟩
 rw [jY c,yX,d]
 refine zF ?_
 exact vP N (by rw [<- d,y6y (by omega)])
theorem x8b {d:List Value} {v:Val} (ih:∀x:Val,x.sz < v.sz->y0d x->∀{V:Fz} {K:List Res} {w:World} {d:List Value},RVal V d x->Mem V K w ->
   Calls prog 51 #[.agg d.toArray] w (fun ee w'=>∃yy:Fz×List Value,ee=.returned (.agg yy.2.toArray)/\(V.Le yy.1/\RVal yy.1 yy.2 x)/\Mem yy.1 K w')) (O:y0d v) (rv:RVal V d v) (N:Mem V K w) :
  Calls prog 51 #[.agg d.toArray] w (fun ee w'=>∃yy:Fz×List Value,ee=.returned (.agg yy.2.toArray)/\(V.Le yy.1/\RVal yy.1 yy.2 v)/\Mem yy.1 K w'):=by
 obtain ⟨p3,c4,rfl,m0,E,n0,H⟩:=RVal.fm rv
 refine zK func51 ntmps51 fun Q hQ a J=>?_
 refine Bx fun b9 w N a J=>?_
 refine Alc fun d0 w N a J=>?_
 refine zX fun a J=>?_
 refine Alc fun C w N a J=>?_
 refine Sto 0 fun w N a J=>?_
 refine go fun a J=>?_
 replace N:=N.nilRow 42 3
 replace N:=N.nf
 refine go fun a J=>?_
 refine zU (J.ks [2,3,12,13]) N (fun R mm a w=>∃(g:Fz) (i:Nat) (u:Value) (cs:List Value),mm=v.args.length - i/\R g [(14,.int .i64 ((i:Nat):Int))] [(0,.gs (u) 42 3 cs),(1,.blk C (ob [.string v.con,.int .i64 (v.num),u] 42))] a w/\(V.Le g/\(Chunks (RVal g) 3 cs (v.args.take i)))) (v.args.length - 0) ⟨V,0,.slice none 0 0,[],rfl,⟨J.pk,N⟩,⟨Fz.Le.refl _,rfl⟩⟩ ?_
 clear N J
 rintro mm a w ⟨g,i,u,cs,G,⟨J,N⟩,j⟩ c0 A
 replace N:=N.nf
 obtain ⟨f,j⟩:=j
 replace E:=E.up f
 replace rv:=rv.up f
 have hch:=j
 by_cases y:i < v.args.length
 refine go fun a J=>?_
 obtain ⟨r0,rfl,t,m,P,U,p,e⟩:=E.el H y
 obtain ⟨p0,f0,rfl,S,j0,W,Z⟩:=RVal.fm e
 refine Alc fun e0 w N a J=>?_
 refine Sto 0 fun w N a J=>?_
 refine Reg [1,2,2,0,0,0,1,0] [0,2,3,4] fun w N a J=>?_
 refine yP call51 (fun M w z N a J=>?_) (c:=ih _ (Val.lt_args (mgQ m)) ((y6s O).2 _ (mgQ m)) e N)
 obtain ⟨B,h0⟩:=M
 obtain ⟨b,k⟩:=z
 simp only at b k N J
 replace rv:=rv.up b
 replace hch:=hch.mono fun _ _ h=>h.up b
 replace p:=p.mono b
 replace e:=e.up b
 replace N:=N.nf
 obtain ⟨L,D,rfl,T,l0,X,a0⟩:=RVal.fm k
 refine qF fun s0 w N a J=>?_
 refine qQ 2 pE (fun v53 w N a J=>?_) (hb:=by have h_:=hch.length;have i0:=(y6s O).1;have k0:(v.args.take i).length<=v.args.length:=(by rw [List.length_take];omega);rw [h_];simp only [lcQ,lnQ];omega)
 refine Sto 3 fun w N a J=>?_
 refine go fun a J=>?_
 replace N:=N.dl [1,0]
 refine A _ _ _ (by subst G;omega) ⟨(B),(i+1),(v53),((cs++[.string t.con,.int .i64 (t.num),.slice L t.args.length D])),rfl,⟨J.pk,by exact N⟩,?_⟩
 refine ⟨(f).trans b,?_⟩
 rw [jY m];exact hch.snoc rfl k
 refine go fun a J=>?_
 rw [y6y y] at hch
 have q:=N
 clear N
 obtain ⟨s,n,N,o⟩:=q.freezeRow (i:=0) rfl
 clear q
 replace rv:=rv.up n
 replace hch:=hch.mono fun _ _ h=>h.up n
 replace N:=N.nf
 have l:SliceOf RVal s 3 _ (v.args):=⟨_,o,hch⟩
 obtain ⟨q0,g0,I,Y,b0⟩:=l.form (by decide)
 have r:=N
 clear N
 subst I
 have N:=r
 clear r
 refine Sto 1 fun w N a J=>?_
 refine go fun a J=>?_
 have F:=N
 replace N:=N.dl [2,1,0]
 refine qG (N:=F) ?_
 exact ⟨(s,_),rfl,⟨(f).trans n,by obtain ⟨_,_,h_,_⟩:=RVal.iff.1 rv;exact RVal.iff.2 ⟨_,rfl,h_,l⟩⟩,N⟩
theorem own_ok {d:List Value} {v:Val} (O:y0d v) (rv:RVal V d v) (N:Mem V K w) :
  Calls prog 51 #[.agg d.toArray] w (fun ee w'=>∃yy:Fz×List Value,ee=.returned (.agg yy.2.toArray)/\(V.Le yy.1/\RVal yy.1 yy.2 v)/\Mem yy.1 K w'):=by
 suffices H:∀n (x:Val),x.sz < n->y0d x->∀{V:Fz} {K:List Res} {w:World} {d:List Value},RVal V d x->Mem V K w ->
   Calls prog 51 #[.agg d.toArray] w (fun ee w'=>∃yy:Fz×List Value,ee=.returned (.agg yy.2.toArray)/\(V.Le yy.1/\RVal yy.1 yy.2 x)/\Mem yy.1 K w') from H _ v (Nat.lt_succ_self _) O rv N
 intro n
 induction n with
 | zero=>intro e h;omega
 | succ n a=>intro x h O V K w d rv N;exact x8b (fun y b h1 _ _ _ _ r m=>a y (by omega) h1 r m) O rv N
end
theorem z8s {T:Table} {inp:List (Bs×Val)} {g:Nat} (ih:∀g1,g1<=g->sB prog T inp g1):x4b prog T inp g:=by
 intro V K w p l env ov s mg bs fuel G rG rl rv a0 D0 hg B0 Z N
 obtain ⟨p1,c1,rfl,E0,Y⟩:=rl.fm
 refine zK func158 ntmps158 fun Q hQ a J=>?_
 refine Bx fun b2 w N a J=>?_
 refine go fun a J=>?_
 replace N:=N.nilRow 42 3
 replace N:=N.nf
 refine go fun a J=>?_
 refine zU (J.ks [2,3,10,11]) N (fun R mm a w=>∃(z:Fz) (i:Nat) (u:Value) (cs:List Value) (xs:List Val) (g1:Nat),mm=l.length - i/\R z [(7,u),(12,.int .i64 ((i:Nat):Int))] [(0,.gs (u) 42 3 cs),(2,.blk bs (ob [.int .i64 ((fuel - g1:Nat):Int)] 3))] a w/\(V.Le z/\(Chunks (RVal z) 3 cs xs/\xs.length=i/\g1<=g/\jZ (yM ⟨T.funs,inp⟩) env l g=(jZ (yM ⟨T.funs,inp⟩) env (l.drop i) g1).bind fun vs g2=>.ok (xs++vs) g2))) (l.length - 0) ⟨V,0,.slice none 0 0,[],[],g,rfl,⟨J.pk,N⟩,⟨Fz.Le.refl _,⟨rfl,rfl,Nat.le_refl _,y2h _⟩⟩⟩ ?_
 clear N J
 rintro mm a w ⟨z,i,u,cs,xs,g1,X,⟨J,N⟩,E⟩ L8 U
 replace N:=N.nf
 obtain ⟨e,E⟩:=E
 replace G:=G.mono e
 replace rG:=RGiven.mono e rG
 replace rl:=rl.up e
 replace rv:=REnv.mono e rv
 obtain ⟨hch,c0,C0,t⟩:=E
 by_cases H:i < l.length
 refine go fun a J=>?_
 obtain ⟨J0,rfl,f0,j,h0,k0,A,f⟩:=rl.el Y H
 obtain ⟨G0,c25,H0,u0,rfl,i0,y0,z0,l0,p0,m0,q0⟩:=REx.fm f
 refine Alc fun t0 w N a J=>?_
 refine Sto 0 fun w N a J=>?_
 refine go fun a J=>?_
 have b:=Z
 rw [t,zA j] at b
 replace b:=qJ (r:=yM ⟨T.funs,inp⟩ g1 f0 env) (qJ b)
 replace N:=N.pl 3
 refine vS call103 (fun L g0 w m I N a J=>?_) (fun L w m N=>?_) (c:=ih g1 (by omega) G rG f rv (a0 _ (mgQ j)) (by omega) (by omega) b N)
 obtain ⟨y,S⟩:=L
 obtain ⟨M,w0⟩:=g0
 obtain ⟨d,n⟩:=I
 have q:=jL m
 simp only at d n N J q
 have W:=yF _ _ _ _ _ _ q
 replace rG:=RGiven.mono d rG
 replace rv:=REnv.mono d rv
 replace hch:=hch.mono fun _ _ h=>h.up d
 replace A:=A.mono d
 replace f:=f.up d
 replace N:=N.nf
 obtain ⟨d0,P,rfl,j0,A0,n0,r0⟩:=RVal.fm n
 refine qF fun K0 w N a J=>?_
 refine qQ 3 pE (fun e0 w N a J=>?_)
 refine go fun a J=>?_
 replace N:=N.ar [2,0] [2,2]
 refine U _ _ _ (by subst X;omega) ⟨(M),(i+1),(e0),((cs++[.string y.con,.int .i64 (y.num),.slice d0 y.args.length P])),(xs++[y]),(S),rfl,⟨J.pk,by exact N⟩,?_⟩
 refine ⟨(e).trans d,?_⟩
 refine ⟨hch.snoc rfl n,by simp [c0],by omega,?_⟩
 rw [t,zA j]
 exact z6i q
 have F:=qW m b
 replace N:=N.dl [3,2,1]
 exact xY (by rw [t,zA j];exact z0b F) ⟨rfl,N.le (e)⟩
 refine go fun a J=>?_
 have B:=N
 clear N
 obtain ⟨D,k,N,v⟩:=B.freezeRow (i:=0) rfl
 clear B
 replace rG:=RGiven.mono k rG
 replace rv:=REnv.mono k rv
 replace hch:=hch.mono fun _ _ h=>h.up k
 replace N:=N.nf
 have o:SliceOf RVal D 3 _ (xs):=⟨_,v,hch⟩
 obtain ⟨I0,c66,b0,o0,s0⟩:=o.form (by decide)
 have C:=N
 clear N
 subst b0
 have N:=C
 clear C
 refine zF ?_
 replace N:=N.dl [0]
 exact mL (by rw [t,zB H];exact y0q) ⟨(D,_),rfl,⟨(e).trans k,o⟩,N⟩
theorem y3d {T:Table} {inp:List (Bs×Val)} {g:Nat} (ih:sB prog T inp g):q7i prog T inp g:=by
 intro V K w p d f l s mg bs fuel v rG rf rs V0 l0 hg S0 W N
 obtain ⟨s1,b7,rfl,h2,A⟩:=id rf
 obtain ⟨p3,c4,rfl,U0,k0⟩:=h2.fm
 obtain ⟨X0,J0,Y0,K0,rfl,q0,O0,P0,w0,A0,x0,B0⟩:=REx.fm A
 obtain ⟨p2,c2,rfl,T0,j0⟩:=rs.fm
 obtain ⟨M,e0⟩:=y3e W
 refine zK func48 ntmps48 fun Q hQ a J=>?_
 refine Bx fun F0 w N a J=>?_
 refine Bx fun G0 w N a J=>?_
 refine Alc fun H0 w N a J=>?_
 refine go fun a J=>?_
 refine zU (J.ks [2,3,4,6,11,12]) N (fun R mm a w=>∃(m:Fz) (i:Nat) (en:Env) (nv:Option Addr),mm=f.params.length - i/\R m [(7,.pointer nv),(13,.int .i64 ((i:Nat):Int))] [] a w/\(V.Le m/\(REnv m en nv/\mU (f.params.map Param.name) l []=mU ((f.params.map Param.name).drop i) (l.drop i) en))) (f.params.length - 0) ⟨V,0,[],none,rfl,⟨J.pk,N⟩,⟨Fz.Le.refl _,⟨rfl,rfl⟩⟩⟩ ?_
 clear N J
 rintro mm a w ⟨m,i,en,nv,i0,⟨J,N⟩,n⟩ E0 S
 obtain ⟨e,n⟩:=n
 replace v:=v.mono e
 replace rG:=RGiven.mono e rG
 replace h2:=h2.up e
 replace A:=A.up e
 replace rf:=rf.up e
 replace rs:=rs.up e
 obtain ⟨rn,G⟩:=n
 by_cases F:i < f.params.length
 have U:i < l.length:=tY (env:=en) (env':=M) (by rw [<- G];exact e0) (by simpa using F)
 refine go fun a J=>?_
 obtain ⟨a1,rfl,a0,X,o0,t0,B,q⟩:=h2.el k0 F
 obtain rfl:=id q
 refine Alc fun I0 w N a J=>?_
 refine Sto 0 fun w N a J=>?_
 refine Reg [1,2,1,1,1,2,1,1,0,1] [0,1,2,3,4] fun w N a J=>?_
 refine go fun a J=>?_
 obtain ⟨b1,rfl,y,Y,p0,u0,C,k⟩:=rs.el j0 U
 obtain ⟨m0,d0,rfl,r0,Q0,y0,C0⟩:=RVal.fm k
 refine dG fun a J=>?_
 refine Bx fun L w N a J=>?_
 have D:=N
 clear N
 obtain ⟨E,b,N,H⟩:=D.freezeBlk (i:=0) rfl
 clear D
 replace v:=v.mono b
 replace rG:=RGiven.mono b rG
 replace A:=A.up b
 replace rf:=rf.up b
 replace rn:=REnv.mono b rn
 replace B:=B.mono b
 replace q:=RParam.mono _ _ _ _ b q
 replace C:=C.mono b
 replace k:=k.up b
 replace N:=N.nf
 have z:REnv E ((a0.name,y)::en) (some ⟨L,0,none⟩):=⟨_,[.string y.con,.int .i64 (y.num),.slice m0 y.args.length d0],_,rfl,H,rfl,k,rn⟩
 refine go fun a J=>?_
 replace N:=N.dl [0]
 refine S _ _ _ (by subst i0;omega) ⟨(E),(i+1),((a0.name,y)::en),((some ⟨L,0,none⟩)),rfl,⟨J.pk,by exact N⟩,?_⟩
 refine ⟨(e).trans b,?_⟩
 refine ⟨z,?_⟩
 rw [G,zA (show (f.params.map Param.name)[i]? = some _ by rw [List.getElem?_map,X];rfl),zA Y];rfl
 refine go fun a J=>?_
 have t:xC (yM ⟨T.funs,inp⟩) f l g=yM ⟨T.funs,inp⟩ g f.body en:=by
  have f0:¬i < (f.params.map Param.name).length:=by simpa using F
  unfold xC nX
  rw [G,zB f0];rfl
 have j:=W
 rw [t] at j
 replace N:=N.pl 3
 refine vS call103 (fun Z n0 w o P N a J=>?_) (fun Z w o N=>?_) (c:=ih v rG A rn l0 (by omega) (by omega) j N)
 obtain ⟨c1,N0⟩:=Z
 obtain ⟨b0,M0⟩:=n0
 obtain ⟨h,r⟩:=P
 have u:=jL o
 simp only at h r N J u
 have g0:=yF _ _ _ _ _ _ u
 replace rG:=RGiven.mono h rG
 replace A:=A.up h
 replace rf:=rf.up h
 replace rn:=REnv.mono h rn
 replace N:=N.nf
 obtain ⟨Z0,L0,rfl,s0,R0,z0,D0⟩:=RVal.fm r
 refine Sto 1 fun w N a J=>?_
 refine go fun a J=>?_
 have h0:=N
 replace N:=N.dl [3,2,1]
 refine qG (N:=h0) ?_
 exact mL (by rw [t];exact u) ⟨(b0,_),rfl,⟨(e).trans h,r⟩,N⟩
 have I:=qW o j
 replace N:=N.dl [3,2,1]
 exact xY (by rw [t];exact I) ⟨rfl,N.le (e)⟩
theorem x1d {T:Table} {inp:List (Bs×Val)}:sB prog T inp 0:=by
 intro V K w p d e env ov mg bs fuel g rG re rv f0 hg c0 e0 N
 obtain ⟨i,m1,m2,m3,m4,d5,d6,d7,d8,c,f,b,g0,D,A,E,B,F,C,G⟩:=g.ex
 obtain ⟨h0,c24,i0,M,j0,P,k0,c42,rfl,U,W,X,Y,k,s,l,t,m,u,n,v⟩:=RCore.fm b
 obtain ⟨l0,R,m0,S,rfl,j,Z,a0,q,y,r,z⟩:=REx.fm re
 refine zK func103 ntmps103 fun Q hQ a J=>?_
 refine Bx fun H w N a J=>?_
 refine Bx fun I w N a J=>?_
 refine Alc fun L w N a J=>?_
 refine Sto 3 fun w N a J=>?_
 refine Reg [1,2,1,2,1,2,1] [0,1,2,3] fun w N a J=>?_
 have d0:fuel < fuel+1:=by omega
 refine zX fun a J=>?_
 refine Qq (fun a J=>?_) (o:=by exact fun J O=>qU J rfl runUnderlying177 (by intro ms h;cases h))
 refine st0 J rfl rfl (kE J rfl (kH _) (fun a hd=>hQ _ _ _ (qB hd ?_)))
 replace N:=N.dl [2,1,0]
 exact xY (dP _ _ _) ⟨rfl,N⟩
theorem x1c {T:Table} {inp:List (Bs×Val)} {g:Nat} (hF:z1q T) (ih:∀g1,g1<=g->sB prog T inp g1):sB prog T inp (g+1):=by
 intro V K w p d e env ov mg bs fuel f rG re rv h0 hg hfu x0 N
 rw [zT] at x0
 obtain ⟨H8,m1,m2,m3,m4,d5,d6,d7,d8,b,T5,A2,ma9,X9,V9,Y9,G2,j2,W9,Z9⟩:=f.ex
 obtain ⟨p23,c24,p29,c30,p35,c36,p41,c42,rfl,h22,h28,h34,h40,J9,Q9,K9,R9,L9,S9,M9,T9⟩:=RCore.fm A2
 obtain ⟨p47,c48,p53,c54,rfl,G9,h,A,N9,l3,O9,n3⟩:=REx.fm re
 refine zK func103 ntmps103 fun Q hQ a J=>?_
 refine Bx fun b59 w N a J=>?_
 refine Bx fun b60 w N a J=>?_
 refine Alc fun b61 w N a J=>?_
 refine Sto 3 fun w N a J=>?_
 rw [show fuel - (g+1)+1=fuel - g by omega] at N
 refine Reg [1,2,1,2,1,2,1] [0,1,2,3] fun w N a J=>?_
 have hk_:¬fuel < fuel - g:=by omega
 by_cases K4:e.kind=1
 refine zX fun a J=>?_
 refine Sto 0 fun w N a J=>?_
 refine go fun a J=>?_
 have D:=N
 replace N:=N.dl [2,1,0]
 refine qG (N:=D) ?_
 exact mL ((zT _ _ _ _).trans (j1t K4)) ⟨(V,_),rfl,⟨Fz.Le.refl _,RVal.iff.2 ⟨_,rfl,(by obtain ⟨_,_,_,h_,_⟩:=REx.iff.1 re;exact h_),SliceOf.nil 3⟩⟩,N⟩
 by_cases F3:e.kind=2
 refine go fun a J=>?_
 refine zU (J.ks [4,6]) N (fun R mm a w=>∃(en:Env) (nv:Option Addr),mm=en.length/\R V [(2,.pointer nv)] [] a w/\(REnv V en nv/\zJ env e.name=zJ en e.name)) (env.length) ⟨env,ov,rfl,⟨J.pk,N⟩,⟨rv,rfl⟩⟩ ?_
 clear N J
 rintro mm a w ⟨en,nv,S0,⟨J,N⟩,N4⟩ L72 O4
 obtain ⟨rn,F0⟩:=N4
 refine go fun a J=>?_
 obtain _ | ⟨⟨M7,j4⟩,g3⟩:=en
 obtain rfl:=rn
 refine Qq (fun a J=>?_) (o:=by exact fun J O=>j4v rfl J rfl rfl (fun _=>by kernel_rfl))
 refine zX fun a J=>?_
 refine Sto 0 fun w N a J=>?_
 refine go fun a J=>?_
 have D:=N
 replace N:=N.dl [2,1,0]
 refine qG (N:=D) ?_
 exact mL (((zT _ _ _ _).trans (y6w F3)).trans (show Ev.ok ((zJ env e.name).getD v0) g=.ok v0 g by rw [F0];rfl)) ⟨(V,_),rfl,⟨Fz.Le.refl _,RVal.iff.2 ⟨_,rfl,(show I64 0 from ⟨by decide,by decide⟩),SliceOf.nil 3⟩⟩,N⟩
 obtain ⟨p79,c80,Q4,rfl,P4,I9,p3,d4⟩:=rn
 obtain ⟨N7,G5,rfl,H9,h88,P9,U9⟩:=RVal.fm p3
 refine Qq (fun a J=>?_) (o:=by exact fun J O=>j4w rfl J rfl rfl (fun _=>by kernel_rfl))
 refine Reg [1,1,1,2,1,2,1] [0,1,2,3] fun w N a J=>?_
 by_cases L4:M7=e.name
 refine Qq (fun a J=>?_) (o:=by exact fun J O=>jF 1 (vs:=[.string j4.con,.int .i64 (j4.num),.slice N7 j4.args.length G5]) J O rfl P4 isAgg42 sizeOf42 rfl rfl)
 refine Sto 0 fun w N a J=>?_
 refine go fun a J=>?_
 have D:=N
 replace N:=N.dl [2,1,0]
 refine qG (N:=D) ?_
 exact mL (((zT _ _ _ _).trans (y6w F3)).trans (by rw [F0];simp only [zJ,if_pos L4.symm,Option.getD_some])) ⟨(V,_),rfl,⟨Fz.Le.refl _,p3⟩,N⟩
 refine go fun a J=>?_
 refine O4 (g3.length) _ _ (by subst S0;simp only [lcQ];omega) ⟨(g3),(Q4),rfl,⟨J.pk,N⟩,?_⟩
 refine ⟨d4,?_⟩
 rw [F0];simp only [zJ,if_neg (Ne.symm L4)]
 by_cases M4:e.kind=3
 refine go fun a J=>?_
 refine st J rfl rfl rfl (x0z rG runUnderlying94 runUnderlying9 zeroValue42 J N.toSees rfl rfl (fun H5 E2 a J=>?_))
 obtain ⟨p105,h8,rfl,U5,e9,D6,k7⟩:=RVal.fm E2
 refine Sto 0 fun w N a J=>?_
 refine go fun a J=>?_
 have D:=N
 replace N:=N.dl [2,1,0]
 refine qG (N:=D) ?_
 exact mL ((zT _ _ _ _).trans (j1s M4)) ⟨(V,_),rfl,⟨Fz.Le.refl _,E2⟩,N⟩
 refine go fun a J=>?_
 by_cases Y1:e.kind=4
 refine Reg [1,2,2,1,2,1,0,1,0] [0,1,2] fun w N a J=>?_
 refine go fun a J=>?_
 have y0:=x0
 rw [z3d Y1] at y0
 replace N:=N.pl 3
 refine vS call158 (fun q3 a5 w t1 G3 N a J=>?_) (fun q3 w t1 N=>?_) (c:=z8s (fun o2 h_=>ih o2 (by omega)) f rG h rv (yO h0).2.1 (yO h0).1 (by omega) (by omega) (qJ y0) N)
 obtain ⟨z118,W8⟩:=q3
 obtain ⟨k4,I8⟩:=a5
 obtain ⟨M,F1⟩:=G3
 have c1:=jL t1
 simp only at M F1 N J c1
 have o5:=q5d c1
 replace f:=f.mono M
 replace rG:=RGiven.mono M rG
 replace re:=re.up M
 replace rv:=REnv.mono M rv
 replace b:=b.mono M
 replace G2:=G2.mono M
 replace j2:=j2.up M
 replace h:=h.up M
 replace A:=A.up M
 replace N:=N.nf
 obtain ⟨p126,c127,rfl,A5,E5⟩:=F1.fm
 have D5:=uM y0 c1
 refine zX fun a J=>?_
 refine Sto 1 fun w N a J=>?_
 refine go fun a J=>?_
 have D:=N
 replace N:=N.dl [3,2,1]
 refine qG (N:=D) ?_
 exact mL (((zT _ _ _ _).trans (z3d Y1)).trans (jW c1)) ⟨(k4,_),rfl,⟨M,RVal.iff.2 ⟨_,rfl,(show I64 0 from ⟨by decide,by decide⟩),F1⟩⟩,N⟩
 have R2:=qW t1 (qJ y0)
 replace N:=N.dl [3,2,1]
 exact xY (((zT _ _ _ _).trans (z3d Y1)).trans (xR R2)) ⟨rfl,N.le (Fz.Le.refl _)⟩
 by_cases P0:e.kind=5
 refine Reg [2,1,2,1,1,2,1,2,2,2,1,2,1,0,0,0] [0,1,2] fun w N a J=>?_
 refine go fun a J=>?_
 rcases s1:yY (d7) e.name with _ | O7
 exact absurd (z5s P0 (MapRel.none j2 s1)) x0
 obtain ⟨t0,n0,I5,rfl,k0⟩:=j2.get s1
 obtain ⟨s141,X7,rfl,J4,h1⟩:=id k0
 obtain ⟨R4,x4,rfl,E6,l7⟩:=J4.fm
 obtain ⟨S4,y4,T4,z4,rfl,V5,f9,g9,F6,m7,G6,n7⟩:=REx.fm h1
 have P2:=congrArg (zN false (.agg #[.string ⟨#[]⟩,.slice none 0 0,.string ⟨#[]⟩,.int .i64 ((0:Nat):Int),.int .i64 ((0:Nat):Int),.string ⟨#[]⟩,.slice none 0 0,.slice none 0 0])) s1
 refine Qq (fun a J=>?_) (o:=by exact fun J O=>Ok.cast (yB runUnderlying103 runUnderlying9 zeroValue68 J O rfl rfl G2) (show zN false (.agg #[.string ⟨#[]⟩,.slice none 0 0,.string ⟨#[]⟩,.int .i64 ((0:Nat):Int),.int .i64 ((0:Nat):Int),.string ⟨#[]⟩,.slice none 0 0,.slice none 0 0]) (yY (d7) e.name)=.agg #[.string t0.name,.slice R4 t0.params.length x4,.string t0.result,.int .i64 (t0.body.kind),.int .i64 (t0.body.num),.string t0.body.name,.slice S4 t0.body.args.length y4,.slice T4 t0.body.arms.length z4] from P2))
 refine go fun a J=>?_
 have z0:=x0
 rw [cA P0 n0] at z0
 replace N:=N.pl 3
 refine vS call158 (fun r3 b5 w u1 H3 N a J=>?_) (fun r3 w u1 N=>?_) (c:=z8s (fun o2 h_=>ih o2 (by omega)) f rG h rv (yO h0).2.1 (yO h0).1 (by omega) (by omega) (qJ z0) N)
 obtain ⟨z167,E4⟩:=r3
 obtain ⟨P7,J8⟩:=b5
 obtain ⟨F,G1⟩:=H3
 have K0:=jL u1
 simp only at F G1 N J K0
 have p5:=q5d K0
 replace f:=f.mono F
 replace rG:=RGiven.mono F rG
 replace re:=re.up F
 replace rv:=REnv.mono F rv
 replace b:=b.mono F
 replace h:=h.up F
 replace A:=A.up F
 replace k0:=k0.up F
 replace h1:=h1.up F
 replace N:=N.nf
 obtain ⟨p175,i8,rfl,B5,F5⟩:=G1.fm
 have c2:=uM z0 K0
 refine vS call48 (fun s3 c5 w v1 I3 N a J=>?_) (fun s3 w v1 N=>?_) (c:=y3d (ih E4 (by omega)) f rG k0 G1 (hF _ _ n0).1 (hF _ _ n0).2 (by omega) (by omega) c2 N)
 obtain ⟨z184,X8⟩:=s3
 obtain ⟨l4,K8⟩:=c5
 obtain ⟨P,H1⟩:=I3
 have N1:=jL v1
 simp only at P H1 N J N1
 have q5:=nQ N1
 replace f:=f.mono P
 replace rG:=RGiven.mono P rG
 replace re:=re.up P
 replace rv:=REnv.mono P rv
 replace b:=b.mono P
 replace h:=h.up P
 replace A:=A.up P
 replace k0:=k0.up P
 replace h1:=h1.up P
 replace N:=N.nf
 obtain ⟨p194,c195,rfl,W5,h9,H6,o7⟩:=RVal.fm H1
 refine Sto 1 fun w N a J=>?_
 refine go fun a J=>?_
 have D:=N
 replace N:=N.dl [3,2,1]
 refine qG (N:=D) ?_
 exact mL ((((zT _ _ _ _).trans (cA P0 n0)).trans (jW K0)).trans N1) ⟨(l4,_),rfl,⟨(F).trans P,H1⟩,N⟩
 have S2:=qW v1 c2
 replace N:=N.dl [3,2,1]
 exact xY ((((zT _ _ _ _).trans (cA P0 n0)).trans (jW K0)).trans S2) ⟨rfl,N.le (F)⟩
 have T2:=qW u1 (qJ z0)
 replace N:=N.dl [3,2,1]
 exact xY (((zT _ _ _ _).trans (cA P0 n0)).trans (xR T2)) ⟨rfl,N.le (Fz.Le.refl _)⟩
 by_cases a0:e.kind=6
 refine go fun a J=>?_
 refine yE [2,1,2,1,2,1,0,0,0] (.q 0 (.q 1 (.q 2 (.q 3 (.q 4 (.q 5 (.e2 6 7 (.e 7 (.e 8 (.done))) (.e 6 (.e 8 (.done)))))))))) [0,1,2] J N fun w N=>?_
 have o3:=q2r a0 x0
 have i1:0 < e.args.length:=by omega
 have j1:1 < e.args.length:=by omega
 obtain ⟨w4,c0⟩:=qR j1
 refine go fun a J=>?_
 obtain ⟨q204,rfl,x205,S,J5,r6,E,u⟩:=h.el l3 i1
 obtain ⟨p213,j8,p219,k8,rfl,X5,i9,j9,I6,p7,J6,q7⟩:=REx.fm u
 refine go fun a J=>?_
 refine wN ?_ ?_
 have A0:=x0
 rw [vQ a0 S c0] at A0
 replace N:=N.pl 3
 refine vS call103 (fun t3 e5 w w1 J3 N a J=>?_) (fun t3 w w1 N=>?_) (c:=ih g (by omega) f rG u rv ((yO h0).2.1 _ (mgQ S)) (by omega) (by omega) (qJ A0) N)
 obtain ⟨k2,F4⟩:=t3
 obtain ⟨Q7,L8⟩:=e5
 obtain ⟨G,d0⟩:=J3
 have L0:=jL w1
 simp only at G d0 N J L0
 have r5:=yF _ _ _ _ _ _ L0
 replace f:=f.mono G
 replace rG:=RGiven.mono G rG
 replace re:=re.up G
 replace rv:=REnv.mono G rv
 replace b:=b.mono G
 replace h:=h.up G
 replace A:=A.up G
 replace E:=E.mono G
 replace u:=u.up G
 replace N:=N.nf
 obtain ⟨U4,A4,rfl,Y5,k9,K6,r7⟩:=RVal.fm d0
 have d2:=uM A0 L0
 refine Alc fun Y7 w N a J=>?_
 refine Sto 0 fun w N a J=>?_
 refine Reg [2,1,2,1,2,1,2,2,1,1,0,0,0] [0,2,3,4] fun w N a J=>?_
 refine go fun a J=>?_
 obtain ⟨Y4,S1⟩:=qR j1
 obtain ⟨K5,s6,Q0,l0⟩:=h.elem S1
 obtain ⟨p255,l8,p261,m8,rfl,Z5,l9,m9,L6,s7,M6,t7⟩:=REx.fm l0
 refine dG fun a J=>?_
 refine Bx fun u4 w N a J=>?_
 have X:=N
 clear N
 obtain ⟨n4,B,N,L2⟩:=X.freezeBlk (i:=0) rfl
 clear X
 replace f:=f.mono B
 replace rG:=RGiven.mono B rG
 replace re:=re.up B
 replace rv:=REnv.mono B rv
 replace b:=b.mono B
 replace h:=h.up B
 replace A:=A.up B
 replace E:=E.mono B
 replace u:=u.up B
 replace d0:=d0.up B
 replace Q0:=Q0.mono B
 replace l0:=l0.up B
 replace N:=N.nf
 have H0:REnv n4 ((e.name,k2)::env) (some ⟨u4,0,none⟩):=⟨_,[.string k2.con,.int .i64 (k2.num),.slice U4 k2.args.length A4],_,rfl,L2,rfl,d0,rv⟩
 obtain rfl:w4=Y4:=Option.some.inj (c0.symm.trans S1)
 replace N:=N.pl 1
 refine vS call103 (fun u3 f5 w x1 K3 N a J=>?_) (fun u3 w x1 N=>?_) (c:=ih F4 (by omega) f rG l0 H0 ((yO h0).2.1 _ (mgQ S1)) (by omega) (by omega) d2 N)
 obtain ⟨z275,Y8⟩:=u3
 obtain ⟨o4,M8⟩:=f5
 obtain ⟨v,I1⟩:=K3
 have O1:=jL x1
 simp only at v I1 N J O1
 have s5:=yF _ _ _ _ _ _ O1
 replace f:=f.mono v
 replace rG:=RGiven.mono v rG
 replace re:=re.up v
 replace rv:=REnv.mono v rv
 replace b:=b.mono v
 replace h:=h.up v
 replace A:=A.up v
 replace E:=E.mono v
 replace u:=u.up v
 replace d0:=d0.up v
 replace Q0:=Q0.mono v
 replace l0:=l0.up v
 replace H0:=REnv.mono v H0
 replace N:=N.nf
 obtain ⟨p285,n8,rfl,a6,n9,N6,u7⟩:=RVal.fm I1
 refine Sto 2 fun w N a J=>?_
 refine go fun a J=>?_
 have D:=N
 replace N:=N.dl [4,3,2,1]
 refine qG (N:=D) ?_
 exact mL ((((zT _ _ _ _).trans (vQ a0 S c0)).trans (jW L0)).trans O1) ⟨(o4,_),rfl,⟨((G).trans B).trans v,I1⟩,N⟩
 have U2:=qW x1 d2
 replace N:=N.dl [4,3,2,1]
 exact xY ((((zT _ _ _ _).trans (vQ a0 S c0)).trans (jW L0)).trans U2) ⟨rfl,N.le ((G).trans B)⟩
 have V2:=qW w1 (qJ A0)
 replace N:=N.dl [3,2,1]
 exact xY (((zT _ _ _ _).trans (vQ a0 S c0)).trans (xR V2)) ⟨rfl,N.le (Fz.Le.refl _)⟩
 refine Alc fun Z7 w N a J=>?_
 have B0:=x0
 rw [vQ a0 S c0] at B0
 replace N:=N.pl 4
 refine vS call103 (fun v3 g5 w y1 L3 N a J=>?_) (fun v3 w y1 N=>?_) (c:=ih g (by omega) f rG u rv ((yO h0).2.1 _ (mgQ S)) (by omega) (by omega) (qJ B0) N)
 obtain ⟨l2,G4⟩:=v3
 obtain ⟨R7,N8⟩:=g5
 obtain ⟨H,e0⟩:=L3
 have M0:=jL y1
 simp only at H e0 N J M0
 have t5:=yF _ _ _ _ _ _ M0
 replace f:=f.mono H
 replace rG:=RGiven.mono H rG
 replace re:=re.up H
 replace rv:=REnv.mono H rv
 replace b:=b.mono H
 replace h:=h.up H
 replace A:=A.up H
 replace E:=E.mono H
 replace u:=u.up H
 replace N:=N.nf
 obtain ⟨V4,B4,rfl,b6,o9,O6,v7⟩:=RVal.fm e0
 have f2:=uM B0 M0
 refine Sto 1 fun w N a J=>?_
 refine Reg [2,1,2,1,2,1,2,2,1,1,0,0,0] [1,2,3,4] fun w N a J=>?_
 refine go fun a J=>?_
 obtain ⟨Z4,T1⟩:=qR j1
 obtain ⟨L5,t6,R0,m0⟩:=h.elem T1
 obtain ⟨p323,o8,p329,p8,rfl,c6,p9,q9,P6,w7,Q6,x7⟩:=REx.fm m0
 refine dG fun a J=>?_
 refine Bx fun v4 w N a J=>?_
 have X:=N
 clear N
 obtain ⟨p4,C,N,M2⟩:=X.freezeBlk (i:=0) rfl
 clear X
 replace f:=f.mono C
 replace rG:=RGiven.mono C rG
 replace re:=re.up C
 replace rv:=REnv.mono C rv
 replace b:=b.mono C
 replace h:=h.up C
 replace A:=A.up C
 replace E:=E.mono C
 replace u:=u.up C
 replace e0:=e0.up C
 replace R0:=R0.mono C
 replace m0:=m0.up C
 replace N:=N.nf
 have I0:REnv p4 ((e.name,l2)::env) (some ⟨v4,0,none⟩):=⟨_,[.string l2.con,.int .i64 (l2.num),.slice V4 l2.args.length B4],_,rfl,M2,rfl,e0,rv⟩
 obtain rfl:w4=Z4:=Option.some.inj (c0.symm.trans T1)
 refine vS call103 (fun w3 h5 w z1 M3 N a J=>?_) (fun w3 w z1 N=>?_) (c:=ih G4 (by omega) f rG m0 I0 ((yO h0).2.1 _ (mgQ T1)) (by omega) (by omega) f2 N)
 obtain ⟨z343,Z8⟩:=w3
 obtain ⟨q4,O8⟩:=h5
 obtain ⟨y,J1⟩:=M3
 have P1:=jL z1
 simp only at y J1 N J P1
 have u5:=yF _ _ _ _ _ _ P1
 replace f:=f.mono y
 replace rG:=RGiven.mono y rG
 replace re:=re.up y
 replace rv:=REnv.mono y rv
 replace b:=b.mono y
 replace h:=h.up y
 replace A:=A.up y
 replace E:=E.mono y
 replace u:=u.up y
 replace e0:=e0.up y
 replace R0:=R0.mono y
 replace m0:=m0.up y
 replace I0:=REnv.mono y I0
 replace N:=N.nf
 obtain ⟨p353,q8,rfl,e6,r9,R6,y7⟩:=RVal.fm J1
 refine Sto 2 fun w N a J=>?_
 refine go fun a J=>?_
 have D:=N
 replace N:=N.dl [4,3,2,1]
 refine qG (N:=D) ?_
 exact mL ((((zT _ _ _ _).trans (vQ a0 S c0)).trans (jW M0)).trans P1) ⟨(q4,_),rfl,⟨((H).trans C).trans y,J1⟩,N⟩
 have W2:=qW z1 f2
 replace N:=N.dl [4,3,2,1]
 exact xY ((((zT _ _ _ _).trans (vQ a0 S c0)).trans (jW M0)).trans W2) ⟨rfl,N.le ((H).trans C)⟩
 have X2:=qW y1 (qJ B0)
 replace N:=N.dl [4,3,2,1]
 exact xY (((zT _ _ _ _).trans (vQ a0 S c0)).trans (xR X2)) ⟨rfl,N.le (Fz.Le.refl _)⟩
 by_cases b0:e.kind=7
 refine go fun a J=>?_
 refine yE [2,1,2,1,2,1,0,0,0] (.q 0 (.q 1 (.q 2 (.q 3 (.q 4 (.q 5 (.e2 6 7 (.e 7 (.e 8 (.done))) (.e 6 (.e 8 (.done)))))))))) [0,1,2] J N fun w N=>?_
 have o3:=y6v b0 x0
 have i1:0 < e.args.length:=by omega
 refine go fun a J=>?_
 obtain ⟨q363,rfl,x364,U,M5,u6,s,j⟩:=h.el l3 i1
 obtain ⟨p372,r8,p378,s8,rfl,f6,s9,t9,S6,z7,T6,A7⟩:=REx.fm j
 refine go fun a J=>?_
 refine wN ?_ ?_
 have C0:=x0
 rw [kI b0 U] at C0
 replace N:=N.pl 3
 refine vS call103 (fun x3 i5 w A1 N3 N a J=>?_) (fun x3 w A1 N=>?_) (c:=ih g (by omega) f rG j rv ((yO h0).2.1 _ (mgQ U)) (by omega) (by omega) (qJ C0) N)
 obtain ⟨u0,H4⟩:=x3
 obtain ⟨W1,P8⟩:=i5
 obtain ⟨I,Y⟩:=N3
 have N0:=jL A1
 simp only at I Y N J N0
 have v5:=yF _ _ _ _ _ _ N0
 replace f:=f.mono I
 replace rG:=RGiven.mono I rG
 replace re:=re.up I
 replace rv:=REnv.mono I rv
 replace b:=b.mono I
 replace h:=h.up I
 replace A:=A.up I
 replace s:=s.mono I
 replace j:=j.up I
 replace N:=N.nf
 obtain ⟨p398,t8,rfl,g6,p2,U6,X3⟩:=RVal.fm Y
 have g2:=uM C0 N0
 refine Alc fun a8 w N a J=>?_
 refine Sto 0 fun w N a J=>?_
 refine go fun a J=>?_
 refine zU (J.ks [2,3,6,8,120,121]) N (fun R mm a w=>∃(i:Nat),mm=e.arms.length - i/\R W1 [(122,.int .i64 ((i:Nat):Int))] [] a w/\(vA e.arms u0.con=vA (e.arms.drop i) u0.con)) (e.arms.length - 0) ⟨0,rfl,⟨J.pk,N⟩,rfl⟩ ?_
 clear N J
 rintro mm a w ⟨i,S0,⟨J,N⟩,o1⟩ T7 T3
 by_cases h3:i < e.arms.length
 refine go fun a J=>?_
 obtain ⟨q413,rfl,r0,U1,N5,v6,i0,f0⟩:=A.el n3 h3
 obtain ⟨s420,b8,rfl,Z1,p0⟩:=RArm.iff.1 f0
 obtain ⟨p422,u8,rfl,V6,Y3⟩:=Z1.fm
 obtain ⟨p430,v8,p436,w8,rfl,h6,u9,v9,W6,B7,X6,C7⟩:=REx.fm p0
 refine Alc fun c8 w N a J=>?_
 refine Sto 0 fun w N a J=>?_
 by_cases i3:r0.con=u0.con
 refine go fun a J=>?_
 have J0:vA e.arms u0.con=some r0:=by
  rw [o1,zA U1];simp [vA,i3]
 have T0:=g2
 rw [pK J0] at T0
 obtain ⟨n1,z2⟩:=z4x T0
 refine go fun a J=>?_
 refine zU (J.ks [3,6,8,10,132,133]) N (fun R mm a w=>∃(e1:Fz) (k:Nat) (en:Env) (nv:Option Addr),mm=r0.vars.length - k/\R e1 [(2,.pointer nv),(134,.int .i64 ((k:Nat):Int))] [] a w/\(W1.Le e1/\(REnv e1 en nv/\mU r0.vars u0.args env=mU (r0.vars.drop k) (u0.args.drop k) en))) (r0.vars.length - 0) ⟨W1,0,env,ov,rfl,⟨J.pk,N⟩,⟨Fz.Le.refl _,⟨rv,rfl⟩⟩⟩ ?_
 clear N J
 rintro mm a w ⟨e1,k,en,nv,S0,⟨J,N⟩,p1⟩ U7 U3
 obtain ⟨l,p1⟩:=p1
 replace f:=f.mono l
 replace rG:=RGiven.mono l rG
 replace re:=re.up l
 replace rv:=REnv.mono l rv
 replace b:=b.mono l
 replace h:=h.up l
 replace A:=A.up l
 replace s:=s.mono l
 replace j:=j.up l
 replace p2:=p2.up l
 replace Y:=Y.up l
 replace i0:=i0.mono l
 replace f0:=f0.up l
 replace Z1:=Z1.up l
 replace p0:=p0.up l
 obtain ⟨rn,F0⟩:=p1
 by_cases q2:k < r0.vars.length
 have D2:k < u0.args.length:=tY (env:=en) (env':=n1) (by rw [<- F0];exact z2) q2
 refine go fun a J=>?_
 obtain ⟨q457,rfl,H2,e4,D3,w6,t2,b4⟩:=Z1.el Y3 q2
 obtain rfl:D3=[.string H2]:=b4
 refine go fun a J=>?_
 obtain ⟨q464,rfl,k1,f4,O5,x6,u2,X0⟩:=p2.el X3 D2
 obtain ⟨W4,C4,rfl,i6,w9,Y6,D7⟩:=RVal.fm X0
 refine dG fun a J=>?_
 refine Bx fun e3 w N a J=>?_
 have X:=N
 clear N
 obtain ⟨J2,m,N,N2⟩:=X.freezeBlk (i:=0) rfl
 clear X
 replace f:=f.mono m
 replace rG:=RGiven.mono m rG
 replace re:=re.up m
 replace rv:=REnv.mono m rv
 replace b:=b.mono m
 replace h:=h.up m
 replace A:=A.up m
 replace s:=s.mono m
 replace j:=j.up m
 replace Y:=Y.up m
 replace i0:=i0.mono m
 replace f0:=f0.up m
 replace p0:=p0.up m
 replace rn:=REnv.mono m rn
 replace t2:=t2.mono m
 replace u2:=u2.mono m
 replace X0:=X0.up m
 replace N:=N.nf
 have B2:REnv J2 ((H2,k1)::en) (some ⟨e3,0,none⟩):=⟨_,[.string k1.con,.int .i64 (k1.num),.slice W4 k1.args.length C4],_,rfl,N2,rfl,X0,rn⟩
 refine go fun a J=>?_
 refine U3 _ _ _ (by subst S0;omega) ⟨(J2),(k+1),((H2,k1)::en),((some ⟨e3,0,none⟩)),rfl,⟨J.pk,N⟩,?_⟩
 refine ⟨(l).trans m,?_⟩
 refine ⟨B2,?_⟩
 rw [F0,zA e4,zA f4];rfl
 refine go fun a J=>?_
 have G0:mU r0.vars u0.args env=some en:=by
  rw [F0,zB q2,z8d]
 have U0:=T0
 rw [oE G0] at U0
 replace N:=N.pl 2
 refine vS call103 (fun y3 j5 w B1 O3 N a J=>?_) (fun y3 w B1 N=>?_) (c:=ih H4 (by omega) f rG p0 rn ((yO h0).2.2 _ (mgQ U1)).1 (by omega) (by omega) U0 N)
 obtain ⟨z490,a9⟩:=y3
 obtain ⟨r4,Q8⟩:=j5
 obtain ⟨t,K1⟩:=O3
 have Q1:=jL B1
 simp only at t K1 N J Q1
 have w5:=yF _ _ _ _ _ _ Q1
 replace f:=f.mono t
 replace rG:=RGiven.mono t rG
 replace re:=re.up t
 replace rv:=REnv.mono t rv
 replace b:=b.mono t
 replace h:=h.up t
 replace A:=A.up t
 replace s:=s.mono t
 replace j:=j.up t
 replace Y:=Y.up t
 replace i0:=i0.mono t
 replace f0:=f0.up t
 replace p0:=p0.up t
 replace rn:=REnv.mono t rn
 replace N:=N.nf
 obtain ⟨p500,x8,rfl,j6,x9,Z6,E7⟩:=RVal.fm K1
 refine Sto 3 fun w N a J=>?_
 refine go fun a J=>?_
 have D:=N
 replace N:=N.dl [5,4,3,2,1]
 refine qG (N:=D) ?_
 exact mL ((((((zT _ _ _ _).trans (kI b0 U)).trans (jW N0)).trans (pK J0)).trans (oE G0)).trans Q1) ⟨(r4,_),rfl,⟨((I).trans l).trans t,K1⟩,N⟩
 have Y2:=qW B1 U0
 replace N:=N.dl [5,4,3,2,1]
 exact xY ((((((zT _ _ _ _).trans (kI b0 U)).trans (jW N0)).trans (pK J0)).trans (oE G0)).trans Y2) ⟨rfl,N.le ((I).trans l)⟩
 refine go fun a J=>?_
 replace N:=N.dl [0]
 refine T3 _ _ _ (by subst S0;omega) ⟨(i+1),rfl,⟨J.pk,N⟩,?_⟩
 rw [o1,zA U1];simp only [vA,if_neg i3]
 refine zX fun a J=>?_
 refine Sto 2 fun w N a J=>?_
 refine go fun a J=>?_
 have D:=N
 replace N:=N.dl [4,3,2,0]
 refine qG (N:=D) ?_
 exact absurd (z4v (by rw [o1,zB h3];rfl)) g2
 have Z2:=qW A1 (qJ C0)
 replace N:=N.dl [3,2,1]
 exact xY (((zT _ _ _ _).trans (kI b0 U)).trans (xR Z2)) ⟨rfl,N.le (Fz.Le.refl _)⟩
 refine Alc fun e8 w N a J=>?_
 have D0:=x0
 rw [kI b0 U] at D0
 replace N:=N.pl 4
 refine vS call103 (fun z3 k5 w C1 P3 N a J=>?_) (fun z3 w C1 N=>?_) (c:=ih g (by omega) f rG j rv ((yO h0).2.1 _ (mgQ U)) (by omega) (by omega) (qJ D0) N)
 obtain ⟨w0,I4⟩:=z3
 obtain ⟨X1,R8⟩:=k5
 obtain ⟨L,Z⟩:=P3
 have O0:=jL C1
 simp only at L Z N J O0
 have x5:=yF _ _ _ _ _ _ O0
 replace f:=f.mono L
 replace rG:=RGiven.mono L rG
 replace re:=re.up L
 replace rv:=REnv.mono L rv
 replace b:=b.mono L
 replace h:=h.up L
 replace A:=A.up L
 replace s:=s.mono L
 replace j:=j.up L
 replace N:=N.nf
 obtain ⟨p525,y8,rfl,k6,r2,a7,Z3⟩:=RVal.fm Z
 have h2:=uM D0 O0
 refine Sto 1 fun w N a J=>?_
 refine go fun a J=>?_
 refine zU (J.ks [2,3,6,8,120,121]) N (fun R mm a w=>∃(i:Nat),mm=e.arms.length - i/\R X1 [(122,.int .i64 ((i:Nat):Int))] [] a w/\(vA e.arms w0.con=vA (e.arms.drop i) w0.con)) (e.arms.length - 0) ⟨0,rfl,⟨J.pk,N⟩,rfl⟩ ?_
 clear N J
 rintro mm a w ⟨i,S0,⟨J,N⟩,q1⟩ V7 V3
 by_cases j3:i < e.arms.length
 refine go fun a J=>?_
 obtain ⟨q539,rfl,s0,V1,P5,y6,j0,g0⟩:=A.el n3 j3
 obtain ⟨s546,f8,rfl,a2,q0⟩:=RArm.iff.1 g0
 obtain ⟨p548,z8,rfl,b7,a4⟩:=a2.fm
 obtain ⟨p556,A8,p562,B8,rfl,l6,y9,z9,c7,F7,e7,G7⟩:=REx.fm q0
 refine Alc fun g8 w N a J=>?_
 refine Sto 0 fun w N a J=>?_
 by_cases k3:s0.con=w0.con
 refine go fun a J=>?_
 have J0:vA e.arms w0.con=some s0:=by
  rw [q1,zA V1];simp [vA,k3]
 have V0:=h2
 rw [pK J0] at V0
 obtain ⟨n1,z2⟩:=z4x V0
 refine go fun a J=>?_
 refine zU (J.ks [3,6,8,10,132,133]) N (fun R mm a w=>∃(f1:Fz) (k:Nat) (en:Env) (nv:Option Addr),mm=s0.vars.length - k/\R f1 [(2,.pointer nv),(134,.int .i64 ((k:Nat):Int))] [] a w/\(X1.Le f1/\(REnv f1 en nv/\mU s0.vars w0.args env=mU (s0.vars.drop k) (w0.args.drop k) en))) (s0.vars.length - 0) ⟨X1,0,env,ov,rfl,⟨J.pk,N⟩,⟨Fz.Le.refl _,⟨rv,rfl⟩⟩⟩ ?_
 clear N J
 rintro mm a w ⟨f1,k,en,nv,S0,⟨J,N⟩,r1⟩ W7 W3
 obtain ⟨n,r1⟩:=r1
 replace f:=f.mono n
 replace rG:=RGiven.mono n rG
 replace re:=re.up n
 replace rv:=REnv.mono n rv
 replace b:=b.mono n
 replace h:=h.up n
 replace s:=s.mono n
 replace j:=j.up n
 replace r2:=r2.up n
 replace Z:=Z.up n
 replace j0:=j0.mono n
 replace g0:=g0.up n
 replace a2:=a2.up n
 replace q0:=q0.up n
 obtain ⟨rn,F0⟩:=r1
 by_cases s2:k < s0.vars.length
 have D2:k < w0.args.length:=tY (env:=en) (env':=n1) (by rw [<- F0];exact z2) s2
 refine go fun a J=>?_
 obtain ⟨q583,rfl,I2,g4,E3,z6,v2,c4⟩:=a2.el a4 s2
 obtain rfl:E3=[.string I2]:=c4
 refine go fun a J=>?_
 obtain ⟨q590,rfl,l1,h4,Q5,A6,w2,Y0⟩:=r2.el Z3 D2
 obtain ⟨X4,D4,rfl,m6,A9,f7,H7⟩:=RVal.fm Y0
 refine dG fun a J=>?_
 refine Bx fun f3 w N a J=>?_
 have X:=N
 clear N
 obtain ⟨K2,r,N,O2⟩:=X.freezeBlk (i:=0) rfl
 clear X
 replace f:=f.mono r
 replace rG:=RGiven.mono r rG
 replace re:=re.up r
 replace rv:=REnv.mono r rv
 replace b:=b.mono r
 replace h:=h.up r
 replace s:=s.mono r
 replace j:=j.up r
 replace Z:=Z.up r
 replace j0:=j0.mono r
 replace g0:=g0.up r
 replace q0:=q0.up r
 replace rn:=REnv.mono r rn
 replace v2:=v2.mono r
 replace w2:=w2.mono r
 replace Y0:=Y0.up r
 replace N:=N.nf
 have C2:REnv K2 ((I2,l1)::en) (some ⟨f3,0,none⟩):=⟨_,[.string l1.con,.int .i64 (l1.num),.slice X4 l1.args.length D4],_,rfl,O2,rfl,Y0,rn⟩
 refine go fun a J=>?_
 refine W3 _ _ _ (by subst S0;omega) ⟨(K2),(k+1),((I2,l1)::en),((some ⟨f3,0,none⟩)),rfl,⟨J.pk,N⟩,?_⟩
 refine ⟨(n).trans r,?_⟩
 refine ⟨C2,?_⟩
 rw [F0,zA g4,zA h4];rfl
 refine go fun a J=>?_
 have G0:mU s0.vars w0.args env=some en:=by
  rw [F0,zB s2,z8d]
 have W0:=V0
 rw [oE G0] at W0
 replace N:=N.pl 1
 refine vS call103 (fun A3 l5 w D1 Q3 N a J=>?_) (fun A3 w D1 N=>?_) (c:=ih I4 (by omega) f rG q0 rn ((yO h0).2.2 _ (mgQ V1)).1 (by omega) (by omega) W0 N)
 obtain ⟨z616,b9⟩:=A3
 obtain ⟨s4,S8⟩:=l5
 obtain ⟨z,L1⟩:=Q3
 have R1:=jL D1
 simp only at z L1 N J R1
 have y5:=yF _ _ _ _ _ _ R1
 replace f:=f.mono z
 replace rG:=RGiven.mono z rG
 replace re:=re.up z
 replace rv:=REnv.mono z rv
 replace b:=b.mono z
 replace h:=h.up z
 replace s:=s.mono z
 replace j:=j.up z
 replace Z:=Z.up z
 replace j0:=j0.mono z
 replace g0:=g0.up z
 replace q0:=q0.up z
 replace rn:=REnv.mono z rn
 replace N:=N.nf
 obtain ⟨p626,C8,rfl,n6,B9,g7,I7⟩:=RVal.fm L1
 refine Sto 3 fun w N a J=>?_
 refine go fun a J=>?_
 have D:=N
 replace N:=N.dl [5,4,3,2,1]
 refine qG (N:=D) ?_
 exact mL ((((((zT _ _ _ _).trans (kI b0 U)).trans (jW O0)).trans (pK J0)).trans (oE G0)).trans R1) ⟨(s4,_),rfl,⟨((L).trans n).trans z,L1⟩,N⟩
 have a3:=qW D1 W0
 replace N:=N.dl [5,4,3,2,1]
 exact xY ((((((zT _ _ _ _).trans (kI b0 U)).trans (jW O0)).trans (pK J0)).trans (oE G0)).trans a3) ⟨rfl,N.le ((L).trans n)⟩
 refine go fun a J=>?_
 replace N:=N.dl [0]
 refine V3 _ _ _ (by subst S0;omega) ⟨(i+1),rfl,⟨J.pk,N⟩,?_⟩
 rw [q1,zA V1];simp only [vA,if_neg k3]
 refine zX fun a J=>?_
 refine Sto 2 fun w N a J=>?_
 refine go fun a J=>?_
 have D:=N
 replace N:=N.dl [4,3,2,1]
 refine qG (N:=D) ?_
 exact absurd (z4v (by rw [q1,zB j3];rfl)) h2
 have b3:=qW C1 (qJ D0)
 replace N:=N.dl [4,3,2,1]
 exact xY (((zT _ _ _ _).trans (kI b0 U)).trans (xR b3)) ⟨rfl,N.le (Fz.Le.refl _)⟩
 refine go fun a J=>?_
 by_cases b2:e.kind=8
 refine go fun a J=>?_
 have E0:=x0
 rw [z4f b2] at E0
 replace N:=N.pl 3
 refine vS call158 (fun B3 m5 w E1 R3 N a J=>?_) (fun B3 w E1 N=>?_) (c:=z8s (fun o2 h_=>ih o2 (by omega)) f rG h rv (yO h0).2.1 (yO h0).1 (by omega) (by omega) (qJ E0) N)
 obtain ⟨C3,d9⟩:=B3
 obtain ⟨S7,T8⟩:=m5
 obtain ⟨o0,Z0⟩:=R3
 have d1:=jL E1
 simp only at o0 Z0 N J d1
 have z5:=q5d d1
 replace rG:=RGiven.mono o0 rG
 replace re:=re.up o0
 replace rv:=REnv.mono o0 rv
 replace b:=b.mono o0
 replace N:=N.nf
 obtain ⟨p651,D8,rfl,C5,Q2⟩:=Z0.fm
 have i2:=uM E0 d1
 refine Reg [1,2,1,1,1,2,1,1,1,2,0,0] [1,2,3] fun w N a J=>?_
 have o3:=j0q i2
 have i1:0 < C3.length:=by omega
 have j1:1 < C3.length:=by omega
 refine go fun a J=>?_
 obtain ⟨q657,rfl,x658,i4,R5,B6,x2,a1⟩:=Z0.el Q2 i1
 obtain ⟨p666,E8,rfl,o6,C9,h7,J7⟩:=RVal.fm a1
 refine go fun a J=>?_
 obtain ⟨x671,F2⟩:=qR j1
 obtain ⟨S5,C6,y2,b1⟩:=Z0.elem F2
 obtain ⟨p679,F8,rfl,p6,D9,i7,K7⟩:=RVal.fm b1
 refine yP call159 (fun n5 w S3 N a J=>?_) (c:=j4z (by obtain ⟨_,_,h_,_⟩:=RVal.iff.1 a1;exact h_) (by obtain ⟨_,_,h_,_⟩:=RVal.iff.1 b1;exact h_) N)
 obtain ⟨t4,U8⟩:=n5
 obtain ⟨W,M1⟩:=S3
 simp only at W M1 N J
 replace rG:=RGiven.mono W rG
 replace re:=re.up W
 replace rv:=REnv.mono W rv
 replace b:=b.mono W
 replace x2:=x2.mono W
 replace a1:=a1.up W
 replace y2:=y2.mono W
 replace b1:=b1.up W
 replace N:=N.nf
 obtain ⟨p692,G8,rfl,q6,E9,j7,L7⟩:=RVal.fm M1
 refine Sto 1 fun w N a J=>?_
 refine go fun a J=>?_
 have D:=N
 replace N:=N.dl [3,2,1]
 refine qG (N:=D) ?_
 exact mL ((((zT _ _ _ _).trans (z4f b2)).trans (jW d1)).trans (q6g i4 F2 i2).2) ⟨(t4,_),rfl,⟨(o0).trans W,M1⟩,N⟩
 have d3:=qW E1 (qJ E0)
 replace N:=N.dl [3,2,1]
 exact xY (((zT _ _ _ _).trans (z4f b2)).trans (xR d3)) ⟨rfl,N.le (Fz.Le.refl _)⟩
 refine zX fun a J=>?_
 refine Sto 0 fun w N a J=>?_
 refine go fun a J=>?_
 have D:=N
 replace N:=N.dl [2,1,0]
 refine qG (N:=D) ?_
 exact absurd (z9q (by have h_:=K4;omega) (by have h_:=F3;omega) (by have h_:=M4;omega) (by have h_:=Y1;omega) (by have h_:=P0;omega) (by have h_:=a0;omega) (by have h_:=b0;omega) (by have h_:=b2;omega)) x0
theorem x5j {T:Table} {inp:List (Bs×Val)} (a:z1q T):∀g,sB prog T inp g:=by
 suffices H:∀n g,g < n->sB prog T inp g from fun g=>H _ g (Nat.lt_succ_self _)
 intro n
 induction n with
 | zero=>intro g h;omega
 | succ n b=>
  intro g h
  cases g with
  | zero=>exact x1d
  | succ g=>exact x1c a fun g1 h1=>b g1 (by omega)
theorem z1u {T:Table} {inp:List (Bs×Val)} (a:z1q T) (g:Nat):q7i prog T inp g:=y3d (x5j a g)
end Go.Sw
