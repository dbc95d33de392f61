import Derived.Test.YtghdfphedgcpdaaGreatDoorY11
set_option linter.unusedVariables false
set_option linter.unusedSimpArgs false
namespace Go.Sw
open Go.Proofs Go.Proofs.Tryz
set_option maxRecDepth 20000
set_option maxHeartbeats 4000000
def z5q (nx:Next) (rs:List Bs) (n:Bs) (p:List Bs):Prop:=(∃l,PathOk nx rs n l/\p.length=l.length)/\p[p.length - 1]? = some n/\(∀x,p[0]? = some x->x∈rs)/\y3c nx p
def CPRes (c:Core) (n:Bs) (p:List Bs) (y:Int):Prop:=match kC c n with
 | .error e=>y=e
 | .ok _=>(y=0/\z5q (qK (zQ c)) (zV c) n p)∨(y=111/\¬z5q (qK (zQ c)) (zV c) n p)
theorem CPRes.err {c:Core} {n:Bs} {p:List Bs} {e:Int} (h:kC c n=.error e):CPRes c n p e:=by rw [CPRes,h]
theorem CPRes.ok {c:Core} {n:Bs} {p:List Bs} (a:yG c=0) (b:n∈zC c) (h:z5q (qK (zQ c)) (zV c) n p):CPRes c n p 0:=by rw [CPRes,nJ a b];exact .inl ⟨rfl,h⟩
theorem CPRes.no {c:Core} {n:Bs} {p:List Bs} (a:yG c=0) (b:n∈zC c) (h:¬z5q (qK (zQ c)) (zV c) n p):CPRes c n p 111:=by rw [CPRes,nJ a b];exact .inr ⟨rfl,h⟩
section
variable {nx:Next} {rs l m p:List Bs} {n x y:Bs} {i:Nat}
theorem PathOk.way (h:PathOk nx rs n l):Way nx rs (l.length - 1) n:=by
 obtain ⟨p,rfl,a,b,_⟩:=h
 have:=j0n a b
 rw [laQ];exact this
theorem PathOk.pos (h:PathOk nx rs n l):0 < l.length:=by obtain ⟨p,rfl,_⟩:=h;simp
theorem PathOk.len (h:PathOk nx rs n l) (g:PathOk nx rs n m):l.length=m.length:=by
 have a:=h.way;have b:=g.way;have c:=h.pos;have d:=g.pos
 obtain ⟨p,i,_,_,j⟩:=h
 obtain ⟨q,e2,_,_,g4⟩:=g
 have o:=j _ b;have k:=g4 _ a
 have e:=congrArg List.length i;have f:=congrArg List.length e2
 rw [laQ] at e f;simp only [lcQ,lnQ] at e f;omega
theorem PathOk.reached (h:PathOk nx rs n l):(zK (yV nx rs) n).isSome=true:=(z3k _ _ _).2 ⟨_,h.way⟩
theorem CP_no0 (h:(zK (yV nx rs) n).isSome=false):¬z5q nx rs n p:=fun a=>by
 obtain ⟨⟨l,h1,_⟩,_⟩:=a
 rw [h1.reached] at h;cases h
theorem CP_no1 (h:PathOk nx rs n l) (hl:¬p.length=l.length):¬z5q nx rs n p:=fun b=>by
 obtain ⟨⟨m,h1,a⟩,_⟩:=b
 exact hl (by rw [a,h1.len h])
theorem y3b (b:p[p.length - 1]? = some x) (h:¬x=n):¬z5q nx rs n p:=fun a=>by
 have:=a.2.1;rw [b] at this;exact h (Option.some.inj this)
theorem q3a (b:p[0]? = some x) (h:¬x∈rs):¬z5q nx rs n p:=fun a=>h (a.2.2.1 x b)
theorem CP_no4 (b:p[i]? = some x) (c:p[i+1]? = some y) (h:¬y∈xB nx x):¬z5q nx rs n p:=fun a=>h (a.2.2.2 i x y b c)
def TrailTo (nx:Next) (p:List Bs) (i:Nat):Prop:=∀j,j < i->∀a b,p[j]? = some a->p[j+1]? = some b->b∈xB nx a
theorem TrailTo.start:TrailTo nx p 0:=fun j h=>by omega
theorem TrailTo.step (h:TrailTo nx p i) (f:p[i]? = some x) (g:p[i+1]? = some y) (d:y∈xB nx x):TrailTo nx p (i+1):=fun j k a b c hb=>by
 by_cases e:j=i
 subst e;rw [f] at c;rw [g] at hb;cases c;cases hb;exact d
 exact h j (by omega) a b c hb
theorem CP_yes (h:PathOk nx rs n l) (hl:p.length=l.length) (k:p[p.length - 1]? = some x) (c:x=n) (m:p[0]? = some y) (d:y∈rs) (g:TrailTo nx p i) (o:¬i < p.length - 1):z5q nx rs n p:=by
 subst c
 refine ⟨⟨l,h,hl⟩,k,fun z e=>by rw [m] at e;cases e;exact d,fun j a b f hb=>g j ?_ a b f hb⟩
 have:=(List.getElem?_eq_some_iff.1 hb).1;omega
end
theorem sR {Φ:Fz} {K:List Res} {w:World} {d0:List Value} {c:Core} {n:Bs} {v:Value} {p:List Bs} (x0:RCore Φ d0 c) (rl:SliceOf RStr Φ 1 v p) (G:Glob Φ) (hL:yG c=0->LOk c) (N:Mem Φ K w) :
  Calls prog 29 #[.agg d0.toArray,.string n,v] w (fun ee w'=>∃y:Int,ee=.returned (.int .i64 y)/\CPRes c n p y/\Mem Φ K w'):=by
 have d:=x0
 obtain ⟨p3,c4,p9,B1,S1,C1,T1,c22,rfl,h2,h8,J1,K1,P1,Q1,b1,i1,c1,j1,d1,k1⟩:=RCore.fm x0
 obtain ⟨U1,D1,rfl,L0,r0⟩:=rl.fm
 refine zL func29 ntmps29 fun Q hQ a J=>?_
 refine Bx fun A1 w N a J=>?_
 refine go fun a J=>?_
 refine st J rfl rfl rfl (xU J rfl call38 (z6w d G hL N) (fun R0 T0 w r o0 N a J=>?_) (fun R0 w r N a J=>?_))
 obtain ⟨Ψg,bg⟩:=T0
 obtain ⟨leg,rg⟩:=o0
 simp only at leg rg N J
 obtain ⟨h0,t⟩:=oE r
 have L_:=hL h0
 replace d:=RCore.mono _ _ _ _ leg d
 replace G:=G.mono leg
 replace rl:=rl.up leg
 replace N:=N.nf
 obtain ⟨I1,u1,Y0,y1,t1,v1,A,V,w0,u0,E,F⟩:=id rg
 have H:=V
 obtain ⟨V1,c51,W1,E1,X1,c63,Y1,F1,rfl,L1,M1,N1,O1,e1,l1,f1,m1,g1,n1,h1,o1⟩:=RCore.fm V
 obtain ⟨Z1,G1,rfl,M0,p1⟩:=w0.fm
 obtain ⟨a2,H1,rfl,N0,q1⟩:=u0.fm
 refine Qq (fun a J=>?_) (o:=by exact fun J O=>nF false J rfl rfl rfl)
 refine go fun a J=>?_
 refine st J rfl rfl rfl (xU J rfl call51 (q8w rg (Nat.le_trans L_.boundR (by decide)) L_.se L_.tidy.inp L_.il N) (fun S0 U0 w B p0 N a J=>?_) (fun S0 w B N a J=>?_))
 obtain ⟨pv,pl⟩:=U0
 have m:=p0
 simp only at m N J
 have T:=q8v B
 replace N:=N.nf
 refine go fun a J=>?_
 obtain ⟨b2,C0,rfl⟩:=jW N (i:=0) rfl
 have s1:=PathOk.pos m
 refine yI [1,1,1,1,1,1,1,1,1,1,1,1,1,1,1,2,1,1,1,1,1,0,1,1,2,0,1,1] (.q 0 (.q 1 (.q 2 (.q 3 (.q 4 (.q 5 (.q 6 (.q 7 (.q 8 (.q 9 (.q 10 (.q 11 (.q 12 (.q 13 (.q 14 (.q 15 (.q 16 (.q 17 (.q 18 (.q 19 (.q 20 (.q 22 (.q 23 (.q 24 (.e 21 (.e 25 (.q 26 (.q 27 (.done))))))))))))))))))))))))))))) [0,1] J N fun w N=>?_
 by_cases n0:p.length=pl.length
 have s0:p.length=pl.length:=n0
 have r1:0 < p.length:=by omega
 refine Qq (fun a J=>?_) (o:=by exact fun J O=>wG ((p.length - 1:Nat):Int) J rfl rfl (by rw [jI (by omega)];omega))
 have q0:p.length - 1 < p.length:=by omega
 obtain ⟨c2,rfl,A0,U,l0,a1,M,t0⟩:=rl.el r0 q0
 obtain rfl:l0=[.string A0]:=t0
 refine go fun a J=>?_
 by_cases L:A0=n
 refine go fun a J=>?_
 have c0:0 < p.length:=by omega
 obtain ⟨y0,j⟩:=zZ c0
 obtain ⟨X,G0,z,g0⟩:=rl.elem j
 obtain rfl:X=[.string y0]:=g0
 refine yO call39 (fun z1 w D0 N a J=>?_) (c:=tW rg L_.tidy.inp L_.il N)
 have P:=N
 clear N
 obtain ⟨I,b,N,C⟩:=P.freezeRow (i:=0) rfl
 clear P
 replace d:=RCore.mono _ _ _ _ b d
 replace G:=G.mono b
 replace rl:=rl.up b
 replace A:=A.mono b
 replace E:=E.mono b
 replace H:=RCore.mono _ _ _ _ b H
 replace F:=F.mono (fun _ _ h_=>h_.mono RStr.mono b)
 replace M:=M.mono b
 replace z:=z.mono b
 replace N:=N.nf
 have s:SliceOf RStr I 1 _ ((zV c)):=SliceOf.strs.2 C
 obtain ⟨w1,W0,Q0,J0,O0⟩:=s.form (by decide)
 have S:=N
 clear N
 subst Q0
 have N:=S
 clear S
 refine yH call48 (fun f w N a J=>?_) (fun f w N a J=>?_) (c:=z1f s N)
 refine Qq (fun a J=>?_) (o:=by exact fun J O=>wG ((p.length - 1:Nat):Int) J rfl rfl (by rw [jI (by omega)];omega))
 refine go fun a J=>?_
 refine zU (J.ks [2,7,57]) N (fun R mm a w=>∃(i:Nat),mm=p.length - 1 - i/\R I [(58,.int .i64 i)] [] a w/\(TrailTo (qK (zQ c)) p i)) (p.length - 1 - 0) ⟨0,rfl,⟨J.pk,N⟩,TrailTo.start⟩ ?_
 clear N J
 rintro mm a w ⟨i,K0,⟨J,N⟩,u⟩ V0 b0
 by_cases m0:i < p.length - 1
 refine Reg [1,1,1,2,1,1,1,2,2,1,1,1,1,2,0,1] [0,1] fun w N a J=>?_
 refine go fun a J=>?_
 have e0:i < p.length:=by omega
 obtain ⟨W,k⟩:=zZ e0
 obtain ⟨Y,H0,E0,i0⟩:=rl.elem k
 obtain rfl:Y=[.string W]:=i0
 refine go fun a J=>?_
 have h:=q8e F W
 obtain ⟨x1,X0,D,B0,P0⟩:=h.form (by decide)
 rw [D] at h
 refine Qq (fun a J=>?_) (o:=by exact fun J O=>Ok.cast (qA runUnderlying72 runUnderlying9 zeroValue25 J O rfl rfl E) D)
 refine go fun a J=>?_
 have f0:(i+1) < p.length:=by omega
 obtain ⟨z0,l⟩:=zZ f0
 obtain ⟨Z,I0,F0,j0⟩:=rl.elem l
 obtain rfl:Z=[.string z0]:=j0
 refine yH call48 (fun g w N a J=>?_) (fun g w N a J=>?_) (c:=z1f h N)
 refine go fun a J=>?_
 refine b0 _ _ _ (by subst K0;omega) ⟨(i+1),rfl,⟨J.pk,N⟩,?_⟩
 exact TrailTo.step u k l (of_decide_eq_true g)
 refine zD ?_
 replace N:=N.le ((leg).trans b)
 replace N:=N.dl [1,0]
 exact ⟨_,rfl,CPRes.no h0 t (CP_no4 k l (of_decide_eq_false g)),N⟩
 refine zD ?_
 replace N:=N.le ((leg).trans b)
 replace N:=N.dl [1,0]
 exact ⟨_,rfl,CPRes.ok h0 t (CP_yes m s0 U L j (of_decide_eq_true f) u m0),N⟩
 refine zD ?_
 replace N:=N.le ((leg).trans b)
 replace N:=N.dl [1,0]
 exact ⟨_,rfl,CPRes.no h0 t (q3a j (of_decide_eq_false f)),N⟩
 refine zD ?_
 replace N:=N.le (leg)
 replace N:=N.dl [1,0]
 exact ⟨_,rfl,CPRes.no h0 t (y3b U L),N⟩
 refine zD ?_
 replace N:=N.le (leg)
 replace N:=N.dl [1,0]
 exact ⟨_,rfl,CPRes.no h0 t (CP_no1 m n0),N⟩
 have T:=y7a B
 refine go fun a J=>?_
 refine yI [1,1,1,1,1,1,1,1,1,1,1,1,1,1,1,2,1,1,1,1,1,0,1,1,2,0,1,1] (.q 0 (.q 1 (.q 2 (.q 3 (.q 4 (.q 5 (.q 6 (.q 7 (.q 8 (.q 9 (.q 10 (.q 11 (.q 12 (.q 13 (.q 14 (.q 15 (.q 16 (.q 17 (.q 18 (.q 19 (.q 20 (.q 22 (.q 23 (.q 24 (.e 21 (.e 25 (.q 26 (.q 27 (.done))))))))))))))))))))))))))))) [0] J N fun w N=>?_
 refine zD ?_
 replace N:=N.le (leg)
 replace N:=N.dl [0]
 exact ⟨_,rfl,CPRes.no h0 t (CP_no0 T),N⟩
 have R1:=nW r
 refine zD ?_
 replace N:=N.dl [0]
 exact ⟨_,rfl,CPRes.err r,N⟩
def seqR:Code->Code
 | .seq _ y=>y
 | c=>c
section
variable {ws:List Bs} {f j n:Nat} {c:Core}
theorem j8p (h:¬j < ws.length) (a:0 < f):jO ws f c j=.ok c:=by
 obtain ⟨f,rfl⟩:∃k,f=k+1:=⟨f - 1,by omega⟩
 rw [jO,if_neg h]
theorem j1o {x:Data×Nat} (h:j < ws.length) (d:0 < f) (a:zF ws j=⟨#[100,97,116,97]⟩) (b:cW ws (j+1)=.ok x):jO ws f c j=jO ws (f - 1) { c with datas:=c.datas++[x.1] } x.2:=by
 obtain ⟨f,rfl⟩:∃k,f=k+1:=⟨f - 1,by omega⟩
 rw [jO,if_pos h,if_pos (show zF ws j=z3v from a),b];rfl
theorem q6l (h:j < ws.length) (d:0 < f) (a:zF ws j=⟨#[100,97,116,97]⟩) (b:cW ws (j+1)=.error n):jO ws f c j=.error n:=by
 obtain ⟨f,rfl⟩:∃k,f=k+1:=⟨f - 1,by omega⟩
 rw [jO,if_pos h,if_pos (show zF ws j=z3v from a),b]
theorem q6m {x:Param×Nat} (h:j < ws.length) (d:0 < f) (h1:¬zF ws j=⟨#[100,97,116,97]⟩) (a:zF ws j=⟨#[105,110,112,117,116]⟩) (b:pG ws (j+1)=.ok x):jO ws f c j=jO ws (f - 1) { c with inputs:=c.inputs++[x.1] } x.2:=by
 obtain ⟨f,rfl⟩:∃k,f=k+1:=⟨f - 1,by omega⟩
 rw [jO,if_pos h,if_neg (show ¬zF ws j=z3v from h1),if_pos (show zF ws j=z1v from a),b];rfl
theorem q3m (h:j < ws.length) (d:0 < f) (h1:¬zF ws j=⟨#[100,97,116,97]⟩) (a:zF ws j=⟨#[105,110,112,117,116]⟩) (b:pG ws (j+1)=.error n):jO ws f c j=.error n:=by
 obtain ⟨f,rfl⟩:∃k,f=k+1:=⟨f - 1,by omega⟩
 rw [jO,if_pos h,if_neg (show ¬zF ws j=z3v from h1),if_pos (show zF ws j=z1v from a),b]
theorem j8q {x:Fun×Nat} (h:j < ws.length) (e:0 < f) (h1:¬zF ws j=⟨#[100,97,116,97]⟩) (a:¬zF ws j=⟨#[105,110,112,117,116]⟩) (b:zF ws j=⟨#[102,117,110]⟩) (d:hH ws (j+1)=.ok x):jO ws f c j=jO ws (f - 1) { c with funs:=c.funs++[x.1] } x.2:=by
 obtain ⟨f,rfl⟩:∃k,f=k+1:=⟨f - 1,by omega⟩
 rw [jO,if_pos h,if_neg (show ¬zF ws j=z3v from h1),if_neg (show ¬zF ws j=z1v from a),if_pos (show zF ws j=kFun from b),d];rfl
theorem j1p (h:j < ws.length) (e:0 < f) (h1:¬zF ws j=⟨#[100,97,116,97]⟩) (a:¬zF ws j=⟨#[105,110,112,117,116]⟩) (b:zF ws j=⟨#[102,117,110]⟩) (d:hH ws (j+1)=.error n):jO ws f c j=.error n:=by
 obtain ⟨f,rfl⟩:∃k,f=k+1:=⟨f - 1,by omega⟩
 rw [jO,if_pos h,if_neg (show ¬zF ws j=z3v from h1),if_neg (show ¬zF ws j=z1v from a),if_pos (show zF ws j=kFun from b),d]
theorem j8r {x:Bs×Nat} (h:j < ws.length) (g:0 < f) (h1:¬zF ws j=⟨#[100,97,116,97]⟩) (a:¬zF ws j=⟨#[105,110,112,117,116]⟩) (b:¬zF ws j=⟨#[102,117,110]⟩) (d:zF ws j=⟨#[111,117,116,112,117,116]⟩) (e:aY ws (j+1)=.ok x):jO ws f c j=jO ws (f - 1) { c with outputs:=c.outputs++[x.1] } x.2:=by
 obtain ⟨f,rfl⟩:∃k,f=k+1:=⟨f - 1,by omega⟩
 rw [jO,if_pos h,if_neg (show ¬zF ws j=z3v from h1),if_neg (show ¬zF ws j=z1v from a),if_neg (show ¬zF ws j=kFun from b),if_pos (show zF ws j=y2v from d),e];rfl
theorem j1q (h:j < ws.length) (g:0 < f) (h1:¬zF ws j=⟨#[100,97,116,97]⟩) (a:¬zF ws j=⟨#[105,110,112,117,116]⟩) (b:¬zF ws j=⟨#[102,117,110]⟩) (d:zF ws j=⟨#[111,117,116,112,117,116]⟩) (e:aY ws (j+1)=.error n):jO ws f c j=.error n:=by
 obtain ⟨f,rfl⟩:∃k,f=k+1:=⟨f - 1,by omega⟩
 rw [jO,if_pos h,if_neg (show ¬zF ws j=z3v from h1),if_neg (show ¬zF ws j=z1v from a),if_neg (show ¬zF ws j=kFun from b),if_pos (show zF ws j=y2v from d),e]
theorem j8o (h:j < ws.length) (e:0 < f) (h1:¬zF ws j=⟨#[100,97,116,97]⟩) (a:¬zF ws j=⟨#[105,110,112,117,116]⟩) (b:¬zF ws j=⟨#[102,117,110]⟩) (d:¬zF ws j=⟨#[111,117,116,112,117,116]⟩):jO ws f c j=.error (j+1):=by
 obtain ⟨f,rfl⟩:∃k,f=k+1:=⟨f - 1,by omega⟩
 rw [jO,if_pos h,if_neg (show ¬zF ws j=z3v from h1),if_neg (show ¬zF ws j=z1v from a),if_neg (show ¬zF ws j=kFun from b),if_neg (show ¬zF ws j=y2v from d)]
end
theorem x1m {Φ:Fz} {K:List Res} {w:World} {a:Act} {D:List Deferred} {Q:Exit->Act->World->Prop} {rs:Value} {ws:List Bs} {c0 wd rp r:Nat} (G:Glob Φ) (hE:uH ws 250) (rl:SliceOf RStr Φ 1 rs ws) (j0:ws.length<=1000000)
  (hR:∀{Ψ:Fz} {a:Act} {w:World} {C:Core} {E F H I:Value},jO ws (ws.length+1) ⟨[],[],[],[]⟩ 0=.ok C->Φ.Le Ψ->SliceOf RData Ψ 2 E C.datas->SliceOf RParam Ψ 2 F C.inputs->SliceOf RFun Ψ 8 H C.funs->EnvR 96 [(3,.pointer (some ⟨wd,0,none⟩)),(2,.pointer (some ⟨c0,0,none⟩))] D a->Mem Ψ (.blk c0 (ob [E,F,H,I] 27)::.blk wd (ob [.int .i64 ((0:Nat):Int)] 3)::.gs I 9 1 (strs C.outputs)::K) w->Q .ret a w)
  (hP:∀{Ψ:Fz} {a:Act} {w:World} {n:Nat} {E F H I x:Value},jO ws (ws.length+1) ⟨[],[],[],[]⟩ 0=.error n->Φ.Le Ψ->EnvR 96 [(3,.pointer (some ⟨wd,0,none⟩)),(2,.pointer (some ⟨c0,0,none⟩))] D a->Mem Ψ (.blk c0 (ob [E,F,H,I] 27)::.blk wd (ob [x] 3)::K) w->Q (.panic (aB n)) a w)
  (J:EnvR 96 [(2,.pointer (some ⟨c0,0,none⟩)),(3,.pointer (some ⟨wd,0,none⟩)),(4,.pointer (some ⟨rp,0,none⟩))] D a) (N:Mem Φ (.blk r (ob [rs,.int .i64 ((0:Nat):Int)] 210)::.blk rp (ob [.pointer (some ⟨r,0,none⟩)] 208)::.blk c0 (ob [.slice none 0 0,.slice none 0 0,.slice none 0 0,.slice none 0 0] 27)::.blk wd (ob [.int .i64 ((0:Nat):Int)] 3)::K) w) :
  (seqR (seqR (seqR (seqR (Tryz.f98.body.getD .skip))))).wp prog Q a w:=by
 obtain ⟨pw,cw,rfl,G1,U0⟩:=rl.fm
 change (Code.seq _ _).wp _ _ _ _
 refine go fun a J=>?_
 replace N:=N.nilRow 126 2
 replace N:=N.nf
 replace N:=N.nilRow 36 2
 replace N:=N.nf
 replace N:=N.nilRow 112 8
 replace N:=N.nf
 replace N:=N.nilRow 9 1
 replace N:=N.nf
 refine zU (J.ks [2,3,4]) N (fun R mm a w=>∃(P:Fz) (j:Nat) (f:Nat) (E:Value) (F:Value) (H:Value) (I:Value) (d0:List Value) (d1:List Value) (d2:List Value) (C:Core),mm=ws.length - j/\R P [] [(0,.gs (I) 9 1 (strs C.outputs)),(1,.gs (H) 112 8 d2),(2,.gs (F) 36 2 d1),(3,.gs (E) 126 2 d0),(4,.blk r (ob [.slice pw ws.length cw,.int .i64 j] 210)),(6,.blk c0 (ob [E,F,H,I] 27))] a w/\(Φ.Le P/\(Chunks (RData P) 2 d0 C.datas/\Chunks (RParam P) 2 d1 C.inputs/\Chunks (RFun P) 8 d2 C.funs/\(C.datas.length<=j/\C.inputs.length<=j/\C.funs.length<=j/\C.outputs.length<=j)/\j<=ws.length/\ws.length+1<=j+f/\jO ws (ws.length+1) ⟨[],[],[],[]⟩ 0=jO ws f C j))) (ws.length - 0) ⟨Φ,0,ws.length+1,.slice none 0 0,.slice none 0 0,.slice none 0 0,.slice none 0 0,[],[],[],⟨[],[],[],[]⟩,rfl,⟨J.pk,N⟩,⟨Fz.Le.refl _,⟨rfl,rfl,rfl,⟨Nat.le_refl _,Nat.le_refl _,Nat.le_refl _,Nat.le_refl _⟩,Nat.zero_le _,by omega,rfl⟩⟩⟩ ?_
 clear N J
 rintro mm a w ⟨P,j,f,E,F,H,I,d0,d1,d2,C,m0,⟨J,N⟩,t0⟩ L4 l0
 replace N:=N.nf
 obtain ⟨v,t0⟩:=t0
 replace rl:=rl.up v
 replace G:=G.mono v
 obtain ⟨g,d,c,i1,hj,F1,z⟩:=t0
 refine Reg [2,1,1,2,2,1,1,2,1,1] [0,1,2,3,4,5,6,7] fun w N a J=>?_
 by_cases h8:j < ws.length
 refine Sto 4 fun w N a J=>?_
 refine Reg [2,1,1,2,2,1,1,2,1,1,2] [0,1,2,3,4,5,6,7] fun w N a J=>?_
 refine Qq (fun a J=>?_) (o:=by exact fun J O=>wG ((j:Nat):Int) J rfl rfl (by rw [jI (by omega)];omega))
 obtain ⟨J1,rfl,k0,b,x0,h1,V,z0⟩:=rl.el U0 h8
 obtain rfl:x0=[.string k0]:=z0
 by_cases A:k0=(⟨#[100,97,116,97]⟩:Bs)
 refine go fun a J=>?_
 refine gI (E0:=[(3,.pointer (some ⟨wd,0,none⟩)),(2,.pointer (some ⟨c0,0,none⟩))]) [1,2,2,0,0,0,1,0] (.q 0 (.q 1 (.q 2 (.e 3 (.e 4 (.e 5 (.q 6 (.e 7 (.done))))))))) [.gs (I) 9 1 (strs C.outputs),.gs (H) 112 8 d2,.gs (F) 36 2 d1,.blk rp (ob [.pointer (some ⟨r,0,none⟩)] 208),.blk c0 (ob [E,F,H,I] 27),.blk wd (ob [.int .i64 ((0:Nat):Int)] 3)] (J.pk) N mixed (by kernel_rfl) (by simp) (by kernel_rfl) fun w N=>?_
 refine go fun a J=>?_
 replace N:=N.pl 4
 refine d_e J rfl rfl rfl (z8g J rfl call139 (x7y G (i:=(j+1)) rl j0 (by omega) N) (fun T c1 w W q0 N=>⟨fun _=>N.sn ((Fz.Le.refl _).trans (q0.1)),fun a J=>?_⟩) (fun T w W N=>fun a J=>?_))
 obtain ⟨B0,z1⟩:=c1
 obtain ⟨t,f0⟩:=q0
 simp only at t f0 N J
 have P0:=data_le W
 replace rl:=rl.up t
 replace G:=G.mono t
 replace g:=g.mono fun _ _ h=>RData.mono _ _ _ _ t h
 replace d:=d.mono fun _ _ h=>RParam.mono _ _ _ _ t h
 replace c:=c.mono fun _ _ h=>RFun.mono _ _ _ _ t h
 replace V:=V.mono t
 replace N:=N.nf
 obtain ⟨K1,rfl,M0⟩:=id f0
 obtain ⟨V0,I0,rfl,j1,p1⟩:=M0.fm
 refine jQ fun M1 w N a J=>?_
 refine vH 5 rt_22 (fun Z0 w N a J=>?_) (hb:=by have h_:=g.length;rw [h_];simp only [lcQ,lnQ];omega)
 refine Sto 7 fun w N a J=>?_
 refine go fun a J=>?_
 replace N:=N.ar [0] [7,7,7,3,7,7,7,7]
 refine l0 _ _ _ (by subst m0;omega) ⟨(B0),(T.2),(f - 1),(Z0),(F),(H),(I),((d0++[.string T.1.name,.slice V0 T.1.cons.length I0])),(d1),(d2),({ C with datas:=C.datas++[T.1] }),rfl,⟨J.pk,by exact N⟩,?_⟩
 refine ⟨(v).trans t,?_⟩
 exact ⟨(g.snoc (k:=2) (x:=T.1) rfl f0),d,c,⟨by show (C.datas++[T.1]).length<=_;simp only [laQ,lcQ,lnQ];omega,by show C.inputs.length<=_;omega,by show C.funs.length<=_;omega,by show C.outputs.length<=_;omega⟩,by omega,by omega,z.trans (j1o h8 (by omega) ((xA b).trans A) W)⟩
 replace N:=N.dl [4,3,2,1,0]
 exact hP (z.trans (q6l h8 (by omega) ((xA b).trans A) W)) (v) (J.pk) N
 by_cases S:k0=(⟨#[105,110,112,117,116]⟩:Bs)
 refine go fun a J=>?_
 refine gI (E0:=[(3,.pointer (some ⟨wd,0,none⟩)),(2,.pointer (some ⟨c0,0,none⟩))]) [1,2,2,0,0,0,1,0] (.q 0 (.q 1 (.q 2 (.e 3 (.e 4 (.e 5 (.q 6 (.e 7 (.done))))))))) [.gs (I) 9 1 (strs C.outputs),.gs (H) 112 8 d2,.gs (E) 126 2 d0,.blk rp (ob [.pointer (some ⟨r,0,none⟩)] 208),.blk c0 (ob [E,F,H,I] 27),.blk wd (ob [.int .i64 ((0:Nat):Int)] 3)] (J.pk) N mixed (by kernel_rfl) (by simp) (by kernel_rfl) fun w N=>?_
 refine go fun a J=>?_
 replace N:=N.pl 4
 refine d_e J rfl rfl rfl (z8f J rfl call140 (q2e G (i:=(j+1)) rl j0 (by omega) N) (fun U w X N=>⟨fun _=>N.sn (Fz.Le.refl _),fun a J=>?_⟩) (fun U w X N=>fun a J=>?_))
 have G0:=q8p X
 refine jQ fun N1 w N a J=>?_
 refine vH 4 z3y (fun a1 w N a J=>?_) (hb:=by have h_:=d.length;rw [h_];simp only [lcQ,lnQ];omega)
 refine Sto 7 fun w N a J=>?_
 refine go fun a J=>?_
 replace N:=N.ar [0] [7,7,7,3,7,7,7,7]
 refine l0 _ _ _ (by subst m0;omega) ⟨(P),(U.2),(f - 1),(E),(a1),(H),(I),(d0),((d1++[.string U.1.name,.string U.1.type])),(d2),({ C with inputs:=C.inputs++[U.1] }),rfl,⟨J.pk,by exact N⟩,?_⟩
 refine ⟨v,?_⟩
 exact ⟨g,(d.snoc (k:=2) (x:=U.1) rfl rfl),c,⟨by show C.datas.length<=_;omega,by show (C.inputs++[U.1]).length<=_;simp only [laQ,lcQ,lnQ];omega,by show C.funs.length<=_;omega,by show C.outputs.length<=_;omega⟩,by omega,by omega,z.trans (q6m h8 (by omega) (fun h_=>A ((xA b).symm.trans h_)) ((xA b).trans S) X)⟩
 replace N:=N.dl [4,3,2,1,0]
 exact hP (z.trans (q3m h8 (by omega) (fun h_=>A ((xA b).symm.trans h_)) ((xA b).trans S) X)) (v) (J.pk) N
 by_cases b0:k0=(⟨#[102,117,110]⟩:Bs)
 refine go fun a J=>?_
 refine gI (E0:=[(3,.pointer (some ⟨wd,0,none⟩)),(2,.pointer (some ⟨c0,0,none⟩))]) [1,2,2,0,0,0,1,0] (.q 0 (.q 1 (.q 2 (.e 3 (.e 4 (.e 5 (.q 6 (.e 7 (.done))))))))) [.gs (I) 9 1 (strs C.outputs),.gs (F) 36 2 d1,.gs (E) 126 2 d0,.blk rp (ob [.pointer (some ⟨r,0,none⟩)] 208),.blk c0 (ob [E,F,H,I] 27),.blk wd (ob [.int .i64 ((0:Nat):Int)] 3)] (J.pk) N mixed (by kernel_rfl) (by simp) (by kernel_rfl) fun w N=>?_
 refine go fun a J=>?_
 replace N:=N.pl 4
 refine d_e J rfl rfl rfl (z8g J rfl call141 (rfun_ok hE G (i:=(j+1)) rl j0 (by omega) N) (fun p e1 w Y r0 N=>⟨fun _=>N.sn ((Fz.Le.refl _).trans (r0.1)),fun a J=>?_⟩) (fun p w Y N=>fun a J=>?_))
 obtain ⟨C0,A1⟩:=e1
 obtain ⟨u,g0⟩:=r0
 simp only at u g0 N J
 have Q0:=fun_le Y
 replace rl:=rl.up u
 replace G:=G.mono u
 replace g:=g.mono fun _ _ h=>RData.mono _ _ _ _ u h
 replace d:=d.mono fun _ _ h=>RParam.mono _ _ _ _ u h
 replace c:=c.mono fun _ _ h=>RFun.mono _ _ _ _ u h
 replace V:=V.mono u
 replace N:=N.nf
 obtain ⟨L1,w1,rfl,N0,O0⟩:=id g0
 obtain ⟨W0,J0,rfl,k1,q1⟩:=N0.fm
 obtain ⟨X0,K0,Y0,L0,rfl,g1,B1,C1,l1,r1,m1,s1⟩:=REx.fm O0
 refine jQ fun v75 w N a J=>?_
 refine vH 3 rt_24 (fun v76 w N a J=>?_) (hb:=by have h_:=c.length;rw [h_];simp only [lcQ,lnQ];omega)
 refine Sto 7 fun w N a J=>?_
 refine go fun a J=>?_
 replace N:=N.ar [0] [7,7,7,3,7,7,7,7]
 refine l0 _ _ _ (by subst m0;omega) ⟨(C0),(p.2),(f - 1),(E),(F),(v76),(I),(d0),(d1),((d2++[.string p.1.name,.slice W0 p.1.params.length J0,.string p.1.result,.int .i64 (p.1.body.kind),.int .i64 (p.1.body.num),.string p.1.body.name,.slice X0 p.1.body.args.length K0,.slice Y0 p.1.body.arms.length L0])),({ C with funs:=C.funs++[p.1] }),rfl,⟨J.pk,by exact N⟩,?_⟩
 refine ⟨(v).trans u,?_⟩
 exact ⟨g,d,(c.snoc (k:=8) (x:=p.1) rfl g0),⟨by show C.datas.length<=_;omega,by show C.inputs.length<=_;omega,by show (C.funs++[p.1]).length<=_;simp only [laQ,lcQ,lnQ];omega,by show C.outputs.length<=_;omega⟩,by omega,by omega,z.trans (j8q h8 (by omega) (fun h_=>A ((xA b).symm.trans h_)) (fun h_=>S ((xA b).symm.trans h_)) ((xA b).trans b0) Y)⟩
 replace N:=N.dl [4,3,2,1,0]
 exact hP (z.trans (j1p h8 (by omega) (fun h_=>A ((xA b).symm.trans h_)) (fun h_=>S ((xA b).symm.trans h_)) ((xA b).trans b0) Y)) (v) (J.pk) N
 refine go fun a J=>?_
 by_cases s0:k0=(⟨#[111,117,116,112,117,116]⟩:Bs)
 refine go fun a J=>?_
 refine gI (E0:=[(3,.pointer (some ⟨wd,0,none⟩)),(2,.pointer (some ⟨c0,0,none⟩))]) [1,2,2,0,0,0,1,0] (.q 0 (.q 1 (.q 2 (.e 3 (.e 4 (.e 5 (.q 6 (.e 7 (.done))))))))) [.gs (H) 112 8 d2,.gs (F) 36 2 d1,.gs (E) 126 2 d0,.blk rp (ob [.pointer (some ⟨r,0,none⟩)] 208),.blk c0 (ob [E,F,H,I] 27),.blk wd (ob [.int .i64 ((0:Nat):Int)] 3)] (J.pk) N mixed (by kernel_rfl) (by simp) (by kernel_rfl) fun w N=>?_
 refine go fun a J=>?_
 replace N:=N.pl 4
 refine d_e J rfl rfl rfl (z8f J rfl call142 (aZ G (i:=(j+1)) rl j0 (by omega) N) (fun p0 w Z N=>⟨fun _=>N.sn (Fz.Le.refl _),fun a J=>?_⟩) (fun p0 w Z N=>fun a J=>?_))
 have H0:=xE Z
 refine jQ fun O1 w N a J=>?_
 refine vH 2 xQ (fun b1 w N a J=>?_) (hb:=by simp [zR];omega)
 refine Sto 7 fun w N a J=>?_
 refine go fun a J=>?_
 first | rw [qI] at N | rw [<- yN] at N
 replace N:=N.ar [0] [7,7,7,3,7,7,7,7]
 refine l0 _ _ _ (by subst m0;omega) ⟨(P),(p0.2),(f - 1),(E),(F),(H),(b1),(d0),(d1),(d2),({ C with outputs:=C.outputs++[p0.1] }),rfl,⟨J.pk,by exact N⟩,?_⟩
 refine ⟨v,?_⟩
 exact ⟨g,d,c,⟨by show C.datas.length<=_;omega,by show C.inputs.length<=_;omega,by show C.funs.length<=_;omega,by show (C.outputs++[p0.1]).length<=_;simp only [laQ,lcQ,lnQ];omega⟩,by omega,by omega,z.trans (j8r h8 (by omega) (fun h_=>A ((xA b).symm.trans h_)) (fun h_=>S ((xA b).symm.trans h_)) (fun h_=>b0 ((xA b).symm.trans h_)) ((xA b).trans s0) Z)⟩
 replace N:=N.dl [4,3,2,1,0]
 exact hP (z.trans (j1q h8 (by omega) (fun h_=>A ((xA b).symm.trans h_)) (fun h_=>S ((xA b).symm.trans h_)) (fun h_=>b0 ((xA b).symm.trans h_)) ((xA b).trans s0) Z)) (v) (J.pk) N
 refine Qq (fun a J=>?_) (o:=by exact fun J O=>wG ((j:Nat):Int) J rfl rfl (by rw [jI (by omega)];omega))
 refine Sto 4 fun w N a J=>?_
 refine go fun a J=>?_
 replace N:=N.pl 4
 refine stP J rfl rfl rfl (gM J rfl call143 (tU (i:=j) rl j0 (by omega) N) (fun w N=>fun a J=>?_))
 replace N:=N.dl [4,3,2,1,0]
 exact hP (z.trans (j8o h8 (by omega) (fun h_=>A ((xA b).symm.trans h_)) (fun h_=>S ((xA b).symm.trans h_)) (fun h_=>b0 ((xA b).symm.trans h_)) (fun h_=>s0 ((xA b).symm.trans h_)))) (v) (J.pk) N
 refine go fun a J=>?_
 have s:=N
 clear N
 obtain ⟨D0,L,N,n0⟩:=s.freezeRow (i:=3) rfl
 clear s
 replace G:=G.mono L
 replace g:=g.mono fun _ _ h=>RData.mono _ _ _ _ L h
 replace d:=d.mono fun _ _ h=>RParam.mono _ _ _ _ L h
 replace c:=c.mono fun _ _ h=>RFun.mono _ _ _ _ L h
 replace N:=N.nf
 have m:SliceOf RData D0 2 _ (C.datas):=⟨_,n0,g⟩
 obtain ⟨H1,x1,i0,n1,t1⟩:=m.form (by decide)
 have l:=N
 clear N
 subst i0
 have N:=l
 clear l
 have s:=N
 clear N
 obtain ⟨F0,M,N,o0⟩:=s.freezeRow (i:=2) rfl
 clear s
 replace G:=G.mono M
 replace d:=d.mono fun _ _ h=>RParam.mono _ _ _ _ M h
 replace c:=c.mono fun _ _ h=>RFun.mono _ _ _ _ M h
 replace m:=m.up M
 replace N:=N.nf
 have B:SliceOf RParam F0 2 _ (C.inputs):=⟨_,o0,d⟩
 obtain ⟨I1,y1,i0,o1,S0⟩:=B.form (by decide)
 have l:=N
 clear N
 subst i0
 have N:=l
 clear l
 have s:=N
 clear N
 obtain ⟨w0,y,N,h0⟩:=s.freezeRow (i:=1) rfl
 clear s
 replace G:=G.mono y
 replace c:=c.mono fun _ _ h=>RFun.mono _ _ _ _ y h
 replace m:=m.up y
 replace B:=B.up y
 replace N:=N.nf
 have a0:SliceOf RFun w0 8 _ (C.funs):=⟨_,h0,c⟩
 obtain ⟨v1,f1,i0,R0,T0⟩:=a0.form (by decide)
 have l:=N
 clear N
 subst i0
 have N:=l
 clear l
 obtain ⟨p3,m3,q3,A0,_,_⟩:=N.toSees.gsForm (i:=0) rfl
 have l:=N
 clear N
 subst A0
 have N:=l
 clear l
 refine Sto 3 fun w N a J=>?_
 refine Sto 4 fun w N a J=>?_
 refine go fun a J=>?_
 replace N:=N.ar [2,1] [2,2]
 exact hR (z.trans (j8p h8 (by omega))) ((((v).trans L).trans M).trans y) m B a0 (J.pk) N
abbrev readKY (K:List Res) (l Dk rr rp:Nat) (r:Loop) (pre:List Bs) (z:Value):List Res :=
 .blk l (.loop r)::.blk Dk (.deferred (some []))::.blk rr (ob [z,.int .i64 ((0:Nat):Int)] 210)::.gs z 9 1 (strs pre)::.blk rp (ob [.pointer (some ⟨rr,0,none⟩)] 208)::K
set_option maxRecDepth 20000 in
set_option maxHeartbeats 4000000 in
theorem j3h {Ψ:Fz} {K K0:List Res} {w:World} {l Dk rr rp n:Nat} {r:Loop} {pre:List Bs} {z:Value} {k:Bs} (p:pre.length < n) (A:n<=800000)
  (c:r.params=#[11]) (j:r.state=.ready) (g:r.pending=none)
  (u:∀(a:Act) (w:World),EnvR 96 [(11,.string k),(4,.pointer (some ⟨rp,0,none⟩))] [] a ->
   r.assign.wpIn (FO (some l)) 2 prog (Exit.then (fun m q=>EnvR 96 [(5,.string k),(4,.pointer (some ⟨rp,0,none⟩))] [] m/\q=w) (fun _ _ _=>False)) a w)
  (hb:∀(a:Act) (w:World) (K:List Res) (o:Obj),EnvR 96 [(5,.string k),(4,.pointer (some ⟨rp,0,none⟩))] [] a->Mem Ψ (.blk l o::.blk rr (ob [z,.int .i64 ((0:Nat):Int)] 210)::.gs z 9 1 (strs pre)::.blk rp (ob [.pointer (some ⟨rr,0,none⟩)] 208)::K) w ->
   r.body.wpIn (FO (some l)) 2 prog (fun e _ w=>e=.normal/\∃v,Mem Ψ (.blk l o::.blk rr (ob [v,.int .i64 ((0:Nat):Int)] 210)::.gs v 9 1 (strs (pre++[k]))::.blk rp (ob [.pointer (some ⟨rr,0,none⟩)] 208)::K) w) a w)
  (J:EnvR 96 [(4,.pointer (some ⟨rp,0,none⟩))] [] ⟨r.tmps,[]⟩) (N:Mem Ψ (K0++readKY K l Dk rr rp r pre z) w) :
  YieldAt Fence.wide 2 prog l #[.string k] w (fun e w'=>e=.returned (.bool true)/\∃z',Mem Ψ (K0++readKY K l Dk rr rp r (pre++[k]) z') w'):=by
 have b:Mem Ψ (readKY K l Dk rr rp r pre z++K0) w:=N.perm List.perm_append_comm
 replace b:Mem Ψ (.blk l (.loop r)::.blk rr (ob [z,.int .i64 ((0:Nat):Int)] 210)::.gs z 9 1 (strs pre)::.blk rp (ob [.pointer (some ⟨rr,0,none⟩)] 208)::.blk Dk (.deferred (some []))::(K++K0)) w :=
  ((((b.pull (i:=4) rfl).pull (i:=4) rfl).pull (i:=4) rfl).pull (i:=3) rfl)
 have hl:w.heap[l]? = some (.loop r):=b.own _ msQ
 refine ⟨r.fn,r.tmps.setIfInBounds 11 (.string k),r.assign,r.body,?_,?_⟩
 ·rw [run_yield hl (by rw [c];rfl),c,zip1];simp
 ·have f:EnvR 96 [(11,.string k),(4,.pointer (some ⟨rp,0,none⟩))] [] ⟨r.tmps.setIfInBounds 11 (.string k),[]⟩:=J.put (d:=11) rfl
  have h:=q9n (P:=prog) (E1:=fun (_:Unit)=>[(5,.string k),(4,.pointer (some ⟨rp,0,none⟩))]) (K1:=fun _=>.blk rr (ob [z,.int .i64 ((0:Nat):Int)] 210)::.gs z 9 1 (strs pre)::.blk rp (ob [.pointer (some ⟨rr,0,none⟩)] 208)::.blk Dk (.deferred (some []))::(K++K0))
   (KO:=fun v=>.blk rr (ob [v,.int .i64 ((0:Nat):Int)] 210)::.gs v 9 1 (strs (pre++[k]))::.blk rp (ob [.pointer (some ⟨rr,0,none⟩)] 208)::.blk Dk (.deferred (some []))::(K++K0)) b j g f
   (fun a J=>Code.wpIn_mono (fun e m q h=>by
    cases e with
    | normal=>exact ⟨(),h.1,h.2▸b⟩
    | _=>exact h) (u a w J)) (fun _ a w J N=>hb a w _ _ J N)
  refine h.mono fun e w' y=>?_
  obtain ⟨h1,v,s⟩:=y
  refine ⟨h1,v,?_⟩
  have t:Mem Ψ (readKY K l Dk rr rp r (pre++[k]) v++K0) w':=(((((s.pull (i:=3) rfl).pull (i:=3) rfl).pull (i:=3) rfl).pull (i:=4) rfl).pull (i:=4) rfl)
  exact t.perm List.perm_append_comm
theorem q9g {P:Program} {fn:Func} {n:Nat} {E:List (Nat×Value)} {D:List Deferred} {a:Act} {Φ:Fz} {K:List Res} {w:World} {t u T U k i j b c:Nat} {v:Value} {cs:List Value} {g h:TypeId} (J:EnvR n E D a) (N:Sees Φ K w) (hr:fn.results=#[.cell u U,.cell t T]) (r:get E t=some (.pointer (some ⟨b,0,none⟩)))
  (q:qU K i=some (.blk b (ob [v] g))) (p:Scalar P T) (f:get E u=some (.pointer (some ⟨c,0,none⟩))) (e:qU K j=some (.blk c (ob cs h))) (d:AggT P U) (o:SizeT P U k) (hl:cs.length=k) :
  (results fn a.tmps).run P w=.ok (.tuple #[.agg cs.toArray,v]) w:=by
 have h1:w.cell? ⟨b,0,none⟩=some v:=N.cell q 0
 have l:=j5r (P:=P) J N f e d o hl
 have m:(loadVar T ⟨b,0,none⟩).run P w=.ok v w:=by simp [loadVar,Sem.run_bind,p w,Result.andThen,load,Sem.run,h1]
 simp [results,hr,Array.getD_eq_getD_getElem?,J.env t _ r,J.env u _ f,asAddr,l,m,Sem.run_bind,Result.andThen]
set_option maxRecDepth 20000 in
set_option maxHeartbeats 4000000 in
theorem read_ok {Φ:Fz} {K:List Res} {w:World} {t:Bs} (G:Glob Φ) (h2:t.size<=800000) (N:Mem Φ K w) :
  Calls prog 98 #[.string t] w (fun ee w'=>Out (z0y t)
   (fun C=>∃y:Fz×Value×Value×Value×Value,ee=.returned (.tuple #[.agg #[y.2.1,y.2.2.1,y.2.2.2.1,y.2.2.2.2],.int .i64 ((0:Nat):Int)])/\(Φ.Le y.1/\SliceOf RData y.1 2 y.2.1 C.datas/\SliceOf RParam y.1 2 y.2.2.1 C.inputs/\SliceOf RFun y.1 8 y.2.2.2.1 C.funs)/\Mem y.1 (.gs y.2.2.2.2 9 1 (strs C.outputs)::K) w')
   (fun n=>ee=.returned (.tuple #[.agg #[.slice none 0 0,.slice none 0 0,.slice none 0 0,.slice none 0 0],.int .i64 ((n:Nat):Int)])/\Mem Φ K w')):=by
 refine z8h func98 rfl ntmps98 rfl (fun Q hQ a J=>?_)
 refine sq fun L1 H=>?_
 refine wp_region_lit ?_
 refine st J rfl rfl rfl (yT (cs:=[.slice none 0 0,.slice none 0 0,.slice none 0 0,.slice none 0 0]) N zeroValue27 rfl fun c0 w N a J=>?_)
 refine st J rfl rfl rfl (yT (cs:=[.int .i64 ((0:Nat):Int)]) N zeroValue3 rfl fun wd w N a J=>?_)
 refine wpList_nil ?_
 apply H
 refine sq fun L2 I=>?_
 refine wp_region_lit ?_
 refine kB J (z5m (vfs:=[]) (vcs:=[.pointer (some ⟨c0,0,none⟩),.pointer (some ⟨wd,0,none⟩)]) J rfl rfl) rfl fun a J=>?_
 refine y1b (fs:=[]) (cs:=[.pointer (some ⟨c0,0,none⟩),.pointer (some ⟨wd,0,none⟩)]) (vs:=[]) J rfl rfl fun a J=>?_
 refine wpList_nil ?_
 apply I
 refine sq fun L3 L=>?_
 refine wp_region_lit ?_
 refine kB J (z0u (vs:=[]) (cs:=[.slice none 0 0,.int .i64 ((0:Nat):Int)]) J rfl (by kernel_rfl)) rfl fun a J=>?_
 refine st J rfl rfl rfl (jA (cs:=[.slice none 0 0,.int .i64 ((0:Nat):Int)]) J N rfl rfl fun rr w N a J=>?_)
 refine st J rfl rfl rfl (yT (cs:=[.pointer none]) N zeroValue208 rfl fun rp w N a J=>?_)
 refine st0 J rfl rfl (yA 0 (cs:=[.pointer none]) (vs:=[.pointer (some ⟨rr,0,none⟩)]) J N rfl rfl rfl rfl sizeOf208 rfl rfl rfl fun w N a J=>?_)
 refine wpList_nil ?_
 apply L
 replace N:Mem Φ (.blk rp (ob [.pointer (some ⟨rr,0,none⟩)] 208)::.blk rr (ob [.slice none 0 0,.int .i64 ((0:Nat):Int)] 210)::.blk wd (ob [.int .i64 ((0:Nat):Int)] 3)::.blk c0 (ob [.slice none 0 0,.slice none 0 0,.slice none 0 0,.slice none 0 0] 27)::K) w:=N
 refine sq fun L4 M=>?_
 refine sq fun L5 R=>?_
 refine wp_region_lit ?_
 refine kB J (jY J rfl) rfl fun a J=>?_
 refine st J rfl rfl rfl (jG J rfl call138 (v0d N) (fun bx w _ N a J=>?_))
 refine wpList_nil ?_
 apply R
 refine wp_block ?_
 refine z7q (P:=prog) (β:=Value) (δ:=Unit) (gf:=175) (fs:=[]) (cs:=[.pointer (some ⟨bx,0,none⟩)]) (F1:=fun _=>Φ)
  (KO:=fun z=>.blk rr (ob [z,.int .i64 ((0:Nat):Int)] 210)::.gs z 9 1 (strs (sX t))::.blk rp (ob [.pointer (some ⟨rr,0,none⟩)] 208)::.blk wd (ob [.int .i64 ((0:Nat):Int)] 3)::.blk c0 (ob [.slice none 0 0,.slice none 0 0,.slice none 0 0,.slice none 0 0] 27)::K)
  (KE:=fun _=>K)
  (G:=fun _=>True) (B:=fun _ _=>False) J N rfl call175 ?_ ?_ ?_
 ·intro Dk l r w V has S W U T N
  have d:=N.nilRow 9 1
  replace d:Mem Φ (.blk bx (ob [.string t] 9)::readKY (.blk wd (ob [.int .i64 ((0:Nat):Int)] 3)::.blk c0 (ob [.slice none 0 0,.slice none 0 0,.slice none 0 0,.slice none 0 0] 27)::K) l Dk rr rp r [] (.slice none 0 0)) w :=
   ((((((d.pull (i:=4) rfl).pull (i:=1) rfl).pull (i:=5) rfl).pull (i:=4) rfl).pull (i:=4) rfl).pull (i:=5) rfl)
  have h:=x2p (l:=l) (KY:=readKY (.blk wd (ob [.int .i64 ((0:Nat):Int)] 3)::.blk c0 (ob [.slice none 0 0,.slice none 0 0,.slice none 0 0,.slice none 0 0] 27)::K) l Dk rr rp r) (by omega) (fun pre z K0 k w p N=>?_) d
  ·refine h.mono fun e w' hh=>?_
   obtain ⟨z,rfl,b⟩:=hh
   exact .inl ⟨_,z,rfl,trivial,b⟩
  ·refine j3h (n:=t.size) p h2 V W U (fun a w J=>?_) (fun a w K o J N=>?_) (T.of_sub ⟨rfl,trivial⟩) N
   ·rw [has]
    refine wpIn_region_lit ?_
    refine yZ J (by intro c h;cases h) (kZ J rfl) rfl fun a J=>?_
    refine wpListIn_nil ?_
    exact ⟨J.of_sub ⟨rfl,rfl,trivial⟩,rfl⟩
   ·rw [S]
    refine wpIn_block ?_
    refine cV [2,2,1,1,2,1,0,0,1,1,0] (.q 0 (.q 1 (.q 2 (.q 3 (.q 4 (.q 5 (.e 6 (.e 7 (.q 8 (.q 9 (.e 10 (.done)))))))))))) [.blk rr (ob [z,.int .i64 ((0:Nat):Int)] 210),.blk rp (ob [.pointer (some ⟨rr,0,none⟩)] 208)] J N mixed (by kernel_rfl) (by simp) (by kernel_rfl) fun w N=>?_
    refine d_q J rfl rfl (fun w O=>qD 1 J O rfl rfl rfl isAgg208) rfl fun a J=>?_
    refine d_q J rfl rfl (fun w O=>qD 1 J O rfl rfl rfl isAgg208) rfl fun a J=>?_
    refine y3u J rfl rfl (fun w=>z5n J rfl) rfl fun a J=>?_
    refine y3u J rfl rfl (fun w=>jE J rfl y4p rfl) rfl fun a J=>?_
    refine d_q J rfl rfl (fun w O=>qD 0 J O rfl rfl rfl isAgg25) rfl fun a J=>?_
    refine y3u J rfl rfl (fun w=>jY J rfl) rfl fun a J=>?_
    refine d_e J rfl rfl rfl (kL (sz:=1) (cs:=[.string k]) J N rfl (z1e runUnderlying25 sizeOf9 zeroValue9 rfl (by decide) rfl) rfl (by decide) fun v w N _=>⟨fun _=>N.seesIn (Fz.Le.refl _) (by simp),fun a J=>?_⟩)
    refine d_e J rfl rfl rfl (gZ 3 (xs:=strs pre) (news:=[.string k]) xQ J N rfl rfl rfl (N.toSees.rowIn (i:=0) rfl) rfl (by simp [zR];omega) fun v2 w N=>⟨fun _=>N.seesIn (Fz.Le.refl _) (by simp [pU]),fun a J=>?_⟩)
    replace N:Mem Φ (.gs v 9 1 [.string k]::.blk l o::.blk rr (ob [z,.int .i64 ((0:Nat):Int)] 210)::.gs v2 9 1 (strs (pre++[k]))::.blk rp (ob [.pointer (some ⟨rr,0,none⟩)] 208)::K) w:=by rw [yN];exact N
    refine y3u J rfl rfl (fun w=>z5n J rfl) rfl fun a J=>?_
    refine y3u J rfl rfl (fun w=>jE J rfl y4p rfl) rfl fun a J=>?_
    refine wA J rfl rfl (yA 2 (cs:=[z,.int .i64 ((0:Nat):Int)]) (vs:=[v2]) J N rfl rfl rfl (N.toSees.gsCells (i:=3) rfl) sizeOf25 rfl (N.toSees.gsOne (i:=3) rfl) rfl fun w N=>⟨yJ (by kernel_rfl),fun a J=>?_⟩)
    refine q3l ?_
    exact ⟨rfl,v2,N.del 0⟩
 ·intro Dk z a w _ J N
  apply M
  obtain ⟨Ψ,le,N,A⟩:=N.freezeRow (i:=2) rfl
  have rl:SliceOf RStr Ψ 1 z (sX t):=SliceOf.strs.2 A
  have D:(sX t).length<=1000000:=Nat.le_trans (sN t.size 0) (by omega)
  have X:∀j,(zF (sX t) j).size<=1000000:=fun j=>x1j (fun s O=>Nat.le_trans (sO t.size 0 s O) (by omega)) j
  replace N:Mem Ψ (.blk rr (ob [z,.int .i64 ((0:Nat):Int)] 210)::.blk rp (ob [.pointer (some ⟨rr,0,none⟩)] 208)::.blk c0 (ob [.slice none 0 0,.slice none 0 0,.slice none 0 0,.slice none 0 0] 27)::.blk wd (ob [.int .i64 ((0:Nat):Int)] 3)::.blk Dk (.deferred (some []))::K) w:=((((N.pull (i:=3) rfl).pull (i:=4) rfl).pull (i:=4) rfl).pull (i:=4) rfl)
  refine x1m (ws:=sX t) (c0:=c0) (wd:=wd) (rp:=rp) (r:=rr) (G.mono le) (q9i D X 250 (by decide)) rl D ?_ ?_ (J.of_sub ⟨rfl,rfl,rfl,trivial⟩) N
  ·intro m a w C Y Z u2 u3 E g r0 r1 r2 J N
   refine hQ _ _ _ ?_
   show nN _ _ _ _ a.defers _ _
   rw [J.defs]
   replace N:=N.pull (i:=3) rfl
   have F:w.heap[Dk]? = some (.deferred (some [])):=N.own _ msQ
   have b:=N.putObj (i:=0) (o':=.deferred none) rfl
   refine aV (by simp) F (oB ?_)
   refine leaves_cons (f:=137) (args:=#[.pointer (some ⟨c0,0,none⟩),.pointer (some ⟨wd,0,none⟩)]) (by simp) (call137 _ _) ?_
   refine catchR_none.mono ?_
   rintro e u' w'' ⟨rfl,rfl,rfl⟩
   refine ⟨_,q9g (i:=2) (j:=1) J b.toSees results98 rfl rfl isAgg3 rfl rfl isAgg27 sizeOf27 rfl,?_⟩
   show Out (z0y t) _ _
   rw [show z0y t=.ok C from E]
   exact ⟨(m,Y,Z,u2,u3),rfl,⟨le.trans g,r0,r1,r2⟩,((b.del 0).del 0).del 0⟩
  ·intro m a w n Y Z u2 u3 x E g J N
   refine hQ _ _ _ ?_
   show nN _ _ _ _ a.defers _ _
   rw [J.defs]
   replace N:=N.pull (i:=2) rfl
   have F:w.heap[Dk]? = some (.deferred (some [])):=N.own _ msQ
   have b:=(N.putObj (i:=0) (o':=.deferred none) rfl)
   replace b:Mem m (.blk c0 (ob [Y,Z,u2,u3] 27)::.blk wd (ob [x] 3)::.blk Dk (.deferred none)::K) (w.putObj Dk (.deferred none)):=(b.pull (i:=2) rfl).pull (i:=2) rfl
   refine aV (by simp) F (oB ?_)
   refine leaves_cons (f:=137) (args:=#[.pointer (some ⟨c0,0,none⟩),.pointer (some ⟨wd,0,none⟩)]) (by simp) (call137 _ _) ?_
   refine (q3j b).mono ?_
   rintro e' u' w'' ⟨rfl,rfl,u⟩
   refine ⟨_,q9g (i:=1) (j:=0) J u.toSees results98 rfl rfl isAgg3 rfl rfl isAgg27 sizeOf27 rfl,?_⟩
   show Out (z0y t) _ _
   rw [show z0y t=.error n from E]
   exact ⟨rfl,(((u.del 0).del 0).del 0).le (le.trans g)⟩
 ·intro Dk y c a w hB J N
  exact hB.elim
def Pos {α:Type} (f:Nat->Rd α):Prop:=∀i n,f i=.error n->0 < n
section
variable {ws:List Bs}
theorem Pos.bind {α β:Type} {f:Nat->Rd α} {g:α->Nat->Rd β} (a:Pos f) (b:∀x,Pos (g x)):Pos (fun i=>yY (f i) g):=fun i n h=>by
 cases hr:f i with
 | error m=>
  simp only [yY,hr] at h
  cases h;exact a i _ hr
 | ok y=>
  simp only [yY,hr] at h
  exact b _ _ n h
theorem Pos.ok {α:Type} (f:Nat->α×Nat):Pos (fun i=>(.ok (f i):Rd α)):=fun i n h=>by cases h
theorem Pos.ite {α:Type} {p:Nat->Prop} [∀i,Decidable (p i)] {f g:Nat->Rd α} (a:Pos f) (b:Pos g):Pos (fun i=>if p i then f i else g i):=fun i n h=>by
 simp only at h
 split at h
 ·exact a i n h
 ·exact b i n h
theorem Pos.next {α:Type} {f:Nat->Rd α} (a:Pos f):Pos (fun i=>f (i+1)):=fun i n h=>a (i+1) n h
theorem Pos.err {α:Type}:Pos (fun i=>(.error (i+1):Rd α)):=fun i n h=>by cases h;exact Nat.succ_pos _
theorem kX (p:Bs->Bool):Pos (nK ws p):=fun i n h=>by
 unfold nK at h
 split at h
 ·cases h;exact Nat.succ_pos _
 ·cases h
theorem aW (w:Bs):Pos (wZ ws w):=(kX _).bind fun _=>Pos.ok fun i=>((),i)
theorem y6d {ex:Nat->Rd Ex} (J:Pos ex):∀f least,Pos (wP ws ex f least)
 | 0,_=>Pos.err
 | f+1,least=>Pos.ite (p:=fun i=>0 < least∨zF ws i≠sCls) (J.bind fun e=>(y6d J f _).bind fun l=>Pos.ok fun i=>(e::l,i)) (Pos.ok fun i=>([],i))
theorem j7q {ex:Nat->Rd Ex} (J:Pos ex):Pos (z7l ex):=J.bind fun a=>J.bind fun b=>Pos.ok fun i=>([a,b],i)
theorem j0m:∀f,Pos (gB ws f)
 | 0=>Pos.err
 | f+1=>Pos.ite (p:=fun i=>zF ws i≠y7n) ((kX _).bind fun s=>(j0m f).bind fun l=>Pos.ok fun i=>(s::l,i)) (Pos.ok fun i=>([],i))
theorem arm_pos {ex:Nat->Rd Ex} (J:Pos ex):Pos (armP ws ex) :=
 (aW _).bind fun _=>(kX _).bind fun c=>(j0m _).bind fun vs=>(aW _).bind fun _=>J.bind fun b=>(aW _).bind fun _=>Pos.ok fun i=>(Arm.mk c vs b,i)
theorem q5y {ex:Nat->Rd Ex} (J:Pos ex):∀f b,Pos (gU ws ex f b)
 | 0,_=>Pos.err
 | f+1,b=>Pos.ite (p:=fun i=>b=true∨zF ws i=gJ) ((arm_pos J).bind fun a=>(q5y J f false).bind fun l=>Pos.ok fun i=>(a::l,i)) (Pos.ok fun i=>([],i))
theorem x5y {ex:Nat->Rd Ex} (J:Pos ex):Pos (qF ws ex):=fun i n h=>by
 unfold qF at h
 split at h
 ·exact (j7q J).bind (fun l=>Pos.ok fun j=>(Ex.mk 8 0 (zF ws i) l [],j)) (i+1) n h
 ·split at h
  ·exact (kX _).bind (fun x=>(j7q J).bind fun l=>Pos.ok fun j=>(Ex.mk 6 0 x l [],j)) (i+1) n h
  ·split at h
   ·exact J.bind (fun a=>(q5y J _ true).bind fun l=>Pos.ok fun j=>(Ex.mk 7 0 sNo [a] l,j)) (i+1) n h
   ·split at h
    ·exact (y6d J _ 1).bind (fun l=>Pos.ok fun j=>(Ex.mk 4 0 (zF ws i) l [],j)) (i+1) n h
    ·exact (kX _).bind (fun x=>(y6d J _ 0).bind fun l=>Pos.ok fun j=>(Ex.mk 5 0 x l [],j)) i n h
theorem q6s:∀d,Pos (zY ws d)
 | 0=>Pos.err
 | d+1=>fun i n h=>by
  simp only [zY] at h
  split at h
  ·cases h;exact Nat.succ_pos _
  ·split at h
   ·cases h
   ·split at h
    ·exact (x5y (q6s d)).bind (fun e=>(aW _).bind fun _=>Pos.ok fun j=>(e,j)) (i+1) n h
    ·split at h
     ·cases h
     ·split at h
      ·cases h
      ·exact (kX _).bind (fun x=>Pos.ok fun j=>(Ex.mk 2 0 x [] [],j)) i n h
theorem y4l:∀f,Pos (kN ws f)
 | 0=>Pos.err
 | f+1=>Pos.ite (p:=fun i=>qB (zF ws i)=true) ((kX _).bind fun s=>(y4l f).bind fun l=>Pos.ok fun i=>(s::l,i)) (Pos.ok fun i=>([],i))
theorem q6k:∀f,Pos (gV ws f)
 | 0=>Pos.err
 | f+1=>(kX _).bind fun n=>(y4l _).bind fun l=>Pos.ite (p:=fun i=>zF ws i≠sBar) (Pos.ok fun i=>([(⟨n,l⟩:Con)],i)) ((q6k f).bind (fun cs=>Pos.ok fun i=>((⟨n,l⟩:Con)::cs,i))).next
theorem x3t:Pos (cW ws):=(kX _).bind fun n=>(aW _).bind fun _=>(q6k _).bind fun l=>Pos.ok fun i=>((⟨n,l⟩:Data),i)
theorem q1w:Pos (pG ws):=(kX _).bind fun n=>(aW _).bind fun _=>(kX _).bind fun t=>Pos.ok fun i=>((⟨n,t⟩:Param),i)
theorem y6s:∀f,Pos (wK ws f)
 | 0=>Pos.err
 | f+1=>Pos.ite (p:=fun i=>zF ws i=gJ) ((q1w).bind (fun p=>(aW _).bind fun _=>(y6s f).bind fun l=>Pos.ok fun i=>(p::l,i))).next (Pos.ok fun i=>([],i))
theorem fun_pos:Pos (hH ws):=(kX _).bind fun n=>(y6s _).bind fun ps=>(aW _).bind fun _=>(kX _).bind fun r=>(aW _).bind fun _=>(q6s _).bind fun b=>Pos.ok fun i=>((⟨n,ps,r,b⟩:Fun),i)
theorem tC:∀f c i n,jO ws f c i=.error n->0 < n
 | 0,_,_,_,h=>by cases h;exact Nat.succ_pos _
 | f+1,c,i,n,h=>by
  simp only [jO] at h
  split at h
  ·split at h
   ·split at h
    ·exact tC f _ _ n h
    ·rename_i a;cases h;exact x3t _ _ a
   ·split at h
    ·split at h
     ·exact tC f _ _ n h
     ·rename_i a;cases h;exact q1w _ _ a
    ·split at h
     ·split at h
      ·exact tC f _ _ n h
      ·rename_i a;cases h;exact fun_pos _ _ a
     ·split at h
      ·split at h
       ·exact tC f _ _ n h
       ·rename_i a;cases h;exact kX _ _ _ a
      ·cases h;exact Nat.succ_pos _
  ·cases h
end
theorem x8a {t:Bs} {n:Nat} (h:z0y t=.error n):0 < n:=tC _ _ _ _ h
def cQ (t:Bs):Except (Nat×Int) Core:=if 60000 < t.size then .error (0,2) else match z0y t with
 | .error n=>.error (n,5)
 | .ok c=>if yG c=0 then .ok c else .error (0,yG c)
theorem j2z {t:Bs} (h:60000 < t.size):cQ t=.error (0,2):=if_pos h
theorem j3b {t:Bs} {n:Nat} (h:¬60000 < t.size) (a:z0y t=.error n):cQ t=.error (n,5):=by unfold cQ;rw [if_neg h,a]
theorem q8s {t:Bs} {c:Core} (h:¬60000 < t.size) (a:z0y t=.ok c) (b:¬yG c=0):cQ t=.error (0,yG c):=by unfold cQ;rw [if_neg h,a];exact if_neg b
theorem y6u {t:Bs} {c:Core} (h:¬60000 < t.size) (a:z0y t=.ok c) (b:yG c=0):cQ t=.ok c:=by unfold cQ;rw [if_neg h,a];exact if_pos b
theorem x7q {Φ:Fz} {K:List Res} {w:World} {t:Bs} (G:Glob Φ) (N:Mem Φ K w) :
  Calls prog 62 #[.string t] w (fun ee w'=>Out (cQ t)
   (fun C=>∃y:Fz×Value×Value×Value×Value,ee=.returned (.tuple #[.agg #[y.2.1,y.2.2.1,y.2.2.2.1,y.2.2.2.2],.int .i64 ((0:Nat):Int),.int .i64 ((0:Nat):Int)])/\(Φ.Le y.1/\SliceOf RData y.1 2 y.2.1 C.datas/\SliceOf RParam y.1 2 y.2.2.1 C.inputs/\SliceOf RFun y.1 8 y.2.2.2.1 C.funs)/\Mem y.1 (.gs y.2.2.2.2 9 1 (strs C.outputs)::K) w')
   (fun c=>ee=.returned (.tuple #[.agg #[.slice none 0 0,.slice none 0 0,.slice none 0 0,.slice none 0 0],.int .i64 ((c.1:Nat):Int),.int .i64 c.2])/\Mem Φ K w')):=by
 refine zL func62 ntmps62 fun Q hQ a J=>?_
 refine Alc fun P w N a J=>?_
 by_cases q:60000 < t.size
 refine qO fun a J=>?_
 refine Sto 0 fun w N a J=>?_
 refine go fun a J=>?_
 have d:=N
 replace N:=N.dl [0]
 refine hQ _ _ _ (z9j (i:=0) (cs:=[.slice none 0 0,.slice none 0 0,.slice none 0 0,.slice none 0 0]) J d.toSees results62 rfl rfl isAgg27 sizeOf27 rfl rfl rfl ?_)
 show Out (cQ t) _ _
 rw [j2z q]
 exact ⟨rfl,N⟩
 refine go fun a J=>?_
 refine st J rfl rfl rfl (xU J rfl call98 (read_ok G (by omega) N) (fun g M w b m N a J=>?_) (fun g w b N a J=>?_))
 obtain ⟨z,R,S,T,U⟩:=M
 obtain ⟨e,r,s,u⟩:=m
 simp only at e r s u N J
 replace G:=G.mono e
 replace N:=N.nf
 obtain ⟨p0,q0,rfl,_,_⟩:=r.fm
 obtain ⟨B,F,rfl,_,_⟩:=s.fm
 obtain ⟨D,q2,rfl,_,_⟩:=u.fm
 obtain ⟨E,m3,H,n,_,_⟩:=N.toSees.gsForm (i:=0) rfl
 subst n
 replace N:=N.nf
 refine Alc fun I w N a J=>?_
 refine Sto 0 fun w N a J=>?_
 refine Qq (fun a J=>?_) (o:=by exact fun J O=>q2x false J rfl rfl rfl)
 refine go fun a J=>?_
 have h:=N
 clear N
 obtain ⟨A,f,N,k,j⟩:=h.freezeRowT (i:=1) rfl
 clear h
 replace G:=G.mono f
 replace N:=N.nf
 have p:RCore A [.slice p0 (g.datas).length q0,.slice B (g.inputs).length F,.slice D (g.funs).length q2,.slice E m3 H] g:=⟨_,_,_,_,rfl,r.mono RData.mono f,s.mono RParam.mono f,u.mono RFun.mono f,SliceOf.strs.2 k⟩
 refine zT call36 (fun w N a J=>?_) (c:=y3p p G N)
 refine go fun a J=>?_
 replace N:=j _ _ N
 replace N:=N.nf
 by_cases l:yG g=0
 refine Sto 2 fun w N a J=>?_
 refine go fun a J=>?_
 have d:=N
 replace N:=N.dl [2,1]
 refine hQ _ _ _ (z9j (i:=2) (cs:=[.slice p0 (g.datas).length q0,.slice B (g.inputs).length F,.slice D (g.funs).length q2,.slice E m3 H]) J d.toSees results62 rfl rfl isAgg27 sizeOf27 rfl rfl rfl ?_)
 show Out (cQ t) _ _
 rw [y6u q b l]
 exact ⟨(z,_,_,_,_),rfl,⟨e,r,s,u⟩,N⟩
 refine qO fun a J=>?_
 refine Sto 2 fun w N a J=>?_
 refine go fun a J=>?_
 have d:=N
 replace N:=N.dl [2,1,0]
 refine hQ _ _ _ (z9j (i:=2) (cs:=[.slice none 0 0,.slice none 0 0,.slice none 0 0,.slice none 0 0]) J d.toSees results62 rfl rfl isAgg27 sizeOf27 rfl rfl rfl ?_)
 show Out (cQ t) _ _
 rw [q8s q b l]
 exact ⟨rfl,N.le (e)⟩
 replace N:=N.nf
 have v:=x8a b
 refine Alc fun L w N a J=>?_
 refine Sto 0 fun w N a J=>?_
 refine qO fun a J=>?_
 refine Sto 1 fun w N a J=>?_
 refine go fun a J=>?_
 have d:=N
 replace N:=N.dl [1,0]
 refine hQ _ _ _ (z9j (i:=1) (cs:=[.slice none 0 0,.slice none 0 0,.slice none 0 0,.slice none 0 0]) J d.toSees results62 rfl rfl isAgg27 sizeOf27 rfl rfl rfl ?_)
 show Out (cQ t) _ _
 rw [j3b q b]
 exact ⟨rfl,N⟩
end Go.Sw
namespace Go.Sw
open Go.Proofs
set_option maxRecDepth 40000
set_option maxHeartbeats 4000000
def q2k:Bs:=⟨#[100,97,116,97,32,76,105,115,116,32,61,32,78,105,108,32,124,32,67,111,110,115,32,73,110,116,32,76,105,115,116,10,105,110,112,117,116,32,120,115,32,58,32,76,105,115,116,10,102,117,110,32,115,117,109,32,40,108,32,58,32,76,105,115,116,41,32,58,32,73,110,116,32,61,32,40,99,97,115,101,32,108,32,40,78,105,108,32,45,62,32,48,41,32,40,67,111,110,115,32,104,32,116,32,45,62,32,40,43,32,104,32,40,115,117,109,32,116,41,41,41,41,10,102,117,110,32,116,111,116,97,108,32,58,32,73,110,116,32,61,32,40,115,117,109,32,33,120,115,41,10,102,117,110,32,108,101,115,115,32,40,97,32,58,32,73,110,116,41,32,40,98,32,58,32,73,110,116,41,32,58,32,73,110,116,32,61,32,40,99,97,115,101,32,40,60,32,97,32,98,41,32,40,70,97,108,115,101,32,45,62,32,48,41,32,40,84,114,117,101,32,45,62,32,49,41,41,10,111,117,116,112,117,116,32,116,111,116,97,108,10]⟩
def z_l:Bs:=⟨#[108]⟩
def j7z:Bs:=⟨#[78,105,108]⟩
def z_h:Bs:=⟨#[104]⟩
def z_t:Bs:=⟨#[116]⟩
def y8q:Bs:=⟨#[115,117,109]⟩
def zPlus:Bs:=⟨#[43]⟩
def q5n:Bs:=⟨#[67,111,110,115]⟩
def z_xs:Bs:=⟨#[120,115]⟩
def z_a:Bs:=⟨#[97]⟩
def z_b:Bs:=⟨#[98]⟩
def zLess:Bs:=⟨#[60]⟩
def j7y:Bs:=⟨#[70,97,108,115,101]⟩
def z_True:Bs:=⟨#[84,114,117,101]⟩
def z_data:Bs:=⟨#[100,97,116,97]⟩
def z2t:Bs:=⟨#[76,105,115,116]⟩
def zEq:Bs:=⟨#[61]⟩
def zBar:Bs:=⟨#[124]⟩
def z1a:Bs:=⟨#[73,110,116]⟩
def z_input:Bs:=⟨#[105,110,112,117,116]⟩
def z5o:Bs:=⟨#[58]⟩
def z_fun:Bs:=⟨#[102,117,110]⟩
def z9w:Bs:=⟨#[40]⟩
def z9v:Bs:=⟨#[41]⟩
def z_case:Bs:=⟨#[99,97,115,101]⟩
def q5m:Bs:=⟨#[45,62]⟩
def z_0:Bs:=⟨#[48]⟩
def pI:Bs:=⟨#[116,111,116,97,108]⟩
def v0h:Bs:=⟨#[33,120,115]⟩
def z5p:Bs:=⟨#[108,101,115,115]⟩
def z_1:Bs:=⟨#[49]⟩
def v0k:Bs:=⟨#[111,117,116,112,117,116]⟩
def saneWs:List Bs:=[z_data,z2t,zEq,j7z,zBar,q5n,z1a,z2t,z_input,z_xs,z5o,z2t,z_fun,y8q,z9w,z_l,z5o,z2t,z9v,z5o,z1a,zEq,z9w,z_case,z_l,z9w,j7z,q5m,z_0,z9v,z9w,q5n,z_h,z_t,q5m,z9w,zPlus,z_h,z9w,y8q,z_t,z9v,z9v,z9v,z9v,z_fun,pI,z5o,z1a,zEq,z9w,y8q,v0h,z9v,z_fun,z5p,z9w,z_a,z5o,z1a,z9v,z9w,z_b,z5o,z1a,z9v,z5o,z1a,zEq,z9w,z_case,z9w,zLess,z_a,z_b,z9v,z9w,j7y,q5m,z_0,z9v,z9w,z_True,q5m,z_1,z9v,z9v,v0k,pI]
def saneC:Core:=⟨[⟨z2t,[⟨j7z,[]⟩,⟨q5n,[z1a,z2t]⟩]⟩],
 [⟨z_xs,z2t⟩],
 [⟨y8q,[⟨z_l,z2t⟩],z1a,(.mk 7 0 sNo [(.mk 2 0 z_l [] [])] [(.mk j7z [] (.mk 1 0 sNo [] [])),(.mk q5n [z_h,z_t] (.mk 8 0 zPlus [(.mk 2 0 z_h [] []),(.mk 5 0 y8q [(.mk 2 0 z_t [] [])] [])] []))])⟩,
  ⟨pI,[],z1a,(.mk 5 0 y8q [(.mk 3 0 z_xs [] [])] [])⟩,
  ⟨z5p,[⟨z_a,z1a⟩,⟨z_b,z1a⟩],z1a,(.mk 7 0 sNo [(.mk 8 0 zLess [(.mk 2 0 z_a [] []),(.mk 2 0 z_b [] [])] [])] [(.mk j7y [] (.mk 1 0 sNo [] [])),(.mk z_True [] (.mk 1 1 sNo [] []))])⟩],
 [pI]⟩
theorem j4v:sX q2k=saneWs:=by kernel_rfl
theorem x1n:z0y q2k=.ok saneC:=by
 unfold z0y;rw [j4v];kernel_rfl
theorem gO:yG saneC=0:=by kernel_rfl
theorem j3a:cQ q2k=.ok saneC:=y6u (by decide) x1n gO
section
variable {Φ:Fz} {K:List Res} {w:World}
theorem x1h (G:Glob Φ) (N:Mem Φ K w) :
  Calls Tryz.prog 62 #[.string q2k] w (fun ee w'=>∃y:Fz×List Value×Value,ee=.returned (.tuple #[.agg y.2.1.toArray,.int .i64 ((0:Nat):Int),.int .i64 ((0:Nat):Int)])/\(Φ.Le y.1/\RCoreX y.1 y.2.1 saneC y.2.2)/\Mem y.1 (.gs y.2.2 9 1 (strs saneC.outputs)::K) w'):=by
 have h1:=x7q (t:=q2k) G N
 rw [j3a] at h1
 refine h1.mono fun ee w' h=>?_
 obtain ⟨⟨Ψ,v0,b,v2,v3⟩,h1,⟨d,e,f,g⟩,a⟩:=h
 obtain ⟨p,m,c,rfl,hl,_⟩:=a.toSees.gsForm (i:=0) rfl
 have hm':m=saneC.outputs.length:=by simpa [strs] using hl.symm
 subst hm'
 exact ⟨(Ψ,[v0,b,v2,.slice p saneC.outputs.length c],.slice p saneC.outputs.length c),h1,⟨d,⟨v0,b,v2,p,c,rfl,rfl,e,f,g⟩⟩,a⟩
theorem j2y (G:Glob Φ) (N:Mem Φ K w) :
  Calls Tryz.prog 62 #[.string q2k] w (fun ee w'=>∃y:Fz×List Value,ee=.returned (.tuple #[.agg y.2.toArray,.int .i64 ((0:Nat):Int),.int .i64 ((0:Nat):Int)])/\(Φ.Le y.1/\RCore y.1 y.2 saneC)/\Mem y.1 K w'):=by
 refine (x1h G N).mono fun ee w' h=>?_
 obtain ⟨⟨Ψ,d,v⟩,h1,⟨c,e⟩,f⟩:=h
 obtain ⟨a,b,m1,g⟩:=Mem.freezeRow (i:=0) f rfl
 exact ⟨(a,d),h1,⟨c.trans b,(e.mono b).full (SliceOf.strs.2 g)⟩,m1⟩
end
end Go.Sw
namespace Go.Sw
open Go.Proofs Go.Proofs.Tryz
set_option maxRecDepth 20000
set_option maxHeartbeats 4000000
def z5d:List Bs->List Bs->Bool
 | [],_=>true
 | _::_,[]=>true
 | x::xs,y::ys=>decide (x=y)&&z5d xs ys
def j7h (l m:List Bs):Bool:=decide (l.length=m.length)&&z5d l m
theorem z2g (x y:Bs) (xs ys:List Bs):z5d (x::xs) (y::ys)=(decide (x=y)&&z5d xs ys):=rfl
theorem j3w (ys:List Bs):z5d [] ys=true:=rfl
theorem y0z:∀l:List Bs,z5d l l=true
 | []=>rfl
 | x::xs=>by rw [z2g,y0z xs];simp
theorem z0i (l:List Bs):j7h l l=true:=by simp [j7h,y0z]
theorem gK {Φ:Fz} {K:List Res} {w:World} {v0:Value} {v:List Bs} {M:Value} {u:List Bs} (z:SliceOf RStr Φ 1 v0 v) (y:SliceOf RStr Φ 1 M u) (N:Mem Φ K w) :
  Calls Tryz.prog 22 #[v0,M] w (fun ee w'=>ee=.returned (.bool (j7h v u))/\Mem Φ K w'):=by
 obtain ⟨p0,c0,rfl,T,E⟩:=z.fm
 obtain ⟨V,S,rfl,U,F⟩:=y.fm
 refine zL Tryz.func22 Tryz.ntmps22 fun Q hQ a J=>?_
 refine goJ 2 fun a J=>?_
 refine sq fun P D=>?_
 have p:∀a w,(∃(o:Bool),EnvR 31 [(0,.slice p0 v.length c0),(1,.slice V u.length S),(5,.bool o)] [] a/\Mem Φ (K) w/\(o=decide (v.length=u.length)))->P a w:=by
  clear N J
  rintro a w ⟨o,J,N,n⟩
  apply D
  refine go fun a J=>?_
  refine zU (J.ks [0,1]) N (fun R mm a w=>∃(i:Nat) (o:Bool),mm=v.length - i/\R Φ [(5,.bool o),(6,.int .i64 i)] [] a w/\(j7h v u=(o&&z5d (v.drop i) (u.drop i))/\(o=true->v.length=u.length))) (v.length - 0) ⟨0,o,rfl,⟨J.pk,N⟩,⟨by rw [n];rfl,fun h=>by rw [n] at h;simp only [decide_eq_true_eq] at h;exact h⟩⟩ ?_
  clear N J
  rintro mm a w ⟨i,o,r,⟨J,N⟩,C⟩ Y q
  obtain ⟨c,b⟩:=C
  by_cases f:i < v.length
  refine go fun a J=>?_
  cases o
  refine zD ?_
  exact zP N (by rw [c,Bool.false_and])
  refine Reg [1,1,1,2,1,1,1,2,1,1] [] fun w N a J=>?_
  have g:i < u.length:=by rw [<- b rfl];exact f
  refine go fun a J=>?_
  obtain ⟨W,rfl,A,d,j,I,G,s⟩:=z.el E f
  obtain rfl:j=[.string A]:=s
  refine go fun a J=>?_
  obtain ⟨X,rfl,B,e,k,L,H,t⟩:=y.el F g
  obtain rfl:k=[.string B]:=t
  by_cases l:A=B
  refine go fun a J=>?_
  refine q _ _ _ (by subst r;omega) ⟨(i+1),(true),rfl,⟨J.pk,N⟩,?_⟩
  rotate_left
  refine go fun a J=>?_
  refine q _ _ _ (by subst r;omega) ⟨(i+1),(false),rfl,⟨J.pk,N⟩,?_⟩
  rotate_left
  refine zD ?_
  exact zP N (by rw [c,zB f,j3w,Bool.and_true])
  all_goals (exact ⟨by rw [c,zA d,zA e,z2g,Bool.true_and];simp [l],fun _=>b rfl⟩)
 by_cases m:v.length=u.length
 refine go fun a J=>?_
 exact p _ _ ⟨true,J.pk,N,by simp [m]⟩
 refine go fun a J=>?_
 exact p _ _ ⟨false,J.pk,N,by simp [m]⟩
def zz (l:List Nat):Bs:=⟨(l.map UInt8.ofNat).toArray⟩
def z_inxs:Bs:=⟨#[105,110,46,120,115]⟩
def z7t:Bs:=⟨#[67,111,110,115,47,48]⟩
def z_Cons1:Bs:=⟨#[67,111,110,115,47,49]⟩
def z_suml:Bs:=⟨#[115,117,109,46,108]⟩
def z_sumt:Bs:=⟨#[115,117,109,46,116]⟩
def q2h:List Bs:=[z_inxs,z_Cons1,y8q,z_suml,z_sumt,pI]
def q0x (nx:Next) (l:List Bs):Nat->List Bs
 | 0=>l
 | k+1=>(q0x nx l k).flatMap (xB nx)
theorem way_iter {nx:Next} {l:List Bs}:∀{k:Nat} {x:Bs},Way nx l k x↔x∈q0x nx l k:=by
 intro k
 induction k with
 | zero=>intro x;exact ⟨fun h=>by cases h;assumption,fun h=>.root h⟩
 | succ k b=>
  intro x
  constructor
  intro h
  cases h with
  | step h1 a=>exact List.mem_flatMap.2 ⟨_,b.1 h1,a⟩
  intro h
  obtain ⟨y,h1,a⟩:=List.mem_flatMap.1 h
  exact .step (b.2 h1) a
theorem x9b:solP saneC=q2h:=by kernel_rfl
theorem j4a:dT saneC=.ok q2h:=by rw [dT,if_pos gO,x9b]
theorem j2s:q4o saneC=.ok (zC saneC):=if_pos gO
theorem x0s:(zC saneC).length=11:=by kernel_rfl
theorem x9s:pI∈zC saneC:=by
 have h:decide (pI∈zC saneC)=true:=by kernel_rfl
 exact of_decide_eq_true h
theorem x3m:z7t∈zC saneC:=by
 have h:decide (z7t∈zC saneC)=true:=by kernel_rfl
 exact of_decide_eq_true h
theorem less_in:z5p∈zC saneC:=by
 have h:decide (z5p∈zC saneC)=true:=by kernel_rfl
 exact of_decide_eq_true h
theorem x9t:(zK (yV (qK (zQ saneC)) (zV saneC)) pI).isSome=true:=by kernel_rfl
theorem j8i:(zK (yV (qK (zQ saneC)) (zV saneC)) z7t).isSome=false:=by kernel_rfl
theorem j8u:tD saneC z5p=[]:=by kernel_rfl
theorem j2j:uT saneC (zC saneC)=112:=by kernel_rfl
theorem x1i {l:List Bs} (h:PathOk (qK (zQ saneC)) (zV saneC) pI l):l.length=4:=by
 have d:decide (pI∈q0x (qK (zQ saneC)) (zV saneC) 3)=true:=by kernel_rfl
 have c:decide (pI∈q0x (qK (zQ saneC)) (zV saneC) 2)=false:=by kernel_rfl
 have h1:decide (pI∈q0x (qK (zQ saneC)) (zV saneC) 1)=false:=by kernel_rfl
 have b:decide (pI∈q0x (qK (zQ saneC)) (zV saneC) 0)=false:=by kernel_rfl
 have a:=way_iter.1 h.way
 have j:=h.pos
 obtain ⟨p,rfl,_,_,f⟩:=h
 have i:=f 3 (way_iter.2 (of_decide_eq_true d))
 simp only [laQ,lcQ,lnQ,Nat.add_sub_cancel] at *
 have a0:p.length≠0:=fun e=>by rw [e] at a;exact of_decide_eq_false b a
 have g:p.length≠1:=fun e=>by rw [e] at a;exact of_decide_eq_false h1 a
 have a2:p.length≠2:=fun e=>by rw [e] at a;exact of_decide_eq_false c a
 omega
section
variable {Φ:Fz} {K:List Res} {w:World} {d0:List Value}
theorem x2b (a:RCore Φ d0 saneC) (G:Glob Φ) (b:∀c,yG c=0->LOk c) (N:Mem Φ K w) :
  Calls prog 15 #[.agg d0.toArray] w (fun ee w'=>∃y:Value,ee=.returned (.tuple #[y,.int .i64 0])/\True/\Mem Φ (.gs y 9 1 (strs q2h)::K) w'):=by
 have h:=x2c a G (b _) N
 rw [j4a] at h;exact h
theorem x0z (a:RCore Φ d0 saneC) (G:Glob Φ) (b:∀c,yG c=0->LOk c) (N:Mem Φ K w) :
  Calls prog 12 #[.agg d0.toArray] w (fun ee w'=>∃y:Value,ee=.returned (.tuple #[y,.int .i64 0])/\True/\Mem Φ (.gs y 9 1 (strs (zC saneC))::K) w'):=by
 have h:=x1a a G (b _) N
 rw [j2s] at h;exact h
theorem j8e (a:RCore Φ d0 saneC) (G:Glob Φ) (e:∀c,yG c=0->LOk c) (N:Mem Φ K w) :
  Calls prog 26 #[.agg d0.toArray,.string pI] w (fun ee w'=>∃y:Value×List Bs,ee=.returned (.tuple #[y.1,.int .i64 0])/\y.2.length=4/\Mem Φ (.gs y.1 9 1 (strs y.2)::K) w'):=by
 have h:=z7v (n:=pI) a G (e _) N
 rw [z2y gO x9s x9t] at h
 exact h.mono fun ee w' ⟨y,h1,b,d⟩=>⟨y,h1,x1i b,d⟩
theorem x3e (a:RCore Φ d0 saneC) (G:Glob Φ) (b:∀c,yG c=0->LOk c) (N:Mem Φ K w) :
  Calls prog 26 #[.agg d0.toArray,.string z7t] w (fun ee w'=>ee=.returned (.tuple #[.slice none 0 0,.int .i64 3])/\Mem Φ K w'):=by
 have h:=z7v (n:=z7t) a G (b _) N
 rw [z2x gO x3m j8i] at h;exact h
theorem x3z (a:RCore Φ d0 saneC) (G:Glob Φ) (b:∀c,yG c=0->LOk c) (N:Mem Φ K w) :
  Calls prog 14 #[.agg d0.toArray,.string z5p] w (fun ee w'=>∃y:Value,ee=.returned (.tuple #[y,.int .i64 0])/\True/\Mem Φ (.gs y 9 1 (strs [])::K) w'):=by
 have h:=z1h (n:=z5p) a G (b _) N
 rw [nJ gO less_in,j8u] at h;exact h
end
theorem x9a {Φ:Fz} {K:List Res} {w:World} (G:Glob Φ) (N:Mem Φ K w) :
  Calls prog 35 #[] w (fun ee w'=>∃y:Fz×List Value,ee=.returned (.agg y.2.toArray)/\(Φ.Le y.1/\RCore y.1 y.2 saneC)/\Mem y.1 K w'):=by
 refine zL func35 ntmps35 fun Q hQ a J=>?_
 refine Alc fun B w N a J=>?_
 refine yO call62 (fun A w f N a J=>?_) (c:=j2y G N)
 obtain ⟨Ψs,ds⟩:=A
 obtain ⟨les,b⟩:=f
 simp only at les b N J
 replace G:=G.mono les
 replace N:=N.nf
 have d:=b
 obtain ⟨z,c9,h,e,i,c21,j,c27,rfl,C,t,u,v,k,o,l,p,m,q,n,r⟩:=RCore.fm b
 refine Alc fun s w N a J=>?_
 refine Sto 0 fun w N a J=>?_
 refine Sto 1 fun w N a J=>?_
 refine go fun a J=>?_
 have g:=N
 replace N:=N.dl [1,0]
 refine pS (N:=g) ?_
 exact ⟨(Ψs,[.slice z saneC.datas.length c9,.slice h saneC.inputs.length e,.slice i saneC.funs.length c21,.slice j saneC.outputs.length c27]),rfl,⟨les,d⟩,N⟩
theorem j7i {Φ:Fz} {K:List Res} {w:World} (G:Glob Φ) (z:∀c,yG c=0->LOk c) (N:Mem Φ K w) :
  Calls prog 11 #[] w (fun ee w'=>ee=.returned (.bool true)/\Mem Φ K w'):=by
 refine zL func11 ntmps11 fun Q hQ a J=>?_
 refine yO call35 (fun y3 w H N a J=>?_) (c:=x9a G N)
 obtain ⟨Ψs,ds⟩:=y3
 obtain ⟨les,f⟩:=H
 simp only at les f N J
 replace G:=G.mono les
 replace N:=N.nf
 have I:=f
 obtain ⟨p7,c8,w0,k0,x0,c20,y0,l0,rfl,h6,r0,s0,t0,u0,a0,S,b0,T,c0,U,d0⟩:=RCore.fm I
 refine Alc fun j0 w N a J=>?_
 refine Sto 0 fun w N a J=>?_
 refine yO call15 (fun G0 w M N a J=>?_) (c:=x2b f G z N)
 replace N:=N.nf
 refine yO call26 (fun L w A N a J=>?_) (c:=j8e f G z N)
 obtain ⟨plv,pl⟩:=L
 have plh:=A
 simp only at plh N J
 replace N:=N.nf
 refine zT call26 (fun w N a J=>?_) (c:=x3e f G z N)
 refine yO call12 (fun H0 w P N a J=>?_) (c:=x0z f G z N)
 replace N:=N.nf
 refine yO call14 (fun I0 w R N a J=>?_) (c:=x3z f G z N)
 replace N:=N.nf
 refine go fun a J=>?_
 have b:=N
 clear N
 obtain ⟨B,p,N,q⟩:=b.freezeRow (i:=3) rfl
 clear b
 replace G:=G.mono p
 replace f:=RCore.mono _ _ _ _ p f
 replace N:=N.nf
 have e:SliceOf RStr B 1 _ (q2h):=SliceOf.strs.2 q
 obtain ⟨z0,m0,h,V,e0⟩:=e.form (by decide)
 have d:=N
 clear N
 subst h
 have N:=d
 clear d
 have b:=N
 clear N
 obtain ⟨C,l,N,r⟩:=b.freezeRow (i:=2) rfl
 clear b
 replace G:=G.mono l
 replace f:=RCore.mono _ _ _ _ l f
 replace e:=e.up l
 replace N:=N.nf
 have v:SliceOf RStr C 1 _ (pl):=SliceOf.strs.2 r
 obtain ⟨A0,n0,h,W,f0⟩:=v.form (by decide)
 have d:=N
 clear N
 subst h
 have N:=d
 clear d
 have b:=N
 clear N
 obtain ⟨D,m,N,s⟩:=b.freezeRow (i:=1) rfl
 clear b
 replace G:=G.mono m
 replace f:=RCore.mono _ _ _ _ m f
 replace e:=e.up m
 replace N:=N.nf
 have g:SliceOf RStr D 1 _ ((zC saneC)):=SliceOf.strs.2 s
 obtain ⟨B0,o0,h,X,g0⟩:=g.form (by decide)
 have d:=N
 clear N
 subst h
 have N:=d
 clear d
 have b:=N
 clear N
 obtain ⟨E,j,N,t⟩:=b.freezeRow (i:=0) rfl
 clear b
 replace G:=G.mono j
 replace f:=RCore.mono _ _ _ _ j f
 replace e:=e.up j
 replace g:=g.up j
 replace N:=N.nf
 have y:SliceOf RStr E 1 _ (([]:List Bs)):=SliceOf.strs.2 t
 obtain ⟨C0,p0,h,Y,h0⟩:=y.form (by decide)
 have d:=N
 clear N
 subst h
 have N:=d
 clear d
 refine Qq (fun a J=>?_) (o:=by exact fun J O=>vO true J rfl rfl rfl)
 refine Qq (fun a J=>?_) (o:=by exact fun J O=>vO true J rfl rfl rfl)
 refine Qq (fun a J=>?_) (o:=by exact fun J O=>vO true J rfl rfl rfl)
 refine Qq (fun a J=>?_) (o:=by exact fun J O=>vO true J rfl rfl rfl)
 refine Qq (fun a J=>?_) (o:=by exact fun J O=>vO true J rfl rfl rfl)
 refine jQ fun E0 w N a J=>?_
 have b:=N
 clear N
 obtain ⟨F,k,N,u⟩:=b.freezeRow (i:=0) rfl
 clear b
 replace G:=G.mono k
 replace f:=RCore.mono _ _ _ _ k f
 replace e:=e.up k
 replace g:=g.up k
 replace N:=N.nf
 have n:SliceOf RStr F 1 _ (q2h):=SliceOf.strs.2 u
 obtain ⟨D0,q0,h,Z,i0⟩:=n.form (by decide)
 have d:=N
 clear N
 subst h
 have N:=d
 clear d
 refine zT call22 (fun w N a J=>?_) (c:=(show Calls prog _ _ _ (fun ee w'=>ee=.returned (.bool true)/\_) from (z0i q2h)▸gK e n N))
 refine Qq (fun a J=>?_) (o:=by exact fun J O=>vO true J rfl rfl (decide_eq_true (congrArg Int.ofNat x0s)))
 refine Qq (fun a J=>?_) (o:=by exact fun J O=>vO true J rfl rfl (decide_eq_true (congrArg Int.ofNat rfl)))
 refine zT call17 (fun w N a J=>?_) (c:=(j2j▸x0f f g G (z _) N))
 refine Qq (fun a J=>?_) (o:=by exact fun J O=>vO true J rfl rfl rfl)
 refine zD ?_
 replace N:=N.le ((((((les).trans p).trans l).trans m).trans j).trans k)
 replace N:=N.dl [0]
 exact ⟨rfl,N⟩
end Go.Sw
namespace Go.Proofs.YtghdfphedgcpdaaGreatDoor
open Go.ChangeShapes Go.WideShapes Go.ChangeAt Go.RowKit Go.Sw
set_option maxRecDepth 100000
section
variable {H:Type} {enc:TypeId×Value->H}
theorem x9j {W:World} {base:Nat} {v:Value} {d:DataW H} {p:List MemPlace} (c:Value.okWide Tryz.prog W .any base 25 v) (h:DataW.Trod enc Tryz.prog W 0 (fun _=>true) true 25 v d p):∃l,SliceOf RStr (Fz.whole W) 1 v l:=by
 obtain ⟨a,len,cap,rfl⟩:=okWide_slice Tryz.underlying25 c
 obtain ⟨fuel,b⟩:=h
 obtain ⟨v,l,e,hl⟩:=z3o (enc:=enc) (W:=W) (n:=fuel) (cs:=[.slice a len cap]) b
 simp only [List.cons.injEq,and_true] at e
 subst e
 exact ⟨l,hl⟩
end
end Go.Proofs.YtghdfphedgcpdaaGreatDoor
namespace Go.Proofs.YtghdfphedgcpdaaGreatDoor
open Go.ChangeShapes Go.WideShapes Go.ChangeAt Go.RowKit Go.Sw
set_option maxRecDepth 100000
section
variable {H:Type} {enc:TypeId×Value->H}
theorem x1y {W:World} {t e:TypeId} {fuel:Nat} {v:Value} {x:DataW H×List MemPlace} (d:Tryz.prog.underlying t=some (.slice e)) (h:trd enc W fuel t [v]=some x):Cap v:=by
 rcases DataW.trod_slice d h with ⟨h1,_⟩ | ⟨a,len,cap,elems,rest,m,_,h1,_,_,b,_⟩
 ·simp only [List.cons.injEq,and_true] at h1;subst h1;exact Cap.nil
 ·simp only [List.cons.injEq,and_true] at h1;subst h1
  intro p n c e
  injection e with f e2 e3
  omega
theorem x3q {W:World} {cs:List Value} {d:DataW H} {p:List MemPlace} (h:DataW.Trod enc Tryz.prog W 0 (fun _=>true) true 27 (.agg (List.toArray cs)) d p):∀v,cs[3]? = some v->Cap v:=by
 obtain ⟨fuel,a⟩:=h
 obtain ⟨m,rfl,hl,a⟩:=cY (enc:=enc) (W:=W) (cs:=cs) Tryz.underlying27 a
 rw [c27] at hl
 obtain ⟨a0,r,rfl,b⟩:=jJ hl
 obtain ⟨j,r,rfl,c⟩:=jJ b
 obtain ⟨a2,r,rfl,e⟩:=jJ c
 obtain ⟨a3,r,rfl,g⟩:=jJ e
 obtain ⟨_,f⟩:=a 3 25 3 rfl
 simp only [c25,List.drop_succ_cons,List.drop_zero,List.take_succ_cons,List.take_zero] at f
 intro v i
 obtain rfl:a3=v:=by simpa using i
 exact x1y Tryz.underlying25 f
end
end Go.Proofs.YtghdfphedgcpdaaGreatDoor
namespace Go.Sw
open Go.Proofs Go.Proofs.Tryz
set_option maxRecDepth 20000
set_option maxHeartbeats 4000000
section
variable {P:Program} {n:Nat} {E:List (Nat×Value)} {D:List Deferred} {Φ:Fz} {K:List Res} {w:World} {a:Act} {ty:TypeId}
theorem y8p (i m o:Nat) {x:Operand} {T f:TypeId} {q:Addr} {mm c k:Nat} {cells:List Value} {v:Value} (J:EnvR n E D a) (N:Sees Φ K w)
  (e:ev E x=some (.pointer (some ((q.add m).add o)))) (d:qU K i=some (.gs (.slice (some q) mm c) f k cells)) (p:cells[m+o]? = some v) (l:Scalar P T):Ok P a (.load T x) ty w v:=by
 intro _ _ _ _
 have hq:q.spot=none:=by
  obtain ⟨_,_,g⟩:=N.own _ (qV d)
  rcases g with ⟨h,_⟩ | ⟨b,_,_,h,_⟩
  ·cases h
  ·simp only [Value.slice.injEq,Option.some.injEq] at h
   rw [h.1]
 rw [add_add _ _ _ hq] at e
 have h1:w.cell? (q.add (m+o))=some v:=by
  rcases N.rowIn d with ⟨h,_⟩ | ⟨q',m',c',h,_,j⟩
  ·cases h
  ·simp only [Value.slice.injEq,Option.some.injEq] at h
   obtain ⟨rfl,rfl,rfl⟩:=h
   exact j _ _ p
 simp only [execOp,J.ev e]
 simp [Instr.loadAt,Instr.sureAddr,loadVar,Sem.run_bind,l w,Result.andThen,load,Sem.run,h1]
end
theorem sT:∀{l:List Flow} {i:Nat} {x:Flow},l[i]? = some x->(zX l)[i * 2]? = some (.string x.1)/\(zX l)[i * 2+1]? = some (.string x.2)
 | [],_,_,h=>by simp at h
 | y::l,0,x,h=>by simp only [List.getElem?_cons_zero,Option.some.injEq] at h;subst h;exact ⟨rfl,rfl⟩
 | y::l,i+1,x,h=>by
  rw [List.getElem?_cons_succ] at h
  have:=sT h
  rw [show (i+1) * 2=i * 2+1+1 by omega]
  exact this
theorem y5j (l:List Int) (i:Nat) (x:Int):tH (l.set i x)=(tH l).set i (.int .i64 x):=by simp [tH,List.map_set]
theorem x6o (n:Nat) (x:Int):tH (List.replicate n x)=List.replicate n (.int .i64 x):=by simp [tH]
theorem tF {Φ:Fz} {K:List Res} {w:World} {i k:Nat} {T:TypeId} {v:Value} {cs:List Value} {m:Nat} (N:Mem Φ K w) (b:qU K i=some (.gs v T k cs)) (hl:cs.length=m * k) (a:0 < k):∃p cap,v=.slice p m cap:=by
 obtain ⟨p,m',c,rfl,h1,_⟩:=N.toSees.gsForm b
 have:m'=m:=Nat.eq_of_mul_eq_mul_right a (h1.symm.trans hl)
 exact ⟨p,c,by rw [this]⟩
section
variable {P:Program} {n:Nat} {E:List (Nat×Value)} {D:List Deferred} {a:Act} {Φ:Fz} {K:List Res} {w:World}
variable {dst:Option Tmp} {ty:TypeId} {pos:String} {aft:Array Edge} {g:Option (Nat×Bool)} {Kn:Value->World->Prop} {Qp:List PanicEntry->World->Prop}
theorem y8u (m:Nat) {t e:TypeId} {bytes:Nat} {l c:Operand} {z:Value} (o:RowT P t e 1 bytes) (H:ZeroT P e z) (q:z.cells=#[z]) (J:EnvR n E D a) (N:Mem Φ K w)
  (hl:ev E l=some (.int .i64 m)) (F:ev E c=some (.int .i64 m)) (hb:m * bytes<=140737488355328)
  (k:∀v w',Mem Φ (.gs v e 1 (List.replicate m z)::K) w'->Kn v w'):Oper.eff P ⟨dst,.makeSlice t l c,ty,pos,aft,g⟩ a w Kn Qp:=by
 obtain ⟨inf,z',y,hz',r,d,I⟩:=o.info
 have p:=o.bpos
 have f:m<=140737488355328:=Nat.le_trans (Nat.le_mul_of_pos_right m p) hb
 have G:IntKind.i64.wrap ((m:Nat):Int)=((m:Nat):Int):=jI (by omega)
 unfold Oper.eff
 have:(execOp a.eval ⟨dst,.makeSlice t l c,ty,pos,aft,g⟩).run P w=.ok (.value (.slice (some ⟨w.heap.size,0,none⟩) m m)) { w with heap:=w.heap.push (ob (List.replicate m z) e) }:=by
  simp only [execOp,J.ev hl,J.ev F]
  have B:(asIntOf (Value.int IntKind.i64 ((m:Nat):Int))).run P w=.ok (.i64,((m:Nat):Int)) w:=by simp [asIntOf,Sem.run]
  have h1:¬(((m:Nat):Int) < 0):=by omega
  have u:¬(281474976710656 < (inf.bytes:Int) * ((m:Nat):Int)):=by
   rw [d];have:(bytes:Int) * ((m:Nat):Int)=((m * bytes:Nat):Int):=by rw [Nat.mul_comm];simp
   omega
  have A:¬(roomBytes < m * inf.bytes):=by rw [d];simp only [roomBytes];omega
  have C:(sizeOf e).run P w=.ok 1 w:=by simp [sizeOf,typeInfo,y,Sem.run_bind,r]
  simp [Instr.makeSlice,Sem.run_bind,run_underlying o.under,typeInfo,y,asInt,B,G,h1,u,askRoom,A,C,Result.andThen]
  have h:Array.map (fun _=>(default:Value)) (Array.range 0)=#[]:=Array.ext (by simp) (by simp)
  have j:Array.map (fun x=>(#[z]:Array Value)[x % (#[z]:Array Value).size]!) (Array.range m)=(List.replicate m z).toArray:=Array.ext (by simp) fun i h1 u=>by simp [Nat.mod_one]
  by_cases s:m=0
  ·subst s
   simp [newRow,ob,h]
  ·simp only [s,if_false,H w,q,j]
   simp [newRow,ob]
 rw [this]
 refine k _ _ (N.more rfl rfl (fun b hb=>pO hb) ⟨m,by simp,.inr ⟨w.heap.size,m,(List.replicate m z).toArray,rfl,Nat.zero_le _,by simp [ob],Nat.le_refl _,Nat.le_trans f (by decide),by simp,by simp⟩⟩ (by simp [Res.foot,Value.ownBlock]))
end
abbrev Edges:=List (Nat×Nat)
def y4c (r:Nat) (s:List Int×Bool) (e:Nat×Nat):List Int×Bool :=
 if s.1.getD e.1 0=(r:Int)/\s.1.getD e.2 0 < 0 then (s.1.set e.2 ((r+1:Nat):Int),true) else s
def jX (r:Nat) (es:Edges) (o:List Int):List Int×Bool:=es.foldl (y4c r) (o,false)
theorem dG (r:Nat) (es:Edges) (e:Nat×Nat) (o:List Int):jX r (es++[e]) o=y4c r (jX r es o) e:=by simp [jX]
def nQ (es:Edges):Nat->Nat->List Int->List Int
 | 0,_,o=>o
 | g+1,r,o=>if (jX r es o).2=true then nQ es g (r+1) (jX r es o).1 else (jX r es o).1
def pV (n:Nat) (l:List Nat):List Int:=l.foldl (fun o i=>o.set i 0) (List.replicate n (-1))
def nR (n:Nat) (es:Edges) (l:List Nat):List Int:=nQ es n 0 (pV n l)
theorem q7k (l:List Int) (i j:Nat) (x:Int):(l.set i x).getD j 0=if i=j/\j < l.length then x else l.getD j 0:=by
 simp only [List.getD_eq_getElem?_getD,List.getElem?_set]
 by_cases h:i=j
 ·subst h
  by_cases g:i < l.length
  ·simp [g]
  ·simp [g]
 ·simp [h]
theorem z5g (n:Nat) (l:List Nat):(pV n l).length=n:=by
 refine wR (p:=fun l=>(pV n l).length=n) (by simp [pV]) (fun l x a=>?_) l
 have:pV n (l++[x])=(pV n l).set x 0:=by simp [pV]
 rw [this,List.length_set];exact a
theorem j4j (n:Nat) (l:List Nat):∀i,i < n->(pV n l).getD i 0=if i∈l then 0 else -1:=by
 refine wR (p:=fun l=>∀i,i < n->(pV n l).getD i 0=if i∈l then 0 else -1) (fun i a=>by simp [pV,List.getD_eq_getElem?_getD,List.getElem?_replicate,a]) (fun l x b i a=>?_) l
 have:pV n (l++[x])=(pV n l).set x 0:=by simp [pV]
 rw [this,q7k,b i a,z5g]
 by_cases h:x=i
 ·subst h;simp [a]
 ·have h':¬i=x:=fun e=>h e.symm
  simp [h,h']
theorem z0h (r:Nat) (o:List Int) (es:Edges):(jX r es o).1.length=o.length:=by
 refine wR (p:=fun es=>(jX r es o).1.length=o.length) rfl (fun es e a=>?_) es
 rw [dG];unfold y4c
 split
 ·rw [List.length_set];exact a
 ·exact a
theorem q7j {l:List Int} {i:Nat} (h:l.length<=i):l.getD i 0=0:=by rw [List.getD_eq_getElem?_getD,List.getElem?_eq_none h];rfl
open Classical in
theorem j3q (r:Nat) (o:List Int) (es:Edges):(∀i,i < o.length->(jX r es o).1.getD i 0=if o.getD i 0 < 0/\(∃a,(a,i)∈es/\o.getD a 0=(r:Int)) then ((r+1:Nat):Int) else o.getD i 0) /\
  ((∀e∈es,e.2 < o.length)->((jX r es o).2=true↔∃i,i < o.length/\o.getD i 0 < 0/\∃a,(a,i)∈es/\o.getD a 0=(r:Int))):=by
 refine wR (p:=fun es=>(∀i,i < o.length->(jX r es o).1.getD i 0=if o.getD i 0 < 0/\(∃a,(a,i)∈es/\o.getD a 0=(r:Int)) then ((r+1:Nat):Int) else o.getD i 0) /\
  ((∀e∈es,e.2 < o.length)->((jX r es o).2=true↔∃i,i < o.length/\o.getD i 0 < 0/\∃a,(a,i)∈es/\o.getD a 0=(r:Int)))) ?_ ?_ es
 ·exact ⟨fun i _=>by simp [jX],fun _=>by simp [jX]⟩
 ·intro es e B
  obtain ⟨d,l⟩:=B
  obtain ⟨u,v⟩:=e
  have s:=z0h r o es
  have hr:∀a,(jX r es o).1.getD a 0=(r:Int)↔o.getD a 0=(r:Int):=fun a=>by
   rcases Nat.lt_or_ge a o.length with y | y
   ·rw [d a y]
    split
    ·rename_i g
     constructor
     ·intro h;omega
     ·intro h;omega
    ·rfl
   ·rw [q7j (by omega),q7j y]
  rw [dG]
  unfold y4c
  simp only [hr]
  constructor
  ·intro i q
   by_cases g:o.getD u 0=(r:Int)/\(jX r es o).1.getD v 0 < 0
   ·rw [if_pos g]
    show ((jX r es o).1.set v _).getD i 0=_
    rw [q7k,s]
    by_cases m:v=i
    ·subst m
     rw [if_pos ⟨rfl,q⟩]
     have j:o.getD v 0 < 0:=by
      have:=g.2
      rw [d v q] at this
      split at this
      ·omega
      ·exact this
     rw [if_pos ⟨j,u,by simp,g.1⟩]
    ·rw [if_neg (fun h=>m h.1),d i q]
     have e:(∃a,(a,i)∈es++[(u,v)]/\o.getD a 0=(r:Int))↔∃a,(a,i)∈es/\o.getD a 0=(r:Int):=by
      constructor
      ·rintro ⟨a,h1,f⟩
       rw [List.mem_append,List.mem_singleton] at h1
       rcases h1 with h1 | h1
       ·exact ⟨a,h1,f⟩
       ·cases h1;exact absurd rfl m
      ·rintro ⟨a,h1,f⟩;exact ⟨a,List.mem_append_left _ h1,f⟩
     simp only [e]
   ·rw [if_neg g,d i q]
    by_cases j:o.getD i 0 < 0
    ·by_cases c:∃a,(a,i)∈es/\o.getD a 0=(r:Int)
     ·rw [if_pos ⟨j,c⟩,if_pos ⟨j,let ⟨a,h1,f⟩:=c;⟨a,List.mem_append_left _ h1,f⟩⟩]
     ·rw [if_neg (fun h=>c h.2),if_neg]
      rintro ⟨_,a,h1,f⟩
      rw [List.mem_append,List.mem_singleton] at h1
      rcases h1 with h1 | h1
      ·exact c ⟨a,h1,f⟩
      ·simp only [Prod.mk.injEq] at h1
       obtain ⟨w,e2⟩:=h1
       refine g ⟨w▸f,?_⟩
       rw [<- e2,d i q,if_neg (fun h=>c h.2)];exact j
    ·rw [if_neg (fun h=>j h.1),if_neg (fun h=>j h.1)]
  ·intro n
   have l:=l fun e J=>n e (List.mem_append_left _ J)
   have m:v < o.length:=n (u,v) (by simp)
   by_cases g:o.getD u 0=(r:Int)/\(jX r es o).1.getD v 0 < 0
   ·rw [if_pos g]
    have j:o.getD v 0 < 0:=by
     have:=g.2
     rw [d v m] at this
     split at this
     ·omega
     ·exact this
    exact ⟨fun _=>⟨v,m,j,u,by simp,g.1⟩,fun _=>rfl⟩
   ·rw [if_neg g,l]
    constructor
    ·rintro ⟨i,h1,f,a,k,t⟩;exact ⟨i,h1,f,a,List.mem_append_left _ k,t⟩
    ·rintro ⟨i,h1,f,a,k,t⟩
     rw [List.mem_append,List.mem_singleton] at k
     rcases k with k | k
     ·exact ⟨i,h1,f,a,k,t⟩
     ·simp only [Prod.mk.injEq] at k
      obtain ⟨w,e2⟩:=k
      by_cases c:∃b,(b,i)∈es/\o.getD b 0=(r:Int)
      ·obtain ⟨b,z,A⟩:=c;exact ⟨i,h1,f,b,z,A⟩
      ·refine absurd ⟨w▸t,?_⟩ g
       rw [<- e2,d i h1,if_neg (fun h=>c h.2)];exact f
def sZ (nx:Next) (l:List Bs) (k:Nat) (s:Bs):Prop:=Way nx l k s/\∀j,Way nx l j s->k<=j
theorem sG {nx:Next} {l:List Bs} {j k:Nat} {s:Bs} (h:sZ nx l j s) (g:sZ nx l k s):j=k:=Nat.le_antisymm (h.2 _ g.1) (g.2 _ h.1)
theorem y2x {nx:Next} {l:List Bs} {s:Bs} (h:RchN nx l s):∃k,sZ nx l k s:=by
 obtain ⟨q,d,hb⟩:=z9h nx l
 obtain ⟨k,b⟩:=h
 obtain ⟨h1,_⟩:=y2l hb k s b
 exact ⟨d s,q3g hb _ s (Nat.le_refl _) h1,fun j a=>(y2l hb j s a).2⟩
theorem q1q {nx:Next} {l:List Bs} {k:Nat} {s:Bs} (h:sZ nx l (k+1) s):∃t,sZ nx l k t/\s∈xB nx t:=by
 obtain ⟨d,hl⟩:=h
 cases d with
 | @step _ x _ b c=>
  obtain ⟨j,a⟩:=y2x ⟨k,b⟩
  have h1:=hl _ (.step a.1 c)
  have f:=a.2 _ b
  have e:j=k:=by omega
  subst e
  exact ⟨x,a,c⟩
theorem x0p {nx:Next} {l:List Bs} {k:Nat} {s t:Bs} (h:sZ nx l k t) (O:s∈xB nx t):∃j,sZ nx l j s/\j<=k+1:=by
 obtain ⟨j,a⟩:=y2x ⟨k+1,.step h.1 O⟩
 exact ⟨j,a,a.2 _ (.step h.1 O)⟩
theorem y6m {nx:Next} {l:List Bs}:∀{k:Nat} {s:Bs},sZ nx l k s->∀j,j<=k->∃t,sZ nx l j t
 | k,s,h,j,b=>by
  by_cases e:j=k
  ·subst e;exact ⟨s,h⟩
  ·cases k with
   | zero=>omega
   | succ k=>
    obtain ⟨t,a,_⟩:=q1q h
    exact y6m a j (by omega)
def y9f (ns:List Bs) (nx:Next) (l:List Bs) (r:Nat) (o:List Int):Prop :=
 o.length=ns.length/\∀(i:Nat) s,ns[i]? = some s->(∃k,sZ nx l k s/\k<=r/\o.getD i 0=(k:Int))∨((∀k,sZ nx l k s->r < k)/\o.getD i 0=-1)
def qC:List Bs->Bs->Nat
 | [],_=>0
 | x::l,s=>if x=s then 0 else qC l s+1
theorem xC:∀{l:List Bs} {s:Bs},s∈l->l[qC l s]? = some s
 | x::l,s,h=>by
  simp only [qC]
  by_cases e:x=s
  ·rw [if_pos e,e];rfl
  ·rw [if_neg e]
   rcases List.mem_cons.1 h with g | g
   ·exact absurd g.symm e
   ·rw [List.getElem?_cons_succ];exact xC g
theorem cO {l:List Bs} {s:Bs} (h:s∈l):qC l s < l.length:=(List.getElem?_eq_some_iff.1 (xC h)).1
theorem mS:∀{l:List Bs} {s:Bs} {i:Nat},l.Nodup->l[i]? = some s->qC l s=i
 | [],_,_,_,h=>by simp at h
 | x::l,s,i,b,h=>by
  obtain ⟨h1,a⟩:=List.nodup_cons.1 b
  simp only [qC]
  cases i with
  | zero=>simp only [List.getElem?_cons_zero,Option.some.injEq] at h;rw [if_pos h]
  | succ i=>
   rw [List.getElem?_cons_succ] at h
   rw [if_neg (fun e:x=s=>h1 (e▸mgQ h)),mS a h]
def cM (ns:List Bs) (fl:List Flow):Edges:=fl.map fun f=>(qC ns f.1,qC ns f.2)
section
variable {ns:List Bs} {fl:List Flow} {l:List Bs}
theorem q1g (h:GOk ns fl) {a i:Nat} {s:Bs} (c:ns[i]? = some s):(a,i)∈cM ns fl↔∃t,ns[a]? = some t/\s∈xB (qK fl) t:=by
 unfold cM
 rw [List.mem_map]
 constructor
 ·rintro ⟨⟨u,v⟩,h1,b⟩
  cases b
  obtain ⟨d,e⟩:=h.ends u v h1
  rw [xC e] at c;cases c
  exact ⟨u,xC d,(gP fl _ _).2 h1⟩
 ·rintro ⟨t,h1,b⟩
  exact ⟨(t,s),(gP fl _ _).1 b,by rw [mS h.nd h1,mS h.nd c]⟩
theorem x9i (h:GOk ns fl) (hl:∀r∈l,r∈ns):y9f ns (qK fl) l 0 (pV ns.length (l.map (qC ns))):=by
 refine ⟨z5g _ _,fun i s a=>?_⟩
 have b:=(List.getElem?_eq_some_iff.1 a).1
 rw [j4j _ _ i b]
 have e:i∈l.map (qC ns)↔s∈l:=by
  rw [List.mem_map]
  constructor
  ·rintro ⟨t,c,e⟩
   have:=xC (hl t c)
   rw [e,a] at this;cases this;exact c
  ·exact fun O=>⟨s,O,mS h.nd a⟩
 by_cases O:s∈l
 ·rw [if_pos (e.2 O)]
  exact .inl ⟨0,⟨.root O,fun _ _=>Nat.zero_le _⟩,Nat.le_refl _,rfl⟩
 ·rw [if_neg (fun d=>O (e.1 d))]
  refine .inr ⟨fun k f=>?_,rfl⟩
  cases k with
  | zero=>cases f.1 with
   | root g=>exact absurd g O
  | succ k=>omega
theorem x8e (h:GOk ns fl) {r:Nat} {o:List Int} (G:y9f ns (qK fl) l r o):y9f ns (qK fl) l (r+1) (jX r (cM ns fl) o).1 /\
  ((jX r (cM ns fl) o).2=true↔∃s∈ns,sZ (qK fl) l (r+1) s):=by
 obtain ⟨g1,C⟩:=j3q r o (cM ns fl)
 obtain ⟨b,u⟩:=G
 have key:∀(i:Nat) s,ns[i]? = some s->((o.getD i 0 < 0/\∃a,(a,i)∈cM ns fl/\o.getD a 0=(r:Int))↔sZ (qK fl) l (r+1) s):=fun i s c=>by
  constructor
  ·rintro ⟨I,a,E,H⟩
   obtain ⟨t,v,n⟩:=(q1g h c).1 E
   rcases u a t v with ⟨k,p,_,e⟩ | ⟨_,e⟩
   ·have:k=r:=by omega
    subst this
    obtain ⟨j,B,y⟩:=x0p p n
    rcases u i s c with ⟨m,N,_,e2⟩ | ⟨N,_⟩
    ·omega
    ·have:=N j B
     have e3:j=k+1:=by omega
     exact e3▸B
   ·omega
  ·intro d
   obtain ⟨t,v,n⟩:=q1q d
   refine ⟨?_,?_⟩
   ·rcases u i s c with ⟨m,N,y,e2⟩ | ⟨_,e2⟩
    ·have:=sG N d;omega
    ·omega
   ·have q:t∈ns:=(h.ends t s ((gP fl _ _).1 n)).1
    refine ⟨qC ns t,(q1g h c).2 ⟨t,xC q,n⟩,?_⟩
    rcases u _ t (xC q) with ⟨k,p,_,e⟩ | ⟨p,_⟩
    ·have:=sG p v;subst this;exact e
    ·have:=p r v;omega
 refine ⟨⟨by rw [z0h];exact b,fun i s c=>?_⟩,?_⟩
 ·have z:i < o.length:=by have:=(List.getElem?_eq_some_iff.1 c).1;omega
  rw [g1 i z]
  by_cases d:sZ (qK fl) l (r+1) s
  ·rw [if_pos ((key i s c).2 d)];exact .inl ⟨r+1,d,Nat.le_refl _,rfl⟩
  ·rw [if_neg (fun w=>d ((key i s c).1 w))]
   rcases u i s c with ⟨k,h1,A,D⟩ | ⟨h1,A⟩
   ·exact .inl ⟨k,h1,by omega,D⟩
   ·refine .inr ⟨fun k p=>?_,A⟩
    have:=h1 k p
    rcases Nat.lt_or_ge (r+1) k with g | g
    ·exact g
    ·have e:k=r+1:=by omega
     exact absurd (e▸p) d
 ·rw [C (fun e J=>by
   obtain ⟨f,F,rfl⟩:=List.mem_map.1 J
   rw [b];exact cO (h.ends f.1 f.2 F).2)]
  constructor
  ·rintro ⟨i,c,w⟩
   obtain ⟨s,O⟩:=zZ (l:=ns) (i:=i) (by omega)
   exact ⟨s,mgQ O,(key i s O).1 w⟩
  ·rintro ⟨s,O,d⟩
   exact ⟨qC ns s,by rw [b];exact cO O,(key _ s (xC O)).2 d⟩
theorem q1p (h:GOk ns fl) (hl:∀r∈l,r∈ns) {k:Nat} {s:Bs} (a:sZ (qK fl) l k s):s∈ns:=z7b h hl ⟨k,a.1⟩
theorem z6v (h:GOk ns fl) (hl:∀r∈l,r∈ns) {k:Nat} {s:Bs} (i:sZ (qK fl) l k s):k < ns.length:=by
 have:∀m,m<=k+1->∃p:List Bs,p.length=m/\p.Nodup/\∀t∈p,∃j,j < m/\sZ (qK fl) l j t:=by
  intro m
  induction m with
  | zero=>exact fun _=>⟨[],rfl,by simp,fun t a=>by cases a⟩
  | succ m n=>
   intro N
   obtain ⟨p,h1,c,b⟩:=n (by omega)
   obtain ⟨t,a⟩:=y6m i m (by omega)
   refine ⟨t::p,by simp [h1],List.nodup_cons.2 ⟨fun e=>?_,c⟩,fun u d=>?_⟩
   ·obtain ⟨j,f,g⟩:=b t e
    have:=sG a g;omega
   ·rcases List.mem_cons.1 d with rfl | d
    ·exact ⟨m,by omega,a⟩
    ·obtain ⟨j,f,g⟩:=b u d;exact ⟨j,by omega,g⟩
 obtain ⟨p,h1,c,b⟩:=this (k+1) (Nat.le_refl _)
 have:=z3h c fun t a=>let ⟨j,_,g⟩:=b t a;q1p h hl g
 omega
theorem q2d (h:GOk ns fl) (hl:∀r∈l,r∈ns):∀(g r:Nat) (o:List Int),y9f ns (qK fl) l r o->ns.length<=g+r->y9f ns (qK fl) l ns.length (nQ (cM ns fl) g r o)
 | 0,r,o,b,n=>⟨b.1,fun i s f=>by
   rcases b.2 i s f with ⟨k,h1,_,m⟩ | ⟨h1,d⟩
   ·exact .inl ⟨k,h1,Nat.le_of_lt (z6v h hl h1),m⟩
   ·refine .inr ⟨fun k a=>?_,d⟩
    have:=h1 k a;have:=z6v h hl a;omega⟩
 | g+1,r,o,b,n=>by
  obtain ⟨h1,d⟩:=x8e h b
  simp only [nQ]
  by_cases e:(jX r (cM ns fl) o).2=true
  ·rw [if_pos e];exact q2d h hl g (r+1) _ h1 (by omega)
  ·rw [if_neg e]
   refine ⟨h1.1,fun i s f=>?_⟩
   rcases h1.2 i s f with ⟨k,c,_,q⟩ | ⟨c,p⟩
   ·exact .inl ⟨k,c,Nat.le_of_lt (z6v h hl c),q⟩
   ·refine .inr ⟨fun k a=>?_,p⟩
    have:=c k a
    obtain ⟨t,j⟩:=y6m a (r+1) (by omega)
    exact absurd (d.2 ⟨t,q1p h hl j,j⟩) e
theorem q2i (h:GOk ns fl) (hl:∀r∈l,r∈ns):y9f ns (qK fl) l ns.length (nR ns.length (cM ns fl) (l.map (qC ns))):=q2d h hl _ _ _ (x9i h hl) (by omega)
theorem y7p (h:GOk ns fl) (hl:∀r∈l,r∈ns) {i:Nat} {s:Bs} (e:ns[i]? = some s):0<=(nR ns.length (cM ns fl) (l.map (qC ns))).getD i 0↔RchN (qK fl) l s:=by
 rcases (q2i h hl).2 i s e with ⟨k,h1,_,d⟩ | ⟨h1,c⟩
 ·rw [d];exact ⟨fun _=>⟨k,h1.1⟩,fun _=>by omega⟩
 ·rw [c]
  refine ⟨fun a=>by omega,fun a=>?_⟩
  obtain ⟨k,b⟩:=y2x a
  have:=h1 k b;have:=z6v h hl b;omega
end
theorem y9z:∀(d f n:Nat),n < 10 ^ (d+1)->(dX f n).length<=d+1
 | _,0,_,_=>by simp [dX]
 | d,f+1,n,h=>by
  simp only [dX]
  split
  ·simp
  ·rename_i a
   cases d with
   | zero=>omega
   | succ d=>
    have:=y9z d f (n / 10) (by rw [Nat.pow_succ] at h;omega)
    simp only [lcQ];omega
theorem All2.left {α β:Type} {R:α->β->Prop}:∀{xs:List α} {ys:List β},All2 R xs ys->∀x∈xs,∃y∈ys,R x y
 | x::xs,y::ys,h,z,a=>by
  rcases List.mem_cons.1 a with rfl | a
  ·exact ⟨y,msQ,h.1⟩
  ·obtain ⟨u,h1,b⟩:=All2.left h.2 z a;exact ⟨u,mcQ _ h1,b⟩
 | [],_,_,z,a=>by cases a
 | _::_,[],h,_,_=>h.elim
theorem tQ {s:Bs} (h:yQ s=true):s.size<=24:=by
 simp only [yQ,vQ,decide_eq_true_eq] at h
 split at h
 ·cases h
 ·omega
theorem y3r {s:Bs} (h:qB s=true):s.size<=24:=by
 simp only [qB,vQ,decide_eq_true_eq] at h
 split at h
 ·cases h
 ·omega
theorem j2o {t:Bs} {pos:Nat}:∀j,j < qG t pos->yR (zG t (pos+j))=true∨zG t (pos+j)=39:=by
 intro j a
 unfold qG at a
 split at a
 ·rename_i b
  split at a
  ·by_cases h1:j < yS yR t t.size pos
   ·exact .inl (tX _ _ _ _ _ h1).2
   ·by_cases d:j=yS yR t t.size pos
    ·exact .inr (by rw [d];exact b)
    ·have c:=(tX yF t t.size (pos+(yS yR t t.size pos+1)) (j - (yS yR t t.size pos+1)) (by omega)).2
     rw [show pos+(yS yR t t.size pos+1)+(j - (yS yR t t.size pos+1))=pos+j by omega] at c
     exact .inl (by simp [yR,c])
  ·exact .inl (tX _ _ _ _ _ a).2
 ·exact .inl (tX _ _ _ _ _ a).2
theorem q1k {t:Bs} {pos:Nat} {kd:Int} {k:Tok} (h:kR t pos kd=.ok k):(k.kind=5∨k.kind=kd)/\k.text=t.extract pos (pos+qG t pos):=by
 unfold kR at h
 split at h
 ·cases h
 ·simp only [Except.ok.injEq] at h
  subst h
  refine ⟨?_,rfl⟩
  simp only
  split
  ·exact .inl rfl
  ·exact .inr rfl
theorem j0g {t:Bs} {pos:Nat} {k:Tok} (h:yB t pos=.ok k) (a:k.kind=2∨k.kind=3):((k.kind=2/\qQ (zG t pos)=true)∨(k.kind=3/\qW (zG t pos)=true))/\k.text=t.extract pos (pos+qG t pos):=by
 unfold yB at h
 split at h
 ·unfold z2d at h
  split at h
  ·cases h
  ·split at h
   ·cases h
   ·simp only [Except.ok.injEq] at h;subst h;simp only at a;omega
 split at h
 ·rename_i O
  obtain ⟨h1,b⟩:=q1k h
  exact ⟨.inl ⟨by omega,O⟩,b⟩
 split at h
 ·rename_i O
  obtain ⟨h1,b⟩:=q1k h
  exact ⟨.inr ⟨by omega,O⟩,b⟩
 split at h
 ·obtain ⟨_,rfl⟩:=tM h;simp only at a;omega
 split at h
 ·obtain ⟨_,rfl⟩:=tM h;simp only at a;omega
 split at h
 ·obtain ⟨_,rfl⟩:=tM h;simp only at a;omega
 ·cases h
theorem j9m {s:Bs} {κ:Int} (d:vQ s=κ) (h:κ=2∨κ=3):0 < s.size/\((κ=2/\qQ (zG s 0)=true)∨(κ=3/\qW (zG s 0)=true))/\∀j,j < s.size->yR (zG s j)=true∨zG s j=39:=by
 unfold vQ at d
 split at d
 ·omega
 split at d
 ·rename_i k c
  split at d
  ·rename_i e
   unfold aL at c
   rw [gA] at c
   split at c
   ·cases c
   rename_i q hq
   split at c
   ·rename_i f
    split at c
    ·cases c
    rename_i k' hk'
    split at c
    ·cases c
    simp only [Except.ok.injEq,List.cons.injEq] at c
    obtain ⟨rfl,_⟩:=c
    obtain ⟨h1,g⟩:=j0g hk' (by omega)
    have i:(s.extract q (q+qG s q)).size=s.size:=by rw [<- g,e]
    rw [ByteArray.size_extract] at i
    have l:q=0:=by omega
    subst l
    refine ⟨f,?_,fun j m=>?_⟩
    ·rcases h1 with ⟨a,b⟩ | ⟨a,b⟩
     ·exact .inl ⟨by omega,b⟩
     ·exact .inr ⟨by omega,b⟩
    ·have:=j2o (t:=s) (pos:=0) j (by omega)
     rwa [Nat.zero_add] at this
   ·cases c
  ·omega
 ·omega
theorem z6g {s:Bs} (h:vQ s=2∨vQ s=3):0 < s.size/\((vQ s=2/\qQ (zG s 0)=true)∨(vQ s=3/\qW (zG s 0)=true))/\∀j,j < s.size->yR (zG s j)=true∨zG s j=39:=j9m rfl h
theorem tx_mem {s:Bs} {b:UInt8} (h:b∈tx s):∃j,j < s.size/\zG s j=b.toNat:=by
 obtain ⟨j,a,rfl⟩:=List.getElem_of_mem h
 have h1:=tx_size s
 refine ⟨j,by omega,?_⟩
 rw [pM (by omega)]
 simp only [tx,Array.getElem_toList];rfl
theorem wQ {s:Bs} (h:yQ s=true):vQ s=2:=by simpa [yQ] using h
theorem y3q {s:Bs} (h:qB s=true):vQ s=3:=by simpa [qB] using h
theorem j9z (n:Int):∃b r,z6i n=b::r/\(b=45∨(48<=b.toNat/\b.toNat<=57)):=by
 unfold z6i
 split
 ·exact ⟨_,_,rfl,.inl rfl⟩
 ·have h:∀u,cX u=Lib.decDigits u:=fun u=>z2z (u+1) u (Nat.lt_succ_self _)
  rw [h]
  have:∀f u,u < f->∃b r,Lib.decDigits u=b::r/\(48<=b.toNat/\b.toNat<=57):=by
   intro f
   induction f with
   | zero=>intro u c;omega
   | succ f d=>
    intro u c
    rw [Lib.decDigits]
    by_cases a:u < 10
    ·rw [dif_pos a]
     refine ⟨_,_,rfl,?_⟩
     simp [Nat.toUInt8,UInt8.toNat_ofNat'];omega
    ·rw [dif_neg a]
     obtain ⟨b,r,e,hb⟩:=d (u / 10) (by omega)
     exact ⟨b,r++_,by rw [e];rfl,hb⟩
  obtain ⟨b,r,e,hb⟩:=this (n.toNat+1) n.toNat (Nat.lt_succ_self _)
  exact ⟨b,r,e,.inr hb⟩
theorem y4a:∀(f n:Nat),∀b∈dX f n,48<=b.toNat/\b.toNat<=57
 | 0,_,_,h=>by cases h
 | f+1,n,b,h=>by
  simp only [dX] at h
  split at h
  ·simp only [List.mem_singleton] at h;subst h;simp [Nat.toUInt8,UInt8.toNat_ofNat'];omega
  ·rcases List.mem_cons.1 h with rfl | h
   ·simp [Nat.toUInt8,UInt8.toNat_ofNat'];omega
   ·exact y4a f _ b h
theorem tx_ofTx (l:Tx):tx (z1b l)=l:=by simp [tx,z1b]
theorem y6t:∀(f u:Nat),u < f->u<=9223372036854775808->∀r,Lib.parseUint10 0 (Lib.decDigits u++r)=Lib.parseUint10 u r
 | 0,_,h,_,_=>by omega
 | f+1,u,h,b,r=>by
  rw [Lib.decDigits]
  by_cases a:u < 10
  ·rw [dif_pos a,List.singleton_append,Lib.parseUint10]
   have e:(UInt8.ofNat (48+u)).toNat=48+u:=by rw [UInt8.toNat_ofNat'];omega
   rw [e,if_pos (by omega),if_neg (by omega),if_neg (by omega)]
   congr 1;omega
  ·rw [dif_neg a,List.append_assoc,y6t f (u / 10) (by omega) (by omega),List.singleton_append,Lib.parseUint10]
   have e:(UInt8.ofNat (48+u % 10)).toNat=48+u % 10:=by rw [UInt8.toNat_ofNat'];omega
   rw [e,if_pos (by omega),if_neg (by omega),if_neg (by omega)]
   congr 1;omega
theorem digs_ne (u:Nat):Lib.decDigits u≠[]:=by
 rw [Lib.decDigits];split <;> simp
theorem q1x {u:Nat} (h:u<=9223372036854775808):Lib.parseMag (Lib.decDigits u)=.ok u:=by
 unfold Lib.parseMag
 rw [if_neg (digs_ne u)]
 have:=y6t (u+1) u (Nat.lt_succ_self _) h []
 rw [List.append_nil] at this
 rw [this];rfl
theorem j8w (u:Nat):∃b r,Lib.decDigits u=b::r/\48<=b.toNat/\b.toNat<=57:=by
 obtain ⟨b,r,e,h⟩:=j9z (u:Int)
 have e2:z6i (u:Int)=Lib.decDigits u:=by rw [<- j6p];unfold Lib.itoa;rw [if_neg (by omega)];rfl
 rw [e2] at e
 rcases h with rfl | h
 ·exfalso
  have h1:(45:UInt8)∈Lib.decDigits u:=by rw [e];exact msQ
  rw [<- z2z (u+1) u (Nat.lt_succ_self _)] at h1
  have:=y4a _ _ _ (List.mem_reverse.1 h1)
  exact absurd this (by decide)
 ·exact ⟨b,r,e,h⟩
theorem j8c {n:Int} (h:I64 n):Lib.atoiAll (Lib.itoa n)=.ok n:=by
 unfold I64 at h
 unfold Lib.itoa
 split
 ·rename_i a
  have h1:=q1x (u:=n.natAbs) (by omega)
  simp only [Lib.atoiAll]
  rw [if_pos (.inr rfl),h1]
  simp only
  rw [if_neg (by intro h;exact h.1 rfl),if_neg (by intro h;omega)]
  simp only [show ((45:UInt8).toNat=45)=True from by simp,if_true]
  congr 1;omega
 ·rename_i a
  have h1:=q1x (u:=n.toNat) (by omega)
  obtain ⟨b,r,e,hb⟩:=j8w n.toNat
  rw [e] at h1 ⊢
  simp only [Lib.atoiAll]
  rw [if_neg (by omega),h1]
  simp only
  rw [if_neg (by intro h;omega),if_neg (by intro h;omega),if_neg (by omega)]
  congr 1;omega
theorem q7p {n:Int} (h:I64 n):sV (aU n)=some n:=by
 unfold sV
 have h1:oW (aU n)=.ok n:=by
  unfold oW
  rw [show (aU n).data.toList=Lib.itoa n from by simp [aU],j8c h]
 rw [h1]
 exact if_pos rfl
end Go.Sw
