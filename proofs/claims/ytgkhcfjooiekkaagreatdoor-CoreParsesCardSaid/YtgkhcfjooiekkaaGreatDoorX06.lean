import Derived.Test.YtgkhcfjooiekkaaGreatDoorX05
set_option linter.unusedVariables false
set_option linter.unusedSimpArgs false
namespace Go.Sw
open Go.Proofs Go.Proofs.Tryz
set_option maxRecDepth 20000
set_option maxHeartbeats 4000000
theorem x7h {V:Fz} {K:List Res} {w:World} {p0:Addr} {T:Table} {d1:List Value} {e:Ex} {b:Nat} {s:Scope} (s0:RTable V p0 T) (C1:REx V d1 e) (ih:∀x:Ex,x.sz < e.sz->∀{V:Fz} {K:List Res} {w:World} {p:Addr} {d:List Value} {b:Nat} {s:Scope},RTable V p T->REx V d x->Mem V (.mp b (xA s)::K) w->Calls prog 86 #[.pointer (some p),.agg d.toArray,.map (some b)] w (fun ee w'=>ee=.returned (.string (zH T x s).1)/\Mem V (.mp b (xA (zH T x s).2)::K) w')) (N:Mem V (.mp b (xA s)::K) w) :
  Calls prog 145 #[.pointer (some p0),.agg d1.toArray,.map (some b)] w (fun ee w'=>ee=.returned (.string ((xL T e s).1))/\Mem V (.mp b (xA (xL T e s).2)::K) w'):=by
 obtain ⟨X2,m1,m2,m3,m4,d5,d6,d7,d8,V1,W1,n0,t0,h0,O3,R3,P3,S3,Q3,T3⟩:=s0.ex
 obtain ⟨I4,c24,J4,w4,K4,x4,L4,c42,rfl,C4,D4,E4,F4,z3,I3,A3,J3,B3,K3,C3,L3⟩:=RCore.fm n0
 obtain ⟨M4,y4,N4,z4,rfl,v3,K1,w1,D3,z1,E3,D0⟩:=REx.fm C1
 refine zI func145 ntmps145 fun Q hQ a J=>?_
 refine Bx fun u4 w N a J=>?_
 refine zX call186 (fun C0 w N a J=>?_) (fun C0 w N a J=>?_) (c:=sA C1 N)
 refine go fun a J=>?_
 refine qP [1,1,1,2,1,1,2,1,2,1,0,2,1,1,1,0,0,1] (.q 0 (.q 1 (.q 2 (.q 3 (.q 4 (.q 5 (.q 6 (.q 7 (.q 8 (.q 9 (.e2 10 15 (.q 11 (.q 12 (.q 13 (.q 14 (.e 15 (.e 16 (.q 17 (.done)))))))) (.e 10 (.q 11 (.q 12 (.q 13 (.q 14 (.e 16 (.q 17 (.done))))))))))))))))))) [0] J N fun w N=>?_
 have y3:=cE (n:=1) C0
 refine go fun a J=>?_
 have y1:0 < e.args.length:=by omega
 obtain ⟨Q4,rfl,E,h,Y2,x3,u3,r0⟩:=K1.el z1 y1
 obtain ⟨O4,c75,P4,A4,rfl,w3,G4,H4,F3,M3,G3,N3⟩:=REx.fm r0
 refine go fun a J=>?_
 refine aT ?_ ?_
 replace N:=N.pl 1
 refine zO call86 (fun w N a J=>?_) (c:=ih _ (by first | exact Ex.lt_args (mgQ h) | exact Ex.lt_arms (mgQ h)) s0 r0 N)
 rcases g0:yV (d5) ((zH T E s).1) with _ | t4
 have f0:=congrArg (zK true (.agg #[.string ⟨#[]⟩,.slice none 0 0])) g0
 refine Qq (fun a J=>?_) (o:=by exact fun J O=>Ok.cast (yC runUnderlying101 runUnderlying9 zeroValue133 J O rfl rfl t0) (show zK true (.agg #[.string ⟨#[]⟩,.slice none 0 0]) (yV (d5) ((zH T E s).1))=.tuple #[.agg #[.string ⟨#[]⟩,.slice none 0 0],.bool false] from f0))
 refine Alc fun v4 w N a J=>?_
 refine Sto 0 fun w N a J=>?_
 refine zF ?_
 replace N:=N.dl [2,0]
 have hr_:xL T e s=((⟨#[]⟩:Bs),(zH T E s).2):=by
  have e_:=MapRel.none h0 g0
  simp [xL,jU h,sNo, *]
 show _/\_;rw [hr_];exact ⟨rfl,N⟩
 obtain ⟨I,d0,Z2,rfl,A1⟩:=h0.get g0
 obtain ⟨R4,rfl,x1⟩:=id A1
 obtain ⟨z2,E1,rfl,H3,Y0⟩:=x1.fm
 have f0:=congrArg (zK true (.agg #[.string ⟨#[]⟩,.slice none 0 0])) g0
 refine Qq (fun a J=>?_) (o:=by exact fun J O=>Ok.cast (yC runUnderlying101 runUnderlying9 zeroValue133 J O rfl rfl t0) (show zK true (.agg #[.string ⟨#[]⟩,.slice none 0 0]) (yV (d5) ((zH T E s).1))=.tuple #[.agg #[.string I.name,.slice z2 I.cons.length E1],.bool true] from f0))
 refine Alc fun H2 w N a J=>?_
 refine Sto 0 fun w N a J=>?_
 by_cases a3:I.cons.length=e.arms.length
 refine go fun a J=>?_
 refine zR (J.ks [0,2,4,48,49]) N (fun R mm a w=>∃(i:Nat) (q:Scope) (out:Bs),mm=I.cons.length - i/\R V [(9,.string out),(50,.int .i64 i)] [(1,.mp b (xA q))] a w/\(splitP T e.arms I.cons true sNo ((zH T E s).2)=splitP T (e.arms.drop i) (I.cons.drop i) (decide (i=0)) out q)) (I.cons.length - 0) ⟨0,(zH T E s).2,sNo,rfl,⟨J.pk,N⟩,rfl⟩ ?_
 clear N J
 rintro mm a w ⟨i,q,out,F,⟨J,N⟩,B⟩ B2 l0
 replace N:=N.nf
 by_cases u0:i < I.cons.length
 refine go fun a J=>?_
 obtain ⟨d4,rfl,m,G,F1,Z1,L1,c1⟩:=x1.el Y0 u0
 obtain ⟨o4,rfl,w0⟩:=id c1
 obtain ⟨V3,P2,rfl,k2,Z0⟩:=w0.fm
 refine Alc fun I2 w N a J=>?_
 refine Sto 0 fun w N a J=>?_
 refine go fun a J=>?_
 have U0:i < e.arms.length:=by omega
 obtain ⟨e4,rfl,f,y,G1,a2,M1,e1⟩:=w1.el D0 U0
 obtain ⟨p4,J2,rfl,j0,x0⟩:=RArm.iff.1 e1
 obtain ⟨W3,Q2,rfl,l2,o0⟩:=j0.fm
 obtain ⟨X3,R2,Y3,S2,rfl,X1,b3,d3,n2,v2,o2,w2⟩:=REx.fm x0
 refine Alc fun K2 w N a J=>?_
 refine Sto 0 fun w N a J=>?_
 by_cases e3:f.con=m.name
 by_cases f3:f.vars.length=m.fields.length
 refine go fun a J=>?_
 refine zR (J.ks [0,2,4,9,10,11,12,48,49,50,75,76]) N (fun R mm a w=>∃(k:Nat) (v:Scope),mm=f.vars.length - k/\R V [(77,.int .i64 k)] [(3,.mp b (xA v))] a w/\(putAll q f.vars m.fields=putAll v (f.vars.drop k) (m.fields.drop k))) (f.vars.length - 0) ⟨0,q,rfl,⟨J.pk,N⟩,rfl⟩ ?_
 clear N J
 rintro mm a w ⟨k,v,F,⟨J,N⟩,M⟩ C2 Q0
 replace N:=N.nf
 refine go fun a J=>?_
 by_cases Z:k < f.vars.length
 refine go fun a J=>?_
 obtain ⟨f4,rfl,E0,p1,K0,b2,N1,f1⟩:=j0.el o0 Z
 obtain rfl:K0=[.string E0]:=f1
 refine go fun a J=>?_
 have V0:k < m.fields.length:=by omega
 obtain ⟨g4,rfl,F0,q1,L0,c2,O1,g1⟩:=w0.el Z0 V0
 obtain rfl:L0=[.string F0]:=g1
 refine z5h 3 runUnderlying157 runUnderlying9 fun w N a J=>?_
 rw [z1y] at N
 refine go fun a J=>?_
 refine Q0 _ _ _ (by subst F;omega) ⟨(k+1),((nW v E0 F0)),rfl,⟨J.pk,N⟩,?_⟩
 rw [M,zA p1,zA q1];rfl
 replace N:=N.pl 3
 refine zO call86 (fun w N a J=>?_) (c:=ih _ (by first | exact Ex.lt_args (mgQ y) | exact Ex.lt_arms (mgQ y)) s0 x0 N)
 refine go fun a J=>?_
 refine zR (J.ks [0,2,4,9,10,15,48,49,50,96,97]) N (fun R mm a w=>∃(k3:Nat) (L:Scope),mm=f.vars.length - k3/\R V [(98,.int .i64 k3)] [(0,.mp b (xA L))] a w/\(oH ((zH T f.body v).2) f.vars=oH L (f.vars.drop k3))) (f.vars.length - 0) ⟨0,(zH T f.body v).2,rfl,⟨J.pk,N⟩,rfl⟩ ?_
 clear N J
 rintro mm a w ⟨k3,L,F,⟨J,N⟩,P⟩ D2 R0
 replace N:=N.nf
 by_cases a0:k3 < f.vars.length
 refine go fun a J=>?_
 obtain ⟨h4,rfl,G0,r1,M0,d2,P1,h1⟩:=j0.el o0 a0
 obtain rfl:M0=[.string G0]:=h1
 refine go fun a J=>?_
 refine st0 J rfl rfl (y3z 0 runUnderlying157 runUnderlying9 J N rfl rfl rfl fun w N a J=>?_)
 rw [z6x] at N
 refine go fun a J=>?_
 refine R0 _ _ _ (by subst F;omega) ⟨(k3+1),((y1d L G0)),rfl,⟨J.pk,N⟩,?_⟩
 rw [P,zA r1];rfl
 by_cases g3:(zH T f.body v).1=(⟨#[]⟩:Bs)
 refine zF ?_
 replace N:=N.dl [4,3,2,1]
 have hr_:xL T e s=((⟨#[]⟩:Bs),L):=by
  have D:aA T f m q=((zH T f.body v).1,L):=by
   have A:putAll q f.vars m.fields=v:=by rw [M,zE Z,vS]
   have j:=P
   rw [zE a0] at j
   rw [aA,A,j];rfl
  have u:I.cons.length=e.arms.length:=by assumption
  rw [xL,if_pos (by assumption),jU h,d0]
  simp only
  rw [if_pos u,B,zA y,zA G,jN,if_neg (by simp [*]),D,if_pos (by simp_all [sNo] <;> omega)];rfl
 show _/\_;rw [hr_];exact ⟨rfl,N⟩
 by_cases h3:0 < i
 refine go fun a J=>?_
 by_cases i3:(zH T f.body v).1=out
 refine go fun a J=>?_
 replace N:=N.ar [2,1] [2,1,2]
 refine l0 _ _ _ (by subst F;omega) ⟨(i+1),(L),((zH T f.body v).1),rfl,⟨J.pk,N⟩,?_⟩
 have D:aA T f m q=((zH T f.body v).1,L):=by
  have A:putAll q f.vars m.fields=v:=by rw [M,zE Z,vS]
  have j:=P
  rw [zE a0] at j
  rw [aA,A,j];rfl
 rw [B,zA y,zA G,jN,if_neg (by simp [*]),D,if_neg (by simp_all [sNo] <;> omega)];simp
 refine zF ?_
 replace N:=N.dl [4,3,2,1]
 have hr_:xL T e s=((⟨#[]⟩:Bs),L):=by
  have D:aA T f m q=((zH T f.body v).1,L):=by
   have A:putAll q f.vars m.fields=v:=by rw [M,zE Z,vS]
   have j:=P
   rw [zE a0] at j
   rw [aA,A,j];rfl
  have u:I.cons.length=e.arms.length:=by assumption
  rw [xL,if_pos (by assumption),jU h,d0]
  simp only
  rw [if_pos u,B,zA y,zA G,jN,if_neg (by simp [*]),D,if_pos (by simp_all [sNo] <;> omega)];rfl
 show _/\_;rw [hr_];exact ⟨rfl,N⟩
 refine go fun a J=>?_
 replace N:=N.ar [2,1] [2,1,2]
 refine l0 _ _ _ (by subst F;omega) ⟨(i+1),(L),((zH T f.body v).1),rfl,⟨J.pk,N⟩,?_⟩
 have D:aA T f m q=((zH T f.body v).1,L):=by
  have A:putAll q f.vars m.fields=v:=by rw [M,zE Z,vS]
  have j:=P
  rw [zE a0] at j
  rw [aA,A,j];rfl
 rw [B,zA y,zA G,jN,if_neg (by simp [*]),D,if_neg (by simp_all [sNo] <;> omega)];simp
 refine zF ?_
 replace N:=N.dl [4,2,1,0]
 have hr_:xL T e s=((⟨#[]⟩:Bs),q):=by
  have u:I.cons.length=e.arms.length:=by assumption
  rw [xL,if_pos (by assumption),jU h,d0]
  simp only
  rw [if_pos u,B,zA y,zA G,jN,if_pos (by simp [*])]
  all_goals rfl
 show _/\_;rw [hr_];exact ⟨rfl,N⟩
 refine zF ?_
 replace N:=N.dl [4,2,1,0]
 have hr_:xL T e s=((⟨#[]⟩:Bs),q):=by
  have u:I.cons.length=e.arms.length:=by assumption
  rw [xL,if_pos (by assumption),jU h,d0]
  simp only
  rw [if_pos u,B,zA y,zA G,jN,if_pos (by simp [*])]
  all_goals rfl
 show _/\_;rw [hr_];exact ⟨rfl,N⟩
 refine zF ?_
 replace N:=N.dl [2,0]
 have hr_:xL T e s=(out,q):=by
  have u:I.cons.length=e.arms.length:=by assumption
  rw [xL,if_pos (by assumption),jU h,d0]
  simp only
  rw [if_pos u,B,zE u0,zE (l:=e.arms) (by omega)];rfl
 show _/\_;rw [hr_];exact ⟨rfl,N⟩
 refine zF ?_
 replace N:=N.dl [2,0]
 have hr_:xL T e s=((⟨#[]⟩:Bs),(zH T E s).2):=by
  simp [xL,jU h,sNo, *]
 show _/\_;rw [hr_];exact ⟨rfl,N⟩
 refine Alc fun L2 w N a J=>?_
 replace N:=N.pl 2
 refine zO call86 (fun w N a J=>?_) (c:=ih _ (by first | exact Ex.lt_args (mgQ h) | exact Ex.lt_arms (mgQ h)) s0 r0 N)
 rcases X:yV (d5) ((zH T E s).1) with _ | A2
 have Y:=congrArg (zK true (.agg #[.string ⟨#[]⟩,.slice none 0 0])) X
 refine Qq (fun a J=>?_) (o:=by exact fun J O=>Ok.cast (yC runUnderlying101 runUnderlying9 zeroValue133 J O rfl rfl t0) (show zK true (.agg #[.string ⟨#[]⟩,.slice none 0 0]) (yV (d5) ((zH T E s).1))=.tuple #[.agg #[.string ⟨#[]⟩,.slice none 0 0],.bool false] from Y))
 refine Sto 1 fun w N a J=>?_
 refine zF ?_
 replace N:=N.dl [2,1]
 have hr_:xL T e s=((⟨#[]⟩:Bs),(zH T E s).2):=by
  have e_:=MapRel.none h0 X
  simp [xL,jU h,sNo, *]
 show _/\_;rw [hr_];exact ⟨rfl,N⟩
 obtain ⟨t,W,H1,rfl,i1⟩:=h0.get X
 obtain ⟨q4,rfl,y0⟩:=id i1
 obtain ⟨B1,c232,rfl,p2,a1⟩:=y0.fm
 have Y:=congrArg (zK true (.agg #[.string ⟨#[]⟩,.slice none 0 0])) X
 refine Qq (fun a J=>?_) (o:=by exact fun J O=>Ok.cast (yC runUnderlying101 runUnderlying9 zeroValue133 J O rfl rfl t0) (show zK true (.agg #[.string ⟨#[]⟩,.slice none 0 0]) (yV (d5) ((zH T E s).1))=.tuple #[.agg #[.string t.name,.slice B1 t.cons.length c232],.bool true] from Y))
 refine Sto 1 fun w N a J=>?_
 by_cases j3:t.cons.length=e.arms.length
 refine go fun a J=>?_
 refine zR (J.ks [0,2,4,48,49]) N (fun R mm a w=>∃(i:Nat) (q:Scope) (out:Bs),mm=t.cons.length - i/\R V [(9,.string out),(50,.int .i64 i)] [(0,.mp b (xA q))] a w/\(splitP T e.arms t.cons true sNo ((zH T E s).2)=splitP T (e.arms.drop i) (t.cons.drop i) (decide (i=0)) out q)) (t.cons.length - 0) ⟨0,(zH T E s).2,sNo,rfl,⟨J.pk,N⟩,rfl⟩ ?_
 clear N J
 rintro mm a w ⟨i,q,out,F,⟨J,N⟩,C⟩ E2 m0
 replace N:=N.nf
 by_cases z0:i < t.cons.length
 refine go fun a J=>?_
 obtain ⟨i4,rfl,r,H,I1,f2,Q1,j1⟩:=y0.el a1 z0
 obtain ⟨r4,rfl,A0⟩:=id j1
 obtain ⟨Z3,T2,rfl,r2,b1⟩:=A0.fm
 refine Alc fun M2 w N a J=>?_
 refine Sto 0 fun w N a J=>?_
 refine go fun a J=>?_
 have W0:i < e.arms.length:=by omega
 obtain ⟨j4,rfl,g,z,J1,g2,R1,k1⟩:=w1.el D0 W0
 obtain ⟨s4,N2,rfl,k0,B0⟩:=RArm.iff.1 k1
 obtain ⟨a4,U2,rfl,s2,q0⟩:=k0.fm
 obtain ⟨b4,V2,c4,W2,rfl,Y1,l3,n3,t2,x2,u2,y2⟩:=REx.fm B0
 refine Alc fun O2 w N a J=>?_
 refine Sto 0 fun w N a J=>?_
 by_cases o3:g.con=r.name
 by_cases p3:g.vars.length=r.fields.length
 refine go fun a J=>?_
 refine zR (J.ks [0,2,4,9,10,11,12,48,49,50,75,76]) N (fun R mm a w=>∃(k:Nat) (v:Scope),mm=g.vars.length - k/\R V [(77,.int .i64 k)] [(2,.mp b (xA v))] a w/\(putAll q g.vars r.fields=putAll v (g.vars.drop k) (r.fields.drop k))) (g.vars.length - 0) ⟨0,q,rfl,⟨J.pk,N⟩,rfl⟩ ?_
 clear N J
 rintro mm a w ⟨k,v,F,⟨J,N⟩,S⟩ F2 S0
 replace N:=N.nf
 refine go fun a J=>?_
 by_cases b0:k < g.vars.length
 refine go fun a J=>?_
 obtain ⟨k4,rfl,H0,s1,N0,h2,S1,l1⟩:=k0.el q0 b0
 obtain rfl:N0=[.string H0]:=l1
 refine go fun a J=>?_
 have X0:k < r.fields.length:=by omega
 obtain ⟨l4,rfl,I0,t1,O0,i2,T1,n1⟩:=A0.el b1 X0
 obtain rfl:O0=[.string I0]:=n1
 refine z5h 2 runUnderlying157 runUnderlying9 fun w N a J=>?_
 rw [z1y] at N
 refine go fun a J=>?_
 refine S0 _ _ _ (by subst F;omega) ⟨(k+1),((nW v H0 I0)),rfl,⟨J.pk,N⟩,?_⟩
 rw [S,zA s1,zA t1];rfl
 replace N:=N.pl 2
 refine zO call86 (fun w N a J=>?_) (c:=ih _ (by first | exact Ex.lt_args (mgQ z) | exact Ex.lt_arms (mgQ z)) s0 B0 N)
 refine go fun a J=>?_
 refine zR (J.ks [0,2,4,9,10,15,48,49,50,96,97]) N (fun R mm a w=>∃(k3:Nat) (L:Scope),mm=g.vars.length - k3/\R V [(98,.int .i64 k3)] [(0,.mp b (xA L))] a w/\(oH ((zH T g.body v).2) g.vars=oH L (g.vars.drop k3))) (g.vars.length - 0) ⟨0,(zH T g.body v).2,rfl,⟨J.pk,N⟩,rfl⟩ ?_
 clear N J
 rintro mm a w ⟨k3,L,F,⟨J,N⟩,U⟩ G2 T0
 replace N:=N.nf
 by_cases c0:k3 < g.vars.length
 refine go fun a J=>?_
 obtain ⟨n4,rfl,J0,u1,P0,j2,U1,o1⟩:=k0.el q0 c0
 obtain rfl:P0=[.string J0]:=o1
 refine go fun a J=>?_
 refine st0 J rfl rfl (y3z 0 runUnderlying157 runUnderlying9 J N rfl rfl rfl fun w N a J=>?_)
 rw [z6x] at N
 refine go fun a J=>?_
 refine T0 _ _ _ (by subst F;omega) ⟨(k3+1),((y1d L J0)),rfl,⟨J.pk,N⟩,?_⟩
 rw [U,zA u1];rfl
 by_cases r3:(zH T g.body v).1=(⟨#[]⟩:Bs)
 refine zF ?_
 replace N:=N.dl [4,3,2,1]
 have hr_:xL T e s=((⟨#[]⟩:Bs),L):=by
  have D:aA T g r q=((zH T g.body v).1,L):=by
   have A:putAll q g.vars r.fields=v:=by rw [S,zE b0,vS]
   have j:=U
   rw [zE c0] at j
   rw [aA,A,j];rfl
  have u:t.cons.length=e.arms.length:=by assumption
  rw [xL,if_pos (by assumption),jU h,W]
  simp only
  rw [if_pos u,C,zA z,zA H,jN,if_neg (by simp [*]),D,if_pos (by simp_all [sNo] <;> omega)];rfl
 show _/\_;rw [hr_];exact ⟨rfl,N⟩
 by_cases s3:0 < i
 refine go fun a J=>?_
 by_cases t3:(zH T g.body v).1=out
 refine go fun a J=>?_
 replace N:=N.dl [2,1]
 refine m0 _ _ _ (by subst F;omega) ⟨(i+1),(L),((zH T g.body v).1),rfl,⟨J.pk,N⟩,?_⟩
 have D:aA T g r q=((zH T g.body v).1,L):=by
  have A:putAll q g.vars r.fields=v:=by rw [S,zE b0,vS]
  have j:=U
  rw [zE c0] at j
  rw [aA,A,j];rfl
 rw [C,zA z,zA H,jN,if_neg (by simp [*]),D,if_neg (by simp_all [sNo] <;> omega)];simp
 refine zF ?_
 replace N:=N.dl [4,3,2,1]
 have hr_:xL T e s=((⟨#[]⟩:Bs),L):=by
  have D:aA T g r q=((zH T g.body v).1,L):=by
   have A:putAll q g.vars r.fields=v:=by rw [S,zE b0,vS]
   have j:=U
   rw [zE c0] at j
   rw [aA,A,j];rfl
  have u:t.cons.length=e.arms.length:=by assumption
  rw [xL,if_pos (by assumption),jU h,W]
  simp only
  rw [if_pos u,C,zA z,zA H,jN,if_neg (by simp [*]),D,if_pos (by simp_all [sNo] <;> omega)];rfl
 show _/\_;rw [hr_];exact ⟨rfl,N⟩
 refine go fun a J=>?_
 replace N:=N.dl [2,1]
 refine m0 _ _ _ (by subst F;omega) ⟨(i+1),(L),((zH T g.body v).1),rfl,⟨J.pk,N⟩,?_⟩
 have D:aA T g r q=((zH T g.body v).1,L):=by
  have A:putAll q g.vars r.fields=v:=by rw [S,zE b0,vS]
  have j:=U
  rw [zE c0] at j
  rw [aA,A,j];rfl
 rw [C,zA z,zA H,jN,if_neg (by simp [*]),D,if_neg (by simp_all [sNo] <;> omega)];simp
 refine zF ?_
 replace N:=N.dl [4,3,1,0]
 have hr_:xL T e s=((⟨#[]⟩:Bs),q):=by
  have u:t.cons.length=e.arms.length:=by assumption
  rw [xL,if_pos (by assumption),jU h,W]
  simp only
  rw [if_pos u,C,zA z,zA H,jN,if_pos (by simp [*])]
  all_goals rfl
 show _/\_;rw [hr_];exact ⟨rfl,N⟩
 refine zF ?_
 replace N:=N.dl [4,3,1,0]
 have hr_:xL T e s=((⟨#[]⟩:Bs),q):=by
  have u:t.cons.length=e.arms.length:=by assumption
  rw [xL,if_pos (by assumption),jU h,W]
  simp only
  rw [if_pos u,C,zA z,zA H,jN,if_pos (by simp [*])]
  all_goals rfl
 show _/\_;rw [hr_];exact ⟨rfl,N⟩
 refine zF ?_
 replace N:=N.dl [2,1]
 have hr_:xL T e s=(out,q):=by
  have u:t.cons.length=e.arms.length:=by assumption
  rw [xL,if_pos (by assumption),jU h,W]
  simp only
  rw [if_pos u,C,zE z0,zE (l:=e.arms) (by omega)];rfl
 show _/\_;rw [hr_];exact ⟨rfl,N⟩
 refine zF ?_
 replace N:=N.dl [2,1]
 have hr_:xL T e s=((⟨#[]⟩:Bs),(zH T E s).2):=by
  simp [xL,jU h,sNo, *]
 show _/\_;rw [hr_];exact ⟨rfl,N⟩
 refine zF ?_
 replace N:=N.dl [0]
 have hr_:xL T e s=((⟨#[]⟩:Bs),s):=by
  simp [xL,sNo, *]
 show _/\_;rw [hr_];exact ⟨rfl,N⟩
theorem let_ok {V:Fz} {K:List Res} {w:World} {p0:Addr} {T:Table} {d1:List Value} {e:Ex} {b:Nat} {s:Scope} (m:RTable V p0 T) (v:REx V d1 e) (ih:∀x:Ex,x.sz < e.sz->∀{V:Fz} {K:List Res} {w:World} {p:Addr} {d:List Value} {b:Nat} {s:Scope},RTable V p T->REx V d x->Mem V (.mp b (xA s)::K) w->Calls prog 86 #[.pointer (some p),.agg d.toArray,.map (some b)] w (fun ee w'=>ee=.returned (.string (zH T x s).1)/\Mem V (.mp b (xA (zH T x s).2)::K) w')) (N:Mem V (.mp b (xA s)::K) w) :
  Calls prog 144 #[.pointer (some p0),.agg d1.toArray,.map (some b)] w (fun ee w'=>ee=.returned (.string ((z4k T e s).1))/\Mem V (.mp b (xA (z4k T e s).2)::K) w'):=by
 obtain ⟨I,m1,m2,m3,m4,d5,d6,d7,d8,z,A,h,S0,y0,u0,z0,w0,A0,x0,B0⟩:=m.ex
 obtain ⟨T0,c24,U0,G0,V0,H0,W0,c42,rfl,L0,M0,N0,O0,c0,l0,d0,m0,f0,n0,g0,o0⟩:=RCore.fm h
 obtain ⟨X0,I0,Y0,J0,rfl,X,o,P0,h0,u,i0,q0⟩:=REx.fm v
 refine enterB func144 rfl ntmps144 rfl (fun Q hQ a J=>?_)
 refine Bx fun F0 w N a J=>?_
 refine zX call186 (fun f w N a J=>?_) (fun f w N a J=>?_) (c:=sA v N)
 have b0:=cE (n:=2) f
 refine go fun a J=>?_
 have r:0 < e.args.length:=by omega
 obtain ⟨b1,rfl,g,i,L,Z,U,k⟩:=o.el u r
 obtain ⟨Z0,c75,a1,K0,rfl,Y,Q0,R0,j0,r0,k0,s0⟩:=REx.fm k
 replace N:=N.pl 1
 refine zO call86 (fun w N a J=>?_) (c:=ih _ (by exact Ex.lt_args (mgQ i)) m k N)
 by_cases q:(zH T g s).1=(⟨#[]⟩:Bs)
 refine go fun a J=>?_
 replace N:=N.dl [1]
 refine hQ _ _ _ (ret1B J results144 rfl ?_)
 have hr_:z4k T e s=((⟨#[]⟩:Bs),(zH T g s).2):=by
  rw [z4k,if_pos f,q4l i q];rfl
 show _/\_;rw [hr_];exact ⟨rfl,N⟩
 refine z5h 0 runUnderlying157 runUnderlying9 fun w N a J=>?_
 rw [z1y] at N
 refine go fun a J=>?_
 refine z8x J rfl fun a P J=>?_
 refine go fun a J=>?_
 have t:1 < e.args.length:=by omega
 obtain ⟨y,j⟩:=jC t
 obtain ⟨M,a0,W,l⟩:=o.elem j
 obtain ⟨D0,G,E0,H,rfl,B,R,S,C,E,D,F⟩:=REx.fm l
 refine zO call86 (fun w N a J=>?_) (c:=ih _ (by exact Ex.lt_args (mgQ j)) m l N)
 refine go fun a J=>?_
 replace N:=N.dl [1]
 refine hQ _ _ _ (q5a 0 runUnderlying157 runUnderlying9 J results144 rfl N rfl fun w N=>?_)
 rw [z6x] at N
 have hr_:z4k T e s=((zH T y (nW ((zH T g s).2) e.name ((zH T g s).1))).1,(y1d ((zH T y (nW ((zH T g s).2) e.name ((zH T g s).1))).2) e.name)):=by
  rw [z4k,if_pos f,y5j i j q]
 show _/\_;rw [hr_];exact ⟨rfl,N⟩
 refine go fun a J=>?_
 replace N:=N.dl [0]
 refine hQ _ _ _ (ret1B J results144 rfl ?_)
 have hr_:z4k T e s=((⟨#[]⟩:Bs),s):=by
  simp [z4k,sNo, *]
 show _/\_;rw [hr_];exact ⟨rfl,N⟩
theorem j4t {V:Fz} {K:List Res} {w:World} {g:Addr} {T:Table} {d1:List Value} {e:Ex} {b:Nat} {s:Scope} (h:RTable V g T) (i:REx V d1 e) (hT:∀n f,zW T.funs n=some f->f.params.length<=1000) (X:∀x:Ex,x.sz < e.sz->∀{V:Fz} {K:List Res} {w:World} {p:Addr} {d:List Value} {b:Nat} {s:Scope},RTable V p T->REx V d x->Mem V (.mp b (xA s)::K) w->Calls prog 86 #[.pointer (some p),.agg d.toArray,.map (some b)] w (fun ee w'=>ee=.returned (.string (zH T x s).1)/\Mem V (.mp b (xA (zH T x s).2)::K) w')) (N:Mem V (.mp b (xA s)::K) w) :
  Calls prog 86 #[.pointer (some g),.agg d1.toArray,.map (some b)] w (fun ee w'=>ee=.returned (.string ((zH T e s).1))/\Mem V (.mp b (xA (zH T e s).2)::K) w'):=by
 obtain ⟨a0,m1,m2,m3,m4,d5,d6,d7,d8,Y,Z,j,L0,t0,q0,u0,r0,w0,s0,x0⟩:=h.ex
 obtain ⟨M0,c24,N0,A0,O0,B0,P0,c42,rfl,E0,F0,G0,H0,c0,j0,d0,k0,f0,l0,g0,m0⟩:=RCore.fm j
 obtain ⟨Q0,C0,R0,D0,rfl,b0,I0,J0,h0,n0,i0,o0⟩:=REx.fm i
 refine zI func86 ntmps86 fun Q hQ a J=>?_
 refine Bx fun y0 w N a J=>?_
 refine go fun a J=>?_
 refine st J rfl rfl rfl (q3t N fun z0 w N a J=>?_)
 refine go fun a J=>?_
 refine st0 J rfl rfl (wQ 0 runUnderlying218 runUnderlying3 J N rfl rfl rfl rfl fun w N a J=>?_)
 replace N:=N.nf
 refine go fun a J=>?_
 refine st0 J rfl rfl (wQ 0 runUnderlying218 runUnderlying3 J N rfl rfl rfl rfl fun w N a J=>?_)
 replace N:=N.nf
 refine go fun a J=>?_
 refine st0 J rfl rfl (wQ 0 runUnderlying218 runUnderlying3 J N rfl rfl rfl rfl fun w N a J=>?_)
 replace N:=N.nf
 refine go fun a J=>?_
 refine st0 J rfl rfl (wQ 0 runUnderlying218 runUnderlying3 J N rfl rfl rfl rfl fun w N a J=>?_)
 replace N:=N.nf
 refine go fun a J=>?_
 refine st0 J rfl rfl (wQ 0 runUnderlying218 runUnderlying3 J N rfl rfl rfl rfl fun w N a J=>?_)
 replace N:=N.nf
 refine go fun a J=>?_
 refine st0 J rfl rfl (wQ 0 runUnderlying218 runUnderlying3 J N rfl rfl rfl rfl fun w N a J=>?_)
 replace N:=N.nf
 refine go fun a J=>?_
 refine st0 J rfl rfl (wQ 0 runUnderlying218 runUnderlying3 J N rfl rfl rfl rfl fun w N a J=>?_)
 replace N:=N.nf
 refine go fun a J=>?_
 refine st0 J rfl rfl (wQ 0 runUnderlying218 runUnderlying3 J N rfl rfl rfl rfl fun w N a J=>?_)
 replace N:=N.nf
 refine go fun a J=>?_
 by_cases l:e.kind=1
 have I:gT [(1,.func (.func 139) #[.pointer (some g)] #[]),(2,.func (.func 140) #[.pointer (some g)] #[]),(3,.func (.func 141) #[.pointer (some g)] #[]),(4,.func (.func 142) #[.pointer (some g)] #[]),(5,.func (.func 143) #[.pointer (some g)] #[]),(6,.func (.func 144) #[.pointer (some g)] #[]),(7,.func (.func 145) #[.pointer (some g)] #[]),(8,.func (.func 146) #[.pointer (some g)] #[])] (e.kind)=some (.func (.func 139) #[.pointer (some g)] #[]):=by rw [l];rfl
 have A:=congrArg (zK true (.nilFunc)) I
 refine Qq (fun a J=>?_) (o:=by exact fun J O=>Ok.cast (xR 0 runUnderlying218 runUnderlying3 zeroValue160 J O rfl rfl rfl) (show zK true (.nilFunc) (gT [(1,.func (.func 139) #[.pointer (some g)] #[]),(2,.func (.func 140) #[.pointer (some g)] #[]),(3,.func (.func 141) #[.pointer (some g)] #[]),(4,.func (.func 142) #[.pointer (some g)] #[]),(5,.func (.func 143) #[.pointer (some g)] #[]),(6,.func (.func 144) #[.pointer (some g)] #[]),(7,.func (.func 145) #[.pointer (some g)] #[]),(8,.func (.func 146) #[.pointer (some g)] #[])] (e.kind))=.tuple #[.func (.func 139) #[.pointer (some g)] #[],.bool true] from A))
 replace N:=N.pl 2
 refine q3b call139 (fun w N a J=>?_) (c:=by exact x0s h i N)
 refine zF ?_
 replace N:=N.dl [2,1]
 have hr_:zH T e s=((uL e),s):=by rw [z5a T e s l]
 show _/\_;rw [hr_];exact ⟨rfl,N⟩
 by_cases m:e.kind=2
 have L:gT [(1,.func (.func 139) #[.pointer (some g)] #[]),(2,.func (.func 140) #[.pointer (some g)] #[]),(3,.func (.func 141) #[.pointer (some g)] #[]),(4,.func (.func 142) #[.pointer (some g)] #[]),(5,.func (.func 143) #[.pointer (some g)] #[]),(6,.func (.func 144) #[.pointer (some g)] #[]),(7,.func (.func 145) #[.pointer (some g)] #[]),(8,.func (.func 146) #[.pointer (some g)] #[])] (e.kind)=some (.func (.func 140) #[.pointer (some g)] #[]):=by rw [m];rfl
 have B:=congrArg (zK true (.nilFunc)) L
 refine Qq (fun a J=>?_) (o:=by exact fun J O=>Ok.cast (xR 0 runUnderlying218 runUnderlying3 zeroValue160 J O rfl rfl rfl) (show zK true (.nilFunc) (gT [(1,.func (.func 139) #[.pointer (some g)] #[]),(2,.func (.func 140) #[.pointer (some g)] #[]),(3,.func (.func 141) #[.pointer (some g)] #[]),(4,.func (.func 142) #[.pointer (some g)] #[]),(5,.func (.func 143) #[.pointer (some g)] #[]),(6,.func (.func 144) #[.pointer (some g)] #[]),(7,.func (.func 145) #[.pointer (some g)] #[]),(8,.func (.func 146) #[.pointer (some g)] #[])] (e.kind))=.tuple #[.func (.func 140) #[.pointer (some g)] #[],.bool true] from B))
 replace N:=N.pl 2
 refine q3b call140 (fun w N a J=>?_) (c:=by exact j0a h i N)
 refine zF ?_
 replace N:=N.dl [2,1]
 have hr_:zH T e s=((nS e s),s):=by rw [z0g T e s m]
 show _/\_;rw [hr_];exact ⟨rfl,N⟩
 by_cases q:e.kind=3
 have M:gT [(1,.func (.func 139) #[.pointer (some g)] #[]),(2,.func (.func 140) #[.pointer (some g)] #[]),(3,.func (.func 141) #[.pointer (some g)] #[]),(4,.func (.func 142) #[.pointer (some g)] #[]),(5,.func (.func 143) #[.pointer (some g)] #[]),(6,.func (.func 144) #[.pointer (some g)] #[]),(7,.func (.func 145) #[.pointer (some g)] #[]),(8,.func (.func 146) #[.pointer (some g)] #[])] (e.kind)=some (.func (.func 141) #[.pointer (some g)] #[]):=by rw [q];rfl
 have C:=congrArg (zK true (.nilFunc)) M
 refine Qq (fun a J=>?_) (o:=by exact fun J O=>Ok.cast (xR 0 runUnderlying218 runUnderlying3 zeroValue160 J O rfl rfl rfl) (show zK true (.nilFunc) (gT [(1,.func (.func 139) #[.pointer (some g)] #[]),(2,.func (.func 140) #[.pointer (some g)] #[]),(3,.func (.func 141) #[.pointer (some g)] #[]),(4,.func (.func 142) #[.pointer (some g)] #[]),(5,.func (.func 143) #[.pointer (some g)] #[]),(6,.func (.func 144) #[.pointer (some g)] #[]),(7,.func (.func 145) #[.pointer (some g)] #[]),(8,.func (.func 146) #[.pointer (some g)] #[])] (e.kind))=.tuple #[.func (.func 141) #[.pointer (some g)] #[],.bool true] from C))
 replace N:=N.pl 2
 refine q3b call141 (fun w N a J=>?_) (c:=by exact j9x h i N)
 refine zF ?_
 replace N:=N.dl [2,1]
 have hr_:zH T e s=((z1e T e),s):=by rw [z0e T e s q]
 show _/\_;rw [hr_];exact ⟨rfl,N⟩
 by_cases r:e.kind=4
 have P:gT [(1,.func (.func 139) #[.pointer (some g)] #[]),(2,.func (.func 140) #[.pointer (some g)] #[]),(3,.func (.func 141) #[.pointer (some g)] #[]),(4,.func (.func 142) #[.pointer (some g)] #[]),(5,.func (.func 143) #[.pointer (some g)] #[]),(6,.func (.func 144) #[.pointer (some g)] #[]),(7,.func (.func 145) #[.pointer (some g)] #[]),(8,.func (.func 146) #[.pointer (some g)] #[])] (e.kind)=some (.func (.func 142) #[.pointer (some g)] #[]):=by rw [r];rfl
 have D:=congrArg (zK true (.nilFunc)) P
 refine Qq (fun a J=>?_) (o:=by exact fun J O=>Ok.cast (xR 0 runUnderlying218 runUnderlying3 zeroValue160 J O rfl rfl rfl) (show zK true (.nilFunc) (gT [(1,.func (.func 139) #[.pointer (some g)] #[]),(2,.func (.func 140) #[.pointer (some g)] #[]),(3,.func (.func 141) #[.pointer (some g)] #[]),(4,.func (.func 142) #[.pointer (some g)] #[]),(5,.func (.func 143) #[.pointer (some g)] #[]),(6,.func (.func 144) #[.pointer (some g)] #[]),(7,.func (.func 145) #[.pointer (some g)] #[]),(8,.func (.func 146) #[.pointer (some g)] #[])] (e.kind))=.tuple #[.func (.func 142) #[.pointer (some g)] #[],.bool true] from D))
 replace N:=N.pl 2
 refine q3b call142 (fun w N a J=>?_) (c:=by exact con_ok h i X N)
 refine zF ?_
 replace N:=N.dl [2,1]
 have hr_:zH T e s=((z0r T e s).1,(z0r T e s).2):=by rw [z0d T e s r]
 show _/\_;rw [hr_];exact ⟨rfl,N⟩
 by_cases t:e.kind=5
 have R:gT [(1,.func (.func 139) #[.pointer (some g)] #[]),(2,.func (.func 140) #[.pointer (some g)] #[]),(3,.func (.func 141) #[.pointer (some g)] #[]),(4,.func (.func 142) #[.pointer (some g)] #[]),(5,.func (.func 143) #[.pointer (some g)] #[]),(6,.func (.func 144) #[.pointer (some g)] #[]),(7,.func (.func 145) #[.pointer (some g)] #[]),(8,.func (.func 146) #[.pointer (some g)] #[])] (e.kind)=some (.func (.func 143) #[.pointer (some g)] #[]):=by rw [t];rfl
 have E:=congrArg (zK true (.nilFunc)) R
 refine Qq (fun a J=>?_) (o:=by exact fun J O=>Ok.cast (xR 0 runUnderlying218 runUnderlying3 zeroValue160 J O rfl rfl rfl) (show zK true (.nilFunc) (gT [(1,.func (.func 139) #[.pointer (some g)] #[]),(2,.func (.func 140) #[.pointer (some g)] #[]),(3,.func (.func 141) #[.pointer (some g)] #[]),(4,.func (.func 142) #[.pointer (some g)] #[]),(5,.func (.func 143) #[.pointer (some g)] #[]),(6,.func (.func 144) #[.pointer (some g)] #[]),(7,.func (.func 145) #[.pointer (some g)] #[]),(8,.func (.func 146) #[.pointer (some g)] #[])] (e.kind))=.tuple #[.func (.func 143) #[.pointer (some g)] #[],.bool true] from E))
 replace N:=N.pl 2
 refine q3b call143 (fun w N a J=>?_) (c:=by exact call_ok h i hT X N)
 refine zF ?_
 replace N:=N.dl [2,1]
 have hr_:zH T e s=((aV T e s).1,(aV T e s).2):=by rw [sM T e s t]
 show _/\_;rw [hr_];exact ⟨rfl,N⟩
 by_cases u:e.kind=6
 have S:gT [(1,.func (.func 139) #[.pointer (some g)] #[]),(2,.func (.func 140) #[.pointer (some g)] #[]),(3,.func (.func 141) #[.pointer (some g)] #[]),(4,.func (.func 142) #[.pointer (some g)] #[]),(5,.func (.func 143) #[.pointer (some g)] #[]),(6,.func (.func 144) #[.pointer (some g)] #[]),(7,.func (.func 145) #[.pointer (some g)] #[]),(8,.func (.func 146) #[.pointer (some g)] #[])] (e.kind)=some (.func (.func 144) #[.pointer (some g)] #[]):=by rw [u];rfl
 have F:=congrArg (zK true (.nilFunc)) S
 refine Qq (fun a J=>?_) (o:=by exact fun J O=>Ok.cast (xR 0 runUnderlying218 runUnderlying3 zeroValue160 J O rfl rfl rfl) (show zK true (.nilFunc) (gT [(1,.func (.func 139) #[.pointer (some g)] #[]),(2,.func (.func 140) #[.pointer (some g)] #[]),(3,.func (.func 141) #[.pointer (some g)] #[]),(4,.func (.func 142) #[.pointer (some g)] #[]),(5,.func (.func 143) #[.pointer (some g)] #[]),(6,.func (.func 144) #[.pointer (some g)] #[]),(7,.func (.func 145) #[.pointer (some g)] #[]),(8,.func (.func 146) #[.pointer (some g)] #[])] (e.kind))=.tuple #[.func (.func 144) #[.pointer (some g)] #[],.bool true] from F))
 replace N:=N.pl 2
 refine q3b call144 (fun w N a J=>?_) (c:=by exact let_ok h i X N)
 refine zF ?_
 replace N:=N.dl [2,1]
 have hr_:zH T e s=((z4k T e s).1,(z4k T e s).2):=by rw [z0f T e s u]
 show _/\_;rw [hr_];exact ⟨rfl,N⟩
 by_cases v:e.kind=7
 have U:gT [(1,.func (.func 139) #[.pointer (some g)] #[]),(2,.func (.func 140) #[.pointer (some g)] #[]),(3,.func (.func 141) #[.pointer (some g)] #[]),(4,.func (.func 142) #[.pointer (some g)] #[]),(5,.func (.func 143) #[.pointer (some g)] #[]),(6,.func (.func 144) #[.pointer (some g)] #[]),(7,.func (.func 145) #[.pointer (some g)] #[]),(8,.func (.func 146) #[.pointer (some g)] #[])] (e.kind)=some (.func (.func 145) #[.pointer (some g)] #[]):=by rw [v];rfl
 have G:=congrArg (zK true (.nilFunc)) U
 refine Qq (fun a J=>?_) (o:=by exact fun J O=>Ok.cast (xR 0 runUnderlying218 runUnderlying3 zeroValue160 J O rfl rfl rfl) (show zK true (.nilFunc) (gT [(1,.func (.func 139) #[.pointer (some g)] #[]),(2,.func (.func 140) #[.pointer (some g)] #[]),(3,.func (.func 141) #[.pointer (some g)] #[]),(4,.func (.func 142) #[.pointer (some g)] #[]),(5,.func (.func 143) #[.pointer (some g)] #[]),(6,.func (.func 144) #[.pointer (some g)] #[]),(7,.func (.func 145) #[.pointer (some g)] #[]),(8,.func (.func 146) #[.pointer (some g)] #[])] (e.kind))=.tuple #[.func (.func 145) #[.pointer (some g)] #[],.bool true] from G))
 replace N:=N.pl 2
 refine q3b call145 (fun w N a J=>?_) (c:=by exact x7h h i X N)
 refine zF ?_
 replace N:=N.dl [2,1]
 have hr_:zH T e s=((xL T e s).1,(xL T e s).2):=by rw [z2c T e s v]
 show _/\_;rw [hr_];exact ⟨rfl,N⟩
 by_cases y:e.kind=8
 have W:gT [(1,.func (.func 139) #[.pointer (some g)] #[]),(2,.func (.func 140) #[.pointer (some g)] #[]),(3,.func (.func 141) #[.pointer (some g)] #[]),(4,.func (.func 142) #[.pointer (some g)] #[]),(5,.func (.func 143) #[.pointer (some g)] #[]),(6,.func (.func 144) #[.pointer (some g)] #[]),(7,.func (.func 145) #[.pointer (some g)] #[]),(8,.func (.func 146) #[.pointer (some g)] #[])] (e.kind)=some (.func (.func 146) #[.pointer (some g)] #[]):=by rw [y];rfl
 have H:=congrArg (zK true (.nilFunc)) W
 refine Qq (fun a J=>?_) (o:=by exact fun J O=>Ok.cast (xR 0 runUnderlying218 runUnderlying3 zeroValue160 J O rfl rfl rfl) (show zK true (.nilFunc) (gT [(1,.func (.func 139) #[.pointer (some g)] #[]),(2,.func (.func 140) #[.pointer (some g)] #[]),(3,.func (.func 141) #[.pointer (some g)] #[]),(4,.func (.func 142) #[.pointer (some g)] #[]),(5,.func (.func 143) #[.pointer (some g)] #[]),(6,.func (.func 144) #[.pointer (some g)] #[]),(7,.func (.func 145) #[.pointer (some g)] #[]),(8,.func (.func 146) #[.pointer (some g)] #[])] (e.kind))=.tuple #[.func (.func 146) #[.pointer (some g)] #[],.bool true] from H))
 replace N:=N.pl 2
 refine q3b call146 (fun w N a J=>?_) (c:=by exact op_ok h i X N)
 refine zF ?_
 replace N:=N.dl [2,1]
 have hr_:zH T e s=((nZ T e s).1,(nZ T e s).2):=by rw [z3b T e s y]
 show _/\_;rw [hr_];exact ⟨rfl,N⟩
 have z:gT [(1,.func (.func 139) #[.pointer (some g)] #[]),(2,.func (.func 140) #[.pointer (some g)] #[]),(3,.func (.func 141) #[.pointer (some g)] #[]),(4,.func (.func 142) #[.pointer (some g)] #[]),(5,.func (.func 143) #[.pointer (some g)] #[]),(6,.func (.func 144) #[.pointer (some g)] #[]),(7,.func (.func 145) #[.pointer (some g)] #[]),(8,.func (.func 146) #[.pointer (some g)] #[])] (e.kind)=none:=by simp [gT, *]
 have k:=congrArg (zK true (.nilFunc)) z
 refine Qq (fun a J=>?_) (o:=by exact fun J O=>Ok.cast (xR 0 runUnderlying218 runUnderlying3 zeroValue160 J O rfl rfl rfl) (show zK true (.nilFunc) (gT [(1,.func (.func 139) #[.pointer (some g)] #[]),(2,.func (.func 140) #[.pointer (some g)] #[]),(3,.func (.func 141) #[.pointer (some g)] #[]),(4,.func (.func 142) #[.pointer (some g)] #[]),(5,.func (.func 143) #[.pointer (some g)] #[]),(6,.func (.func 144) #[.pointer (some g)] #[]),(7,.func (.func 145) #[.pointer (some g)] #[]),(8,.func (.func 146) #[.pointer (some g)] #[])] (e.kind))=.tuple #[.nilFunc,.bool false] from k))
 refine zF ?_
 replace N:=N.dl [1,0]
 have hr_:zH T e s=((⟨#[]⟩:Bs),s):=by rw [sN T e s l m q r t u v y];rfl
 show _/\_;rw [hr_];exact ⟨rfl,N⟩
theorem x7w {T:Table} (a:∀n f,zW T.funs n=some f->f.params.length<=1000) {V:Fz} {K:List Res} {w:World} {p:Addr} {d:List Value} {e:Ex} {b:Nat} {s:Scope} (rT:RTable V p T) (re:REx V d e) (N:Mem V (.mp b (xA s)::K) w) :
  Calls prog 86 #[.pointer (some p),.agg d.toArray,.map (some b)] w (fun ee w'=>ee=.returned (.string (zH T e s).1)/\Mem V (.mp b (xA (zH T e s).2)::K) w'):=by
 suffices H:∀n (e:Ex),e.sz < n->∀{V:Fz} {K:List Res} {w:World} {p:Addr} {d:List Value} {b:Nat} {s:Scope},RTable V p T->REx V d e->Mem V (.mp b (xA s)::K) w ->
   Calls prog 86 #[.pointer (some p),.agg d.toArray,.map (some b)] w (fun ee w'=>ee=.returned (.string (zH T e s).1)/\Mem V (.mp b (xA (zH T e s).2)::K) w') from H _ e (Nat.lt_succ_self _) rT re N
 intro n
 induction n with
 | zero=>intro e h;omega
 | succ n c=>intro e h V K w p d b s rT re N;exact j4t rT re a (fun x j _ _ _ _ _ _ _ g i m=>c x (by omega) g i m) N
theorem j2o {c:Core} (h:kO c=false):c.datas.length<=60:=by
 simp only [kO,Bool.or_eq_false_iff,decide_eq_false_iff_not] at h;omega
theorem j4o {V:Fz} {K:List Res} {w:World} {d0:List Value} {c:Core} {v:Value} (f0:RCoreX V d0 c v) (E2:kO c=false) (G:Glob V) (N:Mem V K w) :
  Calls prog 153 #[.agg d0.toArray] w (fun ee w'=>∃y:Fz×Addr,ee=.returned (.tuple #[.pointer (some y.2),.bool (pA c)])/\(V.Le y.1/\RTableX y.1 y.2 (zN c) v)/\Mem y.1 K w'):=by
 obtain ⟨s1,s2,s3,q4,E3,rfl,rfl,h6,h7,h8⟩:=id f0
 obtain ⟨p9,B3,rfl,f5,m5⟩:=h6.fm
 obtain ⟨x4,C3,rfl,g5,V2⟩:=h7.fm
 obtain ⟨y4,D3,rfl,h5,W2⟩:=h8.fm
 refine zI func153 ntmps153 fun Q hQ a J=>?_
 refine Bx fun F5 w N a J=>?_
 refine MkM fun x3 w N a J=>?_
 refine MkM fun V0 w N a J=>?_
 refine MkM fun y3 w N a J=>?_
 refine MkM fun z3 w N a J=>?_
 refine z3v fun a J=>?_
 refine Bx fun A3 w N a J=>?_
 refine go fun a J=>?_
 refine qP [0,0,1,2,0,1,1] (.q 2 (.q 3 (.q 6 (.e 0 (.e 1 (.e 4 (.q 5 (.done)))))))) [0,1,2,3,4,5] J N fun w N=>?_
 refine zV call188 (fun z4 w U2 N a J=>?_) (c:=z9b N)
 obtain ⟨C5,J5⟩:=z4
 obtain ⟨p0,D⟩:=U2
 simp only at p0 D N J
 replace h6:=h6.up p0
 replace h7:=h7.up p0
 replace h8:=h8.up p0
 replace f0:=f0.mono p0
 replace G:=G.mono p0
 replace N:=N.nf
 obtain ⟨S5,rfl,O3⟩:=id D
 obtain ⟨M5,H5,rfl,i5,n5⟩:=O3.fm
 refine yK fun V5 w N a J=>?_
 obtain ⟨U4,i1,o0⟩:=id h6
 refine yU 0 q9l (fun W5 w N a J=>?_) (hr:=i1.rowIn N.toSees) (h1:=o0.ones RData.ones) (hb:=by have h_:=o0.length;have K5:=j2o E2;rw [h_];simp only [lcQ,lnQ];omega)
 have B:=N
 clear N
 obtain ⟨d,q0,N,j1⟩:=B.freezeRow (i:=0) rfl
 clear B
 replace h7:=h7.up q0
 replace h8:=h8.up q0
 replace f0:=f0.mono q0
 replace G:=G.mono q0
 replace D:=D.up q0
 replace o0:=o0.mono fun _ _ h=>h.up q0
 replace N:=N.nf
 have c1:SliceOf RData d 2 _ (truthsD::c.datas):=⟨_,j1,⟨_,_,rfl,rfl,D,o0⟩⟩
 obtain ⟨N5,I5,w4,j5,X2⟩:=c1.form (by decide)
 have V1:=N
 clear N
 subst w4
 have N:=V1
 clear V1
 refine go fun a J=>?_
 refine zR (J.ks [1,4,25,26]) N (fun R mm a w=>∃(i:Nat) (o:Bool) (m0:List (Bs×Value)) (l0:List (Bs×Data)) (m1:List (Bs×Value)) (l1:List (Bs×Maker)),mm=(truthsD::c.datas).length - i/\R d [(5,.bool o),(27,.int .i64 i)] [(3,.mp V0 m1),(4,.mp x3 m0)] a w/\(uW true [] [] (truthsD::c.datas)=uW o l0 l1 ((truthsD::c.datas).drop i)/\MapRel (RVa RData d) m0 l0/\MapRel (RVa RMaker d) m1 l1)) ((truthsD::c.datas).length - 0) ⟨0,true,[],[],[],[],rfl,⟨J.pk,N⟩,⟨rfl,MapRel.nil,MapRel.nil⟩⟩ ?_
 clear N J
 rintro mm a w ⟨i,o,m0,l0,m1,l1,n,⟨J,N⟩,j0⟩ D5 s0
 replace N:=N.nf
 obtain ⟨j0,r0,r1⟩:=j0
 by_cases S2:i < (truthsD::c.datas).length
 refine go fun a J=>?_
 obtain ⟨Q5,rfl,b,u0,V4,d5,b5,Y0⟩:=c1.el X2 S2
 obtain ⟨T5,rfl,W0⟩:=id Y0
 obtain ⟨Y2,J2,rfl,k5,t0⟩:=W0.fm
 refine Alc fun G5 w N a J=>?_
 refine Sto 0 fun w N a J=>?_
 refine Reg [1,1,1,2,0,1,1,1,2,1,1,1,1,1,1,2,1,2,2,0,1,1,1,2,1,1,1,1] [0,1,2,3,4,6] fun w N a J=>?_
 refine go fun a J=>?_
 cases o
 refine go fun a J=>?_
 refine zR (J.ks [1,4,7,25,26,27,59,60]) N (fun R mm a w=>∃(k:Nat) (o2:Bool) (j:List (Bs×Value)) (g:List (Bs×Maker)),mm=b.cons.length - k/\R d [(5,.bool o2),(61,.int .i64 k)] [(4,.mp V0 j)] a w/\(xQ b.name false l1 b.cons=xQ b.name o2 g (b.cons.drop k)/\MapRel (RVa RMaker d) j g)) (b.cons.length - 0) ⟨0,false,m1,l1,rfl,⟨J.pk,N⟩,⟨rfl,r1⟩⟩ ?_
 clear N J
 rintro mm a w ⟨k,o2,j,g,n,⟨J,N⟩,k0⟩ E5 X0
 replace N:=N.nf
 obtain ⟨k0,p⟩:=k0
 by_cases T2:k < b.cons.length
 refine go fun a J=>?_
 obtain ⟨R5,rfl,X,a1,W4,e5,c5,Z0⟩:=W0.el t0 T2
 obtain ⟨U5,rfl,P3⟩:=id Z0
 obtain ⟨Z2,K2,rfl,l5,o5⟩:=P3.fm
 refine Alc fun L4 w N a J=>?_
 refine Sto 0 fun w N a J=>?_
 refine Reg [1,1,1,2,0,1,1,1,1,1,2,1,2,1,2,2,1,0,1,1] [0,1,2,3,4,6,7] fun w N a J=>?_
 refine go fun a J=>?_
 cases o2
 refine go fun a J=>?_
 replace N:=N.dl [0]
 refine X0 _ _ _ (by subst n;omega) ⟨(k+1),(false),(j),(g),rfl,⟨J.pk,N⟩,?_⟩
 refine ⟨?_,p⟩
 rw [k0,zA a1];simp [xQ, *]
 refine zX call178 (fun f2 w N a J=>?_) (fun f2 w N a J=>?_) (c:=mB G N)
 refine z3v fun a J=>?_
 replace N:=N.pl 5
 refine zX call191 (fun g2 w N a J=>?_) (fun g2 w N a J=>?_) (c:=pJ (m:=j) (l:=g) (x:=(⟨b.name,X⟩:Maker)) p (show RMaker d _ (⟨b.name,X⟩:Maker) from ⟨_,rfl,Z0⟩) N)
 replace N:=N.nf
 obtain ⟨n1,f⟩:∃Y,Y=(vI j X.name (.agg #[.string b.name,.string X.name,.slice Z2 X.fields.length K2])):=⟨_,rfl⟩
 have a3:MapRel (RVa RMaker d) n1 (jD g X.name (⟨b.name,X⟩:Maker)):=by rw [f];exact (MapRel.once p ⟨_,rfl,(show RMaker d _ (⟨b.name,X⟩:Maker) from ⟨_,rfl,Z0⟩)⟩)
 rw [<- f] at N
 clear f
 refine go fun a J=>?_
 replace N:=N.ar [1] [6,6,2,6,6,6,6]
 refine X0 _ _ _ (by subst n;omega) ⟨(k+1),(true),(n1),((jD g X.name (⟨b.name,X⟩:Maker))),rfl,⟨J.pk,N⟩,?_⟩
 refine ⟨?_,a3⟩
 rw [k0,zA a1];simp [xQ, *]
 replace N:=N.nf
 obtain ⟨o1,f⟩:∃Y,Y=(vI j X.name (.agg #[.string b.name,.string X.name,.slice Z2 X.fields.length K2])):=⟨_,rfl⟩
 have b3:MapRel (RVa RMaker d) o1 (jD g X.name (⟨b.name,X⟩:Maker)):=by rw [f];exact (MapRel.once p ⟨_,rfl,(show RMaker d _ (⟨b.name,X⟩:Maker) from ⟨_,rfl,Z0⟩)⟩)
 rw [<- f] at N
 clear f
 refine go fun a J=>?_
 replace N:=N.ar [1] [6,6,2,6,6,6,6]
 refine X0 _ _ _ (by subst n;omega) ⟨(k+1),(false),(o1),((jD g X.name (⟨b.name,X⟩:Maker))),rfl,⟨J.pk,N⟩,?_⟩
 refine ⟨?_,b3⟩
 rw [k0,zA a1];simp [xQ, *]
 refine go fun a J=>?_
 replace N:=N.dl [0]
 refine X0 _ _ _ (by subst n;omega) ⟨(k+1),(false),(j),(g),rfl,⟨J.pk,N⟩,?_⟩
 refine ⟨?_,p⟩
 rw [k0,zA a1];simp [xQ, *]
 refine go fun a J=>?_
 replace N:=N.dl [0]
 refine s0 _ _ _ (by subst n;omega) ⟨(i+1),(o2),(m0),(l0),(j),(g),rfl,⟨J.pk,N⟩,?_⟩
 refine ⟨?_,r0,p⟩
 rw [zE T2] at k0
 rw [j0,zA u0,oC]
 simp only [xQ] at k0
 have Z:nQ false l0 b=false:=by simp [nQ,yL, *]
 have a0:pL false l0 b=l0:=by simp [pL,yL, *]
 rw [Z,a0,k0]
 refine zX call178 (fun h2 w N a J=>?_) (fun h2 w N a J=>?_) (c:=mB G N)
 refine go fun a J=>?_
 by_cases X4:b.name=(⟨#[73,110,116]⟩:Bs)
 refine go fun a J=>?_
 refine zR (J.ks [1,4,7,25,26,27,59,60]) N (fun R mm a w=>∃(k:Nat) (o2:Bool) (j:List (Bs×Value)) (g:List (Bs×Maker)),mm=b.cons.length - k/\R d [(5,.bool o2),(61,.int .i64 k)] [(4,.mp V0 j)] a w/\(xQ b.name false l1 b.cons=xQ b.name o2 g (b.cons.drop k)/\MapRel (RVa RMaker d) j g)) (b.cons.length - 0) ⟨0,false,m1,l1,rfl,⟨J.pk,N⟩,⟨rfl,r1⟩⟩ ?_
 clear N J
 rintro mm a w ⟨k,o2,j,g,n,⟨J,N⟩,I⟩ E4 w0
 replace N:=N.nf
 obtain ⟨I,p⟩:=I
 by_cases O1:k < b.cons.length
 refine go fun a J=>?_
 obtain ⟨p5,rfl,s,K0,F3,Y3,Q3,E0⟩:=W0.el t0 O1
 obtain ⟨w5,rfl,L2⟩:=id E0
 obtain ⟨W1,G1,rfl,f4,n4⟩:=L2.fm
 refine Alc fun M4 w N a J=>?_
 refine Sto 0 fun w N a J=>?_
 refine Reg [1,1,1,2,0,1,1,1,1,1,2,1,2,1,2,2,1,0,1,1] [0,1,2,3,4,6,7] fun w N a J=>?_
 refine go fun a J=>?_
 cases o2
 refine go fun a J=>?_
 replace N:=N.dl [0]
 refine w0 _ _ _ (by subst n;omega) ⟨(k+1),(false),(j),(g),rfl,⟨J.pk,N⟩,?_⟩
 refine ⟨?_,p⟩
 rw [I,zA K0];simp [xQ, *]
 refine zX call178 (fun i2 w N a J=>?_) (fun i2 w N a J=>?_) (c:=mB G N)
 refine z3v fun a J=>?_
 replace N:=N.pl 5
 refine zX call191 (fun j2 w N a J=>?_) (fun j2 w N a J=>?_) (c:=pJ (m:=j) (l:=g) (x:=(⟨b.name,s⟩:Maker)) p (show RMaker d _ (⟨b.name,s⟩:Maker) from ⟨_,rfl,E0⟩) N)
 replace N:=N.nf
 obtain ⟨p1,f⟩:∃Y,Y=(vI j s.name (.agg #[.string b.name,.string s.name,.slice W1 s.fields.length G1])):=⟨_,rfl⟩
 have d3:MapRel (RVa RMaker d) p1 (jD g s.name (⟨b.name,s⟩:Maker)):=by rw [f];exact (MapRel.once p ⟨_,rfl,(show RMaker d _ (⟨b.name,s⟩:Maker) from ⟨_,rfl,E0⟩)⟩)
 rw [<- f] at N
 clear f
 refine go fun a J=>?_
 replace N:=N.ar [1] [6,6,2,6,6,6,6]
 refine w0 _ _ _ (by subst n;omega) ⟨(k+1),(true),(p1),((jD g s.name (⟨b.name,s⟩:Maker))),rfl,⟨J.pk,N⟩,?_⟩
 refine ⟨?_,d3⟩
 rw [I,zA K0];simp [xQ, *]
 replace N:=N.nf
 obtain ⟨q1,f⟩:∃Y,Y=(vI j s.name (.agg #[.string b.name,.string s.name,.slice W1 s.fields.length G1])):=⟨_,rfl⟩
 have e3:MapRel (RVa RMaker d) q1 (jD g s.name (⟨b.name,s⟩:Maker)):=by rw [f];exact (MapRel.once p ⟨_,rfl,(show RMaker d _ (⟨b.name,s⟩:Maker) from ⟨_,rfl,E0⟩)⟩)
 rw [<- f] at N
 clear f
 refine go fun a J=>?_
 replace N:=N.ar [1] [6,6,2,6,6,6,6]
 refine w0 _ _ _ (by subst n;omega) ⟨(k+1),(false),(q1),((jD g s.name (⟨b.name,s⟩:Maker))),rfl,⟨J.pk,N⟩,?_⟩
 refine ⟨?_,e3⟩
 rw [I,zA K0];simp [xQ, *]
 refine go fun a J=>?_
 replace N:=N.dl [0]
 refine w0 _ _ _ (by subst n;omega) ⟨(k+1),(false),(j),(g),rfl,⟨J.pk,N⟩,?_⟩
 refine ⟨?_,p⟩
 rw [I,zA K0];simp [xQ, *]
 refine go fun a J=>?_
 replace N:=N.dl [0]
 refine s0 _ _ _ (by subst n;omega) ⟨(i+1),(o2),(m0),(l0),(j),(g),rfl,⟨J.pk,N⟩,?_⟩
 refine ⟨?_,r0,p⟩
 rw [zE O1] at I
 rw [j0,zA u0,oC]
 simp only [xQ] at I
 have Z:nQ true l0 b=false:=by simp [nQ,yL, *]
 have a0:pL true l0 b=l0:=by simp [pL,yL, *]
 rw [Z,a0,I]
 replace N:=N.pl 5
 refine zX call190 (fun k2 w N a J=>?_) (fun k2 w N a J=>?_) (c:=q4u (m:=m0) (l:=l0) (x:=b) r0 Y0 N)
 replace N:=N.nf
 obtain ⟨b1,f⟩:∃Y,Y=(vI m0 b.name (.agg #[.string b.name,.slice Y2 b.cons.length J2])):=⟨_,rfl⟩
 have e2:MapRel (RVa RData d) b1 (jD l0 b.name b):=by rw [f];exact (MapRel.once r0 ⟨_,rfl,Y0⟩)
 rw [<- f] at N
 clear f
 by_cases Y4:0 < b.cons.length
 refine go fun a J=>?_
 refine zR (J.ks [1,4,7,25,26,27,59,60]) N (fun R mm a w=>∃(k:Nat) (o2:Bool) (j:List (Bs×Value)) (g:List (Bs×Maker)),mm=b.cons.length - k/\R d [(5,.bool o2),(61,.int .i64 k)] [(5,.mp V0 j)] a w/\(xQ b.name true l1 b.cons=xQ b.name o2 g (b.cons.drop k)/\MapRel (RVa RMaker d) j g)) (b.cons.length - 0) ⟨0,true,m1,l1,rfl,⟨J.pk,N⟩,⟨rfl,r1⟩⟩ ?_
 clear N J
 rintro mm a w ⟨k,o2,j,g,n,⟨J,N⟩,L⟩ F4 x0
 replace N:=N.nf
 obtain ⟨L,p⟩:=L
 by_cases P1:k < b.cons.length
 refine go fun a J=>?_
 obtain ⟨q5,rfl,t,L0,G3,Z3,R3,F0⟩:=W0.el t0 P1
 obtain ⟨x5,rfl,M2⟩:=id F0
 obtain ⟨X1,H1,rfl,g4,o4⟩:=M2.fm
 refine Alc fun N4 w N a J=>?_
 refine Sto 0 fun w N a J=>?_
 refine Reg [1,1,1,2,0,1,1,1,1,1,2,1,2,1,2,2,1,0,1,1] [0,1,2,3,4,5,7] fun w N a J=>?_
 refine go fun a J=>?_
 cases o2
 refine go fun a J=>?_
 replace N:=N.dl [0]
 refine x0 _ _ _ (by subst n;omega) ⟨(k+1),(false),(j),(g),rfl,⟨J.pk,N⟩,?_⟩
 refine ⟨?_,p⟩
 rw [L,zA L0];simp [xQ, *]
 refine zX call178 (fun n2 w N a J=>?_) (fun n2 w N a J=>?_) (c:=mB G N)
 refine z3v fun a J=>?_
 replace N:=N.pl 6
 refine zX call191 (fun p2 w N a J=>?_) (fun p2 w N a J=>?_) (c:=pJ (m:=j) (l:=g) (x:=(⟨b.name,t⟩:Maker)) p (show RMaker d _ (⟨b.name,t⟩:Maker) from ⟨_,rfl,F0⟩) N)
 replace N:=N.nf
 obtain ⟨t1,f⟩:∃Y,Y=(vI j t.name (.agg #[.string b.name,.string t.name,.slice X1 t.fields.length H1])):=⟨_,rfl⟩
 have f3:MapRel (RVa RMaker d) t1 (jD g t.name (⟨b.name,t⟩:Maker)):=by rw [f];exact (MapRel.once p ⟨_,rfl,(show RMaker d _ (⟨b.name,t⟩:Maker) from ⟨_,rfl,F0⟩)⟩)
 rw [<- f] at N
 clear f
 refine go fun a J=>?_
 replace N:=N.ar [1] [6,1,6,6,6,6,6]
 refine x0 _ _ _ (by subst n;omega) ⟨(k+1),(true),(t1),((jD g t.name (⟨b.name,t⟩:Maker))),rfl,⟨J.pk,N⟩,?_⟩
 refine ⟨?_,f3⟩
 rw [L,zA L0];simp [xQ, *]
 replace N:=N.nf
 obtain ⟨u1,f⟩:∃Y,Y=(vI j t.name (.agg #[.string b.name,.string t.name,.slice X1 t.fields.length H1])):=⟨_,rfl⟩
 have g3:MapRel (RVa RMaker d) u1 (jD g t.name (⟨b.name,t⟩:Maker)):=by rw [f];exact (MapRel.once p ⟨_,rfl,(show RMaker d _ (⟨b.name,t⟩:Maker) from ⟨_,rfl,F0⟩)⟩)
 rw [<- f] at N
 clear f
 refine go fun a J=>?_
 replace N:=N.ar [1] [6,1,6,6,6,6,6]
 refine x0 _ _ _ (by subst n;omega) ⟨(k+1),(false),(u1),((jD g t.name (⟨b.name,t⟩:Maker))),rfl,⟨J.pk,N⟩,?_⟩
 refine ⟨?_,g3⟩
 rw [L,zA L0];simp [xQ, *]
 refine go fun a J=>?_
 replace N:=N.dl [0]
 refine x0 _ _ _ (by subst n;omega) ⟨(k+1),(false),(j),(g),rfl,⟨J.pk,N⟩,?_⟩
 refine ⟨?_,p⟩
 rw [L,zA L0];simp [xQ, *]
 refine go fun a J=>?_
 replace N:=N.ar [1] [5,1,5,5,5,5]
 refine s0 _ _ _ (by subst n;omega) ⟨(i+1),(o2),(b1),((jD l0 b.name b)),(j),(g),rfl,⟨J.pk,N⟩,?_⟩
 refine ⟨?_,e2,p⟩
 rw [zE P1] at L
 rw [j0,zA u0,oC]
 simp only [xQ] at L
 have Z:nQ true l0 b=true:=by simp [nQ,yL, *]
 have a0:pL true l0 b=(jD l0 b.name b):=by simp [pL,yL, *]
 rw [Z,a0,L]
 refine go fun a J=>?_
 refine zR (J.ks [1,4,7,25,26,27,59,60]) N (fun R mm a w=>∃(k:Nat) (o2:Bool) (j:List (Bs×Value)) (g:List (Bs×Maker)),mm=b.cons.length - k/\R d [(5,.bool o2),(61,.int .i64 k)] [(5,.mp V0 j)] a w/\(xQ b.name false l1 b.cons=xQ b.name o2 g (b.cons.drop k)/\MapRel (RVa RMaker d) j g)) (b.cons.length - 0) ⟨0,false,m1,l1,rfl,⟨J.pk,N⟩,⟨rfl,r1⟩⟩ ?_
 clear N J
 rintro mm a w ⟨k,o2,j,g,n,⟨J,N⟩,M⟩ G4 y0
 replace N:=N.nf
 obtain ⟨M,p⟩:=M
 by_cases Q1:k < b.cons.length
 refine go fun a J=>?_
 obtain ⟨r5,rfl,u,M0,H3,a4,S3,G0⟩:=W0.el t0 Q1
 obtain ⟨y5,rfl,N2⟩:=id G0
 obtain ⟨Y1,I1,rfl,h4,p4⟩:=N2.fm
 refine Alc fun O4 w N a J=>?_
 refine Sto 0 fun w N a J=>?_
 refine Reg [1,1,1,2,0,1,1,1,1,1,2,1,2,1,2,2,1,0,1,1] [0,1,2,3,4,5,7] fun w N a J=>?_
 refine go fun a J=>?_
 cases o2
 refine go fun a J=>?_
 replace N:=N.dl [0]
 refine y0 _ _ _ (by subst n;omega) ⟨(k+1),(false),(j),(g),rfl,⟨J.pk,N⟩,?_⟩
 refine ⟨?_,p⟩
 rw [M,zA M0];simp [xQ, *]
 refine zX call178 (fun q2 w N a J=>?_) (fun q2 w N a J=>?_) (c:=mB G N)
 refine z3v fun a J=>?_
 replace N:=N.pl 6
 refine zX call191 (fun t2 w N a J=>?_) (fun t2 w N a J=>?_) (c:=pJ (m:=j) (l:=g) (x:=(⟨b.name,u⟩:Maker)) p (show RMaker d _ (⟨b.name,u⟩:Maker) from ⟨_,rfl,G0⟩) N)
 replace N:=N.nf
 obtain ⟨v1,f⟩:∃Y,Y=(vI j u.name (.agg #[.string b.name,.string u.name,.slice Y1 u.fields.length I1])):=⟨_,rfl⟩
 have h3:MapRel (RVa RMaker d) v1 (jD g u.name (⟨b.name,u⟩:Maker)):=by rw [f];exact (MapRel.once p ⟨_,rfl,(show RMaker d _ (⟨b.name,u⟩:Maker) from ⟨_,rfl,G0⟩)⟩)
 rw [<- f] at N
 clear f
 refine go fun a J=>?_
 replace N:=N.ar [1] [6,1,6,6,6,6,6]
 refine y0 _ _ _ (by subst n;omega) ⟨(k+1),(true),(v1),((jD g u.name (⟨b.name,u⟩:Maker))),rfl,⟨J.pk,N⟩,?_⟩
 refine ⟨?_,h3⟩
 rw [M,zA M0];simp [xQ, *]
 replace N:=N.nf
 obtain ⟨w1,f⟩:∃Y,Y=(vI j u.name (.agg #[.string b.name,.string u.name,.slice Y1 u.fields.length I1])):=⟨_,rfl⟩
 have i3:MapRel (RVa RMaker d) w1 (jD g u.name (⟨b.name,u⟩:Maker)):=by rw [f];exact (MapRel.once p ⟨_,rfl,(show RMaker d _ (⟨b.name,u⟩:Maker) from ⟨_,rfl,G0⟩)⟩)
 rw [<- f] at N
 clear f
 refine go fun a J=>?_
 replace N:=N.ar [1] [6,1,6,6,6,6,6]
 refine y0 _ _ _ (by subst n;omega) ⟨(k+1),(false),(w1),((jD g u.name (⟨b.name,u⟩:Maker))),rfl,⟨J.pk,N⟩,?_⟩
 refine ⟨?_,i3⟩
 rw [M,zA M0];simp [xQ, *]
 refine go fun a J=>?_
 replace N:=N.dl [0]
 refine y0 _ _ _ (by subst n;omega) ⟨(k+1),(false),(j),(g),rfl,⟨J.pk,N⟩,?_⟩
 refine ⟨?_,p⟩
 rw [M,zA M0];simp [xQ, *]
 refine go fun a J=>?_
 replace N:=N.ar [1] [5,1,5,5,5,5]
 refine s0 _ _ _ (by subst n;omega) ⟨(i+1),(o2),(b1),((jD l0 b.name b)),(j),(g),rfl,⟨J.pk,N⟩,?_⟩
 refine ⟨?_,e2,p⟩
 rw [zE Q1] at M
 rw [j0,zA u0,oC]
 simp only [xQ] at M
 have Z:nQ true l0 b=false:=by simp [nQ,yL, *]
 have a0:pL true l0 b=(jD l0 b.name b):=by simp [pL,yL, *]
 rw [Z,a0,M]
 replace N:=N.nf
 obtain ⟨x1,f⟩:∃Y,Y=(vI m0 b.name (.agg #[.string b.name,.slice Y2 b.cons.length J2])):=⟨_,rfl⟩
 have j3:MapRel (RVa RData d) x1 (jD l0 b.name b):=by rw [f];exact (MapRel.once r0 ⟨_,rfl,Y0⟩)
 rw [<- f] at N
 clear f
 refine go fun a J=>?_
 refine zR (J.ks [1,4,7,25,26,27,59,60]) N (fun R mm a w=>∃(k:Nat) (o2:Bool) (j:List (Bs×Value)) (g:List (Bs×Maker)),mm=b.cons.length - k/\R d [(5,.bool o2),(61,.int .i64 k)] [(5,.mp V0 j)] a w/\(xQ b.name false l1 b.cons=xQ b.name o2 g (b.cons.drop k)/\MapRel (RVa RMaker d) j g)) (b.cons.length - 0) ⟨0,false,m1,l1,rfl,⟨J.pk,N⟩,⟨rfl,r1⟩⟩ ?_
 clear N J
 rintro mm a w ⟨k,o2,j,g,n,⟨J,N⟩,P⟩ H4 z0
 replace N:=N.nf
 obtain ⟨P,p⟩:=P
 by_cases R1:k < b.cons.length
 refine go fun a J=>?_
 obtain ⟨s5,rfl,z,N0,I3,b4,T3,H0⟩:=W0.el t0 R1
 obtain ⟨z5,rfl,O2⟩:=id H0
 obtain ⟨Z1,J1,rfl,i4,r4⟩:=O2.fm
 refine Alc fun P4 w N a J=>?_
 refine Sto 0 fun w N a J=>?_
 refine Reg [1,1,1,2,0,1,1,1,1,1,2,1,2,1,2,2,1,0,1,1] [0,1,2,3,4,5,7] fun w N a J=>?_
 refine go fun a J=>?_
 cases o2
 refine go fun a J=>?_
 replace N:=N.dl [0]
 refine z0 _ _ _ (by subst n;omega) ⟨(k+1),(false),(j),(g),rfl,⟨J.pk,N⟩,?_⟩
 refine ⟨?_,p⟩
 rw [P,zA N0];simp [xQ, *]
 refine zX call178 (fun u2 w N a J=>?_) (fun u2 w N a J=>?_) (c:=mB G N)
 refine z3v fun a J=>?_
 replace N:=N.pl 6
 refine zX call191 (fun v2 w N a J=>?_) (fun v2 w N a J=>?_) (c:=pJ (m:=j) (l:=g) (x:=(⟨b.name,z⟩:Maker)) p (show RMaker d _ (⟨b.name,z⟩:Maker) from ⟨_,rfl,H0⟩) N)
 replace N:=N.nf
 obtain ⟨y1,f⟩:∃Y,Y=(vI j z.name (.agg #[.string b.name,.string z.name,.slice Z1 z.fields.length J1])):=⟨_,rfl⟩
 have k3:MapRel (RVa RMaker d) y1 (jD g z.name (⟨b.name,z⟩:Maker)):=by rw [f];exact (MapRel.once p ⟨_,rfl,(show RMaker d _ (⟨b.name,z⟩:Maker) from ⟨_,rfl,H0⟩)⟩)
 rw [<- f] at N
 clear f
 refine go fun a J=>?_
 replace N:=N.ar [1] [6,1,6,6,6,6,6]
 refine z0 _ _ _ (by subst n;omega) ⟨(k+1),(true),(y1),((jD g z.name (⟨b.name,z⟩:Maker))),rfl,⟨J.pk,N⟩,?_⟩
 refine ⟨?_,k3⟩
 rw [P,zA N0];simp [xQ, *]
 replace N:=N.nf
 obtain ⟨z1,f⟩:∃Y,Y=(vI j z.name (.agg #[.string b.name,.string z.name,.slice Z1 z.fields.length J1])):=⟨_,rfl⟩
 have n3:MapRel (RVa RMaker d) z1 (jD g z.name (⟨b.name,z⟩:Maker)):=by rw [f];exact (MapRel.once p ⟨_,rfl,(show RMaker d _ (⟨b.name,z⟩:Maker) from ⟨_,rfl,H0⟩)⟩)
 rw [<- f] at N
 clear f
 refine go fun a J=>?_
 replace N:=N.ar [1] [6,1,6,6,6,6,6]
 refine z0 _ _ _ (by subst n;omega) ⟨(k+1),(false),(z1),((jD g z.name (⟨b.name,z⟩:Maker))),rfl,⟨J.pk,N⟩,?_⟩
 refine ⟨?_,n3⟩
 rw [P,zA N0];simp [xQ, *]
 refine go fun a J=>?_
 replace N:=N.dl [0]
 refine z0 _ _ _ (by subst n;omega) ⟨(k+1),(false),(j),(g),rfl,⟨J.pk,N⟩,?_⟩
 refine ⟨?_,p⟩
 rw [P,zA N0];simp [xQ, *]
 refine go fun a J=>?_
 replace N:=N.ar [1] [5,1,5,5,5,5]
 refine s0 _ _ _ (by subst n;omega) ⟨(i+1),(o2),(x1),((jD l0 b.name b)),(j),(g),rfl,⟨J.pk,N⟩,?_⟩
 refine ⟨?_,j3,p⟩
 rw [zE R1] at P
 rw [j0,zA u0,oC]
 simp only [xQ] at P
 have Z:nQ true l0 b=false:=by simp [nQ,yL, *]
 have a0:pL true l0 b=(jD l0 b.name b):=by simp [pL,yL, *]
 rw [Z,a0,P]
 refine go fun a J=>?_
 refine zR (J.ks [1,4,7,25,26,27,59,60]) N (fun R mm a w=>∃(k:Nat) (o2:Bool) (j:List (Bs×Value)) (g:List (Bs×Maker)),mm=b.cons.length - k/\R d [(5,.bool o2),(61,.int .i64 k)] [(4,.mp V0 j)] a w/\(xQ b.name false l1 b.cons=xQ b.name o2 g (b.cons.drop k)/\MapRel (RVa RMaker d) j g)) (b.cons.length - 0) ⟨0,false,m1,l1,rfl,⟨J.pk,N⟩,⟨rfl,r1⟩⟩ ?_
 clear N J
 rintro mm a w ⟨k,o2,j,g,n,⟨J,N⟩,S⟩ I4 A0
 replace N:=N.nf
 obtain ⟨S,p⟩:=S
 by_cases S1:k < b.cons.length
 refine go fun a J=>?_
 obtain ⟨t5,rfl,A,O0,J3,c4,U3,I0⟩:=W0.el t0 S1
 obtain ⟨A5,rfl,P2⟩:=id I0
 obtain ⟨a2,K1,rfl,j4,s4⟩:=P2.fm
 refine Alc fun Q4 w N a J=>?_
 refine Sto 0 fun w N a J=>?_
 refine Reg [1,1,1,2,0,1,1,1,1,1,2,1,2,1,2,2,1,0,1,1] [0,1,2,3,4,6,7] fun w N a J=>?_
 refine go fun a J=>?_
 cases o2
 refine go fun a J=>?_
 replace N:=N.dl [0]
 refine A0 _ _ _ (by subst n;omega) ⟨(k+1),(false),(j),(g),rfl,⟨J.pk,N⟩,?_⟩
 refine ⟨?_,p⟩
 rw [S,zA O0];simp [xQ, *]
 refine zX call178 (fun w2 w N a J=>?_) (fun w2 w N a J=>?_) (c:=mB G N)
 refine z3v fun a J=>?_
 replace N:=N.pl 5
 refine zX call191 (fun x2 w N a J=>?_) (fun x2 w N a J=>?_) (c:=pJ (m:=j) (l:=g) (x:=(⟨b.name,A⟩:Maker)) p (show RMaker d _ (⟨b.name,A⟩:Maker) from ⟨_,rfl,I0⟩) N)
 replace N:=N.nf
 obtain ⟨A1,f⟩:∃Y,Y=(vI j A.name (.agg #[.string b.name,.string A.name,.slice a2 A.fields.length K1])):=⟨_,rfl⟩
 have o3:MapRel (RVa RMaker d) A1 (jD g A.name (⟨b.name,A⟩:Maker)):=by rw [f];exact (MapRel.once p ⟨_,rfl,(show RMaker d _ (⟨b.name,A⟩:Maker) from ⟨_,rfl,I0⟩)⟩)
 rw [<- f] at N
 clear f
 refine go fun a J=>?_
 replace N:=N.ar [1] [6,6,2,6,6,6,6]
 refine A0 _ _ _ (by subst n;omega) ⟨(k+1),(true),(A1),((jD g A.name (⟨b.name,A⟩:Maker))),rfl,⟨J.pk,N⟩,?_⟩
 refine ⟨?_,o3⟩
 rw [S,zA O0];simp [xQ, *]
 replace N:=N.nf
 obtain ⟨B1,f⟩:∃Y,Y=(vI j A.name (.agg #[.string b.name,.string A.name,.slice a2 A.fields.length K1])):=⟨_,rfl⟩
 have p3:MapRel (RVa RMaker d) B1 (jD g A.name (⟨b.name,A⟩:Maker)):=by rw [f];exact (MapRel.once p ⟨_,rfl,(show RMaker d _ (⟨b.name,A⟩:Maker) from ⟨_,rfl,I0⟩)⟩)
 rw [<- f] at N
 clear f
 refine go fun a J=>?_
 replace N:=N.ar [1] [6,6,2,6,6,6,6]
 refine A0 _ _ _ (by subst n;omega) ⟨(k+1),(false),(B1),((jD g A.name (⟨b.name,A⟩:Maker))),rfl,⟨J.pk,N⟩,?_⟩
 refine ⟨?_,p3⟩
 rw [S,zA O0];simp [xQ, *]
 refine go fun a J=>?_
 replace N:=N.dl [0]
 refine A0 _ _ _ (by subst n;omega) ⟨(k+1),(false),(j),(g),rfl,⟨J.pk,N⟩,?_⟩
 refine ⟨?_,p⟩
 rw [S,zA O0];simp [xQ, *]
 refine go fun a J=>?_
 replace N:=N.dl [0]
 refine s0 _ _ _ (by subst n;omega) ⟨(i+1),(o2),(m0),(l0),(j),(g),rfl,⟨J.pk,N⟩,?_⟩
 refine ⟨?_,r0,p⟩
 rw [zE S1] at S
 rw [j0,zA u0,oC]
 simp only [xQ] at S
 have Z:nQ true l0 b=false:=by simp [nQ,yL, *]
 have a0:pL true l0 b=l0:=by simp [pL,yL, *]
 rw [Z,a0,S]
 refine go fun a J=>?_
 have C2:=j0
 rw [zE S2] at C2
 simp only [uW] at C2
 refine go fun a J=>?_
 refine zR (J.ks [1,4,87,88]) N (fun R mm a w=>∃(i:Nat) (oF:Bool) (m2:List (Bs×Value)) (l2:List (Bs×Fun)),mm=c.funs.length - i/\R d [(5,.bool oF),(89,.int .i64 i)] [(2,.mp y3 m2)] a w/\(uX o [] c.funs=uX oF l2 (c.funs.drop i)/\MapRel (RVa RFun d) m2 l2)) (c.funs.length - 0) ⟨0,o,[],[],rfl,⟨J.pk,N⟩,⟨rfl,MapRel.nil⟩⟩ ?_
 clear N J
 rintro mm a w ⟨i,oF,m2,l2,n,⟨J,N⟩,g0⟩ J4 B0
 replace N:=N.nf
 obtain ⟨g0,r2⟩:=g0
 by_cases T1:i < c.funs.length
 refine go fun a J=>?_
 obtain ⟨u5,rfl,r,P0,K3,d4,V3,J0⟩:=h8.el W2 T1
 obtain ⟨B5,R4,rfl,Q2,R2⟩:=id J0
 obtain ⟨b2,L1,rfl,k4,t4⟩:=Q2.fm
 obtain ⟨c2,M1,d2,N1,rfl,X3,Z4,a5,l4,u4,m4,v4⟩:=REx.fm R2
 refine Alc fun S4 w N a J=>?_
 refine Sto 0 fun w N a J=>?_
 refine Reg [1,1,1,2,0,1,1,1,1,1,2,1,2,2,0,1,1] [0,1,2,4,5,6] fun w N a J=>?_
 refine go fun a J=>?_
 cases oF
 refine go fun a J=>?_
 replace N:=N.dl [0]
 refine B0 _ _ _ (by subst n;omega) ⟨(i+1),(false),(m2),(l2),rfl,⟨J.pk,N⟩,?_⟩
 refine ⟨?_,r2⟩
 rw [g0,zA P0];simp [uX, *]
 refine zX call138 (fun y2 w N a J=>?_) (fun y2 w N a J=>?_) (c:=tH G N)
 replace N:=N.pl 3
 refine zX call192 (fun z2 w N a J=>?_) (fun z2 w N a J=>?_) (c:=q8n (m:=m2) (l:=l2) (x:=r) r2 J0 N)
 replace N:=N.nf
 obtain ⟨C1,f⟩:∃Y,Y=(vI m2 r.name (.agg #[.string r.name,.slice b2 r.params.length L1,.string r.result,.int .i64 (r.body.kind),.int .i64 (r.body.num),.string r.body.name,.slice c2 r.body.args.length M1,.slice d2 r.body.arms.length N1])):=⟨_,rfl⟩
 have q3:MapRel (RVa RFun d) C1 (jD l2 r.name r):=by rw [f];exact (MapRel.once r2 ⟨_,rfl,J0⟩)
 rw [<- f] at N
 clear f
 refine go fun a J=>?_
 replace N:=N.ar [1] [5,5,5,3,5,5]
 refine B0 _ _ _ (by subst n;omega) ⟨(i+1),(true),(C1),((jD l2 r.name r)),rfl,⟨J.pk,N⟩,?_⟩
 refine ⟨?_,q3⟩
 rw [g0,zA P0];simp [uX, *]
 replace N:=N.nf
 obtain ⟨D1,f⟩:∃Y,Y=(vI m2 r.name (.agg #[.string r.name,.slice b2 r.params.length L1,.string r.result,.int .i64 (r.body.kind),.int .i64 (r.body.num),.string r.body.name,.slice c2 r.body.args.length M1,.slice d2 r.body.arms.length N1])):=⟨_,rfl⟩
 have t3:MapRel (RVa RFun d) D1 (jD l2 r.name r):=by rw [f];exact (MapRel.once r2 ⟨_,rfl,J0⟩)
 rw [<- f] at N
 clear f
 refine go fun a J=>?_
 replace N:=N.ar [1] [5,5,5,3,5,5]
 refine B0 _ _ _ (by subst n;omega) ⟨(i+1),(false),(D1),((jD l2 r.name r)),rfl,⟨J.pk,N⟩,?_⟩
 refine ⟨?_,t3⟩
 rw [g0,zA P0];simp [uX, *]
 refine go fun a J=>?_
 replace N:=N.dl [0]
 refine B0 _ _ _ (by subst n;omega) ⟨(i+1),(false),(m2),(l2),rfl,⟨J.pk,N⟩,?_⟩
 refine ⟨?_,r2⟩
 rw [g0,zA P0];simp [uX, *]
 refine go fun a J=>?_
 have D2:=g0
 rw [zE T1] at D2
 simp only [uX] at D2
 refine go fun a J=>?_
 refine zR (J.ks [4,111,112]) N (fun R mm a w=>∃(i:Nat) (oI:Bool) (m3:List (Bs×Value)) (l3:List (Bs×Bs)),mm=c.inputs.length - i/\R d [(5,.bool oI),(113,.int .i64 i)] [(1,.mp z3 m3)] a w/\(uY oF [] c.inputs=uY oI l3 (c.inputs.drop i)/\MapRel RVs m3 l3)) (c.inputs.length - 0) ⟨0,oF,[],[],rfl,⟨J.pk,N⟩,⟨rfl,MapRel.nil⟩⟩ ?_
 clear N J
 rintro mm a w ⟨i,oI,m3,l3,n,⟨J,N⟩,T⟩ K4 C0
 replace N:=N.nf
 obtain ⟨T,r3⟩:=T
 by_cases U1:i < c.inputs.length
 refine go fun a J=>?_
 obtain ⟨v5,rfl,H,Q0,L3,e4,W3,F2⟩:=h7.el V2 U1
 obtain rfl:=id F2
 refine Alc fun T4 w N a J=>?_
 refine Sto 0 fun w N a J=>?_
 refine Reg [1,1,1,2,0,1,1,1,1,1,2,1,2,1,2,0,1,1] [0,1,3,4,5,6] fun w N a J=>?_
 refine go fun a J=>?_
 cases oI
 refine go fun a J=>?_
 replace N:=N.dl [0]
 refine C0 _ _ _ (by subst n;omega) ⟨(i+1),(false),(m3),(l3),rfl,⟨J.pk,N⟩,?_⟩
 refine ⟨?_,r3⟩
 rw [T,zA Q0];simp [uY, *]
 refine zX call138 (fun A2 w N a J=>?_) (fun A2 w N a J=>?_) (c:=tH G N)
 replace N:=N.pl 2
 refine zX call193 (fun B2 w N a J=>?_) (fun B2 w N a J=>?_) (c:=j2y (m:=m3) (l:=l3) (x:=H.type) r3 N)
 replace N:=N.nf
 obtain ⟨E1,f⟩:∃Y,Y=(vI m3 H.name (.string H.type)):=⟨_,rfl⟩
 have u3:MapRel RVs E1 (jD l3 H.name H.type):=by rw [f];exact (MapRel.once r3 rfl)
 rw [<- f] at N
 clear f
 refine go fun a J=>?_
 replace N:=N.ar [1] [5,5,5,5,4,5]
 refine C0 _ _ _ (by subst n;omega) ⟨(i+1),(true),(E1),((jD l3 H.name H.type)),rfl,⟨J.pk,N⟩,?_⟩
 refine ⟨?_,u3⟩
 rw [T,zA Q0];simp [uY, *]
 replace N:=N.nf
 obtain ⟨F1,f⟩:∃Y,Y=(vI m3 H.name (.string H.type)):=⟨_,rfl⟩
 have v3:MapRel RVs F1 (jD l3 H.name H.type):=by rw [f];exact (MapRel.once r3 rfl)
 rw [<- f] at N
 clear f
 refine go fun a J=>?_
 replace N:=N.ar [1] [5,5,5,5,4,5]
 refine C0 _ _ _ (by subst n;omega) ⟨(i+1),(false),(F1),((jD l3 H.name H.type)),rfl,⟨J.pk,N⟩,?_⟩
 refine ⟨?_,v3⟩
 rw [T,zA Q0];simp [uY, *]
 refine go fun a J=>?_
 replace N:=N.dl [0]
 refine C0 _ _ _ (by subst n;omega) ⟨(i+1),(false),(m3),(l3),rfl,⟨J.pk,N⟩,?_⟩
 refine ⟨?_,r3⟩
 rw [T,zA Q0];simp [uY, *]
 refine go fun a J=>?_
 have B:=N
 clear N
 obtain ⟨A4,i0,N,C⟩:=B.freezeMap (i:=4) rfl
 clear B
 replace f0:=f0.mono i0
 replace G:=G.mono i0
 replace D:=D.up i0
 replace r0:=r0.up i0
 replace r1:=r1.up i0
 replace r2:=r2.up i0
 replace N:=N.nf
 have B:=N
 clear N
 obtain ⟨B4,b0,N,U⟩:=B.freezeMap (i:=3) rfl
 clear B
 replace f0:=f0.mono b0
 replace G:=G.mono b0
 replace D:=D.up b0
 replace r0:=r0.up b0
 replace r1:=r1.up b0
 replace r2:=r2.up b0
 replace C:=C.mono b0
 replace N:=N.nf
 have B:=N
 clear N
 obtain ⟨C4,W,N,n0⟩:=B.freezeMap (i:=2) rfl
 clear B
 replace f0:=f0.mono W
 replace G:=G.mono W
 replace D:=D.up W
 replace r0:=r0.up W
 replace r1:=r1.up W
 replace r2:=r2.up W
 replace C:=C.mono W
 replace U:=U.mono W
 replace N:=N.nf
 have B:=N
 clear N
 obtain ⟨D4,F,N,D0⟩:=B.freezeMap (i:=1) rfl
 clear B
 replace f0:=f0.mono F
 replace G:=G.mono F
 replace D:=D.up F
 replace r0:=r0.up F
 replace r1:=r1.up F
 replace r2:=r2.up F
 replace C:=C.mono F
 replace U:=U.mono F
 replace n0:=n0.mono F
 replace N:=N.nf
 have B:=N
 clear N
 obtain ⟨f1,E,N,g1⟩:=B.freezeBlk (i:=0) rfl
 clear B
 replace f0:=f0.mono E
 replace G:=G.mono E
 replace D:=D.up E
 replace r0:=r0.up E
 replace r1:=r1.up E
 replace r2:=r2.up E
 replace C:=C.mono E
 replace U:=U.mono E
 replace n0:=n0.mono E
 replace D0:=D0.mono E
 replace N:=N.nf
 have hT:RTableX f1 ⟨A3,0,none⟩ ⟨c,l0,l1,l2,l3⟩ _:=⟨⟨[.slice p9 c.datas.length B3,.slice x4 c.inputs.length C3,.slice y4 c.funs.length D3,.slice q4 c.outputs.length E3],_,_,_,_,_,_,_,_,g1,rfl,f0,C,r0,U,r1,n0,r2,D0,r3⟩⟩
 refine jO ?_
 replace N:=N.dl [0]
 rw [zE U1] at T
 simp only [uY] at T
 obtain ⟨M3,N3⟩:=x7k C2 D2 T
 rw [M3,N3]
 exact ⟨(f1,_),rfl,⟨((((((p0).trans q0).trans i0).trans b0).trans W).trans F).trans E,hT⟩,N⟩
theorem x1g {V:Fz} {K:List Res} {w:World} {pt:Addr} {T:Table} {s:Bs} {b:Nat}  (rT:RTable V pt T) (N:Mem V (.blk b (ob [.pointer (some pt)] 89)::K) w) :
  Calls prog 155 #[.string s,.pointer (some ⟨b,0,none⟩)] w (fun ee w'=>ee=.returned (.bool ((!pP T s)))/\Mem V (.blk b (ob [.pointer (some pt)] 89)::K) w'):=by
 refine zI func155 ntmps155 fun Q hQ a J=>?_
 refine zO call80 (fun w N a J=>?_) (c:=z8m rT N)
 refine zF ?_
 exact zJ N (by simp [*])
theorem x1h {V:Fz} {K:List Res} {w:World} {pz:Option Addr} {cz:Nat} {ds:List Data} {e f g:Value} {d0:List Value} {p:Param} {b:Nat} (d:RParam V d0 p) (rd:SliceOf RData V 2 (.slice pz ds.length cz) ds) (N:Mem V (.blk b (ob [.slice pz ds.length cz,e,f,g] 27)::K) w) :
  Calls prog 157 #[.agg d0.toArray,.pointer (some ⟨b,0,none⟩)] w (fun ee w'=>ee=.returned (.bool ((!xD ds p.type)))/\Mem V (.blk b (ob [.slice pz ds.length cz,e,f,g] 27)::K) w'):=by
 obtain rfl:=id d
 refine zI func157 ntmps157 fun Q hQ a J=>?_
 refine Bx fun h w N a J=>?_
 refine zO call114 (fun w N a J=>?_) (c:=z5z rd N)
 refine zF ?_
 replace N:=N.dl [0]
 exact zJ N (by simp [*])
theorem x1i {V:Fz} {R K:List Res} {w:World} {d0:List Value} {c:Core} {v:Value} (U1:RCoreX V d0 c v) (i2:Thaw R V v c.outputs) (M:kO c=false) (G:Glob V) (N:Mem V (R++K) w) :
  Calls prog 99 #[.agg d0.toArray] w (fun ee w'=>∃y:Fz×Addr,ee=.returned (.tuple #[.pointer (some y.2),.bool (jA c)])/\(V.Le y.1/\RTableX y.1 y.2 (zN c) v)/\Mem y.1 (R++K) w'):=by
 obtain ⟨s1,s2,s3,q4,Q0,rfl,rfl,h6,h7,h8⟩:=id U1
 obtain ⟨p9,N0,rfl,l3,H1⟩:=h6.fm
 obtain ⟨i1,O0,rfl,m3,t3⟩:=h7.fm
 obtain ⟨N1,P0,rfl,n3,I1⟩:=h8.fm
 refine zI func99 ntmps99 fun Q hQ a J=>?_
 refine Bx fun u0 w N a J=>?_
 refine zV call153 (fun R2 w E1 N a J=>?_) (c:=j4o U1 M G N)
 obtain ⟨j,y0⟩:=R2
 obtain ⟨d,h⟩:=E1
 simp only at d h N J
 replace h6:=h6.up d
 replace h7:=h7.up d
 replace h8:=h8.up d
 replace G:=G.mono d
 replace N:=N.nf
 obtain ⟨t,X,K0,D,f⟩:=i2 j _ _ d (N.perm List.perm_middle.symm)
 have N:=K0
 clear K0
 replace h6:=h6.up X
 replace h7:=h7.up X
 replace h8:=h8.up X
 replace G:=G.mono X
 replace N:=N.nf
 obtain ⟨A2,J1⟩:=D.formO (by decide)
 have C:RTable t y0 (zN c):=(h.mono X).full D
 obtain ⟨d3,Z3,a4,b4,c4,R3,S3,S0,T3,p0,h2,q0,y3,B3,z3,C3,i0,j0,A3,D3⟩:=C.ex
 obtain ⟨d4,P3,e4,c66,f4,c72,g4,Q3,rfl,U3,V3,W3,X3,o3,u3,p3,v3,q3,w3,r3,x3⟩:=RCore.fm q0
 refine Alc fun w0 w N a J=>?_
 refine Sto 0 fun w N a J=>?_
 refine go fun a J=>?_
 generalize I0:(!(pA c))=q1 at J
 cases q1
 by_cases C1:c.outputs.length=0
 refine jO ?_
 replace N:=N.dl [1,0]
 have hr_:jA c=false:=by
  have Y:c.outputs=[]:=List.eq_nil_of_length_eq_zero C1
  simp [jA,Y]
 rotate_left
 have H0:pA c=true:=by simpa using I0
 have c2:c.outputs≠[]:=by intro Y;simp [Y] at C1
 refine go fun a J=>?_
 refine zR (J.ks [1,4,36,37]) N (fun R mm a w=>∃(i:Nat),mm=c.datas.length - i/\R t [(38,.int .i64 i)] [] a w/\(c.datas.all (dF (zN c))=(c.datas.drop i).all (dF (zN c)))) (c.datas.length - 0) ⟨0,rfl,⟨J.pk,N⟩,rfl⟩ ?_
 clear N J
 rintro mm a w ⟨i,P,⟨J,N⟩,n0⟩ O3 G1
 by_cases D1:i < c.datas.length
 refine go fun a J=>?_
 obtain ⟨O2,rfl,g0,L0,W1,l2,d2,c1⟩:=h6.el H1 D1
 obtain ⟨J3,rfl,A0⟩:=id c1
 obtain ⟨E3,r1,rfl,q2,a1⟩:=A0.fm
 refine Alc fun m1 w N a J=>?_
 refine Sto 0 fun w N a J=>?_
 refine go fun a J=>?_
 refine zR (J.ks [1,4,36,37,38,43,44]) N (fun R mm a w=>∃(k:Nat),mm=g0.cons.length - k/\R t [(45,.int .i64 k)] [] a w/\(dF (zN c) g0=(g0.cons.drop k).all (fun x=>x.fields.all fun s=>pP (zN c) s))) (g0.cons.length - 0) ⟨0,rfl,⟨J.pk,N⟩,rfl⟩ ?_
 clear N J
 rintro mm a w ⟨k,P,⟨J,N⟩,c0⟩ S2 W0
 by_cases B0:k < g0.cons.length
 refine go fun a J=>?_
 obtain ⟨S1,rfl,M0,s0,X1,m2,e2,d1⟩:=A0.el a1 B0
 obtain ⟨K3,rfl,C0⟩:=id d1
 obtain ⟨K1,t1,rfl,r2,B2⟩:=C0.fm
 refine Alc fun n1 w N a J=>?_
 refine Sto 0 fun w N a J=>?_
 replace N:=N.pl 2
 refine zX call154 (fun Z w N a J=>?_) (fun Z w N a J=>?_) (c:=y1x (V:=t) (K:=.blk w0 (ob [.pointer (some y0)] 89)::.blk n1 (ob [.string M0.name,.slice K1 M0.fields.length t1] 135)::.blk m1 (ob [.string g0.name,.slice (some S1) g0.cons.length r1] 133)::.blk u0 (ob [.slice (some O2) c.datas.length N0,.slice i1 c.inputs.length O0,.slice N1 c.funs.length P0,.slice q4 c.outputs.length Q0] 27)::K) (p:=fun s=> !pP (zN c) s) (fs:=[]) (cs:=[.pointer (some ⟨w0,0,none⟩)]) C0 call155 (fun x c w hx hc N=>x1g C N) N)
 refine jO ?_
 replace N:=N.dl [3,2,1,0]
 have hr_:jA c=false:=by
  have m:c.datas.all (dF (zN c))=false:=by
   rw [n0,pU L0,c0,pU s0]
   simp only [z9m Z,Bool.false_and]
  simp [jA,m]
 rotate_left
 refine go fun a J=>?_
 replace N:=N.ar [1] [2,1,2]
 refine W0 _ _ _ (by subst P;omega) ⟨(k+1),rfl,⟨J.pk,N⟩,?_⟩
 rw [c0,pU s0];simp only [z9l Z,Bool.true_and]
 refine go fun a J=>?_
 replace N:=N.dl [0]
 refine G1 _ _ _ (by subst P;omega) ⟨(i+1),rfl,⟨J.pk,N⟩,?_⟩
 rw [n0,pU L0];have x0:=c0;rw [q3e B0] at x0;rw [x0];rfl
 refine go fun a J=>?_
 have b2:c.datas.all (dF (zN c))=true:=by rw [n0,q3e D1]
 replace N:=N.pl 1
 refine zX call156 (fun a0 w N a J=>?_) (fun a0 w N a J=>?_) (c:=y8c (V:=t) (K:=.blk u0 (ob [.slice p9 c.datas.length N0,.slice i1 c.inputs.length O0,.slice N1 c.funs.length P0,.slice q4 c.outputs.length Q0] 27)::.blk w0 (ob [.pointer (some y0)] 89)::K) (p:=fun p=> !xD c.datas p.type) (fs:=[]) (cs:=[.pointer (some ⟨u0,0,none⟩)]) h7 call157 (fun x c w hx hc N=>x1h hc h6 N) N)
 refine jO ?_
 replace N:=N.dl [1,0]
 have hr_:jA c=false:=by
  have m:=z9m a0
  simp [jA,m]
 rotate_left
 have F1:c.inputs.all (fun p=>xD c.datas p.type)=true:=z9l a0
 refine go fun a J=>?_
 refine zR (J.ks [1,4,62,63]) N (fun R mm a w=>∃(i:Nat),mm=c.funs.length - i/\R t [(64,.int .i64 i)] [] a w/\(c.funs.all (aF (zN c))=(c.funs.drop i).all (aF (zN c)))) (c.funs.length - 0) ⟨0,rfl,⟨J.pk,N⟩,rfl⟩ ?_
 clear N J
 rintro mm a w ⟨i,P,⟨J,N⟩,z⟩ T2 X0
 by_cases D0:i < c.funs.length
 refine go fun a J=>?_
 obtain ⟨T1,rfl,b,r,Y1,n2,o0,f0⟩:=h8.el I1 D0
 obtain ⟨L3,W2,rfl,E0,U⟩:=id f0
 obtain ⟨L1,u1,rfl,t2,b1⟩:=E0.fm
 obtain ⟨M1,v1,O1,c175,rfl,j2,e3,f3,u2,C2,v2,D2⟩:=REx.fm U
 refine Alc fun o1 w N a J=>?_
 refine Sto 0 fun w N a J=>?_
 refine go fun a J=>?_
 replace N:=N.nilRow 9 1
 replace N:=N.nf
 refine MkM fun z0 w N a J=>?_
 refine go fun a J=>?_
 replace N:=N.nf
 refine go fun a J=>?_
 refine zR (J.ks [1,4,11,13,62,63,64,70,71]) N (fun R mm a w=>∃(k:Nat) (u:Value) (nl:List Bs) (sc:Scope),mm=b.params.length - k/\R t [(12,u),(72,.int .i64 k)] [(0,.mp z0 (xA sc)),(1,.gs (u) 9 1 (strs nl))] a w/\(b.params.all (fun p=>pP (zN c) p.type)=(b.params.drop k).all (fun p=>pP (zN c) p.type)/\b.params.map Param.name=nl++(b.params.drop k).map Param.name/\z4x b.params=(b.params.drop k).foldl (fun s p=>nW s p.name p.type) sc)) (b.params.length - 0) ⟨0,.slice none 0 0,[],[],rfl,⟨J.pk,N⟩,⟨rfl,rfl,rfl⟩⟩ ?_
 clear N J
 rintro mm a w ⟨k,u,nl,sc,P,⟨J,N⟩,E⟩ U2 Y0
 replace N:=N.nf
 by_cases F0:k < b.params.length
 refine go fun a J=>?_
 obtain ⟨H3,rfl,t0,S,Z1,o2,f2,e1⟩:=E0.el b1 F0
 obtain rfl:=id e1
 refine Alc fun X2 w N a J=>?_
 refine Sto 0 fun w N a J=>?_
 refine zX call80 (fun b0 w N a J=>?_) (fun b0 w N a J=>?_) (c:=z8m C N)
 refine yK fun N3 w N a J=>?_
 refine yU 3 vA (fun V1 w N a J=>?_) (hb:=by have J2:=congrArg List.length (E).2.1;have h_:=(y5m M (mgQ r)).1;simp only [List.length_map,laQ,zZ,lcQ,lnQ] at J2 ⊢;omega)
 first | rw [qM] at N | rw [<- yE] at N
 refine z5h 2 runUnderlying157 runUnderlying9 fun w N a J=>?_
 rw [z1y] at N
 refine go fun a J=>?_
 replace N:=N.dl [1,0]
 refine Y0 _ _ _ (by subst P;omega) ⟨(k+1),(V1),(nl++[t0.name]),((nW sc t0.name t0.type)),rfl,⟨J.pk,N⟩,?_⟩
 obtain ⟨k0,l0,m0⟩:=E
 refine ⟨?_,?_,?_⟩
 rw [k0,pU S,b0];rfl
 rw [l0,zA S];simp
 rw [m0,zA S];rfl
 refine jO ?_
 replace N:=N.dl [5,4,3,2,1,0]
 have hr_:jA c=false:=by
  obtain ⟨k0,_,_⟩:=E
  have Y:aF (zN c) b=false:=by
   have z1:b.params.all (fun p=>pP (zN c) p.type)=false:=by rw [k0,pU S];simp only [b0,Bool.false_and]
   simp only [aF,z1,Bool.false_and]
  have m:c.funs.all (aF (zN c))=false:=by rw [z,pU r,Y];rfl
  simp [jA,m]
 rotate_left
 refine go fun a J=>?_
 refine qP [2,1,2,0,1,1,1,2,1,0,0,1,1,1,2,1,2,1,0,1,2,1,1] (.q 0 (.q 1 (.q 2 (.e 3 (.q 4 (.q 5 (.q 6 (.q 7 (.q 8 (.e 9 (.e 10 (.q 11 (.q 12 (.q 13 (.q 14 (.q 15 (.q 16 (.q 17 (.q 19 (.q 20 (.e 18 (.q 21 (.q 22 (.done)))))))))))))))))))))))) [2,3,4] J N fun w N=>?_
 obtain ⟨k0,l0,m0⟩:=E
 rw [zE F0] at k0 l0 m0
 simp only [List.map_nil,List.append_nil,List.foldl_nil,List.all_nil] at k0 l0 m0
 replace N:Mem t (.mp z0 (xA (z4x b.params))::.gs (u) 9 1 (strs (b.params.map Param.name))::.blk o1 (ob [.string b.name,.slice L1 b.params.length u1,.string b.result,.int .i64 (b.body.kind),.int .i64 (b.body.num),.string b.body.name,.slice M1 b.body.args.length v1,.slice O1 b.body.arms.length c175] 68)::.blk u0 (ob [.slice p9 c.datas.length N0,.slice i1 c.inputs.length O0,.slice (some T1) c.funs.length P0,.slice q4 c.outputs.length Q0] 27)::.blk w0 (ob [.pointer (some y0)] 89)::K) w:=by rw [l0,m0];exact N
 have W:=N
 clear N
 subst l0
 subst m0
 have N:=W
 clear W
 refine zX call80 (fun U0 w N a J=>?_) (fun U0 w N a J=>?_) (c:=z8m C N)
 refine go fun a J=>?_
 replace N:=N.pl 1
 refine d_eg J rfl rfl rfl rfl rfl (kG J rfl call85 (j1c (l:=(b.params.map Param.name)) (by have h_:=y5m M (mgQ r);simp only [List.length_map];omega) U N) fun v210 w N=>⟨fun _=>N.sn (Fz.Le.refl _),fun a J=>?_⟩)
 replace N:=N.nf
 have J0:=N
 clear N
 obtain ⟨j1,g,N,r0⟩:=J0.freezeRow (i:=0) rfl
 clear J0
 replace G:=G.mono g
 replace D:=D.up g
 replace C:=C.mono g
 replace p0:=p0.mono g
 replace i0:=i0.mono g
 replace j0:=j0.up g
 replace o0:=o0.mono g
 replace f0:=f0.up g
 replace U:=U.up g
 replace N:=N.nf
 have h0:SliceOf RStr j1 1 _ (((b.params.map Param.name)++yH b.body)):=SliceOf.strs.2 r0
 obtain ⟨F3,b3,L2,w2,E2⟩:=h0.form (by decide)
 have W:=N
 clear N
 subst L2
 have N:=W
 clear W
 refine zX call84 (fun V0 w N a J=>?_) (fun V0 w N a J=>?_) (c:=x2k h0 G N)
 refine zO call86 (fun w N a J=>?_) (c:=x7w (z7a M H0) C U N)
 by_cases g3:(zH (zN c) b.body (z4x b.params)).1=b.result
 refine go fun a J=>?_
 replace N:=N.le (g)
 replace N:=N.dl [1,0]
 refine X0 _ _ _ (by subst P;omega) ⟨(i+1),rfl,⟨J.pk,N⟩,?_⟩
 rw [z,pU r];simp [aF, *]
 refine jO ?_
 replace N:=N.dl [3,2,1,0]
 have hr_:jA c=false:=by
  have Y:aF (zN c) b=false:=by simp [aF, *]
  have m:c.funs.all (aF (zN c))=false:=by rw [z,pU r,Y];rfl
  simp [jA,m]
 rw [hr_]
 exact ⟨(j,_),rfl,⟨d,h⟩,f _ _ (N.le (g))⟩
 refine jO ?_
 replace N:=N.dl [3,2,1,0]
 have hr_:jA c=false:=by
  have Y:aF (zN c) b=false:=by simp [aF, *]
  have m:c.funs.all (aF (zN c))=false:=by rw [z,pU r,Y];rfl
  simp [jA,m]
 rw [hr_]
 exact ⟨(j,_),rfl,⟨d,h⟩,f _ _ (N.le (g))⟩
 refine jO ?_
 replace N:=N.dl [4,3,2,1,0]
 have hr_:jA c=false:=by
  have Y:aF (zN c) b=false:=by simp [aF, *]
  have m:c.funs.all (aF (zN c))=false:=by rw [z,pU r,Y];rfl
  simp [jA,m]
 rotate_left
 have x0:c.funs.all (aF (zN c))=true:=by rw [z,q3e D0]
 refine MkM fun p1 w N a J=>?_
 refine go fun a J=>?_
 refine zR (J.ks [4,16,120,121]) N (fun R mm a w=>∃(i:Nat) (ds:List Bs),mm=c.outputs.length - i/\R t [(122,.int .i64 i)] [(0,.mp p1 (jG ds))] a w/\(nF (zN c) [] c.outputs=nF (zN c) ds (c.outputs.drop i))) (c.outputs.length - 0) ⟨0,[],rfl,⟨J.pk,N⟩,rfl⟩ ?_
 clear N J
 rintro mm a w ⟨i,ds,P,⟨J,N⟩,B⟩ V2 Z0
 replace N:=N.nf
 by_cases G0:i < c.outputs.length
 refine go fun a J=>?_
 obtain ⟨I3,rfl,A,T,R0,p2,g2,f1⟩:=D.el J1 G0
 obtain rfl:R0=[.string A]:=f1
 refine go fun a J=>?_
 rcases F:yV (S0) A with _ | P2
 have H:=congrArg (zK true (.agg #[.string ⟨#[]⟩,.slice none 0 0,.string ⟨#[]⟩,.int .i64 ((0:Nat):Int),.int .i64 ((0:Nat):Int),.string ⟨#[]⟩,.slice none 0 0,.slice none 0 0])) F
 refine Qq (fun a J=>?_) (o:=by exact fun J O=>Ok.cast (yC runUnderlying103 runUnderlying9 zeroValue68 J O rfl rfl i0) (show zK true (.agg #[.string ⟨#[]⟩,.slice none 0 0,.string ⟨#[]⟩,.int .i64 ((0:Nat):Int),.int .i64 ((0:Nat):Int),.string ⟨#[]⟩,.slice none 0 0,.slice none 0 0]) (yV (S0) A)=.tuple #[.agg #[.string ⟨#[]⟩,.slice none 0 0,.string ⟨#[]⟩,.int .i64 ((0:Nat):Int),.int .i64 ((0:Nat):Int),.string ⟨#[]⟩,.slice none 0 0,.slice none 0 0],.bool false] from H))
 refine Alc fun Y2 w N a J=>?_
 refine Sto 0 fun w N a J=>?_
 refine jO ?_
 replace N:=N.dl [3,2,1,0]
 have hr_:jA c=false:=by
  have z1:=MapRel.none j0 F
  have m:nF (zN c) [] c.outputs=false:=by rw [B,zA T];simp [nF, *] <;> (intro Y;simp_all)
  simp [jA,m]
 rotate_left
 obtain ⟨n,h1,a2,rfl,g1⟩:=j0.get F
 obtain ⟨M3,Z2,rfl,A1,B1⟩:=id g1
 obtain ⟨P1,w1,rfl,x2,F2⟩:=A1.fm
 obtain ⟨Q1,x1,R1,y1,rfl,k2,h3,i3,y2,G2,z2,H2⟩:=REx.fm B1
 have H:=congrArg (zK true (.agg #[.string ⟨#[]⟩,.slice none 0 0,.string ⟨#[]⟩,.int .i64 ((0:Nat):Int),.int .i64 ((0:Nat):Int),.string ⟨#[]⟩,.slice none 0 0,.slice none 0 0])) F
 refine Qq (fun a J=>?_) (o:=by exact fun J O=>Ok.cast (yC runUnderlying103 runUnderlying9 zeroValue68 J O rfl rfl i0) (show zK true (.agg #[.string ⟨#[]⟩,.slice none 0 0,.string ⟨#[]⟩,.int .i64 ((0:Nat):Int),.int .i64 ((0:Nat):Int),.string ⟨#[]⟩,.slice none 0 0,.slice none 0 0]) (yV (S0) A)=.tuple #[.agg #[.string n.name,.slice P1 n.params.length w1,.string n.result,.int .i64 (n.body.kind),.int .i64 (n.body.num),.string n.body.name,.slice Q1 n.body.args.length x1,.slice R1 n.body.arms.length y1],.bool true] from H))
 refine Alc fun a3 w N a J=>?_
 refine Sto 0 fun w N a J=>?_
 by_cases j3:0 < n.params.length
 refine jO ?_
 replace N:=N.dl [3,2,1,0]
 have hr_:jA c=false:=by
  have m:nF (zN c) [] c.outputs=false:=by rw [B,zA T];simp [nF, *] <;> (intro Y;simp_all)
  simp [jA,m]
 rotate_left
 refine go fun a J=>?_
 rcases I:yV ((jG ds)) A with _ | Q2
 have L:=congrArg (zK false (.bool false)) I
 refine Qq (fun a J=>?_) (o:=by exact fun J O=>Ok.cast (qG 1 runUnderlying121 runUnderlying9 zeroValue4 J O rfl rfl rfl) (show zK false (.bool false) (yV ((jG ds)) A)=.bool false from L))
 refine z5h 1 runUnderlying121 runUnderlying9 fun w N a J=>?_
 rw [<- uU] at N
 refine go fun a J=>?_
 replace N:=N.dl [0]
 refine Z0 _ _ _ (by subst P;omega) ⟨(i+1),(ds++[A]),rfl,⟨J.pk,N⟩,?_⟩
 have I2:=z6v I
 have M2:n.params=[]:=List.eq_nil_of_length_eq_zero (by omega)
 rw [B,zA T];simp [nF,h1,M2,I2]
 obtain ⟨rfl,K2⟩:=z6w I
 have L:=congrArg (zK false (.bool false)) I
 refine Qq (fun a J=>?_) (o:=by exact fun J O=>Ok.cast (qG 1 runUnderlying121 runUnderlying9 zeroValue4 J O rfl rfl rfl) (show zK false (.bool false) (yV ((jG ds)) A)=.bool true from L))
 refine jO ?_
 replace N:=N.dl [3,2,1,0]
 have hr_:jA c=false:=by
  have m:nF (zN c) [] c.outputs=false:=by rw [B,zA T];simp [nF, *] <;> (intro Y;simp_all)
  simp [jA,m]
 rotate_left
 refine jO ?_
 replace N:=N.dl [2,1,0]
 have hr_:jA c=true:=by
  have m:nF (zN c) [] c.outputs=true:=by rw [B,zE G0];rfl
  simp [jA,H0,c2,b2,F1,x0,m]
 rotate_left
 refine jO ?_
 replace N:=N.dl [1,0]
 have hr_:jA c=false:=by
  have Y:pA c=false:=by simpa using I0
  simp [jA,Y]
 rotate_left
 all_goals (rw [hr_];exact ⟨(j,_),rfl,⟨d,h⟩,f _ _ (N.le (Fz.Le.refl _))⟩)
theorem q8e {V:Fz} {R K:List Res} {w:World} {d0:List Value} {c:Core} {v:Value} (l:RCoreX V d0 c v) (B:Thaw R V v c.outputs) (G:Glob V) (N:Mem V (R++K) w) :
  Calls prog 43 #[.agg d0.toArray] w (fun ee w'=>∃y:Fz×Addr,ee=.returned (.tuple #[(if qL c=0 then .pointer (some y.2) else .pointer none),.int .i64 (qL c)])/\(V.Le y.1/\(qL c=0->RTableX y.1 y.2 (zN c) v/\kO c=false))/\Mem y.1 (R++K) w'):=by
 obtain ⟨s1,s2,s3,S,s,rfl,rfl,T,U,D⟩:=id l
 obtain ⟨P,o,rfl,E,I⟩:=T.fm
 obtain ⟨u,q,rfl,F,L⟩:=U.fm
 obtain ⟨z,r,rfl,H,M⟩:=D.fm
 refine zI func43 ntmps43 fun Q hQ a J=>?_
 refine Bx fun m w N a J=>?_
 refine zX call96 (fun g w N a J=>?_) (fun g w N a J=>?_) (c:=q6a (V:=V) (K:=.blk m (ob [.slice P c.datas.length o,.slice u c.inputs.length q,.slice z c.funs.length r,.slice S c.outputs.length s] 27)::(R++K)) (p:=fun f=>xN 250 f.body) (fs:=[]) (cs:=[]) D call97 (fun x c w Y W N=>x5r W N) N)
 refine jO ?_
 replace N:=N.dl [0]
 have hr_:qL c=6:=by
  simp [qL,g]
 rotate_left
 have d:=g
 refine zX call98 (fun h w N a J=>?_) (fun h w N a J=>?_) (c:=x5q l N)
 refine jO ?_
 replace N:=N.dl [0]
 have hr_:qL c=2:=by
  simp [qL, *]
 rotate_left
 have b:=h
 refine zV call99 (fun C w t N a J=>?_) (c:=x1i (K:=.blk m (ob [.slice P c.datas.length o,.slice u c.inputs.length q,.slice z c.funs.length r,.slice S c.outputs.length s] 27)::K) l B h G (N.perm List.perm_middle.symm))
 obtain ⟨k,X⟩:=C
 obtain ⟨e,i⟩:=t
 simp only at e i N J
 replace N:=N.perm List.perm_middle
 replace G:=G.mono e
 replace N:=N.nf
 refine go fun a J=>?_
 generalize j:(!(jA c))=n at J
 cases n
 refine jO ?_
 replace N:=N.dl [0]
 have hr_:qL c=0:=by
  have A:jA c=true:=by simpa using j
  simp [qL,d,b,A]
 rw [hr_]
 exact ⟨(k,_),rfl,⟨e,fun _=>⟨i,b⟩⟩,N⟩
 refine jO ?_
 replace N:=N.dl [0]
 have hr_:qL c=80:=by
  have A:jA c=false:=by simpa using j
  simp [qL,d,b,A]
 rw [hr_]
 exact ⟨(k,⟨0,0,none⟩),rfl,⟨e,fun h_=>(by cases h_)⟩,N⟩
 all_goals (rw [hr_];exact ⟨(V,⟨0,0,none⟩),rfl,⟨Fz.Le.refl _,fun h_=>(by cases h_)⟩,N⟩)
theorem q4m {V:Fz} {K:List Res} {w:World} {d0:List Value} {c:Core} (a:RCore V d0 c) (G:Glob V) (N:Mem V K w) :
  Calls prog 43 #[.agg d0.toArray] w (fun ee w'=>∃y:Fz×Addr,ee=.returned (.tuple #[(if qL c=0 then .pointer (some y.2) else .pointer none),.int .i64 (qL c)])/\(V.Le y.1/\(qL c=0->RTable y.1 y.2 (zN c)/\kO c=false))/\Mem y.1 K w'):=by
 obtain ⟨v,g,e⟩:=a.x
 refine (q8e g (Thaw.none e) G N).mono fun ee w' h=>?_
 obtain ⟨y,h1,⟨h2,d⟩,f⟩:=h
 exact ⟨y,h1,⟨h2,fun b=>⟨(d b).1.full (show SliceOf RStr y.1 1 v c.outputs from e.mono RStr.mono h2),(d b).2⟩⟩,f⟩
theorem q6o {V:Fz} {K:List Res} {w:World} {d0:List Value} {c:Core} (e:RCore V d0 c) (G:Glob V) (N:Mem V K w) :
  Calls prog 36 #[.agg d0.toArray] w (fun ee w'=>ee=.returned (.int .i64 (qL c))/\Mem V K w'):=by
 obtain ⟨E,c4,F,s,A,t,B,c22,rfl,h2,D,u,v,y,z,k,n,l,o,m,p⟩:=RCore.fm e
 refine zI func36 ntmps36 fun Q hQ a J=>?_
 refine Bx fun r w N a J=>?_
 refine zV call43 (fun i w g N a J=>?_) (c:=q4m e G N)
 obtain ⟨q,C⟩:=i
 obtain ⟨d,f⟩:=g
 simp only at d f N J
 replace e:=e.up d
 replace G:=G.mono d
 replace N:=N.nf
 by_cases b:qL c=0
 obtain ⟨j,h⟩:=f b
 rw [if_pos b,b] at J
 refine zF ?_
 replace N:=N.le (d)
 replace N:=N.dl [0]
 exact pF N (by exact b.symm)
 rw [if_neg b] at J
 refine zF ?_
 replace N:=N.le (d)
 replace N:=N.dl [0]
 exact pF N (by rfl)
end Go.Sw
