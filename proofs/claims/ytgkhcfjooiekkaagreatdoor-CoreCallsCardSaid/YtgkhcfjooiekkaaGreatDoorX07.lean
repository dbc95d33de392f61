import Derived.Test.YtgkhcfjooiekkaaGreatDoorX06
set_option linter.unusedVariables false
set_option linter.unusedSimpArgs false
namespace Go.Sw
open Go.Proofs Go.Proofs.Tryz
set_option maxRecDepth 20000
set_option maxHeartbeats 4000000
theorem x9h {V:Fz} {K:List Res} {w:World} {p0:Addr} {T:Table} {d1:List Value} {e:Ex} {b:Nat} {s:Scope} (r0:RTable V p0 T) (B1:REx V d1 e) (ih:∀x:Ex,x.sz < e.sz->∀{V:Fz} {K:List Res} {w:World} {p:Addr} {d:List Value} {b:Nat} {s:Scope},RTable V p T->REx V d x->Mem V (.mp b (xN s)::K) w->Calls prog 86 #[.pointer (some p),.agg d.toArray,.map (some b)] w (fun ee w'=>ee=.returned (.string (zG T x s).1)/\Mem V (.mp b (xN (zG T x s).2)::K) w')) (N:Mem V (.mp b (xN s)::K) w) :
  Calls prog 145 #[.pointer (some p0),.agg d1.toArray,.map (some b)] w (fun ee w'=>ee=.returned (.string ((xH T e s).1))/\Mem V (.mp b (xN (xH T e s).2)::K) w'):=by
 obtain ⟨W2,m1,m2,m3,m4,d5,d6,d7,d8,U1,V1,m0,s0,g0,N3,Q3,O3,R3,P3,S3⟩:=r0.ex
 obtain ⟨H4,c24,I4,v4,J4,w4,K4,c42,rfl,B4,C4,D4,E4,y3,H3,z3,I3,A3,J3,B3,K3⟩:=RCore.fm m0
 obtain ⟨L4,x4,M4,y4,rfl,u3,J1,v1,C3,y1,D3,C0⟩:=REx.fm B1
 refine zK func145 ntmps145 fun Q hQ a J=>?_
 refine Bx fun t4 w N a J=>?_
 refine zZ call186 (fun B0 w N a J=>?_) (fun B0 w N a J=>?_) (c:=sX B1 N)
 refine go fun a J=>?_
 refine yE [1,1,1,2,1,1,2,1,2,1,0,2,1,1,1,0,0,1] (.q 0 (.q 1 (.q 2 (.q 3 (.q 4 (.q 5 (.q 6 (.q 7 (.q 8 (.q 9 (.e2 10 15 (.q 11 (.q 12 (.q 13 (.q 14 (.e 15 (.e 16 (.q 17 (.done)))))))) (.e 10 (.q 11 (.q 12 (.q 13 (.q 14 (.e 16 (.q 17 (.done))))))))))))))))))) [0] J N fun w N=>?_
 have x3:=vC (n:=1) B0
 refine go fun a J=>?_
 have x1:0 < e.args.length:=by omega
 obtain ⟨P4,rfl,E,h,X2,w3,t3,q0⟩:=J1.el y1 x1
 obtain ⟨N4,c75,O4,z4,rfl,v3,F4,G4,E3,L3,F3,M3⟩:=REx.fm q0
 refine go fun a J=>?_
 refine wN ?_ ?_
 replace N:=N.pl 1
 refine zO call86 (fun w N a J=>?_) (c:=ih _ (by first | exact Ex.lt_args (mgQ h) | exact Ex.lt_arms (mgQ h)) r0 q0 N)
 rcases f0:yY (d5) ((zG T E s).1) with _ | s4
 have e0:=congrArg (zN true (.agg #[.string ⟨#[]⟩,.slice none 0 0])) f0
 refine Qq (fun a J=>?_) (o:=by exact fun J O=>Ok.cast (yB runUnderlying101 runUnderlying9 zeroValue133 J O rfl rfl s0) (show zN true (.agg #[.string ⟨#[]⟩,.slice none 0 0]) (yY (d5) ((zG T E s).1))=.tuple #[.agg #[.string ⟨#[]⟩,.slice none 0 0],.bool false] from e0))
 refine Alc fun u4 w N a J=>?_
 refine Sto 0 fun w N a J=>?_
 refine zF ?_
 replace N:=N.dl [2,0]
 have hr_:xH T e s=((⟨#[]⟩:Bs),(zG T E s).2):=by
  have e_:=MapRel.none g0 f0
  simp [xH,jG h,sNo, *]
 show _/\_;rw [hr_];exact ⟨rfl,N⟩
 obtain ⟨I,d0,Y2,rfl,z1⟩:=g0.get f0
 obtain ⟨Q4,rfl,w1⟩:=id z1
 obtain ⟨y2,D1,rfl,G3,X0⟩:=w1.fm
 have e0:=congrArg (zN true (.agg #[.string ⟨#[]⟩,.slice none 0 0])) f0
 refine Qq (fun a J=>?_) (o:=by exact fun J O=>Ok.cast (yB runUnderlying101 runUnderlying9 zeroValue133 J O rfl rfl s0) (show zN true (.agg #[.string ⟨#[]⟩,.slice none 0 0]) (yY (d5) ((zG T E s).1))=.tuple #[.agg #[.string I.name,.slice y2 I.cons.length D1],.bool true] from e0))
 refine Alc fun G2 w N a J=>?_
 refine Sto 0 fun w N a J=>?_
 by_cases Z2:I.cons.length=e.arms.length
 refine go fun a J=>?_
 refine zU (J.ks [0,2,4,48,49]) N (fun R mm a w=>∃(i:Nat) (q:Scope) (out:Bs),mm=I.cons.length - i/\R V [(9,.string out),(50,.int .i64 ((i:Nat):Int))] [(1,.mp b (xN q))] a w/\(splitP T e.arms I.cons true sNo ((zG T E s).2)=splitP T (e.arms.drop i) (I.cons.drop i) (decide (i=0)) out q)) (I.cons.length - 0) ⟨0,(zG T E s).2,sNo,rfl,⟨J.pk,N⟩,rfl⟩ ?_
 clear N J
 rintro mm a w ⟨i,q,out,F,⟨J,N⟩,B⟩ A2 k0
 replace N:=N.nf
 by_cases t0:i < I.cons.length
 refine go fun a J=>?_
 obtain ⟨c4,rfl,m,G,E1,Y1,K1,b1⟩:=w1.el X0 t0
 obtain ⟨n4,rfl,u0⟩:=id b1
 obtain ⟨U3,O2,rfl,j2,Y0⟩:=u0.fm
 refine Alc fun H2 w N a J=>?_
 refine Sto 0 fun w N a J=>?_
 refine go fun a J=>?_
 have T0:i < e.arms.length:=by omega
 obtain ⟨d4,rfl,f,y,F1,Z1,L1,c1⟩:=v1.el C0 T0
 obtain ⟨o4,I2,rfl,i0,w0⟩:=RArm.iff.1 c1
 obtain ⟨V3,P2,rfl,k2,n0⟩:=i0.fm
 obtain ⟨W3,Q2,X3,R2,rfl,W1,a3,b3,l2,u2,n2,v2⟩:=REx.fm w0
 refine Alc fun J2 w N a J=>?_
 refine Sto 0 fun w N a J=>?_
 by_cases d3:f.con=m.name
 by_cases e3:f.vars.length=m.fields.length
 refine go fun a J=>?_
 refine zU (J.ks [0,2,4,9,10,11,12,48,49,50,75,76]) N (fun R mm a w=>∃(k:Nat) (v:Scope),mm=f.vars.length - k/\R V [(77,.int .i64 ((k:Nat):Int))] [(3,.mp b (xN v))] a w/\(putAll q f.vars m.fields=putAll v (f.vars.drop k) (m.fields.drop k))) (f.vars.length - 0) ⟨0,q,rfl,⟨J.pk,N⟩,rfl⟩ ?_
 clear N J
 rintro mm a w ⟨k,v,F,⟨J,N⟩,M⟩ B2 P0
 replace N:=N.nf
 refine go fun a J=>?_
 by_cases Z:k < f.vars.length
 refine go fun a J=>?_
 obtain ⟨e4,rfl,D0,o1,J0,a2,M1,e1⟩:=i0.el n0 Z
 obtain rfl:J0=[.string D0]:=e1
 refine go fun a J=>?_
 have U0:k < m.fields.length:=by omega
 obtain ⟨f4,rfl,E0,p1,K0,b2,N1,f1⟩:=u0.el Y0 U0
 obtain rfl:K0=[.string E0]:=f1
 refine z5z 3 runUnderlying157 runUnderlying9 fun w N a J=>?_
 rw [z3b] at N
 refine go fun a J=>?_
 refine P0 _ _ _ (by subst F;omega) ⟨(k+1),((pD v D0 E0)),rfl,⟨J.pk,N⟩,?_⟩
 rw [M,zA o1,zA p1];rfl
 replace N:=N.pl 3
 refine zO call86 (fun w N a J=>?_) (c:=ih _ (by first | exact Ex.lt_args (mgQ y) | exact Ex.lt_arms (mgQ y)) r0 w0 N)
 refine go fun a J=>?_
 refine zU (J.ks [0,2,4,9,10,15,48,49,50,96,97]) N (fun R mm a w=>∃(k3:Nat) (L:Scope),mm=f.vars.length - k3/\R V [(98,.int .i64 ((k3:Nat):Int))] [(0,.mp b (xN L))] a w/\(sE ((zG T f.body v).2) f.vars=sE L (f.vars.drop k3))) (f.vars.length - 0) ⟨0,(zG T f.body v).2,rfl,⟨J.pk,N⟩,rfl⟩ ?_
 clear N J
 rintro mm a w ⟨k3,L,F,⟨J,N⟩,P⟩ C2 Q0
 replace N:=N.nf
 by_cases a0:k3 < f.vars.length
 refine go fun a J=>?_
 obtain ⟨g4,rfl,F0,q1,L0,c2,O1,g1⟩:=i0.el n0 a0
 obtain rfl:L0=[.string F0]:=g1
 refine go fun a J=>?_
 refine st0 J rfl rfl (y3u 0 runUnderlying157 runUnderlying9 J N rfl rfl rfl fun w N a J=>?_)
 rw [z7q] at N
 refine go fun a J=>?_
 refine Q0 _ _ _ (by subst F;omega) ⟨(k3+1),((y2d L F0)),rfl,⟨J.pk,N⟩,?_⟩
 rw [P,zA q1];rfl
 by_cases f3:(zG T f.body v).1=(⟨#[]⟩:Bs)
 refine zF ?_
 replace N:=N.dl [4,3,2,1]
 have hr_:xH T e s=((⟨#[]⟩:Bs),L):=by
  have D:nU T f m q=((zG T f.body v).1,L):=by
   have A:putAll q f.vars m.fields=v:=by rw [M,zB Z,xU]
   have j:=P
   rw [zB a0] at j
   rw [nU,A,j];rfl
  have u:I.cons.length=e.arms.length:=by assumption
  rw [xH,if_pos (by assumption),jG h,d0]
  simp only
  rw [if_pos u,B,zA y,zA G,jE,if_neg (by simp [*]),D,if_pos (by simp_all [sNo] <;> omega)];rfl
 show _/\_;rw [hr_];exact ⟨rfl,N⟩
 by_cases g3:0 < i
 refine go fun a J=>?_
 by_cases h3:(zG T f.body v).1=out
 refine go fun a J=>?_
 replace N:=N.ar [2,1] [2,1,2]
 refine k0 _ _ _ (by subst F;omega) ⟨(i+1),(L),((zG T f.body v).1),rfl,⟨J.pk,N⟩,?_⟩
 have D:nU T f m q=((zG T f.body v).1,L):=by
  have A:putAll q f.vars m.fields=v:=by rw [M,zB Z,xU]
  have j:=P
  rw [zB a0] at j
  rw [nU,A,j];rfl
 rw [B,zA y,zA G,jE,if_neg (by simp [*]),D,if_neg (by simp_all [sNo] <;> omega)];simp
 refine zF ?_
 replace N:=N.dl [4,3,2,1]
 have hr_:xH T e s=((⟨#[]⟩:Bs),L):=by
  have D:nU T f m q=((zG T f.body v).1,L):=by
   have A:putAll q f.vars m.fields=v:=by rw [M,zB Z,xU]
   have j:=P
   rw [zB a0] at j
   rw [nU,A,j];rfl
  have u:I.cons.length=e.arms.length:=by assumption
  rw [xH,if_pos (by assumption),jG h,d0]
  simp only
  rw [if_pos u,B,zA y,zA G,jE,if_neg (by simp [*]),D,if_pos (by simp_all [sNo] <;> omega)];rfl
 show _/\_;rw [hr_];exact ⟨rfl,N⟩
 refine go fun a J=>?_
 replace N:=N.ar [2,1] [2,1,2]
 refine k0 _ _ _ (by subst F;omega) ⟨(i+1),(L),((zG T f.body v).1),rfl,⟨J.pk,N⟩,?_⟩
 have D:nU T f m q=((zG T f.body v).1,L):=by
  have A:putAll q f.vars m.fields=v:=by rw [M,zB Z,xU]
  have j:=P
  rw [zB a0] at j
  rw [nU,A,j];rfl
 rw [B,zA y,zA G,jE,if_neg (by simp [*]),D,if_neg (by simp_all [sNo] <;> omega)];simp
 refine zF ?_
 replace N:=N.dl [4,2,1,0]
 have hr_:xH T e s=((⟨#[]⟩:Bs),q):=by
  have u:I.cons.length=e.arms.length:=by assumption
  rw [xH,if_pos (by assumption),jG h,d0]
  simp only
  rw [if_pos u,B,zA y,zA G,jE,if_pos (by simp [*])]
  all_goals rfl
 show _/\_;rw [hr_];exact ⟨rfl,N⟩
 refine zF ?_
 replace N:=N.dl [4,2,1,0]
 have hr_:xH T e s=((⟨#[]⟩:Bs),q):=by
  have u:I.cons.length=e.arms.length:=by assumption
  rw [xH,if_pos (by assumption),jG h,d0]
  simp only
  rw [if_pos u,B,zA y,zA G,jE,if_pos (by simp [*])]
  all_goals rfl
 show _/\_;rw [hr_];exact ⟨rfl,N⟩
 refine zF ?_
 replace N:=N.dl [2,0]
 have hr_:xH T e s=(out,q):=by
  have u:I.cons.length=e.arms.length:=by assumption
  rw [xH,if_pos (by assumption),jG h,d0]
  simp only
  rw [if_pos u,B,zB t0,zB (l:=e.arms) (by omega)];rfl
 show _/\_;rw [hr_];exact ⟨rfl,N⟩
 refine zF ?_
 replace N:=N.dl [2,0]
 have hr_:xH T e s=((⟨#[]⟩:Bs),(zG T E s).2):=by
  simp [xH,jG h,sNo, *]
 show _/\_;rw [hr_];exact ⟨rfl,N⟩
 refine Alc fun K2 w N a J=>?_
 replace N:=N.pl 2
 refine zO call86 (fun w N a J=>?_) (c:=ih _ (by first | exact Ex.lt_args (mgQ h) | exact Ex.lt_arms (mgQ h)) r0 q0 N)
 rcases X:yY (d5) ((zG T E s).1) with _ | z2
 have Y:=congrArg (zN true (.agg #[.string ⟨#[]⟩,.slice none 0 0])) X
 refine Qq (fun a J=>?_) (o:=by exact fun J O=>Ok.cast (yB runUnderlying101 runUnderlying9 zeroValue133 J O rfl rfl s0) (show zN true (.agg #[.string ⟨#[]⟩,.slice none 0 0]) (yY (d5) ((zG T E s).1))=.tuple #[.agg #[.string ⟨#[]⟩,.slice none 0 0],.bool false] from Y))
 refine Sto 1 fun w N a J=>?_
 refine zF ?_
 replace N:=N.dl [2,1]
 have hr_:xH T e s=((⟨#[]⟩:Bs),(zG T E s).2):=by
  have e_:=MapRel.none g0 X
  simp [xH,jG h,sNo, *]
 show _/\_;rw [hr_];exact ⟨rfl,N⟩
 obtain ⟨t,W,G1,rfl,h1⟩:=g0.get X
 obtain ⟨p4,rfl,x0⟩:=id h1
 obtain ⟨A1,c232,rfl,o2,Z0⟩:=x0.fm
 have Y:=congrArg (zN true (.agg #[.string ⟨#[]⟩,.slice none 0 0])) X
 refine Qq (fun a J=>?_) (o:=by exact fun J O=>Ok.cast (yB runUnderlying101 runUnderlying9 zeroValue133 J O rfl rfl s0) (show zN true (.agg #[.string ⟨#[]⟩,.slice none 0 0]) (yY (d5) ((zG T E s).1))=.tuple #[.agg #[.string t.name,.slice A1 t.cons.length c232],.bool true] from Y))
 refine Sto 1 fun w N a J=>?_
 by_cases i3:t.cons.length=e.arms.length
 refine go fun a J=>?_
 refine zU (J.ks [0,2,4,48,49]) N (fun R mm a w=>∃(i:Nat) (q:Scope) (out:Bs),mm=t.cons.length - i/\R V [(9,.string out),(50,.int .i64 ((i:Nat):Int))] [(0,.mp b (xN q))] a w/\(splitP T e.arms t.cons true sNo ((zG T E s).2)=splitP T (e.arms.drop i) (t.cons.drop i) (decide (i=0)) out q)) (t.cons.length - 0) ⟨0,(zG T E s).2,sNo,rfl,⟨J.pk,N⟩,rfl⟩ ?_
 clear N J
 rintro mm a w ⟨i,q,out,F,⟨J,N⟩,C⟩ D2 l0
 replace N:=N.nf
 by_cases y0:i < t.cons.length
 refine go fun a J=>?_
 obtain ⟨h4,rfl,r,H,H1,d2,P1,i1⟩:=x0.el Z0 y0
 obtain ⟨q4,rfl,z0⟩:=id i1
 obtain ⟨Y3,S2,rfl,p2,a1⟩:=z0.fm
 refine Alc fun L2 w N a J=>?_
 refine Sto 0 fun w N a J=>?_
 refine go fun a J=>?_
 have V0:i < e.arms.length:=by omega
 obtain ⟨i4,rfl,g,z,I1,f2,Q1,j1⟩:=v1.el C0 V0
 obtain ⟨r4,M2,rfl,j0,A0⟩:=RArm.iff.1 j1
 obtain ⟨Z3,T2,rfl,r2,o0⟩:=j0.fm
 obtain ⟨a4,U2,b4,V2,rfl,X1,j3,l3,s2,w2,t2,x2⟩:=REx.fm A0
 refine Alc fun N2 w N a J=>?_
 refine Sto 0 fun w N a J=>?_
 by_cases n3:g.con=r.name
 by_cases o3:g.vars.length=r.fields.length
 refine go fun a J=>?_
 refine zU (J.ks [0,2,4,9,10,11,12,48,49,50,75,76]) N (fun R mm a w=>∃(k:Nat) (v:Scope),mm=g.vars.length - k/\R V [(77,.int .i64 ((k:Nat):Int))] [(2,.mp b (xN v))] a w/\(putAll q g.vars r.fields=putAll v (g.vars.drop k) (r.fields.drop k))) (g.vars.length - 0) ⟨0,q,rfl,⟨J.pk,N⟩,rfl⟩ ?_
 clear N J
 rintro mm a w ⟨k,v,F,⟨J,N⟩,S⟩ E2 R0
 replace N:=N.nf
 refine go fun a J=>?_
 by_cases b0:k < g.vars.length
 refine go fun a J=>?_
 obtain ⟨j4,rfl,G0,r1,M0,g2,R1,k1⟩:=j0.el o0 b0
 obtain rfl:M0=[.string G0]:=k1
 refine go fun a J=>?_
 have W0:k < r.fields.length:=by omega
 obtain ⟨k4,rfl,H0,s1,N0,h2,S1,l1⟩:=z0.el a1 W0
 obtain rfl:N0=[.string H0]:=l1
 refine z5z 2 runUnderlying157 runUnderlying9 fun w N a J=>?_
 rw [z3b] at N
 refine go fun a J=>?_
 refine R0 _ _ _ (by subst F;omega) ⟨(k+1),((pD v G0 H0)),rfl,⟨J.pk,N⟩,?_⟩
 rw [S,zA r1,zA s1];rfl
 replace N:=N.pl 2
 refine zO call86 (fun w N a J=>?_) (c:=ih _ (by first | exact Ex.lt_args (mgQ z) | exact Ex.lt_arms (mgQ z)) r0 A0 N)
 refine go fun a J=>?_
 refine zU (J.ks [0,2,4,9,10,15,48,49,50,96,97]) N (fun R mm a w=>∃(k3:Nat) (L:Scope),mm=g.vars.length - k3/\R V [(98,.int .i64 ((k3:Nat):Int))] [(0,.mp b (xN L))] a w/\(sE ((zG T g.body v).2) g.vars=sE L (g.vars.drop k3))) (g.vars.length - 0) ⟨0,(zG T g.body v).2,rfl,⟨J.pk,N⟩,rfl⟩ ?_
 clear N J
 rintro mm a w ⟨k3,L,F,⟨J,N⟩,U⟩ F2 S0
 replace N:=N.nf
 by_cases c0:k3 < g.vars.length
 refine go fun a J=>?_
 obtain ⟨l4,rfl,I0,t1,O0,i2,T1,n1⟩:=j0.el o0 c0
 obtain rfl:O0=[.string I0]:=n1
 refine go fun a J=>?_
 refine st0 J rfl rfl (y3u 0 runUnderlying157 runUnderlying9 J N rfl rfl rfl fun w N a J=>?_)
 rw [z7q] at N
 refine go fun a J=>?_
 refine S0 _ _ _ (by subst F;omega) ⟨(k3+1),((y2d L I0)),rfl,⟨J.pk,N⟩,?_⟩
 rw [U,zA t1];rfl
 by_cases p3:(zG T g.body v).1=(⟨#[]⟩:Bs)
 refine zF ?_
 replace N:=N.dl [4,3,2,1]
 have hr_:xH T e s=((⟨#[]⟩:Bs),L):=by
  have D:nU T g r q=((zG T g.body v).1,L):=by
   have A:putAll q g.vars r.fields=v:=by rw [S,zB b0,xU]
   have j:=U
   rw [zB c0] at j
   rw [nU,A,j];rfl
  have u:t.cons.length=e.arms.length:=by assumption
  rw [xH,if_pos (by assumption),jG h,W]
  simp only
  rw [if_pos u,C,zA z,zA H,jE,if_neg (by simp [*]),D,if_pos (by simp_all [sNo] <;> omega)];rfl
 show _/\_;rw [hr_];exact ⟨rfl,N⟩
 by_cases r3:0 < i
 refine go fun a J=>?_
 by_cases s3:(zG T g.body v).1=out
 refine go fun a J=>?_
 replace N:=N.dl [2,1]
 refine l0 _ _ _ (by subst F;omega) ⟨(i+1),(L),((zG T g.body v).1),rfl,⟨J.pk,N⟩,?_⟩
 have D:nU T g r q=((zG T g.body v).1,L):=by
  have A:putAll q g.vars r.fields=v:=by rw [S,zB b0,xU]
  have j:=U
  rw [zB c0] at j
  rw [nU,A,j];rfl
 rw [C,zA z,zA H,jE,if_neg (by simp [*]),D,if_neg (by simp_all [sNo] <;> omega)];simp
 refine zF ?_
 replace N:=N.dl [4,3,2,1]
 have hr_:xH T e s=((⟨#[]⟩:Bs),L):=by
  have D:nU T g r q=((zG T g.body v).1,L):=by
   have A:putAll q g.vars r.fields=v:=by rw [S,zB b0,xU]
   have j:=U
   rw [zB c0] at j
   rw [nU,A,j];rfl
  have u:t.cons.length=e.arms.length:=by assumption
  rw [xH,if_pos (by assumption),jG h,W]
  simp only
  rw [if_pos u,C,zA z,zA H,jE,if_neg (by simp [*]),D,if_pos (by simp_all [sNo] <;> omega)];rfl
 show _/\_;rw [hr_];exact ⟨rfl,N⟩
 refine go fun a J=>?_
 replace N:=N.dl [2,1]
 refine l0 _ _ _ (by subst F;omega) ⟨(i+1),(L),((zG T g.body v).1),rfl,⟨J.pk,N⟩,?_⟩
 have D:nU T g r q=((zG T g.body v).1,L):=by
  have A:putAll q g.vars r.fields=v:=by rw [S,zB b0,xU]
  have j:=U
  rw [zB c0] at j
  rw [nU,A,j];rfl
 rw [C,zA z,zA H,jE,if_neg (by simp [*]),D,if_neg (by simp_all [sNo] <;> omega)];simp
 refine zF ?_
 replace N:=N.dl [4,3,1,0]
 have hr_:xH T e s=((⟨#[]⟩:Bs),q):=by
  have u:t.cons.length=e.arms.length:=by assumption
  rw [xH,if_pos (by assumption),jG h,W]
  simp only
  rw [if_pos u,C,zA z,zA H,jE,if_pos (by simp [*])]
  all_goals rfl
 show _/\_;rw [hr_];exact ⟨rfl,N⟩
 refine zF ?_
 replace N:=N.dl [4,3,1,0]
 have hr_:xH T e s=((⟨#[]⟩:Bs),q):=by
  have u:t.cons.length=e.arms.length:=by assumption
  rw [xH,if_pos (by assumption),jG h,W]
  simp only
  rw [if_pos u,C,zA z,zA H,jE,if_pos (by simp [*])]
  all_goals rfl
 show _/\_;rw [hr_];exact ⟨rfl,N⟩
 refine zF ?_
 replace N:=N.dl [2,1]
 have hr_:xH T e s=(out,q):=by
  have u:t.cons.length=e.arms.length:=by assumption
  rw [xH,if_pos (by assumption),jG h,W]
  simp only
  rw [if_pos u,C,zB y0,zB (l:=e.arms) (by omega)];rfl
 show _/\_;rw [hr_];exact ⟨rfl,N⟩
 refine zF ?_
 replace N:=N.dl [2,1]
 have hr_:xH T e s=((⟨#[]⟩:Bs),(zG T E s).2):=by
  simp [xH,jG h,sNo, *]
 show _/\_;rw [hr_];exact ⟨rfl,N⟩
 refine zF ?_
 replace N:=N.dl [0]
 have hr_:xH T e s=((⟨#[]⟩:Bs),s):=by
  simp [xH,sNo, *]
 show _/\_;rw [hr_];exact ⟨rfl,N⟩
theorem let_ok {V:Fz} {K:List Res} {w:World} {p0:Addr} {T:Table} {d1:List Value} {e:Ex} {b:Nat} {s:Scope} (m:RTable V p0 T) (v:REx V d1 e) (ih:∀x:Ex,x.sz < e.sz->∀{V:Fz} {K:List Res} {w:World} {p:Addr} {d:List Value} {b:Nat} {s:Scope},RTable V p T->REx V d x->Mem V (.mp b (xN s)::K) w->Calls prog 86 #[.pointer (some p),.agg d.toArray,.map (some b)] w (fun ee w'=>ee=.returned (.string (zG T x s).1)/\Mem V (.mp b (xN (zG T x s).2)::K) w')) (N:Mem V (.mp b (xN s)::K) w) :
  Calls prog 144 #[.pointer (some p0),.agg d1.toArray,.map (some b)] w (fun ee w'=>ee=.returned (.string ((z1p T e s).1))/\Mem V (.mp b (xN (z1p T e s).2)::K) w'):=by
 obtain ⟨I,m1,m2,m3,m4,d5,d6,d7,d8,z,A,h,R0,x0,t0,y0,u0,z0,w0,A0⟩:=m.ex
 obtain ⟨S0,c24,T0,F0,U0,G0,V0,c42,rfl,K0,L0,M0,N0,c0,k0,d0,l0,e0,m0,f0,n0⟩:=RCore.fm h
 obtain ⟨W0,H0,X0,I0,rfl,X,o,O0,g0,u,h0,o0⟩:=REx.fm v
 refine enterB func144 rfl ntmps144 rfl (fun Q hQ a J=>?_)
 refine Bx fun E0 w N a J=>?_
 refine zZ call186 (fun f w N a J=>?_) (fun f w N a J=>?_) (c:=sX v N)
 have b0:=vC (n:=2) f
 refine go fun a J=>?_
 have r:0 < e.args.length:=by omega
 obtain ⟨a1,rfl,g,i,L,Z,U,k⟩:=o.el u r
 obtain ⟨Y0,c75,Z0,J0,rfl,Y,P0,Q0,i0,q0,j0,r0⟩:=REx.fm k
 replace N:=N.pl 1
 refine zO call86 (fun w N a J=>?_) (c:=ih _ (by exact Ex.lt_args (mgQ i)) m k N)
 by_cases q:(zG T g s).1=(⟨#[]⟩:Bs)
 refine go fun a J=>?_
 replace N:=N.dl [1]
 refine hQ _ _ _ (ret1B J results144 rfl ?_)
 have hr_:z1p T e s=((⟨#[]⟩:Bs),(zG T g s).2):=by
  rw [z1p,if_pos f,z4a i q];rfl
 show _/\_;rw [hr_];exact ⟨rfl,N⟩
 refine z5z 0 runUnderlying157 runUnderlying9 fun w N a J=>?_
 rw [z3b] at N
 refine go fun a J=>?_
 refine z9p J rfl fun a P J=>?_
 refine go fun a J=>?_
 have t:1 < e.args.length:=by omega
 obtain ⟨y,j⟩:=qR t
 obtain ⟨M,a0,W,l⟩:=o.elem j
 obtain ⟨C0,G,D0,H,rfl,B,R,S,C,E,D,F⟩:=REx.fm l
 refine zO call86 (fun w N a J=>?_) (c:=ih _ (by exact Ex.lt_args (mgQ j)) m l N)
 refine go fun a J=>?_
 replace N:=N.dl [1]
 refine hQ _ _ _ (q6l 0 runUnderlying157 runUnderlying9 J results144 rfl N rfl fun w N=>?_)
 rw [z7q] at N
 have hr_:z1p T e s=((zG T y (pD ((zG T g s).2) e.name ((zG T g s).1))).1,(y2d ((zG T y (pD ((zG T g s).2) e.name ((zG T g s).1))).2) e.name)):=by
  rw [z1p,if_pos f,sM i j q]
 show _/\_;rw [hr_];exact ⟨rfl,N⟩
 refine go fun a J=>?_
 replace N:=N.dl [0]
 refine hQ _ _ _ (ret1B J results144 rfl ?_)
 have hr_:z1p T e s=((⟨#[]⟩:Bs),s):=by
  simp [z1p,sNo, *]
 show _/\_;rw [hr_];exact ⟨rfl,N⟩
theorem j6o {V:Fz} {K:List Res} {w:World} {g:Addr} {T:Table} {d1:List Value} {e:Ex} {b:Nat} {s:Scope} (h:RTable V g T) (i:REx V d1 e) (hT:∀n f,zJ T.funs n=some f->f.params.length<=1000) (X:∀x:Ex,x.sz < e.sz->∀{V:Fz} {K:List Res} {w:World} {p:Addr} {d:List Value} {b:Nat} {s:Scope},RTable V p T->REx V d x->Mem V (.mp b (xN s)::K) w->Calls prog 86 #[.pointer (some p),.agg d.toArray,.map (some b)] w (fun ee w'=>ee=.returned (.string (zG T x s).1)/\Mem V (.mp b (xN (zG T x s).2)::K) w')) (N:Mem V (.mp b (xN s)::K) w) :
  Calls prog 86 #[.pointer (some g),.agg d1.toArray,.map (some b)] w (fun ee w'=>ee=.returned (.string ((zG T e s).1))/\Mem V (.mp b (xN (zG T e s).2)::K) w'):=by
 obtain ⟨a0,m1,m2,m3,m4,d5,d6,d7,d8,Y,Z,j,K0,s0,o0,t0,q0,u0,r0,w0⟩:=h.ex
 obtain ⟨L0,c24,M0,z0,N0,A0,O0,c42,rfl,D0,E0,F0,G0,c0,i0,d0,j0,e0,k0,f0,l0⟩:=RCore.fm j
 obtain ⟨P0,B0,Q0,C0,rfl,b0,H0,I0,g0,m0,h0,n0⟩:=REx.fm i
 refine zK func86 ntmps86 fun Q hQ a J=>?_
 refine Bx fun x0 w N a J=>?_
 refine go fun a J=>?_
 refine st J rfl rfl rfl (q5e N fun y0 w N a J=>?_)
 refine go fun a J=>?_
 refine st0 J rfl rfl (pH 0 runUnderlying218 runUnderlying3 J N rfl rfl rfl rfl fun w N a J=>?_)
 replace N:=N.nf
 refine go fun a J=>?_
 refine st0 J rfl rfl (pH 0 runUnderlying218 runUnderlying3 J N rfl rfl rfl rfl fun w N a J=>?_)
 replace N:=N.nf
 refine go fun a J=>?_
 refine st0 J rfl rfl (pH 0 runUnderlying218 runUnderlying3 J N rfl rfl rfl rfl fun w N a J=>?_)
 replace N:=N.nf
 refine go fun a J=>?_
 refine st0 J rfl rfl (pH 0 runUnderlying218 runUnderlying3 J N rfl rfl rfl rfl fun w N a J=>?_)
 replace N:=N.nf
 refine go fun a J=>?_
 refine st0 J rfl rfl (pH 0 runUnderlying218 runUnderlying3 J N rfl rfl rfl rfl fun w N a J=>?_)
 replace N:=N.nf
 refine go fun a J=>?_
 refine st0 J rfl rfl (pH 0 runUnderlying218 runUnderlying3 J N rfl rfl rfl rfl fun w N a J=>?_)
 replace N:=N.nf
 refine go fun a J=>?_
 refine st0 J rfl rfl (pH 0 runUnderlying218 runUnderlying3 J N rfl rfl rfl rfl fun w N a J=>?_)
 replace N:=N.nf
 refine go fun a J=>?_
 refine st0 J rfl rfl (pH 0 runUnderlying218 runUnderlying3 J N rfl rfl rfl rfl fun w N a J=>?_)
 replace N:=N.nf
 refine go fun a J=>?_
 by_cases l:e.kind=1
 have I:oK [(1,.func (.func 139) #[.pointer (some g)] #[]),(2,.func (.func 140) #[.pointer (some g)] #[]),(3,.func (.func 141) #[.pointer (some g)] #[]),(4,.func (.func 142) #[.pointer (some g)] #[]),(5,.func (.func 143) #[.pointer (some g)] #[]),(6,.func (.func 144) #[.pointer (some g)] #[]),(7,.func (.func 145) #[.pointer (some g)] #[]),(8,.func (.func 146) #[.pointer (some g)] #[])] (e.kind)=some (.func (.func 139) #[.pointer (some g)] #[]):=by rw [l];rfl
 have A:=congrArg (zN true (.nilFunc)) I
 refine Qq (fun a J=>?_) (o:=by exact fun J O=>Ok.cast (vJ 0 runUnderlying218 runUnderlying3 zeroValue160 J O rfl rfl rfl) (show zN true (.nilFunc) (oK [(1,.func (.func 139) #[.pointer (some g)] #[]),(2,.func (.func 140) #[.pointer (some g)] #[]),(3,.func (.func 141) #[.pointer (some g)] #[]),(4,.func (.func 142) #[.pointer (some g)] #[]),(5,.func (.func 143) #[.pointer (some g)] #[]),(6,.func (.func 144) #[.pointer (some g)] #[]),(7,.func (.func 145) #[.pointer (some g)] #[]),(8,.func (.func 146) #[.pointer (some g)] #[])] (e.kind))=.tuple #[.func (.func 139) #[.pointer (some g)] #[],.bool true] from A))
 replace N:=N.pl 2
 refine q3j call139 (fun w N a J=>?_) (c:=by exact x2g h i N)
 refine zF ?_
 replace N:=N.dl [2,1]
 have hr_:zG T e s=((oP e),s):=by rw [aO T e s l]
 show _/\_;rw [hr_];exact ⟨rfl,N⟩
 by_cases m:e.kind=2
 have L:oK [(1,.func (.func 139) #[.pointer (some g)] #[]),(2,.func (.func 140) #[.pointer (some g)] #[]),(3,.func (.func 141) #[.pointer (some g)] #[]),(4,.func (.func 142) #[.pointer (some g)] #[]),(5,.func (.func 143) #[.pointer (some g)] #[]),(6,.func (.func 144) #[.pointer (some g)] #[]),(7,.func (.func 145) #[.pointer (some g)] #[]),(8,.func (.func 146) #[.pointer (some g)] #[])] (e.kind)=some (.func (.func 140) #[.pointer (some g)] #[]):=by rw [m];rfl
 have B:=congrArg (zN true (.nilFunc)) L
 refine Qq (fun a J=>?_) (o:=by exact fun J O=>Ok.cast (vJ 0 runUnderlying218 runUnderlying3 zeroValue160 J O rfl rfl rfl) (show zN true (.nilFunc) (oK [(1,.func (.func 139) #[.pointer (some g)] #[]),(2,.func (.func 140) #[.pointer (some g)] #[]),(3,.func (.func 141) #[.pointer (some g)] #[]),(4,.func (.func 142) #[.pointer (some g)] #[]),(5,.func (.func 143) #[.pointer (some g)] #[]),(6,.func (.func 144) #[.pointer (some g)] #[]),(7,.func (.func 145) #[.pointer (some g)] #[]),(8,.func (.func 146) #[.pointer (some g)] #[])] (e.kind))=.tuple #[.func (.func 140) #[.pointer (some g)] #[],.bool true] from B))
 replace N:=N.pl 2
 refine q3j call140 (fun w N a J=>?_) (c:=by exact j1z h i N)
 refine zF ?_
 replace N:=N.dl [2,1]
 have hr_:zG T e s=((pF e s),s):=by rw [nO T e s m]
 show _/\_;rw [hr_];exact ⟨rfl,N⟩
 by_cases q:e.kind=3
 have M:oK [(1,.func (.func 139) #[.pointer (some g)] #[]),(2,.func (.func 140) #[.pointer (some g)] #[]),(3,.func (.func 141) #[.pointer (some g)] #[]),(4,.func (.func 142) #[.pointer (some g)] #[]),(5,.func (.func 143) #[.pointer (some g)] #[]),(6,.func (.func 144) #[.pointer (some g)] #[]),(7,.func (.func 145) #[.pointer (some g)] #[]),(8,.func (.func 146) #[.pointer (some g)] #[])] (e.kind)=some (.func (.func 141) #[.pointer (some g)] #[]):=by rw [q];rfl
 have C:=congrArg (zN true (.nilFunc)) M
 refine Qq (fun a J=>?_) (o:=by exact fun J O=>Ok.cast (vJ 0 runUnderlying218 runUnderlying3 zeroValue160 J O rfl rfl rfl) (show zN true (.nilFunc) (oK [(1,.func (.func 139) #[.pointer (some g)] #[]),(2,.func (.func 140) #[.pointer (some g)] #[]),(3,.func (.func 141) #[.pointer (some g)] #[]),(4,.func (.func 142) #[.pointer (some g)] #[]),(5,.func (.func 143) #[.pointer (some g)] #[]),(6,.func (.func 144) #[.pointer (some g)] #[]),(7,.func (.func 145) #[.pointer (some g)] #[]),(8,.func (.func 146) #[.pointer (some g)] #[])] (e.kind))=.tuple #[.func (.func 141) #[.pointer (some g)] #[],.bool true] from C))
 replace N:=N.pl 2
 refine q3j call141 (fun w N a J=>?_) (c:=by exact x1m h i N)
 refine zF ?_
 replace N:=N.dl [2,1]
 have hr_:zG T e s=((sI T e),s):=by rw [nL T e s q]
 show _/\_;rw [hr_];exact ⟨rfl,N⟩
 by_cases r:e.kind=4
 have P:oK [(1,.func (.func 139) #[.pointer (some g)] #[]),(2,.func (.func 140) #[.pointer (some g)] #[]),(3,.func (.func 141) #[.pointer (some g)] #[]),(4,.func (.func 142) #[.pointer (some g)] #[]),(5,.func (.func 143) #[.pointer (some g)] #[]),(6,.func (.func 144) #[.pointer (some g)] #[]),(7,.func (.func 145) #[.pointer (some g)] #[]),(8,.func (.func 146) #[.pointer (some g)] #[])] (e.kind)=some (.func (.func 142) #[.pointer (some g)] #[]):=by rw [r];rfl
 have D:=congrArg (zN true (.nilFunc)) P
 refine Qq (fun a J=>?_) (o:=by exact fun J O=>Ok.cast (vJ 0 runUnderlying218 runUnderlying3 zeroValue160 J O rfl rfl rfl) (show zN true (.nilFunc) (oK [(1,.func (.func 139) #[.pointer (some g)] #[]),(2,.func (.func 140) #[.pointer (some g)] #[]),(3,.func (.func 141) #[.pointer (some g)] #[]),(4,.func (.func 142) #[.pointer (some g)] #[]),(5,.func (.func 143) #[.pointer (some g)] #[]),(6,.func (.func 144) #[.pointer (some g)] #[]),(7,.func (.func 145) #[.pointer (some g)] #[]),(8,.func (.func 146) #[.pointer (some g)] #[])] (e.kind))=.tuple #[.func (.func 142) #[.pointer (some g)] #[],.bool true] from D))
 replace N:=N.pl 2
 refine q3j call142 (fun w N a J=>?_) (c:=by exact con_ok h i X N)
 refine zF ?_
 replace N:=N.dl [2,1]
 have hr_:zG T e s=((tO T e s).1,(tO T e s).2):=by rw [nK T e s r]
 show _/\_;rw [hr_];exact ⟨rfl,N⟩
 by_cases t:e.kind=5
 have R:oK [(1,.func (.func 139) #[.pointer (some g)] #[]),(2,.func (.func 140) #[.pointer (some g)] #[]),(3,.func (.func 141) #[.pointer (some g)] #[]),(4,.func (.func 142) #[.pointer (some g)] #[]),(5,.func (.func 143) #[.pointer (some g)] #[]),(6,.func (.func 144) #[.pointer (some g)] #[]),(7,.func (.func 145) #[.pointer (some g)] #[]),(8,.func (.func 146) #[.pointer (some g)] #[])] (e.kind)=some (.func (.func 143) #[.pointer (some g)] #[]):=by rw [t];rfl
 have E:=congrArg (zN true (.nilFunc)) R
 refine Qq (fun a J=>?_) (o:=by exact fun J O=>Ok.cast (vJ 0 runUnderlying218 runUnderlying3 zeroValue160 J O rfl rfl rfl) (show zN true (.nilFunc) (oK [(1,.func (.func 139) #[.pointer (some g)] #[]),(2,.func (.func 140) #[.pointer (some g)] #[]),(3,.func (.func 141) #[.pointer (some g)] #[]),(4,.func (.func 142) #[.pointer (some g)] #[]),(5,.func (.func 143) #[.pointer (some g)] #[]),(6,.func (.func 144) #[.pointer (some g)] #[]),(7,.func (.func 145) #[.pointer (some g)] #[]),(8,.func (.func 146) #[.pointer (some g)] #[])] (e.kind))=.tuple #[.func (.func 143) #[.pointer (some g)] #[],.bool true] from E))
 replace N:=N.pl 2
 refine q3j call143 (fun w N a J=>?_) (c:=by exact call_ok h i hT X N)
 refine zF ?_
 replace N:=N.dl [2,1]
 have hr_:zG T e s=((nS T e s).1,(nS T e s).2):=by rw [wK T e s t]
 show _/\_;rw [hr_];exact ⟨rfl,N⟩
 by_cases u:e.kind=6
 have S:oK [(1,.func (.func 139) #[.pointer (some g)] #[]),(2,.func (.func 140) #[.pointer (some g)] #[]),(3,.func (.func 141) #[.pointer (some g)] #[]),(4,.func (.func 142) #[.pointer (some g)] #[]),(5,.func (.func 143) #[.pointer (some g)] #[]),(6,.func (.func 144) #[.pointer (some g)] #[]),(7,.func (.func 145) #[.pointer (some g)] #[]),(8,.func (.func 146) #[.pointer (some g)] #[])] (e.kind)=some (.func (.func 144) #[.pointer (some g)] #[]):=by rw [u];rfl
 have F:=congrArg (zN true (.nilFunc)) S
 refine Qq (fun a J=>?_) (o:=by exact fun J O=>Ok.cast (vJ 0 runUnderlying218 runUnderlying3 zeroValue160 J O rfl rfl rfl) (show zN true (.nilFunc) (oK [(1,.func (.func 139) #[.pointer (some g)] #[]),(2,.func (.func 140) #[.pointer (some g)] #[]),(3,.func (.func 141) #[.pointer (some g)] #[]),(4,.func (.func 142) #[.pointer (some g)] #[]),(5,.func (.func 143) #[.pointer (some g)] #[]),(6,.func (.func 144) #[.pointer (some g)] #[]),(7,.func (.func 145) #[.pointer (some g)] #[]),(8,.func (.func 146) #[.pointer (some g)] #[])] (e.kind))=.tuple #[.func (.func 144) #[.pointer (some g)] #[],.bool true] from F))
 replace N:=N.pl 2
 refine q3j call144 (fun w N a J=>?_) (c:=by exact let_ok h i X N)
 refine zF ?_
 replace N:=N.dl [2,1]
 have hr_:zG T e s=((z1p T e s).1,(z1p T e s).2):=by rw [nM T e s u]
 show _/\_;rw [hr_];exact ⟨rfl,N⟩
 by_cases v:e.kind=7
 have U:oK [(1,.func (.func 139) #[.pointer (some g)] #[]),(2,.func (.func 140) #[.pointer (some g)] #[]),(3,.func (.func 141) #[.pointer (some g)] #[]),(4,.func (.func 142) #[.pointer (some g)] #[]),(5,.func (.func 143) #[.pointer (some g)] #[]),(6,.func (.func 144) #[.pointer (some g)] #[]),(7,.func (.func 145) #[.pointer (some g)] #[]),(8,.func (.func 146) #[.pointer (some g)] #[])] (e.kind)=some (.func (.func 145) #[.pointer (some g)] #[]):=by rw [v];rfl
 have G:=congrArg (zN true (.nilFunc)) U
 refine Qq (fun a J=>?_) (o:=by exact fun J O=>Ok.cast (vJ 0 runUnderlying218 runUnderlying3 zeroValue160 J O rfl rfl rfl) (show zN true (.nilFunc) (oK [(1,.func (.func 139) #[.pointer (some g)] #[]),(2,.func (.func 140) #[.pointer (some g)] #[]),(3,.func (.func 141) #[.pointer (some g)] #[]),(4,.func (.func 142) #[.pointer (some g)] #[]),(5,.func (.func 143) #[.pointer (some g)] #[]),(6,.func (.func 144) #[.pointer (some g)] #[]),(7,.func (.func 145) #[.pointer (some g)] #[]),(8,.func (.func 146) #[.pointer (some g)] #[])] (e.kind))=.tuple #[.func (.func 145) #[.pointer (some g)] #[],.bool true] from G))
 replace N:=N.pl 2
 refine q3j call145 (fun w N a J=>?_) (c:=by exact x9h h i X N)
 refine zF ?_
 replace N:=N.dl [2,1]
 have hr_:zG T e s=((xH T e s).1,(xH T e s).2):=by rw [nJ T e s v]
 show _/\_;rw [hr_];exact ⟨rfl,N⟩
 by_cases y:e.kind=8
 have W:oK [(1,.func (.func 139) #[.pointer (some g)] #[]),(2,.func (.func 140) #[.pointer (some g)] #[]),(3,.func (.func 141) #[.pointer (some g)] #[]),(4,.func (.func 142) #[.pointer (some g)] #[]),(5,.func (.func 143) #[.pointer (some g)] #[]),(6,.func (.func 144) #[.pointer (some g)] #[]),(7,.func (.func 145) #[.pointer (some g)] #[]),(8,.func (.func 146) #[.pointer (some g)] #[])] (e.kind)=some (.func (.func 146) #[.pointer (some g)] #[]):=by rw [y];rfl
 have H:=congrArg (zN true (.nilFunc)) W
 refine Qq (fun a J=>?_) (o:=by exact fun J O=>Ok.cast (vJ 0 runUnderlying218 runUnderlying3 zeroValue160 J O rfl rfl rfl) (show zN true (.nilFunc) (oK [(1,.func (.func 139) #[.pointer (some g)] #[]),(2,.func (.func 140) #[.pointer (some g)] #[]),(3,.func (.func 141) #[.pointer (some g)] #[]),(4,.func (.func 142) #[.pointer (some g)] #[]),(5,.func (.func 143) #[.pointer (some g)] #[]),(6,.func (.func 144) #[.pointer (some g)] #[]),(7,.func (.func 145) #[.pointer (some g)] #[]),(8,.func (.func 146) #[.pointer (some g)] #[])] (e.kind))=.tuple #[.func (.func 146) #[.pointer (some g)] #[],.bool true] from H))
 replace N:=N.pl 2
 refine q3j call146 (fun w N a J=>?_) (c:=by exact op_ok h i X N)
 refine zF ?_
 replace N:=N.dl [2,1]
 have hr_:zG T e s=((nV T e s).1,(nV T e s).2):=by rw [cG T e s y]
 show _/\_;rw [hr_];exact ⟨rfl,N⟩
 have z:oK [(1,.func (.func 139) #[.pointer (some g)] #[]),(2,.func (.func 140) #[.pointer (some g)] #[]),(3,.func (.func 141) #[.pointer (some g)] #[]),(4,.func (.func 142) #[.pointer (some g)] #[]),(5,.func (.func 143) #[.pointer (some g)] #[]),(6,.func (.func 144) #[.pointer (some g)] #[]),(7,.func (.func 145) #[.pointer (some g)] #[]),(8,.func (.func 146) #[.pointer (some g)] #[])] (e.kind)=none:=by simp [oK, *]
 have k:=congrArg (zN true (.nilFunc)) z
 refine Qq (fun a J=>?_) (o:=by exact fun J O=>Ok.cast (vJ 0 runUnderlying218 runUnderlying3 zeroValue160 J O rfl rfl rfl) (show zN true (.nilFunc) (oK [(1,.func (.func 139) #[.pointer (some g)] #[]),(2,.func (.func 140) #[.pointer (some g)] #[]),(3,.func (.func 141) #[.pointer (some g)] #[]),(4,.func (.func 142) #[.pointer (some g)] #[]),(5,.func (.func 143) #[.pointer (some g)] #[]),(6,.func (.func 144) #[.pointer (some g)] #[]),(7,.func (.func 145) #[.pointer (some g)] #[]),(8,.func (.func 146) #[.pointer (some g)] #[])] (e.kind))=.tuple #[.nilFunc,.bool false] from k))
 refine zF ?_
 replace N:=N.dl [1,0]
 have hr_:zG T e s=((⟨#[]⟩:Bs),s):=by rw [nN T e s l m q r t u v y];rfl
 show _/\_;rw [hr_];exact ⟨rfl,N⟩
theorem x9q {T:Table} (a:∀n f,zJ T.funs n=some f->f.params.length<=1000) {V:Fz} {K:List Res} {w:World} {p:Addr} {d:List Value} {e:Ex} {b:Nat} {s:Scope} (rT:RTable V p T) (re:REx V d e) (N:Mem V (.mp b (xN s)::K) w) :
  Calls prog 86 #[.pointer (some p),.agg d.toArray,.map (some b)] w (fun ee w'=>ee=.returned (.string (zG T e s).1)/\Mem V (.mp b (xN (zG T e s).2)::K) w'):=by
 suffices H:∀n (e:Ex),e.sz < n->∀{V:Fz} {K:List Res} {w:World} {p:Addr} {d:List Value} {b:Nat} {s:Scope},RTable V p T->REx V d e->Mem V (.mp b (xN s)::K) w ->
   Calls prog 86 #[.pointer (some p),.agg d.toArray,.map (some b)] w (fun ee w'=>ee=.returned (.string (zG T e s).1)/\Mem V (.mp b (xN (zG T e s).2)::K) w') from H _ e (Nat.lt_succ_self _) rT re N
 intro n
 induction n with
 | zero=>intro e h;omega
 | succ n c=>intro e h V K w p d b s rT re N;exact j6o rT re a (fun x j _ _ _ _ _ _ _ g i m=>c x (by omega) g i m) N
theorem j4m {c:Core} (h:vO c=false):c.datas.length<=60:=by
 simp only [vO,Bool.or_eq_false_iff,decide_eq_false_iff_not] at h;omega
theorem j6j {V:Fz} {K:List Res} {w:World} {d0:List Value} {c:Core} {v:Value} (e0:RCoreX V d0 c v) (D2:vO c=false) (G:Glob V) (N:Mem V K w) :
  Calls prog 153 #[.agg d0.toArray] w (fun ee w'=>∃y:Fz×Addr,ee=.returned (.tuple #[.pointer (some y.2),.bool (wI c)])/\(V.Le y.1/\RTableX y.1 y.2 (zE c) v)/\Mem y.1 K w'):=by
 obtain ⟨s1,s2,s3,q4,D3,rfl,rfl,h6,h7,h8⟩:=id e0
 obtain ⟨p9,A3,rfl,e5,l5⟩:=h6.fm
 obtain ⟨w4,B3,rfl,f5,U2⟩:=h7.fm
 obtain ⟨x4,C3,rfl,g5,V2⟩:=h8.fm
 refine zK func153 ntmps153 fun Q hQ a J=>?_
 refine Bx fun E5 w N a J=>?_
 refine MkM fun w3 w N a J=>?_
 refine MkM fun U0 w N a J=>?_
 refine MkM fun x3 w N a J=>?_
 refine MkM fun y3 w N a J=>?_
 refine dG fun a J=>?_
 refine Bx fun z3 w N a J=>?_
 refine go fun a J=>?_
 refine yE [0,0,1,2,0,1,1] (.q 2 (.q 3 (.q 6 (.e 0 (.e 1 (.e 4 (.q 5 (.done)))))))) [0,1,2,3,4,5] J N fun w N=>?_
 refine yP call188 (fun y4 w T2 N a J=>?_) (c:=z9u N)
 obtain ⟨B5,I5⟩:=y4
 obtain ⟨o0,D⟩:=T2
 simp only at o0 D N J
 replace h6:=h6.up o0
 replace h7:=h7.up o0
 replace h8:=h8.up o0
 replace e0:=e0.mono o0
 replace G:=G.mono o0
 replace N:=N.nf
 obtain ⟨R5,rfl,N3⟩:=id D
 obtain ⟨L5,G5,rfl,h5,m5⟩:=N3.fm
 refine qF fun U5 w N a J=>?_
 obtain ⟨T4,g1,n0⟩:=id h6
 refine qQ 0 rt_22 (fun V5 w N a J=>?_) (hr:=g1.rowIn N.toSees) (h1:=n0.ones RData.ones) (hb:=by have h_:=n0.length;have J5:=j4m D2;rw [h_];simp only [lcQ,lnQ];omega)
 have B:=N
 clear N
 obtain ⟨d,p0,N,i1⟩:=B.freezeRow (i:=0) rfl
 clear B
 replace h7:=h7.up p0
 replace h8:=h8.up p0
 replace e0:=e0.mono p0
 replace G:=G.mono p0
 replace D:=D.up p0
 replace n0:=n0.mono fun _ _ h=>h.up p0
 replace N:=N.nf
 have b1:SliceOf RData d 2 _ (truthsD::c.datas):=⟨_,i1,⟨_,_,rfl,rfl,D,n0⟩⟩
 obtain ⟨M5,H5,v4,i5,W2⟩:=b1.form (by decide)
 have U1:=N
 clear N
 subst v4
 have N:=U1
 clear U1
 refine go fun a J=>?_
 refine zU (J.ks [1,4,25,26]) N (fun R mm a w=>∃(i:Nat) (o:Bool) (m0:List (Bs×Value)) (l0:List (Bs×Data)) (m1:List (Bs×Value)) (l1:List (Bs×Maker)),mm=(truthsD::c.datas).length - i/\R d [(5,.bool o),(27,.int .i64 ((i:Nat):Int))] [(3,.mp U0 m1),(4,.mp w3 m0)] a w/\(tS true [] [] (truthsD::c.datas)=tS o l0 l1 ((truthsD::c.datas).drop i)/\MapRel (RVa RData d) m0 l0/\MapRel (RVa RMaker d) m1 l1)) ((truthsD::c.datas).length - 0) ⟨0,true,[],[],[],[],rfl,⟨J.pk,N⟩,⟨rfl,MapRel.nil,MapRel.nil⟩⟩ ?_
 clear N J
 rintro mm a w ⟨i,o,m0,l0,m1,l1,n,⟨J,N⟩,i0⟩ C5 q0
 replace N:=N.nf
 obtain ⟨i0,r0,r1⟩:=i0
 by_cases R2:i < (truthsD::c.datas).length
 refine go fun a J=>?_
 obtain ⟨P5,rfl,b,t0,U4,c5,a5,X0⟩:=b1.el W2 R2
 obtain ⟨S5,rfl,V0⟩:=id X0
 obtain ⟨X2,I2,rfl,j5,s0⟩:=V0.fm
 refine Alc fun F5 w N a J=>?_
 refine Sto 0 fun w N a J=>?_
 refine Reg [1,1,1,2,0,1,1,1,2,1,1,1,1,1,1,2,1,2,2,0,1,1,1,2,1,1,1,1] [0,1,2,3,4,6] fun w N a J=>?_
 refine go fun a J=>?_
 cases o
 refine go fun a J=>?_
 refine zU (J.ks [1,4,7,25,26,27,59,60]) N (fun R mm a w=>∃(k:Nat) (o2:Bool) (j:List (Bs×Value)) (g:List (Bs×Maker)),mm=b.cons.length - k/\R d [(5,.bool o2),(61,.int .i64 ((k:Nat):Int))] [(4,.mp U0 j)] a w/\(vI b.name false l1 b.cons=vI b.name o2 g (b.cons.drop k)/\MapRel (RVa RMaker d) j g)) (b.cons.length - 0) ⟨0,false,m1,l1,rfl,⟨J.pk,N⟩,⟨rfl,r1⟩⟩ ?_
 clear N J
 rintro mm a w ⟨k,o2,j,g,n,⟨J,N⟩,j0⟩ D5 W0
 replace N:=N.nf
 obtain ⟨j0,p⟩:=j0
 by_cases S2:k < b.cons.length
 refine go fun a J=>?_
 obtain ⟨Q5,rfl,X,Z0,V4,d5,b5,Y0⟩:=V0.el s0 S2
 obtain ⟨T5,rfl,O3⟩:=id Y0
 obtain ⟨Y2,J2,rfl,k5,n5⟩:=O3.fm
 refine Alc fun K4 w N a J=>?_
 refine Sto 0 fun w N a J=>?_
 refine Reg [1,1,1,2,0,1,1,1,1,1,2,1,2,1,2,2,1,0,1,1] [0,1,2,3,4,6,7] fun w N a J=>?_
 refine go fun a J=>?_
 cases o2
 refine go fun a J=>?_
 replace N:=N.dl [0]
 refine W0 _ _ _ (by subst n;omega) ⟨(k+1),(false),(j),(g),rfl,⟨J.pk,N⟩,?_⟩
 refine ⟨?_,p⟩
 rw [j0,zA Z0];simp [vI, *]
 refine zZ call178 (fun e2 w N a J=>?_) (fun e2 w N a J=>?_) (c:=nD G N)
 refine dG fun a J=>?_
 replace N:=N.pl 5
 refine zZ call191 (fun f2 w N a J=>?_) (fun f2 w N a J=>?_) (c:=mC (m:=j) (l:=g) (x:=(⟨b.name,X⟩:Maker)) p (show RMaker d _ (⟨b.name,X⟩:Maker) from ⟨_,rfl,Y0⟩) N)
 replace N:=N.nf
 obtain ⟨k1,f⟩:∃Y,Y=(kA j X.name (.agg #[.string b.name,.string X.name,.slice Y2 X.fields.length J2])):=⟨_,rfl⟩
 have Z2:MapRel (RVa RMaker d) k1 (jH g X.name (⟨b.name,X⟩:Maker)):=by rw [f];exact (MapRel.once p ⟨_,rfl,(show RMaker d _ (⟨b.name,X⟩:Maker) from ⟨_,rfl,Y0⟩)⟩)
 rw [<- f] at N
 clear f
 refine go fun a J=>?_
 replace N:=N.ar [1] [6,6,2,6,6,6,6]
 refine W0 _ _ _ (by subst n;omega) ⟨(k+1),(true),(k1),((jH g X.name (⟨b.name,X⟩:Maker))),rfl,⟨J.pk,N⟩,?_⟩
 refine ⟨?_,Z2⟩
 rw [j0,zA Z0];simp [vI, *]
 replace N:=N.nf
 obtain ⟨n1,f⟩:∃Y,Y=(kA j X.name (.agg #[.string b.name,.string X.name,.slice Y2 X.fields.length J2])):=⟨_,rfl⟩
 have a3:MapRel (RVa RMaker d) n1 (jH g X.name (⟨b.name,X⟩:Maker)):=by rw [f];exact (MapRel.once p ⟨_,rfl,(show RMaker d _ (⟨b.name,X⟩:Maker) from ⟨_,rfl,Y0⟩)⟩)
 rw [<- f] at N
 clear f
 refine go fun a J=>?_
 replace N:=N.ar [1] [6,6,2,6,6,6,6]
 refine W0 _ _ _ (by subst n;omega) ⟨(k+1),(false),(n1),((jH g X.name (⟨b.name,X⟩:Maker))),rfl,⟨J.pk,N⟩,?_⟩
 refine ⟨?_,a3⟩
 rw [j0,zA Z0];simp [vI, *]
 refine go fun a J=>?_
 replace N:=N.dl [0]
 refine W0 _ _ _ (by subst n;omega) ⟨(k+1),(false),(j),(g),rfl,⟨J.pk,N⟩,?_⟩
 refine ⟨?_,p⟩
 rw [j0,zA Z0];simp [vI, *]
 refine go fun a J=>?_
 replace N:=N.dl [0]
 refine q0 _ _ _ (by subst n;omega) ⟨(i+1),(o2),(m0),(l0),(j),(g),rfl,⟨J.pk,N⟩,?_⟩
 refine ⟨?_,r0,p⟩
 rw [zB S2] at j0
 rw [i0,zA t0,sA]
 simp only [vI] at j0
 have Z:cB false l0 b=false:=by simp [cB,yH, *]
 have a0:mJ false l0 b=l0:=by simp [mJ,yH, *]
 rw [Z,a0,j0]
 refine zZ call178 (fun g2 w N a J=>?_) (fun g2 w N a J=>?_) (c:=nD G N)
 refine go fun a J=>?_
 by_cases W4:b.name=(⟨#[73,110,116]⟩:Bs)
 refine go fun a J=>?_
 refine zU (J.ks [1,4,7,25,26,27,59,60]) N (fun R mm a w=>∃(k:Nat) (o2:Bool) (j:List (Bs×Value)) (g:List (Bs×Maker)),mm=b.cons.length - k/\R d [(5,.bool o2),(61,.int .i64 ((k:Nat):Int))] [(4,.mp U0 j)] a w/\(vI b.name false l1 b.cons=vI b.name o2 g (b.cons.drop k)/\MapRel (RVa RMaker d) j g)) (b.cons.length - 0) ⟨0,false,m1,l1,rfl,⟨J.pk,N⟩,⟨rfl,r1⟩⟩ ?_
 clear N J
 rintro mm a w ⟨k,o2,j,g,n,⟨J,N⟩,I⟩ D4 u0
 replace N:=N.nf
 obtain ⟨I,p⟩:=I
 by_cases N1:k < b.cons.length
 refine go fun a J=>?_
 obtain ⟨o5,rfl,s,J0,E3,X3,P3,D0⟩:=V0.el s0 N1
 obtain ⟨v5,rfl,K2⟩:=id D0
 obtain ⟨V1,F1,rfl,e4,m4⟩:=K2.fm
 refine Alc fun L4 w N a J=>?_
 refine Sto 0 fun w N a J=>?_
 refine Reg [1,1,1,2,0,1,1,1,1,1,2,1,2,1,2,2,1,0,1,1] [0,1,2,3,4,6,7] fun w N a J=>?_
 refine go fun a J=>?_
 cases o2
 refine go fun a J=>?_
 replace N:=N.dl [0]
 refine u0 _ _ _ (by subst n;omega) ⟨(k+1),(false),(j),(g),rfl,⟨J.pk,N⟩,?_⟩
 refine ⟨?_,p⟩
 rw [I,zA J0];simp [vI, *]
 refine zZ call178 (fun h2 w N a J=>?_) (fun h2 w N a J=>?_) (c:=nD G N)
 refine dG fun a J=>?_
 replace N:=N.pl 5
 refine zZ call191 (fun i2 w N a J=>?_) (fun i2 w N a J=>?_) (c:=mC (m:=j) (l:=g) (x:=(⟨b.name,s⟩:Maker)) p (show RMaker d _ (⟨b.name,s⟩:Maker) from ⟨_,rfl,D0⟩) N)
 replace N:=N.nf
 obtain ⟨o1,f⟩:∃Y,Y=(kA j s.name (.agg #[.string b.name,.string s.name,.slice V1 s.fields.length F1])):=⟨_,rfl⟩
 have b3:MapRel (RVa RMaker d) o1 (jH g s.name (⟨b.name,s⟩:Maker)):=by rw [f];exact (MapRel.once p ⟨_,rfl,(show RMaker d _ (⟨b.name,s⟩:Maker) from ⟨_,rfl,D0⟩)⟩)
 rw [<- f] at N
 clear f
 refine go fun a J=>?_
 replace N:=N.ar [1] [6,6,2,6,6,6,6]
 refine u0 _ _ _ (by subst n;omega) ⟨(k+1),(true),(o1),((jH g s.name (⟨b.name,s⟩:Maker))),rfl,⟨J.pk,N⟩,?_⟩
 refine ⟨?_,b3⟩
 rw [I,zA J0];simp [vI, *]
 replace N:=N.nf
 obtain ⟨p1,f⟩:∃Y,Y=(kA j s.name (.agg #[.string b.name,.string s.name,.slice V1 s.fields.length F1])):=⟨_,rfl⟩
 have d3:MapRel (RVa RMaker d) p1 (jH g s.name (⟨b.name,s⟩:Maker)):=by rw [f];exact (MapRel.once p ⟨_,rfl,(show RMaker d _ (⟨b.name,s⟩:Maker) from ⟨_,rfl,D0⟩)⟩)
 rw [<- f] at N
 clear f
 refine go fun a J=>?_
 replace N:=N.ar [1] [6,6,2,6,6,6,6]
 refine u0 _ _ _ (by subst n;omega) ⟨(k+1),(false),(p1),((jH g s.name (⟨b.name,s⟩:Maker))),rfl,⟨J.pk,N⟩,?_⟩
 refine ⟨?_,d3⟩
 rw [I,zA J0];simp [vI, *]
 refine go fun a J=>?_
 replace N:=N.dl [0]
 refine u0 _ _ _ (by subst n;omega) ⟨(k+1),(false),(j),(g),rfl,⟨J.pk,N⟩,?_⟩
 refine ⟨?_,p⟩
 rw [I,zA J0];simp [vI, *]
 refine go fun a J=>?_
 replace N:=N.dl [0]
 refine q0 _ _ _ (by subst n;omega) ⟨(i+1),(o2),(m0),(l0),(j),(g),rfl,⟨J.pk,N⟩,?_⟩
 refine ⟨?_,r0,p⟩
 rw [zB N1] at I
 rw [i0,zA t0,sA]
 simp only [vI] at I
 have Z:cB true l0 b=false:=by simp [cB,yH, *]
 have a0:mJ true l0 b=l0:=by simp [mJ,yH, *]
 rw [Z,a0,I]
 replace N:=N.pl 5
 refine zZ call190 (fun j2 w N a J=>?_) (fun j2 w N a J=>?_) (c:=q6f (m:=m0) (l:=l0) (x:=b) r0 X0 N)
 replace N:=N.nf
 obtain ⟨a1,f⟩:∃Y,Y=(kA m0 b.name (.agg #[.string b.name,.slice X2 b.cons.length I2])):=⟨_,rfl⟩
 have d2:MapRel (RVa RData d) a1 (jH l0 b.name b):=by rw [f];exact (MapRel.once r0 ⟨_,rfl,X0⟩)
 rw [<- f] at N
 clear f
 by_cases X4:0 < b.cons.length
 refine go fun a J=>?_
 refine zU (J.ks [1,4,7,25,26,27,59,60]) N (fun R mm a w=>∃(k:Nat) (o2:Bool) (j:List (Bs×Value)) (g:List (Bs×Maker)),mm=b.cons.length - k/\R d [(5,.bool o2),(61,.int .i64 ((k:Nat):Int))] [(5,.mp U0 j)] a w/\(vI b.name true l1 b.cons=vI b.name o2 g (b.cons.drop k)/\MapRel (RVa RMaker d) j g)) (b.cons.length - 0) ⟨0,true,m1,l1,rfl,⟨J.pk,N⟩,⟨rfl,r1⟩⟩ ?_
 clear N J
 rintro mm a w ⟨k,o2,j,g,n,⟨J,N⟩,L⟩ E4 w0
 replace N:=N.nf
 obtain ⟨L,p⟩:=L
 by_cases O1:k < b.cons.length
 refine go fun a J=>?_
 obtain ⟨p5,rfl,t,K0,F3,Y3,Q3,E0⟩:=V0.el s0 O1
 obtain ⟨w5,rfl,L2⟩:=id E0
 obtain ⟨W1,G1,rfl,f4,n4⟩:=L2.fm
 refine Alc fun M4 w N a J=>?_
 refine Sto 0 fun w N a J=>?_
 refine Reg [1,1,1,2,0,1,1,1,1,1,2,1,2,1,2,2,1,0,1,1] [0,1,2,3,4,5,7] fun w N a J=>?_
 refine go fun a J=>?_
 cases o2
 refine go fun a J=>?_
 replace N:=N.dl [0]
 refine w0 _ _ _ (by subst n;omega) ⟨(k+1),(false),(j),(g),rfl,⟨J.pk,N⟩,?_⟩
 refine ⟨?_,p⟩
 rw [L,zA K0];simp [vI, *]
 refine zZ call178 (fun k2 w N a J=>?_) (fun k2 w N a J=>?_) (c:=nD G N)
 refine dG fun a J=>?_
 replace N:=N.pl 6
 refine zZ call191 (fun n2 w N a J=>?_) (fun n2 w N a J=>?_) (c:=mC (m:=j) (l:=g) (x:=(⟨b.name,t⟩:Maker)) p (show RMaker d _ (⟨b.name,t⟩:Maker) from ⟨_,rfl,E0⟩) N)
 replace N:=N.nf
 obtain ⟨q1,f⟩:∃Y,Y=(kA j t.name (.agg #[.string b.name,.string t.name,.slice W1 t.fields.length G1])):=⟨_,rfl⟩
 have e3:MapRel (RVa RMaker d) q1 (jH g t.name (⟨b.name,t⟩:Maker)):=by rw [f];exact (MapRel.once p ⟨_,rfl,(show RMaker d _ (⟨b.name,t⟩:Maker) from ⟨_,rfl,E0⟩)⟩)
 rw [<- f] at N
 clear f
 refine go fun a J=>?_
 replace N:=N.ar [1] [6,1,6,6,6,6,6]
 refine w0 _ _ _ (by subst n;omega) ⟨(k+1),(true),(q1),((jH g t.name (⟨b.name,t⟩:Maker))),rfl,⟨J.pk,N⟩,?_⟩
 refine ⟨?_,e3⟩
 rw [L,zA K0];simp [vI, *]
 replace N:=N.nf
 obtain ⟨t1,f⟩:∃Y,Y=(kA j t.name (.agg #[.string b.name,.string t.name,.slice W1 t.fields.length G1])):=⟨_,rfl⟩
 have f3:MapRel (RVa RMaker d) t1 (jH g t.name (⟨b.name,t⟩:Maker)):=by rw [f];exact (MapRel.once p ⟨_,rfl,(show RMaker d _ (⟨b.name,t⟩:Maker) from ⟨_,rfl,E0⟩)⟩)
 rw [<- f] at N
 clear f
 refine go fun a J=>?_
 replace N:=N.ar [1] [6,1,6,6,6,6,6]
 refine w0 _ _ _ (by subst n;omega) ⟨(k+1),(false),(t1),((jH g t.name (⟨b.name,t⟩:Maker))),rfl,⟨J.pk,N⟩,?_⟩
 refine ⟨?_,f3⟩
 rw [L,zA K0];simp [vI, *]
 refine go fun a J=>?_
 replace N:=N.dl [0]
 refine w0 _ _ _ (by subst n;omega) ⟨(k+1),(false),(j),(g),rfl,⟨J.pk,N⟩,?_⟩
 refine ⟨?_,p⟩
 rw [L,zA K0];simp [vI, *]
 refine go fun a J=>?_
 replace N:=N.ar [1] [5,1,5,5,5,5]
 refine q0 _ _ _ (by subst n;omega) ⟨(i+1),(o2),(a1),((jH l0 b.name b)),(j),(g),rfl,⟨J.pk,N⟩,?_⟩
 refine ⟨?_,d2,p⟩
 rw [zB O1] at L
 rw [i0,zA t0,sA]
 simp only [vI] at L
 have Z:cB true l0 b=true:=by simp [cB,yH, *]
 have a0:mJ true l0 b=(jH l0 b.name b):=by simp [mJ,yH, *]
 rw [Z,a0,L]
 refine go fun a J=>?_
 refine zU (J.ks [1,4,7,25,26,27,59,60]) N (fun R mm a w=>∃(k:Nat) (o2:Bool) (j:List (Bs×Value)) (g:List (Bs×Maker)),mm=b.cons.length - k/\R d [(5,.bool o2),(61,.int .i64 ((k:Nat):Int))] [(5,.mp U0 j)] a w/\(vI b.name false l1 b.cons=vI b.name o2 g (b.cons.drop k)/\MapRel (RVa RMaker d) j g)) (b.cons.length - 0) ⟨0,false,m1,l1,rfl,⟨J.pk,N⟩,⟨rfl,r1⟩⟩ ?_
 clear N J
 rintro mm a w ⟨k,o2,j,g,n,⟨J,N⟩,M⟩ F4 x0
 replace N:=N.nf
 obtain ⟨M,p⟩:=M
 by_cases P1:k < b.cons.length
 refine go fun a J=>?_
 obtain ⟨q5,rfl,u,L0,G3,Z3,R3,F0⟩:=V0.el s0 P1
 obtain ⟨x5,rfl,M2⟩:=id F0
 obtain ⟨X1,H1,rfl,g4,o4⟩:=M2.fm
 refine Alc fun N4 w N a J=>?_
 refine Sto 0 fun w N a J=>?_
 refine Reg [1,1,1,2,0,1,1,1,1,1,2,1,2,1,2,2,1,0,1,1] [0,1,2,3,4,5,7] fun w N a J=>?_
 refine go fun a J=>?_
 cases o2
 refine go fun a J=>?_
 replace N:=N.dl [0]
 refine x0 _ _ _ (by subst n;omega) ⟨(k+1),(false),(j),(g),rfl,⟨J.pk,N⟩,?_⟩
 refine ⟨?_,p⟩
 rw [M,zA L0];simp [vI, *]
 refine zZ call178 (fun p2 w N a J=>?_) (fun p2 w N a J=>?_) (c:=nD G N)
 refine dG fun a J=>?_
 replace N:=N.pl 6
 refine zZ call191 (fun q2 w N a J=>?_) (fun q2 w N a J=>?_) (c:=mC (m:=j) (l:=g) (x:=(⟨b.name,u⟩:Maker)) p (show RMaker d _ (⟨b.name,u⟩:Maker) from ⟨_,rfl,F0⟩) N)
 replace N:=N.nf
 obtain ⟨u1,f⟩:∃Y,Y=(kA j u.name (.agg #[.string b.name,.string u.name,.slice X1 u.fields.length H1])):=⟨_,rfl⟩
 have g3:MapRel (RVa RMaker d) u1 (jH g u.name (⟨b.name,u⟩:Maker)):=by rw [f];exact (MapRel.once p ⟨_,rfl,(show RMaker d _ (⟨b.name,u⟩:Maker) from ⟨_,rfl,F0⟩)⟩)
 rw [<- f] at N
 clear f
 refine go fun a J=>?_
 replace N:=N.ar [1] [6,1,6,6,6,6,6]
 refine x0 _ _ _ (by subst n;omega) ⟨(k+1),(true),(u1),((jH g u.name (⟨b.name,u⟩:Maker))),rfl,⟨J.pk,N⟩,?_⟩
 refine ⟨?_,g3⟩
 rw [M,zA L0];simp [vI, *]
 replace N:=N.nf
 obtain ⟨v1,f⟩:∃Y,Y=(kA j u.name (.agg #[.string b.name,.string u.name,.slice X1 u.fields.length H1])):=⟨_,rfl⟩
 have h3:MapRel (RVa RMaker d) v1 (jH g u.name (⟨b.name,u⟩:Maker)):=by rw [f];exact (MapRel.once p ⟨_,rfl,(show RMaker d _ (⟨b.name,u⟩:Maker) from ⟨_,rfl,F0⟩)⟩)
 rw [<- f] at N
 clear f
 refine go fun a J=>?_
 replace N:=N.ar [1] [6,1,6,6,6,6,6]
 refine x0 _ _ _ (by subst n;omega) ⟨(k+1),(false),(v1),((jH g u.name (⟨b.name,u⟩:Maker))),rfl,⟨J.pk,N⟩,?_⟩
 refine ⟨?_,h3⟩
 rw [M,zA L0];simp [vI, *]
 refine go fun a J=>?_
 replace N:=N.dl [0]
 refine x0 _ _ _ (by subst n;omega) ⟨(k+1),(false),(j),(g),rfl,⟨J.pk,N⟩,?_⟩
 refine ⟨?_,p⟩
 rw [M,zA L0];simp [vI, *]
 refine go fun a J=>?_
 replace N:=N.ar [1] [5,1,5,5,5,5]
 refine q0 _ _ _ (by subst n;omega) ⟨(i+1),(o2),(a1),((jH l0 b.name b)),(j),(g),rfl,⟨J.pk,N⟩,?_⟩
 refine ⟨?_,d2,p⟩
 rw [zB P1] at M
 rw [i0,zA t0,sA]
 simp only [vI] at M
 have Z:cB true l0 b=false:=by simp [cB,yH, *]
 have a0:mJ true l0 b=(jH l0 b.name b):=by simp [mJ,yH, *]
 rw [Z,a0,M]
 replace N:=N.nf
 obtain ⟨w1,f⟩:∃Y,Y=(kA m0 b.name (.agg #[.string b.name,.slice X2 b.cons.length I2])):=⟨_,rfl⟩
 have i3:MapRel (RVa RData d) w1 (jH l0 b.name b):=by rw [f];exact (MapRel.once r0 ⟨_,rfl,X0⟩)
 rw [<- f] at N
 clear f
 refine go fun a J=>?_
 refine zU (J.ks [1,4,7,25,26,27,59,60]) N (fun R mm a w=>∃(k:Nat) (o2:Bool) (j:List (Bs×Value)) (g:List (Bs×Maker)),mm=b.cons.length - k/\R d [(5,.bool o2),(61,.int .i64 ((k:Nat):Int))] [(5,.mp U0 j)] a w/\(vI b.name false l1 b.cons=vI b.name o2 g (b.cons.drop k)/\MapRel (RVa RMaker d) j g)) (b.cons.length - 0) ⟨0,false,m1,l1,rfl,⟨J.pk,N⟩,⟨rfl,r1⟩⟩ ?_
 clear N J
 rintro mm a w ⟨k,o2,j,g,n,⟨J,N⟩,P⟩ G4 y0
 replace N:=N.nf
 obtain ⟨P,p⟩:=P
 by_cases Q1:k < b.cons.length
 refine go fun a J=>?_
 obtain ⟨r5,rfl,z,M0,H3,a4,S3,G0⟩:=V0.el s0 Q1
 obtain ⟨y5,rfl,N2⟩:=id G0
 obtain ⟨Y1,I1,rfl,h4,p4⟩:=N2.fm
 refine Alc fun O4 w N a J=>?_
 refine Sto 0 fun w N a J=>?_
 refine Reg [1,1,1,2,0,1,1,1,1,1,2,1,2,1,2,2,1,0,1,1] [0,1,2,3,4,5,7] fun w N a J=>?_
 refine go fun a J=>?_
 cases o2
 refine go fun a J=>?_
 replace N:=N.dl [0]
 refine y0 _ _ _ (by subst n;omega) ⟨(k+1),(false),(j),(g),rfl,⟨J.pk,N⟩,?_⟩
 refine ⟨?_,p⟩
 rw [P,zA M0];simp [vI, *]
 refine zZ call178 (fun t2 w N a J=>?_) (fun t2 w N a J=>?_) (c:=nD G N)
 refine dG fun a J=>?_
 replace N:=N.pl 6
 refine zZ call191 (fun u2 w N a J=>?_) (fun u2 w N a J=>?_) (c:=mC (m:=j) (l:=g) (x:=(⟨b.name,z⟩:Maker)) p (show RMaker d _ (⟨b.name,z⟩:Maker) from ⟨_,rfl,G0⟩) N)
 replace N:=N.nf
 obtain ⟨x1,f⟩:∃Y,Y=(kA j z.name (.agg #[.string b.name,.string z.name,.slice Y1 z.fields.length I1])):=⟨_,rfl⟩
 have j3:MapRel (RVa RMaker d) x1 (jH g z.name (⟨b.name,z⟩:Maker)):=by rw [f];exact (MapRel.once p ⟨_,rfl,(show RMaker d _ (⟨b.name,z⟩:Maker) from ⟨_,rfl,G0⟩)⟩)
 rw [<- f] at N
 clear f
 refine go fun a J=>?_
 replace N:=N.ar [1] [6,1,6,6,6,6,6]
 refine y0 _ _ _ (by subst n;omega) ⟨(k+1),(true),(x1),((jH g z.name (⟨b.name,z⟩:Maker))),rfl,⟨J.pk,N⟩,?_⟩
 refine ⟨?_,j3⟩
 rw [P,zA M0];simp [vI, *]
 replace N:=N.nf
 obtain ⟨y1,f⟩:∃Y,Y=(kA j z.name (.agg #[.string b.name,.string z.name,.slice Y1 z.fields.length I1])):=⟨_,rfl⟩
 have k3:MapRel (RVa RMaker d) y1 (jH g z.name (⟨b.name,z⟩:Maker)):=by rw [f];exact (MapRel.once p ⟨_,rfl,(show RMaker d _ (⟨b.name,z⟩:Maker) from ⟨_,rfl,G0⟩)⟩)
 rw [<- f] at N
 clear f
 refine go fun a J=>?_
 replace N:=N.ar [1] [6,1,6,6,6,6,6]
 refine y0 _ _ _ (by subst n;omega) ⟨(k+1),(false),(y1),((jH g z.name (⟨b.name,z⟩:Maker))),rfl,⟨J.pk,N⟩,?_⟩
 refine ⟨?_,k3⟩
 rw [P,zA M0];simp [vI, *]
 refine go fun a J=>?_
 replace N:=N.dl [0]
 refine y0 _ _ _ (by subst n;omega) ⟨(k+1),(false),(j),(g),rfl,⟨J.pk,N⟩,?_⟩
 refine ⟨?_,p⟩
 rw [P,zA M0];simp [vI, *]
 refine go fun a J=>?_
 replace N:=N.ar [1] [5,1,5,5,5,5]
 refine q0 _ _ _ (by subst n;omega) ⟨(i+1),(o2),(w1),((jH l0 b.name b)),(j),(g),rfl,⟨J.pk,N⟩,?_⟩
 refine ⟨?_,i3,p⟩
 rw [zB Q1] at P
 rw [i0,zA t0,sA]
 simp only [vI] at P
 have Z:cB true l0 b=false:=by simp [cB,yH, *]
 have a0:mJ true l0 b=(jH l0 b.name b):=by simp [mJ,yH, *]
 rw [Z,a0,P]
 refine go fun a J=>?_
 refine zU (J.ks [1,4,7,25,26,27,59,60]) N (fun R mm a w=>∃(k:Nat) (o2:Bool) (j:List (Bs×Value)) (g:List (Bs×Maker)),mm=b.cons.length - k/\R d [(5,.bool o2),(61,.int .i64 ((k:Nat):Int))] [(4,.mp U0 j)] a w/\(vI b.name false l1 b.cons=vI b.name o2 g (b.cons.drop k)/\MapRel (RVa RMaker d) j g)) (b.cons.length - 0) ⟨0,false,m1,l1,rfl,⟨J.pk,N⟩,⟨rfl,r1⟩⟩ ?_
 clear N J
 rintro mm a w ⟨k,o2,j,g,n,⟨J,N⟩,S⟩ H4 z0
 replace N:=N.nf
 obtain ⟨S,p⟩:=S
 by_cases R1:k < b.cons.length
 refine go fun a J=>?_
 obtain ⟨s5,rfl,A,N0,I3,b4,T3,H0⟩:=V0.el s0 R1
 obtain ⟨z5,rfl,O2⟩:=id H0
 obtain ⟨Z1,J1,rfl,i4,r4⟩:=O2.fm
 refine Alc fun P4 w N a J=>?_
 refine Sto 0 fun w N a J=>?_
 refine Reg [1,1,1,2,0,1,1,1,1,1,2,1,2,1,2,2,1,0,1,1] [0,1,2,3,4,6,7] fun w N a J=>?_
 refine go fun a J=>?_
 cases o2
 refine go fun a J=>?_
 replace N:=N.dl [0]
 refine z0 _ _ _ (by subst n;omega) ⟨(k+1),(false),(j),(g),rfl,⟨J.pk,N⟩,?_⟩
 refine ⟨?_,p⟩
 rw [S,zA N0];simp [vI, *]
 refine zZ call178 (fun v2 w N a J=>?_) (fun v2 w N a J=>?_) (c:=nD G N)
 refine dG fun a J=>?_
 replace N:=N.pl 5
 refine zZ call191 (fun w2 w N a J=>?_) (fun w2 w N a J=>?_) (c:=mC (m:=j) (l:=g) (x:=(⟨b.name,A⟩:Maker)) p (show RMaker d _ (⟨b.name,A⟩:Maker) from ⟨_,rfl,H0⟩) N)
 replace N:=N.nf
 obtain ⟨z1,f⟩:∃Y,Y=(kA j A.name (.agg #[.string b.name,.string A.name,.slice Z1 A.fields.length J1])):=⟨_,rfl⟩
 have n3:MapRel (RVa RMaker d) z1 (jH g A.name (⟨b.name,A⟩:Maker)):=by rw [f];exact (MapRel.once p ⟨_,rfl,(show RMaker d _ (⟨b.name,A⟩:Maker) from ⟨_,rfl,H0⟩)⟩)
 rw [<- f] at N
 clear f
 refine go fun a J=>?_
 replace N:=N.ar [1] [6,6,2,6,6,6,6]
 refine z0 _ _ _ (by subst n;omega) ⟨(k+1),(true),(z1),((jH g A.name (⟨b.name,A⟩:Maker))),rfl,⟨J.pk,N⟩,?_⟩
 refine ⟨?_,n3⟩
 rw [S,zA N0];simp [vI, *]
 replace N:=N.nf
 obtain ⟨A1,f⟩:∃Y,Y=(kA j A.name (.agg #[.string b.name,.string A.name,.slice Z1 A.fields.length J1])):=⟨_,rfl⟩
 have o3:MapRel (RVa RMaker d) A1 (jH g A.name (⟨b.name,A⟩:Maker)):=by rw [f];exact (MapRel.once p ⟨_,rfl,(show RMaker d _ (⟨b.name,A⟩:Maker) from ⟨_,rfl,H0⟩)⟩)
 rw [<- f] at N
 clear f
 refine go fun a J=>?_
 replace N:=N.ar [1] [6,6,2,6,6,6,6]
 refine z0 _ _ _ (by subst n;omega) ⟨(k+1),(false),(A1),((jH g A.name (⟨b.name,A⟩:Maker))),rfl,⟨J.pk,N⟩,?_⟩
 refine ⟨?_,o3⟩
 rw [S,zA N0];simp [vI, *]
 refine go fun a J=>?_
 replace N:=N.dl [0]
 refine z0 _ _ _ (by subst n;omega) ⟨(k+1),(false),(j),(g),rfl,⟨J.pk,N⟩,?_⟩
 refine ⟨?_,p⟩
 rw [S,zA N0];simp [vI, *]
 refine go fun a J=>?_
 replace N:=N.dl [0]
 refine q0 _ _ _ (by subst n;omega) ⟨(i+1),(o2),(m0),(l0),(j),(g),rfl,⟨J.pk,N⟩,?_⟩
 refine ⟨?_,r0,p⟩
 rw [zB R1] at S
 rw [i0,zA t0,sA]
 simp only [vI] at S
 have Z:cB true l0 b=false:=by simp [cB,yH, *]
 have a0:mJ true l0 b=l0:=by simp [mJ,yH, *]
 rw [Z,a0,S]
 refine go fun a J=>?_
 have B2:=i0
 rw [zB R2] at B2
 simp only [tS] at B2
 refine go fun a J=>?_
 refine zU (J.ks [1,4,87,88]) N (fun R mm a w=>∃(i:Nat) (oF:Bool) (m2:List (Bs×Value)) (l2:List (Bs×Fun)),mm=c.funs.length - i/\R d [(5,.bool oF),(89,.int .i64 ((i:Nat):Int))] [(2,.mp x3 m2)] a w/\(tT o [] c.funs=tT oF l2 (c.funs.drop i)/\MapRel (RVa RFun d) m2 l2)) (c.funs.length - 0) ⟨0,o,[],[],rfl,⟨J.pk,N⟩,⟨rfl,MapRel.nil⟩⟩ ?_
 clear N J
 rintro mm a w ⟨i,oF,m2,l2,n,⟨J,N⟩,f0⟩ I4 A0
 replace N:=N.nf
 obtain ⟨f0,r2⟩:=f0
 by_cases S1:i < c.funs.length
 refine go fun a J=>?_
 obtain ⟨t5,rfl,r,O0,J3,c4,U3,I0⟩:=h8.el V2 S1
 obtain ⟨A5,Q4,rfl,P2,Q2⟩:=id I0
 obtain ⟨a2,K1,rfl,j4,s4⟩:=P2.fm
 obtain ⟨b2,L1,c2,M1,rfl,W3,Y4,Z4,k4,t4,l4,u4⟩:=REx.fm Q2
 refine Alc fun R4 w N a J=>?_
 refine Sto 0 fun w N a J=>?_
 refine Reg [1,1,1,2,0,1,1,1,1,1,2,1,2,2,0,1,1] [0,1,2,4,5,6] fun w N a J=>?_
 refine go fun a J=>?_
 cases oF
 refine go fun a J=>?_
 replace N:=N.dl [0]
 refine A0 _ _ _ (by subst n;omega) ⟨(i+1),(false),(m2),(l2),rfl,⟨J.pk,N⟩,?_⟩
 refine ⟨?_,r2⟩
 rw [f0,zA O0];simp [tT, *]
 refine zZ call138 (fun x2 w N a J=>?_) (fun x2 w N a J=>?_) (c:=uH G N)
 replace N:=N.pl 3
 refine zZ call192 (fun y2 w N a J=>?_) (fun y2 w N a J=>?_) (c:=j0p (m:=m2) (l:=l2) (x:=r) r2 I0 N)
 replace N:=N.nf
 obtain ⟨B1,f⟩:∃Y,Y=(kA m2 r.name (.agg #[.string r.name,.slice a2 r.params.length K1,.string r.result,.int .i64 (r.body.kind),.int .i64 (r.body.num),.string r.body.name,.slice b2 r.body.args.length L1,.slice c2 r.body.arms.length M1])):=⟨_,rfl⟩
 have p3:MapRel (RVa RFun d) B1 (jH l2 r.name r):=by rw [f];exact (MapRel.once r2 ⟨_,rfl,I0⟩)
 rw [<- f] at N
 clear f
 refine go fun a J=>?_
 replace N:=N.ar [1] [5,5,5,3,5,5]
 refine A0 _ _ _ (by subst n;omega) ⟨(i+1),(true),(B1),((jH l2 r.name r)),rfl,⟨J.pk,N⟩,?_⟩
 refine ⟨?_,p3⟩
 rw [f0,zA O0];simp [tT, *]
 replace N:=N.nf
 obtain ⟨C1,f⟩:∃Y,Y=(kA m2 r.name (.agg #[.string r.name,.slice a2 r.params.length K1,.string r.result,.int .i64 (r.body.kind),.int .i64 (r.body.num),.string r.body.name,.slice b2 r.body.args.length L1,.slice c2 r.body.arms.length M1])):=⟨_,rfl⟩
 have q3:MapRel (RVa RFun d) C1 (jH l2 r.name r):=by rw [f];exact (MapRel.once r2 ⟨_,rfl,I0⟩)
 rw [<- f] at N
 clear f
 refine go fun a J=>?_
 replace N:=N.ar [1] [5,5,5,3,5,5]
 refine A0 _ _ _ (by subst n;omega) ⟨(i+1),(false),(C1),((jH l2 r.name r)),rfl,⟨J.pk,N⟩,?_⟩
 refine ⟨?_,q3⟩
 rw [f0,zA O0];simp [tT, *]
 refine go fun a J=>?_
 replace N:=N.dl [0]
 refine A0 _ _ _ (by subst n;omega) ⟨(i+1),(false),(m2),(l2),rfl,⟨J.pk,N⟩,?_⟩
 refine ⟨?_,r2⟩
 rw [f0,zA O0];simp [tT, *]
 refine go fun a J=>?_
 have C2:=f0
 rw [zB S1] at C2
 simp only [tT] at C2
 refine go fun a J=>?_
 refine zU (J.ks [4,111,112]) N (fun R mm a w=>∃(i:Nat) (oI:Bool) (m3:List (Bs×Value)) (l3:List (Bs×Bs)),mm=c.inputs.length - i/\R d [(5,.bool oI),(113,.int .i64 ((i:Nat):Int))] [(1,.mp y3 m3)] a w/\(tU oF [] c.inputs=tU oI l3 (c.inputs.drop i)/\MapRel RVs m3 l3)) (c.inputs.length - 0) ⟨0,oF,[],[],rfl,⟨J.pk,N⟩,⟨rfl,MapRel.nil⟩⟩ ?_
 clear N J
 rintro mm a w ⟨i,oI,m3,l3,n,⟨J,N⟩,T⟩ J4 B0
 replace N:=N.nf
 obtain ⟨T,r3⟩:=T
 by_cases T1:i < c.inputs.length
 refine go fun a J=>?_
 obtain ⟨u5,rfl,H,P0,K3,d4,V3,E2⟩:=h7.el U2 T1
 obtain rfl:=id E2
 refine Alc fun S4 w N a J=>?_
 refine Sto 0 fun w N a J=>?_
 refine Reg [1,1,1,2,0,1,1,1,1,1,2,1,2,1,2,0,1,1] [0,1,3,4,5,6] fun w N a J=>?_
 refine go fun a J=>?_
 cases oI
 refine go fun a J=>?_
 replace N:=N.dl [0]
 refine B0 _ _ _ (by subst n;omega) ⟨(i+1),(false),(m3),(l3),rfl,⟨J.pk,N⟩,?_⟩
 refine ⟨?_,r3⟩
 rw [T,zA P0];simp [tU, *]
 refine zZ call138 (fun z2 w N a J=>?_) (fun z2 w N a J=>?_) (c:=uH G N)
 replace N:=N.pl 2
 refine zZ call193 (fun A2 w N a J=>?_) (fun A2 w N a J=>?_) (c:=j4y (m:=m3) (l:=l3) (x:=H.type) r3 N)
 replace N:=N.nf
 obtain ⟨D1,f⟩:∃Y,Y=(kA m3 H.name (.string H.type)):=⟨_,rfl⟩
 have t3:MapRel RVs D1 (jH l3 H.name H.type):=by rw [f];exact (MapRel.once r3 rfl)
 rw [<- f] at N
 clear f
 refine go fun a J=>?_
 replace N:=N.ar [1] [5,5,5,5,4,5]
 refine B0 _ _ _ (by subst n;omega) ⟨(i+1),(true),(D1),((jH l3 H.name H.type)),rfl,⟨J.pk,N⟩,?_⟩
 refine ⟨?_,t3⟩
 rw [T,zA P0];simp [tU, *]
 replace N:=N.nf
 obtain ⟨E1,f⟩:∃Y,Y=(kA m3 H.name (.string H.type)):=⟨_,rfl⟩
 have u3:MapRel RVs E1 (jH l3 H.name H.type):=by rw [f];exact (MapRel.once r3 rfl)
 rw [<- f] at N
 clear f
 refine go fun a J=>?_
 replace N:=N.ar [1] [5,5,5,5,4,5]
 refine B0 _ _ _ (by subst n;omega) ⟨(i+1),(false),(E1),((jH l3 H.name H.type)),rfl,⟨J.pk,N⟩,?_⟩
 refine ⟨?_,u3⟩
 rw [T,zA P0];simp [tU, *]
 refine go fun a J=>?_
 replace N:=N.dl [0]
 refine B0 _ _ _ (by subst n;omega) ⟨(i+1),(false),(m3),(l3),rfl,⟨J.pk,N⟩,?_⟩
 refine ⟨?_,r3⟩
 rw [T,zA P0];simp [tU, *]
 refine go fun a J=>?_
 have B:=N
 clear N
 obtain ⟨z4,h0,N,C⟩:=B.freezeMap (i:=4) rfl
 clear B
 replace e0:=e0.mono h0
 replace G:=G.mono h0
 replace D:=D.up h0
 replace r0:=r0.up h0
 replace r1:=r1.up h0
 replace r2:=r2.up h0
 replace N:=N.nf
 have B:=N
 clear N
 obtain ⟨A4,b0,N,U⟩:=B.freezeMap (i:=3) rfl
 clear B
 replace e0:=e0.mono b0
 replace G:=G.mono b0
 replace D:=D.up b0
 replace r0:=r0.up b0
 replace r1:=r1.up b0
 replace r2:=r2.up b0
 replace C:=C.mono b0
 replace N:=N.nf
 have B:=N
 clear N
 obtain ⟨B4,W,N,k0⟩:=B.freezeMap (i:=2) rfl
 clear B
 replace e0:=e0.mono W
 replace G:=G.mono W
 replace D:=D.up W
 replace r0:=r0.up W
 replace r1:=r1.up W
 replace r2:=r2.up W
 replace C:=C.mono W
 replace U:=U.mono W
 replace N:=N.nf
 have B:=N
 clear N
 obtain ⟨C4,F,N,C0⟩:=B.freezeMap (i:=1) rfl
 clear B
 replace e0:=e0.mono F
 replace G:=G.mono F
 replace D:=D.up F
 replace r0:=r0.up F
 replace r1:=r1.up F
 replace r2:=r2.up F
 replace C:=C.mono F
 replace U:=U.mono F
 replace k0:=k0.mono F
 replace N:=N.nf
 have B:=N
 clear N
 obtain ⟨e1,E,N,f1⟩:=B.freezeBlk (i:=0) rfl
 clear B
 replace e0:=e0.mono E
 replace G:=G.mono E
 replace D:=D.up E
 replace r0:=r0.up E
 replace r1:=r1.up E
 replace r2:=r2.up E
 replace C:=C.mono E
 replace U:=U.mono E
 replace k0:=k0.mono E
 replace C0:=C0.mono E
 replace N:=N.nf
 have hT:RTableX e1 ⟨z3,0,none⟩ ⟨c,l0,l1,l2,l3⟩ _:=⟨⟨[.slice p9 c.datas.length A3,.slice w4 c.inputs.length B3,.slice x4 c.funs.length C3,.slice q4 c.outputs.length D3],_,_,_,_,_,_,_,_,f1,rfl,e0,C,r0,U,r1,k0,r2,C0,r3⟩⟩
 refine xG ?_
 replace N:=N.dl [0]
 rw [zB T1] at T
 simp only [tU] at T
 obtain ⟨L3,M3⟩:=x9k B2 C2 T
 rw [L3,M3]
 exact ⟨(e1,_),rfl,⟨((((((o0).trans p0).trans h0).trans b0).trans W).trans F).trans E,hT⟩,N⟩
theorem x2u {V:Fz} {K:List Res} {w:World} {pt:Addr} {T:Table} {s:Bs} {b:Nat}  (rT:RTable V pt T) (N:Mem V (.blk b (ob [.pointer (some pt)] 89)::K) w) :
  Calls prog 155 #[.string s,.pointer (some ⟨b,0,none⟩)] w (fun ee w'=>ee=.returned (.bool ((!kQ T s)))/\Mem V (.blk b (ob [.pointer (some pt)] 89)::K) w'):=by
 refine zK func155 ntmps155 fun Q hQ a J=>?_
 refine zO call80 (fun w N a J=>?_) (c:=z9h rT N)
 refine zF ?_
 exact zM N (by simp [*])
theorem x2v {V:Fz} {K:List Res} {w:World} {pz:Option Addr} {cz:Nat} {ds:List Data} {e f g:Value} {d0:List Value} {p:Param} {b:Nat} (d:RParam V d0 p) (rd:SliceOf RData V 2 (.slice pz ds.length cz) ds) (N:Mem V (.blk b (ob [.slice pz ds.length cz,e,f,g] 27)::K) w) :
  Calls prog 157 #[.agg d0.toArray,.pointer (some ⟨b,0,none⟩)] w (fun ee w'=>ee=.returned (.bool ((!jM ds p.type)))/\Mem V (.blk b (ob [.slice pz ds.length cz,e,f,g] 27)::K) w'):=by
 obtain rfl:=id d
 refine zK func157 ntmps157 fun Q hQ a J=>?_
 refine Bx fun h w N a J=>?_
 refine zO call114 (fun w N a J=>?_) (c:=z6r rd N)
 refine zF ?_
 replace N:=N.dl [0]
 exact zM N (by simp [*])
theorem x2w {V:Fz} {R K:List Res} {w:World} {d0:List Value} {c:Core} {v:Value} (T1:RCoreX V d0 c v) (h2:Thaw R V v c.outputs) (M:vO c=false) (G:Glob V) (N:Mem V (R++K) w) :
  Calls prog 99 #[.agg d0.toArray] w (fun ee w'=>∃y:Fz×Addr,ee=.returned (.tuple #[.pointer (some y.2),.bool (qX c)])/\(V.Le y.1/\RTableX y.1 y.2 (zE c) v)/\Mem y.1 (R++K) w'):=by
 obtain ⟨s1,s2,s3,q4,P0,rfl,rfl,h6,h7,h8⟩:=id T1
 obtain ⟨p9,M0,rfl,k3,G1⟩:=h6.fm
 obtain ⟨h1,N0,rfl,l3,r3⟩:=h7.fm
 obtain ⟨M1,O0,rfl,m3,H1⟩:=h8.fm
 refine zK func99 ntmps99 fun Q hQ a J=>?_
 refine Bx fun t0 w N a J=>?_
 refine yP call153 (fun Q2 w D1 N a J=>?_) (c:=j6j T1 M G N)
 obtain ⟨j,x0⟩:=Q2
 obtain ⟨d,h⟩:=D1
 simp only at d h N J
 replace h6:=h6.up d
 replace h7:=h7.up d
 replace h8:=h8.up d
 replace G:=G.mono d
 replace N:=N.nf
 obtain ⟨t,X,J0,D,f⟩:=h2 j _ _ d (N.perm List.perm_middle.symm)
 have N:=J0
 clear J0
 replace h6:=h6.up X
 replace h7:=h7.up X
 replace h8:=h8.up X
 replace G:=G.mono X
 replace N:=N.nf
 obtain ⟨z2,I1⟩:=D.formO (by decide)
 have C:RTable t x0 (zE c):=(h.mono X).full D
 obtain ⟨b3,Y3,Z3,a4,b4,Q3,R3,R0,S3,o0,g2,p0,x3,A3,y3,B3,h0,i0,z3,C3⟩:=C.ex
 obtain ⟨c4,O3,d4,c66,e4,c72,f4,P3,rfl,T3,U3,V3,W3,n3,t3,o3,u3,p3,v3,q3,w3⟩:=RCore.fm p0
 refine Alc fun u0 w N a J=>?_
 refine Sto 0 fun w N a J=>?_
 refine go fun a J=>?_
 generalize H0:(!(wI c))=p1 at J
 cases p1
 by_cases B1:c.outputs.length=0
 refine xG ?_
 replace N:=N.dl [1,0]
 have hr_:qX c=false:=by
  have Y:c.outputs=[]:=List.eq_nil_of_length_eq_zero B1
  simp [qX,Y]
 rw [hr_]
 exact ⟨(j,_),rfl,⟨d,h⟩,f _ _ (N.le (Fz.Le.refl _))⟩
 have G0:wI c=true:=by simpa using H0
 have b2:c.outputs≠[]:=by intro Y;simp [Y] at B1
 refine go fun a J=>?_
 refine zU (J.ks [1,4,36,37]) N (fun R mm a w=>∃(i:Nat),mm=c.datas.length - i/\R t [(38,.int .i64 ((i:Nat):Int))] [] a w/\(c.datas.all (nZ (zE c))=(c.datas.drop i).all (nZ (zE c)))) (c.datas.length - 0) ⟨0,rfl,⟨J.pk,N⟩,rfl⟩ ?_
 clear N J
 rintro mm a w ⟨i,P,⟨J,N⟩,m0⟩ N3 F1
 by_cases C1:i < c.datas.length
 refine go fun a J=>?_
 obtain ⟨N2,rfl,f0,K0,V1,k2,c2,b1⟩:=h6.el G1 C1
 obtain ⟨I3,rfl,z0⟩:=id b1
 obtain ⟨D3,q1,rfl,p2,Z0⟩:=z0.fm
 refine Alc fun l1 w N a J=>?_
 refine Sto 0 fun w N a J=>?_
 refine go fun a J=>?_
 refine zU (J.ks [1,4,36,37,38,43,44]) N (fun R mm a w=>∃(k:Nat),mm=f0.cons.length - k/\R t [(45,.int .i64 ((k:Nat):Int))] [] a w/\(nZ (zE c) f0=(f0.cons.drop k).all (fun x=>x.fields.all fun s=>kQ (zE c) s))) (f0.cons.length - 0) ⟨0,rfl,⟨J.pk,N⟩,rfl⟩ ?_
 clear N J
 rintro mm a w ⟨k,P,⟨J,N⟩,c0⟩ R2 V0
 by_cases A0:k < f0.cons.length
 refine go fun a J=>?_
 obtain ⟨R1,rfl,L0,r0,W1,l2,d2,c1⟩:=z0.el Z0 A0
 obtain ⟨J3,rfl,B0⟩:=id c1
 obtain ⟨J1,r1,rfl,q2,A2⟩:=B0.fm
 refine Alc fun m1 w N a J=>?_
 refine Sto 0 fun w N a J=>?_
 replace N:=N.pl 2
 refine zZ call154 (fun Z w N a J=>?_) (fun Z w N a J=>?_) (c:=y2q (V:=t) (K:=.blk u0 (ob [.pointer (some x0)] 89)::.blk m1 (ob [.string L0.name,.slice J1 L0.fields.length r1] 135)::.blk l1 (ob [.string f0.name,.slice (some R1) f0.cons.length q1] 133)::.blk t0 (ob [.slice (some N2) c.datas.length M0,.slice h1 c.inputs.length N0,.slice M1 c.funs.length O0,.slice q4 c.outputs.length P0] 27)::K) (p:=fun s=> !kQ (zE c) s) (fs:=[]) (cs:=[.pointer (some ⟨u0,0,none⟩)]) B0 call155 (fun x c w hx hc N=>x2u C N) N)
 refine xG ?_
 replace N:=N.dl [3,2,1,0]
 have hr_:qX c=false:=by
  have m:c.datas.all (nZ (zE c))=false:=by
   rw [m0,mT K0,c0,mT r0]
   simp only [y0g Z,Bool.false_and]
  simp [qX,m]
 rw [hr_]
 exact ⟨(j,_),rfl,⟨d,h⟩,f _ _ (N.le (Fz.Le.refl _))⟩
 refine go fun a J=>?_
 replace N:=N.ar [1] [2,1,2]
 refine V0 _ _ _ (by subst P;omega) ⟨(k+1),rfl,⟨J.pk,N⟩,?_⟩
 rw [c0,mT r0];simp only [y0f Z,Bool.true_and]
 refine go fun a J=>?_
 replace N:=N.dl [0]
 refine F1 _ _ _ (by subst P;omega) ⟨(i+1),rfl,⟨J.pk,N⟩,?_⟩
 rw [m0,mT K0];have w0:=c0;rw [q3m A0] at w0;rw [w0];rfl
 refine go fun a J=>?_
 have a2:c.datas.all (nZ (zE c))=true:=by rw [m0,q3m C1]
 replace N:=N.pl 1
 refine zZ call156 (fun a0 w N a J=>?_) (fun a0 w N a J=>?_) (c:=y7w (V:=t) (K:=.blk t0 (ob [.slice p9 c.datas.length M0,.slice h1 c.inputs.length N0,.slice M1 c.funs.length O0,.slice q4 c.outputs.length P0] 27)::.blk u0 (ob [.pointer (some x0)] 89)::K) (p:=fun p=> !jM c.datas p.type) (fs:=[]) (cs:=[.pointer (some ⟨t0,0,none⟩)]) h7 call157 (fun x c w hx hc N=>x2v hc h6 N) N)
 refine xG ?_
 replace N:=N.dl [1,0]
 have hr_:qX c=false:=by
  have m:=y0g a0
  simp [qX,m]
 rw [hr_]
 exact ⟨(j,_),rfl,⟨d,h⟩,f _ _ (N.le (Fz.Le.refl _))⟩
 have E1:c.inputs.all (fun p=>jM c.datas p.type)=true:=y0f a0
 refine go fun a J=>?_
 refine zU (J.ks [1,4,62,63]) N (fun R mm a w=>∃(i:Nat),mm=c.funs.length - i/\R t [(64,.int .i64 ((i:Nat):Int))] [] a w/\(c.funs.all (pI (zE c))=(c.funs.drop i).all (pI (zE c)))) (c.funs.length - 0) ⟨0,rfl,⟨J.pk,N⟩,rfl⟩ ?_
 clear N J
 rintro mm a w ⟨i,P,⟨J,N⟩,z⟩ S2 W0
 by_cases C0:i < c.funs.length
 refine go fun a J=>?_
 obtain ⟨S1,rfl,b,r,X1,m2,n0,e0⟩:=h8.el H1 C0
 obtain ⟨K3,V2,rfl,D0,U⟩:=id e0
 obtain ⟨K1,t1,rfl,r2,a1⟩:=D0.fm
 obtain ⟨L1,u1,N1,c175,rfl,i2,d3,e3,t2,B2,u2,C2⟩:=REx.fm U
 refine Alc fun n1 w N a J=>?_
 refine Sto 0 fun w N a J=>?_
 refine go fun a J=>?_
 replace N:=N.nilRow 9 1
 replace N:=N.nf
 refine MkM fun y0 w N a J=>?_
 refine go fun a J=>?_
 replace N:=N.nf
 refine go fun a J=>?_
 refine zU (J.ks [1,4,11,13,62,63,64,70,71]) N (fun R mm a w=>∃(k:Nat) (u:Value) (nl:List Bs) (sc:Scope),mm=b.params.length - k/\R t [(12,u),(72,.int .i64 ((k:Nat):Int))] [(0,.mp y0 (xN sc)),(1,.gs (u) 9 1 (strs nl))] a w/\(b.params.all (fun p=>kQ (zE c) p.type)=(b.params.drop k).all (fun p=>kQ (zE c) p.type)/\b.params.map Param.name=nl++(b.params.drop k).map Param.name/\sQ b.params=(b.params.drop k).foldl (fun s p=>pD s p.name p.type) sc)) (b.params.length - 0) ⟨0,.slice none 0 0,[],[],rfl,⟨J.pk,N⟩,⟨rfl,rfl,rfl⟩⟩ ?_
 clear N J
 rintro mm a w ⟨k,u,nl,sc,P,⟨J,N⟩,E⟩ T2 X0
 replace N:=N.nf
 by_cases E0:k < b.params.length
 refine go fun a J=>?_
 obtain ⟨G3,rfl,s0,S,Y1,n2,e2,d1⟩:=D0.el a1 E0
 obtain rfl:=id d1
 refine Alc fun W2 w N a J=>?_
 refine Sto 0 fun w N a J=>?_
 refine zZ call80 (fun b0 w N a J=>?_) (fun b0 w N a J=>?_) (c:=z9h C N)
 refine qF fun M3 w N a J=>?_
 refine qQ 3 wT (fun U1 w N a J=>?_) (hb:=by have I2:=congrArg List.length (E).2.1;have h_:=(z2m M (mgQ r)).1;simp only [List.length_map,laQ,yG,lcQ,lnQ] at I2 ⊢;omega)
 first | rw [jS] at N | rw [<- yW] at N
 refine z5z 2 runUnderlying157 runUnderlying9 fun w N a J=>?_
 rw [z3b] at N
 refine go fun a J=>?_
 replace N:=N.dl [1,0]
 refine X0 _ _ _ (by subst P;omega) ⟨(k+1),(U1),(nl++[s0.name]),((pD sc s0.name s0.type)),rfl,⟨J.pk,N⟩,?_⟩
 obtain ⟨j0,k0,l0⟩:=E
 refine ⟨?_,?_,?_⟩
 rw [j0,mT S,b0];rfl
 rw [k0,zA S];simp
 rw [l0,zA S];rfl
 refine xG ?_
 replace N:=N.dl [5,4,3,2,1,0]
 have hr_:qX c=false:=by
  obtain ⟨j0,_,_⟩:=E
  have Y:pI (zE c) b=false:=by
   have y1:b.params.all (fun p=>kQ (zE c) p.type)=false:=by rw [j0,mT S];simp only [b0,Bool.false_and]
   simp only [pI,y1,Bool.false_and]
  have m:c.funs.all (pI (zE c))=false:=by rw [z,mT r,Y];rfl
  simp [qX,m]
 rw [hr_]
 exact ⟨(j,_),rfl,⟨d,h⟩,f _ _ (N.le (Fz.Le.refl _))⟩
 refine go fun a J=>?_
 refine yE [2,1,2,0,1,1,1,2,1,0,0,1,1,1,2,1,2,1,0,1,2,1,1] (.q 0 (.q 1 (.q 2 (.e 3 (.q 4 (.q 5 (.q 6 (.q 7 (.q 8 (.e 9 (.e 10 (.q 11 (.q 12 (.q 13 (.q 14 (.q 15 (.q 16 (.q 17 (.q 19 (.q 20 (.e 18 (.q 21 (.q 22 (.done)))))))))))))))))))))))) [2,3,4] J N fun w N=>?_
 obtain ⟨j0,k0,l0⟩:=E
 rw [zB E0] at j0 k0 l0
 simp only [List.map_nil,List.append_nil,List.foldl_nil,List.all_nil] at j0 k0 l0
 replace N:Mem t (.mp y0 (xN (sQ b.params))::.gs (u) 9 1 (strs (b.params.map Param.name))::.blk n1 (ob [.string b.name,.slice K1 b.params.length t1,.string b.result,.int .i64 (b.body.kind),.int .i64 (b.body.num),.string b.body.name,.slice L1 b.body.args.length u1,.slice N1 b.body.arms.length c175] 68)::.blk t0 (ob [.slice p9 c.datas.length M0,.slice h1 c.inputs.length N0,.slice (some S1) c.funs.length O0,.slice q4 c.outputs.length P0] 27)::.blk u0 (ob [.pointer (some x0)] 89)::K) w:=by rw [k0,l0];exact N
 have W:=N
 clear N
 subst k0
 subst l0
 have N:=W
 clear W
 refine zZ call80 (fun T0 w N a J=>?_) (fun T0 w N a J=>?_) (c:=z9h C N)
 refine go fun a J=>?_
 replace N:=N.pl 1
 refine d_eg J rfl rfl rfl rfl rfl (pA J rfl call85 (j2z (l:=(b.params.map Param.name)) (by have h_:=z2m M (mgQ r);simp only [List.length_map];omega) U N) fun v210 w N=>⟨fun _=>N.sn (Fz.Le.refl _),fun a J=>?_⟩)
 replace N:=N.nf
 have I0:=N
 clear N
 obtain ⟨i1,g,N,q0⟩:=I0.freezeRow (i:=0) rfl
 clear I0
 replace G:=G.mono g
 replace D:=D.up g
 replace C:=C.mono g
 replace o0:=o0.mono g
 replace h0:=h0.mono g
 replace i0:=i0.up g
 replace n0:=n0.mono g
 replace e0:=e0.up g
 replace U:=U.up g
 replace N:=N.nf
 have g0:SliceOf RStr i1 1 _ (((b.params.map Param.name)++zP b.body)):=SliceOf.strs.2 q0
 obtain ⟨E3,a3,K2,v2,D2⟩:=g0.form (by decide)
 have W:=N
 clear N
 subst K2
 have N:=W
 clear W
 refine zZ call84 (fun U0 w N a J=>?_) (fun U0 w N a J=>?_) (c:=x4i g0 G N)
 refine zO call86 (fun w N a J=>?_) (c:=x9q (z7r M G0) C U N)
 by_cases f3:(zG (zE c) b.body (sQ b.params)).1=b.result
 refine go fun a J=>?_
 replace N:=N.le (g)
 replace N:=N.dl [1,0]
 refine W0 _ _ _ (by subst P;omega) ⟨(i+1),rfl,⟨J.pk,N⟩,?_⟩
 rw [z,mT r];simp [pI, *]
 refine xG ?_
 replace N:=N.dl [3,2,1,0]
 have hr_:qX c=false:=by
  have Y:pI (zE c) b=false:=by simp [pI, *]
  have m:c.funs.all (pI (zE c))=false:=by rw [z,mT r,Y];rfl
  simp [qX,m]
 rw [hr_]
 exact ⟨(j,_),rfl,⟨d,h⟩,f _ _ (N.le (g))⟩
 refine xG ?_
 replace N:=N.dl [3,2,1,0]
 have hr_:qX c=false:=by
  have Y:pI (zE c) b=false:=by simp [pI, *]
  have m:c.funs.all (pI (zE c))=false:=by rw [z,mT r,Y];rfl
  simp [qX,m]
 rw [hr_]
 exact ⟨(j,_),rfl,⟨d,h⟩,f _ _ (N.le (g))⟩
 refine xG ?_
 replace N:=N.dl [4,3,2,1,0]
 have hr_:qX c=false:=by
  have Y:pI (zE c) b=false:=by simp [pI, *]
  have m:c.funs.all (pI (zE c))=false:=by rw [z,mT r,Y];rfl
  simp [qX,m]
 rw [hr_]
 exact ⟨(j,_),rfl,⟨d,h⟩,f _ _ (N.le (Fz.Le.refl _))⟩
 have w0:c.funs.all (pI (zE c))=true:=by rw [z,q3m C0]
 refine MkM fun o1 w N a J=>?_
 refine go fun a J=>?_
 refine zU (J.ks [4,16,120,121]) N (fun R mm a w=>∃(i:Nat) (ds:List Bs),mm=c.outputs.length - i/\R t [(122,.int .i64 ((i:Nat):Int))] [(0,.mp o1 (jO ds))] a w/\(wO (zE c) [] c.outputs=wO (zE c) ds (c.outputs.drop i))) (c.outputs.length - 0) ⟨0,[],rfl,⟨J.pk,N⟩,rfl⟩ ?_
 clear N J
 rintro mm a w ⟨i,ds,P,⟨J,N⟩,B⟩ U2 Y0
 replace N:=N.nf
 by_cases F0:i < c.outputs.length
 refine go fun a J=>?_
 obtain ⟨H3,rfl,A,T,Q0,o2,f2,e1⟩:=D.el I1 F0
 obtain rfl:Q0=[.string A]:=e1
 refine go fun a J=>?_
 rcases F:yY (R0) A with _ | O2
 have H:=congrArg (zN true (.agg #[.string ⟨#[]⟩,.slice none 0 0,.string ⟨#[]⟩,.int .i64 ((0:Nat):Int),.int .i64 ((0:Nat):Int),.string ⟨#[]⟩,.slice none 0 0,.slice none 0 0])) F
 refine Qq (fun a J=>?_) (o:=by exact fun J O=>Ok.cast (yB runUnderlying103 runUnderlying9 zeroValue68 J O rfl rfl h0) (show zN true (.agg #[.string ⟨#[]⟩,.slice none 0 0,.string ⟨#[]⟩,.int .i64 ((0:Nat):Int),.int .i64 ((0:Nat):Int),.string ⟨#[]⟩,.slice none 0 0,.slice none 0 0]) (yY (R0) A)=.tuple #[.agg #[.string ⟨#[]⟩,.slice none 0 0,.string ⟨#[]⟩,.int .i64 ((0:Nat):Int),.int .i64 ((0:Nat):Int),.string ⟨#[]⟩,.slice none 0 0,.slice none 0 0],.bool false] from H))
 refine Alc fun X2 w N a J=>?_
 refine Sto 0 fun w N a J=>?_
 refine xG ?_
 replace N:=N.dl [3,2,1,0]
 have hr_:qX c=false:=by
  have y1:=MapRel.none i0 F
  have m:wO (zE c) [] c.outputs=false:=by rw [B,zA T];simp [wO, *] <;> (intro Y;simp_all)
  simp [qX,m]
 rw [hr_]
 exact ⟨(j,_),rfl,⟨d,h⟩,f _ _ (N.le (Fz.Le.refl _))⟩
 obtain ⟨n,g1,Z1,rfl,f1⟩:=i0.get F
 obtain ⟨L3,Y2,rfl,z1,A1⟩:=id f1
 obtain ⟨O1,v1,rfl,w2,E2⟩:=z1.fm
 obtain ⟨P1,w1,Q1,x1,rfl,j2,g3,h3,x2,F2,y2,G2⟩:=REx.fm A1
 have H:=congrArg (zN true (.agg #[.string ⟨#[]⟩,.slice none 0 0,.string ⟨#[]⟩,.int .i64 ((0:Nat):Int),.int .i64 ((0:Nat):Int),.string ⟨#[]⟩,.slice none 0 0,.slice none 0 0])) F
 refine Qq (fun a J=>?_) (o:=by exact fun J O=>Ok.cast (yB runUnderlying103 runUnderlying9 zeroValue68 J O rfl rfl h0) (show zN true (.agg #[.string ⟨#[]⟩,.slice none 0 0,.string ⟨#[]⟩,.int .i64 ((0:Nat):Int),.int .i64 ((0:Nat):Int),.string ⟨#[]⟩,.slice none 0 0,.slice none 0 0]) (yY (R0) A)=.tuple #[.agg #[.string n.name,.slice O1 n.params.length v1,.string n.result,.int .i64 (n.body.kind),.int .i64 (n.body.num),.string n.body.name,.slice P1 n.body.args.length w1,.slice Q1 n.body.arms.length x1],.bool true] from H))
 refine Alc fun Z2 w N a J=>?_
 refine Sto 0 fun w N a J=>?_
 by_cases i3:0 < n.params.length
 refine xG ?_
 replace N:=N.dl [3,2,1,0]
 have hr_:qX c=false:=by
  have m:wO (zE c) [] c.outputs=false:=by rw [B,zA T];simp [wO, *] <;> (intro Y;simp_all)
  simp [qX,m]
 rw [hr_]
 exact ⟨(j,_),rfl,⟨d,h⟩,f _ _ (N.le (Fz.Le.refl _))⟩
 refine go fun a J=>?_
 rcases I:yY ((jO ds)) A with _ | P2
 have L:=congrArg (zN false (.bool false)) I
 refine Qq (fun a J=>?_) (o:=by exact fun J O=>Ok.cast (qP 1 runUnderlying121 runUnderlying9 zeroValue4 J O rfl rfl rfl) (show zN false (.bool false) (yY ((jO ds)) A)=.bool false from L))
 refine z5z 1 runUnderlying121 runUnderlying9 fun w N a J=>?_
 rw [<- z0v] at N
 refine go fun a J=>?_
 replace N:=N.dl [0]
 refine Y0 _ _ _ (by subst P;omega) ⟨(i+1),(ds++[A]),rfl,⟨J.pk,N⟩,?_⟩
 have H2:=z7n I
 have L2:n.params=[]:=List.eq_nil_of_length_eq_zero (by omega)
 rw [B,zA T];simp [wO,g1,L2,H2]
 obtain ⟨rfl,J2⟩:=z7o I
 have L:=congrArg (zN false (.bool false)) I
 refine Qq (fun a J=>?_) (o:=by exact fun J O=>Ok.cast (qP 1 runUnderlying121 runUnderlying9 zeroValue4 J O rfl rfl rfl) (show zN false (.bool false) (yY ((jO ds)) A)=.bool true from L))
 refine xG ?_
 replace N:=N.dl [3,2,1,0]
 have hr_:qX c=false:=by
  have m:wO (zE c) [] c.outputs=false:=by rw [B,zA T];simp [wO, *] <;> (intro Y;simp_all)
  simp [qX,m]
 rw [hr_]
 exact ⟨(j,_),rfl,⟨d,h⟩,f _ _ (N.le (Fz.Le.refl _))⟩
 refine xG ?_
 replace N:=N.dl [2,1,0]
 have hr_:qX c=true:=by
  have m:wO (zE c) [] c.outputs=true:=by rw [B,zB F0];rfl
  simp [qX,G0,b2,a2,E1,w0,m]
 rw [hr_]
 exact ⟨(j,_),rfl,⟨d,h⟩,f _ _ (N.le (Fz.Le.refl _))⟩
 refine xG ?_
 replace N:=N.dl [1,0]
 have hr_:qX c=false:=by
  have Y:wI c=false:=by simpa using H0
  simp [qX,Y]
 rw [hr_]
 exact ⟨(j,_),rfl,⟨d,h⟩,f _ _ (N.le (Fz.Le.refl _))⟩
theorem j0f {V:Fz} {R K:List Res} {w:World} {d0:List Value} {c:Core} {v:Value} (l:RCoreX V d0 c v) (B:Thaw R V v c.outputs) (G:Glob V) (N:Mem V (R++K) w) :
  Calls prog 43 #[.agg d0.toArray] w (fun ee w'=>∃y:Fz×Addr,ee=.returned (.tuple #[(if yR c=0 then .pointer (some y.2) else .pointer none),.int .i64 (yR c)])/\(V.Le y.1/\(yR c=0->RTableX y.1 y.2 (zE c) v/\vO c=false))/\Mem y.1 (R++K) w'):=by
 obtain ⟨s1,s2,s3,S,s,rfl,rfl,T,U,D⟩:=id l
 obtain ⟨P,o,rfl,E,I⟩:=T.fm
 obtain ⟨u,q,rfl,F,L⟩:=U.fm
 obtain ⟨z,r,rfl,H,M⟩:=D.fm
 refine zK func43 ntmps43 fun Q hQ a J=>?_
 refine Bx fun m w N a J=>?_
 refine zZ call96 (fun g w N a J=>?_) (fun g w N a J=>?_) (c:=q7m (V:=V) (K:=.blk m (ob [.slice P c.datas.length o,.slice u c.inputs.length q,.slice z c.funs.length r,.slice S c.outputs.length s] 27)::(R++K)) (p:=fun f=>vB 250 f.body) (fs:=[]) (cs:=[]) D call97 (fun x c w Y W N=>x7q W N) N)
 refine xG ?_
 replace N:=N.dl [0]
 have hr_:yR c=6:=by
  simp [yR,g]
 rw [hr_]
 exact ⟨(V,⟨0,0,none⟩),rfl,⟨Fz.Le.refl _,fun h_=>(by cases h_)⟩,N⟩
 have d:=g
 refine zZ call98 (fun h w N a J=>?_) (fun h w N a J=>?_) (c:=x7p l N)
 refine xG ?_
 replace N:=N.dl [0]
 have hr_:yR c=2:=by
  simp [yR, *]
 rw [hr_]
 exact ⟨(V,⟨0,0,none⟩),rfl,⟨Fz.Le.refl _,fun h_=>(by cases h_)⟩,N⟩
 have b:=h
 refine yP call99 (fun C w t N a J=>?_) (c:=x2w (K:=.blk m (ob [.slice P c.datas.length o,.slice u c.inputs.length q,.slice z c.funs.length r,.slice S c.outputs.length s] 27)::K) l B h G (N.perm List.perm_middle.symm))
 obtain ⟨k,X⟩:=C
 obtain ⟨e,i⟩:=t
 simp only at e i N J
 replace N:=N.perm List.perm_middle
 replace G:=G.mono e
 replace N:=N.nf
 refine go fun a J=>?_
 generalize j:(!(qX c))=n at J
 cases n
 refine xG ?_
 replace N:=N.dl [0]
 have hr_:yR c=0:=by
  have A:qX c=true:=by simpa using j
  simp [yR,d,b,A]
 rw [hr_]
 exact ⟨(k,_),rfl,⟨e,fun _=>⟨i,b⟩⟩,N⟩
 refine xG ?_
 replace N:=N.dl [0]
 have hr_:yR c=80:=by
  have A:qX c=false:=by simpa using j
  simp [yR,d,b,A]
 rw [hr_]
 exact ⟨(k,⟨0,0,none⟩),rfl,⟨e,fun h_=>(by cases h_)⟩,N⟩
theorem q5x {V:Fz} {K:List Res} {w:World} {d0:List Value} {c:Core} (a:RCore V d0 c) (G:Glob V) (N:Mem V K w) :
  Calls prog 43 #[.agg d0.toArray] w (fun ee w'=>∃y:Fz×Addr,ee=.returned (.tuple #[(if yR c=0 then .pointer (some y.2) else .pointer none),.int .i64 (yR c)])/\(V.Le y.1/\(yR c=0->RTable y.1 y.2 (zE c)/\vO c=false))/\Mem y.1 K w'):=by
 obtain ⟨v,i,f⟩:=a.x
 refine (j0f i (Thaw.none f) G N).mono fun ee w' h=>?_
 obtain ⟨y,h1,⟨d,e⟩,g⟩:=h
 exact ⟨y,h1,⟨d,fun b=>⟨(e b).1.full (show SliceOf RStr y.1 1 v c.outputs from f.mono RStr.mono d),(e b).2⟩⟩,g⟩
theorem q8c {V:Fz} {K:List Res} {w:World} {d0:List Value} {c:Core} (e:RCore V d0 c) (G:Glob V) (N:Mem V K w) :
  Calls prog 36 #[.agg d0.toArray] w (fun ee w'=>ee=.returned (.int .i64 (yR c))/\Mem V K w'):=by
 obtain ⟨F,c4,H,s,A,t,B,c22,rfl,D,E,u,v,y,z,k,n,l,o,m,p⟩:=RCore.fm e
 refine zK func36 ntmps36 fun Q hQ a J=>?_
 refine Bx fun r w N a J=>?_
 refine yP call43 (fun i w g N a J=>?_) (c:=q5x e G N)
 obtain ⟨q,C⟩:=i
 obtain ⟨d,f⟩:=g
 simp only at d f N J
 replace e:=e.up d
 replace G:=G.mono d
 replace N:=N.nf
 by_cases b:yR c=0
 obtain ⟨j,h⟩:=f b
 rw [if_pos b,b] at J
 refine zF ?_
 replace N:=N.le (d)
 replace N:=N.dl [0]
 exact vP N (by exact b.symm)
 rw [if_neg b] at J
 refine zF ?_
 replace N:=N.le (d)
 replace N:=N.dl [0]
 exact vP N (by rfl)
end Go.Sw
