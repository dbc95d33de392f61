import Derived.Test.YtghdfphedgcpdaaGreatDoorY06
set_option linter.unusedVariables false
set_option linter.unusedSimpArgs false
namespace Go.Sw
open Go.Proofs Go.Proofs.Tryz
set_option maxRecDepth 20000
set_option maxHeartbeats 4000000
theorem x9c {Φ:Fz} {K:List Res} {w:World} {p0:Addr} {T:Table} {d1:List Value} {e:Ex} {b:Nat} {s:Scope} (o0:RTable Φ p0 T) (z1:REx Φ d1 e) (ih:∀x:Ex,x.sz < e.sz->∀{Φ:Fz} {K:List Res} {w:World} {p:Addr} {d:List Value} {b:Nat} {s:Scope},RTable Φ p T->REx Φ d x->Mem Φ (.mp b (yW s)::K) w->Calls prog 134 #[.pointer (some p),.agg d.toArray,.map (some b)] w (fun ee w'=>ee=.returned (.string (zI T x s).1)/\Mem Φ (.mp b (yW (zI T x s).2)::K) w')) (N:Mem Φ (.mp b (yW s)::K) w) :
  Calls prog 172 #[.pointer (some p0),.agg d1.toArray,.map (some b)] w (fun ee w'=>ee=.returned (.string ((xK T e s).1))/\Mem Φ (.mp b (yW (xK T e s).2)::K) w'):=by
 obtain ⟨U2,m1,m2,m3,m4,d5,d6,d7,d8,S1,T1,k0,q0,e0,L3,O3,M3,P3,N3,Q3⟩:=o0.ex
 obtain ⟨E4,c24,F4,s4,G4,t4,H4,c42,rfl,y4,z4,A4,B4,w3,F3,x3,G3,y3,H3,z3,I3⟩:=RCore.fm k0
 obtain ⟨I4,u4,J4,v4,rfl,s3,H1,t1,A3,w1,B3,A0⟩:=REx.fm z1
 refine zL func172 ntmps172 fun Q hQ a J=>?_
 refine Bx fun q4 w N a J=>?_
 refine yH call185 (fun z0 w N a J=>?_) (fun z0 w N a J=>?_) (c:=oX z1 N)
 refine go fun a J=>?_
 refine yI [1,1,1,2,1,1,2,1,2,1,0,2,1,1,1,0,0,1] (.q 0 (.q 1 (.q 2 (.q 3 (.q 4 (.q 5 (.q 6 (.q 7 (.q 8 (.q 9 (.e2 10 15 (.q 11 (.q 12 (.q 13 (.q 14 (.e 15 (.e 16 (.q 17 (.done)))))))) (.e 10 (.q 11 (.q 12 (.q 13 (.q 14 (.e 16 (.q 17 (.done))))))))))))))))))) [0] J N fun w N=>?_
 have v3:=pD (n:=1) z0
 refine go fun a J=>?_
 have v1:0 < e.args.length:=by omega
 obtain ⟨M4,rfl,D,h,V2,u3,r3,n0⟩:=H1.el w1 v1
 obtain ⟨K4,c75,L4,w4,rfl,t3,C4,D4,C3,J3,D3,K3⟩:=REx.fm n0
 refine go fun a J=>?_
 refine gW ?_ ?_
 replace N:=N.pl 1
 refine zT call134 (fun w N a J=>?_) (c:=ih _ (by first | exact Ex.lt_args (mgQ h) | exact Ex.lt_arms (mgQ h)) o0 n0 N)
 rcases d0:yM (d5) ((zI T D s).1) with _ | p4
 have c0:=congrArg (zJ true (.agg #[.string ⟨#[]⟩,.slice none 0 0])) d0
 refine Qq (fun a J=>?_) (o:=by exact fun J O=>Ok.cast (qA runUnderlying113 runUnderlying9 zeroValue126 J O rfl rfl q0) (show zJ true (.agg #[.string ⟨#[]⟩,.slice none 0 0]) (yM (d5) ((zI T D s).1))=.tuple #[.agg #[.string ⟨#[]⟩,.slice none 0 0],.bool false] from c0))
 refine Alc fun r4 w N a J=>?_
 refine Sto 0 fun w N a J=>?_
 refine zD ?_
 replace N:=N.dl [2,0]
 have hr_:xK T e s=((⟨#[]⟩:Bs),(zI T D s).2):=by
  have e_:=MapRel.none e0 d0
  simp [xK,jV h,sNo, *]
 show _/\_;rw [hr_];exact ⟨rfl,N⟩
 obtain ⟨H,b0,W2,rfl,x1⟩:=e0.get d0
 obtain ⟨N4,rfl,u1⟩:=id x1
 obtain ⟨w2,B1,rfl,E3,V0⟩:=u1.fm
 have c0:=congrArg (zJ true (.agg #[.string ⟨#[]⟩,.slice none 0 0])) d0
 refine Qq (fun a J=>?_) (o:=by exact fun J O=>Ok.cast (qA runUnderlying113 runUnderlying9 zeroValue126 J O rfl rfl q0) (show zJ true (.agg #[.string ⟨#[]⟩,.slice none 0 0]) (yM (d5) ((zI T D s).1))=.tuple #[.agg #[.string H.name,.slice w2 H.cons.length B1],.bool true] from c0))
 refine Alc fun E2 w N a J=>?_
 refine Sto 0 fun w N a J=>?_
 by_cases X2:H.cons.length=e.arms.length
 refine go fun a J=>?_
 refine zU (J.ks [0,2,4,48,49]) N (fun R mm a w=>∃(i:Nat) (q:Scope) (out:Bs),mm=H.cons.length - i/\R Φ [(9,.string out),(50,.int .i64 i)] [(1,.mp b (yW q))] a w/\(splitP T e.arms H.cons true sNo ((zI T D s).2)=splitP T (e.arms.drop i) (H.cons.drop i) (decide (i=0)) out q)) (H.cons.length - 0) ⟨0,(zI T D s).2,sNo,rfl,⟨J.pk,N⟩,rfl⟩ ?_
 clear N J
 rintro mm a w ⟨i,q,out,E,⟨J,N⟩,A⟩ y2 i0
 replace N:=N.nf
 by_cases r0:i < H.cons.length
 refine go fun a J=>?_
 obtain ⟨Z3,rfl,m,F,C1,W1,I1,Z0⟩:=u1.el V0 r0
 obtain ⟨j4,rfl,s0⟩:=id Z0
 obtain ⟨R3,M2,rfl,h2,W0⟩:=s0.fm
 refine Alc fun F2 w N a J=>?_
 refine Sto 0 fun w N a J=>?_
 refine go fun a J=>?_
 have R0:i < e.arms.length:=by omega
 obtain ⟨a4,rfl,f,v,D1,X1,J1,a1⟩:=t1.el A0 R0
 obtain ⟨k4,G2,rfl,g0,t0⟩:=RArm.iff.1 a1
 obtain ⟨S3,N2,rfl,i2,l0⟩:=g0.fm
 obtain ⟨T3,O2,U3,P2,rfl,U1,Y2,Z2,j2,s2,k2,t2⟩:=REx.fm t0
 refine Alc fun H2 w N a J=>?_
 refine Sto 0 fun w N a J=>?_
 by_cases a3:f.con=m.name
 by_cases b3:f.vars.length=m.fields.length
 refine go fun a J=>?_
 refine zU (J.ks [0,2,4,9,10,11,12,48,49,50,75,76]) N (fun R mm a w=>∃(k:Nat) (q2:Scope),mm=f.vars.length - k/\R Φ [(77,.int .i64 k)] [(3,.mp b (yW q2))] a w/\(putAll q f.vars m.fields=putAll q2 (f.vars.drop k) (m.fields.drop k))) (f.vars.length - 0) ⟨0,q,rfl,⟨J.pk,N⟩,rfl⟩ ?_
 clear N J
 rintro mm a w ⟨k,q2,E,⟨J,N⟩,L⟩ z2 N0
 replace N:=N.nf
 refine go fun a J=>?_
 by_cases X:k < f.vars.length
 refine go fun a J=>?_
 obtain ⟨b4,rfl,B0,l1,H0,Y1,K1,b1⟩:=g0.el l0 X
 obtain rfl:H0=[.string B0]:=b1
 refine go fun a J=>?_
 have S0:k < m.fields.length:=by omega
 obtain ⟨c4,rfl,C0,n1,I0,Z1,L1,c1⟩:=s0.el W0 S0
 obtain rfl:I0=[.string C0]:=c1
 refine z4d 3 runUnderlying195 runUnderlying9 fun w N a J=>?_
 rw [dH] at N
 refine go fun a J=>?_
 refine N0 _ _ _ (by subst E;omega) ⟨(k+1),((jP q2 B0 C0)),rfl,⟨J.pk,N⟩,?_⟩
 rw [L,zA l1,zA n1];rfl
 replace N:=N.pl 3
 refine zT call134 (fun w N a J=>?_) (c:=ih _ (by first | exact Ex.lt_args (mgQ v) | exact Ex.lt_arms (mgQ v)) o0 t0 N)
 refine go fun a J=>?_
 refine zU (J.ks [0,2,4,9,10,15,48,49,50,96,97]) N (fun R mm a w=>∃(k3:Nat) (I:Scope),mm=f.vars.length - k3/\R Φ [(98,.int .i64 k3)] [(0,.mp b (yW I))] a w/\(gY ((zI T f.body q2).2) f.vars=gY I (f.vars.drop k3))) (f.vars.length - 0) ⟨0,(zI T f.body q2).2,rfl,⟨J.pk,N⟩,rfl⟩ ?_
 clear N J
 rintro mm a w ⟨k3,I,E,⟨J,N⟩,M⟩ A2 O0
 replace N:=N.nf
 by_cases Y:k3 < f.vars.length
 refine go fun a J=>?_
 obtain ⟨d4,rfl,D0,o1,J0,a2,M1,e1⟩:=g0.el l0 Y
 obtain rfl:J0=[.string D0]:=e1
 refine go fun a J=>?_
 refine st0 J rfl rfl (y4e 0 runUnderlying195 runUnderlying9 J N rfl rfl rfl fun w N a J=>?_)
 rw [z7f] at N
 refine go fun a J=>?_
 refine O0 _ _ _ (by subst E;omega) ⟨(k3+1),((y1k I D0)),rfl,⟨J.pk,N⟩,?_⟩
 rw [M,zA o1];rfl
 by_cases d3:(zI T f.body q2).1=(⟨#[]⟩:Bs)
 refine zD ?_
 replace N:=N.dl [4,3,2,1]
 have hr_:xK T e s=((⟨#[]⟩:Bs),I):=by
  have C:aO T f m q=((zI T f.body q2).1,I):=by
   have z:putAll q f.vars m.fields=q2:=by rw [L,zB X,vJ]
   have j:=M
   rw [zB Y] at j
   rw [aO,z,j];rfl
  have u:H.cons.length=e.arms.length:=by assumption
  rw [xK,if_pos (by assumption),jV h,b0]
  simp only
  rw [if_pos u,A,zA v,zA F,jU,if_neg (by simp [*]),C,if_pos (by simp_all [sNo] <;> omega)];rfl
 show _/\_;rw [hr_];exact ⟨rfl,N⟩
 by_cases e3:0 < i
 refine go fun a J=>?_
 by_cases f3:(zI T f.body q2).1=out
 refine go fun a J=>?_
 replace N:=N.ar [2,1] [2,1,2]
 refine i0 _ _ _ (by subst E;omega) ⟨(i+1),(I),((zI T f.body q2).1),rfl,⟨J.pk,N⟩,?_⟩
 have C:aO T f m q=((zI T f.body q2).1,I):=by
  have z:putAll q f.vars m.fields=q2:=by rw [L,zB X,vJ]
  have j:=M
  rw [zB Y] at j
  rw [aO,z,j];rfl
 rw [A,zA v,zA F,jU,if_neg (by simp [*]),C,if_neg (by simp_all [sNo] <;> omega)];simp
 refine zD ?_
 replace N:=N.dl [4,3,2,1]
 have hr_:xK T e s=((⟨#[]⟩:Bs),I):=by
  have C:aO T f m q=((zI T f.body q2).1,I):=by
   have z:putAll q f.vars m.fields=q2:=by rw [L,zB X,vJ]
   have j:=M
   rw [zB Y] at j
   rw [aO,z,j];rfl
  have u:H.cons.length=e.arms.length:=by assumption
  rw [xK,if_pos (by assumption),jV h,b0]
  simp only
  rw [if_pos u,A,zA v,zA F,jU,if_neg (by simp [*]),C,if_pos (by simp_all [sNo] <;> omega)];rfl
 show _/\_;rw [hr_];exact ⟨rfl,N⟩
 refine go fun a J=>?_
 replace N:=N.ar [2,1] [2,1,2]
 refine i0 _ _ _ (by subst E;omega) ⟨(i+1),(I),((zI T f.body q2).1),rfl,⟨J.pk,N⟩,?_⟩
 have C:aO T f m q=((zI T f.body q2).1,I):=by
  have z:putAll q f.vars m.fields=q2:=by rw [L,zB X,vJ]
  have j:=M
  rw [zB Y] at j
  rw [aO,z,j];rfl
 rw [A,zA v,zA F,jU,if_neg (by simp [*]),C,if_neg (by simp_all [sNo] <;> omega)];simp
 refine zD ?_
 replace N:=N.dl [4,2,1,0]
 have hr_:xK T e s=((⟨#[]⟩:Bs),q):=by
  have u:H.cons.length=e.arms.length:=by assumption
  rw [xK,if_pos (by assumption),jV h,b0]
  simp only
  rw [if_pos u,A,zA v,zA F,jU,if_pos (by simp [*])]
  all_goals rfl
 show _/\_;rw [hr_];exact ⟨rfl,N⟩
 refine zD ?_
 replace N:=N.dl [4,2,1,0]
 have hr_:xK T e s=((⟨#[]⟩:Bs),q):=by
  have u:H.cons.length=e.arms.length:=by assumption
  rw [xK,if_pos (by assumption),jV h,b0]
  simp only
  rw [if_pos u,A,zA v,zA F,jU,if_pos (by simp [*])]
  all_goals rfl
 show _/\_;rw [hr_];exact ⟨rfl,N⟩
 refine zD ?_
 replace N:=N.dl [2,0]
 have hr_:xK T e s=(out,q):=by
  have u:H.cons.length=e.arms.length:=by assumption
  rw [xK,if_pos (by assumption),jV h,b0]
  simp only
  rw [if_pos u,A,zB r0,zB (l:=e.arms) (by omega)];rfl
 show _/\_;rw [hr_];exact ⟨rfl,N⟩
 refine zD ?_
 replace N:=N.dl [2,0]
 have hr_:xK T e s=((⟨#[]⟩:Bs),(zI T D s).2):=by
  simp [xK,jV h,sNo, *]
 show _/\_;rw [hr_];exact ⟨rfl,N⟩
 refine Alc fun I2 w N a J=>?_
 replace N:=N.pl 2
 refine zT call134 (fun w N a J=>?_) (c:=ih _ (by first | exact Ex.lt_args (mgQ h) | exact Ex.lt_arms (mgQ h)) o0 n0 N)
 rcases V:yM (d5) ((zI T D s).1) with _ | x2
 have W:=congrArg (zJ true (.agg #[.string ⟨#[]⟩,.slice none 0 0])) V
 refine Qq (fun a J=>?_) (o:=by exact fun J O=>Ok.cast (qA runUnderlying113 runUnderlying9 zeroValue126 J O rfl rfl q0) (show zJ true (.agg #[.string ⟨#[]⟩,.slice none 0 0]) (yM (d5) ((zI T D s).1))=.tuple #[.agg #[.string ⟨#[]⟩,.slice none 0 0],.bool false] from W))
 refine Sto 1 fun w N a J=>?_
 refine zD ?_
 replace N:=N.dl [2,1]
 have hr_:xK T e s=((⟨#[]⟩:Bs),(zI T D s).2):=by
  have e_:=MapRel.none e0 V
  simp [xK,jV h,sNo, *]
 show _/\_;rw [hr_];exact ⟨rfl,N⟩
 obtain ⟨t,U,E1,rfl,f1⟩:=e0.get V
 obtain ⟨l4,rfl,u0⟩:=id f1
 obtain ⟨y1,c232,rfl,l2,X0⟩:=u0.fm
 have W:=congrArg (zJ true (.agg #[.string ⟨#[]⟩,.slice none 0 0])) V
 refine Qq (fun a J=>?_) (o:=by exact fun J O=>Ok.cast (qA runUnderlying113 runUnderlying9 zeroValue126 J O rfl rfl q0) (show zJ true (.agg #[.string ⟨#[]⟩,.slice none 0 0]) (yM (d5) ((zI T D s).1))=.tuple #[.agg #[.string t.name,.slice y1 t.cons.length c232],.bool true] from W))
 refine Sto 1 fun w N a J=>?_
 by_cases g3:t.cons.length=e.arms.length
 refine go fun a J=>?_
 refine zU (J.ks [0,2,4,48,49]) N (fun R mm a w=>∃(i:Nat) (q:Scope) (out:Bs),mm=t.cons.length - i/\R Φ [(9,.string out),(50,.int .i64 i)] [(0,.mp b (yW q))] a w/\(splitP T e.arms t.cons true sNo ((zI T D s).2)=splitP T (e.arms.drop i) (t.cons.drop i) (decide (i=0)) out q)) (t.cons.length - 0) ⟨0,(zI T D s).2,sNo,rfl,⟨J.pk,N⟩,rfl⟩ ?_
 clear N J
 rintro mm a w ⟨i,q,out,E,⟨J,N⟩,B⟩ B2 j0
 replace N:=N.nf
 by_cases w0:i < t.cons.length
 refine go fun a J=>?_
 obtain ⟨e4,rfl,r,G,F1,b2,N1,g1⟩:=u0.el X0 w0
 obtain ⟨n4,rfl,x0⟩:=id g1
 obtain ⟨V3,Q2,rfl,n2,Y0⟩:=x0.fm
 refine Alc fun J2 w N a J=>?_
 refine Sto 0 fun w N a J=>?_
 refine go fun a J=>?_
 have T0:i < e.arms.length:=by omega
 obtain ⟨f4,rfl,g,y,G1,c2,O1,h1⟩:=t1.el A0 T0
 obtain ⟨o4,K2,rfl,h0,y0⟩:=RArm.iff.1 h1
 obtain ⟨W3,R2,rfl,o2,m0⟩:=h0.fm
 obtain ⟨X3,S2,Y3,T2,rfl,V1,h3,i3,p2,u2,r2,v2⟩:=REx.fm y0
 refine Alc fun L2 w N a J=>?_
 refine Sto 0 fun w N a J=>?_
 by_cases j3:g.con=r.name
 by_cases l3:g.vars.length=r.fields.length
 refine go fun a J=>?_
 refine zU (J.ks [0,2,4,9,10,11,12,48,49,50,75,76]) N (fun R mm a w=>∃(k:Nat) (q2:Scope),mm=g.vars.length - k/\R Φ [(77,.int .i64 k)] [(2,.mp b (yW q2))] a w/\(putAll q g.vars r.fields=putAll q2 (g.vars.drop k) (r.fields.drop k))) (g.vars.length - 0) ⟨0,q,rfl,⟨J.pk,N⟩,rfl⟩ ?_
 clear N J
 rintro mm a w ⟨k,q2,E,⟨J,N⟩,P⟩ C2 P0
 replace N:=N.nf
 refine go fun a J=>?_
 by_cases Z:k < g.vars.length
 refine go fun a J=>?_
 obtain ⟨g4,rfl,E0,p1,K0,d2,P1,i1⟩:=h0.el m0 Z
 obtain rfl:K0=[.string E0]:=i1
 refine go fun a J=>?_
 have U0:k < r.fields.length:=by omega
 obtain ⟨h4,rfl,F0,q1,L0,f2,Q1,j1⟩:=x0.el Y0 U0
 obtain rfl:L0=[.string F0]:=j1
 refine z4d 2 runUnderlying195 runUnderlying9 fun w N a J=>?_
 rw [dH] at N
 refine go fun a J=>?_
 refine P0 _ _ _ (by subst E;omega) ⟨(k+1),((jP q2 E0 F0)),rfl,⟨J.pk,N⟩,?_⟩
 rw [P,zA p1,zA q1];rfl
 replace N:=N.pl 2
 refine zT call134 (fun w N a J=>?_) (c:=ih _ (by first | exact Ex.lt_args (mgQ y) | exact Ex.lt_arms (mgQ y)) o0 y0 N)
 refine go fun a J=>?_
 refine zU (J.ks [0,2,4,9,10,15,48,49,50,96,97]) N (fun R mm a w=>∃(k3:Nat) (I:Scope),mm=g.vars.length - k3/\R Φ [(98,.int .i64 k3)] [(0,.mp b (yW I))] a w/\(gY ((zI T g.body q2).2) g.vars=gY I (g.vars.drop k3))) (g.vars.length - 0) ⟨0,(zI T g.body q2).2,rfl,⟨J.pk,N⟩,rfl⟩ ?_
 clear N J
 rintro mm a w ⟨k3,I,E,⟨J,N⟩,S⟩ D2 Q0
 replace N:=N.nf
 by_cases a0:k3 < g.vars.length
 refine go fun a J=>?_
 obtain ⟨i4,rfl,G0,r1,M0,g2,R1,k1⟩:=h0.el m0 a0
 obtain rfl:M0=[.string G0]:=k1
 refine go fun a J=>?_
 refine st0 J rfl rfl (y4e 0 runUnderlying195 runUnderlying9 J N rfl rfl rfl fun w N a J=>?_)
 rw [z7f] at N
 refine go fun a J=>?_
 refine Q0 _ _ _ (by subst E;omega) ⟨(k3+1),((y1k I G0)),rfl,⟨J.pk,N⟩,?_⟩
 rw [S,zA r1];rfl
 by_cases n3:(zI T g.body q2).1=(⟨#[]⟩:Bs)
 refine zD ?_
 replace N:=N.dl [4,3,2,1]
 have hr_:xK T e s=((⟨#[]⟩:Bs),I):=by
  have C:aO T g r q=((zI T g.body q2).1,I):=by
   have z:putAll q g.vars r.fields=q2:=by rw [P,zB Z,vJ]
   have j:=S
   rw [zB a0] at j
   rw [aO,z,j];rfl
  have u:t.cons.length=e.arms.length:=by assumption
  rw [xK,if_pos (by assumption),jV h,U]
  simp only
  rw [if_pos u,B,zA y,zA G,jU,if_neg (by simp [*]),C,if_pos (by simp_all [sNo] <;> omega)];rfl
 show _/\_;rw [hr_];exact ⟨rfl,N⟩
 by_cases o3:0 < i
 refine go fun a J=>?_
 by_cases p3:(zI T g.body q2).1=out
 refine go fun a J=>?_
 replace N:=N.dl [2,1]
 refine j0 _ _ _ (by subst E;omega) ⟨(i+1),(I),((zI T g.body q2).1),rfl,⟨J.pk,N⟩,?_⟩
 have C:aO T g r q=((zI T g.body q2).1,I):=by
  have z:putAll q g.vars r.fields=q2:=by rw [P,zB Z,vJ]
  have j:=S
  rw [zB a0] at j
  rw [aO,z,j];rfl
 rw [B,zA y,zA G,jU,if_neg (by simp [*]),C,if_neg (by simp_all [sNo] <;> omega)];simp
 refine zD ?_
 replace N:=N.dl [4,3,2,1]
 have hr_:xK T e s=((⟨#[]⟩:Bs),I):=by
  have C:aO T g r q=((zI T g.body q2).1,I):=by
   have z:putAll q g.vars r.fields=q2:=by rw [P,zB Z,vJ]
   have j:=S
   rw [zB a0] at j
   rw [aO,z,j];rfl
  have u:t.cons.length=e.arms.length:=by assumption
  rw [xK,if_pos (by assumption),jV h,U]
  simp only
  rw [if_pos u,B,zA y,zA G,jU,if_neg (by simp [*]),C,if_pos (by simp_all [sNo] <;> omega)];rfl
 show _/\_;rw [hr_];exact ⟨rfl,N⟩
 refine go fun a J=>?_
 replace N:=N.dl [2,1]
 refine j0 _ _ _ (by subst E;omega) ⟨(i+1),(I),((zI T g.body q2).1),rfl,⟨J.pk,N⟩,?_⟩
 have C:aO T g r q=((zI T g.body q2).1,I):=by
  have z:putAll q g.vars r.fields=q2:=by rw [P,zB Z,vJ]
  have j:=S
  rw [zB a0] at j
  rw [aO,z,j];rfl
 rw [B,zA y,zA G,jU,if_neg (by simp [*]),C,if_neg (by simp_all [sNo] <;> omega)];simp
 refine zD ?_
 replace N:=N.dl [4,3,1,0]
 have hr_:xK T e s=((⟨#[]⟩:Bs),q):=by
  have u:t.cons.length=e.arms.length:=by assumption
  rw [xK,if_pos (by assumption),jV h,U]
  simp only
  rw [if_pos u,B,zA y,zA G,jU,if_pos (by simp [*])]
  all_goals rfl
 show _/\_;rw [hr_];exact ⟨rfl,N⟩
 refine zD ?_
 replace N:=N.dl [4,3,1,0]
 have hr_:xK T e s=((⟨#[]⟩:Bs),q):=by
  have u:t.cons.length=e.arms.length:=by assumption
  rw [xK,if_pos (by assumption),jV h,U]
  simp only
  rw [if_pos u,B,zA y,zA G,jU,if_pos (by simp [*])]
  all_goals rfl
 show _/\_;rw [hr_];exact ⟨rfl,N⟩
 refine zD ?_
 replace N:=N.dl [2,1]
 have hr_:xK T e s=(out,q):=by
  have u:t.cons.length=e.arms.length:=by assumption
  rw [xK,if_pos (by assumption),jV h,U]
  simp only
  rw [if_pos u,B,zB w0,zB (l:=e.arms) (by omega)];rfl
 show _/\_;rw [hr_];exact ⟨rfl,N⟩
 refine zD ?_
 replace N:=N.dl [2,1]
 have hr_:xK T e s=((⟨#[]⟩:Bs),(zI T D s).2):=by
  simp [xK,jV h,sNo, *]
 show _/\_;rw [hr_];exact ⟨rfl,N⟩
 refine zD ?_
 replace N:=N.dl [0]
 have hr_:xK T e s=((⟨#[]⟩:Bs),s):=by
  simp [xK,sNo, *]
 show _/\_;rw [hr_];exact ⟨rfl,N⟩
theorem let_ok {Φ:Fz} {K:List Res} {w:World} {p0:Addr} {T:Table} {d1:List Value} {e:Ex} {b:Nat} {s:Scope} (m:RTable Φ p0 T) (v:REx Φ d1 e) (ih:∀x:Ex,x.sz < e.sz->∀{Φ:Fz} {K:List Res} {w:World} {p:Addr} {d:List Value} {b:Nat} {s:Scope},RTable Φ p T->REx Φ d x->Mem Φ (.mp b (yW s)::K) w->Calls prog 134 #[.pointer (some p),.agg d.toArray,.map (some b)] w (fun ee w'=>ee=.returned (.string (zI T x s).1)/\Mem Φ (.mp b (yW (zI T x s).2)::K) w')) (N:Mem Φ (.mp b (yW s)::K) w) :
  Calls prog 171 #[.pointer (some p0),.agg d1.toArray,.map (some b)] w (fun ee w'=>ee=.returned (.string ((z3q T e s).1))/\Mem Φ (.mp b (yW (z3q T e s).2)::K) w'):=by
 obtain ⟨I,m1,m2,m3,m4,d5,d6,d7,d8,z,A,h,P0,w0,s0,x0,t0,y0,u0,z0⟩:=m.ex
 obtain ⟨Q0,c24,R0,D0,S0,E0,T0,c42,rfl,I0,J0,K0,L0,b0,j0,c0,k0,d0,l0,e0,m0⟩:=RCore.fm h
 obtain ⟨U0,F0,V0,G0,rfl,W,o,M0,f0,u,g0,n0⟩:=REx.fm v
 refine enterB func171 rfl ntmps171 rfl (fun Q hQ a J=>?_)
 refine Bx fun C0 w N a J=>?_
 refine yH call185 (fun f w N a J=>?_) (fun f w N a J=>?_) (c:=oX v N)
 have a0:=pD (n:=2) f
 refine go fun a J=>?_
 have r:0 < e.args.length:=by omega
 obtain ⟨Y0,rfl,g,i,L,Y,U,k⟩:=o.el u r
 obtain ⟨W0,c75,X0,H0,rfl,X,N0,O0,h0,o0,i0,q0⟩:=REx.fm k
 replace N:=N.pl 1
 refine zT call134 (fun w N a J=>?_) (c:=ih _ (by exact Ex.lt_args (mgQ i)) m k N)
 by_cases q:(zI T g s).1=(⟨#[]⟩:Bs)
 refine go fun a J=>?_
 replace N:=N.dl [1]
 refine hQ _ _ _ (ret1B J results171 rfl ?_)
 have hr_:z3q T e s=((⟨#[]⟩:Bs),(zI T g s).2):=by
  rw [z3q,if_pos f,y2w i q];rfl
 show _/\_;rw [hr_];exact ⟨rfl,N⟩
 refine z4d 0 runUnderlying195 runUnderlying9 fun w N a J=>?_
 rw [dH] at N
 refine go fun a J=>?_
 refine z9k J rfl fun a P J=>?_
 refine go fun a J=>?_
 have t:1 < e.args.length:=by omega
 obtain ⟨y,j⟩:=zZ t
 obtain ⟨M,Z,V,l⟩:=o.elem j
 obtain ⟨A0,G,B0,H,rfl,B,R,S,C,E,D,F⟩:=REx.fm l
 refine zT call134 (fun w N a J=>?_) (c:=ih _ (by exact Ex.lt_args (mgQ j)) m l N)
 refine go fun a J=>?_
 replace N:=N.dl [1]
 refine hQ _ _ _ (q4x 0 runUnderlying195 runUnderlying9 J results171 rfl N rfl fun w N=>?_)
 rw [z7f] at N
 have hr_:z3q T e s=((zI T y (jP ((zI T g s).2) e.name ((zI T g s).1))).1,(y1k ((zI T y (jP ((zI T g s).2) e.name ((zI T g s).1))).2) e.name)):=by
  rw [z3q,if_pos f,z6o i j q]
 show _/\_;rw [hr_];exact ⟨rfl,N⟩
 refine go fun a J=>?_
 replace N:=N.dl [0]
 refine hQ _ _ _ (ret1B J results171 rfl ?_)
 have hr_:z3q T e s=((⟨#[]⟩:Bs),s):=by
  simp [z3q,sNo, *]
 show _/\_;rw [hr_];exact ⟨rfl,N⟩
theorem j4s {Φ:Fz} {K:List Res} {w:World} {p0:Addr} {T:Table} {d1:List Value} {e:Ex} {b:Nat} {s:Scope} (g:RTable Φ p0 T) (h:REx Φ d1 e) (hT:∀n f,zK T.funs n=some f->f.params.length<=1000) (V:∀x:Ex,x.sz < e.sz->∀{Φ:Fz} {K:List Res} {w:World} {p:Addr} {d:List Value} {b:Nat} {s:Scope},RTable Φ p T->REx Φ d x->Mem Φ (.mp b (yW s)::K) w->Calls prog 134 #[.pointer (some p),.agg d.toArray,.map (some b)] w (fun ee w'=>ee=.returned (.string (zI T x s).1)/\Mem Φ (.mp b (yW (zI T x s).2)::K) w')) (N:Mem Φ (.mp b (yW s)::K) w) :
  Calls prog 134 #[.pointer (some p0),.agg d1.toArray,.map (some b)] w (fun ee w'=>ee=.returned (.string ((zI T e s).1))/\Mem Φ (.mp b (yW (zI T e s).2)::K) w'):=by
 obtain ⟨Y,m1,m2,m3,m4,d5,d6,d7,d8,W,X,i,I0,q0,m0,r0,n0,s0,o0,t0⟩:=g.ex
 obtain ⟨J0,c24,K0,x0,L0,y0,M0,c42,rfl,B0,C0,D0,E0,a0,g0,b0,h0,c0,i0,d0,j0⟩:=RCore.fm i
 obtain ⟨N0,z0,O0,A0,rfl,Z,F0,G0,e0,k0,f0,l0⟩:=REx.fm h
 refine zL func134 ntmps134 fun Q hQ a J=>?_
 refine Bx fun u0 w N a J=>?_
 refine go fun a J=>?_
 refine st J rfl rfl rfl (q3p N fun w0 w N a J=>?_)
 refine go fun a J=>?_
 refine st0 J rfl rfl (wV 0 runUnderlying228 runUnderlying3 J N rfl rfl rfl rfl fun w N a J=>?_)
 replace N:=N.nf
 refine go fun a J=>?_
 refine st0 J rfl rfl (wV 0 runUnderlying228 runUnderlying3 J N rfl rfl rfl rfl fun w N a J=>?_)
 replace N:=N.nf
 refine go fun a J=>?_
 refine st0 J rfl rfl (wV 0 runUnderlying228 runUnderlying3 J N rfl rfl rfl rfl fun w N a J=>?_)
 replace N:=N.nf
 refine go fun a J=>?_
 refine st0 J rfl rfl (wV 0 runUnderlying228 runUnderlying3 J N rfl rfl rfl rfl fun w N a J=>?_)
 replace N:=N.nf
 refine go fun a J=>?_
 refine st0 J rfl rfl (wV 0 runUnderlying228 runUnderlying3 J N rfl rfl rfl rfl fun w N a J=>?_)
 replace N:=N.nf
 refine go fun a J=>?_
 refine st0 J rfl rfl (wV 0 runUnderlying228 runUnderlying3 J N rfl rfl rfl rfl fun w N a J=>?_)
 replace N:=N.nf
 refine go fun a J=>?_
 refine st0 J rfl rfl (wV 0 runUnderlying228 runUnderlying3 J N rfl rfl rfl rfl fun w N a J=>?_)
 replace N:=N.nf
 refine go fun a J=>?_
 refine st0 J rfl rfl (wV 0 runUnderlying228 runUnderlying3 J N rfl rfl rfl rfl fun w N a J=>?_)
 replace N:=N.nf
 refine go fun a J=>?_
 by_cases k:e.kind=1
 have H:gD [(1,.func (.func 166) #[.pointer (some p0)] #[]),(2,.func (.func 167) #[.pointer (some p0)] #[]),(3,.func (.func 168) #[.pointer (some p0)] #[]),(4,.func (.func 169) #[.pointer (some p0)] #[]),(5,.func (.func 170) #[.pointer (some p0)] #[]),(6,.func (.func 171) #[.pointer (some p0)] #[]),(7,.func (.func 172) #[.pointer (some p0)] #[]),(8,.func (.func 173) #[.pointer (some p0)] #[])] (e.kind)=some (.func (.func 166) #[.pointer (some p0)] #[]):=by rw [k];rfl
 have z:=congrArg (zJ true (.nilFunc)) H
 refine Qq (fun a J=>?_) (o:=by exact fun J O=>Ok.cast (vA 0 runUnderlying228 runUnderlying3 zeroValue197 J O rfl rfl rfl) (show zJ true (.nilFunc) (gD [(1,.func (.func 166) #[.pointer (some p0)] #[]),(2,.func (.func 167) #[.pointer (some p0)] #[]),(3,.func (.func 168) #[.pointer (some p0)] #[]),(4,.func (.func 169) #[.pointer (some p0)] #[]),(5,.func (.func 170) #[.pointer (some p0)] #[]),(6,.func (.func 171) #[.pointer (some p0)] #[]),(7,.func (.func 172) #[.pointer (some p0)] #[]),(8,.func (.func 173) #[.pointer (some p0)] #[])] (e.kind))=.tuple #[.func (.func 166) #[.pointer (some p0)] #[],.bool true] from z))
 replace N:=N.pl 2
 refine FunR call166 (fun w N a J=>?_) (c:=by exact x1c g h N)
 refine zD ?_
 replace N:=N.dl [2,1]
 have hr_:zI T e s=((sI e),s):=by rw [z0q T e s k]
 show _/\_;rw [hr_];exact ⟨rfl,N⟩
 by_cases l:e.kind=2
 have I:gD [(1,.func (.func 166) #[.pointer (some p0)] #[]),(2,.func (.func 167) #[.pointer (some p0)] #[]),(3,.func (.func 168) #[.pointer (some p0)] #[]),(4,.func (.func 169) #[.pointer (some p0)] #[]),(5,.func (.func 170) #[.pointer (some p0)] #[]),(6,.func (.func 171) #[.pointer (some p0)] #[]),(7,.func (.func 172) #[.pointer (some p0)] #[]),(8,.func (.func 173) #[.pointer (some p0)] #[])] (e.kind)=some (.func (.func 167) #[.pointer (some p0)] #[]):=by rw [l];rfl
 have A:=congrArg (zJ true (.nilFunc)) I
 refine Qq (fun a J=>?_) (o:=by exact fun J O=>Ok.cast (vA 0 runUnderlying228 runUnderlying3 zeroValue197 J O rfl rfl rfl) (show zJ true (.nilFunc) (gD [(1,.func (.func 166) #[.pointer (some p0)] #[]),(2,.func (.func 167) #[.pointer (some p0)] #[]),(3,.func (.func 168) #[.pointer (some p0)] #[]),(4,.func (.func 169) #[.pointer (some p0)] #[]),(5,.func (.func 170) #[.pointer (some p0)] #[]),(6,.func (.func 171) #[.pointer (some p0)] #[]),(7,.func (.func 172) #[.pointer (some p0)] #[]),(8,.func (.func 173) #[.pointer (some p0)] #[])] (e.kind))=.tuple #[.func (.func 167) #[.pointer (some p0)] #[],.bool true] from A))
 replace N:=N.pl 2
 refine FunR call167 (fun w N a J=>?_) (c:=by exact j0j g h N)
 refine zD ?_
 replace N:=N.dl [2,1]
 have hr_:zI T e s=((mW e s),s):=by rw [oP T e s l]
 show _/\_;rw [hr_];exact ⟨rfl,N⟩
 by_cases m:e.kind=3
 have L:gD [(1,.func (.func 166) #[.pointer (some p0)] #[]),(2,.func (.func 167) #[.pointer (some p0)] #[]),(3,.func (.func 168) #[.pointer (some p0)] #[]),(4,.func (.func 169) #[.pointer (some p0)] #[]),(5,.func (.func 170) #[.pointer (some p0)] #[]),(6,.func (.func 171) #[.pointer (some p0)] #[]),(7,.func (.func 172) #[.pointer (some p0)] #[]),(8,.func (.func 173) #[.pointer (some p0)] #[])] (e.kind)=some (.func (.func 168) #[.pointer (some p0)] #[]):=by rw [m];rfl
 have B:=congrArg (zJ true (.nilFunc)) L
 refine Qq (fun a J=>?_) (o:=by exact fun J O=>Ok.cast (vA 0 runUnderlying228 runUnderlying3 zeroValue197 J O rfl rfl rfl) (show zJ true (.nilFunc) (gD [(1,.func (.func 166) #[.pointer (some p0)] #[]),(2,.func (.func 167) #[.pointer (some p0)] #[]),(3,.func (.func 168) #[.pointer (some p0)] #[]),(4,.func (.func 169) #[.pointer (some p0)] #[]),(5,.func (.func 170) #[.pointer (some p0)] #[]),(6,.func (.func 171) #[.pointer (some p0)] #[]),(7,.func (.func 172) #[.pointer (some p0)] #[]),(8,.func (.func 173) #[.pointer (some p0)] #[])] (e.kind))=.tuple #[.func (.func 168) #[.pointer (some p0)] #[],.bool true] from B))
 replace N:=N.pl 2
 refine FunR call168 (fun w N a J=>?_) (c:=by exact j9t g h N)
 refine zD ?_
 replace N:=N.dl [2,1]
 have hr_:zI T e s=((uQ T e),s):=by rw [oN T e s m]
 show _/\_;rw [hr_];exact ⟨rfl,N⟩
 by_cases q:e.kind=4
 have M:gD [(1,.func (.func 166) #[.pointer (some p0)] #[]),(2,.func (.func 167) #[.pointer (some p0)] #[]),(3,.func (.func 168) #[.pointer (some p0)] #[]),(4,.func (.func 169) #[.pointer (some p0)] #[]),(5,.func (.func 170) #[.pointer (some p0)] #[]),(6,.func (.func 171) #[.pointer (some p0)] #[]),(7,.func (.func 172) #[.pointer (some p0)] #[]),(8,.func (.func 173) #[.pointer (some p0)] #[])] (e.kind)=some (.func (.func 169) #[.pointer (some p0)] #[]):=by rw [q];rfl
 have C:=congrArg (zJ true (.nilFunc)) M
 refine Qq (fun a J=>?_) (o:=by exact fun J O=>Ok.cast (vA 0 runUnderlying228 runUnderlying3 zeroValue197 J O rfl rfl rfl) (show zJ true (.nilFunc) (gD [(1,.func (.func 166) #[.pointer (some p0)] #[]),(2,.func (.func 167) #[.pointer (some p0)] #[]),(3,.func (.func 168) #[.pointer (some p0)] #[]),(4,.func (.func 169) #[.pointer (some p0)] #[]),(5,.func (.func 170) #[.pointer (some p0)] #[]),(6,.func (.func 171) #[.pointer (some p0)] #[]),(7,.func (.func 172) #[.pointer (some p0)] #[]),(8,.func (.func 173) #[.pointer (some p0)] #[])] (e.kind))=.tuple #[.func (.func 169) #[.pointer (some p0)] #[],.bool true] from C))
 replace N:=N.pl 2
 refine FunR call169 (fun w N a J=>?_) (c:=by exact con_ok g h V N)
 refine zD ?_
 replace N:=N.dl [2,1]
 have hr_:zI T e s=((uM T e s).1,(uM T e s).2):=by rw [oM T e s q]
 show _/\_;rw [hr_];exact ⟨rfl,N⟩
 by_cases r:e.kind=5
 have P:gD [(1,.func (.func 166) #[.pointer (some p0)] #[]),(2,.func (.func 167) #[.pointer (some p0)] #[]),(3,.func (.func 168) #[.pointer (some p0)] #[]),(4,.func (.func 169) #[.pointer (some p0)] #[]),(5,.func (.func 170) #[.pointer (some p0)] #[]),(6,.func (.func 171) #[.pointer (some p0)] #[]),(7,.func (.func 172) #[.pointer (some p0)] #[]),(8,.func (.func 173) #[.pointer (some p0)] #[])] (e.kind)=some (.func (.func 170) #[.pointer (some p0)] #[]):=by rw [r];rfl
 have D:=congrArg (zJ true (.nilFunc)) P
 refine Qq (fun a J=>?_) (o:=by exact fun J O=>Ok.cast (vA 0 runUnderlying228 runUnderlying3 zeroValue197 J O rfl rfl rfl) (show zJ true (.nilFunc) (gD [(1,.func (.func 166) #[.pointer (some p0)] #[]),(2,.func (.func 167) #[.pointer (some p0)] #[]),(3,.func (.func 168) #[.pointer (some p0)] #[]),(4,.func (.func 169) #[.pointer (some p0)] #[]),(5,.func (.func 170) #[.pointer (some p0)] #[]),(6,.func (.func 171) #[.pointer (some p0)] #[]),(7,.func (.func 172) #[.pointer (some p0)] #[]),(8,.func (.func 173) #[.pointer (some p0)] #[])] (e.kind))=.tuple #[.func (.func 170) #[.pointer (some p0)] #[],.bool true] from D))
 replace N:=N.pl 2
 refine FunR call170 (fun w N a J=>?_) (c:=by exact call_ok g h hT V N)
 refine zD ?_
 replace N:=N.dl [2,1]
 have hr_:zI T e s=((aP T e s).1,(aP T e s).2):=by rw [dK T e s r]
 show _/\_;rw [hr_];exact ⟨rfl,N⟩
 by_cases t:e.kind=6
 have R:gD [(1,.func (.func 166) #[.pointer (some p0)] #[]),(2,.func (.func 167) #[.pointer (some p0)] #[]),(3,.func (.func 168) #[.pointer (some p0)] #[]),(4,.func (.func 169) #[.pointer (some p0)] #[]),(5,.func (.func 170) #[.pointer (some p0)] #[]),(6,.func (.func 171) #[.pointer (some p0)] #[]),(7,.func (.func 172) #[.pointer (some p0)] #[]),(8,.func (.func 173) #[.pointer (some p0)] #[])] (e.kind)=some (.func (.func 171) #[.pointer (some p0)] #[]):=by rw [t];rfl
 have E:=congrArg (zJ true (.nilFunc)) R
 refine Qq (fun a J=>?_) (o:=by exact fun J O=>Ok.cast (vA 0 runUnderlying228 runUnderlying3 zeroValue197 J O rfl rfl rfl) (show zJ true (.nilFunc) (gD [(1,.func (.func 166) #[.pointer (some p0)] #[]),(2,.func (.func 167) #[.pointer (some p0)] #[]),(3,.func (.func 168) #[.pointer (some p0)] #[]),(4,.func (.func 169) #[.pointer (some p0)] #[]),(5,.func (.func 170) #[.pointer (some p0)] #[]),(6,.func (.func 171) #[.pointer (some p0)] #[]),(7,.func (.func 172) #[.pointer (some p0)] #[]),(8,.func (.func 173) #[.pointer (some p0)] #[])] (e.kind))=.tuple #[.func (.func 171) #[.pointer (some p0)] #[],.bool true] from E))
 replace N:=N.pl 2
 refine FunR call171 (fun w N a J=>?_) (c:=by exact let_ok g h V N)
 refine zD ?_
 replace N:=N.dl [2,1]
 have hr_:zI T e s=((z3q T e s).1,(z3q T e s).2):=by rw [oO T e s t]
 show _/\_;rw [hr_];exact ⟨rfl,N⟩
 by_cases u:e.kind=7
 have S:gD [(1,.func (.func 166) #[.pointer (some p0)] #[]),(2,.func (.func 167) #[.pointer (some p0)] #[]),(3,.func (.func 168) #[.pointer (some p0)] #[]),(4,.func (.func 169) #[.pointer (some p0)] #[]),(5,.func (.func 170) #[.pointer (some p0)] #[]),(6,.func (.func 171) #[.pointer (some p0)] #[]),(7,.func (.func 172) #[.pointer (some p0)] #[]),(8,.func (.func 173) #[.pointer (some p0)] #[])] (e.kind)=some (.func (.func 172) #[.pointer (some p0)] #[]):=by rw [u];rfl
 have F:=congrArg (zJ true (.nilFunc)) S
 refine Qq (fun a J=>?_) (o:=by exact fun J O=>Ok.cast (vA 0 runUnderlying228 runUnderlying3 zeroValue197 J O rfl rfl rfl) (show zJ true (.nilFunc) (gD [(1,.func (.func 166) #[.pointer (some p0)] #[]),(2,.func (.func 167) #[.pointer (some p0)] #[]),(3,.func (.func 168) #[.pointer (some p0)] #[]),(4,.func (.func 169) #[.pointer (some p0)] #[]),(5,.func (.func 170) #[.pointer (some p0)] #[]),(6,.func (.func 171) #[.pointer (some p0)] #[]),(7,.func (.func 172) #[.pointer (some p0)] #[]),(8,.func (.func 173) #[.pointer (some p0)] #[])] (e.kind))=.tuple #[.func (.func 172) #[.pointer (some p0)] #[],.bool true] from F))
 replace N:=N.pl 2
 refine FunR call172 (fun w N a J=>?_) (c:=by exact x9c g h V N)
 refine zD ?_
 replace N:=N.dl [2,1]
 have hr_:zI T e s=((xK T e s).1,(xK T e s).2):=by rw [sM T e s u]
 show _/\_;rw [hr_];exact ⟨rfl,N⟩
 by_cases v:e.kind=8
 have U:gD [(1,.func (.func 166) #[.pointer (some p0)] #[]),(2,.func (.func 167) #[.pointer (some p0)] #[]),(3,.func (.func 168) #[.pointer (some p0)] #[]),(4,.func (.func 169) #[.pointer (some p0)] #[]),(5,.func (.func 170) #[.pointer (some p0)] #[]),(6,.func (.func 171) #[.pointer (some p0)] #[]),(7,.func (.func 172) #[.pointer (some p0)] #[]),(8,.func (.func 173) #[.pointer (some p0)] #[])] (e.kind)=some (.func (.func 173) #[.pointer (some p0)] #[]):=by rw [v];rfl
 have G:=congrArg (zJ true (.nilFunc)) U
 refine Qq (fun a J=>?_) (o:=by exact fun J O=>Ok.cast (vA 0 runUnderlying228 runUnderlying3 zeroValue197 J O rfl rfl rfl) (show zJ true (.nilFunc) (gD [(1,.func (.func 166) #[.pointer (some p0)] #[]),(2,.func (.func 167) #[.pointer (some p0)] #[]),(3,.func (.func 168) #[.pointer (some p0)] #[]),(4,.func (.func 169) #[.pointer (some p0)] #[]),(5,.func (.func 170) #[.pointer (some p0)] #[]),(6,.func (.func 171) #[.pointer (some p0)] #[]),(7,.func (.func 172) #[.pointer (some p0)] #[]),(8,.func (.func 173) #[.pointer (some p0)] #[])] (e.kind))=.tuple #[.func (.func 173) #[.pointer (some p0)] #[],.bool true] from G))
 replace N:=N.pl 2
 refine FunR call173 (fun w N a J=>?_) (c:=by exact op_ok g h V N)
 refine zD ?_
 replace N:=N.dl [2,1]
 have hr_:zI T e s=((nX T e s).1,(nX T e s).2):=by rw [uE T e s v]
 show _/\_;rw [hr_];exact ⟨rfl,N⟩
 have y:gD [(1,.func (.func 166) #[.pointer (some p0)] #[]),(2,.func (.func 167) #[.pointer (some p0)] #[]),(3,.func (.func 168) #[.pointer (some p0)] #[]),(4,.func (.func 169) #[.pointer (some p0)] #[]),(5,.func (.func 170) #[.pointer (some p0)] #[]),(6,.func (.func 171) #[.pointer (some p0)] #[]),(7,.func (.func 172) #[.pointer (some p0)] #[]),(8,.func (.func 173) #[.pointer (some p0)] #[])] (e.kind)=none:=by simp [gD, *]
 have j:=congrArg (zJ true (.nilFunc)) y
 refine Qq (fun a J=>?_) (o:=by exact fun J O=>Ok.cast (vA 0 runUnderlying228 runUnderlying3 zeroValue197 J O rfl rfl rfl) (show zJ true (.nilFunc) (gD [(1,.func (.func 166) #[.pointer (some p0)] #[]),(2,.func (.func 167) #[.pointer (some p0)] #[]),(3,.func (.func 168) #[.pointer (some p0)] #[]),(4,.func (.func 169) #[.pointer (some p0)] #[]),(5,.func (.func 170) #[.pointer (some p0)] #[]),(6,.func (.func 171) #[.pointer (some p0)] #[]),(7,.func (.func 172) #[.pointer (some p0)] #[]),(8,.func (.func 173) #[.pointer (some p0)] #[])] (e.kind))=.tuple #[.nilFunc,.bool false] from j))
 refine zD ?_
 replace N:=N.dl [1,0]
 have hr_:zI T e s=((⟨#[]⟩:Bs),s):=by rw [dL T e s k l m q r t u v];rfl
 show _/\_;rw [hr_];exact ⟨rfl,N⟩
theorem x9w {T:Table} (a:∀n f,zK T.funs n=some f->f.params.length<=1000) {Φ:Fz} {K:List Res} {w:World} {p:Addr} {d:List Value} {e:Ex} {b:Nat} {s:Scope} (rT:RTable Φ p T) (re:REx Φ d e) (N:Mem Φ (.mp b (yW s)::K) w) :
  Calls prog 134 #[.pointer (some p),.agg d.toArray,.map (some b)] w (fun ee w'=>ee=.returned (.string (zI T e s).1)/\Mem Φ (.mp b (yW (zI T e s).2)::K) w'):=by
 suffices H:∀n (e:Ex),e.sz < n->∀{Φ:Fz} {K:List Res} {w:World} {p:Addr} {d:List Value} {b:Nat} {s:Scope},RTable Φ p T->REx Φ d e->Mem Φ (.mp b (yW s)::K) w ->
   Calls prog 134 #[.pointer (some p),.agg d.toArray,.map (some b)] w (fun ee w'=>ee=.returned (.string (zI T e s).1)/\Mem Φ (.mp b (yW (zI T e s).2)::K) w') from H _ e (Nat.lt_succ_self _) rT re N
 intro n
 induction n with
 | zero=>intro e h;omega
 | succ n c=>intro e h Φ K w p d b s rT re N;exact j4s rT re a (fun x j _ _ _ _ _ _ _ g i m=>c x (by omega) g i m) N
theorem z4u {c:Core} (h:xN c=false):c.datas.length<=60:=by
 simp only [xN,Bool.or_eq_false_iff,decide_eq_false_iff_not] at h;omega
theorem q1b {c:Core} (h:xN c=false):c.funs.length<=300:=by
 simp only [xN,Bool.or_eq_false_iff,decide_eq_false_iff_not] at h;omega
theorem z2a {c:Core} (h:xN c=false):c.inputs.length<=6:=by
 simp only [xN,Bool.or_eq_false_iff,decide_eq_false_iff_not] at h;omega
theorem j4k {Φ:Fz} {K:List Res} {w:World} {d0:List Value} {c:Core} {v:Value} (b0:RCoreX Φ d0 c v) (A2:xN c=false) (G:Glob Φ) (N:Mem Φ K w) :
  Calls prog 126 #[.agg d0.toArray] w (fun ee w'=>∃y:Fz×Addr,ee=.returned (.tuple #[.pointer (some y.2),.bool (nS c)])/\(Φ.Le y.1/\RTableX y.1 y.2 (yK c) v)/\Mem y.1 K w'):=by
 obtain ⟨s1,s2,s3,q4,A3,rfl,rfl,h6,h7,h8⟩:=id b0
 obtain ⟨p9,x3,rfl,b5,i5⟩:=h6.fm
 obtain ⟨t4,y3,rfl,c5,R2⟩:=h7.fm
 obtain ⟨u4,z3,rfl,d5,S2⟩:=h8.fm
 refine zL func126 ntmps126 fun Q hQ a J=>?_
 refine Bx fun B5 w N a J=>?_
 refine MkM fun t3 w N a J=>?_
 refine MkM fun S0 w N a J=>?_
 refine MkM fun u3 w N a J=>?_
 refine MkM fun v3 w N a J=>?_
 refine mP fun a J=>?_
 refine Bx fun w3 w N a J=>?_
 refine go fun a J=>?_
 refine yI [0,0,1,2,0,1,1] (.q 2 (.q 3 (.q 6 (.e 0 (.e 1 (.e 4 (.q 5 (.done)))))))) [0,1,2,3,4,5] J N fun w N=>?_
 refine yO call157 (fun v4 w Q2 N a J=>?_) (c:=z9p N)
 obtain ⟨y5,F5⟩:=v4
 obtain ⟨k0,D⟩:=Q2
 simp only at k0 D N J
 replace h6:=h6.up k0
 replace h7:=h7.up k0
 replace h8:=h8.up k0
 replace b0:=b0.mono k0
 replace G:=G.mono k0
 replace N:=N.nf
 obtain ⟨O5,rfl,K3⟩:=id D
 obtain ⟨I5,D5,rfl,e5,j5⟩:=K3.fm
 refine jQ fun R5 w N a J=>?_
 obtain ⟨Q4,e1,j0⟩:=id h6
 refine vH 0 rt_22 (fun S5 w N a J=>?_) (hr:=e1.rowIn N.toSees) (h1:=j0.ones RData.ones) (hb:=by have h_:=j0.length;have G5:=z4u A2;rw [h_];simp only [lcQ,lnQ];omega)
 have B:=N
 clear N
 obtain ⟨d,n0,N,f1⟩:=B.freezeRow (i:=0) rfl
 clear B
 replace h7:=h7.up n0
 replace h8:=h8.up n0
 replace b0:=b0.mono n0
 replace G:=G.mono n0
 replace D:=RData.mono _ _ _ _ n0 D
 replace j0:=j0.mono fun _ _ h=>RData.mono _ _ _ _ n0 h
 replace N:=N.nf
 have Z0:SliceOf RData d 2 _ (truthsD::c.datas):=⟨_,f1,⟨_,_,rfl,rfl,D,j0⟩⟩
 obtain ⟨J5,E5,s4,f5,T2⟩:=Z0.form (by decide)
 have R1:=N
 clear N
 subst s4
 have N:=R1
 clear R1
 refine go fun a J=>?_
 refine zU (J.ks [1,4,25,26]) N (fun R mm a w=>∃(i:Nat) (o:Bool) (m0:List (Bs×Value)) (l0:List (Bs×Data)) (m1:List (Bs×Value)) (l1:List (Bs×Maker)),mm=(truthsD::c.datas).length - i/\R d [(5,.bool o),(27,.int .i64 i)] [(3,.mp S0 m1),(4,.mp t3 m0)] a w/\(uB true [] [] (truthsD::c.datas)=uB o l0 l1 ((truthsD::c.datas).drop i)/\MapRel (RVa RData d) m0 l0/\MapRel (RVa RMaker d) m1 l1)) ((truthsD::c.datas).length - 0) ⟨0,true,[],[],[],[],rfl,⟨J.pk,N⟩,⟨rfl,MapRel.nil,MapRel.nil⟩⟩ ?_
 clear N J
 rintro mm a w ⟨i,o,m0,l0,m1,l1,n,⟨J,N⟩,g0⟩ z5 o0
 replace N:=N.nf
 obtain ⟨g0,r0,r1⟩:=g0
 by_cases O2:i < (truthsD::c.datas).length
 refine go fun a J=>?_
 obtain ⟨M5,rfl,b,q0,R4,Z4,X4,V0⟩:=Z0.el T2 O2
 obtain ⟨P5,rfl,T0⟩:=id V0
 obtain ⟨U2,F2,rfl,g5,p0⟩:=T0.fm
 refine Alc fun C5 w N a J=>?_
 refine Sto 0 fun w N a J=>?_
 refine Reg [1,1,1,2,0,1,1,1,2,1,1,1,1,1,1,2,1,2,2,0,1,1,1,2,1,1,1,1] [0,1,2,3,4,6] fun w N a J=>?_
 refine go fun a J=>?_
 cases o
 refine go fun a J=>?_
 refine zU (J.ks [1,4,7,25,26,27,59,60]) N (fun R mm a w=>∃(k:Nat) (o2:Bool) (j:List (Bs×Value)) (g:List (Bs×Maker)),mm=b.cons.length - k/\R d [(5,.bool o2),(61,.int .i64 k)] [(4,.mp S0 j)] a w/\(xY b.name false l1 b.cons=xY b.name o2 g (b.cons.drop k)/\MapRel (RVa RMaker d) j g)) (b.cons.length - 0) ⟨0,false,m1,l1,rfl,⟨J.pk,N⟩,⟨rfl,r1⟩⟩ ?_
 clear N J
 rintro mm a w ⟨k,o2,j,g,n,⟨J,N⟩,h0⟩ A5 U0
 replace N:=N.nf
 obtain ⟨h0,p⟩:=h0
 by_cases P2:k < b.cons.length
 refine go fun a J=>?_
 obtain ⟨N5,rfl,W,X0,S4,a5,Y4,W0⟩:=T0.el p0 P2
 obtain ⟨Q5,rfl,L3⟩:=id W0
 obtain ⟨V2,G2,rfl,h5,k5⟩:=L3.fm
 refine Alc fun H4 w N a J=>?_
 refine Sto 0 fun w N a J=>?_
 refine Reg [1,1,1,2,0,1,1,1,1,1,2,1,2,1,2,2,1,0,1,1] [0,1,2,3,4,6,7] fun w N a J=>?_
 refine go fun a J=>?_
 cases o2
 refine go fun a J=>?_
 replace N:=N.dl [0]
 refine U0 _ _ _ (by subst n;omega) ⟨(k+1),(false),(j),(g),rfl,⟨J.pk,N⟩,?_⟩
 refine ⟨?_,p⟩
 rw [h0,zA X0];simp [xY, *]
 refine yH call158 (fun b2 w N a J=>?_) (fun b2 w N a J=>?_) (c:=mK G N)
 refine mP fun a J=>?_
 replace N:=N.pl 5
 refine yH call160 (fun c2 w N a J=>?_) (fun c2 w N a J=>?_) (c:=pQ (m:=j) (l:=g) (x:=(⟨b.name,W⟩:Maker)) p (show RMaker d _ (⟨b.name,W⟩:Maker) from ⟨_,rfl,W0⟩) N)
 replace N:=N.nf
 obtain ⟨g1,f⟩:∃X,X=(vR j W.name (.agg #[.string b.name,.string W.name,.slice V2 W.fields.length G2])):=⟨_,rfl⟩
 have W2:MapRel (RVa RMaker d) g1 (jL g W.name (⟨b.name,W⟩:Maker)):=by rw [f];exact (MapRel.once p ⟨_,rfl,(show RMaker d _ (⟨b.name,W⟩:Maker) from ⟨_,rfl,W0⟩)⟩)
 rw [<- f] at N
 clear f
 refine go fun a J=>?_
 replace N:=N.ar [1] [6,6,2,6,6,6,6]
 refine U0 _ _ _ (by subst n;omega) ⟨(k+1),(true),(g1),((jL g W.name (⟨b.name,W⟩:Maker))),rfl,⟨J.pk,N⟩,?_⟩
 refine ⟨?_,W2⟩
 rw [h0,zA X0];simp [xY, *]
 replace N:=N.nf
 obtain ⟨i1,f⟩:∃X,X=(vR j W.name (.agg #[.string b.name,.string W.name,.slice V2 W.fields.length G2])):=⟨_,rfl⟩
 have X2:MapRel (RVa RMaker d) i1 (jL g W.name (⟨b.name,W⟩:Maker)):=by rw [f];exact (MapRel.once p ⟨_,rfl,(show RMaker d _ (⟨b.name,W⟩:Maker) from ⟨_,rfl,W0⟩)⟩)
 rw [<- f] at N
 clear f
 refine go fun a J=>?_
 replace N:=N.ar [1] [6,6,2,6,6,6,6]
 refine U0 _ _ _ (by subst n;omega) ⟨(k+1),(false),(i1),((jL g W.name (⟨b.name,W⟩:Maker))),rfl,⟨J.pk,N⟩,?_⟩
 refine ⟨?_,X2⟩
 rw [h0,zA X0];simp [xY, *]
 refine go fun a J=>?_
 replace N:=N.dl [0]
 refine U0 _ _ _ (by subst n;omega) ⟨(k+1),(false),(j),(g),rfl,⟨J.pk,N⟩,?_⟩
 refine ⟨?_,p⟩
 rw [h0,zA X0];simp [xY, *]
 refine go fun a J=>?_
 replace N:=N.dl [0]
 refine o0 _ _ _ (by subst n;omega) ⟨(i+1),(o2),(m0),(l0),(j),(g),rfl,⟨J.pk,N⟩,?_⟩
 refine ⟨?_,r0,p⟩
 rw [zB P2] at h0
 rw [g0,zA q0,gR]
 simp only [xY] at h0
 have Y:aK false l0 b=false:=by simp [aK,yU, *]
 have Z:pW false l0 b=l0:=by simp [pW,yU, *]
 rw [Y,Z,h0]
 refine yH call158 (fun d2 w N a J=>?_) (fun d2 w N a J=>?_) (c:=mK G N)
 refine go fun a J=>?_
 by_cases T4:b.name=(⟨#[73,110,116]⟩:Bs)
 refine go fun a J=>?_
 refine zU (J.ks [1,4,7,25,26,27,59,60]) N (fun R mm a w=>∃(k:Nat) (o2:Bool) (j:List (Bs×Value)) (g:List (Bs×Maker)),mm=b.cons.length - k/\R d [(5,.bool o2),(61,.int .i64 k)] [(4,.mp S0 j)] a w/\(xY b.name false l1 b.cons=xY b.name o2 g (b.cons.drop k)/\MapRel (RVa RMaker d) j g)) (b.cons.length - 0) ⟨0,false,m1,l1,rfl,⟨J.pk,N⟩,⟨rfl,r1⟩⟩ ?_
 clear N J
 rintro mm a w ⟨k,o2,j,g,n,⟨J,N⟩,I⟩ A4 s0
 replace N:=N.nf
 obtain ⟨I,p⟩:=I
 by_cases K1:k < b.cons.length
 refine go fun a J=>?_
 obtain ⟨l5,rfl,s,H0,B3,U3,M3,B0⟩:=T0.el p0 K1
 obtain ⟨s5,rfl,H2⟩:=id B0
 obtain ⟨S1,C1,rfl,b4,j4⟩:=H2.fm
 refine Alc fun I4 w N a J=>?_
 refine Sto 0 fun w N a J=>?_
 refine Reg [1,1,1,2,0,1,1,1,1,1,2,1,2,1,2,2,1,0,1,1] [0,1,2,3,4,6,7] fun w N a J=>?_
 refine go fun a J=>?_
 cases o2
 refine go fun a J=>?_
 replace N:=N.dl [0]
 refine s0 _ _ _ (by subst n;omega) ⟨(k+1),(false),(j),(g),rfl,⟨J.pk,N⟩,?_⟩
 refine ⟨?_,p⟩
 rw [I,zA H0];simp [xY, *]
 refine yH call158 (fun e2 w N a J=>?_) (fun e2 w N a J=>?_) (c:=mK G N)
 refine mP fun a J=>?_
 replace N:=N.pl 5
 refine yH call160 (fun f2 w N a J=>?_) (fun f2 w N a J=>?_) (c:=pQ (m:=j) (l:=g) (x:=(⟨b.name,s⟩:Maker)) p (show RMaker d _ (⟨b.name,s⟩:Maker) from ⟨_,rfl,B0⟩) N)
 replace N:=N.nf
 obtain ⟨j1,f⟩:∃X,X=(vR j s.name (.agg #[.string b.name,.string s.name,.slice S1 s.fields.length C1])):=⟨_,rfl⟩
 have Y2:MapRel (RVa RMaker d) j1 (jL g s.name (⟨b.name,s⟩:Maker)):=by rw [f];exact (MapRel.once p ⟨_,rfl,(show RMaker d _ (⟨b.name,s⟩:Maker) from ⟨_,rfl,B0⟩)⟩)
 rw [<- f] at N
 clear f
 refine go fun a J=>?_
 replace N:=N.ar [1] [6,6,2,6,6,6,6]
 refine s0 _ _ _ (by subst n;omega) ⟨(k+1),(true),(j1),((jL g s.name (⟨b.name,s⟩:Maker))),rfl,⟨J.pk,N⟩,?_⟩
 refine ⟨?_,Y2⟩
 rw [I,zA H0];simp [xY, *]
 replace N:=N.nf
 obtain ⟨k1,f⟩:∃X,X=(vR j s.name (.agg #[.string b.name,.string s.name,.slice S1 s.fields.length C1])):=⟨_,rfl⟩
 have Z2:MapRel (RVa RMaker d) k1 (jL g s.name (⟨b.name,s⟩:Maker)):=by rw [f];exact (MapRel.once p ⟨_,rfl,(show RMaker d _ (⟨b.name,s⟩:Maker) from ⟨_,rfl,B0⟩)⟩)
 rw [<- f] at N
 clear f
 refine go fun a J=>?_
 replace N:=N.ar [1] [6,6,2,6,6,6,6]
 refine s0 _ _ _ (by subst n;omega) ⟨(k+1),(false),(k1),((jL g s.name (⟨b.name,s⟩:Maker))),rfl,⟨J.pk,N⟩,?_⟩
 refine ⟨?_,Z2⟩
 rw [I,zA H0];simp [xY, *]
 refine go fun a J=>?_
 replace N:=N.dl [0]
 refine s0 _ _ _ (by subst n;omega) ⟨(k+1),(false),(j),(g),rfl,⟨J.pk,N⟩,?_⟩
 refine ⟨?_,p⟩
 rw [I,zA H0];simp [xY, *]
 refine go fun a J=>?_
 replace N:=N.dl [0]
 refine o0 _ _ _ (by subst n;omega) ⟨(i+1),(o2),(m0),(l0),(j),(g),rfl,⟨J.pk,N⟩,?_⟩
 refine ⟨?_,r0,p⟩
 rw [zB K1] at I
 rw [g0,zA q0,gR]
 simp only [xY] at I
 have Y:aK true l0 b=false:=by simp [aK,yU, *]
 have Z:pW true l0 b=l0:=by simp [pW,yU, *]
 rw [Y,Z,I]
 replace N:=N.pl 5
 refine yH call159 (fun g2 w N a J=>?_) (fun g2 w N a J=>?_) (c:=q4r (m:=m0) (l:=l0) (x:=b) r0 V0 N)
 replace N:=N.nf
 obtain ⟨Y0,f⟩:∃X,X=(vR m0 b.name (.agg #[.string b.name,.slice U2 b.cons.length F2])):=⟨_,rfl⟩
 have a2:MapRel (RVa RData d) Y0 (jL l0 b.name b):=by rw [f];exact (MapRel.once r0 ⟨_,rfl,V0⟩)
 rw [<- f] at N
 clear f
 by_cases U4:0 < b.cons.length
 refine go fun a J=>?_
 refine zU (J.ks [1,4,7,25,26,27,59,60]) N (fun R mm a w=>∃(k:Nat) (o2:Bool) (j:List (Bs×Value)) (g:List (Bs×Maker)),mm=b.cons.length - k/\R d [(5,.bool o2),(61,.int .i64 k)] [(5,.mp S0 j)] a w/\(xY b.name true l1 b.cons=xY b.name o2 g (b.cons.drop k)/\MapRel (RVa RMaker d) j g)) (b.cons.length - 0) ⟨0,true,m1,l1,rfl,⟨J.pk,N⟩,⟨rfl,r1⟩⟩ ?_
 clear N J
 rintro mm a w ⟨k,o2,j,g,n,⟨J,N⟩,L⟩ B4 t0
 replace N:=N.nf
 obtain ⟨L,p⟩:=L
 by_cases L1:k < b.cons.length
 refine go fun a J=>?_
 obtain ⟨m5,rfl,t,I0,C3,V3,N3,C0⟩:=T0.el p0 L1
 obtain ⟨t5,rfl,I2⟩:=id C0
 obtain ⟨T1,D1,rfl,c4,k4⟩:=I2.fm
 refine Alc fun J4 w N a J=>?_
 refine Sto 0 fun w N a J=>?_
 refine Reg [1,1,1,2,0,1,1,1,1,1,2,1,2,1,2,2,1,0,1,1] [0,1,2,3,4,5,7] fun w N a J=>?_
 refine go fun a J=>?_
 cases o2
 refine go fun a J=>?_
 replace N:=N.dl [0]
 refine t0 _ _ _ (by subst n;omega) ⟨(k+1),(false),(j),(g),rfl,⟨J.pk,N⟩,?_⟩
 refine ⟨?_,p⟩
 rw [L,zA I0];simp [xY, *]
 refine yH call158 (fun h2 w N a J=>?_) (fun h2 w N a J=>?_) (c:=mK G N)
 refine mP fun a J=>?_
 replace N:=N.pl 6
 refine yH call160 (fun i2 w N a J=>?_) (fun i2 w N a J=>?_) (c:=pQ (m:=j) (l:=g) (x:=(⟨b.name,t⟩:Maker)) p (show RMaker d _ (⟨b.name,t⟩:Maker) from ⟨_,rfl,C0⟩) N)
 replace N:=N.nf
 obtain ⟨n1,f⟩:∃X,X=(vR j t.name (.agg #[.string b.name,.string t.name,.slice T1 t.fields.length D1])):=⟨_,rfl⟩
 have a3:MapRel (RVa RMaker d) n1 (jL g t.name (⟨b.name,t⟩:Maker)):=by rw [f];exact (MapRel.once p ⟨_,rfl,(show RMaker d _ (⟨b.name,t⟩:Maker) from ⟨_,rfl,C0⟩)⟩)
 rw [<- f] at N
 clear f
 refine go fun a J=>?_
 replace N:=N.ar [1] [6,1,6,6,6,6,6]
 refine t0 _ _ _ (by subst n;omega) ⟨(k+1),(true),(n1),((jL g t.name (⟨b.name,t⟩:Maker))),rfl,⟨J.pk,N⟩,?_⟩
 refine ⟨?_,a3⟩
 rw [L,zA I0];simp [xY, *]
 replace N:=N.nf
 obtain ⟨o1,f⟩:∃X,X=(vR j t.name (.agg #[.string b.name,.string t.name,.slice T1 t.fields.length D1])):=⟨_,rfl⟩
 have b3:MapRel (RVa RMaker d) o1 (jL g t.name (⟨b.name,t⟩:Maker)):=by rw [f];exact (MapRel.once p ⟨_,rfl,(show RMaker d _ (⟨b.name,t⟩:Maker) from ⟨_,rfl,C0⟩)⟩)
 rw [<- f] at N
 clear f
 refine go fun a J=>?_
 replace N:=N.ar [1] [6,1,6,6,6,6,6]
 refine t0 _ _ _ (by subst n;omega) ⟨(k+1),(false),(o1),((jL g t.name (⟨b.name,t⟩:Maker))),rfl,⟨J.pk,N⟩,?_⟩
 refine ⟨?_,b3⟩
 rw [L,zA I0];simp [xY, *]
 refine go fun a J=>?_
 replace N:=N.dl [0]
 refine t0 _ _ _ (by subst n;omega) ⟨(k+1),(false),(j),(g),rfl,⟨J.pk,N⟩,?_⟩
 refine ⟨?_,p⟩
 rw [L,zA I0];simp [xY, *]
 refine go fun a J=>?_
 replace N:=N.ar [1] [5,1,5,5,5,5]
 refine o0 _ _ _ (by subst n;omega) ⟨(i+1),(o2),(Y0),((jL l0 b.name b)),(j),(g),rfl,⟨J.pk,N⟩,?_⟩
 refine ⟨?_,a2,p⟩
 rw [zB L1] at L
 rw [g0,zA q0,gR]
 simp only [xY] at L
 have Y:aK true l0 b=true:=by simp [aK,yU, *]
 have Z:pW true l0 b=(jL l0 b.name b):=by simp [pW,yU, *]
 rw [Y,Z,L]
 refine go fun a J=>?_
 refine zU (J.ks [1,4,7,25,26,27,59,60]) N (fun R mm a w=>∃(k:Nat) (o2:Bool) (j:List (Bs×Value)) (g:List (Bs×Maker)),mm=b.cons.length - k/\R d [(5,.bool o2),(61,.int .i64 k)] [(5,.mp S0 j)] a w/\(xY b.name false l1 b.cons=xY b.name o2 g (b.cons.drop k)/\MapRel (RVa RMaker d) j g)) (b.cons.length - 0) ⟨0,false,m1,l1,rfl,⟨J.pk,N⟩,⟨rfl,r1⟩⟩ ?_
 clear N J
 rintro mm a w ⟨k,o2,j,g,n,⟨J,N⟩,M⟩ C4 u0
 replace N:=N.nf
 obtain ⟨M,p⟩:=M
 by_cases M1:k < b.cons.length
 refine go fun a J=>?_
 obtain ⟨n5,rfl,u,J0,D3,W3,O3,D0⟩:=T0.el p0 M1
 obtain ⟨u5,rfl,J2⟩:=id D0
 obtain ⟨U1,E1,rfl,d4,l4⟩:=J2.fm
 refine Alc fun K4 w N a J=>?_
 refine Sto 0 fun w N a J=>?_
 refine Reg [1,1,1,2,0,1,1,1,1,1,2,1,2,1,2,2,1,0,1,1] [0,1,2,3,4,5,7] fun w N a J=>?_
 refine go fun a J=>?_
 cases o2
 refine go fun a J=>?_
 replace N:=N.dl [0]
 refine u0 _ _ _ (by subst n;omega) ⟨(k+1),(false),(j),(g),rfl,⟨J.pk,N⟩,?_⟩
 refine ⟨?_,p⟩
 rw [M,zA J0];simp [xY, *]
 refine yH call158 (fun j2 w N a J=>?_) (fun j2 w N a J=>?_) (c:=mK G N)
 refine mP fun a J=>?_
 replace N:=N.pl 6
 refine yH call160 (fun k2 w N a J=>?_) (fun k2 w N a J=>?_) (c:=pQ (m:=j) (l:=g) (x:=(⟨b.name,u⟩:Maker)) p (show RMaker d _ (⟨b.name,u⟩:Maker) from ⟨_,rfl,D0⟩) N)
 replace N:=N.nf
 obtain ⟨p1,f⟩:∃X,X=(vR j u.name (.agg #[.string b.name,.string u.name,.slice U1 u.fields.length E1])):=⟨_,rfl⟩
 have d3:MapRel (RVa RMaker d) p1 (jL g u.name (⟨b.name,u⟩:Maker)):=by rw [f];exact (MapRel.once p ⟨_,rfl,(show RMaker d _ (⟨b.name,u⟩:Maker) from ⟨_,rfl,D0⟩)⟩)
 rw [<- f] at N
 clear f
 refine go fun a J=>?_
 replace N:=N.ar [1] [6,1,6,6,6,6,6]
 refine u0 _ _ _ (by subst n;omega) ⟨(k+1),(true),(p1),((jL g u.name (⟨b.name,u⟩:Maker))),rfl,⟨J.pk,N⟩,?_⟩
 refine ⟨?_,d3⟩
 rw [M,zA J0];simp [xY, *]
 replace N:=N.nf
 obtain ⟨q1,f⟩:∃X,X=(vR j u.name (.agg #[.string b.name,.string u.name,.slice U1 u.fields.length E1])):=⟨_,rfl⟩
 have e3:MapRel (RVa RMaker d) q1 (jL g u.name (⟨b.name,u⟩:Maker)):=by rw [f];exact (MapRel.once p ⟨_,rfl,(show RMaker d _ (⟨b.name,u⟩:Maker) from ⟨_,rfl,D0⟩)⟩)
 rw [<- f] at N
 clear f
 refine go fun a J=>?_
 replace N:=N.ar [1] [6,1,6,6,6,6,6]
 refine u0 _ _ _ (by subst n;omega) ⟨(k+1),(false),(q1),((jL g u.name (⟨b.name,u⟩:Maker))),rfl,⟨J.pk,N⟩,?_⟩
 refine ⟨?_,e3⟩
 rw [M,zA J0];simp [xY, *]
 refine go fun a J=>?_
 replace N:=N.dl [0]
 refine u0 _ _ _ (by subst n;omega) ⟨(k+1),(false),(j),(g),rfl,⟨J.pk,N⟩,?_⟩
 refine ⟨?_,p⟩
 rw [M,zA J0];simp [xY, *]
 refine go fun a J=>?_
 replace N:=N.ar [1] [5,1,5,5,5,5]
 refine o0 _ _ _ (by subst n;omega) ⟨(i+1),(o2),(Y0),((jL l0 b.name b)),(j),(g),rfl,⟨J.pk,N⟩,?_⟩
 refine ⟨?_,a2,p⟩
 rw [zB M1] at M
 rw [g0,zA q0,gR]
 simp only [xY] at M
 have Y:aK true l0 b=false:=by simp [aK,yU, *]
 have Z:pW true l0 b=(jL l0 b.name b):=by simp [pW,yU, *]
 rw [Y,Z,M]
 replace N:=N.nf
 obtain ⟨t1,f⟩:∃X,X=(vR m0 b.name (.agg #[.string b.name,.slice U2 b.cons.length F2])):=⟨_,rfl⟩
 have f3:MapRel (RVa RData d) t1 (jL l0 b.name b):=by rw [f];exact (MapRel.once r0 ⟨_,rfl,V0⟩)
 rw [<- f] at N
 clear f
 refine go fun a J=>?_
 refine zU (J.ks [1,4,7,25,26,27,59,60]) N (fun R mm a w=>∃(k:Nat) (o2:Bool) (j:List (Bs×Value)) (g:List (Bs×Maker)),mm=b.cons.length - k/\R d [(5,.bool o2),(61,.int .i64 k)] [(5,.mp S0 j)] a w/\(xY b.name false l1 b.cons=xY b.name o2 g (b.cons.drop k)/\MapRel (RVa RMaker d) j g)) (b.cons.length - 0) ⟨0,false,m1,l1,rfl,⟨J.pk,N⟩,⟨rfl,r1⟩⟩ ?_
 clear N J
 rintro mm a w ⟨k,o2,j,g,n,⟨J,N⟩,P⟩ D4 w0
 replace N:=N.nf
 obtain ⟨P,p⟩:=P
 by_cases N1:k < b.cons.length
 refine go fun a J=>?_
 obtain ⟨o5,rfl,z,K0,E3,X3,P3,E0⟩:=T0.el p0 N1
 obtain ⟨v5,rfl,K2⟩:=id E0
 obtain ⟨V1,F1,rfl,e4,m4⟩:=K2.fm
 refine Alc fun L4 w N a J=>?_
 refine Sto 0 fun w N a J=>?_
 refine Reg [1,1,1,2,0,1,1,1,1,1,2,1,2,1,2,2,1,0,1,1] [0,1,2,3,4,5,7] fun w N a J=>?_
 refine go fun a J=>?_
 cases o2
 refine go fun a J=>?_
 replace N:=N.dl [0]
 refine w0 _ _ _ (by subst n;omega) ⟨(k+1),(false),(j),(g),rfl,⟨J.pk,N⟩,?_⟩
 refine ⟨?_,p⟩
 rw [P,zA K0];simp [xY, *]
 refine yH call158 (fun n2 w N a J=>?_) (fun n2 w N a J=>?_) (c:=mK G N)
 refine mP fun a J=>?_
 replace N:=N.pl 6
 refine yH call160 (fun p2 w N a J=>?_) (fun p2 w N a J=>?_) (c:=pQ (m:=j) (l:=g) (x:=(⟨b.name,z⟩:Maker)) p (show RMaker d _ (⟨b.name,z⟩:Maker) from ⟨_,rfl,E0⟩) N)
 replace N:=N.nf
 obtain ⟨u1,f⟩:∃X,X=(vR j z.name (.agg #[.string b.name,.string z.name,.slice V1 z.fields.length F1])):=⟨_,rfl⟩
 have g3:MapRel (RVa RMaker d) u1 (jL g z.name (⟨b.name,z⟩:Maker)):=by rw [f];exact (MapRel.once p ⟨_,rfl,(show RMaker d _ (⟨b.name,z⟩:Maker) from ⟨_,rfl,E0⟩)⟩)
 rw [<- f] at N
 clear f
 refine go fun a J=>?_
 replace N:=N.ar [1] [6,1,6,6,6,6,6]
 refine w0 _ _ _ (by subst n;omega) ⟨(k+1),(true),(u1),((jL g z.name (⟨b.name,z⟩:Maker))),rfl,⟨J.pk,N⟩,?_⟩
 refine ⟨?_,g3⟩
 rw [P,zA K0];simp [xY, *]
 replace N:=N.nf
 obtain ⟨v1,f⟩:∃X,X=(vR j z.name (.agg #[.string b.name,.string z.name,.slice V1 z.fields.length F1])):=⟨_,rfl⟩
 have h3:MapRel (RVa RMaker d) v1 (jL g z.name (⟨b.name,z⟩:Maker)):=by rw [f];exact (MapRel.once p ⟨_,rfl,(show RMaker d _ (⟨b.name,z⟩:Maker) from ⟨_,rfl,E0⟩)⟩)
 rw [<- f] at N
 clear f
 refine go fun a J=>?_
 replace N:=N.ar [1] [6,1,6,6,6,6,6]
 refine w0 _ _ _ (by subst n;omega) ⟨(k+1),(false),(v1),((jL g z.name (⟨b.name,z⟩:Maker))),rfl,⟨J.pk,N⟩,?_⟩
 refine ⟨?_,h3⟩
 rw [P,zA K0];simp [xY, *]
 refine go fun a J=>?_
 replace N:=N.dl [0]
 refine w0 _ _ _ (by subst n;omega) ⟨(k+1),(false),(j),(g),rfl,⟨J.pk,N⟩,?_⟩
 refine ⟨?_,p⟩
 rw [P,zA K0];simp [xY, *]
 refine go fun a J=>?_
 replace N:=N.ar [1] [5,1,5,5,5,5]
 refine o0 _ _ _ (by subst n;omega) ⟨(i+1),(o2),(t1),((jL l0 b.name b)),(j),(g),rfl,⟨J.pk,N⟩,?_⟩
 refine ⟨?_,f3,p⟩
 rw [zB N1] at P
 rw [g0,zA q0,gR]
 simp only [xY] at P
 have Y:aK true l0 b=false:=by simp [aK,yU, *]
 have Z:pW true l0 b=(jL l0 b.name b):=by simp [pW,yU, *]
 rw [Y,Z,P]
 refine go fun a J=>?_
 refine zU (J.ks [1,4,7,25,26,27,59,60]) N (fun R mm a w=>∃(k:Nat) (o2:Bool) (j:List (Bs×Value)) (g:List (Bs×Maker)),mm=b.cons.length - k/\R d [(5,.bool o2),(61,.int .i64 k)] [(4,.mp S0 j)] a w/\(xY b.name false l1 b.cons=xY b.name o2 g (b.cons.drop k)/\MapRel (RVa RMaker d) j g)) (b.cons.length - 0) ⟨0,false,m1,l1,rfl,⟨J.pk,N⟩,⟨rfl,r1⟩⟩ ?_
 clear N J
 rintro mm a w ⟨k,o2,j,g,n,⟨J,N⟩,S⟩ E4 x0
 replace N:=N.nf
 obtain ⟨S,p⟩:=S
 by_cases O1:k < b.cons.length
 refine go fun a J=>?_
 obtain ⟨p5,rfl,A,L0,F3,Y3,Q3,F0⟩:=T0.el p0 O1
 obtain ⟨w5,rfl,L2⟩:=id F0
 obtain ⟨W1,G1,rfl,f4,n4⟩:=L2.fm
 refine Alc fun M4 w N a J=>?_
 refine Sto 0 fun w N a J=>?_
 refine Reg [1,1,1,2,0,1,1,1,1,1,2,1,2,1,2,2,1,0,1,1] [0,1,2,3,4,6,7] fun w N a J=>?_
 refine go fun a J=>?_
 cases o2
 refine go fun a J=>?_
 replace N:=N.dl [0]
 refine x0 _ _ _ (by subst n;omega) ⟨(k+1),(false),(j),(g),rfl,⟨J.pk,N⟩,?_⟩
 refine ⟨?_,p⟩
 rw [S,zA L0];simp [xY, *]
 refine yH call158 (fun q2 w N a J=>?_) (fun q2 w N a J=>?_) (c:=mK G N)
 refine mP fun a J=>?_
 replace N:=N.pl 5
 refine yH call160 (fun t2 w N a J=>?_) (fun t2 w N a J=>?_) (c:=pQ (m:=j) (l:=g) (x:=(⟨b.name,A⟩:Maker)) p (show RMaker d _ (⟨b.name,A⟩:Maker) from ⟨_,rfl,F0⟩) N)
 replace N:=N.nf
 obtain ⟨w1,f⟩:∃X,X=(vR j A.name (.agg #[.string b.name,.string A.name,.slice W1 A.fields.length G1])):=⟨_,rfl⟩
 have i3:MapRel (RVa RMaker d) w1 (jL g A.name (⟨b.name,A⟩:Maker)):=by rw [f];exact (MapRel.once p ⟨_,rfl,(show RMaker d _ (⟨b.name,A⟩:Maker) from ⟨_,rfl,F0⟩)⟩)
 rw [<- f] at N
 clear f
 refine go fun a J=>?_
 replace N:=N.ar [1] [6,6,2,6,6,6,6]
 refine x0 _ _ _ (by subst n;omega) ⟨(k+1),(true),(w1),((jL g A.name (⟨b.name,A⟩:Maker))),rfl,⟨J.pk,N⟩,?_⟩
 refine ⟨?_,i3⟩
 rw [S,zA L0];simp [xY, *]
 replace N:=N.nf
 obtain ⟨x1,f⟩:∃X,X=(vR j A.name (.agg #[.string b.name,.string A.name,.slice W1 A.fields.length G1])):=⟨_,rfl⟩
 have j3:MapRel (RVa RMaker d) x1 (jL g A.name (⟨b.name,A⟩:Maker)):=by rw [f];exact (MapRel.once p ⟨_,rfl,(show RMaker d _ (⟨b.name,A⟩:Maker) from ⟨_,rfl,F0⟩)⟩)
 rw [<- f] at N
 clear f
 refine go fun a J=>?_
 replace N:=N.ar [1] [6,6,2,6,6,6,6]
 refine x0 _ _ _ (by subst n;omega) ⟨(k+1),(false),(x1),((jL g A.name (⟨b.name,A⟩:Maker))),rfl,⟨J.pk,N⟩,?_⟩
 refine ⟨?_,j3⟩
 rw [S,zA L0];simp [xY, *]
 refine go fun a J=>?_
 replace N:=N.dl [0]
 refine x0 _ _ _ (by subst n;omega) ⟨(k+1),(false),(j),(g),rfl,⟨J.pk,N⟩,?_⟩
 refine ⟨?_,p⟩
 rw [S,zA L0];simp [xY, *]
 refine go fun a J=>?_
 replace N:=N.dl [0]
 refine o0 _ _ _ (by subst n;omega) ⟨(i+1),(o2),(m0),(l0),(j),(g),rfl,⟨J.pk,N⟩,?_⟩
 refine ⟨?_,r0,p⟩
 rw [zB O1] at S
 rw [g0,zA q0,gR]
 simp only [xY] at S
 have Y:aK true l0 b=false:=by simp [aK,yU, *]
 have Z:pW true l0 b=l0:=by simp [pW,yU, *]
 rw [Y,Z,S]
 refine go fun a J=>?_
 have y2:=g0
 rw [zB O2] at y2
 simp only [uB] at y2
 refine go fun a J=>?_
 refine zU (J.ks [1,4,87,88]) N (fun R mm a w=>∃(i:Nat) (oF:Bool) (m2:List (Bs×Value)) (l2:List (Bs×Fun)),mm=c.funs.length - i/\R d [(5,.bool oF),(89,.int .i64 i)] [(2,.mp u3 m2)] a w/\(uC o [] c.funs=uC oF l2 (c.funs.drop i)/\MapRel (RVa RFun d) m2 l2)) (c.funs.length - 0) ⟨0,o,[],[],rfl,⟨J.pk,N⟩,⟨rfl,MapRel.nil⟩⟩ ?_
 clear N J
 rintro mm a w ⟨i,oF,m2,l2,n,⟨J,N⟩,c0⟩ F4 y0
 replace N:=N.nf
 obtain ⟨c0,r2⟩:=c0
 by_cases P1:i < c.funs.length
 refine go fun a J=>?_
 obtain ⟨q5,rfl,r,M0,G3,Z3,R3,G0⟩:=h8.el S2 P1
 obtain ⟨x5,N4,rfl,M2,N2⟩:=id G0
 obtain ⟨X1,H1,rfl,g4,o4⟩:=M2.fm
 obtain ⟨Y1,I1,Z1,J1,rfl,T3,V4,W4,h4,p4,i4,r4⟩:=REx.fm N2
 refine Alc fun O4 w N a J=>?_
 refine Sto 0 fun w N a J=>?_
 refine Reg [1,1,1,2,0,1,1,1,1,1,2,1,2,2,0,1,1] [0,1,2,4,5,6] fun w N a J=>?_
 refine go fun a J=>?_
 cases oF
 refine go fun a J=>?_
 replace N:=N.dl [0]
 refine y0 _ _ _ (by subst n;omega) ⟨(i+1),(false),(m2),(l2),rfl,⟨J.pk,N⟩,?_⟩
 refine ⟨?_,r2⟩
 rw [c0,zA M0];simp [uC, *]
 refine yH call161 (fun u2 w N a J=>?_) (fun u2 w N a J=>?_) (c:=tI G N)
 replace N:=N.pl 3
 refine yH call162 (fun v2 w N a J=>?_) (fun v2 w N a J=>?_) (c:=q8n (m:=m2) (l:=l2) (x:=r) r2 G0 N)
 replace N:=N.nf
 obtain ⟨y1,f⟩:∃X,X=(vR m2 r.name (.agg #[.string r.name,.slice X1 r.params.length H1,.string r.result,.int .i64 (r.body.kind),.int .i64 (r.body.num),.string r.body.name,.slice Y1 r.body.args.length I1,.slice Z1 r.body.arms.length J1])):=⟨_,rfl⟩
 have k3:MapRel (RVa RFun d) y1 (jL l2 r.name r):=by rw [f];exact (MapRel.once r2 ⟨_,rfl,G0⟩)
 rw [<- f] at N
 clear f
 refine go fun a J=>?_
 replace N:=N.ar [1] [5,5,5,3,5,5]
 refine y0 _ _ _ (by subst n;omega) ⟨(i+1),(true),(y1),((jL l2 r.name r)),rfl,⟨J.pk,N⟩,?_⟩
 refine ⟨?_,k3⟩
 rw [c0,zA M0];simp [uC, *]
 replace N:=N.nf
 obtain ⟨z1,f⟩:∃X,X=(vR m2 r.name (.agg #[.string r.name,.slice X1 r.params.length H1,.string r.result,.int .i64 (r.body.kind),.int .i64 (r.body.num),.string r.body.name,.slice Y1 r.body.args.length I1,.slice Z1 r.body.arms.length J1])):=⟨_,rfl⟩
 have n3:MapRel (RVa RFun d) z1 (jL l2 r.name r):=by rw [f];exact (MapRel.once r2 ⟨_,rfl,G0⟩)
 rw [<- f] at N
 clear f
 refine go fun a J=>?_
 replace N:=N.ar [1] [5,5,5,3,5,5]
 refine y0 _ _ _ (by subst n;omega) ⟨(i+1),(false),(z1),((jL l2 r.name r)),rfl,⟨J.pk,N⟩,?_⟩
 refine ⟨?_,n3⟩
 rw [c0,zA M0];simp [uC, *]
 refine go fun a J=>?_
 replace N:=N.dl [0]
 refine y0 _ _ _ (by subst n;omega) ⟨(i+1),(false),(m2),(l2),rfl,⟨J.pk,N⟩,?_⟩
 refine ⟨?_,r2⟩
 rw [c0,zA M0];simp [uC, *]
 refine go fun a J=>?_
 have z2:=c0
 rw [zB P1] at z2
 simp only [uC] at z2
 refine go fun a J=>?_
 refine zU (J.ks [4,111,112]) N (fun R mm a w=>∃(i:Nat) (oI:Bool) (m3:List (Bs×Value)) (l3:List (Bs×Bs)),mm=c.inputs.length - i/\R d [(5,.bool oI),(113,.int .i64 i)] [(1,.mp v3 m3)] a w/\(uD oF [] c.inputs=uD oI l3 (c.inputs.drop i)/\MapRel RVs m3 l3)) (c.inputs.length - 0) ⟨0,oF,[],[],rfl,⟨J.pk,N⟩,⟨rfl,MapRel.nil⟩⟩ ?_
 clear N J
 rintro mm a w ⟨i,oI,m3,l3,n,⟨J,N⟩,T⟩ G4 z0
 replace N:=N.nf
 obtain ⟨T,r3⟩:=T
 by_cases Q1:i < c.inputs.length
 refine go fun a J=>?_
 obtain ⟨r5,rfl,H,N0,H3,a4,S3,B2⟩:=h7.el R2 Q1
 obtain rfl:=id B2
 refine Alc fun P4 w N a J=>?_
 refine Sto 0 fun w N a J=>?_
 refine Reg [1,1,1,2,0,1,1,1,1,1,2,1,2,1,2,0,1,1] [0,1,3,4,5,6] fun w N a J=>?_
 refine go fun a J=>?_
 cases oI
 refine go fun a J=>?_
 replace N:=N.dl [0]
 refine z0 _ _ _ (by subst n;omega) ⟨(i+1),(false),(m3),(l3),rfl,⟨J.pk,N⟩,?_⟩
 refine ⟨?_,r3⟩
 rw [T,zA N0];simp [uD, *]
 refine yH call161 (fun w2 w N a J=>?_) (fun w2 w N a J=>?_) (c:=tI G N)
 replace N:=N.pl 2
 refine yH call163 (fun x2 w N a J=>?_) (fun x2 w N a J=>?_) (c:=j2u (m:=m3) (l:=l3) (x:=H.type) r3 N)
 replace N:=N.nf
 obtain ⟨A1,f⟩:∃X,X=(vR m3 H.name (.string H.type)):=⟨_,rfl⟩
 have o3:MapRel RVs A1 (jL l3 H.name H.type):=by rw [f];exact (MapRel.once r3 rfl)
 rw [<- f] at N
 clear f
 refine go fun a J=>?_
 replace N:=N.ar [1] [5,5,5,5,4,5]
 refine z0 _ _ _ (by subst n;omega) ⟨(i+1),(true),(A1),((jL l3 H.name H.type)),rfl,⟨J.pk,N⟩,?_⟩
 refine ⟨?_,o3⟩
 rw [T,zA N0];simp [uD, *]
 replace N:=N.nf
 obtain ⟨B1,f⟩:∃X,X=(vR m3 H.name (.string H.type)):=⟨_,rfl⟩
 have p3:MapRel RVs B1 (jL l3 H.name H.type):=by rw [f];exact (MapRel.once r3 rfl)
 rw [<- f] at N
 clear f
 refine go fun a J=>?_
 replace N:=N.ar [1] [5,5,5,5,4,5]
 refine z0 _ _ _ (by subst n;omega) ⟨(i+1),(false),(B1),((jL l3 H.name H.type)),rfl,⟨J.pk,N⟩,?_⟩
 refine ⟨?_,p3⟩
 rw [T,zA N0];simp [uD, *]
 refine go fun a J=>?_
 replace N:=N.dl [0]
 refine z0 _ _ _ (by subst n;omega) ⟨(i+1),(false),(m3),(l3),rfl,⟨J.pk,N⟩,?_⟩
 refine ⟨?_,r3⟩
 rw [T,zA N0];simp [uD, *]
 refine go fun a J=>?_
 have B:=N
 clear N
 obtain ⟨w4,f0,N,C⟩:=B.freezeMap (i:=4) rfl
 clear B
 replace b0:=b0.mono f0
 replace G:=G.mono f0
 replace D:=RData.mono _ _ _ _ f0 D
 replace r0:=r0.up f0
 replace r1:=r1.up f0
 replace r2:=r2.up f0
 replace N:=N.nf
 have B:=N
 clear N
 obtain ⟨x4,a0,N,U⟩:=B.freezeMap (i:=3) rfl
 clear B
 replace b0:=b0.mono a0
 replace G:=G.mono a0
 replace D:=RData.mono _ _ _ _ a0 D
 replace r0:=r0.up a0
 replace r1:=r1.up a0
 replace r2:=r2.up a0
 replace C:=C.mono a0
 replace N:=N.nf
 have B:=N
 clear N
 obtain ⟨y4,V,N,i0⟩:=B.freezeMap (i:=2) rfl
 clear B
 replace b0:=b0.mono V
 replace G:=G.mono V
 replace D:=RData.mono _ _ _ _ V D
 replace r0:=r0.up V
 replace r1:=r1.up V
 replace r2:=r2.up V
 replace C:=C.mono V
 replace U:=U.mono V
 replace N:=N.nf
 have B:=N
 clear N
 obtain ⟨z4,F,N,A0⟩:=B.freezeMap (i:=1) rfl
 clear B
 replace b0:=b0.mono F
 replace G:=G.mono F
 replace D:=RData.mono _ _ _ _ F D
 replace r0:=r0.up F
 replace r1:=r1.up F
 replace r2:=r2.up F
 replace C:=C.mono F
 replace U:=U.mono F
 replace i0:=i0.mono F
 replace N:=N.nf
 have B:=N
 clear N
 obtain ⟨c1,E,N,d1⟩:=B.freezeBlk (i:=0) rfl
 clear B
 replace b0:=b0.mono E
 replace G:=G.mono E
 replace D:=RData.mono _ _ _ _ E D
 replace r0:=r0.up E
 replace r1:=r1.up E
 replace r2:=r2.up E
 replace C:=C.mono E
 replace U:=U.mono E
 replace i0:=i0.mono E
 replace A0:=A0.mono E
 replace N:=N.nf
 have hT:RTableX c1 ⟨w3,0,none⟩ ⟨c,l0,l1,l2,l3⟩ _:=⟨⟨[.slice p9 c.datas.length x3,.slice t4 c.inputs.length y3,.slice u4 c.funs.length z3,.slice q4 c.outputs.length A3],_,_,_,_,_,_,_,_,d1,rfl,b0,C,r0,U,r1,i0,r2,A0,r3⟩⟩
 refine jB ?_
 replace N:=N.dl [0]
 rw [zB Q1] at T
 simp only [uD] at T
 obtain ⟨I3,J3⟩:=x9k y2 z2 T
 rw [I3,J3]
 exact ⟨(c1,_),rfl,⟨((((((k0).trans n0).trans f0).trans a0).trans V).trans F).trans E,hT⟩,N⟩
theorem x1p {Φ:Fz} {K:List Res} {w:World} {pt:Addr} {T:Table} {s:Bs} {b:Nat}  (rT:RTable Φ pt T) (N:Mem Φ (.blk b (ob [.pointer (some pt)] 96)::K) w) :
  Calls prog 127 #[.string s,.pointer (some ⟨b,0,none⟩)] w (fun ee w'=>ee=.returned (.bool ((!wI T s)))/\Mem Φ (.blk b (ob [.pointer (some pt)] 96)::K) w'):=by
 refine zL func127 ntmps127 fun Q hQ a J=>?_
 refine zT call128 (fun w N a J=>?_) (c:=z8y rT N)
 refine zD ?_
 exact zP N (by simp [*])
theorem x1q {Φ:Fz} {K:List Res} {w:World} {pz:Option Addr} {cz:Nat} {ds:List Data} {e f g:Value} {d0:List Value} {p:Param} {b:Nat} (d:RParam Φ d0 p) (rd:SliceOf RData Φ 2 (.slice pz ds.length cz) ds) (N:Mem Φ (.blk b (ob [.slice pz ds.length cz,e,f,g] 27)::K) w) :
  Calls prog 130 #[.agg d0.toArray,.pointer (some ⟨b,0,none⟩)] w (fun ee w'=>ee=.returned (.bool ((!vI ds p.type)))/\Mem Φ (.blk b (ob [.slice pz ds.length cz,e,f,g] 27)::K) w'):=by
 obtain rfl:=id d
 refine zL func130 ntmps130 fun Q hQ a J=>?_
 refine Bx fun h w N a J=>?_
 refine zT call131 (fun w N a J=>?_) (c:=q4e rd N)
 refine zD ?_
 replace N:=N.dl [0]
 exact zP N (by simp [*])
theorem x1r {Φ:Fz} {R K:List Res} {w:World} {d0:List Value} {c:Core} {v:Value} (S1:RCoreX Φ d0 c v) (g2:Thaw R Φ v c.outputs) (M:xN c=false) (G:Glob Φ) (N:Mem Φ (R++K) w) :
  Calls prog 90 #[.agg d0.toArray] w (fun ee w'=>∃y:Fz×Addr,ee=.returned (.tuple #[.pointer (some y.2),.bool (jD c)])/\(Φ.Le y.1/\RTableX y.1 y.2 (yK c) v)/\Mem y.1 (R++K) w'):=by
 obtain ⟨s1,s2,s3,q4,O0,rfl,rfl,h6,h7,h8⟩:=id S1
 obtain ⟨p9,L0,rfl,j3,F1⟩:=h6.fm
 obtain ⟨g1,M0,rfl,k3,q3⟩:=h7.fm
 obtain ⟨L1,N0,rfl,l3,G1⟩:=h8.fm
 refine zL func90 ntmps90 fun Q hQ a J=>?_
 refine Bx fun s0 w N a J=>?_
 refine yO call126 (fun P2 w C1 N a J=>?_) (c:=j4k S1 M G N)
 obtain ⟨j,w0⟩:=P2
 obtain ⟨d,h⟩:=C1
 simp only at d h N J
 replace h6:=h6.up d
 replace h7:=h7.up d
 replace h8:=h8.up d
 replace G:=G.mono d
 replace N:=N.nf
 obtain ⟨t,W,I0,D,f⟩:=g2 j _ _ d (N.perm List.perm_middle.symm)
 have N:=I0
 clear I0
 replace h6:=h6.up W
 replace h7:=h7.up W
 replace h8:=h8.up W
 replace G:=G.mono W
 replace N:=N.nf
 obtain ⟨y2,H1⟩:=D.formO (by decide)
 have C:RTable t w0 (yK c):=(h.mono W).full D
 obtain ⟨a3,X3,Y3,Z3,a4,P3,Q3,Q0,R3,n0,f2,o0,w3,z3,x3,A3,g0,h0,y3,B3⟩:=C.ex
 obtain ⟨b4,N3,c4,c66,d4,c72,e4,O3,rfl,S3,T3,U3,V3,m3,r3,n3,t3,o3,u3,p3,v3⟩:=RCore.fm o0
 refine Alc fun t0 w N a J=>?_
 refine Sto 0 fun w N a J=>?_
 refine go fun a J=>?_
 generalize G0:(!(nS c))=o1 at J
 cases o1
 by_cases A1:c.outputs.length=0
 refine jB ?_
 replace N:=N.dl [1,0]
 have hr_:jD c=false:=by
  have X:c.outputs=[]:=List.eq_nil_of_length_eq_zero A1
  simp [jD,X]
 rotate_left
 have F0:nS c=true:=by simpa using G0
 have a2:c.outputs≠[]:=by intro X;simp [X] at A1
 refine go fun a J=>?_
 refine zU (J.ks [1,4,36,37]) N (fun R mm a w=>∃(i:Nat),mm=c.datas.length - i/\R t [(38,.int .i64 i)] [] a w/\(c.datas.all (aT (yK c))=(c.datas.drop i).all (aT (yK c)))) (c.datas.length - 0) ⟨0,rfl,⟨J.pk,N⟩,rfl⟩ ?_
 clear N J
 rintro mm a w ⟨i,P,⟨J,N⟩,l0⟩ M3 E1
 by_cases B1:i < c.datas.length
 refine go fun a J=>?_
 obtain ⟨M2,rfl,e0,J0,U1,j2,b2,a1⟩:=h6.el F1 B1
 obtain ⟨H3,rfl,y0⟩:=id a1
 obtain ⟨C3,p1,rfl,o2,Y0⟩:=y0.fm
 refine Alc fun k1 w N a J=>?_
 refine Sto 0 fun w N a J=>?_
 refine go fun a J=>?_
 refine zU (J.ks [1,4,36,37,38,43,44]) N (fun R mm a w=>∃(k:Nat),mm=e0.cons.length - k/\R t [(45,.int .i64 k)] [] a w/\(aT (yK c) e0=(e0.cons.drop k).all (fun x=>x.fields.all fun s=>wI (yK c) s))) (e0.cons.length - 0) ⟨0,rfl,⟨J.pk,N⟩,rfl⟩ ?_
 clear N J
 rintro mm a w ⟨k,P,⟨J,N⟩,b0⟩ Q2 U0
 by_cases z0:k < e0.cons.length
 refine go fun a J=>?_
 obtain ⟨Q1,rfl,K0,q0,V1,k2,c2,b1⟩:=y0.el Y0 z0
 obtain ⟨I3,rfl,A0⟩:=id b1
 obtain ⟨I1,q1,rfl,p2,z2⟩:=A0.fm
 refine Alc fun l1 w N a J=>?_
 refine Sto 0 fun w N a J=>?_
 replace N:=N.pl 2
 refine yH call69 (fun Y w N a J=>?_) (fun Y w N a J=>?_) (c:=z4f (Φ:=t) (K:=.blk t0 (ob [.pointer (some w0)] 96)::.blk l1 (ob [.string K0.name,.slice I1 K0.fields.length q1] 128)::.blk k1 (ob [.string e0.name,.slice (some Q1) e0.cons.length p1] 126)::.blk s0 (ob [.slice (some M2) c.datas.length L0,.slice g1 c.inputs.length M0,.slice L1 c.funs.length N0,.slice q4 c.outputs.length O0] 27)::K) (p:=fun s=> !wI (yK c) s) (fs:=[]) (cs:=[.pointer (some ⟨t0,0,none⟩)]) A0 call127 (fun x c w hx hc N=>x1p C N) N)
 refine jB ?_
 replace N:=N.dl [3,2,1,0]
 have hr_:jD c=false:=by
  have m:c.datas.all (aT (yK c))=false:=by
   rw [l0,pZ J0,b0,pZ q0]
   simp only [z9y Y,Bool.false_and]
  simp [jD,m]
 rotate_left
 refine go fun a J=>?_
 replace N:=N.ar [1] [2,1,2]
 refine U0 _ _ _ (by subst P;omega) ⟨(k+1),rfl,⟨J.pk,N⟩,?_⟩
 rw [b0,pZ q0];simp only [z9x Y,Bool.true_and]
 refine go fun a J=>?_
 replace N:=N.dl [0]
 refine E1 _ _ _ (by subst P;omega) ⟨(i+1),rfl,⟨J.pk,N⟩,?_⟩
 rw [l0,pZ J0];have u0:=b0;rw [q3d z0] at u0;rw [u0];rfl
 refine go fun a J=>?_
 have Z1:c.datas.all (aT (yK c))=true:=by rw [l0,q3d B1]
 replace N:=N.pl 1
 refine yH call129 (fun Z w N a J=>?_) (fun Z w N a J=>?_) (c:=y8s (Φ:=t) (K:=.blk s0 (ob [.slice p9 c.datas.length L0,.slice g1 c.inputs.length M0,.slice L1 c.funs.length N0,.slice q4 c.outputs.length O0] 27)::.blk t0 (ob [.pointer (some w0)] 96)::K) (p:=fun p=> !vI c.datas p.type) (fs:=[]) (cs:=[.pointer (some ⟨s0,0,none⟩)]) h7 call130 (fun x c w hx hc N=>x1q hc h6 N) N)
 refine jB ?_
 replace N:=N.dl [1,0]
 have hr_:jD c=false:=by
  have m:=z9y Z
  simp [jD,m]
 rotate_left
 have D1:c.inputs.all (fun p=>vI c.datas p.type)=true:=z9x Z
 refine go fun a J=>?_
 refine zU (J.ks [1,4,62,63]) N (fun R mm a w=>∃(i:Nat),mm=c.funs.length - i/\R t [(64,.int .i64 i)] [] a w/\(c.funs.all (nI (yK c))=(c.funs.drop i).all (nI (yK c)))) (c.funs.length - 0) ⟨0,rfl,⟨J.pk,N⟩,rfl⟩ ?_
 clear N J
 rintro mm a w ⟨i,P,⟨J,N⟩,z⟩ R2 V0
 by_cases B0:i < c.funs.length
 refine go fun a J=>?_
 obtain ⟨R1,rfl,b,r,W1,l2,m0,c0⟩:=h8.el G1 B0
 obtain ⟨J3,U2,rfl,C0,U⟩:=id c0
 obtain ⟨J1,r1,rfl,q2,Z0⟩:=C0.fm
 obtain ⟨K1,t1,M1,c175,rfl,h2,b3,d3,r2,A2,t2,B2⟩:=REx.fm U
 refine Alc fun m1 w N a J=>?_
 refine Sto 0 fun w N a J=>?_
 refine go fun a J=>?_
 replace N:=N.nilRow 9 1
 replace N:=N.nf
 refine MkM fun x0 w N a J=>?_
 refine go fun a J=>?_
 replace N:=N.nf
 refine go fun a J=>?_
 refine zU (J.ks [1,4,11,13,62,63,64,70,71]) N (fun R mm a w=>∃(k:Nat) (u:Value) (nl:List Bs) (sc:Scope),mm=b.params.length - k/\R t [(12,u),(72,.int .i64 k)] [(0,.mp x0 (yW sc)),(1,.gs (u) 9 1 (strs nl))] a w/\(b.params.all (fun p=>wI (yK c) p.type)=(b.params.drop k).all (fun p=>wI (yK c) p.type)/\b.params.map Param.name=nl++(b.params.drop k).map Param.name/\sW b.params=(b.params.drop k).foldl (fun s p=>jP s p.name p.type) sc)) (b.params.length - 0) ⟨0,.slice none 0 0,[],[],rfl,⟨J.pk,N⟩,⟨rfl,rfl,rfl⟩⟩ ?_
 clear N J
 rintro mm a w ⟨k,u,nl,sc,P,⟨J,N⟩,E⟩ S2 W0
 replace N:=N.nf
 by_cases D0:k < b.params.length
 refine go fun a J=>?_
 obtain ⟨F3,rfl,r0,S,X1,m2,d2,c1⟩:=C0.el Z0 D0
 obtain rfl:=id c1
 refine Alc fun V2 w N a J=>?_
 refine Sto 0 fun w N a J=>?_
 refine yH call128 (fun a0 w N a J=>?_) (fun a0 w N a J=>?_) (c:=z8y C N)
 refine jQ fun L3 w N a J=>?_
 refine vH 3 xQ (fun T1 w N a J=>?_) (hb:=by have H2:=congrArg List.length (E).2.1;have h_:=(z1z M (mgQ r)).1;simp only [List.length_map,laQ,zR,lcQ,lnQ] at H2 ⊢;omega)
 first | rw [qI] at N | rw [<- yN] at N
 refine z4d 2 runUnderlying195 runUnderlying9 fun w N a J=>?_
 rw [dH] at N
 refine go fun a J=>?_
 replace N:=N.dl [1,0]
 refine W0 _ _ _ (by subst P;omega) ⟨(k+1),(T1),(nl++[r0.name]),((jP sc r0.name r0.type)),rfl,⟨J.pk,N⟩,?_⟩
 obtain ⟨i0,j0,k0⟩:=E
 refine ⟨?_,?_,?_⟩
 rw [i0,pZ S,a0];rfl
 rw [j0,zA S];simp
 rw [k0,zA S];rfl
 refine jB ?_
 replace N:=N.dl [5,4,3,2,1,0]
 have hr_:jD c=false:=by
  obtain ⟨i0,_,_⟩:=E
  have X:nI (yK c) b=false:=by
   have x1:b.params.all (fun p=>wI (yK c) p.type)=false:=by rw [i0,pZ S];simp only [a0,Bool.false_and]
   simp only [nI,x1,Bool.false_and]
  have m:c.funs.all (nI (yK c))=false:=by rw [z,pZ r,X];rfl
  simp [jD,m]
 rotate_left
 refine go fun a J=>?_
 refine yI [2,1,2,0,1,1,1,2,1,0,0,1,1,1,2,1,2,1,0,1,2,1,1] (.q 0 (.q 1 (.q 2 (.e 3 (.q 4 (.q 5 (.q 6 (.q 7 (.q 8 (.e 9 (.e 10 (.q 11 (.q 12 (.q 13 (.q 14 (.q 15 (.q 16 (.q 17 (.q 19 (.q 20 (.e 18 (.q 21 (.q 22 (.done)))))))))))))))))))))))) [2,3,4] J N fun w N=>?_
 obtain ⟨i0,j0,k0⟩:=E
 rw [zB D0] at i0 j0 k0
 simp only [List.map_nil,List.append_nil,List.foldl_nil,List.all_nil] at i0 j0 k0
 replace N:Mem t (.mp x0 (yW (sW b.params))::.gs (u) 9 1 (strs (b.params.map Param.name))::.blk m1 (ob [.string b.name,.slice J1 b.params.length r1,.string b.result,.int .i64 (b.body.kind),.int .i64 (b.body.num),.string b.body.name,.slice K1 b.body.args.length t1,.slice M1 b.body.arms.length c175] 112)::.blk s0 (ob [.slice p9 c.datas.length L0,.slice g1 c.inputs.length M0,.slice (some R1) c.funs.length N0,.slice q4 c.outputs.length O0] 27)::.blk t0 (ob [.pointer (some w0)] 96)::K) w:=by rw [j0,k0];exact N
 have V:=N
 clear N
 subst j0
 subst k0
 have N:=V
 clear V
 refine yH call128 (fun S0 w N a J=>?_) (fun S0 w N a J=>?_) (c:=z8y C N)
 refine go fun a J=>?_
 replace N:=N.pl 1
 refine d_eg J rfl rfl rfl rfl rfl (jF J rfl call133 (j1f (l:=(b.params.map Param.name)) (by have h_:=z1z M (mgQ r);simp only [List.length_map];omega) U N) fun v210 w N=>⟨fun _=>N.sn (Fz.Le.refl _),fun a J=>?_⟩)
 replace N:=N.nf
 have H0:=N
 clear N
 obtain ⟨h1,g,N,p0⟩:=H0.freezeRow (i:=0) rfl
 clear H0
 replace G:=G.mono g
 replace D:=D.up g
 replace C:=C.mono g
 replace n0:=n0.mono g
 replace g0:=g0.mono g
 replace h0:=h0.up g
 replace m0:=m0.mono g
 replace c0:=RFun.mono _ _ _ _ g c0
 replace U:=REx.mono _ _ _ _ g U
 replace N:=N.nf
 have f0:SliceOf RStr h1 1 _ (((b.params.map Param.name)++zN b.body)):=SliceOf.strs.2 p0
 obtain ⟨D3,Z2,J2,u2,C2⟩:=f0.form (by decide)
 have V:=N
 clear N
 subst J2
 have N:=V
 clear V
 refine yH call132 (fun T0 w N a J=>?_) (fun T0 w N a J=>?_) (c:=x2x f0 G N)
 refine zT call134 (fun w N a J=>?_) (c:=x9w (q5e M F0) C U N)
 by_cases e3:(zI (yK c) b.body (sW b.params)).1=b.result
 refine go fun a J=>?_
 replace N:=N.le (g)
 replace N:=N.dl [1,0]
 refine V0 _ _ _ (by subst P;omega) ⟨(i+1),rfl,⟨J.pk,N⟩,?_⟩
 rw [z,pZ r];simp [nI, *]
 refine jB ?_
 replace N:=N.dl [3,2,1,0]
 have hr_:jD c=false:=by
  have X:nI (yK c) b=false:=by simp [nI, *]
  have m:c.funs.all (nI (yK c))=false:=by rw [z,pZ r,X];rfl
  simp [jD,m]
 rw [hr_]
 exact ⟨(j,_),rfl,⟨d,h⟩,f _ _ (N.le (g))⟩
 refine jB ?_
 replace N:=N.dl [3,2,1,0]
 have hr_:jD c=false:=by
  have X:nI (yK c) b=false:=by simp [nI, *]
  have m:c.funs.all (nI (yK c))=false:=by rw [z,pZ r,X];rfl
  simp [jD,m]
 rw [hr_]
 exact ⟨(j,_),rfl,⟨d,h⟩,f _ _ (N.le (g))⟩
 refine jB ?_
 replace N:=N.dl [4,3,2,1,0]
 have hr_:jD c=false:=by
  have X:nI (yK c) b=false:=by simp [nI, *]
  have m:c.funs.all (nI (yK c))=false:=by rw [z,pZ r,X];rfl
  simp [jD,m]
 rotate_left
 have u0:c.funs.all (nI (yK c))=true:=by rw [z,q3d B0]
 refine MkM fun n1 w N a J=>?_
 refine go fun a J=>?_
 refine zU (J.ks [4,16,120,121]) N (fun R mm a w=>∃(i:Nat) (ds:List Bs),mm=c.outputs.length - i/\R t [(122,.int .i64 i)] [(0,.mp n1 (mZ ds))] a w/\(nE (yK c) [] c.outputs=nE (yK c) ds (c.outputs.drop i))) (c.outputs.length - 0) ⟨0,[],rfl,⟨J.pk,N⟩,rfl⟩ ?_
 clear N J
 rintro mm a w ⟨i,ds,P,⟨J,N⟩,B⟩ T2 X0
 replace N:=N.nf
 by_cases E0:i < c.outputs.length
 refine go fun a J=>?_
 obtain ⟨G3,rfl,A,T,P0,n2,e2,d1⟩:=D.el H1 E0
 obtain rfl:P0=[.string A]:=d1
 refine go fun a J=>?_
 rcases F:yM (Q0) A with _ | N2
 have H:=congrArg (zJ true (.agg #[.string ⟨#[]⟩,.slice none 0 0,.string ⟨#[]⟩,.int .i64 ((0:Nat):Int),.int .i64 ((0:Nat):Int),.string ⟨#[]⟩,.slice none 0 0,.slice none 0 0])) F
 refine Qq (fun a J=>?_) (o:=by exact fun J O=>Ok.cast (qA runUnderlying115 runUnderlying9 zeroValue112 J O rfl rfl g0) (show zJ true (.agg #[.string ⟨#[]⟩,.slice none 0 0,.string ⟨#[]⟩,.int .i64 ((0:Nat):Int),.int .i64 ((0:Nat):Int),.string ⟨#[]⟩,.slice none 0 0,.slice none 0 0]) (yM (Q0) A)=.tuple #[.agg #[.string ⟨#[]⟩,.slice none 0 0,.string ⟨#[]⟩,.int .i64 ((0:Nat):Int),.int .i64 ((0:Nat):Int),.string ⟨#[]⟩,.slice none 0 0,.slice none 0 0],.bool false] from H))
 refine Alc fun W2 w N a J=>?_
 refine Sto 0 fun w N a J=>?_
 refine jB ?_
 replace N:=N.dl [3,2,1,0]
 have hr_:jD c=false:=by
  have x1:=MapRel.none h0 F
  have m:nE (yK c) [] c.outputs=false:=by rw [B,zA T];simp [nE, *] <;> (intro X;simp_all)
  simp [jD,m]
 rotate_left
 obtain ⟨n,f1,Y1,rfl,e1⟩:=h0.get F
 obtain ⟨K3,X2,rfl,y1,z1⟩:=id e1
 obtain ⟨N1,u1,rfl,v2,D2⟩:=y1.fm
 obtain ⟨O1,v1,P1,w1,rfl,i2,f3,g3,w2,E2,x2,F2⟩:=REx.fm z1
 have H:=congrArg (zJ true (.agg #[.string ⟨#[]⟩,.slice none 0 0,.string ⟨#[]⟩,.int .i64 ((0:Nat):Int),.int .i64 ((0:Nat):Int),.string ⟨#[]⟩,.slice none 0 0,.slice none 0 0])) F
 refine Qq (fun a J=>?_) (o:=by exact fun J O=>Ok.cast (qA runUnderlying115 runUnderlying9 zeroValue112 J O rfl rfl g0) (show zJ true (.agg #[.string ⟨#[]⟩,.slice none 0 0,.string ⟨#[]⟩,.int .i64 ((0:Nat):Int),.int .i64 ((0:Nat):Int),.string ⟨#[]⟩,.slice none 0 0,.slice none 0 0]) (yM (Q0) A)=.tuple #[.agg #[.string n.name,.slice N1 n.params.length u1,.string n.result,.int .i64 (n.body.kind),.int .i64 (n.body.num),.string n.body.name,.slice O1 n.body.args.length v1,.slice P1 n.body.arms.length w1],.bool true] from H))
 refine Alc fun Y2 w N a J=>?_
 refine Sto 0 fun w N a J=>?_
 by_cases h3:0 < n.params.length
 refine jB ?_
 replace N:=N.dl [3,2,1,0]
 have hr_:jD c=false:=by
  have m:nE (yK c) [] c.outputs=false:=by rw [B,zA T];simp [nE, *] <;> (intro X;simp_all)
  simp [jD,m]
 rotate_left
 refine go fun a J=>?_
 rcases I:yM ((mZ ds)) A with _ | O2
 have L:=congrArg (zJ false (.bool false)) I
 refine Qq (fun a J=>?_) (o:=by exact fun J O=>Ok.cast (zW 1 runUnderlying198 runUnderlying9 zeroValue4 J O rfl rfl rfl) (show zJ false (.bool false) (yM ((mZ ds)) A)=.bool false from L))
 refine z4d 1 runUnderlying198 runUnderlying9 fun w N a J=>?_
 rw [<- z5e] at N
 refine go fun a J=>?_
 replace N:=N.dl [0]
 refine X0 _ _ _ (by subst P;omega) ⟨(i+1),(ds++[A]),rfl,⟨J.pk,N⟩,?_⟩
 have G2:=y7q I
 have K2:n.params=[]:=List.eq_nil_of_length_eq_zero (by omega)
 rw [B,zA T];simp [nE,f1,K2,G2]
 obtain ⟨rfl,I2⟩:=y7r I
 have L:=congrArg (zJ false (.bool false)) I
 refine Qq (fun a J=>?_) (o:=by exact fun J O=>Ok.cast (zW 1 runUnderlying198 runUnderlying9 zeroValue4 J O rfl rfl rfl) (show zJ false (.bool false) (yM ((mZ ds)) A)=.bool true from L))
 refine jB ?_
 replace N:=N.dl [3,2,1,0]
 have hr_:jD c=false:=by
  have m:nE (yK c) [] c.outputs=false:=by rw [B,zA T];simp [nE, *] <;> (intro X;simp_all)
  simp [jD,m]
 rotate_left
 refine jB ?_
 replace N:=N.dl [2,1,0]
 have hr_:jD c=true:=by
  have m:nE (yK c) [] c.outputs=true:=by rw [B,zB E0];rfl
  simp [jD,F0,a2,Z1,D1,u0,m]
 rotate_left
 refine jB ?_
 replace N:=N.dl [1,0]
 have hr_:jD c=false:=by
  have X:nS c=false:=by simpa using G0
  simp [jD,X]
 rotate_left
 all_goals (rw [hr_];exact ⟨(j,_),rfl,⟨d,h⟩,f _ _ (N.le (Fz.Le.refl _))⟩)
theorem x7a {Φ:Fz} {R K:List Res} {w:World} {d0:List Value} {c:Core} {v:Value} (l:RCoreX Φ d0 c v) (B:Thaw R Φ v c.outputs) (G:Glob Φ) (N:Mem Φ (R++K) w) :
  Calls prog 53 #[.agg d0.toArray] w (fun ee w'=>∃y:Fz×Addr,ee=.returned (.tuple #[(if yG c=0 then .pointer (some y.2) else .pointer none),.int .i64 (yG c)])/\(Φ.Le y.1/\(yG c=0->RTableX y.1 y.2 (yK c) v/\xN c=false))/\Mem y.1 (R++K) w'):=by
 obtain ⟨Y,Z,s3,S,s,rfl,rfl,T,U,D⟩:=id l
 obtain ⟨P,o,rfl,E,I⟩:=T.fm
 obtain ⟨u,q,rfl,F,L⟩:=U.fm
 obtain ⟨z,r,rfl,H,M⟩:=D.fm
 refine zL func53 ntmps53 fun Q hQ a J=>?_
 refine Bx fun m w N a J=>?_
 refine yH call86 (fun g w N a J=>?_) (fun g w N a J=>?_) (c:=q5v (Φ:=Φ) (K:=.blk m (ob [.slice P c.datas.length o,.slice u c.inputs.length q,.slice z c.funs.length r,.slice S c.outputs.length s] 27)::(R++K)) (p:=fun f=>xS 250 f.body) (fs:=[]) (cs:=[]) D call87 (fun x c w X V N=>x6y V N) N)
 refine jB ?_
 replace N:=N.dl [0]
 have hr_:yG c=6:=by
  simp [yG,g]
 rotate_left
 have d:=g
 refine yH call89 (fun h w N a J=>?_) (fun h w N a J=>?_) (c:=x6x l N)
 refine jB ?_
 replace N:=N.dl [0]
 have hr_:yG c=2:=by
  simp [yG, *]
 rotate_left
 have b:=h
 refine yO call90 (fun C w t N a J=>?_) (c:=x1r (K:=.blk m (ob [.slice P c.datas.length o,.slice u c.inputs.length q,.slice z c.funs.length r,.slice S c.outputs.length s] 27)::K) l B h G (N.perm List.perm_middle.symm))
 obtain ⟨k,W⟩:=C
 obtain ⟨e,i⟩:=t
 simp only at e i N J
 replace N:=N.perm List.perm_middle
 replace G:=G.mono e
 replace N:=N.nf
 refine go fun a J=>?_
 generalize j:(!(jD c))=n at J
 cases n
 refine jB ?_
 replace N:=N.dl [0]
 have hr_:yG c=0:=by
  have A:jD c=true:=by simpa using j
  simp [yG,d,b,A]
 rw [hr_]
 exact ⟨(k,_),rfl,⟨e,fun _=>⟨i,b⟩⟩,N⟩
 refine jB ?_
 replace N:=N.dl [0]
 have hr_:yG c=80:=by
  have A:jD c=false:=by simpa using j
  simp [yG,d,b,A]
 rw [hr_]
 exact ⟨(k,⟨0,0,none⟩),rfl,⟨e,fun h_=>(by cases h_)⟩,N⟩
 all_goals (rw [hr_];exact ⟨(Φ,⟨0,0,none⟩),rfl,⟨Fz.Le.refl _,fun h_=>(by cases h_)⟩,N⟩)
theorem look_ok {Φ:Fz} {K:List Res} {w:World} {d0:List Value} {c:Core} (a:RCore Φ d0 c) (G:Glob Φ) (N:Mem Φ K w) :
  Calls prog 53 #[.agg d0.toArray] w (fun ee w'=>∃y:Fz×Addr,ee=.returned (.tuple #[(if yG c=0 then .pointer (some y.2) else .pointer none),.int .i64 (yG c)])/\(Φ.Le y.1/\(yG c=0->RTable y.1 y.2 (yK c)/\xN c=false))/\Mem y.1 K w'):=by
 obtain ⟨v,i,f⟩:=a.x
 refine (x7a i (Thaw.none f) G N).mono fun ee w' h=>?_
 obtain ⟨y,h1,⟨d,e⟩,g⟩:=h
 exact ⟨y,h1,⟨d,fun b=>⟨(e b).1.full (show SliceOf RStr y.1 1 v c.outputs from f.mono RStr.mono d),(e b).2⟩⟩,g⟩
theorem y3p {Φ:Fz} {K:List Res} {w:World} {d0:List Value} {c:Core} (e:RCore Φ d0 c) (G:Glob Φ) (N:Mem Φ K w) :
  Calls prog 36 #[.agg d0.toArray] w (fun ee w'=>ee=.returned (.int .i64 (yG c))/\Mem Φ K w'):=by
 obtain ⟨F,c4,H,s,A,t,B,c22,rfl,D,E,u,v,y,z,k,n,l,o,m,p⟩:=RCore.fm e
 refine zL func36 ntmps36 fun Q hQ a J=>?_
 refine Bx fun r w N a J=>?_
 refine yO call53 (fun i w g N a J=>?_) (c:=look_ok e G N)
 obtain ⟨q,C⟩:=i
 obtain ⟨d,f⟩:=g
 simp only at d f N J
 replace e:=RCore.mono _ _ _ _ d e
 replace G:=G.mono d
 replace N:=N.nf
 by_cases b:yG c=0
 obtain ⟨j,h⟩:=f b
 rw [if_pos b,b] at J
 refine zD ?_
 replace N:=N.le (d)
 replace N:=N.dl [0]
 exact pY N (by exact b.symm)
 rw [if_neg b] at J
 refine zD ?_
 replace N:=N.le (d)
 replace N:=N.dl [0]
 exact pY N (by rfl)
end Go.Sw
