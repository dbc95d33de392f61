import Derived.Test.YtgkhcfjooiekkaaGreatDoorX07
set_option linter.unusedVariables false
set_option linter.unusedSimpArgs false
namespace Go.Sw
open Go.Proofs.Tryz
open Go.Proofs
set_option maxRecDepth 20000
set_option maxHeartbeats 4000000
theorem j0c {c:Core} (h:xS c=false):c.datas.length<=60:=by
 simp only [xS,Bool.or_eq_false_iff,decide_eq_false_iff_not] at h;omega
theorem j1v {V:Fz} {K:List Res} {w:World} {d0:List Value} {c:Core} {v:Value} (e0:RCoreX V d0 c v) (D2:xS c=false) (G:Glob V) (N:Mem V K w) :
  Calls prog 153 #[.agg d0.toArray] w (fun ee w'=>∃y:Fz×Addr,ee=.returned (.tuple #[.pointer (some y.2),.bool (wV c)])/\(V.Le y.1/\RTableX y.1 y.2 (zH c) v)/\Mem y.1 K w'):=by
 obtain ⟨s1,s2,s3,q4,D3,rfl,rfl,h6,h7,h8⟩:=id e0
 obtain ⟨p9,A3,rfl,e5,l5⟩:=h6.fm
 obtain ⟨w4,B3,rfl,f5,U2⟩:=h7.fm
 obtain ⟨x4,C3,rfl,g5,V2⟩:=h8.fm
 refine zM func153 ntmps153 fun Q hQ a J=>?_
 refine Bx J N fun E5 w N a J=>?_
 refine MkM J N fun w3 w N a J=>?_
 refine MkM J N fun U0 w N a J=>?_
 refine MkM J N fun x3 w N a J=>?_
 refine MkM J N fun y3 w N a J=>?_
 refine z3h J N fun a J=>?_
 refine Bx J N fun z3 w N a J=>?_
 refine go J N fun a J=>?_
 refine yZ [0,0,1,2,0,1,1] (.q 2 (.q 3 (.q 6 (.e 0 (.e 1 (.e 4 (.q 5 (.done)))))))) [0,1,2,3,4,5] J N fun w N=>?_
 refine qH call188 J N (fun y4 w T2 N a J=>?_) (c:=z7z N)
 obtain ⟨B5,I5⟩:=y4
 obtain ⟨o0,D⟩:=T2
 simp only at o0 D N J
 replace h6:=h6.up o0
 replace h7:=h7.up o0
 replace h8:=h8.up o0
 replace e0:=e0.mono o0
 replace G:=G.mono o0
 replace N:=N.nf
 obtain ⟨S5,rfl,N3⟩:=id D
 obtain ⟨M5,G5,rfl,h5,m5⟩:=N3.fm
 refine qG J N fun V5 w N a J=>?_
 obtain ⟨T4,g1,n0⟩:=id h6
 refine qN 0 rt_22 J N (fun W5 w N a J=>?_) (hr:=g1.rowIn N.toSees) (h1:=n0.ones RData.ones) (hb:=by have h_:=n0.length;have J5:=j0c D2;rw [h_];simp only [lcQ,lnQ];omega)
 have B:=N
 clear N
 obtain ⟨d,p0,N,i1⟩:=B.freezeRow (i:=0) rfl
 clear B
 replace h7:=h7.up p0
 replace h8:=h8.up p0
 replace e0:=e0.mono p0
 replace G:=G.mono p0
 replace D:=RData.mono _ _ _ _ p0 D
 replace n0:=n0.mono fun _ _ h=>RData.mono _ _ _ _ p0 h
 replace N:=N.nf
 have b1:SliceOf RData d 2 _ (truthsD::c.datas):=⟨_,i1,⟨_,_,rfl,rfl,D,n0⟩⟩
 obtain ⟨N5,H5,v4,i5,W2⟩:=b1.form (by decide)
 have U1:=N
 clear N
 subst v4
 have N:=U1
 clear U1
 refine go J N fun a J=>?_
 refine zV (J.ks [1,4,25,26]) N (fun R mm a w=>∃(i:Nat) (o:Bool) (m0:List (Bs×Value)) (l0:List (Bs×Data)) (m1:List (Bs×Value)) (l1:List (Bs×Maker)),mm=(truthsD::c.datas).length - i/\R d [(5,.bool o),(27,.int .i64 ((i:Nat):Int))] [(3,.mp U0 m1),(4,.mp w3 m0)] a w/\(sM true [] [] (truthsD::c.datas)=sM o l0 l1 ((truthsD::c.datas).drop i)/\MapRel (RVa RData d) m0 l0/\MapRel (RVa RMaker d) m1 l1)) ((truthsD::c.datas).length - 0) ⟨0,true,[],[],[],[],rfl,⟨J.pk,N⟩,⟨rfl,MapRel.nil,MapRel.nil⟩⟩ ?_
 clear N J
 rintro mm a w ⟨i,o,m0,l0,m1,l1,n,⟨J,N⟩,i0⟩ C5 q0
 replace N:=N.nf
 obtain ⟨i0,r0,r1⟩:=i0
 refine go J N fun a J=>?_
 by_cases R2:i < (truthsD::c.datas).length
 refine go J N fun a J=>?_
 obtain ⟨Q5,rfl,b,t0,U4,c5,a5,X0⟩:=b1.el W2 R2
 obtain ⟨T5,rfl,V0⟩:=id X0
 obtain ⟨X2,I2,rfl,j5,s0⟩:=V0.fm
 refine Alc J N fun F5 w N a J=>?_
 refine Sto 0 J N fun w N a J=>?_
 refine Reg [1,1,1,2,0,1,1,1,2,1,1,1,1,1,1,2,1,2,2,0,1,1,1,2,1,1,1,1] [0,1,2,3,4,6] J N fun w N a J=>?_
 refine go J N fun a J=>?_
 cases o
 refine go J N fun a J=>?_
 refine zV (J.ks [1,4,7,25,26,27,59,60]) N (fun R mm a w=>∃(k:Nat) (o2:Bool) (j:List (Bs×Value)) (g:List (Bs×Maker)),mm=b.cons.length - k/\R d [(5,.bool o2),(61,.int .i64 ((k:Nat):Int))] [(4,.mp U0 j)] a w/\(xL b.name false l1 b.cons=xL b.name o2 g (b.cons.drop k)/\MapRel (RVa RMaker d) j g)) (b.cons.length - 0) ⟨0,false,m1,l1,rfl,⟨J.pk,N⟩,⟨rfl,r1⟩⟩ ?_
 clear N J
 rintro mm a w ⟨k,o2,j,g,n,⟨J,N⟩,j0⟩ D5 W0
 replace N:=N.nf
 obtain ⟨j0,p⟩:=j0
 refine go J N fun a J=>?_
 by_cases S2:k < b.cons.length
 refine go J N fun a J=>?_
 obtain ⟨R5,rfl,X,Z0,V4,d5,b5,Y0⟩:=V0.el s0 S2
 obtain ⟨U5,rfl,O3⟩:=id Y0
 obtain ⟨Y2,J2,rfl,k5,n5⟩:=O3.fm
 refine Alc J N fun K4 w N a J=>?_
 refine Sto 0 J N fun w N a J=>?_
 refine Reg [1,1,1,2,0,1,1,1,1,1,2,1,2,1,2,2,1,0,1,1] [0,1,2,3,4,6,7] J N fun w N a J=>?_
 refine go J N fun a J=>?_
 cases o2
 refine go J N fun a J=>?_
 replace N:=N.dl [0]
 refine W0 _ _ _ (by subst n;omega) ⟨(k+1),(false),(j),(g),rfl,⟨J.pk,N⟩,?_⟩
 refine ⟨?_,p⟩
 rw [j0,zA Z0];simp [xL, *]
 refine zW call178 J N (fun e2 w N a J=>?_) (fun e2 w N a J=>?_) (c:=mA G N)
 refine z3h J N fun a J=>?_
 replace N:=N.pl 5
 refine zW call191 J N (fun f2 w N a J=>?_) (fun f2 w N a J=>?_) (c:=pF (m:=j) (l:=g) (x:=(⟨b.name,X⟩:Maker)) p (show RMaker d _ (⟨b.name,X⟩:Maker) from ⟨_,rfl,Y0⟩) N)
 replace N:=N.nf
 obtain ⟨k1,f⟩:∃Y,Y=(vG j X.name (.agg #[.string b.name,.string X.name,.slice Y2 X.fields.length J2])):=⟨_,rfl⟩
 have Z2:MapRel (RVa RMaker d) k1 (qZ g X.name (⟨b.name,X⟩:Maker)):=by rw [f];exact (MapRel.once p ⟨_,rfl,(show RMaker d _ (⟨b.name,X⟩:Maker) from ⟨_,rfl,Y0⟩)⟩)
 rw [<- f] at N
 clear f
 refine go J N fun a J=>?_
 replace N:=N.ar [1] [6,6,2,6,6,6,6]
 refine W0 _ _ _ (by subst n;omega) ⟨(k+1),(true),(k1),((qZ g X.name (⟨b.name,X⟩:Maker))),rfl,⟨J.pk,N⟩,?_⟩
 refine ⟨?_,Z2⟩
 rw [j0,zA Z0];simp [xL, *]
 replace N:=N.nf
 obtain ⟨n1,f⟩:∃Y,Y=(vG j X.name (.agg #[.string b.name,.string X.name,.slice Y2 X.fields.length J2])):=⟨_,rfl⟩
 have a3:MapRel (RVa RMaker d) n1 (qZ g X.name (⟨b.name,X⟩:Maker)):=by rw [f];exact (MapRel.once p ⟨_,rfl,(show RMaker d _ (⟨b.name,X⟩:Maker) from ⟨_,rfl,Y0⟩)⟩)
 rw [<- f] at N
 clear f
 refine go J N fun a J=>?_
 replace N:=N.ar [1] [6,6,2,6,6,6,6]
 refine W0 _ _ _ (by subst n;omega) ⟨(k+1),(false),(n1),((qZ g X.name (⟨b.name,X⟩:Maker))),rfl,⟨J.pk,N⟩,?_⟩
 refine ⟨?_,a3⟩
 rw [j0,zA Z0];simp [xL, *]
 refine go J N fun a J=>?_
 replace N:=N.dl [0]
 refine W0 _ _ _ (by subst n;omega) ⟨(k+1),(false),(j),(g),rfl,⟨J.pk,N⟩,?_⟩
 refine ⟨?_,p⟩
 rw [j0,zA Z0];simp [xL, *]
 refine go J N fun a J=>?_
 replace N:=N.dl [0]
 refine q0 _ _ _ (by subst n;omega) ⟨(i+1),(o2),(m0),(l0),(j),(g),rfl,⟨J.pk,N⟩,?_⟩
 refine ⟨?_,r0,p⟩
 rw [zE S2] at j0
 rw [i0,zA t0,gW]
 simp only [xL] at j0
 have Z:nW false l0 b=false:=by simp [nW,yA, *]
 have a0:pM false l0 b=l0:=by simp [pM,yA, *]
 rw [Z,a0,j0]
 refine zW call178 J N (fun g2 w N a J=>?_) (fun g2 w N a J=>?_) (c:=mA G N)
 refine go J N fun a J=>?_
 by_cases W4:b.name=(⟨#[73,110,116]⟩:Bs)
 refine go J N fun a J=>?_
 refine zV (J.ks [1,4,7,25,26,27,59,60]) N (fun R mm a w=>∃(k:Nat) (o2:Bool) (j:List (Bs×Value)) (g:List (Bs×Maker)),mm=b.cons.length - k/\R d [(5,.bool o2),(61,.int .i64 ((k:Nat):Int))] [(4,.mp U0 j)] a w/\(xL b.name false l1 b.cons=xL b.name o2 g (b.cons.drop k)/\MapRel (RVa RMaker d) j g)) (b.cons.length - 0) ⟨0,false,m1,l1,rfl,⟨J.pk,N⟩,⟨rfl,r1⟩⟩ ?_
 clear N J
 rintro mm a w ⟨k,o2,j,g,n,⟨J,N⟩,I⟩ D4 u0
 replace N:=N.nf
 obtain ⟨I,p⟩:=I
 refine go J N fun a J=>?_
 by_cases N1:k < b.cons.length
 refine go J N fun a J=>?_
 obtain ⟨o5,rfl,s,J0,E3,X3,P3,D0⟩:=V0.el s0 N1
 obtain ⟨v5,rfl,K2⟩:=id D0
 obtain ⟨V1,F1,rfl,e4,m4⟩:=K2.fm
 refine Alc J N fun L4 w N a J=>?_
 refine Sto 0 J N fun w N a J=>?_
 refine Reg [1,1,1,2,0,1,1,1,1,1,2,1,2,1,2,2,1,0,1,1] [0,1,2,3,4,6,7] J N fun w N a J=>?_
 refine go J N fun a J=>?_
 cases o2
 refine go J N fun a J=>?_
 replace N:=N.dl [0]
 refine u0 _ _ _ (by subst n;omega) ⟨(k+1),(false),(j),(g),rfl,⟨J.pk,N⟩,?_⟩
 refine ⟨?_,p⟩
 rw [I,zA J0];simp [xL, *]
 refine zW call178 J N (fun h2 w N a J=>?_) (fun h2 w N a J=>?_) (c:=mA G N)
 refine z3h J N fun a J=>?_
 replace N:=N.pl 5
 refine zW call191 J N (fun i2 w N a J=>?_) (fun i2 w N a J=>?_) (c:=pF (m:=j) (l:=g) (x:=(⟨b.name,s⟩:Maker)) p (show RMaker d _ (⟨b.name,s⟩:Maker) from ⟨_,rfl,D0⟩) N)
 replace N:=N.nf
 obtain ⟨o1,f⟩:∃Y,Y=(vG j s.name (.agg #[.string b.name,.string s.name,.slice V1 s.fields.length F1])):=⟨_,rfl⟩
 have b3:MapRel (RVa RMaker d) o1 (qZ g s.name (⟨b.name,s⟩:Maker)):=by rw [f];exact (MapRel.once p ⟨_,rfl,(show RMaker d _ (⟨b.name,s⟩:Maker) from ⟨_,rfl,D0⟩)⟩)
 rw [<- f] at N
 clear f
 refine go J N fun a J=>?_
 replace N:=N.ar [1] [6,6,2,6,6,6,6]
 refine u0 _ _ _ (by subst n;omega) ⟨(k+1),(true),(o1),((qZ g s.name (⟨b.name,s⟩:Maker))),rfl,⟨J.pk,N⟩,?_⟩
 refine ⟨?_,b3⟩
 rw [I,zA J0];simp [xL, *]
 replace N:=N.nf
 obtain ⟨p1,f⟩:∃Y,Y=(vG j s.name (.agg #[.string b.name,.string s.name,.slice V1 s.fields.length F1])):=⟨_,rfl⟩
 have d3:MapRel (RVa RMaker d) p1 (qZ g s.name (⟨b.name,s⟩:Maker)):=by rw [f];exact (MapRel.once p ⟨_,rfl,(show RMaker d _ (⟨b.name,s⟩:Maker) from ⟨_,rfl,D0⟩)⟩)
 rw [<- f] at N
 clear f
 refine go J N fun a J=>?_
 replace N:=N.ar [1] [6,6,2,6,6,6,6]
 refine u0 _ _ _ (by subst n;omega) ⟨(k+1),(false),(p1),((qZ g s.name (⟨b.name,s⟩:Maker))),rfl,⟨J.pk,N⟩,?_⟩
 refine ⟨?_,d3⟩
 rw [I,zA J0];simp [xL, *]
 refine go J N fun a J=>?_
 replace N:=N.dl [0]
 refine u0 _ _ _ (by subst n;omega) ⟨(k+1),(false),(j),(g),rfl,⟨J.pk,N⟩,?_⟩
 refine ⟨?_,p⟩
 rw [I,zA J0];simp [xL, *]
 refine go J N fun a J=>?_
 replace N:=N.dl [0]
 refine q0 _ _ _ (by subst n;omega) ⟨(i+1),(o2),(m0),(l0),(j),(g),rfl,⟨J.pk,N⟩,?_⟩
 refine ⟨?_,r0,p⟩
 rw [zE N1] at I
 rw [i0,zA t0,gW]
 simp only [xL] at I
 have Z:nW true l0 b=false:=by simp [nW,yA, *]
 have a0:pM true l0 b=l0:=by simp [pM,yA, *]
 rw [Z,a0,I]
 replace N:=N.pl 5
 refine zW call190 J N (fun j2 w N a J=>?_) (fun j2 w N a J=>?_) (c:=q2k (m:=m0) (l:=l0) (x:=b) r0 X0 N)
 replace N:=N.nf
 obtain ⟨a1,f⟩:∃Y,Y=(vG m0 b.name (.agg #[.string b.name,.slice X2 b.cons.length I2])):=⟨_,rfl⟩
 have d2:MapRel (RVa RData d) a1 (qZ l0 b.name b):=by rw [f];exact (MapRel.once r0 ⟨_,rfl,X0⟩)
 rw [<- f] at N
 clear f
 refine go J N fun a J=>?_
 by_cases X4:0 < b.cons.length
 refine go J N fun a J=>?_
 refine zV (J.ks [1,4,7,25,26,27,59,60]) N (fun R mm a w=>∃(k:Nat) (o2:Bool) (j:List (Bs×Value)) (g:List (Bs×Maker)),mm=b.cons.length - k/\R d [(5,.bool o2),(61,.int .i64 ((k:Nat):Int))] [(5,.mp U0 j)] a w/\(xL b.name true l1 b.cons=xL b.name o2 g (b.cons.drop k)/\MapRel (RVa RMaker d) j g)) (b.cons.length - 0) ⟨0,true,m1,l1,rfl,⟨J.pk,N⟩,⟨rfl,r1⟩⟩ ?_
 clear N J
 rintro mm a w ⟨k,o2,j,g,n,⟨J,N⟩,L⟩ E4 w0
 replace N:=N.nf
 obtain ⟨L,p⟩:=L
 refine go J N fun a J=>?_
 by_cases O1:k < b.cons.length
 refine go J N fun a J=>?_
 obtain ⟨p5,rfl,t,K0,F3,Y3,Q3,E0⟩:=V0.el s0 O1
 obtain ⟨w5,rfl,L2⟩:=id E0
 obtain ⟨W1,G1,rfl,f4,n4⟩:=L2.fm
 refine Alc J N fun M4 w N a J=>?_
 refine Sto 0 J N fun w N a J=>?_
 refine Reg [1,1,1,2,0,1,1,1,1,1,2,1,2,1,2,2,1,0,1,1] [0,1,2,3,4,5,7] J N fun w N a J=>?_
 refine go J N fun a J=>?_
 cases o2
 refine go J N fun a J=>?_
 replace N:=N.dl [0]
 refine w0 _ _ _ (by subst n;omega) ⟨(k+1),(false),(j),(g),rfl,⟨J.pk,N⟩,?_⟩
 refine ⟨?_,p⟩
 rw [L,zA K0];simp [xL, *]
 refine zW call178 J N (fun k2 w N a J=>?_) (fun k2 w N a J=>?_) (c:=mA G N)
 refine z3h J N fun a J=>?_
 replace N:=N.pl 6
 refine zW call191 J N (fun n2 w N a J=>?_) (fun n2 w N a J=>?_) (c:=pF (m:=j) (l:=g) (x:=(⟨b.name,t⟩:Maker)) p (show RMaker d _ (⟨b.name,t⟩:Maker) from ⟨_,rfl,E0⟩) N)
 replace N:=N.nf
 obtain ⟨q1,f⟩:∃Y,Y=(vG j t.name (.agg #[.string b.name,.string t.name,.slice W1 t.fields.length G1])):=⟨_,rfl⟩
 have e3:MapRel (RVa RMaker d) q1 (qZ g t.name (⟨b.name,t⟩:Maker)):=by rw [f];exact (MapRel.once p ⟨_,rfl,(show RMaker d _ (⟨b.name,t⟩:Maker) from ⟨_,rfl,E0⟩)⟩)
 rw [<- f] at N
 clear f
 refine go J N fun a J=>?_
 replace N:=N.ar [1] [6,1,6,6,6,6,6]
 refine w0 _ _ _ (by subst n;omega) ⟨(k+1),(true),(q1),((qZ g t.name (⟨b.name,t⟩:Maker))),rfl,⟨J.pk,N⟩,?_⟩
 refine ⟨?_,e3⟩
 rw [L,zA K0];simp [xL, *]
 replace N:=N.nf
 obtain ⟨t1,f⟩:∃Y,Y=(vG j t.name (.agg #[.string b.name,.string t.name,.slice W1 t.fields.length G1])):=⟨_,rfl⟩
 have f3:MapRel (RVa RMaker d) t1 (qZ g t.name (⟨b.name,t⟩:Maker)):=by rw [f];exact (MapRel.once p ⟨_,rfl,(show RMaker d _ (⟨b.name,t⟩:Maker) from ⟨_,rfl,E0⟩)⟩)
 rw [<- f] at N
 clear f
 refine go J N fun a J=>?_
 replace N:=N.ar [1] [6,1,6,6,6,6,6]
 refine w0 _ _ _ (by subst n;omega) ⟨(k+1),(false),(t1),((qZ g t.name (⟨b.name,t⟩:Maker))),rfl,⟨J.pk,N⟩,?_⟩
 refine ⟨?_,f3⟩
 rw [L,zA K0];simp [xL, *]
 refine go J N fun a J=>?_
 replace N:=N.dl [0]
 refine w0 _ _ _ (by subst n;omega) ⟨(k+1),(false),(j),(g),rfl,⟨J.pk,N⟩,?_⟩
 refine ⟨?_,p⟩
 rw [L,zA K0];simp [xL, *]
 refine go J N fun a J=>?_
 replace N:=N.ar [1] [5,1,5,5,5,5]
 refine q0 _ _ _ (by subst n;omega) ⟨(i+1),(o2),(a1),((qZ l0 b.name b)),(j),(g),rfl,⟨J.pk,N⟩,?_⟩
 refine ⟨?_,d2,p⟩
 rw [zE O1] at L
 rw [i0,zA t0,gW]
 simp only [xL] at L
 have Z:nW true l0 b=true:=by simp [nW,yA, *]
 have a0:pM true l0 b=(qZ l0 b.name b):=by simp [pM,yA, *]
 rw [Z,a0,L]
 refine go J N fun a J=>?_
 refine zV (J.ks [1,4,7,25,26,27,59,60]) N (fun R mm a w=>∃(k:Nat) (o2:Bool) (j:List (Bs×Value)) (g:List (Bs×Maker)),mm=b.cons.length - k/\R d [(5,.bool o2),(61,.int .i64 ((k:Nat):Int))] [(5,.mp U0 j)] a w/\(xL b.name false l1 b.cons=xL b.name o2 g (b.cons.drop k)/\MapRel (RVa RMaker d) j g)) (b.cons.length - 0) ⟨0,false,m1,l1,rfl,⟨J.pk,N⟩,⟨rfl,r1⟩⟩ ?_
 clear N J
 rintro mm a w ⟨k,o2,j,g,n,⟨J,N⟩,M⟩ F4 x0
 replace N:=N.nf
 obtain ⟨M,p⟩:=M
 refine go J N fun a J=>?_
 by_cases P1:k < b.cons.length
 refine go J N fun a J=>?_
 obtain ⟨q5,rfl,u,L0,G3,Z3,R3,F0⟩:=V0.el s0 P1
 obtain ⟨x5,rfl,M2⟩:=id F0
 obtain ⟨X1,H1,rfl,g4,o4⟩:=M2.fm
 refine Alc J N fun N4 w N a J=>?_
 refine Sto 0 J N fun w N a J=>?_
 refine Reg [1,1,1,2,0,1,1,1,1,1,2,1,2,1,2,2,1,0,1,1] [0,1,2,3,4,5,7] J N fun w N a J=>?_
 refine go J N fun a J=>?_
 cases o2
 refine go J N fun a J=>?_
 replace N:=N.dl [0]
 refine x0 _ _ _ (by subst n;omega) ⟨(k+1),(false),(j),(g),rfl,⟨J.pk,N⟩,?_⟩
 refine ⟨?_,p⟩
 rw [M,zA L0];simp [xL, *]
 refine zW call178 J N (fun p2 w N a J=>?_) (fun p2 w N a J=>?_) (c:=mA G N)
 refine z3h J N fun a J=>?_
 replace N:=N.pl 6
 refine zW call191 J N (fun q2 w N a J=>?_) (fun q2 w N a J=>?_) (c:=pF (m:=j) (l:=g) (x:=(⟨b.name,u⟩:Maker)) p (show RMaker d _ (⟨b.name,u⟩:Maker) from ⟨_,rfl,F0⟩) N)
 replace N:=N.nf
 obtain ⟨u1,f⟩:∃Y,Y=(vG j u.name (.agg #[.string b.name,.string u.name,.slice X1 u.fields.length H1])):=⟨_,rfl⟩
 have g3:MapRel (RVa RMaker d) u1 (qZ g u.name (⟨b.name,u⟩:Maker)):=by rw [f];exact (MapRel.once p ⟨_,rfl,(show RMaker d _ (⟨b.name,u⟩:Maker) from ⟨_,rfl,F0⟩)⟩)
 rw [<- f] at N
 clear f
 refine go J N fun a J=>?_
 replace N:=N.ar [1] [6,1,6,6,6,6,6]
 refine x0 _ _ _ (by subst n;omega) ⟨(k+1),(true),(u1),((qZ g u.name (⟨b.name,u⟩:Maker))),rfl,⟨J.pk,N⟩,?_⟩
 refine ⟨?_,g3⟩
 rw [M,zA L0];simp [xL, *]
 replace N:=N.nf
 obtain ⟨v1,f⟩:∃Y,Y=(vG j u.name (.agg #[.string b.name,.string u.name,.slice X1 u.fields.length H1])):=⟨_,rfl⟩
 have h3:MapRel (RVa RMaker d) v1 (qZ g u.name (⟨b.name,u⟩:Maker)):=by rw [f];exact (MapRel.once p ⟨_,rfl,(show RMaker d _ (⟨b.name,u⟩:Maker) from ⟨_,rfl,F0⟩)⟩)
 rw [<- f] at N
 clear f
 refine go J N fun a J=>?_
 replace N:=N.ar [1] [6,1,6,6,6,6,6]
 refine x0 _ _ _ (by subst n;omega) ⟨(k+1),(false),(v1),((qZ g u.name (⟨b.name,u⟩:Maker))),rfl,⟨J.pk,N⟩,?_⟩
 refine ⟨?_,h3⟩
 rw [M,zA L0];simp [xL, *]
 refine go J N fun a J=>?_
 replace N:=N.dl [0]
 refine x0 _ _ _ (by subst n;omega) ⟨(k+1),(false),(j),(g),rfl,⟨J.pk,N⟩,?_⟩
 refine ⟨?_,p⟩
 rw [M,zA L0];simp [xL, *]
 refine go J N fun a J=>?_
 replace N:=N.ar [1] [5,1,5,5,5,5]
 refine q0 _ _ _ (by subst n;omega) ⟨(i+1),(o2),(a1),((qZ l0 b.name b)),(j),(g),rfl,⟨J.pk,N⟩,?_⟩
 refine ⟨?_,d2,p⟩
 rw [zE P1] at M
 rw [i0,zA t0,gW]
 simp only [xL] at M
 have Z:nW true l0 b=false:=by simp [nW,yA, *]
 have a0:pM true l0 b=(qZ l0 b.name b):=by simp [pM,yA, *]
 rw [Z,a0,M]
 replace N:=N.nf
 obtain ⟨w1,f⟩:∃Y,Y=(vG m0 b.name (.agg #[.string b.name,.slice X2 b.cons.length I2])):=⟨_,rfl⟩
 have i3:MapRel (RVa RData d) w1 (qZ l0 b.name b):=by rw [f];exact (MapRel.once r0 ⟨_,rfl,X0⟩)
 rw [<- f] at N
 clear f
 refine go J N fun a J=>?_
 refine zV (J.ks [1,4,7,25,26,27,59,60]) N (fun R mm a w=>∃(k:Nat) (o2:Bool) (j:List (Bs×Value)) (g:List (Bs×Maker)),mm=b.cons.length - k/\R d [(5,.bool o2),(61,.int .i64 ((k:Nat):Int))] [(5,.mp U0 j)] a w/\(xL b.name false l1 b.cons=xL b.name o2 g (b.cons.drop k)/\MapRel (RVa RMaker d) j g)) (b.cons.length - 0) ⟨0,false,m1,l1,rfl,⟨J.pk,N⟩,⟨rfl,r1⟩⟩ ?_
 clear N J
 rintro mm a w ⟨k,o2,j,g,n,⟨J,N⟩,P⟩ G4 y0
 replace N:=N.nf
 obtain ⟨P,p⟩:=P
 refine go J N fun a J=>?_
 by_cases Q1:k < b.cons.length
 refine go J N fun a J=>?_
 obtain ⟨r5,rfl,z,M0,H3,a4,S3,G0⟩:=V0.el s0 Q1
 obtain ⟨y5,rfl,N2⟩:=id G0
 obtain ⟨Y1,I1,rfl,h4,p4⟩:=N2.fm
 refine Alc J N fun O4 w N a J=>?_
 refine Sto 0 J N fun w N a J=>?_
 refine Reg [1,1,1,2,0,1,1,1,1,1,2,1,2,1,2,2,1,0,1,1] [0,1,2,3,4,5,7] J N fun w N a J=>?_
 refine go J N fun a J=>?_
 cases o2
 refine go J N fun a J=>?_
 replace N:=N.dl [0]
 refine y0 _ _ _ (by subst n;omega) ⟨(k+1),(false),(j),(g),rfl,⟨J.pk,N⟩,?_⟩
 refine ⟨?_,p⟩
 rw [P,zA M0];simp [xL, *]
 refine zW call178 J N (fun t2 w N a J=>?_) (fun t2 w N a J=>?_) (c:=mA G N)
 refine z3h J N fun a J=>?_
 replace N:=N.pl 6
 refine zW call191 J N (fun u2 w N a J=>?_) (fun u2 w N a J=>?_) (c:=pF (m:=j) (l:=g) (x:=(⟨b.name,z⟩:Maker)) p (show RMaker d _ (⟨b.name,z⟩:Maker) from ⟨_,rfl,G0⟩) N)
 replace N:=N.nf
 obtain ⟨x1,f⟩:∃Y,Y=(vG j z.name (.agg #[.string b.name,.string z.name,.slice Y1 z.fields.length I1])):=⟨_,rfl⟩
 have j3:MapRel (RVa RMaker d) x1 (qZ g z.name (⟨b.name,z⟩:Maker)):=by rw [f];exact (MapRel.once p ⟨_,rfl,(show RMaker d _ (⟨b.name,z⟩:Maker) from ⟨_,rfl,G0⟩)⟩)
 rw [<- f] at N
 clear f
 refine go J N fun a J=>?_
 replace N:=N.ar [1] [6,1,6,6,6,6,6]
 refine y0 _ _ _ (by subst n;omega) ⟨(k+1),(true),(x1),((qZ g z.name (⟨b.name,z⟩:Maker))),rfl,⟨J.pk,N⟩,?_⟩
 refine ⟨?_,j3⟩
 rw [P,zA M0];simp [xL, *]
 replace N:=N.nf
 obtain ⟨y1,f⟩:∃Y,Y=(vG j z.name (.agg #[.string b.name,.string z.name,.slice Y1 z.fields.length I1])):=⟨_,rfl⟩
 have k3:MapRel (RVa RMaker d) y1 (qZ g z.name (⟨b.name,z⟩:Maker)):=by rw [f];exact (MapRel.once p ⟨_,rfl,(show RMaker d _ (⟨b.name,z⟩:Maker) from ⟨_,rfl,G0⟩)⟩)
 rw [<- f] at N
 clear f
 refine go J N fun a J=>?_
 replace N:=N.ar [1] [6,1,6,6,6,6,6]
 refine y0 _ _ _ (by subst n;omega) ⟨(k+1),(false),(y1),((qZ g z.name (⟨b.name,z⟩:Maker))),rfl,⟨J.pk,N⟩,?_⟩
 refine ⟨?_,k3⟩
 rw [P,zA M0];simp [xL, *]
 refine go J N fun a J=>?_
 replace N:=N.dl [0]
 refine y0 _ _ _ (by subst n;omega) ⟨(k+1),(false),(j),(g),rfl,⟨J.pk,N⟩,?_⟩
 refine ⟨?_,p⟩
 rw [P,zA M0];simp [xL, *]
 refine go J N fun a J=>?_
 replace N:=N.ar [1] [5,1,5,5,5,5]
 refine q0 _ _ _ (by subst n;omega) ⟨(i+1),(o2),(w1),((qZ l0 b.name b)),(j),(g),rfl,⟨J.pk,N⟩,?_⟩
 refine ⟨?_,i3,p⟩
 rw [zE Q1] at P
 rw [i0,zA t0,gW]
 simp only [xL] at P
 have Z:nW true l0 b=false:=by simp [nW,yA, *]
 have a0:pM true l0 b=(qZ l0 b.name b):=by simp [pM,yA, *]
 rw [Z,a0,P]
 refine go J N fun a J=>?_
 refine zV (J.ks [1,4,7,25,26,27,59,60]) N (fun R mm a w=>∃(k:Nat) (o2:Bool) (j:List (Bs×Value)) (g:List (Bs×Maker)),mm=b.cons.length - k/\R d [(5,.bool o2),(61,.int .i64 ((k:Nat):Int))] [(4,.mp U0 j)] a w/\(xL b.name false l1 b.cons=xL b.name o2 g (b.cons.drop k)/\MapRel (RVa RMaker d) j g)) (b.cons.length - 0) ⟨0,false,m1,l1,rfl,⟨J.pk,N⟩,⟨rfl,r1⟩⟩ ?_
 clear N J
 rintro mm a w ⟨k,o2,j,g,n,⟨J,N⟩,S⟩ H4 z0
 replace N:=N.nf
 obtain ⟨S,p⟩:=S
 refine go J N fun a J=>?_
 by_cases R1:k < b.cons.length
 refine go J N fun a J=>?_
 obtain ⟨s5,rfl,A,N0,I3,b4,T3,H0⟩:=V0.el s0 R1
 obtain ⟨z5,rfl,O2⟩:=id H0
 obtain ⟨Z1,J1,rfl,i4,r4⟩:=O2.fm
 refine Alc J N fun P4 w N a J=>?_
 refine Sto 0 J N fun w N a J=>?_
 refine Reg [1,1,1,2,0,1,1,1,1,1,2,1,2,1,2,2,1,0,1,1] [0,1,2,3,4,6,7] J N fun w N a J=>?_
 refine go J N fun a J=>?_
 cases o2
 refine go J N fun a J=>?_
 replace N:=N.dl [0]
 refine z0 _ _ _ (by subst n;omega) ⟨(k+1),(false),(j),(g),rfl,⟨J.pk,N⟩,?_⟩
 refine ⟨?_,p⟩
 rw [S,zA N0];simp [xL, *]
 refine zW call178 J N (fun v2 w N a J=>?_) (fun v2 w N a J=>?_) (c:=mA G N)
 refine z3h J N fun a J=>?_
 replace N:=N.pl 5
 refine zW call191 J N (fun w2 w N a J=>?_) (fun w2 w N a J=>?_) (c:=pF (m:=j) (l:=g) (x:=(⟨b.name,A⟩:Maker)) p (show RMaker d _ (⟨b.name,A⟩:Maker) from ⟨_,rfl,H0⟩) N)
 replace N:=N.nf
 obtain ⟨z1,f⟩:∃Y,Y=(vG j A.name (.agg #[.string b.name,.string A.name,.slice Z1 A.fields.length J1])):=⟨_,rfl⟩
 have n3:MapRel (RVa RMaker d) z1 (qZ g A.name (⟨b.name,A⟩:Maker)):=by rw [f];exact (MapRel.once p ⟨_,rfl,(show RMaker d _ (⟨b.name,A⟩:Maker) from ⟨_,rfl,H0⟩)⟩)
 rw [<- f] at N
 clear f
 refine go J N fun a J=>?_
 replace N:=N.ar [1] [6,6,2,6,6,6,6]
 refine z0 _ _ _ (by subst n;omega) ⟨(k+1),(true),(z1),((qZ g A.name (⟨b.name,A⟩:Maker))),rfl,⟨J.pk,N⟩,?_⟩
 refine ⟨?_,n3⟩
 rw [S,zA N0];simp [xL, *]
 replace N:=N.nf
 obtain ⟨A1,f⟩:∃Y,Y=(vG j A.name (.agg #[.string b.name,.string A.name,.slice Z1 A.fields.length J1])):=⟨_,rfl⟩
 have o3:MapRel (RVa RMaker d) A1 (qZ g A.name (⟨b.name,A⟩:Maker)):=by rw [f];exact (MapRel.once p ⟨_,rfl,(show RMaker d _ (⟨b.name,A⟩:Maker) from ⟨_,rfl,H0⟩)⟩)
 rw [<- f] at N
 clear f
 refine go J N fun a J=>?_
 replace N:=N.ar [1] [6,6,2,6,6,6,6]
 refine z0 _ _ _ (by subst n;omega) ⟨(k+1),(false),(A1),((qZ g A.name (⟨b.name,A⟩:Maker))),rfl,⟨J.pk,N⟩,?_⟩
 refine ⟨?_,o3⟩
 rw [S,zA N0];simp [xL, *]
 refine go J N fun a J=>?_
 replace N:=N.dl [0]
 refine z0 _ _ _ (by subst n;omega) ⟨(k+1),(false),(j),(g),rfl,⟨J.pk,N⟩,?_⟩
 refine ⟨?_,p⟩
 rw [S,zA N0];simp [xL, *]
 refine go J N fun a J=>?_
 replace N:=N.dl [0]
 refine q0 _ _ _ (by subst n;omega) ⟨(i+1),(o2),(m0),(l0),(j),(g),rfl,⟨J.pk,N⟩,?_⟩
 refine ⟨?_,r0,p⟩
 rw [zE R1] at S
 rw [i0,zA t0,gW]
 simp only [xL] at S
 have Z:nW true l0 b=false:=by simp [nW,yA, *]
 have a0:pM true l0 b=l0:=by simp [pM,yA, *]
 rw [Z,a0,S]
 refine go J N fun a J=>?_
 have B2:=i0
 rw [zE R2] at B2
 simp only [sM] at B2
 refine go J N fun a J=>?_
 refine zV (J.ks [1,4,87,88]) N (fun R mm a w=>∃(i:Nat) (oF:Bool) (m2:List (Bs×Value)) (l2:List (Bs×Fun)),mm=c.funs.length - i/\R d [(5,.bool oF),(89,.int .i64 ((i:Nat):Int))] [(2,.mp x3 m2)] a w/\(sN o [] c.funs=sN oF l2 (c.funs.drop i)/\MapRel (RVa RFun d) m2 l2)) (c.funs.length - 0) ⟨0,o,[],[],rfl,⟨J.pk,N⟩,⟨rfl,MapRel.nil⟩⟩ ?_
 clear N J
 rintro mm a w ⟨i,oF,m2,l2,n,⟨J,N⟩,f0⟩ I4 A0
 replace N:=N.nf
 obtain ⟨f0,r2⟩:=f0
 refine go J N fun a J=>?_
 by_cases S1:i < c.funs.length
 refine go J N fun a J=>?_
 obtain ⟨t5,rfl,r,O0,J3,c4,U3,I0⟩:=h8.el V2 S1
 obtain ⟨A5,Q4,rfl,P2,Q2⟩:=id I0
 obtain ⟨a2,K1,rfl,j4,s4⟩:=P2.fm
 obtain ⟨b2,L1,c2,M1,rfl,W3,Y4,Z4,k4,t4,l4,u4⟩:=REx.fm Q2
 refine Alc J N fun R4 w N a J=>?_
 refine Sto 0 J N fun w N a J=>?_
 refine Reg [1,1,1,2,0,1,1,1,1,1,2,1,2,2,0,1,1] [0,1,2,4,5,6] J N fun w N a J=>?_
 refine go J N fun a J=>?_
 cases oF
 refine go J N fun a J=>?_
 replace N:=N.dl [0]
 refine A0 _ _ _ (by subst n;omega) ⟨(i+1),(false),(m2),(l2),rfl,⟨J.pk,N⟩,?_⟩
 refine ⟨?_,r2⟩
 rw [f0,zA O0];simp [sN, *]
 refine zW call138 J N (fun x2 w N a J=>?_) (fun x2 w N a J=>?_) (c:=tB G N)
 replace N:=N.pl 3
 refine zW call192 J N (fun y2 w N a J=>?_) (fun y2 w N a J=>?_) (c:=q6c (m:=m2) (l:=l2) (x:=r) r2 I0 N)
 replace N:=N.nf
 obtain ⟨B1,f⟩:∃Y,Y=(vG m2 r.name (.agg #[.string r.name,.slice a2 r.params.length K1,.string r.result,.int .i64 (r.body.kind),.int .i64 (r.body.num),.string r.body.name,.slice b2 r.body.args.length L1,.slice c2 r.body.arms.length M1])):=⟨_,rfl⟩
 have p3:MapRel (RVa RFun d) B1 (qZ l2 r.name r):=by rw [f];exact (MapRel.once r2 ⟨_,rfl,I0⟩)
 rw [<- f] at N
 clear f
 refine go J N fun a J=>?_
 replace N:=N.ar [1] [5,5,5,3,5,5]
 refine A0 _ _ _ (by subst n;omega) ⟨(i+1),(true),(B1),((qZ l2 r.name r)),rfl,⟨J.pk,N⟩,?_⟩
 refine ⟨?_,p3⟩
 rw [f0,zA O0];simp [sN, *]
 replace N:=N.nf
 obtain ⟨C1,f⟩:∃Y,Y=(vG m2 r.name (.agg #[.string r.name,.slice a2 r.params.length K1,.string r.result,.int .i64 (r.body.kind),.int .i64 (r.body.num),.string r.body.name,.slice b2 r.body.args.length L1,.slice c2 r.body.arms.length M1])):=⟨_,rfl⟩
 have q3:MapRel (RVa RFun d) C1 (qZ l2 r.name r):=by rw [f];exact (MapRel.once r2 ⟨_,rfl,I0⟩)
 rw [<- f] at N
 clear f
 refine go J N fun a J=>?_
 replace N:=N.ar [1] [5,5,5,3,5,5]
 refine A0 _ _ _ (by subst n;omega) ⟨(i+1),(false),(C1),((qZ l2 r.name r)),rfl,⟨J.pk,N⟩,?_⟩
 refine ⟨?_,q3⟩
 rw [f0,zA O0];simp [sN, *]
 refine go J N fun a J=>?_
 replace N:=N.dl [0]
 refine A0 _ _ _ (by subst n;omega) ⟨(i+1),(false),(m2),(l2),rfl,⟨J.pk,N⟩,?_⟩
 refine ⟨?_,r2⟩
 rw [f0,zA O0];simp [sN, *]
 refine go J N fun a J=>?_
 have C2:=f0
 rw [zE S1] at C2
 simp only [sN] at C2
 refine go J N fun a J=>?_
 refine zV (J.ks [4,111,112]) N (fun R mm a w=>∃(i:Nat) (oI:Bool) (m3:List (Bs×Value)) (l3:List (Bs×Bs)),mm=c.inputs.length - i/\R d [(5,.bool oI),(113,.int .i64 ((i:Nat):Int))] [(1,.mp y3 m3)] a w/\(sO oF [] c.inputs=sO oI l3 (c.inputs.drop i)/\MapRel RVs m3 l3)) (c.inputs.length - 0) ⟨0,oF,[],[],rfl,⟨J.pk,N⟩,⟨rfl,MapRel.nil⟩⟩ ?_
 clear N J
 rintro mm a w ⟨i,oI,m3,l3,n,⟨J,N⟩,T⟩ J4 B0
 replace N:=N.nf
 obtain ⟨T,r3⟩:=T
 refine go J N fun a J=>?_
 by_cases T1:i < c.inputs.length
 refine go J N fun a J=>?_
 obtain ⟨u5,rfl,H,P0,K3,d4,V3,E2⟩:=h7.el U2 T1
 obtain rfl:=id E2
 refine Alc J N fun S4 w N a J=>?_
 refine Sto 0 J N fun w N a J=>?_
 refine Reg [1,1,1,2,0,1,1,1,1,1,2,1,2,1,2,0,1,1] [0,1,3,4,5,6] J N fun w N a J=>?_
 refine go J N fun a J=>?_
 cases oI
 refine go J N fun a J=>?_
 replace N:=N.dl [0]
 refine B0 _ _ _ (by subst n;omega) ⟨(i+1),(false),(m3),(l3),rfl,⟨J.pk,N⟩,?_⟩
 refine ⟨?_,r3⟩
 rw [T,zA P0];simp [sO, *]
 refine zW call138 J N (fun z2 w N a J=>?_) (fun z2 w N a J=>?_) (c:=tB G N)
 replace N:=N.pl 2
 refine zW call193 J N (fun A2 w N a J=>?_) (fun A2 w N a J=>?_) (c:=j0n (m:=m3) (l:=l3) (x:=H.type) r3 N)
 replace N:=N.nf
 obtain ⟨D1,f⟩:∃Y,Y=(vG m3 H.name (.string H.type)):=⟨_,rfl⟩
 have t3:MapRel RVs D1 (qZ l3 H.name H.type):=by rw [f];exact (MapRel.once r3 rfl)
 rw [<- f] at N
 clear f
 refine go J N fun a J=>?_
 replace N:=N.ar [1] [5,5,5,5,4,5]
 refine B0 _ _ _ (by subst n;omega) ⟨(i+1),(true),(D1),((qZ l3 H.name H.type)),rfl,⟨J.pk,N⟩,?_⟩
 refine ⟨?_,t3⟩
 rw [T,zA P0];simp [sO, *]
 replace N:=N.nf
 obtain ⟨E1,f⟩:∃Y,Y=(vG m3 H.name (.string H.type)):=⟨_,rfl⟩
 have u3:MapRel RVs E1 (qZ l3 H.name H.type):=by rw [f];exact (MapRel.once r3 rfl)
 rw [<- f] at N
 clear f
 refine go J N fun a J=>?_
 replace N:=N.ar [1] [5,5,5,5,4,5]
 refine B0 _ _ _ (by subst n;omega) ⟨(i+1),(false),(E1),((qZ l3 H.name H.type)),rfl,⟨J.pk,N⟩,?_⟩
 refine ⟨?_,u3⟩
 rw [T,zA P0];simp [sO, *]
 refine go J N fun a J=>?_
 replace N:=N.dl [0]
 refine B0 _ _ _ (by subst n;omega) ⟨(i+1),(false),(m3),(l3),rfl,⟨J.pk,N⟩,?_⟩
 refine ⟨?_,r3⟩
 rw [T,zA P0];simp [sO, *]
 refine go J N fun a J=>?_
 have B:=N
 clear N
 obtain ⟨z4,h0,N,C⟩:=B.freezeMap (i:=4) rfl
 clear B
 replace e0:=e0.mono h0
 replace G:=G.mono h0
 replace D:=RData.mono _ _ _ _ h0 D
 replace r0:=r0.up h0
 replace r1:=r1.up h0
 replace r2:=r2.up h0
 replace N:=N.nf
 have B:=N
 clear N
 obtain ⟨A4,b0,N,U⟩:=B.freezeMap (i:=3) rfl
 clear B
 replace e0:=e0.mono b0
 replace G:=G.mono b0
 replace D:=RData.mono _ _ _ _ b0 D
 replace r0:=r0.up b0
 replace r1:=r1.up b0
 replace r2:=r2.up b0
 replace C:=C.mono b0
 replace N:=N.nf
 have B:=N
 clear N
 obtain ⟨B4,W,N,k0⟩:=B.freezeMap (i:=2) rfl
 clear B
 replace e0:=e0.mono W
 replace G:=G.mono W
 replace D:=RData.mono _ _ _ _ W D
 replace r0:=r0.up W
 replace r1:=r1.up W
 replace r2:=r2.up W
 replace C:=C.mono W
 replace U:=U.mono W
 replace N:=N.nf
 have B:=N
 clear N
 obtain ⟨C4,F,N,C0⟩:=B.freezeMap (i:=1) rfl
 clear B
 replace e0:=e0.mono F
 replace G:=G.mono F
 replace D:=RData.mono _ _ _ _ F D
 replace r0:=r0.up F
 replace r1:=r1.up F
 replace r2:=r2.up F
 replace C:=C.mono F
 replace U:=U.mono F
 replace k0:=k0.mono F
 replace N:=N.nf
 have B:=N
 clear N
 obtain ⟨e1,E,N,f1⟩:=B.freezeBlk (i:=0) rfl
 clear B
 replace e0:=e0.mono E
 replace G:=G.mono E
 replace D:=RData.mono _ _ _ _ E D
 replace r0:=r0.up E
 replace r1:=r1.up E
 replace r2:=r2.up E
 replace C:=C.mono E
 replace U:=U.mono E
 replace k0:=k0.mono E
 replace C0:=C0.mono E
 replace N:=N.nf
 have hT:RTableX e1 ⟨z3,0,none⟩ ⟨c,l0,l1,l2,l3⟩ _:=⟨⟨[.slice p9 c.datas.length A3,.slice w4 c.inputs.length B3,.slice x4 c.funs.length C3,.slice q4 c.outputs.length D3],_,_,_,_,_,_,_,_,f1,rfl,e0,C,r0,U,r1,k0,r2,C0,r3⟩⟩
 refine go J N fun a J=>?_
 replace N:=N.dl [0]
 refine jV hQ J N ?_
 rw [zE T1] at T
 simp only [sO] at T
 obtain ⟨L3,M3⟩:=x4k B2 C2 T
 rw [L3,M3]
 exact ⟨(e1,_),rfl,⟨((((((o0).trans p0).trans h0).trans b0).trans W).trans F).trans E,hT⟩,N⟩
theorem j7r {V:Fz} {K:List Res} {w:World} {pt:Addr} {T:Table} {s:Bs} {b:Nat}  (rT:RTable V pt T) (N:Mem V (.blk b (ob [.pointer (some pt)] 89)::K) w) :
  Calls prog 155 #[.string s,.pointer (some ⟨b,0,none⟩)] w (fun ee w'=>ee=.returned (.bool ((!vD T s)))/\Mem V (.blk b (ob [.pointer (some pt)] 89)::K) w'):=by
 refine zM func155 ntmps155 fun Q d a J=>?_
 refine zS call80 J N (fun w N a J=>?_) (c:=z2l rT N)
 refine zD d J N ?_
 exact zL N (by simp [*])
theorem j7s {V:Fz} {K:List Res} {w:World} {pz:Option Addr} {cz:Nat} {ds:List Data} {e f g:Value} {d0:List Value} {p:Param} {b:Nat} (d:RParam V d0 p) (rd:SliceOf RData V 2 (.slice pz ds.length cz) ds) (N:Mem V (.blk b (ob [.slice pz ds.length cz,e,f,g] 27)::K) w) :
  Calls prog 157 #[.agg d0.toArray,.pointer (some ⟨b,0,none⟩)] w (fun ee w'=>ee=.returned (.bool ((!jC ds p.type)))/\Mem V (.blk b (ob [.slice pz ds.length cz,e,f,g] 27)::K) w'):=by
 obtain rfl:=id d
 refine zM func157 ntmps157 fun Q h a J=>?_
 refine Bx J N fun i w N a J=>?_
 refine zS call114 J N (fun w N a J=>?_) (c:=z5c rd N)
 refine go J N fun a J=>?_
 replace N:=N.dl [0]
 refine zD h J N ?_
 exact zL N (by simp [*])
theorem j7t {V:Fz} {R K:List Res} {w:World} {d0:List Value} {c:Core} {v:Value} (V1:RCoreX V d0 c v) (j2:Thaw R V v c.outputs) (P:xS c=false) (G:Glob V) (N:Mem V (R++K) w) :
  Calls prog 99 #[.agg d0.toArray] w (fun ee w'=>∃y:Fz×Addr,ee=.returned (.tuple #[.pointer (some y.2),.bool (qR c)])/\(V.Le y.1/\RTableX y.1 y.2 (zH c) v)/\Mem y.1 (R++K) w'):=by
 obtain ⟨s1,s2,s3,q4,R0,rfl,rfl,h6,h7,h8⟩:=id V1
 obtain ⟨p9,O0,rfl,m3,I1⟩:=h6.fm
 obtain ⟨j1,P0,rfl,n3,u3⟩:=h7.fm
 obtain ⟨O1,Q0,rfl,o3,J1⟩:=h8.fm
 refine zM func99 ntmps99 fun Q hQ a J=>?_
 refine Bx J N fun w0 w N a J=>?_
 refine qH call153 J N (fun S2 w F1 N a J=>?_) (c:=j1v V1 P G N)
 obtain ⟨m,z0⟩:=S2
 obtain ⟨d,j⟩:=F1
 simp only at d j N J
 replace h6:=h6.up d
 replace h7:=h7.up d
 replace h8:=h8.up d
 replace G:=G.mono d
 replace N:=N.nf
 obtain ⟨z,Y,L0,E,f⟩:=j2 m _ _ d (N.perm List.perm_middle.symm)
 have N:=L0
 clear L0
 replace h6:=h6.up Y
 replace h7:=h7.up Y
 replace h8:=h8.up Y
 replace G:=G.mono Y
 replace N:=N.nf
 obtain ⟨B2,K1⟩:=E.formO (by decide)
 have D:RTable z z0 (zH c):=(j.mono Y).full E
 obtain ⟨e3,a4,b4,c4,d4,S3,T3,T0,U3,q0,i2,r0,z3,C3,A3,D3,i0,j0,B3,E3⟩:=D.ex
 obtain ⟨e4,Q3,f4,c66,g4,c72,h4,R3,rfl,V3,W3,X3,Y3,p3,v3,q3,w3,r3,x3,t3,y3⟩:=RCore.fm r0
 refine Alc J N fun x0 w N a J=>?_
 refine Sto 0 J N fun w N a J=>?_
 refine go J N fun a J=>?_
 generalize J0:(!(wV c))=r1 at J
 cases r1
 refine go J N fun a J=>?_
 by_cases D1:c.outputs.length=0
 refine go J N fun a J=>?_
 replace N:=N.dl [1,0]
 refine jV hQ J N ?_
 have h:qR c=false:=by
  have Z:c.outputs=[]:=List.eq_nil_of_length_eq_zero D1
  simp [qR,Z]
 rw [h]
 exact ⟨(m,_),rfl,⟨d,j⟩,f _ _ (N.le (Fz.Le.refl _))⟩
 refine go J N fun a J=>?_
 have I0:wV c=true:=by simpa using J0
 have d2:c.outputs≠[]:=by intro Z;simp [Z] at D1
 refine go J N fun a J=>?_
 refine zV (J.ks [1,4,36,37]) N (fun R mm a w=>∃(i:Nat),mm=c.datas.length - i/\R z [(38,.int .i64 ((i:Nat):Int))] [] a w/\(c.datas.all (mY (zH c))=(c.datas.drop i).all (mY (zH c)))) (c.datas.length - 0) ⟨0,rfl,⟨J.pk,N⟩,rfl⟩ ?_
 clear N J
 rintro mm a w ⟨i,S,⟨J,N⟩,o0⟩ P3 H1
 refine go J N fun a J=>?_
 by_cases E1:i < c.datas.length
 refine go J N fun a J=>?_
 obtain ⟨P2,rfl,g0,M0,X1,m2,e2,d1⟩:=h6.el I1 E1
 obtain ⟨K3,rfl,B0⟩:=id d1
 obtain ⟨F3,t1,rfl,r2,b1⟩:=B0.fm
 refine Alc J N fun n1 w N a J=>?_
 refine Sto 0 J N fun w N a J=>?_
 refine go J N fun a J=>?_
 refine zV (J.ks [1,4,36,37,38,43,44]) N (fun R mm a w=>∃(k:Nat),mm=g0.cons.length - k/\R z [(45,.int .i64 ((k:Nat):Int))] [] a w/\(mY (zH c) g0=(g0.cons.drop k).all (fun x=>x.fields.all fun s=>vD (zH c) s))) (g0.cons.length - 0) ⟨0,rfl,⟨J.pk,N⟩,rfl⟩ ?_
 clear N J
 rintro mm a w ⟨k,S,⟨J,N⟩,e0⟩ T2 X0
 refine go J N fun a J=>?_
 by_cases C0:k < g0.cons.length
 refine go J N fun a J=>?_
 obtain ⟨T1,rfl,N0,t0,Y1,n2,f2,e1⟩:=B0.el b1 C0
 obtain ⟨L3,rfl,D0⟩:=id e1
 obtain ⟨L1,u1,rfl,t2,C2⟩:=D0.fm
 refine Alc J N fun o1 w N a J=>?_
 refine Sto 0 J N fun w N a J=>?_
 replace N:=N.pl 2
 refine zW call154 J N (fun a0 w N a J=>?_) (fun a0 w N a J=>?_) (c:=y0e (V:=z) (K:=.blk x0 (ob [.pointer (some z0)] 89)::.blk o1 (ob [.string N0.name,.slice L1 N0.fields.length u1] 135)::.blk n1 (ob [.string g0.name,.slice (some T1) g0.cons.length t1] 133)::.blk w0 (ob [.slice (some P2) c.datas.length O0,.slice j1 c.inputs.length P0,.slice O1 c.funs.length Q0,.slice q4 c.outputs.length R0] 27)::K) (p:=fun s=> !vD (zH c) s) (fs:=[]) (cs:=[.pointer (some ⟨x0,0,none⟩)]) D0 call155 (fun x c w hx hc N=>j7r D N) N)
 refine go J N fun a J=>?_
 replace N:=N.dl [3,2,1,0]
 refine jV hQ J N ?_
 have h:qR c=false:=by
  have n:c.datas.all (mY (zH c))=false:=by
   rw [o0,pU M0,e0,pU t0]
   simp only [z8k a0,Bool.false_and]
  simp [qR,n]
 rw [h]
 exact ⟨(m,_),rfl,⟨d,j⟩,f _ _ (N.le (Fz.Le.refl _))⟩
 refine go J N fun a J=>?_
 replace N:=N.ar [1] [2,1,2]
 refine X0 _ _ _ (by subst S;omega) ⟨(k+1),rfl,⟨J.pk,N⟩,?_⟩
 rw [e0,pU t0];simp only [z8j a0,Bool.true_and]
 refine go J N fun a J=>?_
 replace N:=N.dl [0]
 refine H1 _ _ _ (by subst S;omega) ⟨(i+1),rfl,⟨J.pk,N⟩,?_⟩
 rw [o0,pU M0];have y0:=e0;rw [q1b C0] at y0;rw [y0];rfl
 refine go J N fun a J=>?_
 have c2:c.datas.all (mY (zH c))=true:=by rw [o0,q1b E1]
 replace N:=N.pl 1
 refine zW call156 J N (fun b0 w N a J=>?_) (fun b0 w N a J=>?_) (c:=y5z (V:=z) (K:=.blk w0 (ob [.slice p9 c.datas.length O0,.slice j1 c.inputs.length P0,.slice O1 c.funs.length Q0,.slice q4 c.outputs.length R0] 27)::.blk x0 (ob [.pointer (some z0)] 89)::K) (p:=fun p=> !jC c.datas p.type) (fs:=[]) (cs:=[.pointer (some ⟨w0,0,none⟩)]) h7 call157 (fun x c w hx hc N=>j7s hc h6 N) N)
 refine go J N fun a J=>?_
 replace N:=N.dl [1,0]
 refine jV hQ J N ?_
 have h:qR c=false:=by
  have n:=z8k b0
  simp [qR,n]
 rw [h]
 exact ⟨(m,_),rfl,⟨d,j⟩,f _ _ (N.le (Fz.Le.refl _))⟩
 refine go J N fun a J=>?_
 have G1:c.inputs.all (fun p=>jC c.datas p.type)=true:=z8j b0
 refine go J N fun a J=>?_
 refine zV (J.ks [1,4,62,63]) N (fun R mm a w=>∃(i:Nat),mm=c.funs.length - i/\R z [(64,.int .i64 ((i:Nat):Int))] [] a w/\(c.funs.all (pA (zH c))=(c.funs.drop i).all (pA (zH c)))) (c.funs.length - 0) ⟨0,rfl,⟨J.pk,N⟩,rfl⟩ ?_
 clear N J
 rintro mm a w ⟨i,S,⟨J,N⟩,A⟩ U2 Y0
 refine go J N fun a J=>?_
 by_cases E0:i < c.funs.length
 refine go J N fun a J=>?_
 obtain ⟨U1,rfl,b,t,Z1,o2,p0,f0⟩:=h8.el J1 E0
 obtain ⟨M3,X2,rfl,F0,W⟩:=id f0
 obtain ⟨M1,v1,rfl,u2,c1⟩:=F0.fm
 obtain ⟨N1,w1,P1,c175,rfl,k2,f3,g3,v2,D2,w2,E2⟩:=REx.fm W
 refine Alc J N fun p1 w N a J=>?_
 refine Sto 0 J N fun w N a J=>?_
 refine go J N fun a J=>?_
 replace N:=N.nilRow 9 1
 replace N:=N.nf
 refine MkM J N fun A0 w N a J=>?_
 refine go J N fun a J=>?_
 replace N:=N.nf
 refine go J N fun a J=>?_
 refine zV (J.ks [1,4,11,13,62,63,64,70,71]) N (fun R mm a w=>∃(k:Nat) (u:Value) (nl:List Bs) (sc:Scope),mm=b.params.length - k/\R z [(12,u),(72,.int .i64 ((k:Nat):Int))] [(0,.mp A0 (jW sc)),(1,.gs (u) 9 1 (strs nl))] a w/\(b.params.all (fun p=>vD (zH c) p.type)=(b.params.drop k).all (fun p=>vD (zH c) p.type)/\b.params.map Param.name=nl++(b.params.drop k).map Param.name/\sK b.params=(b.params.drop k).foldl (fun s p=>wH s p.name p.type) sc)) (b.params.length - 0) ⟨0,.slice none 0 0,[],[],rfl,⟨J.pk,N⟩,⟨rfl,rfl,rfl⟩⟩ ?_
 clear N J
 rintro mm a w ⟨k,u,nl,sc,S,⟨J,N⟩,F⟩ V2 Z0
 replace N:=N.nf
 refine go J N fun a J=>?_
 by_cases G0:k < b.params.length
 refine go J N fun a J=>?_
 obtain ⟨I3,rfl,u0,T,a2,p2,g2,f1⟩:=F0.el c1 G0
 obtain rfl:=id f1
 refine Alc J N fun Y2 w N a J=>?_
 refine Sto 0 J N fun w N a J=>?_
 refine zW call80 J N (fun c0 w N a J=>?_) (fun c0 w N a J=>?_) (c:=z2l D N)
 refine qG J N fun O3 w N a J=>?_
 refine qN 3 wM J N (fun W1 w N a J=>?_) (hb:=by have K2:=congrArg List.length (F).2.1;have h_:=(z5h P (mgQ t)).1;simp only [List.length_map,laQ,yF,lcQ,lnQ] at K2 ⊢;omega)
 first | rw [jJ] at N | rw [<- yQ] at N
 refine z4h 2 runUnderlying157 runUnderlying9 J N fun w N a J=>?_
 rw [z1o] at N
 refine go J N fun a J=>?_
 replace N:=N.dl [1,0]
 refine Z0 _ _ _ (by subst S;omega) ⟨(k+1),(W1),(nl++[u0.name]),((wH sc u0.name u0.type)),rfl,⟨J.pk,N⟩,?_⟩
 obtain ⟨k0,l0,m0⟩:=F
 refine ⟨?_,?_,?_⟩
 rw [k0,pU T,c0];rfl
 rw [l0,zA T];simp
 rw [m0,zA T];rfl
 refine go J N fun a J=>?_
 replace N:=N.dl [5,4,3,2,1,0]
 refine jV hQ J N ?_
 have h:qR c=false:=by
  obtain ⟨k0,_,_⟩:=F
  have Z:pA (zH c) b=false:=by
   have A1:b.params.all (fun p=>vD (zH c) p.type)=false:=by rw [k0,pU T];simp only [c0,Bool.false_and]
   simp only [pA,A1,Bool.false_and]
  have n:c.funs.all (pA (zH c))=false:=by rw [A,pU t,Z];rfl
  simp [qR,n]
 rw [h]
 exact ⟨(m,_),rfl,⟨d,j⟩,f _ _ (N.le (Fz.Le.refl _))⟩
 refine go J N fun a J=>?_
 refine yZ [2,1,2,0,1,1,1,2,1,0,0,1,1,1,2,1,2,1,0,1,2,1,1] (.q 0 (.q 1 (.q 2 (.e 3 (.q 4 (.q 5 (.q 6 (.q 7 (.q 8 (.e 9 (.e 10 (.q 11 (.q 12 (.q 13 (.q 14 (.q 15 (.q 16 (.q 17 (.q 19 (.q 20 (.e 18 (.q 21 (.q 22 (.done)))))))))))))))))))))))) [2,3,4] J N fun w N=>?_
 obtain ⟨k0,l0,m0⟩:=F
 rw [zE G0] at k0 l0 m0
 simp only [List.map_nil,List.append_nil,List.foldl_nil,List.all_nil] at k0 l0 m0
 replace N:Mem z (.mp A0 (jW (sK b.params))::.gs (u) 9 1 (strs (b.params.map Param.name))::.blk p1 (ob [.string b.name,.slice M1 b.params.length v1,.string b.result,.int .i64 (b.body.kind),.int .i64 (b.body.num),.string b.body.name,.slice N1 b.body.args.length w1,.slice P1 b.body.arms.length c175] 68)::.blk w0 (ob [.slice p9 c.datas.length O0,.slice j1 c.inputs.length P0,.slice (some U1) c.funs.length Q0,.slice q4 c.outputs.length R0] 27)::.blk x0 (ob [.pointer (some z0)] 89)::K) w:=by rw [l0,m0];exact N
 have X:=N
 clear N
 subst l0
 subst m0
 have N:=X
 clear X
 refine zW call80 J N (fun V0 w N a J=>?_) (fun V0 w N a J=>?_) (c:=z2l D N)
 refine go J N fun a J=>?_
 replace N:=N.pl 1
 refine d_eg J rfl rfl rfl rfl rfl (wC J rfl call85 (q8p (l:=(b.params.map Param.name)) (by have h_:=z5h P (mgQ t);simp only [List.length_map];omega) W N) fun v210 w N=>⟨fun _=>N.sn (Fz.Le.refl _),fun a J=>?_⟩)
 replace N:=N.nf
 have K0:=N
 clear N
 obtain ⟨k1,g,N,s0⟩:=K0.freezeRow (i:=0) rfl
 clear K0
 replace G:=G.mono g
 replace E:=E.up g
 replace D:=D.mono g
 replace q0:=q0.mono g
 replace i0:=i0.mono g
 replace j0:=j0.up g
 replace p0:=p0.mono g
 replace f0:=RFun.mono _ _ _ _ g f0
 replace W:=REx.mono _ _ _ _ g W
 replace N:=N.nf
 have h0:SliceOf RStr k1 1 _ (((b.params.map Param.name)++zP b.body)):=SliceOf.strs.2 s0
 obtain ⟨G3,d3,M2,x2,F2⟩:=h0.form (by decide)
 have X:=N
 clear N
 subst M2
 have N:=X
 clear X
 refine zW call84 J N (fun W0 w N a J=>?_) (fun W0 w N a J=>?_) (c:=j9d h0 G N)
 refine zS call86 J N (fun w N a J=>?_) (c:=x4q (z6a P I0) D W N)
 by_cases h3:(zF (zH c) b.body (sK b.params)).1=b.result
 refine go J N fun a J=>?_
 replace N:=N.le (g)
 replace N:=N.dl [1,0]
 refine Y0 _ _ _ (by subst S;omega) ⟨(i+1),rfl,⟨J.pk,N⟩,?_⟩
 rw [A,pU t];simp [pA, *]
 refine go J N fun a J=>?_
 replace N:=N.dl [3,2,1,0]
 refine jV hQ J N ?_
 have h:qR c=false:=by
  have Z:pA (zH c) b=false:=by simp [pA, *]
  have n:c.funs.all (pA (zH c))=false:=by rw [A,pU t,Z];rfl
  simp [qR,n]
 rw [h]
 exact ⟨(m,_),rfl,⟨d,j⟩,f _ _ (N.le (g))⟩
 refine go J N fun a J=>?_
 replace N:=N.dl [3,2,1,0]
 refine jV hQ J N ?_
 have h:qR c=false:=by
  have Z:pA (zH c) b=false:=by simp [pA, *]
  have n:c.funs.all (pA (zH c))=false:=by rw [A,pU t,Z];rfl
  simp [qR,n]
 rw [h]
 exact ⟨(m,_),rfl,⟨d,j⟩,f _ _ (N.le (g))⟩
 refine go J N fun a J=>?_
 replace N:=N.dl [4,3,2,1,0]
 refine jV hQ J N ?_
 have h:qR c=false:=by
  have Z:pA (zH c) b=false:=by simp [pA, *]
  have n:c.funs.all (pA (zH c))=false:=by rw [A,pU t,Z];rfl
  simp [qR,n]
 rw [h]
 exact ⟨(m,_),rfl,⟨d,j⟩,f _ _ (N.le (Fz.Le.refl _))⟩
 refine go J N fun a J=>?_
 have y0:c.funs.all (pA (zH c))=true:=by rw [A,q1b E0]
 refine MkM J N fun q1 w N a J=>?_
 refine go J N fun a J=>?_
 refine zV (J.ks [4,16,120,121]) N (fun R mm a w=>∃(i:Nat) (ds:List Bs),mm=c.outputs.length - i/\R z [(122,.int .i64 ((i:Nat):Int))] [(0,.mp q1 (jD ds))] a w/\(kQ (zH c) [] c.outputs=kQ (zH c) ds (c.outputs.drop i))) (c.outputs.length - 0) ⟨0,[],rfl,⟨J.pk,N⟩,rfl⟩ ?_
 clear N J
 rintro mm a w ⟨i,ds,S,⟨J,N⟩,C⟩ W2 a1
 replace N:=N.nf
 refine go J N fun a J=>?_
 by_cases H0:i < c.outputs.length
 refine go J N fun a J=>?_
 obtain ⟨J3,rfl,B,U,S0,q2,h2,g1⟩:=E.el K1 H0
 obtain rfl:S0=[.string B]:=g1
 refine go J N fun a J=>?_
 rcases H:yO (T0) B with _ | Q2
 have I:=congrArg (zK true (.agg #[.string ⟨#[]⟩,.slice none 0 0,.string ⟨#[]⟩,.int .i64 ((0:Nat):Int),.int .i64 ((0:Nat):Int),.string ⟨#[]⟩,.slice none 0 0,.slice none 0 0])) H
 refine Qq J N (fun a J=>?_) (o:=by exact fun _ _ _ J O=>Ok.cast (zY runUnderlying103 runUnderlying9 zeroValue68 J O rfl rfl i0) (show zK true (.agg #[.string ⟨#[]⟩,.slice none 0 0,.string ⟨#[]⟩,.int .i64 ((0:Nat):Int),.int .i64 ((0:Nat):Int),.string ⟨#[]⟩,.slice none 0 0,.slice none 0 0]) (yO (T0) B)=.tuple #[.agg #[.string ⟨#[]⟩,.slice none 0 0,.string ⟨#[]⟩,.int .i64 ((0:Nat):Int),.int .i64 ((0:Nat):Int),.string ⟨#[]⟩,.slice none 0 0,.slice none 0 0],.bool false] from I))
 refine Alc J N fun Z2 w N a J=>?_
 refine Sto 0 J N fun w N a J=>?_
 refine go J N fun a J=>?_
 replace N:=N.dl [3,2,1,0]
 refine jV hQ J N ?_
 have h:qR c=false:=by
  have A1:=MapRel.none j0 H
  have n:kQ (zH c) [] c.outputs=false:=by rw [C,zA U];simp [kQ, *] <;> (intro Z;simp_all)
  simp [qR,n]
 rw [h]
 exact ⟨(m,_),rfl,⟨d,j⟩,f _ _ (N.le (Fz.Le.refl _))⟩
 obtain ⟨r,i1,b2,rfl,h1⟩:=j0.get H
 obtain ⟨N3,a3,rfl,B1,C1⟩:=id h1
 obtain ⟨Q1,x1,rfl,y2,G2⟩:=B1.fm
 obtain ⟨R1,y1,S1,z1,rfl,l2,i3,j3,z2,H2,A2,I2⟩:=REx.fm C1
 have I:=congrArg (zK true (.agg #[.string ⟨#[]⟩,.slice none 0 0,.string ⟨#[]⟩,.int .i64 ((0:Nat):Int),.int .i64 ((0:Nat):Int),.string ⟨#[]⟩,.slice none 0 0,.slice none 0 0])) H
 refine Qq J N (fun a J=>?_) (o:=by exact fun _ _ _ J O=>Ok.cast (zY runUnderlying103 runUnderlying9 zeroValue68 J O rfl rfl i0) (show zK true (.agg #[.string ⟨#[]⟩,.slice none 0 0,.string ⟨#[]⟩,.int .i64 ((0:Nat):Int),.int .i64 ((0:Nat):Int),.string ⟨#[]⟩,.slice none 0 0,.slice none 0 0]) (yO (T0) B)=.tuple #[.agg #[.string r.name,.slice Q1 r.params.length x1,.string r.result,.int .i64 (r.body.kind),.int .i64 (r.body.num),.string r.body.name,.slice R1 r.body.args.length y1,.slice S1 r.body.arms.length z1],.bool true] from I))
 refine Alc J N fun b3 w N a J=>?_
 refine Sto 0 J N fun w N a J=>?_
 refine go J N fun a J=>?_
 by_cases k3:0 < r.params.length
 refine go J N fun a J=>?_
 replace N:=N.dl [3,2,1,0]
 refine jV hQ J N ?_
 have h:qR c=false:=by
  have n:kQ (zH c) [] c.outputs=false:=by rw [C,zA U];simp [kQ, *] <;> (intro Z;simp_all)
  simp [qR,n]
 rw [h]
 exact ⟨(m,_),rfl,⟨d,j⟩,f _ _ (N.le (Fz.Le.refl _))⟩
 refine go J N fun a J=>?_
 rcases L:yO ((jD ds)) B with _ | R2
 have M:=congrArg (zK false (.bool false)) L
 refine Qq J N (fun a J=>?_) (o:=by exact fun _ _ _ J O=>Ok.cast (qF 1 runUnderlying121 runUnderlying9 zeroValue4 J O rfl rfl rfl) (show zK false (.bool false) (yO ((jD ds)) B)=.bool false from M))
 refine z4h 1 runUnderlying121 runUnderlying9 J N fun w N a J=>?_
 rw [<- uK] at N
 refine go J N fun a J=>?_
 replace N:=N.dl [0]
 refine a1 _ _ _ (by subst S;omega) ⟨(i+1),(ds++[B]),rfl,⟨J.pk,N⟩,?_⟩
 have J2:=z5w L
 have N2:r.params=[]:=List.eq_nil_of_length_eq_zero (by omega)
 rw [C,zA U];simp [kQ,i1,N2,J2]
 obtain ⟨rfl,L2⟩:=z5x L
 have M:=congrArg (zK false (.bool false)) L
 refine Qq J N (fun a J=>?_) (o:=by exact fun _ _ _ J O=>Ok.cast (qF 1 runUnderlying121 runUnderlying9 zeroValue4 J O rfl rfl rfl) (show zK false (.bool false) (yO ((jD ds)) B)=.bool true from M))
 refine go J N fun a J=>?_
 replace N:=N.dl [3,2,1,0]
 refine jV hQ J N ?_
 have h:qR c=false:=by
  have n:kQ (zH c) [] c.outputs=false:=by rw [C,zA U];simp [kQ, *] <;> (intro Z;simp_all)
  simp [qR,n]
 rw [h]
 exact ⟨(m,_),rfl,⟨d,j⟩,f _ _ (N.le (Fz.Le.refl _))⟩
 refine go J N fun a J=>?_
 replace N:=N.dl [2,1,0]
 refine jV hQ J N ?_
 have h:qR c=true:=by
  have n:kQ (zH c) [] c.outputs=true:=by rw [C,zE H0];rfl
  simp [qR,I0,d2,c2,G1,y0,n]
 rw [h]
 exact ⟨(m,_),rfl,⟨d,j⟩,f _ _ (N.le (Fz.Le.refl _))⟩
 refine go J N fun a J=>?_
 replace N:=N.dl [1,0]
 refine jV hQ J N ?_
 have h:qR c=false:=by
  have Z:wV c=false:=by simpa using J0
  simp [qR,Z]
 rw [h]
 exact ⟨(m,_),rfl,⟨d,j⟩,f _ _ (N.le (Fz.Le.refl _))⟩
theorem q5t {V:Fz} {R K:List Res} {w:World} {d0:List Value} {c:Core} {v:Value} (m:RCoreX V d0 c v) (D:Thaw R V v c.outputs) (G:Glob V) (N:Mem V (R++K) w) :
  Calls prog 43 #[.agg d0.toArray] w (fun ee w'=>∃y:Fz×Addr,ee=.returned (.tuple #[(if yP c=0 then .pointer (some y.2) else .pointer none),.int .i64 (yP c)])/\(V.Le y.1/\(yP c=0->RTableX y.1 y.2 (zH c) v/\xS c=false))/\Mem y.1 (R++K) w'):=by
 obtain ⟨s1,s2,s3,U,t,rfl,rfl,W,X,F⟩:=id m
 obtain ⟨T,q,rfl,H,M⟩:=W.fm
 obtain ⟨z,r,rfl,I,P⟩:=X.fm
 obtain ⟨A,s,rfl,L,S⟩:=F.fm
 refine zM func43 ntmps43 fun Q B a J=>?_
 refine Bx J N fun n w N a J=>?_
 refine zW call96 J N (fun h w N a J=>?_) (fun h w N a J=>?_) (c:=q3q (V:=V) (K:=.blk n (ob [.slice T c.datas.length q,.slice z c.inputs.length r,.slice A c.funs.length s,.slice U c.outputs.length t] 27)::(R++K)) (p:=fun f=>xG 250 f.body) (fs:=[]) (cs:=[]) F call97 (fun x c w hx Y N=>x2s Y N) N)
 refine go J N fun a J=>?_
 replace N:=N.dl [0]
 refine jV B J N ?_
 have d:yP c=6:=by
  simp [yP,h]
 rw [d]
 exact ⟨(V,⟨0,0,none⟩),rfl,⟨Fz.Le.refl _,fun h_=>(by cases h_)⟩,N⟩
 refine go J N fun a J=>?_
 have e:=h
 refine zW call98 J N (fun i w N a J=>?_) (fun i w N a J=>?_) (c:=x2r m N)
 refine go J N fun a J=>?_
 replace N:=N.dl [0]
 refine jV B J N ?_
 have d:yP c=2:=by
  simp [yP, *]
 rw [d]
 exact ⟨(V,⟨0,0,none⟩),rfl,⟨Fz.Le.refl _,fun h_=>(by cases h_)⟩,N⟩
 refine go J N fun a J=>?_
 have b:=i
 refine qH call99 J N (fun E w u N a J=>?_) (c:=j7t (K:=.blk n (ob [.slice T c.datas.length q,.slice z c.inputs.length r,.slice A c.funs.length s,.slice U c.outputs.length t] 27)::K) m D i G (N.perm List.perm_middle.symm))
 obtain ⟨l,Z⟩:=E
 obtain ⟨g,j⟩:=u
 simp only at g j N J
 replace N:=N.perm List.perm_middle
 replace G:=G.mono g
 replace N:=N.nf
 refine go J N fun a J=>?_
 generalize k:(!(qR c))=o at J
 cases o
 refine go J N fun a J=>?_
 replace N:=N.dl [0]
 refine jV B J N ?_
 have d:yP c=0:=by
  have C:qR c=true:=by simpa using k
  simp [yP,e,b,C]
 rw [d]
 exact ⟨(l,_),rfl,⟨g,fun _=>⟨j,b⟩⟩,N⟩
 refine go J N fun a J=>?_
 replace N:=N.dl [0]
 refine jV B J N ?_
 have d:yP c=80:=by
  have C:qR c=false:=by simpa using k
  simp [yP,e,b,C]
 rw [d]
 exact ⟨(l,⟨0,0,none⟩),rfl,⟨g,fun h_=>(by cases h_)⟩,N⟩
theorem z5i {V:Fz} {K:List Res} {w:World} {d0:List Value} {c:Core} (a:RCore V d0 c) (G:Glob V) (N:Mem V K w) :
  Calls prog 43 #[.agg d0.toArray] w (fun ee w'=>∃y:Fz×Addr,ee=.returned (.tuple #[(if yP c=0 then .pointer (some y.2) else .pointer none),.int .i64 (yP c)])/\(V.Le y.1/\(yP c=0->RTable y.1 y.2 (zH c)/\xS c=false))/\Mem y.1 K w'):=by
 obtain ⟨v,i,f⟩:=a.x
 refine (q5t i (Thaw.none f) G N).mono fun ee w' h=>?_
 obtain ⟨y,h1,⟨d,e⟩,g⟩:=h
 exact ⟨y,h1,⟨d,fun b=>⟨(e b).1.full (show SliceOf RStr y.1 1 v c.outputs from f.mono RStr.mono d),(e b).2⟩⟩,g⟩
theorem q4f {V:Fz} {K:List Res} {w:World} {d0:List Value} {c:Core} (e:RCore V d0 c) (G:Glob V) (N:Mem V K w) :
  Calls prog 36 #[.agg d0.toArray] w (fun ee w'=>ee=.returned (.int .i64 (yP c))/\Mem V K w'):=by
 obtain ⟨H,c4,I,t,B,u,C,c22,rfl,E,F,v,y,z,A,l,o,m,p,n,q⟩:=RCore.fm e
 refine zM func36 ntmps36 fun Q j a J=>?_
 refine Bx J N fun s w N a J=>?_
 refine qH call43 J N (fun i w g N a J=>?_) (c:=z5i e G N)
 obtain ⟨r,D⟩:=i
 obtain ⟨d,f⟩:=g
 simp only at d f N J
 replace e:=RCore.mono _ _ _ _ d e
 replace G:=G.mono d
 replace N:=N.nf
 by_cases b:yP c=0
 obtain ⟨k,h⟩:=f b
 rw [if_pos b,b] at J
 refine go J N fun a J=>?_
 replace N:=N.le (d)
 replace N:=N.dl [0]
 refine zD j J N ?_
 exact jG N (by exact b.symm)
 rw [if_neg b] at J
 refine go J N fun a J=>?_
 replace N:=N.le (d)
 replace N:=N.dl [0]
 refine zD j J N ?_
 exact jG N (by rfl)
end Go.Sw

namespace Go.Sw
open Go.Proofs.Tryz
open Go.Proofs
set_option maxRecDepth 20000
set_option maxHeartbeats 4000000
variable {V:Fz} {K:List Res} {w:World}
theorem q9f {g:Nat} {fs cs:List Value} {v0 I:Value} {l:List Val} {m:List Param} {p:Val->Param->Bool} (rl:SliceOf RVal V 3 v0 l) (rm:SliceOf RParam V 2 I m)
  (T:∀args w,(callFunc g args).run prog w=.ok (.enter g args) w)
  (S:∀x c y d w,x∈l->y∈m->RVal V c x->RParam V d y->Mem V K w->Calls prog g (fs++[Value.agg c.toArray,Value.agg d.toArray]++cs).toArray w (fun e w'=>e=.returned (.bool (p x y))/\Mem V K w'))
  (N:Mem V K w):Calls prog 59 #[v0,I,.func (.func g) fs.toArray cs.toArray] w (fun ee w'=>ee=.returned (.bool (eqF p l m))/\Mem V K w'):=by
 obtain ⟨p0,c0,rfl,U,u⟩:=rl.fm
 obtain ⟨p1,c1,rfl,W,v⟩:=rm.fm
 refine zM func59 ntmps59 fun Q s a J=>?_
 refine go J N fun a J=>?_
 by_cases h4:l.length=m.length
 refine go J N fun a J=>?_
 refine zV (J.ks [1,2,15,16]) N (fun R mm a w=>∃(i:Nat),mm=l.length - i/\R V [(17,.int .i64 ((i:Nat):Int))] [] a w/\(eqF p l m=eqF p (l.drop i) (m.drop i))) (l.length - 0) ⟨0,rfl,⟨J.pk,N⟩,rfl⟩ ?_
 clear N J
 rintro mm a w ⟨i,t,⟨J,N⟩,k⟩ L7 r
 refine go J N fun a J=>?_
 by_cases n:i < l.length
 refine go J N fun a J=>?_
 obtain ⟨Y,rfl,a0,b,z,E,B,h⟩:=rl.el u n
 obtain ⟨X,c24,rfl,D,P,G,H⟩:=RVal.fm h
 refine Alc J N fun L w N a J=>?_
 refine Sto 0 J N fun w N a J=>?_
 refine go J N fun a J=>?_
 have q:i < m.length:=by omega
 obtain ⟨Z,rfl,b0,f,A,F,C,j⟩:=rm.el v q
 obtain rfl:=id j
 refine Alc J N fun M w N a J=>?_
 refine Sto 0 J N fun w N a J=>?_
 refine go J N fun a J=>?_
 replace N:=N.dl [1,0]
 refine y0c T J N (fun o w N a J=>?_) (fun o w N a J=>?_) (c:=by exact S _ _ _ _ _ (mgQ b) (mgQ f) h j N)
 refine go J N fun a J=>?_
 refine r _ _ _ (by subst t;omega) ⟨(i+1),rfl,⟨J.pk,N⟩,?_⟩
 rw [k,zA b,zA f];simp [eqF, *]
 refine zD s J N ?_
 exact zL N (by rw [k,zA b,zA f];simp [eqF, *])
 refine zD s J N ?_
 exact zL N (by rw [k,zE n,zE (l:=m) (by omega)];rfl)
 refine zD s J N ?_
 exact zL N (by rw [q1q (by assumption)])
theorem q1r {g:Nat} {fs cs:List Value} {v0 L:Value} {l:List Named} {m:List Param} {p:Named->Param->Bool} (rl:SliceOf RNamed V 4 v0 l) (rm:SliceOf RParam V 2 L m)
  (X:∀args w,(callFunc g args).run prog w=.ok (.enter g args) w)
  (W:∀x c y d w,x∈l->y∈m->RNamed V c x->RParam V d y->Mem V K w->Calls prog g (fs++[Value.agg c.toArray,Value.agg d.toArray]++cs).toArray w (fun e w'=>e=.returned (.bool (p x y))/\Mem V K w'))
  (N:Mem V K w):Calls prog 100 #[v0,L,.func (.func g) fs.toArray cs.toArray] w (fun ee w'=>ee=.returned (.bool (eqF p l m))/\Mem V K w'):=by
 obtain ⟨p0,c0,rfl,Y,v⟩:=rl.fm
 obtain ⟨p1,c1,rfl,Z,z⟩:=rm.fm
 refine zM func100 ntmps100 fun Q t a J=>?_
 refine go J N fun a J=>?_
 by_cases h4:l.length=m.length
 refine go J N fun a J=>?_
 refine zV (J.ks [1,2,15,16]) N (fun R mm a w=>∃(i:Nat),mm=l.length - i/\R V [(17,.int .i64 ((i:Nat):Int))] [] a w/\(eqF p l m=eqF p (l.drop i) (m.drop i))) (l.length - 0) ⟨0,rfl,⟨J.pk,N⟩,rfl⟩ ?_
 clear N J
 rintro mm a w ⟨i,u,⟨J,N⟩,k⟩ L7 s
 refine go J N fun a J=>?_
 by_cases n:i < l.length
 refine go J N fun a J=>?_
 obtain ⟨b0,rfl,e0,b,A,F,C,h⟩:=rl.el v n
 obtain ⟨M,rfl,r⟩:=id h
 obtain ⟨a0,T,rfl,E,U,H,I⟩:=RVal.fm r
 refine Alc J N fun P w N a J=>?_
 refine Sto 0 J N fun w N a J=>?_
 refine go J N fun a J=>?_
 have q:i < m.length:=by omega
 obtain ⟨d0,rfl,f0,f,B,G,D,j⟩:=rm.el z q
 obtain rfl:=id j
 refine Alc J N fun S w N a J=>?_
 refine Sto 0 J N fun w N a J=>?_
 refine go J N fun a J=>?_
 replace N:=N.dl [1,0]
 refine y0c X J N (fun o w N a J=>?_) (fun o w N a J=>?_) (c:=by exact W _ _ _ _ _ (mgQ b) (mgQ f) h j N)
 refine go J N fun a J=>?_
 refine s _ _ _ (by subst u;omega) ⟨(i+1),rfl,⟨J.pk,N⟩,?_⟩
 rw [k,zA b,zA f];simp [eqF, *]
 refine zD t J N ?_
 exact zL N (by rw [k,zA b,zA f];simp [eqF, *])
 refine zD t J N ?_
 exact zL N (by rw [k,zE n,zE (l:=m) (by omega)];rfl)
 refine zD t J N ?_
 exact zL N (by rw [q1q (by assumption)])
theorem q5q {left:Int} {d0:List Value} {v:Val} {b:Nat} {e:Nat} (h:RVal V d0 v) (r:∀x:Val,x.sz < v.sz->∀{V:Fz} {K:List Res} {w:World} {d:List Value} {b e:Nat} {left:Int},RVal V d x->Mem V (.blk b (ob [.int .i64 left] 3)::.blk e (ob [.func (.func 105) #[] #[.pointer (some ⟨b,0,none⟩),.pointer (some ⟨e,0,none⟩)]] 108)::K) w->Calls prog 105 #[.agg d.toArray,.pointer (some ⟨b,0,none⟩),.pointer (some ⟨e,0,none⟩)] w (fun ee w'=>ee=.returned (.bool (jT x left).1)/\Mem V (.blk b (ob [.int .i64 (jT x left).2] 3)::.blk e (ob [.func (.func 105) #[] #[.pointer (some ⟨b,0,none⟩),.pointer (some ⟨e,0,none⟩)]] 108)::K) w')) (N:Mem V (.blk b (ob [.int .i64 (left)] 3)::.blk e (ob [.func (.func 105) #[] #[.pointer (some ⟨b,0,none⟩),.pointer (some ⟨e,0,none⟩)]] 108)::K) w) :
  Calls prog 105 #[.agg d0.toArray,.pointer (some ⟨b,0,none⟩),.pointer (some ⟨e,0,none⟩)] w (fun ee w'=>ee=.returned (.bool ((jT v left).1))/\Mem V (.blk b (ob [.int .i64 ((jT v left).2)] 3)::.blk e (ob [.func (.func 105) #[] #[.pointer (some ⟨b,0,none⟩),.pointer (some ⟨e,0,none⟩)]] 108)::K) w'):=by
 obtain ⟨t,c4,rfl,m,k,n,p⟩:=RVal.fm h
 refine zM func105 ntmps105 fun Q i a J=>?_
 refine Bx J N fun j w N a J=>?_
 refine Qq J N (fun a J=>?_) (o:=by exact fun _ _ _ J O=>vT _ J rfl rfl rfl)
 refine Sto 1 J N fun w N a J=>?_
 refine go J N fun a J=>?_
 by_cases g:IntKind.i64.wrap (left - 1) < 0
 refine go J N fun a J=>?_
 replace N:=N.dl [0]
 refine zD i J N ?_
 have f:jT v left=(true,IntKind.i64.wrap (left - 1)):=by
  rw [z7o,if_pos g]
 show _/\_;rw [f];exact ⟨rfl,N⟩
 replace N:=N.ar [] [2,2]
 refine zS call49 J N (fun w N a J=>?_) (c:=sV (V:=V) (σ:=Int) (step:=fun s x=>jT x s) (Kf:=fun s=>.blk b (ob [.int .i64 s] 3)::.blk e (ob [.func (.func 105) #[] #[.pointer (some ⟨b,0,none⟩),.pointer (some ⟨e,0,none⟩)]] 108)::.blk j (ob [.string v.con,.int .i64 (v.num),.slice t v.args.length c4] 42)::K) (s0:=IntKind.i64.wrap (left - 1)) (fs:=[]) (cs:=[.pointer (some ⟨b,0,none⟩),.pointer (some ⟨e,0,none⟩)]) k call105 (fun s x c w q l N=>r x (Val.lt_args q) l N) N)
 replace N:=N.nf
 refine go J N fun a J=>?_
 replace N:=N.dl [2]
 refine zD i J N ?_
 have f:jT v left=(z2v (fun s x=>jT x s) (IntKind.i64.wrap (left - 1)) v.args,(yI (fun s x=>jT x s) (IntKind.i64.wrap (left - 1)) v.args 0).2):=by
  rw [z7o,if_neg g];exact Prod.ext (z3s v.args _ 0).1 (z3s v.args _ 0).2
 show _/\_;rw [f];exact ⟨rfl,N⟩
theorem j6s {d:List Value} {v:Val} {a b:Nat} {left:Int} (rv:RVal V d v) (N:Mem V (.blk a (ob [.int .i64 left] 3)::.blk b (ob [.func (.func 105) #[] #[.pointer (some ⟨a,0,none⟩),.pointer (some ⟨b,0,none⟩)]] 108)::K) w) :
  Calls prog 105 #[.agg d.toArray,.pointer (some ⟨a,0,none⟩),.pointer (some ⟨b,0,none⟩)] w (fun ee w'=>ee=.returned (.bool (jT v left).1)/\Mem V (.blk a (ob [.int .i64 (jT v left).2] 3)::.blk b (ob [.func (.func 105) #[] #[.pointer (some ⟨a,0,none⟩),.pointer (some ⟨b,0,none⟩)]] 108)::K) w'):=by
 suffices H:∀n (x:Val),x.sz < n->∀{V:Fz} {K:List Res} {w:World} {d:List Value} {a b:Nat} {left:Int},RVal V d x->Mem V (.blk a (ob [.int .i64 left] 3)::.blk b (ob [.func (.func 105) #[] #[.pointer (some ⟨a,0,none⟩),.pointer (some ⟨b,0,none⟩)]] 108)::K) w ->
   Calls prog 105 #[.agg d.toArray,.pointer (some ⟨a,0,none⟩),.pointer (some ⟨b,0,none⟩)] w (fun ee w'=>ee=.returned (.bool (jT x left).1)/\Mem V (.blk a (ob [.int .i64 (jT x left).2] 3)::.blk b (ob [.func (.func 105) #[] #[.pointer (some ⟨a,0,none⟩),.pointer (some ⟨b,0,none⟩)]] 108)::K) w') from H _ v (Nat.lt_succ_self _) rv N
 intro n
 induction n with
 | zero=>intro e h;omega
 | succ n c=>intro x h V K w d a b left rv N;exact q5q rv (fun y f _ _ _ _ _ _ _ r m=>c y (by omega) r m) N
theorem z0z {d0:List Value} {v:Val} (b:RVal V d0 v) (N:Mem V K w) :
  Calls prog 50 #[.agg d0.toArray] w (fun ee w'=>ee=.returned (.bool (vU v))/\Mem V K w'):=by
 obtain ⟨l,c4,rfl,g,k,h,i⟩:=RVal.fm b
 refine zM func50 ntmps50 fun Q f a J=>?_
 refine Bx J N fun j w N a J=>?_
 refine Alc J N fun d w N a J=>?_
 refine Sto 0 J N fun w N a J=>?_
 refine Alc J N fun e w N a J=>?_
 refine Sto 0 J N fun w N a J=>?_
 replace N:=N.pl 1
 refine q0y call105 J N (fun w N a J=>?_) (c:=by exact j6s b N)
 refine go J N fun a J=>?_
 replace N:=N.dl [2,1,0]
 refine zD f J N ?_
 exact zL N (by rfl)
theorem x2a {p0:Addr} {T:Table} {name:Bs} {d2:List Value} {v:Val} (H:RTable V p0 T) (f0:RVal V d2 v) (ih:∀x:Val,x.sz < v.sz->∀{V:Fz} {K:List Res} {w:World} {p:Addr} {d:List Value} {name:Bs},RTable V p T->RVal V d x->Mem V K w->Calls prog 61 #[.pointer (some p),.string name,.agg d.toArray] w (fun ee w'=>ee=.returned (.bool (pJ T x name))/\Mem V K w')) (N:Mem V K w) :
  Calls prog 61 #[.pointer (some p0),.string name,.agg d2.toArray] w (fun ee w'=>ee=.returned (.bool (pJ T v name))/\Mem V K w'):=by
 obtain ⟨i0,m1,m2,m3,m4,d5,M,d7,d8,X,Y,l,d1,C0,s,t,A0,D0,B0,E0⟩:=H.ex
 obtain ⟨e1,c24,f1,O0,g1,P0,h1,c42,rfl,S0,T0,U0,V0,o0,w0,q0,x0,r0,y0,s0,z0⟩:=RCore.fm l
 obtain ⟨i1,Q0,rfl,m0,P,t0,E⟩:=RVal.fm f0
 refine zM func61 ntmps61 fun Q r a J=>?_
 refine Bx J N fun K0 w N a J=>?_
 refine go J N fun a J=>?_
 by_cases W0:v.con=(⟨#[]⟩:Bs)
 refine go J N fun a J=>?_
 by_cases X0:name=(⟨#[73,110,116]⟩:Bs)
 refine Qq J N (fun a J=>?_) (o:=by exact fun _ _ _ J O=>wX (i:=v.args.length) (j:=0) J rfl rfl)
 refine go J N fun a J=>?_
 replace N:=N.dl [0]
 refine zD r J N ?_
 exact zL N (by rw [oV,if_pos (by simp [sNo,yA, *])];simp [sNo,yA, *])
 refine go J N fun a J=>?_
 replace N:=N.dl [0]
 refine zD r J N ?_
 exact zL N (by rw [oV,if_pos (by simp [sNo,yA, *])];simp [sNo,yA, *])
 refine go J N fun a J=>?_
 by_cases Y0:name=(⟨#[73,110,116]⟩:Bs)
 refine go J N fun a J=>?_
 replace N:=N.dl [0]
 refine zD r J N ?_
 exact zL N (by rw [oV,if_pos (by simp [sNo,yA, *])];simp [sNo,yA, *])
 refine Reg [1,1,1,2,1,2,2,1,1,1,0,0,1] [0] J N fun w N a J=>?_
 refine go J N fun a J=>?_
 rcases g:yO (M) v.con with _ | I0
 have f:=congrArg (zK true (.agg #[.string ⟨#[]⟩,.string ⟨#[]⟩,.slice none 0 0])) g
 refine Qq J N (fun a J=>?_) (o:=by exact fun _ _ _ J O=>Ok.cast (zY runUnderlying102 runUnderlying9 zeroValue190 J O rfl rfl s) (show zK true (.agg #[.string ⟨#[]⟩,.string ⟨#[]⟩,.slice none 0 0]) (yO (M) v.con)=.tuple #[.agg #[.string ⟨#[]⟩,.string ⟨#[]⟩,.slice none 0 0],.bool false] from f))
 refine Alc J N fun L0 w N a J=>?_
 refine Sto 0 J N fun w N a J=>?_
 refine go J N fun a J=>?_
 replace N:=N.dl [1,0]
 refine zD r J N ?_
 exact zL N (by have e_:=MapRel.none t g;rw [oV,if_neg (by simp [sNo,yA, *])];simp [e_])
 obtain ⟨b,h,j0,rfl,G⟩:=t.get g
 obtain ⟨M0,rfl,S⟩:=id G
 obtain ⟨k1,rfl,A⟩:=id S
 obtain ⟨e0,L,rfl,u0,F⟩:=A.fm
 have f:=congrArg (zK true (.agg #[.string ⟨#[]⟩,.string ⟨#[]⟩,.slice none 0 0])) g
 refine Qq J N (fun a J=>?_) (o:=by exact fun _ _ _ J O=>Ok.cast (zY runUnderlying102 runUnderlying9 zeroValue190 J O rfl rfl s) (show zK true (.agg #[.string ⟨#[]⟩,.string ⟨#[]⟩,.slice none 0 0]) (yO (M) v.con)=.tuple #[.agg #[.string b.data,.string b.con.name,.slice e0 b.con.fields.length L],.bool true] from f))
 refine Alc J N fun N0 w N a J=>?_
 refine Sto 0 J N fun w N a J=>?_
 refine go J N fun a J=>?_
 by_cases Z0:b.data=name
 refine go J N fun a J=>?_
 by_cases a1:v.num=0
 refine go J N fun a J=>?_
 by_cases b1:b.con.fields.length=v.args.length
 refine go J N fun a J=>?_
 have C:pJ T v name=hasL T v.args b.con.fields:=by
  rw [oV,if_neg (by simp [sNo,yA, *])]
  simp only [h]
  simp [*]
 refine go J N fun a J=>?_
 refine zV (J.ks [0,7,65,66]) N (fun R mm a w=>∃(i:Nat),mm=v.args.length - i/\R V [(67,.int .i64 ((i:Nat):Int))] [] a w/\(hasL T v.args b.con.fields=hasL T (v.args.drop i) (b.con.fields.drop i))) (v.args.length - 0) ⟨0,rfl,⟨J.pk,N⟩,rfl⟩ ?_
 clear N J
 rintro mm a w ⟨i,c0,⟨J,N⟩,k⟩ J0 D
 refine go J N fun a J=>?_
 by_cases B:i < v.args.length
 refine go J N fun a J=>?_
 obtain ⟨j1,rfl,l1,q,k0,n0,U,m⟩:=P.el E B
 obtain ⟨G0,h0,rfl,Z,l0,b0,d0⟩:=RVal.fm m
 refine Alc J N fun g0 w N a J=>?_
 refine Sto 0 J N fun w N a J=>?_
 refine Reg [1,1,1,2,1,1,2,2,0,1] [0,1,2] J N fun w N a J=>?_
 refine go J N fun a J=>?_
 have y:i < b.con.fields.length:=by omega
 obtain ⟨H0,rfl,I,n,u,a0,W,z⟩:=A.el F y
 obtain rfl:u=[.string I]:=z
 refine zW call61 J N (fun e w N a J=>?_) (fun e w N a J=>?_) (c:=ih _ (Val.lt_args (mgQ q)) H m N)
 refine go J N fun a J=>?_
 replace N:=N.dl [0]
 refine D _ _ _ (by subst c0;omega) ⟨(i+1),rfl,⟨J.pk,N⟩,?_⟩
 rw [k,zA q,zA n,j6f,e];rfl
 refine go J N fun a J=>?_
 replace N:=N.dl [2,1,0]
 refine zD r J N ?_
 exact zL N (by rw [C,k,zA q,zA n];simp [hasL,e])
 refine go J N fun a J=>?_
 replace N:=N.dl [1,0]
 refine zD r J N ?_
 exact zL N (by rw [C,k,zE B];rfl)
 refine go J N fun a J=>?_
 replace N:=N.dl [1,0]
 refine zD r J N ?_
 exact zL N (by rw [oV,if_neg (by simp [sNo,yA, *])];simp only [h];simp [*])
 refine go J N fun a J=>?_
 replace N:=N.dl [1,0]
 refine zD r J N ?_
 exact zL N (by rw [oV,if_neg (by simp [sNo,yA, *])];simp only [h];simp [*])
 refine go J N fun a J=>?_
 replace N:=N.dl [1,0]
 refine zD r J N ?_
 exact zL N (by rw [oV,if_neg (by simp [sNo,yA, *])];simp only [h];simp [*])
theorem q9p {T:Table} {V:Fz} {K:List Res} {w:World} {p:Addr} {d:List Value} {name:Bs} {v:Val} (rT:RTable V p T) (rv:RVal V d v) (N:Mem V K w) :
  Calls prog 61 #[.pointer (some p),.string name,.agg d.toArray] w (fun ee w'=>ee=.returned (.bool (pJ T v name))/\Mem V K w'):=by
 suffices H:∀n (x:Val),x.sz < n->∀{V:Fz} {K:List Res} {w:World} {p:Addr} {d:List Value} {name:Bs},RTable V p T->RVal V d x->Mem V K w ->
   Calls prog 61 #[.pointer (some p),.string name,.agg d.toArray] w (fun ee w'=>ee=.returned (.bool (pJ T x name))/\Mem V K w') from H _ v (Nat.lt_succ_self _) rT rv N
 intro n
 induction n with
 | zero=>intro e h;omega
 | succ n a=>intro x h V K w p d name rT rv N;exact x2a rT rv (fun y f _ _ _ _ _ _ b c m=>a y (by omega) b c m) N
theorem j6e {pt:Addr} {T:Table} {d0:List Value} {v:Named} {d1:List Value} {p:Param} {b:Nat} (h:RNamed V d0 v) (g:RParam V d1 p) (rT:RTable V pt T) (N:Mem V (.blk b (ob [.pointer (some pt)] 89)::K) w) :
  Calls prog 101 #[.agg d0.toArray,.agg d1.toArray,.pointer (some ⟨b,0,none⟩)] w (fun ee w'=>ee=.returned (.bool ((decide (v.name=p.name) && !vU v.value&&pJ T v.value p.type)))/\Mem V (.blk b (ob [.pointer (some pt)] 89)::K) w'):=by
 obtain ⟨o,rfl,e⟩:=id h
 obtain ⟨s,q,rfl,l,r,m,n⟩:=RVal.fm e
 obtain rfl:=id g
 refine zM func101 ntmps101 fun Q f a J=>?_
 refine Bx J N fun i w N a J=>?_
 refine Bx J N fun j w N a J=>?_
 refine go J N fun a J=>?_
 by_cases k:v.name=p.name
 refine zW call50 J N (fun d w N a J=>?_) (fun d w N a J=>?_) (c:=z0z e N)
 refine go J N fun a J=>?_
 replace N:=N.dl [1,0]
 refine zD f J N ?_
 exact zL N (by simp [*])
 refine zS call61 J N (fun w N a J=>?_) (c:=q9p rT e N)
 refine go J N fun a J=>?_
 replace N:=N.dl [1,0]
 refine zD f J N ?_
 exact zL N (by simp [*])
 refine go J N fun a J=>?_
 replace N:=N.dl [1,0]
 refine zD f J N ?_
 exact zL N (by simp [*])
theorem q4y {k:Addr} {T:Table} {H:Value} {l:List Named} (f:RTable V k T) (g:SliceOf RNamed V 4 H l) (N:Mem V K w) :
  Calls prog 44 #[.pointer (some k),H] w (fun ee w'=>ee=.returned (.bool (vP T l T.core.inputs))/\Mem V K w'):=by
 obtain ⟨m,m1,m2,m3,m4,d5,d6,d7,d8,i,j,b,Z,D,A,E,B,F,C,G⟩:=f.ex
 obtain ⟨a0,c24,b0,I,c0,L,d0,c42,rfl,M,h,P,R,n,s,o,t,q,u,r,z⟩:=RCore.fm b
 obtain ⟨p1,c1,rfl,X,Y⟩:=g.fm
 refine zM func44 ntmps44 fun Q S a J=>?_
 refine Bx J N fun e w N a J=>?_
 refine zS call100 J N (fun w N a J=>?_) (c:=q1r (V:=V) (K:=.blk e (ob [.pointer (some k)] 89)::K) (p:=fun v p=>decide (v.name=p.name) && !vU v.value&&pJ T v.value p.type) (fs:=[]) (cs:=[.pointer (some ⟨e,0,none⟩)]) g h call101 (fun x c y d w hx hy U W N=>j6e U W f N) N)
 refine go J N fun a J=>?_
 replace N:=N.dl [0]
 refine zD S J N ?_
 exact zL N (by rw [y8z])
def wI (c:Core) (name:Bs) (v:Val):Int:=if yP c≠0 then yP c else if vD (zH c) name=false then 80 else if vU v then 7 else if pJ (zH c) v name=false then 8 else 0
def mP (c:Core) (l:List Named):Int:=if yP c≠0 then yP c else if vP (zH c) l c.inputs=false then 8 else 0
theorem z2z {d0:List Value} {c:Core} {name:Bs} {d2:List Value} {v:Val} (f:RCore V d0 c) (e:RVal V d2 v) (G:Glob V) (N:Mem V K w) :
  Calls prog 29 #[.agg d0.toArray,.string name,.agg d2.toArray] w (fun ee w'=>ee=.returned (.int .i64 (wI c name v))/\Mem V K w'):=by
 obtain ⟨p3,c4,p9,F,T,H,U,c22,rfl,Y,Z,L,M,R,S,r,y,s,z,t,A⟩:=RCore.fm f
 obtain ⟨W,I,rfl,q,P,u,B⟩:=RVal.fm e
 refine zM func29 ntmps29 fun Q m a J=>?_
 refine Bx J N fun D w N a J=>?_
 refine Bx J N fun E w N a J=>?_
 refine qH call43 J N (fun p w l N a J=>?_) (c:=z5i f G N)
 obtain ⟨C,X⟩:=p
 obtain ⟨d,g⟩:=l
 simp only at d g N J
 replace f:=RCore.mono _ _ _ _ d f
 replace e:=RVal.mono _ _ _ _ d e
 replace G:=G.mono d
 replace N:=N.nf
 by_cases b:yP c=0
 obtain ⟨h,n⟩:=g b
 rw [if_pos b,b] at J
 refine Qq J N (fun a J=>?_) (o:=by exact fun _ _ _ J O=>cV false J rfl rfl rfl)
 refine zW call80 J N (fun i w N a J=>?_) (fun i w N a J=>?_) (c:=z2l h N)
 refine zW call50 J N (fun j w N a J=>?_) (fun j w N a J=>?_) (c:=z0z e N)
 refine go J N fun a J=>?_
 replace N:=N.le (d)
 replace N:=N.dl [1,0]
 refine zD m J N ?_
 exact jG N (by simp [wI,b, *])
 refine zW call61 J N (fun k w N a J=>?_) (fun k w N a J=>?_) (c:=q9p h e N)
 refine go J N fun a J=>?_
 replace N:=N.le (d)
 replace N:=N.dl [1,0]
 refine zD m J N ?_
 exact jG N (by simp [wI,b, *])
 refine go J N fun a J=>?_
 replace N:=N.le (d)
 replace N:=N.dl [1,0]
 refine zD m J N ?_
 exact jG N (by simp [wI,b, *])
 refine go J N fun a J=>?_
 replace N:=N.le (d)
 replace N:=N.dl [1,0]
 refine zD m J N ?_
 exact jG N (by simp [wI,b, *])
 rw [if_neg b] at J
 refine go J N fun a J=>?_
 replace N:=N.le (d)
 replace N:=N.dl [1,0]
 refine zD m J N ?_
 exact jG N (by simp [wI,b, *])
theorem z0o {d0:List Value} {c:Core} {y:Value} {l:List Named} (f:RCore V d0 c) (g:SliceOf RNamed V 4 y l) (G:Glob V) (N:Mem V K w) :
  Calls prog 31 #[.agg d0.toArray,y] w (fun ee w'=>ee=.returned (.int .i64 (mP c l))/\Mem V K w'):=by
 obtain ⟨X,c4,Y,B,M,C,P,c22,rfl,T,U,D,E,H,L,q,t,r,u,s,v⟩:=RCore.fm f
 obtain ⟨W,S,rfl,F,I⟩:=g.fm
 refine zM func31 ntmps31 fun Q n a J=>?_
 refine Bx J N fun A w N a J=>?_
 refine qH call43 J N (fun p w j N a J=>?_) (c:=z5i f G N)
 obtain ⟨z,R⟩:=p
 obtain ⟨d,h⟩:=j
 simp only at d h N J
 replace f:=RCore.mono _ _ _ _ d f
 replace g:=g.up d
 replace G:=G.mono d
 replace N:=N.nf
 by_cases b:yP c=0
 obtain ⟨k,m⟩:=h b
 rw [if_pos b,b] at J
 refine Qq J N (fun a J=>?_) (o:=by exact fun _ _ _ J O=>cV false J rfl rfl rfl)
 refine zW call44 J N (fun e w N a J=>?_) (fun e w N a J=>?_) (c:=q4y k g N)
 refine go J N fun a J=>?_
 replace N:=N.le (d)
 replace N:=N.dl [0]
 refine zD n J N ?_
 exact jG N (by have i:vP (zH c) l c.inputs=_:=e;simp [mP,b,i])
 refine go J N fun a J=>?_
 replace N:=N.le (d)
 replace N:=N.dl [0]
 refine zD n J N ?_
 exact jG N (by have i:vP (zH c) l c.inputs=_:=e;simp [mP,b,i])
 rw [if_neg b] at J
 refine go J N fun a J=>?_
 replace N:=N.le (d)
 replace N:=N.dl [0]
 refine zD n J N ?_
 exact jG N (by simp [mP,b])
theorem z9f {b:Bool}  (N:Mem V K w) :
  Calls prog 196 #[.bool b] w (fun ee w'=>∃yy:Fz×List Value,ee=.returned (.agg yy.2.toArray)/\(V.Le yy.1/\RVal yy.1 yy.2 (sB b))/\Mem yy.1 K w'):=by
 refine zM func196 ntmps196 fun Q d a J=>?_
 refine Alc J N fun e w N a J=>?_
 refine go J N fun a J=>?_
 cases b
 refine yE J N fun a J=>?_
 refine Sto 0 J N fun w N a J=>?_
 refine go J N fun a J=>?_
 have c:=N
 replace N:=N.dl [0]
 refine jS d J c ?_
 exact ⟨(V,_),rfl,⟨Fz.Le.refl _,by
  rw [show sB false=Val.mk (⟨#[70,97,108,115,101]⟩:Bs) (0) [] by rfl]
  exact RVal.iff.2 ⟨_,rfl,(show I64 0 by unfold I64;omega),SliceOf.nil 3⟩⟩,N⟩
 refine yE J N fun a J=>?_
 refine Sto 0 J N fun w N a J=>?_
 refine go J N fun a J=>?_
 have c:=N
 replace N:=N.dl [0]
 refine jS d J c ?_
 exact ⟨(V,_),rfl,⟨Fz.Le.refl _,by
  rw [show sB true=Val.mk (⟨#[84,114,117,101]⟩:Bs) (0) [] by rfl]
  exact RVal.iff.2 ⟨_,rfl,(show I64 0 by unfold I64;omega),SliceOf.nil 3⟩⟩,N⟩
theorem sZ {a b:Int} (h:I64 a):I64 (a.tmod b):=by
 unfold I64 at *
 have h1:=Int.natAbs_tmod a b
 have d:a.natAbs % b.natAbs<=a.natAbs:=Nat.mod_le _ _
 by_cases c:0<=a
 have:=Int.tmod_nonneg b c;omega
 have:a.tmod b<=0:=by
  have:=Int.tmod_nonneg b (show 0<=-a by omega)
  rw [Int.neg_tmod] at this;omega
 omega
theorem j0o {op:Bs} {x y:Int} (i:I64 x) (hb:I64 y) (N:Mem V K w) :
  Calls prog 159 #[.string op,.int .i64 x,.int .i64 y] w (fun ee w'=>∃yy:Fz×List Value,ee=.returned (.agg yy.2.toArray)/\(V.Le yy.1/\RVal yy.1 yy.2 (jL op x y))/\Mem yy.1 K w'):=by
 refine zM func159 ntmps159 fun Q f a J=>?_
 refine Alc J N fun R w N a J=>?_
 refine go J N fun a J=>?_
 by_cases S:op=(⟨#[43]⟩:Bs)
 refine Qq J N (fun a J=>?_) (o:=by exact fun _ _ _ J O=>z1w _ J rfl rfl rfl)
 refine yE J N fun a J=>?_
 refine Sto 0 J N fun w N a J=>?_
 refine go J N fun a J=>?_
 have c:=N
 replace N:=N.dl [0]
 refine jS f J c ?_
 exact ⟨(V,_),rfl,⟨Fz.Le.refl _,by
  rw [show jL op x y=Val.mk (⟨#[]⟩:Bs) (IntKind.i64.wrap (x+y)) [] by simp [jL,z4b,v0,sB,sNo, *]]
  exact RVal.iff.2 ⟨_,rfl,(by first | exact I64.of_wrap _ | exact sZ i | exact (show I64 0 from ⟨by decide,by decide⟩)),SliceOf.nil 3⟩⟩,N⟩
 refine go J N fun a J=>?_
 by_cases D:op=(⟨#[45]⟩:Bs)
 refine Qq J N (fun a J=>?_) (o:=by exact fun _ _ _ J O=>vT _ J rfl rfl rfl)
 refine yE J N fun a J=>?_
 refine Sto 0 J N fun w N a J=>?_
 refine go J N fun a J=>?_
 have c:=N
 replace N:=N.dl [0]
 refine jS f J c ?_
 exact ⟨(V,_),rfl,⟨Fz.Le.refl _,by
  rw [show jL op x y=Val.mk (⟨#[]⟩:Bs) (IntKind.i64.wrap (x - y)) [] by simp [jL,z4b,v0,sB,sNo, *]]
  exact RVal.iff.2 ⟨_,rfl,(by first | exact I64.of_wrap _ | exact sZ i | exact (show I64 0 from ⟨by decide,by decide⟩)),SliceOf.nil 3⟩⟩,N⟩
 refine go J N fun a J=>?_
 by_cases E:op=(⟨#[42]⟩:Bs)
 refine Qq J N (fun a J=>?_) (o:=by exact fun _ _ _ J O=>y_mul _ J rfl rfl rfl)
 refine yE J N fun a J=>?_
 refine Sto 0 J N fun w N a J=>?_
 refine go J N fun a J=>?_
 have c:=N
 replace N:=N.dl [0]
 refine jS f J c ?_
 exact ⟨(V,_),rfl,⟨Fz.Le.refl _,by
  rw [show jL op x y=Val.mk (⟨#[]⟩:Bs) (IntKind.i64.wrap (x * y)) [] by simp [jL,z4b,v0,sB,sNo, *]]
  exact RVal.iff.2 ⟨_,rfl,(by first | exact I64.of_wrap _ | exact sZ i | exact (show I64 0 from ⟨by decide,by decide⟩)),SliceOf.nil 3⟩⟩,N⟩
 refine go J N fun a J=>?_
 by_cases F:op=(⟨#[60]⟩:Bs)
 refine Qq J N (fun a J=>?_) (o:=by exact fun _ _ _ J O=>y_lssD J rfl rfl)
 refine st J rfl rfl rfl (hY J rfl rfl call196 (z9f (b:=(decide (x < y))) N) (fun p w k N a J=>?_))
 obtain ⟨m,B⟩:=p
 obtain ⟨g,d⟩:=k
 simp only at g d N J
 replace N:=N.nf
 obtain ⟨M,c27,rfl,r,G,t,v⟩:=RVal.fm d
 refine Sto 0 J N fun w N a J=>?_
 refine go J N fun a J=>?_
 have c:=N
 replace N:=N.dl [0]
 refine jS f J c ?_
 exact ⟨(m,_),rfl,⟨g,by
  rw [show jL op x y=(sB (decide (x < y))) by simp [jL, *]]
  exact d⟩,N⟩
 refine go J N fun a J=>?_
 by_cases H:op=(⟨#[61]⟩:Bs)
 refine Qq J N (fun a J=>?_) (o:=by exact fun _ _ _ J O=>aP J rfl rfl)
 refine st J rfl rfl rfl (hY J rfl rfl call196 (z9f (b:=(decide (x=y))) N) (fun q w l N a J=>?_))
 obtain ⟨n,C⟩:=q
 obtain ⟨h,e⟩:=l
 simp only at h e N J
 replace N:=N.nf
 obtain ⟨P,A,rfl,s,I,u,z⟩:=RVal.fm e
 refine Sto 0 J N fun w N a J=>?_
 refine go J N fun a J=>?_
 have c:=N
 replace N:=N.dl [0]
 refine jS f J c ?_
 exact ⟨(n,_),rfl,⟨h,by
  rw [show jL op x y=(sB (decide (x=y))) by simp [jL, *]]
  exact e⟩,N⟩
 refine go J N fun a J=>?_
 by_cases j:y=0
 refine yE J N fun a J=>?_
 refine Sto 0 J N fun w N a J=>?_
 refine go J N fun a J=>?_
 have c:=N
 replace N:=N.dl [0]
 refine jS f J c ?_
 exact ⟨(V,_),rfl,⟨Fz.Le.refl _,by
  rw [show jL op x y=Val.mk (⟨#[]⟩:Bs) (0) [] by simp [jL,z4b,v0,sB,sNo, *]]
  exact RVal.iff.2 ⟨_,rfl,(by first | exact I64.of_wrap _ | exact sZ i | exact (show I64 0 from ⟨by decide,by decide⟩)),SliceOf.nil 3⟩⟩,N⟩
 refine go J N fun a J=>?_
 by_cases L:op=(⟨#[47]⟩:Bs)
 refine Qq J N (fun a J=>?_) (o:=by exact fun _ _ _ J O=>y_quo _ J rfl rfl j rfl)
 refine yE J N fun a J=>?_
 refine Sto 0 J N fun w N a J=>?_
 refine go J N fun a J=>?_
 have c:=N
 replace N:=N.dl [0]
 refine jS f J c ?_
 exact ⟨(V,_),rfl,⟨Fz.Le.refl _,by
  rw [show jL op x y=Val.mk (⟨#[]⟩:Bs) (IntKind.i64.wrap (x.tdiv y)) [] by simp [jL,z4b,v0,sB,sNo, *]]
  exact RVal.iff.2 ⟨_,rfl,(by first | exact I64.of_wrap _ | exact sZ i | exact (show I64 0 from ⟨by decide,by decide⟩)),SliceOf.nil 3⟩⟩,N⟩
 refine Qq J N (fun a J=>?_) (o:=by exact fun _ _ _ J O=>y_rem _ J rfl rfl j rfl)
 refine yE J N fun a J=>?_
 refine Sto 0 J N fun w N a J=>?_
 refine go J N fun a J=>?_
 have c:=N
 replace N:=N.dl [0]
 refine jS f J c ?_
 exact ⟨(V,_),rfl,⟨Fz.Le.refl _,by
  rw [show jL op x y=Val.mk (⟨#[]⟩:Bs) (x.tmod y) [] by simp [jL,z4b,v0,sB,sNo, *]]
  exact RVal.iff.2 ⟨_,rfl,(by first | exact I64.of_wrap _ | exact sZ i | exact (show I64 0 from ⟨by decide,by decide⟩)),SliceOf.nil 3⟩⟩,N⟩
theorem y5h {v:Value} {l:List Int} (n:l.length<=1000000) (N:Mem V (.gs v 3 1 (z2w l)::K) w) :
  Calls prog 47 #[v] w (fun ee w'=>ee=.returned (.int .i64 (dV l))/\Mem V (.gs v 3 1 (z2w l)::K) w'):=by
 obtain ⟨y,e,c0,rfl,g,r⟩:=N.toSees.gsForm (i:=0) rfl
 have t:l.length=e:=by simpa [z8v] using g
 refine zM func47 ntmps47 fun Q s a J=>?_
 refine go J N fun a J=>?_
 refine zV (J.ks [6,7]) N (fun R mm a w=>∃(i:Nat) (q:Int),mm=e - i/\R V [(3,.int .i64 (q)),(8,.int .i64 ((i:Nat):Int))] [] a w/\(dV (l.take i)=q)) (e - 0) ⟨0,0,rfl,⟨J.pk,N⟩,rfl⟩ ?_
 clear N J
 rintro mm a w ⟨i,q,h,⟨J,N⟩,d⟩ u f
 refine go J N fun a J=>?_
 by_cases m:i < e
 refine go J N fun a J=>?_
 obtain ⟨j,b⟩:=N.toSees.gsSome (i:=0) rfl m
 obtain ⟨k,c⟩:=qX (l:=l) (i:=i) (by omega)
 refine Qq J N (fun a J=>?_) (o:=by exact fun _ _ _ J O=>z1y (p:=j) i J (by rw [<- b];rfl) rfl runUnderlying93 sizeOf3 m)
 refine Qq J N (fun a J=>?_) (o:=by exact fun _ _ _ J O=>j8u 0 i J O rfl (by rw [<- b];rfl) (x2h c) isAgg3)
 refine Qq J N (fun a J=>?_) (o:=by exact fun _ _ _ J O=>z1w _ J rfl rfl rfl)
 refine go J N fun a J=>?_
 refine f _ _ _ (by subst h;omega) ⟨(i+1),(IntKind.i64.wrap (q+k)),rfl,⟨J.pk,by exact N⟩,?_⟩
 rw [xD c,yM,d]
 refine zD s J N ?_
 exact jG N (by rw [<- d,y5c (by omega)])
theorem x3f {d:List Value} {v:Val} (ih:∀x:Val,x.sz < v.sz->z8i x->∀{V:Fz} {K:List Res} {w:World} {d:List Value},RVal V d x->Mem V K w ->
   Calls prog 51 #[.agg d.toArray] w (fun ee w'=>∃yy:Fz×List Value,ee=.returned (.agg yy.2.toArray)/\(V.Le yy.1/\RVal yy.1 yy.2 x)/\Mem yy.1 K w')) (O:z8i v) (rv:RVal V d v) (N:Mem V K w) :
  Calls prog 51 #[.agg d.toArray] w (fun ee w'=>∃yy:Fz×List Value,ee=.returned (.agg yy.2.toArray)/\(V.Le yy.1/\RVal yy.1 yy.2 v)/\Mem yy.1 K w'):=by
 obtain ⟨p3,c4,rfl,n0,E,o0,H⟩:=RVal.fm rv
 refine zM func51 ntmps51 fun Q hQ a J=>?_
 refine Bx J N fun b9 w N a J=>?_
 refine Alc J N fun d0 w N a J=>?_
 refine yE J N fun a J=>?_
 refine Alc J N fun C w N a J=>?_
 refine Sto 0 J N fun w N a J=>?_
 refine go J N fun a J=>?_
 replace N:=N.nilRow 42 3
 replace N:=N.nf
 refine go J N fun a J=>?_
 refine zV (J.ks [2,3,12,13]) N (fun R mm a w=>∃(g:Fz) (i:Nat) (u:Value) (cs:List Value),mm=v.args.length - i/\R g [(14,.int .i64 ((i:Nat):Int))] [(0,.gs (u) 42 3 cs),(1,.blk C (ob [.string v.con,.int .i64 (v.num),u] 42))] a w/\(V.Le g/\(Chunks (RVal g) 3 cs (v.args.take i)))) (v.args.length - 0) ⟨V,0,.slice none 0 0,[],rfl,⟨J.pk,N⟩,⟨Fz.Le.refl _,rfl⟩⟩ ?_
 clear N J
 rintro mm a w ⟨g,i,u,cs,G,⟨J,N⟩,j⟩ c0 A
 replace N:=N.nf
 obtain ⟨f,j⟩:=j
 replace E:=E.up f
 replace rv:=RVal.mono _ _ _ _ f rv
 have hch:=j
 refine go J N fun a J=>?_
 by_cases y:i < v.args.length
 refine go J N fun a J=>?_
 obtain ⟨s0,rfl,t,m,P,U,p,e⟩:=E.el H y
 obtain ⟨q0,f0,rfl,S,j0,W,Z⟩:=RVal.fm e
 refine Alc J N fun e0 w N a J=>?_
 refine Sto 0 J N fun w N a J=>?_
 refine Reg [1,2,2,0,0,0,1,0] [0,2,3,4] J N fun w N a J=>?_
 refine qH call51 J N (fun M w z N a J=>?_) (c:=ih _ (Val.lt_args (mgQ m)) ((y4x O).2 _ (mgQ m)) e N)
 obtain ⟨B,h0⟩:=M
 obtain ⟨b,k⟩:=z
 simp only at b k N J
 replace rv:=RVal.mono _ _ _ _ b rv
 replace hch:=hch.mono fun _ _ h=>RVal.mono _ _ _ _ b h
 replace p:=p.mono b
 replace e:=RVal.mono _ _ _ _ b e
 replace N:=N.nf
 obtain ⟨L,D,rfl,T,l0,X,a0⟩:=RVal.fm k
 refine qG J N fun t0 w N a J=>?_
 refine qN 2 wN J N (fun v53 w N a J=>?_) (hb:=by have h_:=hch.length;have i0:=(y4x O).1;have k0:(v.args.take i).length<=v.args.length:=(by rw [List.length_take];omega);rw [h_];simp only [lcQ,lnQ];omega)
 refine Sto 3 J N fun w N a J=>?_
 refine go J N fun a J=>?_
 replace N:=N.dl [1,0]
 refine A _ _ _ (by subst G;omega) ⟨(B),(i+1),(v53),((cs++[.string t.con,.int .i64 (t.num),.slice L t.args.length D])),rfl,⟨J.pk,by exact N⟩,?_⟩
 refine ⟨(f).trans b,?_⟩
 rw [xD m];exact hch.snoc rfl k
 refine go J N fun a J=>?_
 rw [y5c y] at hch
 have q:=N
 clear N
 obtain ⟨s,n,N,o⟩:=q.freezeRow (i:=0) rfl
 clear q
 replace rv:=RVal.mono _ _ _ _ n rv
 replace hch:=hch.mono fun _ _ h=>RVal.mono _ _ _ _ n h
 replace N:=N.nf
 have l:SliceOf RVal s 3 _ (v.args):=⟨_,o,hch⟩
 obtain ⟨r0,g0,I,Y,b0⟩:=l.form (by decide)
 have r:=N
 clear N
 subst I
 have N:=r
 clear r
 refine Sto 1 J N fun w N a J=>?_
 refine go J N fun a J=>?_
 have F:=N
 replace N:=N.dl [2,1,0]
 refine jS hQ J F ?_
 exact ⟨(s,_),rfl,⟨(f).trans n,by obtain ⟨_,_,h_,_⟩:=RVal.iff.1 rv;exact RVal.iff.2 ⟨_,rfl,h_,l⟩⟩,N⟩
theorem own_ok {d:List Value} {v:Val} (O:z8i v) (rv:RVal V d v) (N:Mem V K w) :
  Calls prog 51 #[.agg d.toArray] w (fun ee w'=>∃yy:Fz×List Value,ee=.returned (.agg yy.2.toArray)/\(V.Le yy.1/\RVal yy.1 yy.2 v)/\Mem yy.1 K w'):=by
 suffices H:∀n (x:Val),x.sz < n->z8i x->∀{V:Fz} {K:List Res} {w:World} {d:List Value},RVal V d x->Mem V K w ->
   Calls prog 51 #[.agg d.toArray] w (fun ee w'=>∃yy:Fz×List Value,ee=.returned (.agg yy.2.toArray)/\(V.Le yy.1/\RVal yy.1 yy.2 x)/\Mem yy.1 K w') from H _ v (Nat.lt_succ_self _) O rv N
 intro n
 induction n with
 | zero=>intro e h;omega
 | succ n a=>intro x h O V K w d rv N;exact x3f (fun y b h1 _ _ _ _ r m=>a y (by omega) h1 r m) O rv N
end Go.Sw
