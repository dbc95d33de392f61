import Derived.ChangeArms
import Derived.OpenShut
import Derived.Deep.Slices
import Derived.Test.YtlfobekmmndchaaGreatDoorCards
import Derived.Test.YtlfobekmmndchaaGreatDoorTie
import Derived.PinnedBridge
import Derived.Lay
import Derived.LaidOnce
import Derived.SevenTiedAt
import Derived.HandedShaped
import Derived.Carry
import Derived.ProofKit
import Derived.Shelf.Vars
import Derived.Stop.LaidErr
import Derived.JoinedOf
import Derived.Test.YtlfobekmmndchaaGreatDoorX15
set_option linter.unusedVariables false
set_option linter.unusedSimpArgs false
namespace Go.Sw
open Go.Proofs Go.Proofs.Tryz
set_option maxRecDepth 20000
set_option maxHeartbeats 4000000
section
variable {Φ:Fz} {K:List Res} {w:World}
theorem z8d {tc:List Value} {T:Trc} (p2:RTrc Φ tc T) (GP:GoodP T) (S:SmP T) (N:Mem Φ K w) :
  Calls prog 34 #[.agg tc.toArray] w (fun ee w'=>∃q:Fz×List Value,ee=.returned (.agg q.2.toArray)/\(Φ.Le q.1/\RTrc q.1 q.2 T)/\Mem q.1 K w'):=by
 have b:=p2
 obtain ⟨p3,c4,p9,I2,B3,J2,C3,c22,rfl,Z3,h2,H,V,g,G4,A3,b4,g4,d4,c2,e4,h4⟩:=RTrc.fm p2
 refine zJ func34 ntmps34 fun Q hQ a J=>?_
 refine Bx fun G1 w N a J=>?_
 refine Alc fun H1 w N a J=>?_
 refine goJ 2 fun a J=>?_
 refine sq fun H2 T1=>?_
 have B0:∀a w,(∃(Y:Fz) (x0:Nat) (j0:Value) (m0:Value),EnvR 56 [(1,.pointer (some ⟨G1,0,none⟩)),(2,.pointer (some ⟨H1,0,none⟩)),(3,.pointer (some ⟨x0,0,none⟩))] [] a/\Mem Y (.blk x0 (ob [.slice none 0 0,j0,.slice none 0 0,m0] 26)::.blk H1 (ob [.slice none 0 0,.slice none 0 0,.slice none 0 0,.slice none 0 0] 26)::.blk G1 (ob [.slice p3 T.cons.length c4,.slice p9 T.inputs.length I2,.slice B3 T.funs.length J2,.slice C3 T.outputs.length c22] 26)::K) w/\(Φ.Le Y/\(SliceOf RStr Y 1 j0 T.inputs/\z0c j0/\SliceOf RStr Y 1 m0 T.outputs)))->H2 a w:=by
  clear N J
  rintro a w ⟨Y,x0,j0,m0,J,N,y0⟩
  obtain ⟨a0,y0⟩:=y0
  replace h2:=h2.mono RTCon.mono a0
  replace H:=H.up a0
  replace V:=V.mono RTFn.mono a0
  replace g:=g.up a0
  replace b:=RTrc.mono _ _ _ _ a0 b
  apply T1
  obtain ⟨l,b2,m⟩:=y0
  refine go fun a J=>?_
  replace N:=N.nilRow 85 3
  replace N:=N.nf
  refine qD (J.ks [1,2,3,16,17]) N (fun R mm a w=>∃(u0:Fz) (i:Nat) (t1:Value) (Z0:List Value),mm=T.cons.length - i/\R u0 [(18,.int .i64 i)] [(0,.gs (t1) 85 3 Z0),(1,.blk x0 (ob [t1,j0,.slice none 0 0,m0] 26))] a w/\(Y.Le u0/\(Chunks (RTCon u0) 3 Z0 (T.cons.take i)))) (T.cons.length - 0) ⟨Y,0,.slice none 0 0,[],rfl,⟨J.pk,N⟩,⟨Fz.Le.refl _,rfl⟩⟩ ?_
  clear N J
  rintro mm a w ⟨u0,i,t1,Z0,x1,⟨J,N⟩,z0⟩ C4 U1
  replace N:=N.nf
  obtain ⟨v,z0⟩:=z0
  replace h2:=h2.mono RTCon.mono v
  replace H:=H.up v
  replace V:=V.mono RTFn.mono v
  replace g:=g.up v
  replace b:=RTrc.mono _ _ _ _ v b
  replace l:=l.up v
  replace m:=m.up v
  have g0:=z0
  by_cases v1:i < T.cons.length
  refine go fun a J=>?_
  have d:=N
  have h0:=J
  clear N J
  obtain ⟨K4,rfl⟩:=A3 (zO v1)
  have N:=d
  have J:=h0
  clear d h0
  obtain ⟨k1,P0⟩:=zW v1
  obtain ⟨R3,a4,m1,F0⟩:=h2.elem P0
  obtain ⟨I4,F4,rfl,T2,f4,i4⟩:=RTCon.fm F0
  refine Alc fun E4 w N a J=>?_
  refine Sto 0 fun w N a J=>?_
  refine yF call72 (fun F3 w n0 N a J=>?_) (c:=z8c T2 (by have:=S.fields _ (mgQ P0);omega) N)
  obtain ⟨M4,S3⟩:=F3
  simp only at n0 N J
  refine Sto 1 fun w N a J=>?_
  refine go fun a J=>?_
  have f:=N
  clear N
  obtain ⟨s1,t,N,i1,x2⟩:=f.freezeRowC (i:=0) rfl
  clear f
  replace H:=H.up t
  replace V:=V.mono RTFn.mono t
  replace g:=g.up t
  replace b:=RTrc.mono _ _ _ _ t b
  replace l:=l.up t
  replace m:=m.up t
  replace g0:=g0.mono fun _ _ h=>RTCon.mono _ _ _ _ t h
  replace m1:=m1.mono t
  replace F0:=RTCon.mono _ _ _ _ t F0
  replace n0:=n0.mono fun _ _ h=>RBoo.mono _ _ _ _ t h
  replace N:=N.nf
  have O0:SliceOf RBoo s1 1 _ (k1.fields):=⟨_,i1,n0⟩
  obtain ⟨D3,K2,r,i3,j4⟩:=O0.form (by decide)
  have d:=N
  clear N
  subst r
  have N:=d
  clear d
  refine qG fun N4 w N a J=>?_
  refine vL 2 rt_22 (fun E3 w N a J=>?_) (hb:=by rw [g0.length,List.length_take];have:=S.cons;have:=z1v GP.fit;simp only [lcQ,lnQ];omega)
  refine Sto 3 fun w N a J=>?_
  refine go fun a J=>?_
  replace N:=N.dl [1,0]
  refine U1 _ _ _ (by subst x1;omega) ⟨(s1),(i+1),(E3),((Z0++[.string k1.name,.string k1.type,.slice D3 (k1.fields).length K2])),rfl,⟨J.pk,by exact N⟩,?_⟩
  refine ⟨(v).trans t,?_⟩
  rw [jA P0];exact g0.append (yQ rfl ⟨_,rfl,O0⟩)
  refine go fun a J=>?_
  have d0:=g0
  rw [List.take_of_length_le (Nat.le_of_not_lt v1)] at d0
  have f:=N
  clear N
  obtain ⟨Y0,I,N,j1,y2⟩:=f.freezeRowC (i:=0) rfl
  clear f
  replace H:=H.up I
  replace V:=V.mono RTFn.mono I
  replace g:=g.up I
  replace b:=RTrc.mono _ _ _ _ I b
  replace l:=l.up I
  replace m:=m.up I
  replace d0:=d0.mono fun _ _ h=>RTCon.mono _ _ _ _ I h
  replace N:=N.nf
  have n:SliceOf RTCon Y0 3 _ (T.cons):=⟨_,j1,d0⟩
  obtain ⟨y1,c85,r,j3,k4⟩:=n.form (by decide)
  have d:=N
  clear N
  subst r
  have N:=d
  clear d
  refine go fun a J=>?_
  replace N:=N.nilRow 50 11
  replace N:=N.nf
  refine qD (J.ks [2,3,34,35]) N (fun R mm a w=>∃(w0:Fz) (j_:Nat) (u1:Value) (a1:List Value),mm=T.funs.length - j_/\R w0 [(36,.int .i64 j_)] [(0,.gs (u1) 50 11 a1),(1,.blk x0 (ob [.slice y1 (T.cons).length c85,j0,u1,m0] 26))] a w/\(Y0.Le w0/\(Chunks (RTFn w0) 11 a1 (T.funs.take j_)))) (T.funs.length - 0) ⟨Y0,0,.slice none 0 0,[],rfl,⟨J.pk,N⟩,⟨Fz.Le.refl _,rfl⟩⟩ ?_
  clear N J
  rintro mm a w ⟨w0,j_,u1,a1,x1,⟨J,N⟩,A0⟩ D4 V1
  replace N:=N.nf
  obtain ⟨y,A0⟩:=A0
  replace H:=H.up y
  replace V:=V.mono RTFn.mono y
  replace g:=g.up y
  replace b:=RTrc.mono _ _ _ _ y b
  replace l:=l.up y
  replace m:=m.up y
  replace n:=n.mono RTCon.mono y
  have W:=A0
  by_cases w1:j_ < T.funs.length
  refine go fun a J=>?_
  have d:=N
  have h0:=J
  clear N J
  obtain ⟨L4,rfl⟩:=c2 (zO w1)
  have N:=d
  have J:=h0
  clear d h0
  obtain ⟨G,i0⟩:=zW w1
  obtain ⟨L2,Y2,c0,X⟩:=V.elem i0
  obtain ⟨r4,I3,G3,rfl,R1,Z,Z2,k3⟩:=RTFn.fm X
  obtain ⟨s4,J3,t4,K3,u4,c127,rfl,U2,V2,T3,U3,V3,a3,l3,b3,m3,d3,n3⟩:=RTE.fm Z
  refine Alc fun H3 w N a J=>?_
  refine Sto 0 fun w N a J=>?_
  refine go fun a J=>?_
  refine yN [1,2,0,1,2,0,1,0,1,0] (.q 0 (.q 1 (.q 3 (.q 4 (.e 2 (.q 6 (.e 5 (.e 7 (.q 8 (.e 9 (.done))))))))))) [0,1,2,3,4] J N fun w N=>?_
  refine yF call73 (fun r2 w z N a J=>?_) (c:=q5q R1 (by have:=S.params _ (mgQ i0);omega) N)
  obtain ⟨B4,M2⟩:=r2
  simp only at z N J
  refine yF call41 (fun Q0 w j N a J=>?_) (c:=q4j Z (q9v (GP.gd _ (mgQ i0)) (by have h_:=(GP.fit.fn i0).2;rw [lnQ] at h_;omega)) N)
  replace H:=H.mono RStr.mono j.1
  replace g:=g.mono RStr.mono j.1
  replace b:=RTrc.mono _ _ _ _ j.1 b
  replace l:=l.mono RStr.mono j.1
  replace m:=m.mono RStr.mono j.1
  replace n:=n.mono RTCon.mono j.1
  replace W:=W.mono fun _ _ h=>RTFn.mono _ _ _ _ j.1 h
  replace c0:=c0.mono j.1
  replace X:=RTFn.mono _ _ _ _ j.1 X
  replace Z:=RTE.mono _ _ _ _ j.1 Z
  replace z:=z.mono fun _ _ h=>RTPar.mono _ _ _ _ j.1 h
  have k0:RTE Q0.1 Q0.2 G.body:=by have h_:=j.2;rw [y5a] at h_;exact h_
  obtain ⟨N2,b1⟩:∃x_,x_=Q0.2:=⟨_,rfl⟩
  rw [<- b1] at k0 J
  have l0:=k0
  obtain ⟨d2,I1,f2,J1,g2,K1,rfl,W2,X2,W3,X3,Y3,e3,o3,f3,q3,g3,r3⟩:=RTE.fm k0
  replace N:=N.nf
  refine Sto 1 fun w N a J=>?_
  refine Sto 1 fun w N a J=>?_
  refine go fun a J=>?_
  have f:=N
  clear N
  obtain ⟨R0,k,N,G0,W1⟩:=f.freezeRowC (i:=0) rfl
  clear f
  replace H:=H.up k
  replace g:=g.up k
  replace b:=RTrc.mono _ _ _ _ k b
  replace l:=l.up k
  replace m:=m.up k
  replace n:=n.mono RTCon.mono k
  replace W:=W.mono fun _ _ h=>RTFn.mono _ _ _ _ k h
  replace c0:=c0.mono k
  replace X:=RTFn.mono _ _ _ _ k X
  replace Z:=RTE.mono _ _ _ _ k Z
  replace z:=z.mono fun _ _ h=>RTPar.mono _ _ _ _ k h
  replace l0:=RTE.mono _ _ _ _ k l0
  replace N:=N.nf
  have o0:SliceOf RTPar R0 2 _ (G.params):=⟨_,G0,z⟩
  obtain ⟨i2,L1,r,z2,s3⟩:=o0.form (by decide)
  have d:=N
  clear N
  subst r
  have N:=d
  clear d
  refine qG fun v173 w N a J=>?_
  refine vL 2 q3i (fun q2 w N a J=>?_) (hb:=by rw [W.length,List.length_take];have:=S.cons;have:=z1v GP.fit;simp only [lcQ,lnQ];omega)
  refine Sto 3 fun w N a J=>?_
  refine go fun a J=>?_
  replace N:=N.dl [1,0]
  refine V1 _ _ _ (by subst x1;omega) ⟨(R0),(j_+1),(q2),((a1++[.string G.name,.bool G.chg,.slice i2 (G.params).length L1,.int .i64 (G.body.kind),.string G.body.name,.string G.body.op,.int .i64 (G.body.num),.int .i64 (G.body.site),.slice d2 G.body.args.length I1,.slice f2 G.body.arms.length J1,.slice g2 G.body.body.length K1])),rfl,⟨J.pk,by exact N⟩,?_⟩
  refine ⟨((y).trans j.1).trans k,?_⟩
  rw [jA i0];exact W.append (yQ rfl ⟨_,_,rfl,o0,l0⟩)
  refine go fun a J=>?_
  have L:=W
  rw [List.take_of_length_le (Nat.le_of_not_lt w1)] at L
  have f:=N
  clear N
  obtain ⟨S0,s,N,H0,X1⟩:=f.freezeRowC (i:=0) rfl
  clear f
  replace H:=H.up s
  replace g:=g.up s
  replace b:=RTrc.mono _ _ _ _ s b
  replace l:=l.up s
  replace m:=m.up s
  replace n:=n.mono RTCon.mono s
  replace L:=L.mono fun _ _ h=>RTFn.mono _ _ _ _ s h
  replace N:=N.nf
  have p0:SliceOf RTFn S0 11 _ (T.funs):=⟨_,H0,L⟩
  obtain ⟨n1,l1,r,A2,t3⟩:=p0.form (by decide)
  have d:=N
  clear N
  subst r
  have N:=d
  clear d
  refine go fun a J=>?_
  refine st0 J rfl rfl (zQ 1 (cs:=[.slice none 0 0,.slice none 0 0,.slice none 0 0,.slice none 0 0]) (vs:=[.slice y1 (T.cons).length c85,j0,.slice n1 (T.funs).length l1,m0]) J N rfl rfl rfl rfl sizeOf26 rfl (vU rfl (vU (q8p l.one) (vU rfl (vU (q8p m.one) rfl)))) rfl fun w N a J=>?_)
  replace N:=N.nf
  refine go fun a J=>?_
  have h3:=N
  replace N:=N.dl [2,1,0]
  refine kE (N:=h3) ?_
  exact ⟨(S0,[.slice y1 (T.cons).length c85,j0,.slice n1 (T.funs).length l1,m0]),rfl,⟨((((a0).trans v).trans I).trans y).trans s,⟨_,_,_,_,rfl,b2,n,l,p0,m⟩⟩,N⟩
 refine yN [1,2,0,1,2,0,1,0,0] (.q 0 (.q 1 (.q 3 (.q 4 (.e2 2 7 (.e2 5 7 (.q 6 (.e 7 (.e 8 (.done)))) (.e 5 (.q 6 (.e 8 (.done))))) (.e 2 (.e 5 (.q 6 (.e 8 (.done)))))))))) [0,1] J N fun w N=>?_
 refine go fun a J=>?_
 refine kY ?_ ?_
 refine yF call71 (fun s2 w p N a J=>?_) (c:=nO H (by have:=S.inputs;omega) N)
 obtain ⟨t0,O2⟩:=s2
 simp only at p N J
 refine kY ?_ ?_
 refine yF call71 (fun t2 w A N a J=>?_) (c:=nO g (by have:=S.outputs;omega) N)
 obtain ⟨o1,P2⟩:=t2
 simp only at A N J
 obtain ⟨v4,l4,L3,c1,_⟩:=N.toSees.gsForm (i:=1) rfl
 obtain ⟨w4,m4,M3,d1,_⟩:=N.toSees.gsForm (i:=0) rfl
 refine Qq (fun a J=>?_) (o:=by exact fun J O=>jP (vs:=[(1,t0),(3,o1)]) (cs:=[.slice none 0 0,t0,.slice none 0 0,o1]) J rfl (by rw [c1,d1];kernel_rfl))
 refine Alc fun D1 w N a J=>?_
 refine aN 0 fun w N a J=>?_
 refine go fun a J=>?_
 have f:=N
 clear N
 obtain ⟨z1,D,N,I0,C0⟩:=f.freezeRowC (i:=2) rfl
 clear f
 replace H:=H.up D
 replace g:=g.up D
 replace b:=RTrc.mono _ _ _ _ D b
 replace p:=p.mono fun _ _ h=>RStr.mono _ _ _ _ D h
 replace A:=A.mono fun _ _ h=>RStr.mono _ _ _ _ D h
 replace N:=N.nf
 have M:SliceOf RStr z1 1 _ (T.inputs):=⟨_,I0,p⟩
 obtain ⟨j2,c210,r,B2,u3⟩:=M.form (by decide)
 have d:=N
 clear N
 subst r
 have N:=d
 clear d
 have f:=N
 clear N
 obtain ⟨U0,u,N,J0,Y1⟩:=f.freezeRowC (i:=1) rfl
 clear f
 replace H:=H.up u
 replace g:=g.up u
 replace b:=RTrc.mono _ _ _ _ u b
 replace p:=p.mono fun _ _ h=>RStr.mono _ _ _ _ u h
 replace A:=A.mono fun _ _ h=>RStr.mono _ _ _ _ u h
 replace M:=M.up u
 replace N:=N.nf
 have q0:SliceOf RStr U0 1 _ (T.outputs):=⟨_,J0,A⟩
 obtain ⟨k2,M1,r,C2,v3⟩:=q0.form (by decide)
 have d:=N
 clear N
 subst r
 have N:=d
 clear d
 exact B0 _ _ ⟨U0,D1,.slice j2 (T.inputs).length c210,.slice k2 (T.outputs).length M1,J.pk,N,⟨(D).trans u,⟨M,C0,q0⟩⟩⟩
 refine Alc fun E1 w N a J=>?_
 refine yF call71 (fun u2 w B N a J=>?_) (c:=nO g (by have:=S.outputs;omega) N)
 obtain ⟨p1,Q2⟩:=u2
 simp only at B N J
 obtain ⟨x4,n4,N3,e1,_⟩:=N.toSees.gsForm (i:=2) rfl
 obtain ⟨y4,o4,O3,f1,_⟩:=N.toSees.gsForm (i:=0) rfl
 refine Qq (fun a J=>?_) (o:=by exact fun J O=>jP (vs:=[(1,t0),(3,p1)]) (cs:=[.slice none 0 0,t0,.slice none 0 0,p1]) J rfl (by rw [e1,f1];kernel_rfl))
 refine aN 1 fun w N a J=>?_
 refine go fun a J=>?_
 have f:=N
 clear N
 obtain ⟨A1,E,N,K0,D0⟩:=f.freezeRowC (i:=2) rfl
 clear f
 replace H:=H.up E
 replace g:=g.up E
 replace b:=RTrc.mono _ _ _ _ E b
 replace p:=p.mono fun _ _ h=>RStr.mono _ _ _ _ E h
 replace B:=B.mono fun _ _ h=>RStr.mono _ _ _ _ E h
 replace N:=N.nf
 have P:SliceOf RStr A1 1 _ (T.inputs):=⟨_,K0,p⟩
 obtain ⟨l2,N1,r,D2,w3⟩:=P.form (by decide)
 have d:=N
 clear N
 subst r
 have N:=d
 clear d
 have f:=N
 clear N
 obtain ⟨V0,F,N,L0,Z1⟩:=f.freezeRowC (i:=0) rfl
 clear f
 replace H:=H.up F
 replace g:=g.up F
 replace b:=RTrc.mono _ _ _ _ F b
 replace B:=B.mono fun _ _ h=>RStr.mono _ _ _ _ F h
 replace P:=P.up F
 replace N:=N.nf
 have r0:SliceOf RStr V0 1 _ (T.outputs):=⟨_,L0,B⟩
 obtain ⟨m2,O1,r,E2,x3⟩:=r0.form (by decide)
 have d:=N
 clear N
 subst r
 have N:=d
 clear d
 exact B0 _ _ ⟨V0,E1,.slice l2 (T.inputs).length N1,.slice m2 (T.outputs).length O1,J.pk,N,⟨(E).trans F,⟨P,D0,r0⟩⟩⟩
 refine Alc fun F1 w N a J=>?_
 refine yF call71 (fun v2 w b0 N a J=>?_) (c:=nO H (by have:=S.inputs;omega) N)
 obtain ⟨q1,R2⟩:=v2
 simp only at b0 N J
 refine yF call71 (fun w2 w C N a J=>?_) (c:=nO g (by have:=S.outputs;omega) N)
 obtain ⟨r1,S2⟩:=w2
 simp only at C N J
 obtain ⟨z4,p4,P3,g1,_⟩:=N.toSees.gsForm (i:=1) rfl
 obtain ⟨A4,q4,Q3,h1,_⟩:=N.toSees.gsForm (i:=0) rfl
 refine Qq (fun a J=>?_) (o:=by exact fun J O=>jP (vs:=[(1,q1),(3,r1)]) (cs:=[.slice none 0 0,q1,.slice none 0 0,r1]) J rfl (by rw [g1,h1];kernel_rfl))
 refine aN 2 fun w N a J=>?_
 refine go fun a J=>?_
 have f:=N
 clear N
 obtain ⟨B1,e0,N,M0,E0⟩:=f.freezeRowC (i:=1) rfl
 clear f
 replace b:=RTrc.mono _ _ _ _ e0 b
 replace b0:=b0.mono fun _ _ h=>RStr.mono _ _ _ _ e0 h
 replace C:=C.mono fun _ _ h=>RStr.mono _ _ _ _ e0 h
 replace N:=N.nf
 have U:SliceOf RStr B1 1 _ (T.inputs):=⟨_,M0,b0⟩
 obtain ⟨n2,P1,r,F2,y3⟩:=U.form (by decide)
 have d:=N
 clear N
 subst r
 have N:=d
 clear d
 have f:=N
 clear N
 obtain ⟨X0,f0,N,N0,a2⟩:=f.freezeRowC (i:=0) rfl
 clear f
 replace b:=RTrc.mono _ _ _ _ f0 b
 replace C:=C.mono fun _ _ h=>RStr.mono _ _ _ _ f0 h
 replace U:=U.up f0
 replace N:=N.nf
 have s0:SliceOf RStr X0 1 _ (T.outputs):=⟨_,N0,C⟩
 obtain ⟨o2,Q1,r,G2,z3⟩:=s0.form (by decide)
 have d:=N
 clear N
 subst r
 have N:=d
 clear d
 exact B0 _ _ ⟨X0,F1,.slice n2 (T.inputs).length P1,.slice o2 (T.outputs).length Q1,J.pk,N,⟨(e0).trans f0,⟨U,E0,s0⟩⟩⟩
theorem z6z {tc rc:List Value} {T:Trc} {ru fn nu:Int} {path:List Int} (H:RTrc Φ tc T) (rx:RRw Φ rc ⟨ru,fn,path,nu⟩) (G:Glob Φ) (N:Mem Φ K w) :
  Calls prog 13 #[.agg tc.toArray,.agg rc.toArray] w (fun ee w'=>Out (pD T ⟨ru,fn,path,nu⟩) (fun U=>∃q:Fz×List Value,ee=.returned (.tuple #[.agg q.2.toArray,.int .i64 0])/\(Φ.Le q.1/\RTrc q.1 q.2 U)/\Mem q.1 K w') (fun c=>ee=.returned (.tuple #[.agg zTrc.toArray,.int .i64 c])/\Mem Φ K w')):=by
 have b:=H
 obtain ⟨p3,c4,p9,K0,d1,L0,e1,c22,rfl,h0,h2,h8,Q0,R0,b1,c1,j0,s0,k0,t0,l0,u0⟩:=RTrc.fm H
 have Gl:=G
 have g:=rx
 obtain ⟨k1,C,M,D0,E0,F0,A⟩:=rx
 subst C
 obtain ⟨f1,M0,rfl,W,w0⟩:=A.fm
 refine zJ func13 ntmps13 fun Q hQ a J=>?_
 refine Bx fun G0 w N a J=>?_
 refine Bx fun H0 w N a J=>?_
 refine Alc fun I0 w N a J=>?_
 refine cY call25 (fun Z l1 w l g0 N a J=>?_) (fun Z w l N a J=>?_) (c:=pZ b Gl N)
 replace N:=N.nf
 refine Qq (fun a J=>?_) (o:=by exact fun J O=>jG false J rfl rfl rfl)
 have j:=zD l
 have GP:=kP j
 have S:=sI j
 refine cY call33 (fun d b0 w e h N a J=>?_) (fun d w e N a J=>?_) (c:=y9m b GP g Gl N)
 replace b:=RTrc.mono _ _ _ _ h.1 b
 replace g:=RRw.mono _ _ _ _ h.1 g
 have m:=h.2
 obtain ⟨d0,u⟩:∃x_,x_=b0.2:=⟨_,rfl⟩
 rw [<- u] at m J
 have n:=m
 obtain ⟨g1,c53,h1,N0,i1,O0,j1,P0,rfl,i0,S0,U0,V0,X0,m0,x0,n0,y0,o0,z0,p0,A0⟩:=RTrc.fm m
 replace N:=N.nf
 refine Alc fun J0 w N a J=>?_
 refine Sto 0 fun w N a J=>?_
 refine Qq (fun a J=>?_) (o:=by exact fun J O=>jG false J rfl rfl rfl)
 refine yF call34 (fun I w f N a J=>?_) (c:=z8d n (sA GP e) (y2n S e) N)
 replace b:=RTrc.mono _ _ _ _ f.1 b
 replace g:=RRw.mono _ _ _ _ f.1 g
 replace n:=RTrc.mono _ _ _ _ f.1 n
 have p:=f.2
 obtain ⟨e0,v⟩:∃x_,x_=I.2:=⟨_,rfl⟩
 rw [<- v] at p J
 have B:=p
 obtain ⟨D,y,E,z,F,r,t,s,rfl,P,Y0,Z0,a1,f0,q0,B0,r0,C0,R,X,V,Y⟩:=RTrc.fm p
 replace N:=N.nf
 refine Sto 1 fun w N a J=>?_
 refine go fun a J=>?_
 have k:=N
 replace N:=N.dl [3,2,1,0]
 refine hQ _ _ _ (qO (i:=1) (cs:=[.slice D d.cons.length y,.slice E d.inputs.length z,.slice F d.funs.length r,.slice t d.outputs.length s]) J k.toSees results13 rfl rfl isAgg26 sizeOf26 rfl rfl ?_)
 rw [aY j,e];exact ⟨(I.1,[.slice D d.cons.length y,.slice E d.inputs.length z,.slice F d.funs.length r,.slice t d.outputs.length s]),rfl,⟨(h.1).trans f.1,B⟩,N⟩
 replace N:=N.nf
 have L:¬d=0:=uV e
 refine Alc fun c0 w N a J=>?_
 refine Sto 0 fun w N a J=>?_
 refine yE fun a J=>?_
 refine Sto 1 fun w N a J=>?_
 refine go fun a J=>?_
 have k:=N
 replace N:=N.dl [3,2,1,0]
 refine hQ _ _ _ (qO (i:=1) (cs:=[.slice none 0 0,.slice none 0 0,.slice none 0 0,.slice none 0 0]) J k.toSees results13 rfl rfl isAgg26 sizeOf26 rfl rfl ?_)
 rw [aY j,e];exact ⟨rfl,N⟩
 replace N:=N.nf
 refine Qq (fun a J=>?_) (o:=by exact fun J O=>jG true J rfl rfl rfl)
 refine yE fun a J=>?_
 refine Sto 0 fun w N a J=>?_
 refine go fun a J=>?_
 have k:=N
 replace N:=N.dl [2,1,0]
 refine hQ _ _ _ (qO (i:=0) (cs:=[.slice none 0 0,.slice none 0 0,.slice none 0 0,.slice none 0 0]) J k.toSees results13 rfl rfl isAgg26 sizeOf26 rfl rfl ?_)
 rw [uU (zP l)];exact ⟨rfl,N⟩
theorem At_ok {tc:List Value} {T:Trc} {fn:Int} {vp:Value} {path:List Int} (Y:RTrc Φ tc T) (hp:SliceOf RInt Φ 1 vp path) (G:Glob Φ) (N:Mem Φ K w) :
  Calls prog 19 #[.agg tc.toArray,.int .i64 fn,vp] w (fun ee w'=>Out (atC T fn path) (fun x=>∃q:Fz×List Value,ee=.returned (.tuple #[.agg q.2.toArray,.int .i64 0])/\(Φ.Le q.1/\RTE q.1 q.2 x)/\Mem q.1 K w') (fun c=>ee=.returned (.tuple #[.agg zTE.toArray,.int .i64 c])/\Mem Φ K w')):=by
 have e:=Y
 obtain ⟨p3,c4,p9,x1,N1,y1,O1,c22,rfl,X0,h2,h8,c0,F1,L1,M1,b1,i1,c1,X,d1,j1⟩:=RTrc.fm Y
 have Gl:=G
 obtain ⟨P1,z1,rfl,o0,k1⟩:=hp.fm
 refine zJ func19 ntmps19 fun Q hQ a J=>?_
 refine Bx fun u1 w N a J=>?_
 refine Alc fun v1 w N a J=>?_
 refine cY call25 (fun z0 Y1 w B S0 N a J=>?_) (fun z0 w B N a J=>?_) (c:=pZ e Gl N)
 replace N:=N.nf
 refine Qq (fun a J=>?_) (o:=by exact fun J O=>jG false J rfl rfl rfl)
 have h:=zD B
 have GP:=kP h
 have S:=sI h
 by_cases d0:fn < 0
 refine yE fun a J=>?_
 refine Sto 0 fun w N a J=>?_
 refine go fun a J=>?_
 have k:=N
 replace N:=N.dl [1,0]
 refine hQ _ _ _ (qO (i:=0) (cs:=[.int .i64 ((0:Nat):Int),.string ⟨#[]⟩,.string ⟨#[]⟩,.int .i64 ((0:Nat):Int),.int .i64 ((0:Nat):Int),.slice none 0 0,.slice none 0 0,.slice none 0 0]) J k.toSees results19 rfl rfl isAgg48 sizeOf48 rfl rfl ?_)
 rw [atC_fn h (.inl d0)];exact ⟨rfl,N⟩
 by_cases G1:((T.funs.length:Nat):Int)<=fn
 refine yE fun a J=>?_
 refine Sto 0 fun w N a J=>?_
 refine go fun a J=>?_
 have k:=N
 replace N:=N.dl [1,0]
 refine hQ _ _ _ (qO (i:=0) (cs:=[.int .i64 ((0:Nat):Int),.string ⟨#[]⟩,.string ⟨#[]⟩,.int .i64 ((0:Nat):Int),.int .i64 ((0:Nat):Int),.slice none 0 0,.slice none 0 0,.slice none 0 0]) J k.toSees results19 rfl rfl isAgg48 sizeOf48 rfl rfl ?_)
 rw [atC_fn h (.inr (by omega))];exact ⟨rfl,N⟩
 refine go fun a J=>?_
 have n:=N
 have m:=J
 clear N J
 obtain ⟨n_,rfl⟩:∃n_:Nat,fn=(n_:Int):=⟨fn.toNat,by omega⟩
 have N:=n
 have J:=m
 clear n m
 have M:n_ < T.funs.length:=by omega
 refine go fun a J=>?_
 have n:=N
 have m:=J
 clear N J
 obtain ⟨W1,rfl⟩:=X (zO M)
 have N:=n
 have J:=m
 clear n m
 obtain ⟨X1,j⟩:=zW M
 obtain ⟨K0,a1,l,p⟩:=c0.elem j
 obtain ⟨Q1,A1,w1,rfl,H1,z,e1,l1⟩:=RTFn.fm p
 obtain ⟨R1,B1,S1,C1,T1,D1,rfl,Y0,Z0,I1,J1,K1,f1,m1,g1,n1,h1,o1⟩:=RTE.fm z
 refine yE fun a J=>?_
 refine go fun a J=>?_
 refine st J rfl rfl rfl (mZ J rfl call40 (z7f (At.part3 l) z (by have h_:=(GP.fit.fn j).2;rw [lnQ] at h_;omega) hp N) (fun b f w t g N a J=>?_) (fun b f w t N a J=>?_))
 replace e:=RTrc.mono _ _ _ _ g.1 e
 replace l:=l.mono g.1
 replace p:=RTFn.mono _ _ _ _ g.1 p
 replace z:=RTE.mono _ _ _ _ g.1 z
 have C:=g.2
 obtain ⟨L0,V⟩:∃x_,x_=f.2:=⟨_,rfl⟩
 rw [<- V] at C J
 have u:=C
 obtain ⟨A0,B0,U1,E1,rfl,U0,V0,A,D,L,v⟩:=id C
 replace A:SliceOf RInt f.1 1 A0 path:=A
 replace D:SliceOf RPtE f.1 1 B0 b.1:=D
 replace v:RTE f.1 _ b.2:=v
 obtain ⟨V1,F0,rfl,Z,p0⟩:=A.fm
 obtain ⟨q1,G0,rfl,a0,q0⟩:=D.fm
 have r:=v
 obtain ⟨r1,H0,s1,I0,t1,J0,rfl,e0,f0,M0,N0,O0,i0,r0,j0,s0,k0,t0⟩:=RTE.fm v
 replace N:=N.nf
 refine Alc fun D0 w N a J=>?_
 refine Sto 0 fun w N a J=>?_
 refine yF call41 (fun y w d N a J=>?_) (c:=q4j r (GP.sm (mgQ j) (y2j GP (mgQ j) (zR t))) N)
 replace e:=RTrc.mono _ _ _ _ d.1 e
 replace l:=l.mono d.1
 replace p:=RTFn.mono _ _ _ _ d.1 p
 replace z:=RTE.mono _ _ _ _ d.1 z
 replace L:=L.mono d.1
 replace r:=RTE.mono _ _ _ _ d.1 r
 replace u:=RFnd.mono _ _ _ _ d.1 u
 have s:RTE y.1 y.2 b.2:=by have h_:=d.2;rw [y5a] at h_;exact h_
 obtain ⟨b0,E⟩:∃x_,x_=y.2:=⟨_,rfl⟩
 rw [<- E] at s J
 have W:=s
 obtain ⟨P,F,R,H,U,I,rfl,g0,h0,P0,Q0,R0,l0,u0,m0,w0,n0,x0⟩:=RTE.fm s
 replace N:=N.nf
 refine Sto 1 fun w N a J=>?_
 refine go fun a J=>?_
 have k:=N
 replace N:=N.dl [2,1,0]
 refine hQ _ _ _ (qO (i:=1) (cs:=[.int .i64 (b.2.kind),.string b.2.name,.string b.2.op,.int .i64 (b.2.num),.int .i64 (b.2.site),.slice P b.2.args.length F,.slice R b.2.arms.length H,.slice U b.2.body.length I]) J k.toSees results19 rfl rfl isAgg48 sizeOf48 rfl rfl ?_)
 rw [atC_ok h j (zR t)];exact ⟨(y.1,[.int .i64 (b.2.kind),.string b.2.name,.string b.2.op,.int .i64 (b.2.num),.int .i64 (b.2.site),.slice P b.2.args.length F,.slice R b.2.arms.length H,.slice U b.2.body.length I]),rfl,⟨(g.1).trans d.1,W⟩,N⟩
 replace N:=N.nf
 refine Alc fun E0 w N a J=>?_
 refine st0 J rfl rfl (zQ 0 (cs:=[.slice none 0 0,.slice none 0 0,.pointer none]) (vs:=[f.1.1,f.1.2.1,.pointer (some f.1.2.2)]) J N rfl rfl rfl rfl sizeOf90 rfl (vU f.2.1 (vU f.2.2 (vU rfl rfl))) rfl fun w N a J=>?_)
 replace N:=N.nf
 refine yE fun a J=>?_
 refine Sto 1 fun w N a J=>?_
 refine go fun a J=>?_
 have k:=N
 replace N:=N.dl [2,1,0]
 refine hQ _ _ _ (qO (i:=1) (cs:=[.int .i64 ((0:Nat):Int),.string ⟨#[]⟩,.string ⟨#[]⟩,.int .i64 ((0:Nat):Int),.int .i64 ((0:Nat):Int),.slice none 0 0,.slice none 0 0,.slice none 0 0]) J k.toSees results19 rfl rfl isAgg48 sizeOf48 rfl rfl ?_)
 rw [j1x h j (yL t)];exact ⟨rfl,N⟩
 replace N:=N.nf
 refine Qq (fun a J=>?_) (o:=by exact fun J O=>jG true J rfl rfl rfl)
 refine yE fun a J=>?_
 refine Sto 0 fun w N a J=>?_
 refine go fun a J=>?_
 have k:=N
 replace N:=N.dl [1,0]
 refine hQ _ _ _ (qO (i:=0) (cs:=[.int .i64 ((0:Nat):Int),.string ⟨#[]⟩,.string ⟨#[]⟩,.int .i64 ((0:Nat):Int),.int .i64 ((0:Nat):Int),.slice none 0 0,.slice none 0 0,.slice none 0 0]) J k.toSees results19 rfl rfl isAgg48 sizeOf48 rfl rfl ?_)
 rw [atC_bad (zP B)];exact ⟨rfl,N⟩
theorem j1l {tc:List Value} {T:Trc} (f:RTrc Φ tc T) (G:Glob Φ) (N:Mem Φ K w) :
  Calls prog 14 #[.agg tc.toArray] w (fun ee w'=>Out (dem (zL T)) (fun _=>∃y:Unit,ee=.returned (.tuple #[.int .i64 ((vJ T:Nat):Int),.int .i64 0])/\True/\Mem Φ K w') (fun _=>ee=.returned (.tuple #[.int .i64 0,.int .i64 120])/\Mem Φ K w')):=by
 have d:=f
 obtain ⟨F,c4,H,r,A,s,B,c22,rfl,i,D,E,t,u,v,z,j,m,k,n,l,p⟩:=RTrc.fm f
 have Gl:=G
 refine zJ func14 ntmps14 fun Q hQ a J=>?_
 refine Bx fun q w N a J=>?_
 refine cY call25 (fun g C w b h N a J=>?_) (fun g w b N a J=>?_) (c:=pZ d Gl N)
 replace N:=N.nf
 refine Qq (fun a J=>?_) (o:=by exact fun J O=>jG false J rfl rfl rfl)
 have e:=zD b
 have GP:=kP e
 have S:=sI e
 refine zF call35 (fun w N a J=>?_) (c:=j5k d GP.fit N)
 refine z3k ?_
 replace N:=N.dl [0]
 rw [b];exact ⟨(),rfl,trivial,N⟩
 replace N:=N.nf
 refine Qq (fun a J=>?_) (o:=by exact fun J O=>jG true J rfl rfl rfl)
 refine z3k ?_
 replace N:=N.dl [0]
 rw [b];exact ⟨rfl,N⟩
end
theorem j0l {Φ:Fz} {K:List Res} {w:World} {gf:Nat} {fs cs:List Value} {items:List Rw} {bt bo:Nat} {tc:List Value} {ov:Value} {oc:List Value} {T:Trc} {out:List Rw} (F0:Iter prog Φ gf fs cs RRw items) (E0:∀args w,(callFunc gf args).run prog w=.ok (.enter gf args) w) (h6:∀x∈items,x.rule≠6) (J0:RTrc Φ tc T) (GP:GoodP T) (I0:Chunks (RRw Φ) 4 oc out) (s0:out.length<=500) (G:Glob Φ) (N:Mem Φ (.gs ov 36 4 oc::.blk bt (ob tc 26)::.blk bo (ob [ov] 27)::K) w) :
  Calls prog 36 #[.func (.func gf) fs.toArray cs.toArray,.pointer (some ⟨bt,0,none⟩),.pointer (some ⟨bo,0,none⟩)] w (fun ee w'=>∃q:Fz×List Value×Value×List Value,ee=.returned (.bool (vA T out items).isSome)/\(Φ.Le q.1/\RTrc q.1 q.2.1 (curT T (vA T out items))/\Chunks (RRw q.1) 4 q.2.2.2 (curO out (vA T out items))/\(curO out (vA T out items)).length<=500)/\Mem q.1 (.gs q.2.2.1 36 4 q.2.2.2::.blk bt (ob q.2.1 26)::.blk bo (ob [q.2.2.1] 27)::K) w'):=by
 have Gl:=G
 have d:=J0
 refine sL func36 rfl ntmps36 rfl (fun Q hQ a J=>?_)
 refine Alc fun P w N a J=>?_
 refine go fun a J=>?_
 refine gS (p:=9) RRw (items) .ret ((cR T out)) (fun Ψ_ s_ b_ z_=>optGd T out Ψ_ s_ b_ z_) (fun s_ b_ z_=>.blk P (ob [.bool s_.isSome] 4)::.gs (z_.2.1) 36 4 z_.2.2::.blk bt (ob z_.1 26)::.blk bo (ob [z_.2.1] 27)::K) (none:OptS) ((tc,ov,oc):List Value×Value×List Value) J ⟨d,I0,s0,fun _=>rfl⟩ N rfl E0 rfl (fun _ _ _ _ _ G0 h_=>optGd.mono h_ G0) (fun Ψr_ s_ z_ A1 x_ l_ J1 K1 m1 a w g H F o J N=>?_) (F0) (fun hr_ Dk Ψr_ e a w g o J N=>?_) (fun hr_ Dk Ψr_ e a w g o J N=>?_)
 replace Gl:=Gl.mono g
 replace d:=RTrc.mono _ _ _ _ g d
 replace N:=N.nf
 obtain ⟨M,D,r,I⟩:=x_
 obtain ⟨t,j,s⟩:=z_
 obtain ⟨l,b,k,y0⟩:=o
 obtain rfl:s_=none:=y0 rfl
 replace b:Chunks (RRw Ψr_) 4 s out:=b
 replace k:out.length<=500:=k
 replace l:RTrc Ψr_ t T:=l
 replace N:=N.nf
 have y:=l
 obtain ⟨p8,c9,Y,R,Z,c21,a0,S,rfl,O0,h7,B1,C1,D1,Q0,a1,R0,b1,S0,c1,U0,d1⟩:=RTrc.fm l
 replace N:=N.nf
 have m:=F
 obtain ⟨L1,x0,B0,j1,k1,l1,u0⟩:=F
 subst x0
 obtain ⟨L,z,rfl,H0,e1⟩:=u0.fm
 refine xG ?_
 refine vS J rfl rfl rfl (by intro c h;cases h) (qP (cs:=[.int .i64 ((0:Nat):Int),.int .i64 ((0:Nat):Int),.slice none 0 0,.int .i64 ((0:Nat):Int)]) N zeroValue36 rfl fun x1 w N a J=>?_)
 refine jY J rfl rfl (by intro c h;cases h) (zQ 0 (cs:=[.int .i64 ((0:Nat):Int),.int .i64 ((0:Nat):Int),.slice none 0 0,.int .i64 ((0:Nat):Int)]) (vs:=[.int .i64 (M),.int .i64 (D),.slice L r.length z,.int .i64 (I)]) J N rfl rfl rfl rfl sizeOf36 rfl rfl rfl fun w N a J=>?_)
 replace N:=N.nf
 refine zY ?_
 replace N:=N.pl 1
 refine ⟨_,N,fun w N=>?_⟩
 replace N:=N.nf
 refine gA ?_
 refine sqI fun n1 f0=>?_
 refine xG ?_
 refine zH J (by intro c h;cases h) (qA 4 (vs:=[.slice p8 T.cons.length c9,.slice Y T.inputs.length R,.slice Z T.funs.length c21,.slice a0 T.outputs.length S]) J N.toSees rfl rfl isAgg26 sizeOf26 rfl rfl) rfl fun a J=>
   zH J (by intro c h;cases h) (qA 1 (vs:=[.int .i64 (M),.int .i64 (D),.slice L r.length z,.int .i64 (I)]) J N.toSees rfl rfl isAgg36 sizeOf36 rfl rfl) rfl fun a J=>?_
 refine vS J rfl rfl rfl (by intro c h;cases h) (tQ J rfl call33 (y9m y GP m Gl N) (fun f k0 w u n N a J=>?_) (fun f w u N a J=>?_))
 replace d:=RTrc.mono _ _ _ _ n.1 d
 replace b:=b.mono fun _ _ h=>RRw.mono _ _ _ _ n.1 h
 replace y:=RTrc.mono _ _ _ _ n.1 y
 replace m:=RRw.mono _ _ _ _ n.1 m
 have E:=n.2
 obtain ⟨M0,i0⟩:∃x_,x_=k0.2:=⟨_,rfl⟩
 rw [<- i0] at E J
 have w0:=E
 obtain ⟨b0,c48,c0,U,d0,V,e0,W,rfl,P0,E1,F1,G1,H1,V0,f1,X0,g1,Y0,h1,Z0,i1⟩:=RTrc.fm E
 replace N:=N.nf
 refine zH J (by intro c h;cases h) (yX J rfl) rfl fun a J=>
   zH J (by intro c h;cases h) (xJ J rfl rfl) rfl fun a J=>
   zH J (by intro c h;cases h) (xJ J rfl rfl) rfl fun a J=>?_
 refine vS J rfl rfl rfl (by intro c h;cases h) (qP (cs:=[.slice none 0 0,.slice none 0 0,.slice none 0 0,.slice none 0 0]) N zeroValue26 rfl fun y1 w N a J=>?_)
 refine jY J rfl rfl (by intro c h;cases h) (zQ 0 (cs:=[.slice none 0 0,.slice none 0 0,.slice none 0 0,.slice none 0 0]) (vs:=[.slice b0 f.cons.length c48,.slice c0 f.inputs.length U,.slice d0 f.funs.length V,.slice e0 f.outputs.length W]) J N rfl rfl rfl rfl sizeOf26 rfl rfl rfl fun w N a J=>?_)
 replace N:=N.nf
 refine zH J (by intro c h;cases h) (qW J rfl) rfl fun a J=>?_
 refine zY ?_
 apply f0
 refine sqI fun o1 l0=>?_
 refine sqI fun p1 g0=>?_
 refine xG ?_
 refine zH J (by intro c h;cases h) (yX J rfl) rfl fun a J=>
   zH J (by intro c h;cases h) (jG false J rfl rfl rfl) rfl fun a J=>
   zH J (by intro c h;cases h) (yX J rfl) rfl fun a J=>?_
 refine mK J rfl rfl rfl rfl rfl (by intro c h;cases h) (dD (yH 6 J N.toSees rfl rfl rfl isAgg27) fun a J=>?_)
 refine mK J rfl rfl rfl rfl rfl (by intro c h;cases h) (dD (mR 4 (out.length) J N.toSees rfl rfl (by rw [b.length]) (by decide) runUnderlying27) fun a J=>?_)
 by_cases X:out.length=500
 refine mK J rfl rfl rfl rfl rfl (by intro c h;cases h) (dD (xY true J rfl rfl (decide_eq_true (congrArg Int.ofNat X))) fun a J=>?_)
 refine zH J (by intro c h;cases h) (z4p J rfl rfl) rfl fun a J=>?_
 refine zY ?_
 apply g0
 refine pT J rfl ?_
 refine sqI fun q1 m0=>?_
 refine xG ?_
 refine jY J rfl rfl (by intro c h;cases h) (zQ 3 (cs:=[.bool false]) (vs:=[.bool false]) J N rfl rfl rfl rfl sizeOf4 rfl rfl rfl fun w N a J=>?_)
 replace N:=N.nf
 refine zY ?_
 apply m0
 refine wpIn_ret ?_
 replace N:=N.dl [2,0]
 rw [q7r (h6 _ H) u X]
 exact ⟨rfl,k0.1,(([.slice p8 T.cons.length c9,.slice Y T.inputs.length R,.slice Z T.funs.length c21,.slice a0 T.outputs.length S],j,_):List Value×Value×List Value),(n.1),⟨y,b,k,(fun h_=>by cases h_)⟩,N⟩
 refine mK J rfl rfl rfl rfl rfl (by intro c h;cases h) (dD (xY false J rfl rfl (decide_eq_false (fun hh=>X (Int.ofNat.inj hh)))) fun a J=>?_)
 refine zH J (by intro c h;cases h) (z4p J rfl rfl) rfl fun a J=>?_
 refine zY ?_
 apply g0
 refine wE J rfl ?_
 refine wS ?_
 apply l0
 refine sqI fun r1 n0=>?_
 refine xG ?_
 refine zH J (by intro c h;cases h) (qA 0 (vs:=[.slice b0 f.cons.length c48,.slice c0 f.inputs.length U,.slice d0 f.funs.length V,.slice e0 f.outputs.length W]) J N.toSees rfl rfl isAgg26 sizeOf26 rfl rfl) rfl fun a J=>?_
 refine jY J rfl rfl (by intro c h;cases h) (zQ 5 (cs:=[.slice p8 T.cons.length c9,.slice Y T.inputs.length R,.slice Z T.funs.length c21,.slice a0 T.outputs.length S]) (vs:=[.slice b0 f.cons.length c48,.slice c0 f.inputs.length U,.slice d0 f.funs.length V,.slice e0 f.outputs.length W]) J N rfl rfl rfl rfl sizeOf26 rfl rfl rfl fun w N a J=>?_)
 replace N:=N.nf
 refine zY ?_
 apply n0
 refine sqI fun s1 o0=>?_
 refine xG ?_
 refine zH J (by intro c h;cases h) (yH 6 J N.toSees rfl rfl rfl isAgg27) rfl fun a J=>
   zH J (by intro c h;cases h) (qA 2 (vs:=[.int .i64 (M),.int .i64 (D),.slice L r.length z,.int .i64 (I)]) J N.toSees rfl rfl isAgg36 sizeOf36 rfl rfl) rfl fun a J=>?_
 refine vS J rfl rfl rfl (by intro c h;cases h) (yY (sz:=4) (cs:=[.int .i64 (M),.int .i64 (D),.slice L r.length z,.int .i64 (I)]) J N rfl (pG runUnderlying27 sizeOf36 zeroValue36 rfl (by decide) rfl) rfl (by decide) fun M1 w N _ a J=>?_)
 refine vS J rfl rfl rfl (by intro c h;cases h) (wM 5 (xs:=s) (news:=[.int .i64 (M),.int .i64 (D),.slice L r.length z,.int .i64 (I)]) rt_27 J N rfl rfl rfl (N.toSees.rowIn (i:=0) rfl) rfl (by rw [b.length];simp only [lcQ,lnQ];omega) fun A0 w N a J=>?_)
 replace N:=N.nf
 refine jY J rfl rfl (by intro c h;cases h) (zQ 7 (cs:=[j]) (vs:=[A0]) J N rfl rfl rfl (N.toSees.gsCells (i:=5) rfl) sizeOf27 rfl (N.toSees.gsOne (i:=5) rfl) rfl fun w N a J=>?_)
 replace N:=N.nf
 refine zY ?_
 apply o0
 refine sqI fun t1 p0=>?_
 refine xG ?_
 refine jY J rfl rfl (by intro c h;cases h) (zQ 4 (cs:=[.bool false]) (vs:=[.bool true]) J N rfl rfl rfl rfl sizeOf4 rfl rfl rfl fun w N a J=>?_)
 replace N:=N.nf
 refine zY ?_
 apply p0
 refine wpIn_ret ?_
 replace N:=N.dl [3,1,0]
 rw [x2j (h6 _ H) u X]
 exact ⟨rfl,k0.1,(([.slice b0 f.cons.length c48,.slice c0 f.inputs.length U,.slice d0 f.funs.length V,.slice e0 f.outputs.length W],A0,_):List Value×Value×List Value),(n.1),⟨w0,b.append (yQ rfl m),by show (out++[_]).length<=500;rw [laQ,List.length_singleton];omega,(fun h_=>by cases h_)⟩,N⟩
 replace N:=N.nf
 have j0:¬f=0:=uV u
 refine zH J (by intro c h;cases h) (yX J rfl) rfl fun a J=>
   zH J (by intro c h;cases h) (xJ J rfl rfl) rfl fun a J=>
   zH J (by intro c h;cases h) (xJ J rfl rfl) rfl fun a J=>?_
 refine vS J rfl rfl rfl (by intro c h;cases h) (qP (cs:=[.slice none 0 0,.slice none 0 0,.slice none 0 0,.slice none 0 0]) N zeroValue26 rfl fun z1 w N a J=>?_)
 refine jY J rfl rfl (by intro c h;cases h) (zQ 0 (cs:=[.slice none 0 0,.slice none 0 0,.slice none 0 0,.slice none 0 0]) (vs:=[.slice none 0 0,.slice none 0 0,.slice none 0 0,.slice none 0 0]) J N rfl rfl rfl rfl sizeOf26 rfl rfl rfl fun w N a J=>?_)
 replace N:=N.nf
 refine zH J (by intro c h;cases h) (qW J rfl) rfl fun a J=>?_
 refine zY ?_
 apply f0
 refine sqI fun u1 N0=>?_
 refine sqI fun v1 q0=>?_
 refine xG ?_
 refine zH J (by intro c h;cases h) (yX J rfl) rfl fun a J=>
   zH J (by intro c h;cases h) (jG true J rfl rfl (congrArg Bool.not (decide_eq_false j0))) rfl fun a J=>
   zH J (by intro c h;cases h) (yX J rfl) rfl fun a J=>
   sO J rfl rfl rfl rfl rfl rfl fun a J=>
   sO J rfl rfl rfl rfl rfl rfl fun a J=>
   sO J rfl rfl rfl rfl rfl rfl fun a J=>
   zH J (by intro c h;cases h) (z4p J rfl rfl) rfl fun a J=>?_
 refine zY ?_
 apply q0
 refine pT J rfl ?_
 refine sqI fun w1 r0=>?_
 refine xG ?_
 refine jY J rfl rfl (by intro c h;cases h) (zQ 3 (cs:=[.bool false]) (vs:=[.bool false]) J N rfl rfl rfl rfl sizeOf4 rfl rfl rfl fun w N a J=>?_)
 replace N:=N.nf
 refine zY ?_
 apply r0
 refine wpIn_ret ?_
 replace N:=N.dl [2,0]
 rw [j5g (h6 _ H) u]
 exact ⟨rfl,Ψr_,(([.slice p8 T.cons.length c9,.slice Y T.inputs.length R,.slice Z T.funs.length c21,.slice a0 T.outputs.length S],j,_):List Value×Value×List Value),(Fz.Le.refl _),⟨y,b,k,(fun h_=>by cases h_)⟩,N⟩
 replace d:=RTrc.mono _ _ _ _ g d
 replace N:Mem Ψr_ (.blk P (ob [.bool (zK (cR T out) none items).1.isSome] 4)::.gs (e.2.1) 36 4 e.2.2::.blk bt (ob e.1 26)::.blk bo (ob [e.2.1] 27)::yA (Dk::[])++K) w:=Mem.mid (A:=[.blk Dk (.deferred (some []))]) (B:=[.blk P (ob [.bool (zK (cR T out) none items).1.isSome] 4),.gs (e.2.1) 36 4 e.2.2,.blk bt (ob e.1 26),.blk bo (ob [e.2.1] 27)]) (C:=yA []++K) N
 replace N:=N.nm
 obtain ⟨t,j,s⟩:=e
 rw [y3z] at o N
 obtain ⟨l,b,k,_⟩:=o
 replace N:=N.nf
 have t0:=j4l hr_
 refine Sto 0 fun w N a J=>?_
 refine go fun a J=>?_
 replace N:Mem Ψr_ (yA (Dk::[])++(.blk P (ob [.bool false] 4)::.gs (j) 36 4 s::.blk bt (ob t 26)::.blk bo (ob [j] 27)::K)) w:=Mem.mid (A:=[.blk P (ob [.bool false] 4),.gs (j) 36 4 s,.blk bt (ob t 26),.blk bo (ob [j] 27)]) (B:=yA (Dk::[])) (C:=K) N
 refine hQ _ _ _ (q3f (ds:=(Dk::[])) (v:=.bool false) J results36 rfl isAgg4 N fun w N=>?_)
 rw [t0] at l b k ⊢
 exact ⟨(Ψr_,t,j,s),rfl,⟨g,l,b,k⟩,N⟩
 replace d:=RTrc.mono _ _ _ _ g d
 replace N:Mem Ψr_ (.blk P (ob [.bool (zK (cR T out) none items).1.isSome] 4)::.gs (e.2.1) 36 4 e.2.2::.blk bt (ob e.1 26)::.blk bo (ob [e.2.1] 27)::yA (Dk::[])++K) w:=Mem.mid (A:=[.blk Dk (.deferred (some []))]) (B:=[.blk P (ob [.bool (zK (cR T out) none items).1.isSome] 4),.gs (e.2.1) 36 4 e.2.2,.blk bt (ob e.1 26),.blk bo (ob [e.2.1] 27)]) (C:=yA []++K) N
 replace N:=N.nm
 obtain ⟨t,j,s⟩:=e
 rw [y3z] at o N
 obtain ⟨l,b,k,_⟩:=o
 replace N:=N.nf
 replace N:Mem Ψr_ (yA (Dk::[])++(.blk P (ob [.bool (vA T out items).isSome] 4)::.gs (j) 36 4 s::.blk bt (ob t 26)::.blk bo (ob [j] 27)::K)) w:=Mem.mid (A:=[.blk P (ob [.bool (vA T out items).isSome] 4),.gs (j) 36 4 s,.blk bt (ob t 26),.blk bo (ob [j] 27)]) (B:=yA (Dk::[])) (C:=K) N
 refine hQ _ _ _ (q3f (ds:=(Dk::[])) (v:=.bool (vA T out items).isSome) J results36 rfl isAgg4 N fun w N=>?_)
 exact ⟨(Ψr_,t,j,s),rfl,⟨g,l,b,k⟩,N⟩
theorem z4q {Φ:Fz} {K:List Res} {w:World} {tc:List Value} {T:Trc} (d2:RTrc Φ tc T) (G:Glob Φ) (N:Mem Φ K w) :
  Calls prog 16 #[.agg tc.toArray] w (fun ee w'=>Out (dem (zL T)) (fun _=>∃q:Fz×List Value×Value,ee=.returned (.tuple #[.agg q.2.1.toArray,q.2.2,.int .i64 0])/\(Φ.Le q.1/\RTrc q.1 q.2.1 (xA T).1/\SliceOf RRw q.1 4 q.2.2 (xA T).2/\z0c q.2.2)/\Mem q.1 K w') (fun _=>ee=.returned (.tuple #[.agg zTrc.toArray,.slice none 0 0,.int .i64 120])/\Mem Φ K w')):=by
 have b:=d2
 obtain ⟨s1,s7,T4,U4,rfl,G3,h2,h8,q2,r2⟩:=id d2
 obtain ⟨p3,c4,rfl,N4,O4⟩:=h2.fm
 obtain ⟨p9,k2,rfl,J3,S3⟩:=h8.fm
 obtain ⟨m3,l2,rfl,K3,U3⟩:=q2.fm
 obtain ⟨n3,c22,rfl,L3,V3⟩:=r2.fm
 have Gl:=G
 refine zJ func16 ntmps16 fun Q hQ a J=>?_
 refine Bx fun r1 w N a J=>?_
 refine Alc fun I4 w N a J=>?_
 refine go fun a J=>?_
 refine st J rfl rfl rfl (tQ J rfl call25 (pZ b Gl N) (fun t3 c5 w n0 E3 N a J=>?_) (fun t3 w n0 N a J=>?_))
 replace N:=N.nf
 refine Qq (fun a J=>?_) (o:=by exact fun J O=>jG false J rfl rfl rfl)
 refine Alc fun t1 w N a J=>?_
 refine go fun a J=>?_
 replace N:=N.nilRow 36 4
 replace N:=N.nf
 have j1:=zD n0
 have GP:=kP j1
 have S:=sI j1
 refine go fun a J=>?_
 refine qD (J.ks [1,2,6,7]) N (fun R mm a w=>∃(Z:Fz) (R0:Nat) (T1:Trc) (f0:List Rw) (P0:List Value) (r0:Value) (t0:List Value),mm=501 - f0.length/\R Z [] [(0,.gs (r0) 36 4 t0),(1,.blk t1 (ob [r0] 27)),(3,.blk r1 (ob P0 26))] a w/\(Φ.Le Z/\(xA T=z6a R0 T1 f0/\502<=R0+f0.length/\GoodP T1/\SmP T1/\RTrc Z P0 T1/\Chunks (RRw Z) 4 t0 f0/\f0.length<=500))) (501 - (([]:List Rw)).length) ⟨Φ,502,T,([]:List Rw),[.slice p3 T.cons.length c4,.slice p9 T.inputs.length k2,.slice m3 T.funs.length l2,.slice n3 T.outputs.length c22],.slice none 0 0,[],rfl,⟨J.pk,N⟩,⟨Fz.Le.refl _,⟨rfl,by simp,GP,S,b,rfl,by simp⟩⟩⟩ ?_
 clear N J
 rintro mm a w ⟨Z,R0,T1,f0,P0,r0,t0,F0,⟨J,N⟩,x0⟩ F4 Z1
 replace N:=N.nf
 obtain ⟨q0,x0⟩:=x0
 replace b:=RTrc.mono _ _ _ _ q0 b
 replace Gl:=Gl.mono q0
 refine go fun a J=>?_
 obtain ⟨o0,F3,y1,E1,d,C1,D0⟩:=x0
 have f:=d
 obtain ⟨V4,W4,X4,Y4,rfl,H3,s2,t2,u2,v2⟩:=id d
 obtain ⟨o3,c50,rfl,M3,W3⟩:=s2.fm
 obtain ⟨q3,m2,rfl,N3,X3⟩:=t2.fm
 obtain ⟨r3,n2,rfl,O3,Y3⟩:=u2.fm
 obtain ⟨s3,o2,rfl,P3,Z3⟩:=v2.fm
 replace N:=N.nf
 refine go fun a J=>?_
 refine qD (J.ks [1,2,6,7,18]) N (fun R mm a w=>∃(a0:Fz) (i:Nat) (H:Trc) (C:List Rw) (w0:List Value) (s0:Value) (u0:List Value),mm=T1.funs.length - i/\R a0 [(19,.int .i64 i)] [(0,.gs (s0) 36 4 u0),(1,.blk t1 (ob [s0] 27)),(3,.blk r1 (ob w0 26))] a w/\(Z.Le a0/\(z4h T1.funs.length T1 f0=z0u T1.funs.length i H C/\H.funs.length=T1.funs.length/\f0.length<=C.length/\GoodP H/\SmP H/\RTrc a0 w0 H/\Chunks (RRw a0) 4 u0 C/\C.length<=500))) (T1.funs.length - 0) ⟨Z,0,T1,f0,[.slice o3 T1.cons.length c50,.slice q3 T1.inputs.length m2,.slice r3 T1.funs.length n2,.slice s3 T1.outputs.length o2],r0,t0,rfl,⟨J.pk,N⟩,⟨Fz.Le.refl _,⟨x1n _ _ _,rfl,Nat.le_refl _,y1,E1,f,C1,D0⟩⟩⟩ ?_
 clear N J
 rintro mm a w ⟨a0,i,H,C,w0,s0,u0,F0,⟨J,N⟩,y0⟩ G4 a2
 replace N:=N.nf
 obtain ⟨X,y0⟩:=y0
 replace b:=RTrc.mono _ _ _ _ X b
 replace Gl:=Gl.mono X
 replace d:=RTrc.mono _ _ _ _ X d
 replace f:=RTrc.mono _ _ _ _ X f
 obtain ⟨d0,z2,j3,V,k0,g,n,E0⟩:=y0
 by_cases w1:i < T1.funs.length
 refine go fun a J=>?_
 refine qD (J.ks [1,2,6,7,8,18,19]) N (fun R mm a w=>∃(h0:Fz) (c1:Nat) (T3:Trc) (I:List Rw) (Q0:List Value) (J0:Value) (L0:List Value),mm=501 - I.length/\R h0 [] [(0,.gs (J0) 36 4 L0),(1,.blk t1 (ob [J0] 27)),(3,.blk r1 (ob Q0 26))] a w/\(a0.Le h0/\(nV 501 H C i=nV c1 T3 I i/\c1+I.length=501+C.length/\T3.funs.length=H.funs.length/\C.length<=I.length/\GoodP T3/\SmP T3/\RTrc h0 Q0 T3/\Chunks (RRw h0) 4 L0 I/\I.length<=500))) (501 - C.length) ⟨a0,501,H,C,w0,s0,u0,rfl,⟨J.pk,N⟩,⟨Fz.Le.refl _,⟨rfl,rfl,rfl,Nat.le_refl _,V,k0,g,n,E0⟩⟩⟩ ?_
 clear N J
 rintro mm a w ⟨h0,c1,T3,I,Q0,J0,L0,F0,⟨J,N⟩,z0⟩ H4 b2
 replace N:=N.nf
 obtain ⟨M,z0⟩:=z0
 replace b:=RTrc.mono _ _ _ _ M b
 replace Gl:=Gl.mono M
 replace d:=RTrc.mono _ _ _ _ M d
 replace f:=RTrc.mono _ _ _ _ M f
 replace g:=RTrc.mono _ _ _ _ M g
 replace n:=n.mono fun _ _ h=>RRw.mono _ _ _ _ M h
 refine go fun a J=>?_
 obtain ⟨p0,I3,x1,k3,b0,H0,E,W,z1⟩:=z0
 obtain ⟨F_,y2⟩:=zW (show i < T3.funs.length from by omega)
 have D:=E
 obtain ⟨Z4,a5,n4,o4,rfl,A2,w2,x2,K1,L1⟩:=id E
 obtain ⟨R4,J4,rfl,Q3,a4⟩:=w2.fm
 obtain ⟨S4,K4,rfl,R3,b4⟩:=x2.fm
 obtain ⟨d4,v3,rfl,E2,S2⟩:=K1.fm
 obtain ⟨e4,w3,rfl,F2,U2⟩:=L1.fm
 replace N:=N.nf
 refine yF call26 (fun B4 w r N a J=>?_) (c:=z2b D N)
 replace b:=RTrc.mono _ _ _ _ r.1 b
 replace Gl:=Gl.mono r.1
 replace d:=RTrc.mono _ _ _ _ r.1 d
 replace f:=RTrc.mono _ _ _ _ r.1 f
 replace g:=RTrc.mono _ _ _ _ r.1 g
 replace n:=n.mono fun _ _ h=>RRw.mono _ _ _ _ r.1 h
 replace E:=RTrc.mono _ _ _ _ r.1 E
 replace W:=W.mono fun _ _ h=>RRw.mono _ _ _ _ r.1 h
 replace D:=RTrc.mono _ _ _ _ r.1 D
 have ROP115:=r.2
 replace N:=N.nf
 refine yF call37 (fun C4 w l N a J=>?_) (c:=y5c N)
 replace b:=RTrc.mono _ _ _ _ l.1 b
 replace Gl:=Gl.mono l.1
 replace d:=RTrc.mono _ _ _ _ l.1 d
 replace f:=RTrc.mono _ _ _ _ l.1 f
 replace g:=RTrc.mono _ _ _ _ l.1 g
 replace n:=n.mono fun _ _ h=>RRw.mono _ _ _ _ l.1 h
 replace E:=RTrc.mono _ _ _ _ l.1 E
 replace W:=W.mono fun _ _ h=>RRw.mono _ _ _ _ l.1 h
 replace D:=RTrc.mono _ _ _ _ l.1 D
 replace ROP115:=ROP115.mono l.1
 have S0:=l.2.1
 have U0:=l.2.2
 replace N:=N.ar [] [1,3,2]
 refine st J rfl rfl rfl (vX J rfl rfl call36 (j0l (z3h S0 U0 ROP115 b0 y2 Gl) call75 (fun r_ hr_=>by have h_:=aA hr_;omega) D b0 W z1 Gl N) (fun e2 w m N a J=>?_))
 obtain ⟨L,O0,I0,K0⟩:=e2
 simp only at m N J
 replace b:=RTrc.mono _ _ _ _ m.1 b
 replace Gl:=Gl.mono m.1
 replace d:=RTrc.mono _ _ _ _ m.1 d
 replace f:=RTrc.mono _ _ _ _ m.1 f
 replace g:=RTrc.mono _ _ _ _ m.1 g
 replace n:=n.mono fun _ _ h=>RRw.mono _ _ _ _ m.1 h
 replace E:=RTrc.mono _ _ _ _ m.1 E
 replace D:=RTrc.mono _ _ _ _ m.1 D
 have z:=m.2.1
 have y:=m.2.2.1
 have v:=m.2.2.2
 replace N:=N.nf
 refine go fun a J=>?_
 generalize A0:(vA T3 I (qN T3 i)).isSome=u1 at J
 cases u1
 refine go fun a J=>?_
 have l0:(vA T3 I (qN T3 i))=none:=by have h_:=A0;revert h_;cases (vA T3 I (qN T3 i)) <;> simp
 rw [l0] at z y v
 replace z:RTrc L _ T3:=z
 replace y:Chunks (RRw L) 4 _ I:=y
 replace v:I.length<=500:=v
 replace N:=N.ar [] [1,3,3,3]
 refine a2 _ _ _ (by subst F0;omega) ⟨(L),(i+1),(T3),(I),(O0),(I0),(K0),rfl,⟨J.pk,N⟩,?_⟩
 refine ⟨((((X).trans M).trans r.1).trans l.1).trans m.1,?_⟩
 exact ⟨q7h d0 w1 (loop_no p0 (by omega) l0),by omega,by omega,b0,H0,z,y,v⟩
 refine go fun a J=>?_
 obtain ⟨⟨d1,M0⟩,P⟩:=Option.isSome_iff_exists.1 A0
 rw [P] at z y v
 replace z:RTrc L _ d1:=z
 replace y:Chunks (RRw L) 4 _ M0:=y
 replace v:M0.length<=500:=v
 obtain ⟨Y0,a1,i2⟩:=z3z (fun r_ hr_=>by have h_:=aA hr_;omega) P b0 H0
 replace N:=N.ar [] [1,3,3,3]
 refine b2 _ _ _ (by subst F0;omega) ⟨(L),(c1 - 1),(d1),(M0),(O0),(I0),(K0),rfl,⟨J.pk,N⟩,?_⟩
 refine ⟨(((M).trans r.1).trans l.1).trans m.1,?_⟩
 exact ⟨x0i p0 (by omega) P,by omega,(x0n P).trans x1,by omega,Y0,a1,z,y,v⟩
 refine go fun a J=>?_
 have k:=g
 obtain ⟨p4,q4,r4,s4,rfl,B2,M1,N1,O1,P1⟩:=id g
 obtain ⟨f4,x3,rfl,G2,V2⟩:=M1.fm
 obtain ⟨g4,y3,rfl,H2,W2⟩:=N1.fm
 obtain ⟨h4,z3,rfl,I2,X2⟩:=O1.fm
 obtain ⟨i4,A3,rfl,J2,Y2⟩:=P1.fm
 replace N:=N.nf
 refine yF call26 (fun D4 w A N a J=>?_) (c:=z2b k N)
 replace b:=RTrc.mono _ _ _ _ A.1 b
 replace Gl:=Gl.mono A.1
 replace d:=RTrc.mono _ _ _ _ A.1 d
 replace f:=RTrc.mono _ _ _ _ A.1 f
 replace g:=RTrc.mono _ _ _ _ A.1 g
 replace n:=n.mono fun _ _ h=>RRw.mono _ _ _ _ A.1 h
 replace k:=RTrc.mono _ _ _ _ A.1 k
 have ROP168:=A.2
 replace N:=N.nf
 refine yF call27 (fun E4 w s N a J=>?_) (c:=q3w N)
 replace b:=RTrc.mono _ _ _ _ s.1 b
 replace Gl:=Gl.mono s.1
 replace d:=RTrc.mono _ _ _ _ s.1 d
 replace f:=RTrc.mono _ _ _ _ s.1 f
 replace g:=RTrc.mono _ _ _ _ s.1 g
 replace n:=n.mono fun _ _ h=>RRw.mono _ _ _ _ s.1 h
 replace k:=RTrc.mono _ _ _ _ s.1 k
 replace ROP168:=ROP168.mono s.1
 have V0:=s.2
 replace N:=N.ar [] [1,3,2]
 refine st J rfl rfl rfl (vX J rfl rfl call36 (j0l (z5n V0 ROP168 V Gl) call48 (fun r_ hr_=>oL hr_) k V n E0 Gl N) (fun f2 w t N a J=>?_))
 obtain ⟨Y,H1,F1,G1⟩:=f2
 simp only at t N J
 replace b:=RTrc.mono _ _ _ _ t.1 b
 replace d:=RTrc.mono _ _ _ _ t.1 d
 replace f:=RTrc.mono _ _ _ _ t.1 f
 replace g:=RTrc.mono _ _ _ _ t.1 g
 replace k:=RTrc.mono _ _ _ _ t.1 k
 have j:=t.2.1
 have p:=t.2.2.1
 have B:=t.2.2.2
 replace N:=N.nf
 refine go fun a J=>?_
 generalize B0:(!(vA H C (qS H)).isSome)=v1 at J
 cases v1
 refine go fun a J=>?_
 obtain ⟨⟨e1,N0⟩,c0⟩:=Option.isSome_iff_exists.1 (by have h_:=B0;simpa using h_)
 rw [c0] at j p B
 replace j:RTrc Y _ e1:=j
 replace p:Chunks (RRw Y) 4 _ N0:=p
 replace B:N0.length<=500:=B
 obtain ⟨Z0,b1,j2⟩:=z3z (fun r_ hr_=>oL hr_) c0 V k0
 replace N:=N.ar [] [1,3,3,3]
 refine Z1 _ _ _ (by subst F0;omega) ⟨(Y),(R0 - 1),(e1),(N0),(H1),(F1),(G1),rfl,⟨J.pk,N⟩,?_⟩
 refine ⟨((((q0).trans X).trans A.1).trans s.1).trans t.1,?_⟩
 exact ⟨x0q o0 (by omega) (y4j d0 w1) c0,by omega,Z0,b1,j,p,B⟩
 refine go fun a J=>?_
 have m0:(vA H C (qS H))=none:=by have h_:=(show (vA H C (qS H)).isSome=false from by have h_:=B0;simpa using h_);revert h_;cases (vA H C (qS H)) <;> simp
 rw [m0] at j p B
 replace j:RTrc Y _ H:=j
 replace p:Chunks (RRw Y) 4 _ C:=p
 replace B:C.length<=500:=B
 have B1:xA T=(H,C):=opt_end o0 (by omega) (y4j d0 w1) m0
 have k1:=N
 clear N
 obtain ⟨I1,F,N,G0,C0⟩:=k1.freezeRowC (i:=0) rfl
 clear k1
 replace b:=RTrc.mono _ _ _ _ F b
 replace d:=RTrc.mono _ _ _ _ F d
 replace f:=RTrc.mono _ _ _ _ F f
 replace g:=RTrc.mono _ _ _ _ F g
 replace k:=RTrc.mono _ _ _ _ F k
 replace j:=RTrc.mono _ _ _ _ F j
 replace p:=p.mono fun _ _ h=>RRw.mono _ _ _ _ F h
 replace N:=N.nf
 have U:SliceOf RRw I1 4 _ (C):=⟨_,G0,p⟩
 obtain ⟨c2,J1,l3,g2,Z2⟩:=U.form (by decide)
 have l1:=N
 clear N
 subst l3
 have N:=l1
 clear l1
 have e0:=j
 obtain ⟨t4,u4,v4,w4,rfl,C2,Q1,R1,S1,U1⟩:=id j
 obtain ⟨j4,B3,rfl,K2,a3⟩:=Q1.fm
 obtain ⟨k4,c210,rfl,L2,b3⟩:=R1.fm
 obtain ⟨l4,C3,rfl,M2,d3⟩:=S1.fm
 obtain ⟨m4,D3,rfl,N2,e3⟩:=U1.fm
 replace N:=N.nf
 refine yN [2,0,2,0,1,1] (.q 0 (.q 2 (.e 1 (.e 3 (.q 4 (.q 5 (.done))))))) [0,1] J N fun w N=>?_
 refine yF call34 (fun q1 w u N a J=>?_) (c:=z8d e0 V k0 N)
 replace b:=RTrc.mono _ _ _ _ u.1 b
 replace d:=RTrc.mono _ _ _ _ u.1 d
 replace f:=RTrc.mono _ _ _ _ u.1 f
 replace g:=RTrc.mono _ _ _ _ u.1 g
 replace k:=RTrc.mono _ _ _ _ u.1 k
 replace j:=RTrc.mono _ _ _ _ u.1 j
 replace U:=U.mono RRw.mono u.1
 replace e0:=RTrc.mono _ _ _ _ u.1 e0
 have j0:=u.2
 obtain ⟨p2,X0⟩:∃x_,x_=q1.2:=⟨_,rfl⟩
 rw [<- X0] at j0 J
 have D1:=j0
 obtain ⟨x4,y4,z4,A4,rfl,D2,V1,W1,X1,Y1⟩:=id j0
 obtain ⟨m1,f1,rfl,O2,f3⟩:=V1.fm
 obtain ⟨n1,g1,rfl,P2,g3⟩:=W1.fm
 obtain ⟨o1,h1,rfl,Q2,h3⟩:=X1.fm
 obtain ⟨p1,i1,rfl,R2,i3⟩:=Y1.fm
 replace N:=N.nf
 have D0:=(Fz.Le.refl _).trans u.1
 refine Sto 2 fun w N a J=>?_
 refine go fun a J=>?_
 have A1:=N
 replace N:=N.dl [2,1,0]
 refine hQ _ _ _ (q7f (i:=2) (cs:=[.slice m1 H.cons.length f1,.slice n1 H.inputs.length g1,.slice o1 H.funs.length h1,.slice p1 H.outputs.length i1]) J A1.toSees results16 rfl rfl isAgg26 sizeOf26 rfl rfl rfl ?_)
 rw [n0,B1];exact ⟨(q1.1,[.slice m1 H.cons.length f1,.slice n1 H.inputs.length g1,.slice o1 H.funs.length h1,.slice p1 H.outputs.length i1],.slice c2 (C).length J1),rfl,⟨((((((q0).trans X).trans A.1).trans s.1).trans t.1).trans F).trans u.1,D1,U,C0⟩,N⟩
 replace N:=N.nf
 refine Qq (fun a J=>?_) (o:=by exact fun J O=>jG true J rfl rfl rfl)
 refine yE fun a J=>?_
 refine Sto 0 fun w N a J=>?_
 refine go fun a J=>?_
 have A1:=N
 replace N:=N.dl [1,0]
 refine hQ _ _ _ (q7f (i:=0) (cs:=[.slice none 0 0,.slice none 0 0,.slice none 0 0,.slice none 0 0]) J A1.toSees results16 rfl rfl isAgg26 sizeOf26 rfl rfl rfl ?_)
 rw [n0];exact ⟨rfl,N⟩
section
variable {Φ:Fz} {K:List Res} {w:World}
theorem x2l (N:Mem Φ K w) :
  Calls prog 32 #[] w (fun ee w'=>ee=.returned (.string text0)/\Mem Φ K w'):=by
 refine zJ func32 ntmps32 fun Q hQ a J=>?_
 refine yK ?_
 exact ⟨rfl,N⟩
theorem y1d {tc:List Value} {T:Trc} (d:zL T=true) (a:RTrc Φ tc T) (G:Glob Φ) (N:Mem Φ K w) :
  Calls prog 14 #[.agg tc.toArray] w (fun ee w'=>ee=.returned (.tuple #[.int .i64 ((vJ T:Nat):Int),.int .i64 ((0:Nat):Int)])/\Mem Φ K w'):=by
 have h:=j1l a G N
 rw [show dem (zL T)=.ok () from by rw [d];rfl] at h
 exact h.mono fun ee w' ⟨_,b,_,c⟩=>⟨b,c⟩
theorem oY {tc:List Value} {T:Trc} (b:zL T=true) (a:RTrc Φ tc T) (G:Glob Φ) (N:Mem Φ K w) :
  Calls prog 9 #[.agg tc.toArray] w (fun ee w'=>∃q:Fz×Value,ee=.returned (.tuple #[q.2,.int .i64 ((0:Nat):Int)])/\(Φ.Le q.1/\SliceOf RRw q.1 4 q.2 (qH T)/\z0c q.2)/\Mem q.1 K w'):=by
 have h:=uG a G N
 rw [show dem (zL T)=.ok () from by rw [b];rfl] at h
 exact h
theorem tM {tc rc:List Value} {T U:Trc} {r:Rw} (b:pD T r=.ok U) (rx:RRw Φ rc r) (a:RTrc Φ tc T) (G:Glob Φ) (N:Mem Φ K w) :
  Calls prog 13 #[.agg tc.toArray,.agg rc.toArray] w (fun ee w'=>∃q:Fz×List Value,ee=.returned (.tuple #[.agg q.2.toArray,.int .i64 ((0:Nat):Int)])/\(Φ.Le q.1/\RTrc q.1 q.2 U)/\Mem q.1 K w'):=by
 obtain ⟨ru,fn,path,nu⟩:=r
 have h:=z6z a rx G N
 rw [b] at h
 exact h
theorem z3l {tc rc:List Value} {T:Trc} {r:Rw} {c:Int} (b:pD T r=.error c) (rx:RRw Φ rc r) (a:RTrc Φ tc T) (G:Glob Φ) (N:Mem Φ K w) :
  Calls prog 13 #[.agg tc.toArray,.agg rc.toArray] w (fun ee w'=>ee=.returned (.tuple #[.agg zTrc.toArray,.int .i64 c])/\Mem Φ K w'):=by
 obtain ⟨ru,fn,path,nu⟩:=r
 have h:=z6z a rx G N
 rw [b] at h
 exact h
theorem atS_ok {tc:List Value} {T:Trc} {fn:Int} {vp:Value} {path:List Int} {x:TE} (c:atC T fn path=.ok x) (a:RTrc Φ tc T) (b:SliceOf RInt Φ 1 vp path) (G:Glob Φ) (N:Mem Φ K w) :
  Calls prog 19 #[.agg tc.toArray,.int .i64 fn,vp] w (fun ee w'=>∃q:Fz×List Value,ee=.returned (.tuple #[.agg q.2.toArray,.int .i64 ((0:Nat):Int)])/\(Φ.Le q.1/\RTE q.1 q.2 x)/\Mem q.1 K w'):=by
 have h:=At_ok (fn:=fn) a b G N
 rw [c] at h
 exact h
theorem z2j {tc:List Value} {T:Trc} (b:zL T=true) (a:RTrc Φ tc T) (G:Glob Φ) (N:Mem Φ K w) :
  Calls prog 16 #[.agg tc.toArray] w (fun ee w'=>∃q:Fz×List Value×Value,ee=.returned (.tuple #[.agg q.2.1.toArray,q.2.2,.int .i64 ((0:Nat):Int)])/\(Φ.Le q.1/\RTrc q.1 q.2.1 (xA T).1/\SliceOf RRw q.1 4 q.2.2 (xA T).2/\z0c q.2.2)/\Mem q.1 K w'):=by
 have h:=z4q a G N
 rw [show dem (zL T)=.ok () from by rw [b];rfl] at h
 exact h
theorem q7s:(qH T0).length=4:=by
 have h:=y9h
 unfold okL at h
 split at h
 rename_i hl;rw [hl];rfl
 cases h
theorem q3u {x:Rw} (a:(qH T0)[0]? = some x):x.rule=1:=by
 have h:=y9h
 unfold okL at h
 split at h
 rename_i hl;rw [hl] at a;cases a;exact of_decide_eq_true h
 cases h
theorem apply0:∃U x a,pD T0 ⟨1,1,[],0⟩=.ok U/\atC U 1 []=.ok x/\x.kind=2/\x.args=[a]/\a.num=5:=by
 have h:=j5t
 unfold okA at h
 split at h
 rename_i U c
 split at h
 rename_i x e
 rw [baQ] at h
 have b:=h.2
 split at b
 rename_i a d;exact ⟨U,x,a,c,e,of_decide_eq_true h.1,d,of_decide_eq_true b⟩
 cases b
 cases h
 cases h
theorem bad0:pD T0 ⟨2,1,[],0⟩=.error 150:=by
 have h:=T0_bad
 unfold okE at h
 split at h
 cases h
 rename_i c a;rw [a,of_decide_eq_true h]
theorem opt0:4<=(xA T0).2.length/\zL (xA T0).1=true/\vJ (xA T0).1=1:=by
 have h:=T0_opt
 unfold okO at h
 simp only [baQ,decide_eq_true_eq] at h
 exact ⟨h.1.1,h.1.2,h.2⟩
theorem ex0:∃T:Trc,mL toks0 text0.size 100=some T/\zL T=true/\vJ T=9/\(qH T).length=4/\(∀y:Rw,(qH T)[0]? = some y->y.rule=1)/\(∃U x a,pD T ⟨1,1,[],0⟩=.ok U/\atC U 1 []=.ok x/\x.kind=2/\x.args=[a]/\a.num=5)/\pD T ⟨2,1,[],0⟩=.error 150/\4<=(xA T).2.length/\zL (xA T).1=true/\vJ (xA T).1=1 :=
 ⟨T0,T0_some,j5u,j1k,q7s,fun _ h=>q3u h,apply0,bad0,opt0⟩
theorem rw_lit1 {Φ:Fz}:RRw Φ [.int .i64 ((1:Nat):Int),.int .i64 ((1:Nat):Int),.slice none 0 0,.int .i64 ((0:Nat):Int)] ⟨1,1,[],0⟩:=⟨_,rfl,Nat.le_refl 0,(by show I64 1;unfold I64;omega),(by show I64 1;unfold I64;omega),(by show I64 0;unfold I64;omega),SliceOf.nil 1⟩
theorem rw_lit2 {Φ:Fz}:RRw Φ [.int .i64 ((2:Nat):Int),.int .i64 ((1:Nat):Int),.slice none 0 0,.int .i64 ((0:Nat):Int)] ⟨2,1,[],0⟩:=⟨_,rfl,Nat.le_refl 0,(by show I64 2;unfold I64;omega),(by show I64 1;unfold I64;omega),(by show I64 0;unfold I64;omega),SliceOf.nil 1⟩
theorem q8a:text0.size<=400000:=by decide +kernel
theorem z6w (G:Glob Φ) (N:Mem Φ K w) :
  Calls prog 11 #[] w (fun ee w'=>ee=.returned (.bool true)/\Mem Φ K w'):=by
 have Gl:=G
 obtain ⟨T_,V,m,h2,t1,L,⟨U_,x_,a_,W,A0,g2,D,z0⟩,v,r1,H,s1⟩:=ex0
 have R:x_.args.length=1:=by rw [D];rfl
 refine zJ func11 ntmps11 fun Q hQ a J=>?_
 refine zF call32 (fun w N a J=>?_) (c:=x2l N)
 refine yF call31 (fun y3 w l N a J=>?_) (c:=j5r q8a x2p T0_toks V (by decide) m Gl N)
 obtain ⟨v2,c6⟩:=y3
 simp only at l N J
 replace Gl:=Gl.mono l.1
 have I:=l.2
 have d:=I
 obtain ⟨i2,N1,j2,O1,k2,c24,l2,P1,rfl,V0,W1,X1,Y1,Z1,Y0,i1,Z0,j1,a1,k1,b1,l1⟩:=RTrc.fm I
 replace N:=N.nf
 refine Alc fun L1 w N a J=>?_
 refine Sto 0 fun w N a J=>?_
 refine zF call14 (fun w N a J=>?_) (c:=y1d m d Gl N)
 refine yF call9 (fun B0 w i N a J=>?_) (c:=oY m d Gl N)
 obtain ⟨H1,t2⟩:=B0
 simp only at i N J
 replace Gl:=Gl.mono i.1
 replace d:=RTrc.mono _ _ _ _ i.1 d
 have e:=i.2.1
 obtain ⟨m2,c43,rfl,p0,E⟩:=e.fm
 replace N:=N.nf
 refine yE fun a J=>?_
 refine yF call13 (fun C0 w h N a J=>?_) (c:=tM W rw_lit1 d Gl N)
 obtain ⟨I1,c50⟩:=C0
 simp only at h N J
 replace Gl:=Gl.mono h.1
 replace d:=RTrc.mono _ _ _ _ h.1 d
 replace e:=e.mono RRw.mono h.1
 have q:=h.2
 have g:=q
 obtain ⟨n2,Q1,o2,R1,p2,S1,q2,T1,rfl,X0,a2,b2,c2,d2,c1,m1,d1,n1,e1,o1,f1,p1⟩:=RTrc.fm q
 replace N:=N.nf
 refine Alc fun M1 w N a J=>?_
 refine Sto 0 fun w N a J=>?_
 refine yF call19 (fun D0 w f N a J=>?_) (c:=atS_ok A0 g (SliceOf.nil 1) Gl N)
 obtain ⟨J1,c83⟩:=D0
 simp only at f N J
 replace Gl:=Gl.mono f.1
 replace d:=RTrc.mono _ _ _ _ f.1 d
 replace e:=e.mono RRw.mono f.1
 replace g:=RTrc.mono _ _ _ _ f.1 g
 have r:=f.2
 have k:=r
 obtain ⟨r2,U1,s2,V1,u1,I0,rfl,Z,a0,s,e2,f2,g1,F,h1,q1,j0,q0⟩:=RTE.fm r
 replace N:=N.nf
 refine Alc fun F0 w N a J=>?_
 refine Sto 0 fun w N a J=>?_
 refine yE fun a J=>?_
 refine zF call13 (fun w N a J=>?_) (c:=z3l v rw_lit2 d Gl N)
 refine Alc fun G0 w N a J=>?_
 refine Sto 0 fun w N a J=>?_
 refine yF call16 (fun P w b N a J=>?_) (c:=z2j m d Gl N)
 obtain ⟨E0,J0,E1⟩:=P
 simp only at b N J
 replace Gl:=Gl.mono b.1
 replace d:=RTrc.mono _ _ _ _ b.1 d
 replace e:=e.mono RRw.mono b.1
 replace g:=RTrc.mono _ _ _ _ b.1 g
 replace k:=RTE.mono _ _ _ _ b.1 k
 replace s:=s.mono RAtom.mono b.1
 have j:=b.2.1
 have n:=j
 obtain ⟨v1,K0,w1,L0,x1,M0,y1,N0,rfl,b0,Q0,R0,S0,U0,k0,r0,l0,s0,m0,t0,n0,u0⟩:=RTrc.fm j
 replace N:=N.nf
 have p:=b.2.2.1
 obtain ⟨z1,O0,rfl,S,w0⟩:=p.fm
 replace N:=N.nf
 refine Alc fun H0 w N a J=>?_
 refine Sto 0 fun w N a J=>?_
 refine zF call14 (fun w N a J=>?_) (c:=y1d H n Gl N)
 refine Qq (fun a J=>?_) (o:=by exact fun J O=>xY true J rfl rfl rfl)
 refine Qq (fun a J=>?_) (o:=by exact fun J O=>xY true J rfl rfl rfl)
 refine Qq (fun a J=>?_) (o:=by exact fun J O=>xY true J rfl rfl rfl)
 refine Qq (fun a J=>?_) (o:=by exact fun J O=>xY true J rfl rfl rfl)
 refine Qq (fun a J=>?_) (o:=by exact fun J O=>xY true J rfl rfl rfl)
 refine Qq (fun a J=>?_) (o:=by exact fun J O=>xY true J rfl rfl rfl)
 refine Qq (fun a J=>?_) (o:=by exact fun J O=>xY true J rfl rfl rfl)
 refine Qq (fun a J=>?_) (o:=by exact fun J O=>xY true J rfl rfl rfl)
 refine go fun a J=>?_
 have t:0 < (qH T_).length:=by omega
 obtain ⟨B1,rfl,F1,A,T,h0,X,y⟩:=e.el E t
 obtain ⟨D1,rfl,c0,d0,e0,f0,C⟩:=id y
 obtain ⟨A1,P0,rfl,o0,x0⟩:=C.fm
 refine Qq (fun a J=>?_) (o:=by exact fun J O=>xY true J rfl rfl (decide_eq_true (L _ A)))
 refine go fun a J=>?_
 have u:0 < x_.args.length:=by omega
 obtain ⟨C1,rfl,M,B,U,i0,Y,z⟩:=s.el F u
 obtain ⟨rfl,g0⟩:=id z
 have y0:M.num=5:=by have h_:=B;rw [D] at h_;cases h_;exact z0
 refine go fun a J=>?_
 refine yK ?_
 replace N:=N.le (((((l.1).trans i.1).trans h.1).trans f.1).trans b.1)
 replace N:=N.dl [4,3,2,1,0]
 exact ⟨rfl,N⟩
end
def Fz.whole (W:World):Fz:=⟨fun b=>W.heap[b]?,W.os,W.output⟩
theorem Mem.whole (W:World):Mem (Fz.whole W) [] W :=
 { fz:=fun _ _ h=>h,own:=fun _ h=>(by cases h),os:=rfl,out:=rfl,nodup:=List.nodup_nil,apart:=fun _ h=>(by cases h) }
theorem z7z {W:World} {a:Addr} {v:Value} (h:W.cell? a=some v):a.spot=none/\∃arr T fr,W.heap[a.block]? = some (.cells arr T fr)/\arr[a.off]? = some v:=by
 unfold World.cell? at h
 split at h
 ·rename_i c T fr J
  split at h
  ·cases h
  ·rename_i O
   refine ⟨?_,c,T,fr,J,h⟩
   cases hq:a.spot with
   | none=>rfl
   | some x=>simp [hq] at O
 ·cases h
theorem y9t {W:World} {a:Addr} {cells:List Value} (b:cells≠[]) (h:∀(j:Nat) (v:Value),cells[j]? = some v->W.cell? (a.add j)=some v):At (Fz.whole W) a cells:=by
 obtain ⟨v0,r,rfl⟩:=List.exists_cons_of_ne_nil b
 obtain ⟨O,arr,T,fr,hb,d⟩:=z7z (h 0 v0 rfl)
 rw [show a.add 0=a from rfl] at O hb d
 refine ⟨O,arr,T,fr,hb,fun j v e=>?_⟩
 obtain ⟨_,arr',T',fr',hb',c⟩:=z7z (h j v e)
 have eb:(a.add j).block=a.block:=by unfold Addr.add;split <;> rfl
 have eo:(a.add j).off=a.off+j:=by unfold Addr.add;split <;> simp_all
 rw [eb,hb] at hb'
 simp only [Option.some.injEq,Obj.cells.injEq] at hb'
 rw [eo,<- hb'.1] at c
 exact c
section
variable {H:Type} {enc:TypeId×Value->H} {W:World}
noncomputable abbrev trd (enc:TypeId×Value->H) (W:World) (n:Nat) (t:TypeId) (cs:List Value):=DataW.trod enc prog W 0 (fun _=>true) true n t cs
theorem kV {α:Type} {R:Fz->List Value->α->Prop} {t e:TypeId} {k fuel:Nat} {cs:List Value} {x:DataW H×List MemPlace} (z:prog.underlying t=some (.slice e)) (w:prog.cellsOf e=k) (C:0 < k)
  (IH:∀m,m < fuel->∀cs x,trd enc W m e cs=some x->∃a:α,R (Fz.whole W) cs a) (h:trd enc W fuel t cs=some x):∃v l,cs=[v]/\SliceOf R (Fz.whole W) k v l:=by
 rcases DataW.trod_slice z h with ⟨rfl,_⟩ | ⟨a,len,cap,elems,rest,n,rfl,rfl,_,_,hl,N,s,d,_⟩
 ·exact ⟨_,[],rfl,SliceOf.nil k⟩
 ·rw [w] at d
  have key:∀m,m<=len->∃(cells:List Value) (l:List α),cells.length=m * k/\Chunks (R (Fz.whole W)) k cells l/\∀(j:Nat) (v:Value),cells[j]? = some v->W.cell? (a.add j)=some v:=by
   intro m
   induction m with
   | zero=>exact fun _=>⟨[],[],by simp,rfl,fun j v c=>by simp at c⟩
   | succ m B=>
    intro hm'
    obtain ⟨cells,l,o,p,q⟩:=B (by omega)
    have J:=d m (by omega)
    rw [List.getElem?_eq_getElem (by omega)] at J
    obtain ⟨cs',u,e2⟩:=Option.bind_eq_some_iff.1 J
    obtain ⟨_,g,b⟩:=World.cells?_some u
    obtain ⟨y,A⟩:=IH n (Nat.lt_succ_self n) cs' _ e2
    refine ⟨cells++cs',l++[y],by rw [laQ,o,g,Nat.succ_mul],p.snoc g A,fun j v c=>?_⟩
    by_cases i:j < cells.length
    ·rw [List.getElem?_append_left i] at c
     exact q j v c
    ·rw [List.getElem?_append_right (by omega)] at c
     have f:j - cells.length < k:=by
      have:=(List.getElem?_eq_some_iff.1 c).1
      omega
     have:=b (j - cells.length) f
     rw [Deep.add_add,c] at this
     rw [o] at this i f
     rw [show m * k+(j - m * k)=j by omega] at this
     exact this
  obtain ⟨cells,l,o,p,q⟩:=key len (Nat.le_refl _)
  exact ⟨_,l,rfl,cells,.inr ⟨a,len,cap,rfl,o,by omega,fun r=>y9t r q⟩,p⟩
theorem qF {α:Type} {l:List α} {n:Nat} (h:l.length=n+1):∃a r,l=a::r/\r.length=n:=by
 cases l with
 | nil=>cases h
 | cons a r=>exact ⟨a,r,rfl,by simpa using h⟩
theorem i64_of {n:Int} (h:(Lit.int .i64 n).wf=true):I64 n:=by
 simp only [Lit.wf,baQ,decide_eq_true_eq] at h
 have a:=h.1
 have b:=h.2
 simp [IntKind.min,IntKind.max,IntKind.signed,IntKind.bits] at a b
 exact ⟨by omega,by omega⟩
theorem mP {n:Nat} {cs:List Value} {x:DataW H×List MemPlace} (h:trd enc W n 9 cs=some x):∃s:Bs,cs=[.string s]:=by
 obtain ⟨s,a,_⟩:=DataW.trod_string underlying9 h
 exact ⟨s,a⟩
theorem j5h {n:Nat} {cs:List Value} {x:DataW H×List MemPlace} (h:trd enc W n 9 cs=some x):∃s:Bs,RStr (Fz.whole W) cs s:=mP h
theorem nT {n:Nat} {cs:List Value} {x:DataW H×List MemPlace} (h:trd enc W n 3 cs=some x):∃i:Int,cs=[.int .i64 i]/\I64 i:=by
 obtain ⟨i,a,_,b⟩:=DataW.trod_int underlying3 h
 exact ⟨i,a,i64_of b⟩
theorem nP {t:TypeId} {fs:Array Field} {n:Nat} {cs:List Value} {x:DataW H×List MemPlace} (k:prog.underlying t=some (.struct fs)) (h:trd enc W n t cs=some x) :
  ∃m,n=m+1/\cs.length=prog.cellsOf t/\∀(i:Nat) (u:TypeId) (o:Nat),(fs[i]?).map (fun f=>(f.type,f.offset))=some (u,o)->∃y,trd enc W m u ((cs.drop o).take (prog.cellsOf u))=some y:=by
 obtain ⟨xs,m,b,_,c,d,g⟩:=DataW.trod_struct k h
 refine ⟨m,b,c,fun i u o j=>?_⟩
 obtain ⟨f,a,e⟩:=Option.map_eq_some_iff.1 j
 simp only [Prod.mk.injEq] at e
 obtain ⟨rfl,rfl⟩:=e
 have hi:i < xs.length:=by
  rw [d]
  exact (Array.getElem?_eq_some_iff.1 a).1
 exact ⟨xs[i],by rw [<- List.getElem?_eq_getElem hi];exact g i f a⟩
theorem c9:prog.cellsOf 9=1:=by kernel_rfl
theorem c3:prog.cellsOf 3=1:=by kernel_rfl
theorem c4:prog.cellsOf 4=1:=by kernel_rfl
theorem c26:prog.cellsOf 26=4:=by kernel_rfl
theorem c36:prog.cellsOf 36=4:=by kernel_rfl
theorem c48:prog.cellsOf 48=8:=by kernel_rfl
theorem c50:prog.cellsOf 50=11:=by kernel_rfl
theorem c75:prog.cellsOf 75=2:=by kernel_rfl
theorem c79:prog.cellsOf 79=10:=by kernel_rfl
theorem c85:prog.cellsOf 85=3:=by kernel_rfl
theorem c125:prog.cellsOf 125=2:=by kernel_rfl
theorem c22:prog.cellsOf 22=1:=by kernel_rfl
theorem c23:prog.cellsOf 23=1:=by kernel_rfl
theorem c24:prog.cellsOf 24=1:=by kernel_rfl
theorem c34:prog.cellsOf 34=1:=by kernel_rfl
theorem c43:prog.cellsOf 43=1:=by kernel_rfl
theorem c44:prog.cellsOf 44=1:=by kernel_rfl
theorem c45:prog.cellsOf 45=1:=by kernel_rfl
theorem c46:prog.cellsOf 46=1:=by kernel_rfl
theorem c83:prog.cellsOf 83=1:=by kernel_rfl
theorem y4t {t e:TypeId} {fuel:Nat} {v:Value} {x:DataW H×List MemPlace} (d:prog.underlying t=some (.slice e)) (h:trd enc W fuel t [v]=some x):z0c v:=by
 rcases DataW.trod_slice d h with ⟨b,_⟩ | ⟨a,len,cap,elems,rest,m,_,b,_,_,c,_⟩
 ·simp only [List.cons.injEq,and_true] at b;subst b;exact Nat.le_refl 0
 ·simp only [List.cons.injEq,and_true] at b;subst b;exact c
theorem z3n {n:Nat} {cs:List Value} {x:DataW H×List MemPlace} (h:trd enc W n 4 cs=some x):∃b:Bool,cs=[.bool b]:=by
 obtain ⟨b,a,_⟩:=DataW.trod_bool underlying4 h
 exact ⟨b,a⟩
theorem z4l {n:Nat} {cs:List Value} {x:DataW H×List MemPlace} (h:trd enc W n 23 cs=some x):∃v l,cs=[v]/\SliceOf RStr (Fz.whole W) 1 v l :=
 kV underlying23 c9 (by decide) (fun _ _ _ _ h=>j5h h) h
theorem j2b {n:Nat} {cs:List Value} {x:DataW H×List MemPlace} (h:trd enc W n 75 cs=some x):∃a:Atom,RAtom (Fz.whole W) cs a:=by
 obtain ⟨m,rfl,hl,j⟩:=nP underlying75 h
 rw [c75] at hl
 obtain ⟨a0,r,rfl,b⟩:=qF hl
 obtain ⟨l,r,rfl,c⟩:=qF b
 obtain rfl:=List.eq_nil_of_length_eq_zero c
 obtain ⟨_,f⟩:=j 0 9 0 rfl
 obtain ⟨_,g⟩:=j 1 3 1 rfl
 simp only [c9,c3,List.drop_succ_cons,List.drop_zero,List.take_succ_cons,List.take_zero] at f g
 obtain ⟨s,d⟩:=mP f
 obtain ⟨i,e,k⟩:=nT g
 simp only [List.cons.injEq,and_true] at d e
 subst d e
 exact ⟨⟨s,i⟩,rfl,k⟩
theorem x0u {n:Nat} {cs:List Value} {x:DataW H×List MemPlace} (h:trd enc W n 125 cs=some x):∃a:TPar,RTPar (Fz.whole W) cs a:=by
 obtain ⟨m,rfl,hl,j⟩:=nP underlying125 h
 rw [c125] at hl
 obtain ⟨a0,r,rfl,b⟩:=qF hl
 obtain ⟨k,r,rfl,c⟩:=qF b
 obtain rfl:=List.eq_nil_of_length_eq_zero c
 obtain ⟨_,f⟩:=j 0 9 0 rfl
 obtain ⟨_,g⟩:=j 1 4 1 rfl
 simp only [c9,c4,List.drop_succ_cons,List.drop_zero,List.take_succ_cons,List.take_zero] at f g
 obtain ⟨s,d⟩:=mP f
 obtain ⟨i,e⟩:=z3n g
 simp only [List.cons.injEq,and_true] at d e
 subst d e
 exact ⟨⟨s,i⟩,rfl⟩
theorem j7c {n:Nat} {cs:List Value} {x:DataW H×List MemPlace} (h:trd enc W n 85 cs=some x):∃a:TCon,RTCon (Fz.whole W) cs a:=by
 obtain ⟨m,rfl,hl,b⟩:=nP underlying85 h
 rw [c85] at hl
 obtain ⟨a0,r,rfl,c⟩:=qF hl
 obtain ⟨q,r,rfl,d⟩:=qF c
 obtain ⟨a2,r,rfl,e⟩:=qF d
 obtain rfl:=List.eq_nil_of_length_eq_zero e
 obtain ⟨_,i⟩:=b 0 9 0 rfl
 obtain ⟨_,k⟩:=b 1 9 1 rfl
 obtain ⟨_,o⟩:=b 2 83 2 rfl
 simp only [c9,c83,List.drop_succ_cons,List.drop_zero,List.take_succ_cons,List.take_zero] at i k o
 obtain ⟨s,f⟩:=mP i
 obtain ⟨t,g⟩:=mP k
 obtain ⟨v,l,e2,p⟩:=kV (R:=RBoo) underlying83 c4 (by decide) (fun j u cs x h=>z3n h) o
 simp only [List.cons.injEq,and_true] at f g e2
 subst f g e2
 exact ⟨⟨s,t,l⟩,_,rfl,p⟩
theorem te_read:∀(n:Nat) (cs:List Value) (x:DataW H×List MemPlace),trd enc W n 48 cs=some x->∃e:TE,RTE (Fz.whole W) cs e:=by
 intro n
 induction n using Nat.strongRecOn with
 | ind n I=>
  intro cs x h
  obtain ⟨m,rfl,hl,a⟩:=nP underlying48 h
  rw [c48] at hl
  obtain ⟨a0,r,rfl,l⟩:=qF hl
  obtain ⟨Y,r,rfl,o⟩:=qF l
  obtain ⟨a2,r,rfl,p⟩:=qF o
  obtain ⟨a3,r,rfl,q⟩:=qF p
  obtain ⟨a4,r,rfl,t⟩:=qF q
  obtain ⟨a5,r,rfl,c⟩:=qF t
  obtain ⟨Z,r,rfl,g⟩:=qF c
  obtain ⟨a7,r,rfl,u⟩:=qF g
  obtain rfl:=List.eq_nil_of_length_eq_zero u
  obtain ⟨_,z⟩:=a 0 3 0 rfl
  obtain ⟨_,A⟩:=a 1 9 1 rfl
  obtain ⟨_,B⟩:=a 2 9 2 rfl
  obtain ⟨_,C⟩:=a 3 3 3 rfl
  obtain ⟨_,f4⟩:=a 4 3 4 rfl
  obtain ⟨_,D⟩:=a 5 44 5 rfl
  obtain ⟨_,f6⟩:=a 6 45 6 rfl
  obtain ⟨_,E⟩:=a 7 46 7 rfl
  simp only [c3,c9,c44,c45,c46,List.drop_succ_cons,List.drop_zero,List.take_succ_cons,List.take_zero] at z A B C f4 D f6 E
  obtain ⟨k,d,_⟩:=nT z
  obtain ⟨nm,f⟩:=mP A
  obtain ⟨op,e2⟩:=mP B
  obtain ⟨nu,e3,L⟩:=nT C
  obtain ⟨si,e4,M⟩:=nT f4
  obtain ⟨v5,U,v,P⟩:=kV (R:=RAtom) underlying44 c75 (by decide) (fun j G cs x h=>j2b h) D
  obtain ⟨v6,V,w,Q⟩:=kV (R:=RTA) underlying45 c79 (by decide) (fun j G cs x h=>by
   obtain ⟨m',rfl,hl,a⟩:=nP underlying79 h
   rw [c79] at hl
   obtain ⟨b0,r,rfl,c⟩:=qF hl
   obtain ⟨b1,r,rfl,g⟩:=qF c
   obtain ⟨_,F⟩:=a 0 9 0 rfl
   obtain ⟨_,g1⟩:=a 1 23 1 rfl
   obtain ⟨_,i⟩:=a 2 48 2 rfl
   simp only [c9,c23,c48,List.drop_succ_cons,List.drop_zero,List.take_succ_cons,List.take_zero] at F g1 i
   rw [List.take_of_length_le (by omega)] at i
   obtain ⟨s,d⟩:=mP F
   obtain ⟨v1,T,f,K⟩:=z4l g1
   obtain ⟨b,hb⟩:=I m' (by omega) _ _ i
   simp only [List.cons.injEq,and_true] at d f
   subst d f
   exact ⟨.mk s T b,⟨_,r,rfl,by omega,K,hb⟩⟩) f6
  obtain ⟨v7,X,y,S⟩:=kV (R:=RTE) underlying46 c48 (by decide) (fun j G cs x h=>I j (by omega) cs x h) E
  simp only [List.cons.injEq,and_true] at d f e2 e3 e4 v w y
  subst d f e2 e3 e4 v w y
  exact ⟨.mk k nm op nu si U V X,RTE.iff.2 ⟨_,_,_,rfl,L,M,P,Q,S⟩⟩
theorem fn_read {n:Nat} {cs:List Value} {x:DataW H×List MemPlace} (h:trd enc W n 50 cs=some x):∃a:TFn,RTFn (Fz.whole W) cs a:=by
 obtain ⟨m,rfl,hl,c⟩:=nP underlying50 h
 rw [c50] at hl
 obtain ⟨a0,r,rfl,e⟩:=qF hl
 obtain ⟨w,r,rfl,f⟩:=qF e
 obtain ⟨a2,r,rfl,u⟩:=qF f
 obtain ⟨_,o⟩:=c 0 9 0 rfl
 obtain ⟨_,p⟩:=c 1 4 1 rfl
 obtain ⟨_,q⟩:=c 2 43 2 rfl
 obtain ⟨_,d⟩:=c 3 48 3 rfl
 simp only [c9,c4,c43,c48,List.drop_succ_cons,List.drop_zero,List.take_succ_cons,List.take_zero] at o p q d
 rw [List.take_of_length_le (by omega)] at d
 obtain ⟨s,g⟩:=mP o
 obtain ⟨i,k⟩:=z3n p
 obtain ⟨v,l,e2,t⟩:=kV (R:=RTPar) underlying43 c125 (by decide) (fun j y cs x h=>x0u h) q
 obtain ⟨b,hb⟩:=te_read _ _ _ d
 simp only [List.cons.injEq,and_true] at g k e2
 subst g k e2
 exact ⟨⟨s,i,l,b⟩,_,_,rfl,t,hb⟩
theorem x2r {n:Nat} {cs:List Value} {x:DataW H×List MemPlace} (h:trd enc W n 26 cs=some x):∃T:Trc,RTrc (Fz.whole W) cs T:=by
 obtain ⟨m,rfl,hl,a⟩:=nP underlying26 h
 rw [c26] at hl
 obtain ⟨a0,r,rfl,c⟩:=qF hl
 obtain ⟨B,r,rfl,d⟩:=qF c
 obtain ⟨a2,r,rfl,e⟩:=qF d
 obtain ⟨a3,r,rfl,f⟩:=qF e
 obtain rfl:=List.eq_nil_of_length_eq_zero f
 obtain ⟨_,k⟩:=a 0 22 0 rfl
 obtain ⟨_,b⟩:=a 1 23 1 rfl
 obtain ⟨_,l⟩:=a 2 24 2 rfl
 obtain ⟨_,o⟩:=a 3 23 3 rfl
 simp only [c22,c23,c24,List.drop_succ_cons,List.drop_zero,List.take_succ_cons,List.take_zero] at k b l o
 have u:=y4t underlying23 b
 obtain ⟨v0,w,g,p⟩:=kV (R:=RTCon) underlying22 c85 (by decide) (fun j v cs x h=>j7c h) k
 obtain ⟨v1,y,i,q⟩:=z4l b
 obtain ⟨v2,z,e2,s⟩:=kV (R:=RTFn) underlying24 c50 (by decide) (fun j v cs x h=>fn_read h) l
 obtain ⟨v3,A,e3,t⟩:=z4l o
 simp only [List.cons.injEq,and_true] at g i e2 e3
 subst g i e2 e3
 exact ⟨⟨w,y,z,A⟩,_,_,_,_,rfl,u,p,q,s,t⟩
theorem rw_read {n:Nat} {cs:List Value} {x:DataW H×List MemPlace} (h:trd enc W n 36 cs=some x):∃r:Rw,RRw (Fz.whole W) cs r:=by
 obtain ⟨m,rfl,hl,a⟩:=nP underlying36 h
 rw [c36] at hl
 obtain ⟨a0,r,rfl,c⟩:=qF hl
 obtain ⟨A,r,rfl,d⟩:=qF c
 obtain ⟨a2,r,rfl,f⟩:=qF d
 obtain ⟨a3,r,rfl,g⟩:=qF f
 obtain rfl:=List.eq_nil_of_length_eq_zero g
 obtain ⟨_,o⟩:=a 0 3 0 rfl
 obtain ⟨_,p⟩:=a 1 3 1 rfl
 obtain ⟨_,b⟩:=a 2 34 2 rfl
 obtain ⟨_,q⟩:=a 3 3 3 rfl
 simp only [c3,c34,List.drop_succ_cons,List.drop_zero,List.take_succ_cons,List.take_zero] at o p b q
 have w:=y4t underlying34 b
 obtain ⟨i0,k,s⟩:=nT o
 obtain ⟨y,l,t⟩:=nT p
 obtain ⟨v2,z,e2,u⟩:=kV (R:=RInt) underlying34 c3 (by decide) (fun j B cs x h=>by obtain ⟨i,e,_⟩:=nT h;exact ⟨i,e⟩) b
 obtain ⟨i3,e3,v⟩:=nT q
 simp only [List.cons.injEq,and_true] at k l e2 e3
 subst k l e2 e3
 exact ⟨⟨i0,y,z,i3⟩,_,rfl,w,s,t,v,u⟩
end
end Go.Sw
namespace Go.Proofs.YtlfobekmmndchaaGreatDoor
open Go.ChangeShapes Go.WideShapes Go.ChangeAt Go.RowKit Go.Sw
theorem own:ownKnob Tryz.prog.godebug=none:=by kernel_rfl
theorem laidOut:laidOutB Tryz.prog=true:=by kernel_rfl
abbrev laidAll:List (String×DataW Unit):=Rows.optSitesRow.laid
theorem q0g {W:World} {g:Nat} {cs:List Value} (h:∀(i:Nat) (v:Value),cs[i]? = some v->W.cell? ⟨g,i,none⟩=some v) (a:cs≠[]):At (Fz.whole W) ⟨g,0,none⟩ cs :=
 y9t a fun j v b=>by
  have:=h j v b
  have e:(⟨g,0,none⟩:Addr).add j=⟨g,j,none⟩:=by unfold Addr.add;split <;> simp_all
  rw [e];exact this
theorem j4h {W:World} (a:W.ShapedOpen Tryz.prog):∃m,At (Fz.whole W) ⟨0,0,none⟩ [.int .i64 m]:=by
 obtain ⟨m,N⟩:=cell_of_shapedOpen_int (P:=Tryz.prog) (g:=0) (t:=3) (k:=.i64) (zero:=#[.int .i64 0]) a (of_decide_eq_true (by kernel_rfl)) (by kernel_rfl) rfl (by kernel_rfl) (by kernel_rfl) (by kernel_rfl)
 exact ⟨m,q0g (fun i v hi=>by
  cases i with
  | zero=>simp at hi;subst hi;exact N
  | succ i=>simp at hi) (by simp)⟩
theorem tabs_of {W:World} (d:laidMet Tryz.prog laidAll W):Tabs (Fz.whole W):=by
 have c:laidMet Tryz.prog (("internal/strconv.uint64pow10",Lib.tabData .u64 Lib.pow10Tab)::_) W:=d.tail.tail
 have a:=Lib.tabIs_of_head (P:=Tryz.prog) (g:=1) (t:=292) (e:=230) (n:=20) (by kernel_rfl) (by kernel_rfl) (by kernel_rfl) (by kernel_rfl) (by kernel_rfl) (by kernel_rfl) c
 intro w O
 unfold Lib.TabIs at a ⊢
 unfold World.var? at a ⊢
 cases b:Tryz.prog.globalNamed "internal/strconv.uint64pow10" with
 | none=>rw [b] at a;cases a
 | some g=>
  rw [b] at a
  simp only [Option.bind_some] at a ⊢
  split at a
  ·rename_i cs t fr J
   rw [O.fz g _ J]
   exact a
  ·cases a
theorem err_at {W:World} {n:String} {d:DataW Unit} {g:Nat} {r:List (String×DataW Unit)} (h:laidMet Tryz.prog ((n,d)::r) W) (e:Tryz.prog.globalNamed n=some g) (k:(Tryz.prog.globals[g]?).map (·.type)=some 274):ErrAt (Fz.whole W) g:=by
 obtain ⟨ps,⟨g',t',cs,fuel,p,q,hg',ht',a,b,_,_⟩,_⟩:=h
 obtain rfl:=Option.some.inj (e.symm.trans hg')
 obtain rfl:=Option.some.inj (k.symm.trans ht')
 have key:∃v,cs.toList=[v]/\(v=.nilIface∨∃t p,v=.iface t p):=by
  cases fuel with
  | zero=>simp [DataW.trod] at b
  | succ fuel=>
   unfold DataW.trod at b
   generalize f:Tryz.prog.underlying 274=u at b
   have c:∃ms,u=some (.interface ms):=⟨_,f.symm.trans Tryz.underlying274⟩
   clear f
   obtain ⟨ms,rfl⟩:=c
   split at b <;> simp_all
 obtain ⟨v,l,j⟩:=key
 refine ⟨v,q0g (fun i u hi=>?_) (by simp),j⟩
 cases i with
 | zero=>
  simp at hi;subst hi
  have:=World.var?_cell e a 0
  rw [this,<- Array.getElem?_toList,l]
  rfl
 | succ i=>simp at hi
theorem q9w {W:World} (b:W.ShapedOpen Tryz.prog) (a:laidMet Tryz.prog laidAll W):Glob (Fz.whole W) :=
 ⟨j4h b,tabs_of a,err_at (g:=2) a.tail.tail.tail.tail.tail (by kernel_rfl) (by kernel_rfl),err_at (g:=3) a.tail.tail.tail.tail (by kernel_rfl) (by kernel_rfl)⟩
end Go.Proofs.YtlfobekmmndchaaGreatDoor
namespace Go.Proofs.YtlfobekmmndchaaGreatDoor
open Go.ChangeShapes Go.WideShapes Go.ChangeAt Go.RowKit Go.Sw
set_option maxRecDepth 100000
section
variable {H:Type} {enc:TypeId×Value->H}
theorem q8i {a:Assume} {C:Checked} {os:Os} {f:FuncId} {fn:Func} {s:ChangeSpec} {conds:List PathCond} {apart fresh handsOn again:Bool} {X:World->Array Value->Prop}
  (l:∀(w w':World) (args:Array Value),w.heap=w'.heap->X w args->X w' args)
  (own:ownKnob C.prog.godebug=none) (started:os.Started) (noInit:C.prog.inits.idxOf? f=none) (d:C.prog.funcs[f]? = some fn)
  (witness:∃(w:World) (tape:Tape) (i:Input),w.os=os/\(w.forCall tape i).Shaped C.prog/\i.vars=[]/\Input.okWide C.prog (w.forCall tape i) .any w.heap.size f i /\
   ((s.pre enc C.prog fn conds apart (w.forCall tape i).memory i.args/\X (w.forCall tape i).memory i.args)/\sizedMet enc C.prog fn (OpenSpec.ofChange s) apart (w.forCall tape i).memory i.args)/\a.holds C.prog (lone (Frame.enter C.prog f i.args .normal) [] (w.forCall tape i)))
  (contract:∀(W:World) (base:Nat) (args:Array Value) (ds gs:List (DataW H)) (before:List MemPlace),
   (∀(j:Nat) t v,fn.params[j]? = some t->args[j]? = some v->Value.okWide C.prog W .any base t v) ->
   DataW.Whole enc C.prog fn.params.toList s.vars apart W args.toList ds gs before->X W args->sizedMet enc C.prog fn (OpenSpec.ofChange s) apart W args->W.ShapedOpen C.prog ->
   Calls C.prog f args W fun e W'=>∃v,e=.returned v/\s.post enc C.prog fn apart fresh handsOn again W args v W') :
  ReturnsInHanded a C os f .any (fun w args=>(s.pre enc C.prog fn conds apart w args/\X w args)/\sizedMet enc C.prog fn (OpenSpec.ofChange s) apart w args) (s.post enc C.prog fn apart fresh handsOn again):=by
 refine returnsInHanded_of_calls own started noInit witness ?_
 intro w tape i _ k _ g b _
 obtain ⟨_,_,_,fn',hfn',_,_,_,_,c⟩:=g
 have e:fn'=fn:=Option.some.inj (hfn'.symm.trans d)
 subst e
 obtain ⟨⟨⟨ds,gs,before,m,_⟩,n⟩,h,ds',gs',before',o,hz'⟩:=b
 have hw':=DataW.Whole.of_heap (w':=w.forCall tape i) (by rfl) m
 refine (contract (w.forCall tape i) w.heap.size i.args ds gs before c hw' (l _ _ _ (by rfl) n) ⟨h,ds',gs',before',DataW.Whole.of_heap (w':=w.forCall tape i) (by rfl) o,hz'⟩ k).mono fun e W' ⟨v,J,h⟩=>?_
 subst J
 exact ChangeSpec.post_blind h
theorem z5q {a:Assume} {C:Checked} {os:Os} {f:FuncId} {fn:Func} {s:ChangeSpec} {conds:List PathCond} {apart fresh handsOn again:Bool} {X:World->Array Value->Prop}
  (k:∀(w w':World) (args:Array Value),w.heap=w'.heap->X w args->X w' args)
  (own:ownKnob C.prog.godebug=none) (started:os.Started) (noInit:C.prog.inits.idxOf? f=none) (b:C.prog.funcs[f]? = some fn)
  (witness:∃(w:World) (tape:Tape) (i:Input),w.os=os/\(w.forCall tape i).Shaped C.prog/\i.vars=[]/\Input.okWide C.prog (w.forCall tape i) .any w.heap.size f i /\
   ((s.pre enc C.prog fn conds apart (w.forCall tape i).memory i.args/\X (w.forCall tape i).memory i.args)/\sizedMet enc C.prog fn (OpenSpec.ofChange s) apart (w.forCall tape i).memory i.args)/\a.holds C.prog (lone (Frame.enter C.prog f i.args .normal) [] (w.forCall tape i)))
  (contract:∀(W:World) (base:Nat) (args:Array Value) (ds gs:List (DataW H)) (before:List MemPlace),
   (∀(j:Nat) t v,fn.params[j]? = some t->args[j]? = some v->Value.okWide C.prog W .any base t v) ->
   DataW.Whole enc C.prog fn.params.toList s.vars apart W args.toList ds gs before->X W args->W.ShapedOpen C.prog ->
   Calls C.prog f args W fun e W'=>∃v,e=.returned v/\s.post enc C.prog fn apart fresh handsOn again W args v W') :
  ReturnsInHanded a C os f .any (fun w args=>(s.pre enc C.prog fn conds apart w args/\X w args)/\sizedMet enc C.prog fn (OpenSpec.ofChange s) apart w args) (s.post enc C.prog fn apart fresh handsOn again):=by
 exact q8i k own started noInit b witness fun W base args ds gs before c d g _ h=>contract W base args ds gs before c d g h
theorem z0q {W W':World} (N:Mem (Fz.whole W) [] W'):∀k,k < W.heap.size->W'.heap[k]? = W.heap[k]? := fun k a=>by
 have h:W.heap[k]? = some W.heap[k]:=Array.getElem?_eq_getElem a
 rw [h]
 exact N.fz k _ h
theorem x0m {W W':World} (N:Mem (Fz.whole W) [] W'):W.heap.size<=W'.heap.size:=by
 rcases Nat.lt_or_ge W'.heap.size W.heap.size with h | h
 ·have a:=z0q N W'.heap.size h
  rw [Array.getElem?_eq_getElem h] at a
  simp at a
 ·exact h
theorem q8d {W W':World} (N:Mem (Fz.whole W) [] W') {t:TypeId} (f:Tryz.prog.readableRec t=true) (a:t < Tryz.prog.types.size) {v:Value} {d:DataW H} {ps:List MemPlace}
  (h:DataW.Trod enc Tryz.prog W 0 (fun _=>true) true t v d ps) (c:∀x∈ps,x.block < W.heap.size):DataW.Trod enc Tryz.prog W' 0 (fun b=>decide (b < W.heap.size)) true t v d ps:=by
 have O:=x0m N
 have e:=z0q N
 have hb:Below W.heap.size W { W with heap:=W'.heap }:={ os:=rfl,tape:=rfl,output:=rfl,size:=O,block:=e }
 exact DataW.Trod.of_heap (w:={ W with heap:=W'.heap }) (w':=W') rfl (Below.trod laidOut f a h hb c)
theorem z7i {W W':World} (N:Mem (Fz.whole W) [] W'):∀{ts:List TypeId} {vs:List Value} {ds:List (DataW H)} {p:List MemPlace},(∀t∈ts,Tryz.prog.readableRec t=true/\t < Tryz.prog.types.size) ->
  DataW.TrodAll enc Tryz.prog W 0 (fun _=>true) true ts vs ds p->(∀x∈p,x.block < W.heap.size)->DataW.TrodAll enc Tryz.prog W' 0 (fun b=>decide (b < W.heap.size)) true ts vs ds p
 | [],_,_,_,_,h,_=>by
  obtain ⟨rfl,rfl,rfl⟩:=trodAll_nil h
  exact h
 | t::ts,_,_,_,c,h,a=>by
  obtain ⟨v,vs,d,ds,p,q,rfl,rfl,rfl,f,g⟩:=trodAll_cons h
  exact ⟨p,q,q8d N (c t msQ).1 (c t msQ).2 f (fun x e=>a x (List.mem_append_left _ e)),
   z7i N (fun u i=>c u (mcQ _ i)) g (fun x e=>a x (List.mem_append_right _ e)),rfl⟩
theorem q1s {fn:Func} {s:ChangeSpec} {apart fresh handsOn:Bool} {W W':World} {args:Array Value} {ds gs:List (DataW H)} {before:List MemPlace}
  (b:DataW.Whole enc Tryz.prog fn.params.toList s.vars apart W args.toList ds gs before) (g:s.vars=[]) (d:∀gs:List (DataW H),gs=[]->s.fn H (ds++gs)={ results:=[.lit (.bool true)],args:=ds }) (a:fn.resultTypes=#[4])
  (j:∀t∈fn.params.toList,Tryz.prog.readableRec t=true/\t < Tryz.prog.types.size) (N:Mem (Fz.whole W) [] W'):s.post enc Tryz.prog fn apart fresh handsOn false W args (.bool true) W':=by
 have e:=b.lt
 have hW':=b
 obtain ⟨p,q,i,f,rfl,_,_⟩:=b
 rw [g] at f
 obtain ⟨rfl,rfl⟩:=trodVars_none f
 have c:=d [] rfl
 refine ⟨ds,[],_,[],p,[],hW',?_,?_,?_,?_,fun h=>by cases h⟩
 ·rw [c,a]
  exact trodAll_mk1 (shut_bool Tryz.underlying4 true)
 ·rw [c]
  exact z7i N j i (fun x k=>e x (by simpa using k))
 ·rw [c,g]
  exact rfl
 ·exact World.keptBut_mono (fun _ h=>h.elim) (World.keptBut_none_iff.2 ⟨N.os,N.out,z0q N⟩)
theorem agg_of {t:TypeId} {W:World} {base:Nat} {v:Value} {fs:Array Field} (a:Tryz.prog.underlying t=some (.struct fs)) (h:Value.okWide Tryz.prog W .any base t v):∃cs:List Value,v=.agg cs.toArray:=by
 obtain ⟨cs,rfl,_⟩:=okWide_struct a h
 exact ⟨cs.toList,by simp⟩
theorem j1b {W:World} {base:Nat} {v:Value} {d:DataW H} {p:List MemPlace} (e:Value.okWide Tryz.prog W .any base 26 v) (h:DataW.Trod enc Tryz.prog W 0 (fun _=>true) true 26 v d p):∃cs T,v=.agg (List.toArray cs)/\RTrc (Fz.whole W) cs T:=by
 obtain ⟨cs,rfl⟩:=agg_of Tryz.underlying26 e
 obtain ⟨fuel,b⟩:=h
 obtain ⟨c,a⟩:=x2r (enc:=enc) (W:=W) (n:=fuel) (cs:=cs) b
 exact ⟨cs,c,rfl,a⟩
theorem rw_arg {W:World} {base:Nat} {v:Value} {d:DataW H} {p:List MemPlace} (c:Value.okWide Tryz.prog W .any base 36 v) (h:DataW.Trod enc Tryz.prog W 0 (fun _=>true) true 36 v d p):∃cs ru fn path nu,v=.agg (List.toArray cs)/\RRw (Fz.whole W) cs ⟨ru,fn,path,nu⟩:=by
 obtain ⟨cs,rfl⟩:=agg_of Tryz.underlying36 c
 obtain ⟨fuel,b⟩:=h
 obtain ⟨⟨ru,fn,path,nu⟩,a⟩:=rw_read (enc:=enc) (W:=W) (n:=fuel) (cs:=cs) b
 exact ⟨cs,ru,fn,path,nu,rfl,a⟩
end
end Go.Proofs.YtlfobekmmndchaaGreatDoor
namespace Go.Proofs.YtlfobekmmndchaaGreatDoor
open Go.ChangeShapes Go.WideShapes Go.ChangeAt Go.RowKit Go.Sw
set_option maxRecDepth 100000
theorem j0i:Tryz.pinned.checked.prog.mainIs=some (true,"85501da53bcbeb676a92cebcef877aabde4957abcbe701bf1dd5251624ce4289".toList):=by kernel_rfl
theorem q1t:true=Tryz.prog.looks []:=by kernel_rfl
theorem dH (W:World):laidMetH Tryz.prog laidAll W=laidMet Tryz.prog laidAll W:=MakeChecks.laidMetH_plain _ _ _ (by kernel_rfl)
theorem q1r (os:Os) (args:Array Value):laidMet Tryz.prog laidAll ((World.laidAll Tryz.prog os laidAll).forCall (fun _ _=>0) ⟨#[],args,[]⟩).memory:=laidMet_laidAll _ (by kernel_rfl) (by kernel_rfl)
theorem j0r {l:List TypeId} (h:(l.all fun t=>Tryz.prog.readableRec t&&decide (t < Tryz.prog.types.size))=true) {t:TypeId} (a:t∈l):Tryz.prog.readableRec t=true/\t < Tryz.prog.types.size:=by
 have:=List.all_eq_true.1 h t a
 simpa using this
section
variable {H:Type} {enc:TypeId×Value->H}
end
end Go.Proofs.YtlfobekmmndchaaGreatDoor
