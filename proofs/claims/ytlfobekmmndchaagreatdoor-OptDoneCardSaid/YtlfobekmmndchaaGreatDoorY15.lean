import Derived.ChangeArms
import Derived.OpenShut
import Derived.Deep.Slices
import Derived.Test.YtlfobekmmndchaaGreatDoorCards
import Derived.Test.YtlfobekmmndchaaGreatDoorTie
import Derived.PinnedBridge
import Derived.Lay
import Derived.LaidOnce
import Derived.SevenTiedAt
import Derived.HandedShaped
import Derived.Carry
import Derived.ProofKit
import Derived.Shelf.Vars
import Derived.Stop.LaidErr
import Derived.JoinedOf
import Derived.Test.YtlfobekmmndchaaGreatDoorY14
set_option linter.unusedVariables false
set_option linter.unusedSimpArgs false
namespace Go.Sw
open Go.Proofs Go.Proofs.Tryz
set_option maxRecDepth 20000
set_option maxHeartbeats 4000000
section
variable {Φ:Fz} {K:List Res} {w:World}
theorem z9a {tc:List Value} {T:Trc} (o2:RTrc Φ tc T) (GP:GoodP T) (S:SmP T) (N:Mem Φ K w) :
  Calls prog 34 #[.agg tc.toArray] w (fun ee w'=>∃q:Fz×List Value,ee=.returned (.agg q.2.toArray)/\(Φ.Le q.1/\RTrc q.1 q.2 T)/\Mem q.1 K w'):=by
 have b:=o2;obtain ⟨p3,c4,p9,H2,A3,I2,B3,c22,rfl,Y3,h2,G,U,g,F4,z3,a4,f4,b4,b2,d4,g4⟩:=RTrc.fm o2;refine zJ func34 ntmps34 fun Q hQ a J=>?_;refine Bx fun F1 w N a J=>?_;refine Alc fun G1 w N a J=>?_;refine goJ 2 fun a J=>?_;refine sq fun G2 S1=>?_
 have A0:∀a w,(∃(X:Fz) (w0:Nat) (i0:Value) (l0:Value),EnvR 56 [(1,.pointer (some ⟨F1,0,none⟩)),(2,.pointer (some ⟨G1,0,none⟩)),(3,.pointer (some ⟨w0,0,none⟩))] [] a/\Mem X (.blk w0 (ob [ZB,i0,ZB,l0] 26)::.blk G1 (ob [ZB,ZB,ZB,ZB] 26)::.blk F1 (ob [.slice p3 T.cons.length c4,.slice p9 T.inputs.length H2,.slice A3 T.funs.length I2,.slice B3 T.outputs.length c22] 26)::K) w/\(Φ.Le X/\(SliceOf RStr X 1 i0 T.inputs/\z2a i0/\SliceOf RStr X 1 l0 T.outputs)))->G2 a w:=by
  clear N J;rintro a w ⟨X,w0,i0,l0,J,N,x0⟩;obtain ⟨Z,x0⟩:=x0;replace h2:=h2.mono RTCon.mono Z;replace G:=G.up Z;replace U:=U.mono RTFn.mono Z;replace g:=g.up Z;replace b:=RTrc.mono _ _ _ _ Z b;apply S1;obtain ⟨l,a2,m⟩:=x0;refine go fun a J=>?_;replace N:=N.nilRow 85 3;replace N:=N.nf;refine yO (J.ks [1,2,3,16,17]) N (fun R mm a w=>∃(t0:Fz) (i:Nat) (s1:Value) (Y0:List Value),mm=T.cons.length - i/\R t0 [(18,.int .i64 i)] [(0,.gs (s1) 85 3 Y0),(1,.blk w0 (ob [s1,i0,ZB,l0] 26))] a w/\(X.Le t0/\(Chunks (RTCon t0) 3 Y0 (T.cons.take i)))) (T.cons.length - 0) ⟨X,0,ZB,[],rfl,⟨J.pk,N⟩,⟨Fz.Le.refl _,rfl⟩⟩ ?_;clear N J;rintro mm a w ⟨t0,i,s1,Y0,w1,⟨J,N⟩,y0⟩ B4 T1;replace N:=N.nf;obtain ⟨v,y0⟩:=y0;replace h2:=h2.mono RTCon.mono v;replace G:=G.up v;replace U:=U.mono RTFn.mono v;replace g:=g.up v;replace b:=RTrc.mono _ _ _ _ v b;replace l:=l.up v;replace m:=m.up v;have f0:=y0;by_cases u1:i < T.cons.length;refine go fun a J=>?_;have d:=N;have g0:=J;clear N J;obtain ⟨J4,rfl⟩:=z3 (zO u1);have N:=d;have J:=g0;clear d g0;obtain ⟨j1,O0⟩:=zW u1;obtain ⟨Q3,Z3,l1,E0⟩:=h2.elem O0;obtain ⟨H4,E4,rfl,S2,e4,h4⟩:=RTCon.fm E0;refine Alc fun D4 w N a J=>?_;refine Sto 0 fun w N a J=>?_;refine yI call72 (fun E3 w m0 N a J=>?_) (c:=z8z S2 (by have:=S.fields _ (mgQ O0);omega) N);obtain ⟨L4,R3⟩:=E3;simp only at m0 N J;refine Sto 1 fun w N a J=>?_;refine go fun a J=>?_;have f:=N;clear N;obtain ⟨r1,t,N,h1,w2⟩:=f.freezeRowC (i:=0) rfl;clear f;replace G:=G.up t;replace U:=U.mono RTFn.mono t;replace g:=g.up t
  replace b:=RTrc.mono _ _ _ _ t b;replace l:=l.up t;replace m:=m.up t;replace f0:=f0.mono fun _ _ h=>RTCon.mono _ _ _ _ t h;replace l1:=l1.mono t;replace E0:=RTCon.mono _ _ _ _ t E0;replace m0:=m0.mono fun _ _ h=>RBoo.mono _ _ _ _ t h;replace N:=N.nf;have N0:SliceOf RBoo r1 1 _ (j1.fields):=⟨_,h1,m0⟩;obtain ⟨C3,J2,r,h3,i4⟩:=N0.form (by decide);have d:=N;clear N;subst r;have N:=d;clear d;refine qR fun M4 w N a J=>?_;refine vU 2 rt_22 (fun D3 w N a J=>?_) (hb:=by rw [f0.length,List.length_take];have:=S.cons;have:=z2m GP.fit;simp only [lcQ,lnQ];omega);refine Sto 3 fun w N a J=>?_;refine go fun a J=>?_;replace N:=N.dl [1,0];refine T1 _ _ _ (by subst w1;omega) ⟨(r1),(i+1),(D3),((Y0++[.string j1.name,.string j1.type,.slice C3 (j1.fields).length J2])),rfl,⟨J.pk,by exact N⟩,?_⟩;refine ⟨(v).trans t,?_⟩;rw [jJ O0];exact f0.append (yX rfl ⟨_,rfl,N0⟩);refine go fun a J=>?_;have c0:=f0;rw [List.take_of_length_le (Nat.le_of_not_lt u1)] at c0;have f:=N;clear N;obtain ⟨X0,H,N,i1,x2⟩:=f.freezeRowC (i:=0) rfl;clear f;replace G:=G.up H;replace U:=U.mono RTFn.mono H;replace g:=g.up H;replace b:=RTrc.mono _ _ _ _ H b;replace l:=l.up H;replace m:=m.up H;replace c0:=c0.mono fun _ _ h=>RTCon.mono _ _ _ _ H h;replace N:=N.nf;have n:SliceOf RTCon X0 3 _ (T.cons):=⟨_,i1,c0⟩;obtain ⟨x1,c85,r,i3,j4⟩:=n.form (by decide);have d:=N;clear N;subst r;have N:=d;clear d;refine go fun a J=>?_;replace N:=N.nilRow 50 11;replace N:=N.nf
  refine yO (J.ks [2,3,34,35]) N (fun R mm a w=>∃(u0:Fz) (j_:Nat) (t1:Value) (Z0:List Value),mm=T.funs.length - j_/\R u0 [(36,.int .i64 j_)] [(0,.gs (t1) 50 11 Z0),(1,.blk w0 (ob [.slice x1 (T.cons).length c85,i0,t1,l0] 26))] a w/\(X0.Le u0/\(Chunks (RTFn u0) 11 Z0 (T.funs.take j_)))) (T.funs.length - 0) ⟨X0,0,ZB,[],rfl,⟨J.pk,N⟩,⟨Fz.Le.refl _,rfl⟩⟩ ?_;clear N J;rintro mm a w ⟨u0,j_,t1,Z0,w1,⟨J,N⟩,z0⟩ C4 U1;replace N:=N.nf;obtain ⟨x,z0⟩:=z0;replace G:=G.up x;replace U:=U.mono RTFn.mono x;replace g:=g.up x;replace b:=RTrc.mono _ _ _ _ x b;replace l:=l.up x;replace m:=m.up x;replace n:=n.mono RTCon.mono x;have V:=z0;by_cases v1:j_ < T.funs.length;refine go fun a J=>?_;have d:=N;have g0:=J;clear N J;obtain ⟨K4,rfl⟩:=b2 (zO v1);have N:=d;have J:=g0;clear d g0;obtain ⟨F,h0⟩:=zW v1;obtain ⟨K2,X2,b0,W⟩:=U.elem h0;obtain ⟨q4,H3,F3,rfl,Q1,Y,Y2,j3⟩:=RTFn.fm W;obtain ⟨r4,I3,s4,J3,t4,c127,rfl,T2,U2,S3,T3,U3,Z2,k3,a3,l3,b3,m3⟩:=RTE.fm Y;refine Alc fun G3 w N a J=>?_;refine Sto 0 fun w N a J=>?_;refine go fun a J=>?_;refine yP [1,2,0,1,2,0,1,0,1,0] (.q 0 (.q 1 (.q 3 (.q 4 (.e 2 (.q 6 (.e 5 (.e 7 (.q 8 (.e 9 (.done))))))))))) [0,1,2,3,4] J N fun w N=>?_;refine yI call73 (fun q2 w y N a J=>?_) (c:=q7a Q1 (by have:=S.params _ (mgQ h0);omega) N);obtain ⟨A4,L2⟩:=q2;simp only at y N J;refine yI call41 (fun P0 w j N a J=>?_) (c:=q5s Y (j1t (GP.gd _ (mgQ h0)) (by have h_:=(GP.fit.fn h0).2;rw [lnQ] at h_;omega)) N);replace G:=G.mono RStr.mono j.1;replace g:=g.mono RStr.mono j.1
  replace b:=RTrc.mono _ _ _ _ j.1 b;replace l:=l.mono RStr.mono j.1;replace m:=m.mono RStr.mono j.1;replace n:=n.mono RTCon.mono j.1;replace V:=V.mono fun _ _ h=>RTFn.mono _ _ _ _ j.1 h;replace b0:=b0.mono j.1;replace W:=RTFn.mono _ _ _ _ j.1 W;replace Y:=RTE.mono _ _ _ _ j.1 Y;replace y:=y.mono fun _ _ h=>RTPar.mono _ _ _ _ j.1 h;have j0:RTE P0.1 P0.2 F.body:=by have h_:=j.2;rw [z5q] at h_;exact h_
  obtain ⟨M2,a1⟩:∃x_,x_=P0.2:=⟨_,rfl⟩;rw [<- a1] at j0 J;have k0:=j0;obtain ⟨c2,H1,d2,I1,f2,J1,rfl,V2,W2,V3,W3,X3,d3,n3,e3,o3,f3,q3⟩:=RTE.fm j0;replace N:=N.nf;refine Sto 1 fun w N a J=>?_;refine Sto 1 fun w N a J=>?_;refine go fun a J=>?_;have f:=N;clear N;obtain ⟨Q0,k,N,F0,V1⟩:=f.freezeRowC (i:=0) rfl;clear f;replace G:=G.up k;replace g:=g.up k;replace b:=RTrc.mono _ _ _ _ k b;replace l:=l.up k;replace m:=m.up k;replace n:=n.mono RTCon.mono k;replace V:=V.mono fun _ _ h=>RTFn.mono _ _ _ _ k h;replace b0:=b0.mono k;replace W:=RTFn.mono _ _ _ _ k W;replace Y:=RTE.mono _ _ _ _ k Y;replace y:=y.mono fun _ _ h=>RTPar.mono _ _ _ _ k h;replace k0:=RTE.mono _ _ _ _ k k0;replace N:=N.nf;have n0:SliceOf RTPar Q0 2 _ (F.params):=⟨_,F0,y⟩;obtain ⟨g2,K1,r,y2,r3⟩:=n0.form (by decide);have d:=N;clear N;subst r;have N:=d;clear d;refine qR fun v173 w N a J=>?_;refine vU 2 q4m (fun p2 w N a J=>?_) (hb:=by rw [V.length,List.length_take];have:=S.cons;have:=z2m GP.fit;simp only [lcQ,lnQ];omega);refine Sto 3 fun w N a J=>?_;refine go fun a J=>?_;replace N:=N.dl [1,0];refine U1 _ _ _ (by subst w1;omega) ⟨(Q0),(j_+1),(p2),((Z0++[.string F.name,.bool F.chg,.slice g2 (F.params).length K1,.int .i64 (F.body.kind),.string F.body.name,.string F.body.op,.int .i64 (F.body.num),.int .i64 (F.body.site),.slice c2 F.body.args.length H1,.slice d2 F.body.arms.length I1,.slice f2 F.body.body.length J1])),rfl,⟨J.pk,by exact N⟩,?_⟩;refine ⟨((x).trans j.1).trans k,?_⟩;rw [jJ h0];exact V.append (yX rfl ⟨_,_,rfl,n0,k0⟩)
  refine go fun a J=>?_;have I:=V;rw [List.take_of_length_le (Nat.le_of_not_lt v1)] at I;have f:=N;clear N;obtain ⟨R0,s,N,G0,W1⟩:=f.freezeRowC (i:=0) rfl;clear f;replace G:=G.up s;replace g:=g.up s;replace b:=RTrc.mono _ _ _ _ s b;replace l:=l.up s;replace m:=m.up s;replace n:=n.mono RTCon.mono s;replace I:=I.mono fun _ _ h=>RTFn.mono _ _ _ _ s h;replace N:=N.nf;have o0:SliceOf RTFn R0 11 _ (T.funs):=⟨_,G0,I⟩;obtain ⟨m1,k1,r,z2,s3⟩:=o0.form (by decide);have d:=N;clear N;subst r;have N:=d;clear d;refine go fun a J=>?_;refine st0 J rfl rfl (zQ 1 (cs:=[ZB,ZB,ZB,ZB]) (vs:=[.slice x1 (T.cons).length c85,i0,.slice m1 (T.funs).length k1,l0]) J N rfl rfl rfl rfl sizeOf26 rfl (kC rfl (kC (j0n l.one) (kC rfl (kC (j0n m.one) rfl)))) rfl fun w N a J=>?_);replace N:=N.nf;refine go fun a J=>?_;have g3:=N;replace N:=N.dl [2,1,0];refine kN (N:=g3) ?_;exact ⟨(R0,[.slice x1 (T.cons).length c85,i0,.slice m1 (T.funs).length k1,l0]),rfl,⟨((((Z).trans v).trans H).trans x).trans s,⟨_,_,_,_,rfl,a2,n,l,o0,m⟩⟩,N⟩
 refine yP [1,2,0,1,2,0,1,0,0] (.q 0 (.q 1 (.q 3 (.q 4 (.e2 2 7 (.e2 5 7 (.q 6 (.e 7 (.e 8 (.done)))) (.e 5 (.q 6 (.e 8 (.done))))) (.e 2 (.e 5 (.q 6 (.e 8 (.done)))))))))) [0,1] J N fun w N=>?_;refine go fun a J=>?_;refine wO ?_ ?_;refine yI call71 (fun r2 w p N a J=>?_) (c:=nU G (by have:=S.inputs;omega) N);obtain ⟨s0,N2⟩:=r2;simp only at p N J;refine wO ?_ ?_;refine yI call71 (fun s2 w z N a J=>?_) (c:=nU g (by have:=S.outputs;omega) N);obtain ⟨n1,O2⟩:=s2;simp only at z N J;obtain ⟨u4,k4,K3,b1,_⟩:=N.toSees.gsForm (i:=1) rfl;obtain ⟨v4,l4,L3,c1,_⟩:=N.toSees.gsForm (i:=0) rfl;refine Qq (fun a J=>?_) (o:=by exact fun J O=>jV (vs:=[(1,s0),(3,n1)]) (cs:=[ZB,s0,ZB,n1]) J rfl (by rw [b1,c1];kernel_rfl));refine Alc fun C1 w N a J=>?_;refine aS 0 fun w N a J=>?_;refine go fun a J=>?_;have f:=N;clear N;obtain ⟨y1,C,N,H0,B0⟩:=f.freezeRowC (i:=2) rfl;clear f;replace G:=G.up C;replace g:=g.up C;replace b:=RTrc.mono _ _ _ _ C b;replace p:=p.mono fun _ _ h=>RStr.mono _ _ _ _ C h;replace z:=z.mono fun _ _ h=>RStr.mono _ _ _ _ C h;replace N:=N.nf;have L:SliceOf RStr y1 1 _ (T.inputs):=⟨_,H0,p⟩;obtain ⟨i2,c210,r,A2,t3⟩:=L.form (by decide);have d:=N;clear N;subst r;have N:=d;clear d;have f:=N;clear N;obtain ⟨S0,u,N,I0,X1⟩:=f.freezeRowC (i:=1) rfl;clear f;replace G:=G.up u;replace g:=g.up u;replace b:=RTrc.mono _ _ _ _ u b;replace p:=p.mono fun _ _ h=>RStr.mono _ _ _ _ u h;replace z:=z.mono fun _ _ h=>RStr.mono _ _ _ _ u h;replace L:=L.up u;replace N:=N.nf
 have p0:SliceOf RStr S0 1 _ (T.outputs):=⟨_,I0,z⟩;obtain ⟨j2,L1,r,B2,u3⟩:=p0.form (by decide);have d:=N;clear N;subst r;have N:=d;clear d;exact A0 _ _ ⟨S0,C1,.slice i2 (T.inputs).length c210,.slice j2 (T.outputs).length L1,J.pk,N,⟨(C).trans u,⟨L,B0,p0⟩⟩⟩;refine Alc fun D1 w N a J=>?_;refine yI call71 (fun t2 w A N a J=>?_) (c:=nU g (by have:=S.outputs;omega) N);obtain ⟨o1,P2⟩:=t2;simp only at A N J;obtain ⟨w4,m4,M3,d1,_⟩:=N.toSees.gsForm (i:=2) rfl;obtain ⟨x4,n4,N3,e1,_⟩:=N.toSees.gsForm (i:=0) rfl;refine Qq (fun a J=>?_) (o:=by exact fun J O=>jV (vs:=[(1,s0),(3,o1)]) (cs:=[ZB,s0,ZB,o1]) J rfl (by rw [d1,e1];kernel_rfl));refine aS 1 fun w N a J=>?_;refine go fun a J=>?_;have f:=N;clear N;obtain ⟨z1,D,N,J0,C0⟩:=f.freezeRowC (i:=2) rfl;clear f;replace G:=G.up D;replace g:=g.up D;replace b:=RTrc.mono _ _ _ _ D b;replace p:=p.mono fun _ _ h=>RStr.mono _ _ _ _ D h;replace A:=A.mono fun _ _ h=>RStr.mono _ _ _ _ D h;replace N:=N.nf;have M:SliceOf RStr z1 1 _ (T.inputs):=⟨_,J0,p⟩;obtain ⟨k2,M1,r,C2,v3⟩:=M.form (by decide);have d:=N;clear N;subst r;have N:=d;clear d;have f:=N;clear N;obtain ⟨U0,E,N,K0,Y1⟩:=f.freezeRowC (i:=0) rfl;clear f;replace G:=G.up E;replace g:=g.up E;replace b:=RTrc.mono _ _ _ _ E b;replace A:=A.mono fun _ _ h=>RStr.mono _ _ _ _ E h;replace M:=M.up E;replace N:=N.nf;have q0:SliceOf RStr U0 1 _ (T.outputs):=⟨_,K0,A⟩;obtain ⟨l2,N1,r,D2,w3⟩:=q0.form (by decide);have d:=N;clear N;subst r;have N:=d;clear d
 exact A0 _ _ ⟨U0,D1,.slice k2 (T.inputs).length M1,.slice l2 (T.outputs).length N1,J.pk,N,⟨(D).trans E,⟨M,C0,q0⟩⟩⟩;refine Alc fun E1 w N a J=>?_;refine yI call71 (fun u2 w a0 N a J=>?_) (c:=nU G (by have:=S.inputs;omega) N);obtain ⟨p1,Q2⟩:=u2;simp only at a0 N J;refine yI call71 (fun v2 w B N a J=>?_) (c:=nU g (by have:=S.outputs;omega) N);obtain ⟨q1,R2⟩:=v2;simp only at B N J;obtain ⟨y4,o4,O3,f1,_⟩:=N.toSees.gsForm (i:=1) rfl;obtain ⟨z4,p4,P3,g1,_⟩:=N.toSees.gsForm (i:=0) rfl;refine Qq (fun a J=>?_) (o:=by exact fun J O=>jV (vs:=[(1,p1),(3,q1)]) (cs:=[ZB,p1,ZB,q1]) J rfl (by rw [f1,g1];kernel_rfl));refine aS 2 fun w N a J=>?_;refine go fun a J=>?_;have f:=N;clear N;obtain ⟨A1,d0,N,L0,D0⟩:=f.freezeRowC (i:=1) rfl;clear f;replace b:=RTrc.mono _ _ _ _ d0 b;replace a0:=a0.mono fun _ _ h=>RStr.mono _ _ _ _ d0 h;replace B:=B.mono fun _ _ h=>RStr.mono _ _ _ _ d0 h;replace N:=N.nf;have P:SliceOf RStr A1 1 _ (T.inputs):=⟨_,L0,a0⟩;obtain ⟨m2,O1,r,E2,x3⟩:=P.form (by decide);have d:=N;clear N;subst r;have N:=d;clear d;have f:=N;clear N;obtain ⟨V0,e0,N,M0,Z1⟩:=f.freezeRowC (i:=0) rfl;clear f;replace b:=RTrc.mono _ _ _ _ e0 b;replace B:=B.mono fun _ _ h=>RStr.mono _ _ _ _ e0 h;replace P:=P.up e0;replace N:=N.nf;have r0:SliceOf RStr V0 1 _ (T.outputs):=⟨_,M0,B⟩;obtain ⟨n2,P1,r,F2,y3⟩:=r0.form (by decide);have d:=N;clear N;subst r;have N:=d;clear d;exact A0 _ _ ⟨V0,E1,.slice m2 (T.inputs).length O1,.slice n2 (T.outputs).length P1,J.pk,N,⟨(d0).trans e0,⟨P,D0,r0⟩⟩⟩
theorem z7t {tc rc:List Value} {T:Trc} {ru fn nu:Int} {path:List Int} (F:RTrc Φ tc T) (rx:RRw Φ rc ⟨ru,fn,path,nu⟩) (G:Glob Φ) (N:Mem Φ K w) :
  Calls prog 13 #[.agg tc.toArray,.agg rc.toArray] w (fun ee w'=>Out (cH T ⟨ru,fn,path,nu⟩) (fun U=>∃q:Fz×List Value,ee=.returned (.tuple #[.agg q.2.toArray,.int .i64 0])/\(Φ.Le q.1/\RTrc q.1 q.2 U)/\Mem q.1 K w') (fun c=>ee=.returned (.tuple #[.agg zTrc.toArray,.int .i64 c])/\Mem Φ K w')):=by
 have b:=F;obtain ⟨p3,c4,p9,J0,c1,K0,d1,c22,rfl,g0,h2,h8,P0,Q0,a1,b1,i0,r0,j0,s0,k0,t0⟩:=RTrc.fm F;have Gl:=G;have g:=rx;obtain ⟨j1,B,L,C0,D0,E0,z⟩:=rx;subst B;obtain ⟨e1,L0,rfl,V,u0⟩:=z.fm;refine zJ func13 ntmps13 fun Q hQ a J=>?_;refine Bx fun F0 w N a J=>?_;refine Bx fun G0 w N a J=>?_;refine Alc fun H0 w N a J=>?_;refine dA call25 (fun Y k1 w l f0 N a J=>?_) (fun Y w l N a J=>?_) (c:=mH b Gl N);replace N:=N.nf;refine Qq (fun a J=>?_) (o:=by exact fun J O=>xA false J rfl rfl rfl);have j:=zC l;have GP:=wV j;have S:=z2b j;refine dA call33 (fun d a0 w e h N a J=>?_) (fun d w e N a J=>?_) (c:=q0g b GP g Gl N);replace b:=RTrc.mono _ _ _ _ h.1 b;replace g:=RRw.mono _ _ _ _ h.1 g;have m:=h.2;obtain ⟨c0,u⟩:∃Z,Z=a0.2:=⟨_,rfl⟩;rw [<- u] at m J;have n:=m;obtain ⟨f1,c53,g1,M0,h1,N0,i1,O0,rfl,h0,R0,S0,U0,V0,l0,w0,m0,x0,n0,y0,o0,z0⟩:=RTrc.fm m;replace N:=N.nf;refine Alc fun I0 w N a J=>?_;refine Sto 0 fun w N a J=>?_;refine Qq (fun a J=>?_) (o:=by exact fun J O=>xA false J rfl rfl rfl);refine yI call34 (fun H w f N a J=>?_) (c:=z9a n (z5v GP e) (y4x S e) N);replace b:=RTrc.mono _ _ _ _ f.1 b;replace g:=RRw.mono _ _ _ _ f.1 g;replace n:=RTrc.mono _ _ _ _ f.1 n;have p:=f.2;obtain ⟨d0,v⟩:∃Z,Z=H.2:=⟨_,rfl⟩;rw [<- v] at p J;have A:=p;obtain ⟨C,x,D,y,E,r,t,s,rfl,M,X0,Y0,Z0,e0,p0,A0,q0,B0,P,W,R,X⟩:=RTrc.fm p;replace N:=N.nf;refine Sto 1 fun w N a J=>?_;refine go fun a J=>?_;have k:=N;replace N:=N.dl [3,2,1,0]
 refine hQ _ _ _ (qU (i:=1) (cs:=[.slice C d.cons.length x,.slice D d.inputs.length y,.slice E d.funs.length r,.slice t d.outputs.length s]) J k.toSees results13 rfl rfl isAgg26 sizeOf26 rfl rfl ?_);rw [tZ j,e];exact ⟨(H.1,[.slice C d.cons.length x,.slice D d.inputs.length y,.slice E d.funs.length r,.slice t d.outputs.length s]),rfl,⟨(h.1).trans f.1,A⟩,N⟩;replace N:=N.nf;have I:¬d=0:=z0h e;refine Alc fun b0 w N a J=>?_;refine Sto 0 fun w N a J=>?_;refine yE fun a J=>?_;refine Sto 1 fun w N a J=>?_;refine go fun a J=>?_;have k:=N;replace N:=N.dl [3,2,1,0];refine hQ _ _ _ (qU (i:=1) (cs:=[ZB,ZB,ZB,ZB]) J k.toSees results13 rfl rfl isAgg26 sizeOf26 rfl rfl ?_);rw [tZ j,e];exact ⟨rfl,N⟩;replace N:=N.nf;refine Qq (fun a J=>?_) (o:=by exact fun J O=>xA true J rfl rfl rfl);refine yE fun a J=>?_;refine Sto 0 fun w N a J=>?_;refine go fun a J=>?_;have k:=N;replace N:=N.dl [2,1,0];refine hQ _ _ _ (qU (i:=0) (cs:=[ZB,ZB,ZB,ZB]) J k.toSees results13 rfl rfl isAgg26 sizeOf26 rfl rfl ?_);rw [z8b (zP l)];exact ⟨rfl,N⟩
theorem At_ok {tc:List Value} {T:Trc} {fn:Int} {vp:Value} {path:List Int} (Y:RTrc Φ tc T) (hp:SliceOf RInt Φ 1 vp path) (G:Glob Φ) (N:Mem Φ K w) :
  Calls prog 19 #[.agg tc.toArray,.int .i64 fn,vp] w (fun ee w'=>Out (atC T fn path) (fun x=>∃q:Fz×List Value,ee=.returned (.tuple #[.agg q.2.toArray,.int .i64 0])/\(Φ.Le q.1/\RTE q.1 q.2 x)/\Mem q.1 K w') (fun c=>ee=.returned (.tuple #[.agg zTE.toArray,.int .i64 c])/\Mem Φ K w')):=by
 have e:=Y;obtain ⟨p3,c4,p9,x1,N1,y1,O1,c22,rfl,X0,h2,h8,c0,F1,L1,M1,b1,i1,c1,X,d1,j1⟩:=RTrc.fm Y;have Gl:=G;obtain ⟨P1,z1,rfl,o0,k1⟩:=hp.fm;refine zJ func19 ntmps19 fun Q hQ a J=>?_;refine Bx fun u1 w N a J=>?_;refine Alc fun v1 w N a J=>?_;refine dA call25 (fun z0 Y1 w B S0 N a J=>?_) (fun z0 w B N a J=>?_) (c:=mH e Gl N);replace N:=N.nf;refine Qq (fun a J=>?_) (o:=by exact fun J O=>xA false J rfl rfl rfl);have h:=zC B;have GP:=wV h;have S:=z2b h;by_cases d0:fn < 0;refine yE fun a J=>?_;refine Sto 0 fun w N a J=>?_;refine go fun a J=>?_;have k:=N;replace N:=N.dl [1,0];refine hQ _ _ _ (qU (i:=0) (cs:=ZT) J k.toSees results19 rfl rfl isAgg48 sizeOf48 rfl rfl ?_);rw [atC_fn h (.inl d0)];exact ⟨rfl,N⟩;by_cases G1:((T.funs.length:Nat):Int)<=fn;refine yE fun a J=>?_;refine Sto 0 fun w N a J=>?_;refine go fun a J=>?_;have k:=N;replace N:=N.dl [1,0];refine hQ _ _ _ (qU (i:=0) (cs:=ZT) J k.toSees results19 rfl rfl isAgg48 sizeOf48 rfl rfl ?_);rw [atC_fn h (.inr (by omega))];exact ⟨rfl,N⟩;refine go fun a J=>?_;have n:=N;have m:=J;clear N J;obtain ⟨n_,rfl⟩:∃n_:Nat,fn=(n_:Int):=⟨fn.toNat,by omega⟩;have N:=n;have J:=m;clear n m;have M:n_ < T.funs.length:=by omega
 refine go fun a J=>?_;have n:=N;have m:=J;clear N J;obtain ⟨W1,rfl⟩:=X (zO M);have N:=n;have J:=m;clear n m;obtain ⟨X1,j⟩:=zW M;obtain ⟨K0,a1,l,p⟩:=c0.elem j;obtain ⟨Q1,A1,w1,rfl,H1,z,e1,l1⟩:=RTFn.fm p;obtain ⟨R1,B1,S1,C1,T1,D1,rfl,Y0,Z0,I1,J1,K1,f1,m1,g1,n1,h1,o1⟩:=RTE.fm z;refine yE fun a J=>?_;refine go fun a J=>?_;refine st J rfl rfl rfl (nG J rfl call40 (z7z (At.part3 l) z (by have h_:=(GP.fit.fn j).2;rw [lnQ] at h_;omega) hp N) (fun b f w t g N a J=>?_) (fun b f w t N a J=>?_));replace e:=RTrc.mono _ _ _ _ g.1 e;replace l:=l.mono g.1;replace p:=RTFn.mono _ _ _ _ g.1 p;replace z:=RTE.mono _ _ _ _ g.1 z;have C:=g.2;obtain ⟨L0,V⟩:∃x_,x_=f.2:=⟨_,rfl⟩;rw [<- V] at C J;have u:=C;obtain ⟨A0,B0,U1,E1,rfl,U0,V0,A,D,L,v⟩:=id C;replace A:SliceOf RInt f.1 1 A0 path:=A;replace D:SliceOf RPtE f.1 1 B0 b.1:=D;replace v:RTE f.1 _ b.2:=v;obtain ⟨V1,F0,rfl,Z,p0⟩:=A.fm;obtain ⟨q1,G0,rfl,a0,q0⟩:=D.fm;have r:=v;obtain ⟨r1,H0,s1,I0,t1,J0,rfl,e0,f0,M0,N0,O0,i0,r0,j0,s0,k0,t0⟩:=RTE.fm v;replace N:=N.nf;refine Alc fun D0 w N a J=>?_;refine Sto 0 fun w N a J=>?_;refine yI call41 (fun y w d N a J=>?_) (c:=q5s r (GP.sm (mgQ j) (y4s GP (mgQ j) (zS t))) N);replace e:=RTrc.mono _ _ _ _ d.1 e;replace l:=l.mono d.1;replace p:=RTFn.mono _ _ _ _ d.1 p;replace z:=RTE.mono _ _ _ _ d.1 z;replace L:=L.mono d.1;replace r:=RTE.mono _ _ _ _ d.1 r;replace u:=RFnd.mono _ _ _ _ d.1 u;have s:RTE y.1 y.2 b.2:=by have h_:=d.2;rw [z5q] at h_;exact h_
 obtain ⟨b0,E⟩:∃x_,x_=y.2:=⟨_,rfl⟩;rw [<- E] at s J;have W:=s;obtain ⟨P,F,R,H,U,I,rfl,g0,h0,P0,Q0,R0,l0,u0,m0,w0,n0,x0⟩:=RTE.fm s;replace N:=N.nf;refine Sto 1 fun w N a J=>?_;refine go fun a J=>?_;have k:=N;replace N:=N.dl [2,1,0];refine hQ _ _ _ (qU (i:=1) (cs:=[.int .i64 (b.2.kind),.string b.2.name,.string b.2.op,.int .i64 (b.2.num),.int .i64 (b.2.site),.slice P b.2.args.length F,.slice R b.2.arms.length H,.slice U b.2.body.length I]) J k.toSees results19 rfl rfl isAgg48 sizeOf48 rfl rfl ?_);rw [atC_ok h j (zS t)];exact ⟨(y.1,[.int .i64 (b.2.kind),.string b.2.name,.string b.2.op,.int .i64 (b.2.num),.int .i64 (b.2.site),.slice P b.2.args.length F,.slice R b.2.arms.length H,.slice U b.2.body.length I]),rfl,⟨(g.1).trans d.1,W⟩,N⟩;replace N:=N.nf;refine Alc fun E0 w N a J=>?_;refine st0 J rfl rfl (zQ 0 (cs:=[ZB,ZB,.pointer none]) (vs:=[f.1.1,f.1.2.1,.pointer (some f.1.2.2)]) J N rfl rfl rfl rfl sizeOf90 rfl (kC f.2.1 (kC f.2.2 (kC rfl rfl))) rfl fun w N a J=>?_);replace N:=N.nf;refine yE fun a J=>?_;refine Sto 1 fun w N a J=>?_;refine go fun a J=>?_;have k:=N;replace N:=N.dl [2,1,0];refine hQ _ _ _ (qU (i:=1) (cs:=ZT) J k.toSees results19 rfl rfl isAgg48 sizeOf48 rfl rfl ?_);rw [j4a h j (yK t)];exact ⟨rfl,N⟩;replace N:=N.nf;refine Qq (fun a J=>?_) (o:=by exact fun J O=>xA true J rfl rfl rfl);refine yE fun a J=>?_;refine Sto 0 fun w N a J=>?_;refine go fun a J=>?_;have k:=N;replace N:=N.dl [1,0]
 refine hQ _ _ _ (qU (i:=0) (cs:=ZT) J k.toSees results19 rfl rfl isAgg48 sizeOf48 rfl rfl ?_);rw [atC_bad (zP B)];exact ⟨rfl,N⟩
theorem j3p {tc:List Value} {T:Trc} (f:RTrc Φ tc T) (G:Glob Φ) (N:Mem Φ K w) :
  Calls prog 14 #[.agg tc.toArray] w (fun ee w'=>Out (dem (zM T)) (fun _=>∃y:Unit,ee=.returned (.tuple #[.int .i64 ((qF T:Nat):Int),.int .i64 0])/\True/\Mem Φ K w') (fun _=>ee=.returned (.tuple #[.int .i64 0,.int .i64 120])/\Mem Φ K w')):=by
 have d:=f;obtain ⟨E,c4,F,r,z,s,A,c22,rfl,i,C,D,t,u,v,x,j,m,k,n,l,p⟩:=RTrc.fm f;have Gl:=G;refine zJ func14 ntmps14 fun Q hQ a J=>?_;refine Bx fun q w N a J=>?_;refine dA call25 (fun g B w b h N a J=>?_) (fun g w b N a J=>?_) (c:=mH d Gl N);replace N:=N.nf;refine Qq (fun a J=>?_) (o:=by exact fun J O=>xA false J rfl rfl rfl);have e:=zC b;have GP:=wV e;have S:=z2b e;refine zE call35 (fun w N a J=>?_) (c:=j7n d GP.fit N);refine z4g ?_;replace N:=N.dl [0];rw [b];exact ⟨(),rfl,trivial,N⟩;replace N:=N.nf;refine Qq (fun a J=>?_) (o:=by exact fun J O=>xA true J rfl rfl rfl);refine z4g ?_;replace N:=N.dl [0];rw [b];exact ⟨rfl,N⟩
end
theorem j2j {Φ:Fz} {K:List Res} {w:World} {gf:Nat} {fs cs:List Value} {items:List Rw} {bt bo:Nat} {tc:List Value} {ov:Value} {oc:List Value} {T:Trc} {out:List Rw} (F0:Iter prog Φ gf fs cs RRw items) (E0:∀args w,(callFunc gf args).run prog w=.ok (.enter gf args) w) (h6:∀x∈items,x.rule≠6) (J0:RTrc Φ tc T) (GP:GoodP T) (I0:Chunks (RRw Φ) 4 oc out) (s0:out.length<=500) (G:Glob Φ) (N:Mem Φ (.gs ov 36 4 oc::.blk bt (ob tc 26)::.blk bo (ob [ov] 27)::K) w) :
  Calls prog 36 #[.func (.func gf) fs.toArray cs.toArray,.pointer (some ⟨bt,0,none⟩),.pointer (some ⟨bo,0,none⟩)] w (fun ee w'=>∃q:Fz×List Value×Value×List Value,ee=.returned (.bool (vK T out items).isSome)/\(Φ.Le q.1/\RTrc q.1 q.2.1 (curT T (vK T out items))/\Chunks (RRw q.1) 4 q.2.2.2 (curO out (vK T out items))/\(curO out (vK T out items)).length<=500)/\Mem q.1 (.gs q.2.2.1 36 4 q.2.2.2::.blk bt (ob q.2.1 26)::.blk bo (ob [q.2.2.1] 27)::K) w'):=by
 have Gl:=G;have d:=J0;refine sX func36 rfl ntmps36 rfl (fun Q hQ a J=>?_);refine Alc fun b2 w N a J=>?_;refine go fun a J=>?_;refine oA (p:=9) RRw (items) .ret ((gZ T out)) (fun Ψ_ s_ b_ z_=>optGd T out Ψ_ s_ b_ z_) (fun s_ b_ z_=>.blk b2 (ob [.bool s_.isSome] 4)::.gs (z_.2.1) 36 4 z_.2.2::.blk bt (ob z_.1 26)::.blk bo (ob [z_.2.1] 27)::K) (none:OptS) ((tc,ov,oc):List Value×Value×List Value) J ⟨d,I0,s0,fun _=>rfl⟩ N rfl E0 rfl (fun _ _ _ _ _ G0 h_=>optGd.mono h_ G0) (fun Ψr_ s_ z_ A1 x_ l_ J1 K1 m1 a w f H F m J N=>?_) (F0) (fun hr_ Dk Ψr_ r a w f m J N=>?_) (fun hr_ Dk Ψr_ r a w f m J N=>?_);replace Gl:=Gl.mono f;replace d:=RTrc.mono _ _ _ _ f d;replace N:=N.nf;obtain ⟨M,D,o,I⟩:=x_;obtain ⟨y,n,u⟩:=z_;obtain ⟨j,b,g,y0⟩:=m;obtain rfl:s_=none:=y0 rfl;replace b:Chunks (RRw Ψr_) 4 u out:=b;replace g:out.length<=500:=g;replace j:RTrc Ψr_ y T:=j;replace N:=N.nf;have t:=j;obtain ⟨p8,c9,X,P,Y,c21,Z,R,rfl,O0,h7,B1,C1,D1,Q0,a1,R0,b1,S0,c1,U0,d1⟩:=RTrc.fm j;replace N:=N.nf;have k:=F;obtain ⟨L1,x0,B0,j1,k1,l1,u0⟩:=F;subst x0;obtain ⟨L,z,rfl,H0,e1⟩:=u0.fm;refine xM ?_;refine kA J rfl rfl rfl (by intro c h;cases h) (qW (cs:=[ZA,ZA,ZB,ZA]) N zeroValue36 rfl fun x1 w N a J=>?_);refine xF J rfl rfl (by intro c h;cases h) (zQ 0 (cs:=[ZA,ZA,ZB,ZA]) (vs:=[.int .i64 (M),.int .i64 (D),.slice L o.length z,.int .i64 (I)]) J N rfl rfl rfl rfl sizeOf36 rfl rfl rfl fun w N a J=>?_);replace N:=N.nf;refine zZ ?_;replace N:=N.pl 1;refine ⟨_,N,fun w N=>?_⟩;replace N:=N.nf;refine gJ ?_
 refine sqI fun n1 e0=>?_;refine xM ?_
 refine zG J (by intro c h;cases h) (qG 4 (vs:=[.slice p8 T.cons.length c9,.slice X T.inputs.length P,.slice Y T.funs.length c21,.slice Z T.outputs.length R]) J N.toSees rfl rfl isAgg26 sizeOf26 rfl rfl) rfl fun a J=>
   zG J (by intro c h;cases h) (qG 1 (vs:=[.int .i64 (M),.int .i64 (D),.slice L o.length z,.int .i64 (I)]) J N.toSees rfl rfl isAgg36 sizeOf36 rfl rfl) rfl fun a J=>?_
 refine kA J rfl rfl rfl (by intro c h;cases h) (uE J rfl call33 (q0g t GP k Gl N) (fun e j0 w s l N a J=>?_) (fun e w s N a J=>?_));replace d:=RTrc.mono _ _ _ _ l.1 d;replace b:=b.mono fun _ _ h=>RRw.mono _ _ _ _ l.1 h;replace t:=RTrc.mono _ _ _ _ l.1 t;replace k:=RRw.mono _ _ _ _ l.1 k;have E:=l.2;obtain ⟨M0,h0⟩:∃x_,x_=j0.2:=⟨_,rfl⟩;rw [<- h0] at E J;have w0:=E;obtain ⟨a0,c48,b0,S,c0,U,d0,V,rfl,P0,E1,F1,G1,H1,V0,f1,X0,g1,Y0,h1,Z0,i1⟩:=RTrc.fm E;replace N:=N.nf
 refine zG J (by intro c h;cases h) (yZ J rfl) rfl fun a J=>
   zG J (by intro c h;cases h) (xO J rfl rfl) rfl fun a J=>
   zG J (by intro c h;cases h) (xO J rfl rfl) rfl fun a J=>?_
 refine kA J rfl rfl rfl (by intro c h;cases h) (qW (cs:=[ZB,ZB,ZB,ZB]) N zeroValue26 rfl fun y1 w N a J=>?_);refine xF J rfl rfl (by intro c h;cases h) (zQ 0 (cs:=[ZB,ZB,ZB,ZB]) (vs:=[.slice a0 e.cons.length c48,.slice b0 e.inputs.length S,.slice c0 e.funs.length U,.slice d0 e.outputs.length V]) J N rfl rfl rfl rfl sizeOf26 rfl rfl rfl fun w N a J=>?_);replace N:=N.nf;refine zG J (by intro c h;cases h) (jE J rfl) rfl fun a J=>?_;refine zZ ?_;apply e0;refine sqI fun o1 l0=>?_;refine sqI fun p1 f0=>?_;refine xM ?_
 refine zG J (by intro c h;cases h) (yZ J rfl) rfl fun a J=>
   zG J (by intro c h;cases h) (xA false J rfl rfl rfl) rfl fun a J=>
   zG J (by intro c h;cases h) (yZ J rfl) rfl fun a J=>?_
 refine mS J rfl rfl rfl rfl rfl (by intro c h;cases h) (dG (yH 6 J N.toSees rfl rfl rfl isAgg27) fun a J=>?_);refine mS J rfl rfl rfl rfl rfl (by intro c h;cases h) (dG (mY 4 (out.length) J N.toSees rfl rfl (by rw [b.length]) (by decide) runUnderlying27) fun a J=>?_);by_cases W:out.length=500;refine mS J rfl rfl rfl rfl rfl (by intro c h;cases h) (dG (qL true J rfl rfl (decide_eq_true (congrArg Int.ofNat W))) fun a J=>?_);refine zG J (by intro c h;cases h) (z5r J rfl rfl) rfl fun a J=>?_;refine zZ ?_;apply f0;refine mD J rfl ?_;refine sqI fun q1 m0=>?_;refine xM ?_;refine xF J rfl rfl (by intro c h;cases h) (zQ 3 (cs:=[.bool false]) (vs:=[.bool false]) J N rfl rfl rfl rfl sizeOf4 rfl rfl rfl fun w N a J=>?_);replace N:=N.nf;refine zZ ?_;apply m0;refine wpIn_ret ?_;replace N:=N.dl [2,0];rw [q9q (h6 _ H) s W];exact ⟨rfl,j0.1,(([.slice p8 T.cons.length c9,.slice X T.inputs.length P,.slice Y T.funs.length c21,.slice Z T.outputs.length R],n,_):List Value×Value×List Value),(l.1),⟨t,b,g,(fun h_=>by cases h_)⟩,N⟩;refine mS J rfl rfl rfl rfl rfl (by intro c h;cases h) (dG (qL false J rfl rfl (decide_eq_false (fun hh=>W (Int.ofNat.inj hh)))) fun a J=>?_);refine zG J (by intro c h;cases h) (z5r J rfl rfl) rfl fun a J=>?_;refine zZ ?_;apply f0;refine wP J rfl ?_;refine pE ?_;apply l0;refine sqI fun r1 n0=>?_;refine xM ?_
 refine zG J (by intro c h;cases h) (qG 0 (vs:=[.slice a0 e.cons.length c48,.slice b0 e.inputs.length S,.slice c0 e.funs.length U,.slice d0 e.outputs.length V]) J N.toSees rfl rfl isAgg26 sizeOf26 rfl rfl) rfl fun a J=>?_;refine xF J rfl rfl (by intro c h;cases h) (zQ 5 (cs:=[.slice p8 T.cons.length c9,.slice X T.inputs.length P,.slice Y T.funs.length c21,.slice Z T.outputs.length R]) (vs:=[.slice a0 e.cons.length c48,.slice b0 e.inputs.length S,.slice c0 e.funs.length U,.slice d0 e.outputs.length V]) J N rfl rfl rfl rfl sizeOf26 rfl rfl rfl fun w N a J=>?_);replace N:=N.nf;refine zZ ?_;apply n0;refine sqI fun s1 o0=>?_;refine xM ?_
 refine zG J (by intro c h;cases h) (yH 6 J N.toSees rfl rfl rfl isAgg27) rfl fun a J=>
   zG J (by intro c h;cases h) (qG 2 (vs:=[.int .i64 (M),.int .i64 (D),.slice L o.length z,.int .i64 (I)]) J N.toSees rfl rfl isAgg36 sizeOf36 rfl rfl) rfl fun a J=>?_
 refine kA J rfl rfl rfl (by intro c h;cases h) (qA (sz:=4) (cs:=[.int .i64 (M),.int .i64 (D),.slice L o.length z,.int .i64 (I)]) J N rfl (pQ runUnderlying27 sizeOf36 zeroValue36 rfl (by decide) rfl) rfl (by decide) fun M1 w N _ a J=>?_);refine kA J rfl rfl rfl (by intro c h;cases h) (wX 5 (xs:=u) (news:=[.int .i64 (M),.int .i64 (D),.slice L o.length z,.int .i64 (I)]) rt_27 J N rfl rfl rfl (N.toSees.rowIn (i:=0) rfl) rfl (by rw [b.length];simp only [lcQ,lnQ];omega) fun A0 w N a J=>?_);replace N:=N.nf;refine xF J rfl rfl (by intro c h;cases h) (zQ 7 (cs:=[n]) (vs:=[A0]) J N rfl rfl rfl (N.toSees.gsCells (i:=5) rfl) sizeOf27 rfl (N.toSees.gsOne (i:=5) rfl) rfl fun w N a J=>?_);replace N:=N.nf;refine zZ ?_;apply o0;refine sqI fun t1 p0=>?_;refine xM ?_;refine xF J rfl rfl (by intro c h;cases h) (zQ 4 (cs:=[.bool false]) (vs:=[.bool true]) J N rfl rfl rfl rfl sizeOf4 rfl rfl rfl fun w N a J=>?_);replace N:=N.nf;refine zZ ?_;apply p0;refine wpIn_ret ?_;replace N:=N.dl [3,1,0];rw [x4n (h6 _ H) s W];exact ⟨rfl,j0.1,(([.slice a0 e.cons.length c48,.slice b0 e.inputs.length S,.slice c0 e.funs.length U,.slice d0 e.outputs.length V],A0,_):List Value×Value×List Value),(l.1),⟨w0,b.append (yX rfl k),by show (out++[_]).length<=500;rw [laQ,List.length_singleton];omega,(fun h_=>by cases h_)⟩,N⟩;replace N:=N.nf;have i0:¬e=0:=z0h s
 refine zG J (by intro c h;cases h) (yZ J rfl) rfl fun a J=>
   zG J (by intro c h;cases h) (xO J rfl rfl) rfl fun a J=>
   zG J (by intro c h;cases h) (xO J rfl rfl) rfl fun a J=>?_
 refine kA J rfl rfl rfl (by intro c h;cases h) (qW (cs:=[ZB,ZB,ZB,ZB]) N zeroValue26 rfl fun z1 w N a J=>?_);refine xF J rfl rfl (by intro c h;cases h) (zQ 0 (cs:=[ZB,ZB,ZB,ZB]) (vs:=[ZB,ZB,ZB,ZB]) J N rfl rfl rfl rfl sizeOf26 rfl rfl rfl fun w N a J=>?_);replace N:=N.nf;refine zG J (by intro c h;cases h) (jE J rfl) rfl fun a J=>?_;refine zZ ?_;apply e0;refine sqI fun u1 N0=>?_;refine sqI fun v1 q0=>?_;refine xM ?_
 refine zG J (by intro c h;cases h) (yZ J rfl) rfl fun a J=>
   zG J (by intro c h;cases h) (xA true J rfl rfl (congrArg Bool.not (decide_eq_false i0))) rfl fun a J=>
   zG J (by intro c h;cases h) (yZ J rfl) rfl fun a J=>
   tA J rfl rfl rfl rfl rfl rfl fun a J=>
   tA J rfl rfl rfl rfl rfl rfl fun a J=>
   tA J rfl rfl rfl rfl rfl rfl fun a J=>
   zG J (by intro c h;cases h) (z5r J rfl rfl) rfl fun a J=>?_
 refine zZ ?_;apply q0;refine mD J rfl ?_;refine sqI fun w1 r0=>?_;refine xM ?_;refine xF J rfl rfl (by intro c h;cases h) (zQ 3 (cs:=[.bool false]) (vs:=[.bool false]) J N rfl rfl rfl rfl sizeOf4 rfl rfl rfl fun w N a J=>?_);replace N:=N.nf;refine zZ ?_;apply r0;refine wpIn_ret ?_;replace N:=N.dl [2,0];rw [j7g (h6 _ H) s];exact ⟨rfl,Ψr_,(([.slice p8 T.cons.length c9,.slice X T.inputs.length P,.slice Y T.funs.length c21,.slice Z T.outputs.length R],n,_):List Value×Value×List Value),(Fz.Le.refl _),⟨t,b,g,(fun h_=>by cases h_)⟩,N⟩;replace d:=RTrc.mono _ _ _ _ f d;replace N:=(Mem.mid (A:=[.blk Dk (.deferred (some []))]) (B:=[.blk b2 (ob [.bool (zL (gZ T out) none items).1.isSome] 4),.gs (r.2.1) 36 4 r.2.2,.blk bt (ob r.1 26),.blk bo (ob [r.2.1] 27)]) (C:=yV []++K) N).nq;replace N:=N.nm;obtain ⟨y,n,u⟩:=r;rw [y6h] at m N;obtain ⟨j,b,g,_⟩:=m;replace N:=N.nf;have t0:=j6n hr_;refine Sto 0 fun w N a J=>?_;refine go fun a J=>?_;replace N:=(Mem.mid (A:=[.blk b2 (ob [.bool false] 4),.gs (n) 36 4 u,.blk bt (ob y 26),.blk bo (ob [n] 27)]) (B:=yV (Dk::[])) (C:=K) N).nq;refine hQ _ _ _ (q4j (ds:=(Dk::[])) (v:=.bool false) J results36 rfl isAgg4 N fun w N=>?_);rw [t0] at j b g ⊢;exact ⟨(Ψr_,y,n,u),rfl,⟨f,j,b,g⟩,N⟩;replace d:=RTrc.mono _ _ _ _ f d;replace N:=(Mem.mid (A:=[.blk Dk (.deferred (some []))]) (B:=[.blk b2 (ob [.bool (zL (gZ T out) none items).1.isSome] 4),.gs (r.2.1) 36 4 r.2.2,.blk bt (ob r.1 26),.blk bo (ob [r.2.1] 27)]) (C:=yV []++K) N).nq;replace N:=N.nm;obtain ⟨y,n,u⟩:=r
 rw [y6h] at m N;obtain ⟨j,b,g,_⟩:=m;replace N:=N.nf;replace N:=(Mem.mid (A:=[.blk b2 (ob [.bool (vK T out items).isSome] 4),.gs (n) 36 4 u,.blk bt (ob y 26),.blk bo (ob [n] 27)]) (B:=yV (Dk::[])) (C:=K) N).nq;refine hQ _ _ _ (q4j (ds:=(Dk::[])) (v:=.bool (vK T out items).isSome) J results36 rfl isAgg4 N fun w N=>?_);exact ⟨(Ψr_,y,n,u),rfl,⟨f,j,b,g⟩,N⟩
theorem z5s {Φ:Fz} {K:List Res} {w:World} {tc:List Value} {T:Trc} (c2:RTrc Φ tc T) (G:Glob Φ) (N:Mem Φ K w) :
  Calls prog 16 #[.agg tc.toArray] w (fun ee w'=>Out (dem (zM T)) (fun _=>∃q:Fz×List Value×Value,ee=.returned (.tuple #[.agg q.2.1.toArray,q.2.2,.int .i64 0])/\(Φ.Le q.1/\RTrc q.1 q.2.1 (xL T).1/\SliceOf RRw q.1 4 q.2.2 (xL T).2/\z2a q.2.2)/\Mem q.1 K w') (fun _=>ee=.returned (.tuple #[.agg zTrc.toArray,ZB,.int .i64 120])/\Mem Φ K w')):=by
 have b:=c2;obtain ⟨s1,s7,S4,T4,rfl,F3,h2,h8,p2,q2⟩:=id c2;obtain ⟨p3,c4,rfl,M4,N4⟩:=h2.fm;obtain ⟨p9,j2,rfl,I3,R3⟩:=h8.fm;obtain ⟨l3,k2,rfl,J3,S3⟩:=p2.fm;obtain ⟨m3,c22,rfl,K3,U3⟩:=q2.fm;have Gl:=G;refine zJ func16 ntmps16 fun Q hQ a J=>?_;refine Bx fun q1 w N a J=>?_;refine Alc fun H4 w N a J=>?_;refine go fun a J=>?_;refine st J rfl rfl rfl (uE J rfl call25 (mH b Gl N) (fun s3 b5 w m0 D3 N a J=>?_) (fun s3 w m0 N a J=>?_));replace N:=N.nf;refine Qq (fun a J=>?_) (o:=by exact fun J O=>xA false J rfl rfl rfl);refine Alc fun r1 w N a J=>?_;refine go fun a J=>?_;replace N:=N.nilRow 36 4;replace N:=N.nf;have i1:=zC m0;have GP:=wV i1;have S:=z2b i1;refine go fun a J=>?_;refine yO (J.ks [1,2,6,7]) N (fun R mm a w=>∃(Y:Fz) (Q0:Nat) (T1:Trc) (e0:List Rw) (O0:List Value) (q0:Value) (s0:List Value),mm=501 - e0.length/\R Y [] [(0,.gs (q0) 36 4 s0),(1,.blk r1 (ob [q0] 27)),(3,.blk q1 (ob O0 26))] a w/\(Φ.Le Y/\(xL T=y3y Q0 T1 e0/\502<=Q0+e0.length/\GoodP T1/\SmP T1/\RTrc Y O0 T1/\Chunks (RRw Y) 4 s0 e0/\e0.length<=500))) (501 - (([]:List Rw)).length) ⟨Φ,502,T,([]:List Rw),[.slice p3 T.cons.length c4,.slice p9 T.inputs.length j2,.slice l3 T.funs.length k2,.slice m3 T.outputs.length c22],ZB,[],rfl,⟨J.pk,N⟩,⟨Fz.Le.refl _,⟨rfl,by simp,GP,S,b,rfl,by simp⟩⟩⟩ ?_;clear N J;rintro mm a w ⟨Y,Q0,T1,e0,O0,q0,s0,E0,⟨J,N⟩,w0⟩ E4 Y1;replace N:=N.nf;obtain ⟨p0,w0⟩:=w0;replace b:=RTrc.mono _ _ _ _ p0 b;replace Gl:=Gl.mono p0;refine go fun a J=>?_;obtain ⟨n0,E3,x1,D1,d,B1,C0⟩:=w0;have f:=d
 obtain ⟨U4,V4,W4,X4,rfl,G3,r2,s2,t2,u2⟩:=id d;obtain ⟨n3,c50,rfl,L3,V3⟩:=r2.fm;obtain ⟨o3,l2,rfl,M3,W3⟩:=s2.fm;obtain ⟨q3,m2,rfl,N3,X3⟩:=t2.fm;obtain ⟨r3,n2,rfl,O3,Y3⟩:=u2.fm;replace N:=N.nf;refine go fun a J=>?_;refine yO (J.ks [1,2,6,7,18]) N (fun R mm a w=>∃(Z:Fz) (i:Nat) (F:Trc) (B:List Rw) (u0:List Value) (r0:Value) (t0:List Value),mm=T1.funs.length - i/\R Z [(19,.int .i64 i)] [(0,.gs (r0) 36 4 t0),(1,.blk r1 (ob [r0] 27)),(3,.blk q1 (ob u0 26))] a w/\(Y.Le Z/\(z1f T1.funs.length T1 e0=z1e T1.funs.length i F B/\F.funs.length=T1.funs.length/\e0.length<=B.length/\GoodP F/\SmP F/\RTrc Z u0 F/\Chunks (RRw Z) 4 t0 B/\B.length<=500))) (T1.funs.length - 0) ⟨Y,0,T1,e0,[.slice n3 T1.cons.length c50,.slice o3 T1.inputs.length l2,.slice q3 T1.funs.length m2,.slice r3 T1.outputs.length n2],q0,s0,rfl,⟨J.pk,N⟩,⟨Fz.Le.refl _,⟨x3r _ _ _,rfl,Nat.le_refl _,x1,D1,f,B1,C0⟩⟩⟩ ?_;clear N J;rintro mm a w ⟨Z,i,F,B,u0,r0,t0,E0,⟨J,N⟩,x0⟩ F4 Z1;replace N:=N.nf;obtain ⟨W,x0⟩:=x0;replace b:=RTrc.mono _ _ _ _ W b;replace Gl:=Gl.mono W;replace d:=RTrc.mono _ _ _ _ W d;replace f:=RTrc.mono _ _ _ _ W f;obtain ⟨c0,y2,i3,U,j0,g,n,D0⟩:=x0;by_cases v1:i < T1.funs.length;refine go fun a J=>?_
 refine yO (J.ks [1,2,6,7,8,18,19]) N (fun R mm a w=>∃(g0:Fz) (b1:Nat) (T3:Trc) (H:List Rw) (P0:List Value) (I0:Value) (K0:List Value),mm=501 - H.length/\R g0 [] [(0,.gs (I0) 36 4 K0),(1,.blk r1 (ob [I0] 27)),(3,.blk q1 (ob P0 26))] a w/\(Z.Le g0/\(nZ 501 F B i=nZ b1 T3 H i/\b1+H.length=501+B.length/\T3.funs.length=F.funs.length/\B.length<=H.length/\GoodP T3/\SmP T3/\RTrc g0 P0 T3/\Chunks (RRw g0) 4 K0 H/\H.length<=500))) (501 - B.length) ⟨Z,501,F,B,u0,r0,t0,rfl,⟨J.pk,N⟩,⟨Fz.Le.refl _,⟨rfl,rfl,rfl,Nat.le_refl _,U,j0,g,n,D0⟩⟩⟩ ?_;clear N J;rintro mm a w ⟨g0,b1,T3,H,P0,I0,K0,E0,⟨J,N⟩,y0⟩ G4 a2;replace N:=N.nf;obtain ⟨L,y0⟩:=y0;replace b:=RTrc.mono _ _ _ _ L b;replace Gl:=Gl.mono L;replace d:=RTrc.mono _ _ _ _ L d;replace f:=RTrc.mono _ _ _ _ L f;replace g:=RTrc.mono _ _ _ _ L g;replace n:=n.mono fun _ _ h=>RRw.mono _ _ _ _ L h;refine go fun a J=>?_;obtain ⟨o0,H3,w1,j3,a0,G0,D,V,y1⟩:=y0;obtain ⟨F_,x2⟩:=zW (show i < T3.funs.length from by omega);have C:=D;obtain ⟨Y4,Z4,m4,n4,rfl,z2,v2,w2,J1,K1⟩:=id D;obtain ⟨Q4,I4,rfl,P3,Z3⟩:=v2.fm;obtain ⟨R4,J4,rfl,Q3,a4⟩:=w2.fm;obtain ⟨b4,u3,rfl,D2,R2⟩:=J1.fm;obtain ⟨d4,v3,rfl,E2,S2⟩:=K1.fm;replace N:=N.nf;refine yI call26 (fun A4 w r N a J=>?_) (c:=z2s C N);replace b:=RTrc.mono _ _ _ _ r.1 b;replace Gl:=Gl.mono r.1;replace d:=RTrc.mono _ _ _ _ r.1 d;replace f:=RTrc.mono _ _ _ _ r.1 f;replace g:=RTrc.mono _ _ _ _ r.1 g;replace n:=n.mono fun _ _ h=>RRw.mono _ _ _ _ r.1 h;replace D:=RTrc.mono _ _ _ _ r.1 D
 replace V:=V.mono fun _ _ h=>RRw.mono _ _ _ _ r.1 h;replace C:=RTrc.mono _ _ _ _ r.1 C;have ROP115:=r.2;replace N:=N.nf;refine yI call37 (fun B4 w l N a J=>?_) (c:=y7k N);replace b:=RTrc.mono _ _ _ _ l.1 b;replace Gl:=Gl.mono l.1;replace d:=RTrc.mono _ _ _ _ l.1 d;replace f:=RTrc.mono _ _ _ _ l.1 f;replace g:=RTrc.mono _ _ _ _ l.1 g;replace n:=n.mono fun _ _ h=>RRw.mono _ _ _ _ l.1 h;replace D:=RTrc.mono _ _ _ _ l.1 D;replace V:=V.mono fun _ _ h=>RRw.mono _ _ _ _ l.1 h;replace C:=RTrc.mono _ _ _ _ l.1 C;replace ROP115:=ROP115.mono l.1;have R0:=l.2.1;have S0:=l.2.2;replace N:=N.ar [] [1,3,2];refine st J rfl rfl rfl (kE J rfl rfl call36 (j2j (z4c R0 S0 ROP115 a0 x2 Gl) call75 (fun r_ hr_=>by have h_:=aF hr_;omega) C a0 V y1 Gl N) (fun d2 w m N a J=>?_));obtain ⟨I,N0,H0,J0⟩:=d2;simp only at m N J;replace b:=RTrc.mono _ _ _ _ m.1 b;replace Gl:=Gl.mono m.1;replace d:=RTrc.mono _ _ _ _ m.1 d;replace f:=RTrc.mono _ _ _ _ m.1 f;replace g:=RTrc.mono _ _ _ _ m.1 g;replace n:=n.mono fun _ _ h=>RRw.mono _ _ _ _ m.1 h;replace D:=RTrc.mono _ _ _ _ m.1 D;replace C:=RTrc.mono _ _ _ _ m.1 C;have y:=m.2.1;have x:=m.2.2.1;have v:=m.2.2.2;replace N:=N.nf;refine go fun a J=>?_;generalize z0:(vK T3 H (qS T3 i)).isSome=t1 at J;cases t1;refine go fun a J=>?_;have k0:(vK T3 H (qS T3 i))=none:=by have h_:=z0;revert h_;cases (vK T3 H (qS T3 i)) <;> simp
 rw [k0] at y x v;replace y:RTrc I _ T3:=y;replace x:Chunks (RRw I) 4 _ H:=x;replace v:H.length<=500:=v;replace N:=N.ar [] [1,3,3,3];refine Z1 _ _ _ (by subst E0;omega) ⟨(I),(i+1),(T3),(H),(N0),(H0),(J0),rfl,⟨J.pk,N⟩,?_⟩;refine ⟨((((W).trans L).trans r.1).trans l.1).trans m.1,?_⟩;exact ⟨q9h c0 v1 (loop_no o0 (by omega) k0),by omega,by omega,a0,G0,y,x,v⟩;refine go fun a J=>?_;obtain ⟨⟨c1,L0⟩,M⟩:=Option.isSome_iff_exists.1 z0;rw [M] at y x v;replace y:RTrc I _ c1:=y;replace x:Chunks (RRw I) 4 _ L0:=x;replace v:L0.length<=500:=v;obtain ⟨X0,Z0,g2⟩:=y6g (fun r_ hr_=>by have h_:=aF hr_;omega) M a0 G0;replace N:=N.ar [] [1,3,3,3];refine a2 _ _ _ (by subst E0;omega) ⟨(I),(b1 - 1),(c1),(L0),(N0),(H0),(J0),rfl,⟨J.pk,N⟩,?_⟩;refine ⟨(((L).trans r.1).trans l.1).trans m.1,?_⟩;exact ⟨x2i o0 (by omega) M,by omega,(x2n M).trans w1,by omega,X0,Z0,y,x,v⟩;refine go fun a J=>?_;have k:=g;obtain ⟨o4,p4,q4,r4,rfl,A2,L1,M1,N1,O1⟩:=id g;obtain ⟨e4,w3,rfl,F2,U2⟩:=L1.fm;obtain ⟨f4,x3,rfl,G2,V2⟩:=M1.fm;obtain ⟨g4,y3,rfl,H2,W2⟩:=N1.fm;obtain ⟨h4,z3,rfl,I2,X2⟩:=O1.fm;replace N:=N.nf;refine yI call26 (fun C4 w z N a J=>?_) (c:=z2s k N);replace b:=RTrc.mono _ _ _ _ z.1 b;replace Gl:=Gl.mono z.1;replace d:=RTrc.mono _ _ _ _ z.1 d;replace f:=RTrc.mono _ _ _ _ z.1 f;replace g:=RTrc.mono _ _ _ _ z.1 g;replace n:=n.mono fun _ _ h=>RRw.mono _ _ _ _ z.1 h;replace k:=RTrc.mono _ _ _ _ z.1 k;have ROP168:=z.2;replace N:=N.nf;refine yI call27 (fun D4 w s N a J=>?_) (c:=q5e N);replace b:=RTrc.mono _ _ _ _ s.1 b
 replace Gl:=Gl.mono s.1;replace d:=RTrc.mono _ _ _ _ s.1 d;replace f:=RTrc.mono _ _ _ _ s.1 f;replace g:=RTrc.mono _ _ _ _ s.1 g;replace n:=n.mono fun _ _ h=>RRw.mono _ _ _ _ s.1 h;replace k:=RTrc.mono _ _ _ _ s.1 k;replace ROP168:=ROP168.mono s.1;have U0:=s.2;replace N:=N.ar [] [1,3,2];refine st J rfl rfl rfl (kE J rfl rfl call36 (j2j (z6n U0 ROP168 U Gl) call48 (fun r_ hr_=>z1i hr_) k U n D0 Gl N) (fun e2 w t N a J=>?_));obtain ⟨X,G1,E1,F1⟩:=e2;simp only at t N J;replace b:=RTrc.mono _ _ _ _ t.1 b;replace d:=RTrc.mono _ _ _ _ t.1 d;replace f:=RTrc.mono _ _ _ _ t.1 f;replace g:=RTrc.mono _ _ _ _ t.1 g;replace k:=RTrc.mono _ _ _ _ t.1 k;have j:=t.2.1;have p:=t.2.2.1;have A:=t.2.2.2;replace N:=N.nf;refine go fun a J=>?_;generalize A0:(!(vK F B (jC F)).isSome)=u1 at J;cases u1;refine go fun a J=>?_;obtain ⟨⟨d1,M0⟩,b0⟩:=Option.isSome_iff_exists.1 (by have h_:=A0;simpa using h_);rw [b0] at j p A;replace j:RTrc X _ d1:=j;replace p:Chunks (RRw X) 4 _ M0:=p;replace A:M0.length<=500:=A;obtain ⟨Y0,a1,i2⟩:=y6g (fun r_ hr_=>z1i hr_) b0 U j0;replace N:=N.ar [] [1,3,3,3];refine Y1 _ _ _ (by subst E0;omega) ⟨(X),(Q0 - 1),(d1),(M0),(G1),(E1),(F1),rfl,⟨J.pk,N⟩,?_⟩;refine ⟨((((p0).trans W).trans z.1).trans s.1).trans t.1,?_⟩;exact ⟨x2t n0 (by omega) (y6r c0 v1) b0,by omega,Y0,a1,j,p,A⟩;refine go fun a J=>?_;have l0:(vK F B (jC F))=none:=by have h_:=(show (vK F B (jC F)).isSome=false from by have h_:=A0;simpa using h_);revert h_;cases (vK F B (jC F)) <;> simp
 rw [l0] at j p A;replace j:RTrc X _ F:=j;replace p:Chunks (RRw X) 4 _ B:=p;replace A:B.length<=500:=A;have A1:xL T=(F,B):=opt_end n0 (by omega) (y6r c0 v1) l0;have j1:=N;clear N;obtain ⟨H1,E,N,F0,B0⟩:=j1.freezeRowC (i:=0) rfl;clear j1;replace b:=RTrc.mono _ _ _ _ E b;replace d:=RTrc.mono _ _ _ _ E d;replace f:=RTrc.mono _ _ _ _ E f;replace g:=RTrc.mono _ _ _ _ E g;replace k:=RTrc.mono _ _ _ _ E k;replace j:=RTrc.mono _ _ _ _ E j;replace p:=p.mono fun _ _ h=>RRw.mono _ _ _ _ E h;replace N:=N.nf;have P:SliceOf RRw H1 4 _ (B):=⟨_,F0,p⟩;obtain ⟨b2,I1,k3,f2,Y2⟩:=P.form (by decide);have k1:=N;clear N;subst k3;have N:=k1;clear k1;have d0:=j;obtain ⟨s4,t4,u4,v4,rfl,B2,P1,Q1,R1,S1⟩:=id j;obtain ⟨i4,A3,rfl,J2,Z2⟩:=P1.fm;obtain ⟨j4,c210,rfl,K2,a3⟩:=Q1.fm;obtain ⟨k4,B3,rfl,L2,b3⟩:=R1.fm;obtain ⟨l4,C3,rfl,M2,d3⟩:=S1.fm;replace N:=N.nf;refine yP [2,0,2,0,1,1] (.q 0 (.q 2 (.e 1 (.e 3 (.q 4 (.q 5 (.done))))))) [0,1] J N fun w N=>?_;refine yI call34 (fun p1 w u N a J=>?_) (c:=z9a d0 U j0 N);replace b:=RTrc.mono _ _ _ _ u.1 b;replace d:=RTrc.mono _ _ _ _ u.1 d;replace f:=RTrc.mono _ _ _ _ u.1 f;replace g:=RTrc.mono _ _ _ _ u.1 g;replace k:=RTrc.mono _ _ _ _ u.1 k;replace j:=RTrc.mono _ _ _ _ u.1 j;replace P:=P.mono RRw.mono u.1;replace d0:=RTrc.mono _ _ _ _ u.1 d0;have i0:=u.2;obtain ⟨o2,V0⟩:∃x_,x_=p1.2:=⟨_,rfl⟩;rw [<- V0] at i0 J;have C1:=i0;obtain ⟨w4,x4,y4,z4,rfl,C2,U1,V1,W1,X1⟩:=id i0;obtain ⟨l1,e1,rfl,N2,e3⟩:=U1.fm;obtain ⟨m1,f1,rfl,O2,f3⟩:=V1.fm;obtain ⟨n1,g1,rfl,P2,g3⟩:=W1.fm
 obtain ⟨o1,h1,rfl,Q2,h3⟩:=X1.fm;replace N:=N.nf;have C0:=(Fz.Le.refl _).trans u.1;refine Sto 2 fun w N a J=>?_;refine go fun a J=>?_;have z1:=N;replace N:=N.dl [2,1,0];refine hQ _ _ _ (q9f (i:=2) (cs:=[.slice l1 F.cons.length e1,.slice m1 F.inputs.length f1,.slice n1 F.funs.length g1,.slice o1 F.outputs.length h1]) J z1.toSees results16 rfl rfl isAgg26 sizeOf26 rfl rfl rfl ?_);rw [m0,A1];exact ⟨(p1.1,[.slice l1 F.cons.length e1,.slice m1 F.inputs.length f1,.slice n1 F.funs.length g1,.slice o1 F.outputs.length h1],.slice b2 (B).length I1),rfl,⟨((((((p0).trans W).trans z.1).trans s.1).trans t.1).trans E).trans u.1,C1,P,B0⟩,N⟩;replace N:=N.nf;refine Qq (fun a J=>?_) (o:=by exact fun J O=>xA true J rfl rfl rfl);refine yE fun a J=>?_;refine Sto 0 fun w N a J=>?_;refine go fun a J=>?_;have z1:=N;replace N:=N.dl [1,0];refine hQ _ _ _ (q9f (i:=0) (cs:=[ZB,ZB,ZB,ZB]) J z1.toSees results16 rfl rfl isAgg26 sizeOf26 rfl rfl rfl ?_);rw [m0];exact ⟨rfl,N⟩
section
variable {Φ:Fz} {K:List Res} {w:World}
theorem x4p (N:Mem Φ K w) :
  Calls prog 32 #[] w (fun ee w'=>ee=.returned (.string text0)/\Mem Φ K w'):=by
 refine zJ func32 ntmps32 fun Q hQ a J=>?_;refine yG ?_;exact ⟨rfl,N⟩
theorem sC {tc:List Value} {T:Trc} (d:zM T=true) (a:RTrc Φ tc T) (G:Glob Φ) (N:Mem Φ K w) :
  Calls prog 14 #[.agg tc.toArray] w (fun ee w'=>ee=.returned (.tuple #[.int .i64 ((qF T:Nat):Int),ZA])/\Mem Φ K w'):=by
 have h:=j3p a G N;rw [show dem (zM T)=.ok () from by rw [d];rfl] at h;exact h.mono fun ee w' ⟨_,b,_,c⟩=>⟨b,c⟩
theorem sL {tc:List Value} {T:Trc} (b:zM T=true) (a:RTrc Φ tc T) (G:Glob Φ) (N:Mem Φ K w) :
  Calls prog 9 #[.agg tc.toArray] w (fun ee w'=>∃q:Fz×Value,ee=.returned (.tuple #[q.2,ZA])/\(Φ.Le q.1/\SliceOf RRw q.1 4 q.2 (qM T)/\z2a q.2)/\Mem q.1 K w'):=by
 have h:=y3p a G N;rw [show dem (zM T)=.ok () from by rw [b];rfl] at h;exact h
theorem j3t {tc rc:List Value} {T U:Trc} {r:Rw} (b:cH T r=.ok U) (rx:RRw Φ rc r) (a:RTrc Φ tc T) (G:Glob Φ) (N:Mem Φ K w) :
  Calls prog 13 #[.agg tc.toArray,.agg rc.toArray] w (fun ee w'=>∃q:Fz×List Value,ee=.returned (.tuple #[.agg q.2.toArray,ZA])/\(Φ.Le q.1/\RTrc q.1 q.2 U)/\Mem q.1 K w'):=by
 obtain ⟨ru,fn,path,nu⟩:=r;have h:=z7t a rx G N;rw [b] at h;exact h
theorem y4w {tc rc:List Value} {T:Trc} {r:Rw} {c:Int} (b:cH T r=.error c) (rx:RRw Φ rc r) (a:RTrc Φ tc T) (G:Glob Φ) (N:Mem Φ K w) :
  Calls prog 13 #[.agg tc.toArray,.agg rc.toArray] w (fun ee w'=>ee=.returned (.tuple #[.agg zTrc.toArray,.int .i64 c])/\Mem Φ K w'):=by
 obtain ⟨ru,fn,path,nu⟩:=r;have h:=z7t a rx G N;rw [b] at h;exact h
theorem atS_ok {tc:List Value} {T:Trc} {fn:Int} {vp:Value} {path:List Int} {x:TE} (c:atC T fn path=.ok x) (a:RTrc Φ tc T) (b:SliceOf RInt Φ 1 vp path) (G:Glob Φ) (N:Mem Φ K w) :
  Calls prog 19 #[.agg tc.toArray,.int .i64 fn,vp] w (fun ee w'=>∃q:Fz×List Value,ee=.returned (.tuple #[.agg q.2.toArray,ZA])/\(Φ.Le q.1/\RTE q.1 q.2 x)/\Mem q.1 K w'):=by
 have h:=At_ok (fn:=fn) a b G N;rw [c] at h;exact h
theorem oR {tc:List Value} {T:Trc} (b:zM T=true) (a:RTrc Φ tc T) (G:Glob Φ) (N:Mem Φ K w) :
  Calls prog 16 #[.agg tc.toArray] w (fun ee w'=>∃q:Fz×List Value×Value,ee=.returned (.tuple #[.agg q.2.1.toArray,q.2.2,ZA])/\(Φ.Le q.1/\RTrc q.1 q.2.1 (xL T).1/\SliceOf RRw q.1 4 q.2.2 (xL T).2/\z2a q.2.2)/\Mem q.1 K w'):=by
 have h:=z5s a G N;rw [show dem (zM T)=.ok () from by rw [b];rfl] at h;exact h
theorem q9r:(qM T0).length=4:=by
 have h:=q0c;unfold okL at h;split at h
 rename_i hl;rw [hl];rfl;cases h
theorem q5d {x:Rw} (a:(qM T0)[0]? = some x):x.rule=1:=by
 have h:=q0c;unfold okL at h;split at h
 rename_i hl;rw [hl] at a;cases a;exact of_decide_eq_true h;cases h
theorem apply0:∃U x a,cH T0 ⟨1,1,[],0⟩=.ok U/\atC U 1 []=.ok x/\x.kind=2/\x.args=[a]/\a.num=5:=by
 have h:=j7y;unfold okA at h;split at h
 rename_i U c;split at h
 rename_i x e;rw [baQ] at h;have b:=h.2;split at b
 rename_i a d;exact ⟨U,x,a,c,e,of_decide_eq_true h.1,d,of_decide_eq_true b⟩;cases b;cases h;cases h
theorem bad0:cH T0 ⟨2,1,[],0⟩=.error 150:=by
 have h:=T0_bad;unfold okE at h;split at h
 cases h;rename_i c a;rw [a,of_decide_eq_true h]
theorem opt0:4<=(xL T0).2.length/\zM (xL T0).1=true/\qF (xL T0).1=1:=by
 have h:=T0_opt;unfold okO at h;simp only [baQ,decide_eq_true_eq] at h;exact ⟨h.1.1,h.1.2,h.2⟩
theorem ex0:∃T:Trc,mU toks0 text0.size 100=some T/\zM T=true/\qF T=9/\(qM T).length=4/\(∀y:Rw,(qM T)[0]? = some y->y.rule=1)/\(∃U x a,cH T ⟨1,1,[],0⟩=.ok U/\atC U 1 []=.ok x/\x.kind=2/\x.args=[a]/\a.num=5)/\cH T ⟨2,1,[],0⟩=.error 150/\4<=(xL T).2.length/\zM (xL T).1=true/\qF (xL T).1=1 :=
 ⟨T0,T0_some,j7z,j3o,q9r,fun _ h=>q5d h,apply0,bad0,opt0⟩
theorem rw_lit1 {Φ:Fz}:RRw Φ [.int .i64 ((1:Nat):Int),.int .i64 ((1:Nat):Int),.slice none 0 0,.int .i64 ((0:Nat):Int)] ⟨1,1,[],0⟩:=⟨_,rfl,Nat.le_refl 0,(by show I64 1;unfold I64;omega),(by show I64 1;unfold I64;omega),(by show I64 0;unfold I64;omega),SliceOf.nil 1⟩
theorem rw_lit2 {Φ:Fz}:RRw Φ [.int .i64 ((2:Nat):Int),.int .i64 ((1:Nat):Int),.slice none 0 0,.int .i64 ((0:Nat):Int)] ⟨2,1,[],0⟩:=⟨_,rfl,Nat.le_refl 0,(by show I64 2;unfold I64;omega),(by show I64 1;unfold I64;omega),(by show I64 0;unfold I64;omega),SliceOf.nil 1⟩
theorem q9z:text0.size<=400000:=by decide +kernel
theorem z7p (G:Glob Φ) (N:Mem Φ K w) :
  Calls prog 11 #[] w (fun ee w'=>ee=.returned (.bool true)/\Mem Φ K w'):=by
 have Gl:=G;obtain ⟨T_,U,m,g2,s1,I,⟨U_,x_,a_,V,z0,f2,C,y0⟩,v,q1,F,r1⟩:=ex0;have P:x_.args.length=1:=by rw [C];rfl
 refine zJ func11 ntmps11 fun Q hQ a J=>?_;refine zE call32 (fun w N a J=>?_) (c:=x4p N);refine yI call31 (fun y3 w l N a J=>?_) (c:=j7w q9z x4t T0_toks U (by decide) m Gl N);obtain ⟨u2,c6⟩:=y3;simp only at l N J;replace Gl:=Gl.mono l.1;have H:=l.2;have d:=H;obtain ⟨h2,M1,i2,N1,j2,c24,k2,O1,rfl,U0,V1,W1,X1,Y1,X0,h1,Y0,i1,Z0,j1,a1,k1⟩:=RTrc.fm H;replace N:=N.nf;refine Alc fun K1 w N a J=>?_;refine Sto 0 fun w N a J=>?_;refine zE call14 (fun w N a J=>?_) (c:=sC m d Gl N);refine yI call9 (fun A0 w i N a J=>?_) (c:=sL m d Gl N);obtain ⟨G1,s2⟩:=A0;simp only at i N J;replace Gl:=Gl.mono i.1;replace d:=RTrc.mono _ _ _ _ i.1 d;have e:=i.2.1;obtain ⟨l2,c43,rfl,o0,D⟩:=e.fm;replace N:=N.nf;refine yE fun a J=>?_;refine yI call13 (fun B0 w h N a J=>?_) (c:=j3t V rw_lit1 d Gl N);obtain ⟨H1,c50⟩:=B0;simp only at h N J;replace Gl:=Gl.mono h.1;replace d:=RTrc.mono _ _ _ _ h.1 d;replace e:=e.mono RRw.mono h.1;have q:=h.2;have g:=q;obtain ⟨m2,P1,n2,Q1,o2,R1,p2,S1,rfl,V0,Z1,a2,b2,c2,b1,l1,c1,m1,d1,n1,e1,o1⟩:=RTrc.fm q;replace N:=N.nf;refine Alc fun L1 w N a J=>?_;refine Sto 0 fun w N a J=>?_;refine yI call19 (fun C0 w f N a J=>?_) (c:=atS_ok z0 g (SliceOf.nil 1) Gl N);obtain ⟨I1,c83⟩:=C0;simp only at f N J;replace Gl:=Gl.mono f.1;replace d:=RTrc.mono _ _ _ _ f.1 d;replace e:=e.mono RRw.mono f.1;replace g:=RTrc.mono _ _ _ _ f.1 g;have r:=f.2;have k:=r;obtain ⟨q2,T1,r2,U1,t1,H0,rfl,Y,Z,s,d2,e2,f1,E,g1,p1,i0,p0⟩:=RTE.fm r;replace N:=N.nf;refine Alc fun E0 w N a J=>?_;refine Sto 0 fun w N a J=>?_
 refine yE fun a J=>?_;refine zE call13 (fun w N a J=>?_) (c:=y4w v rw_lit2 d Gl N);refine Alc fun F0 w N a J=>?_;refine Sto 0 fun w N a J=>?_;refine yI call16 (fun M w b N a J=>?_) (c:=oR m d Gl N);obtain ⟨D0,I0,D1⟩:=M;simp only at b N J;replace Gl:=Gl.mono b.1;replace d:=RTrc.mono _ _ _ _ b.1 d;replace e:=e.mono RRw.mono b.1;replace g:=RTrc.mono _ _ _ _ b.1 g;replace k:=RTE.mono _ _ _ _ b.1 k;replace s:=s.mono RAtom.mono b.1;have j:=b.2.1;have n:=j;obtain ⟨u1,J0,v1,K0,w1,L0,x1,M0,rfl,a0,P0,Q0,R0,S0,j0,q0,k0,r0,l0,s0,m0,t0⟩:=RTrc.fm j;replace N:=N.nf;have p:=b.2.2.1;obtain ⟨y1,N0,rfl,R,u0⟩:=p.fm;replace N:=N.nf;refine Alc fun G0 w N a J=>?_;refine Sto 0 fun w N a J=>?_;refine zE call14 (fun w N a J=>?_) (c:=sC F n Gl N);refine Qq (fun a J=>?_) (o:=by exact fun J O=>qL true J rfl rfl rfl);refine Qq (fun a J=>?_) (o:=by exact fun J O=>qL true J rfl rfl rfl);refine Qq (fun a J=>?_) (o:=by exact fun J O=>qL true J rfl rfl rfl);refine Qq (fun a J=>?_) (o:=by exact fun J O=>qL true J rfl rfl rfl);refine Qq (fun a J=>?_) (o:=by exact fun J O=>qL true J rfl rfl rfl);refine Qq (fun a J=>?_) (o:=by exact fun J O=>qL true J rfl rfl rfl);refine Qq (fun a J=>?_) (o:=by exact fun J O=>qL true J rfl rfl rfl);refine Qq (fun a J=>?_) (o:=by exact fun J O=>qL true J rfl rfl rfl);refine go fun a J=>?_;have t:0 < (qM T_).length:=by omega
 obtain ⟨A1,rfl,E1,z,S,g0,W,x⟩:=e.el D t;obtain ⟨C1,rfl,b0,c0,d0,e0,B⟩:=id x;obtain ⟨z1,O0,rfl,n0,w0⟩:=B.fm;refine Qq (fun a J=>?_) (o:=by exact fun J O=>qL true J rfl rfl (decide_eq_true (I _ z)));refine go fun a J=>?_;have u:0 < x_.args.length:=by omega
 obtain ⟨B1,rfl,L,A,T,h0,X,y⟩:=s.el E u;obtain ⟨rfl,f0⟩:=id y;have x0:L.num=5:=by have h_:=A;rw [C] at h_;cases h_;exact y0
 refine go fun a J=>?_;refine yG ?_;replace N:=N.le (((((l.1).trans i.1).trans h.1).trans f.1).trans b.1);replace N:=N.dl [4,3,2,1,0];exact ⟨rfl,N⟩
end
def Fz.whole (W:World):Fz:=⟨fun b=>W.heap[b]?,W.os,W.output⟩
theorem Mem.whole (W:World):Mem (Fz.whole W) [] W :=
 { fz:=fun _ _ h=>h,own:=fun _ h=>(by cases h),os:=rfl,out:=rfl,nodup:=List.nodup_nil,apart:=fun _ h=>(by cases h) }
theorem z8w {W:World} {a:Addr} {v:Value} (h:W.cell? a=some v):a.spot=none/\∃arr T fr,W.heap[a.block]? = some (.cells arr T fr)/\arr[a.off]? = some v:=by
 unfold World.cell? at h;split at h
 ·rename_i c T fr J
  split at h
  ·cases h
  ·rename_i O
   refine ⟨?_,c,T,fr,J,h⟩;cases hq:a.spot with
   | none=>rfl
   | some x=>simp [hq] at O
 ·cases h
theorem q0n {W:World} {a:Addr} {cells:List Value} (b:cells≠[]) (h:∀(j:Nat) (v:Value),cells[j]? = some v->W.cell? (a.add j)=some v):At (Fz.whole W) a cells:=by
 obtain ⟨v0,r,rfl⟩:=List.exists_cons_of_ne_nil b;obtain ⟨O,arr,T,fr,hb,d⟩:=z8w (h 0 v0 rfl);rw [show a.add 0=a from rfl] at O hb d;refine ⟨O,arr,T,fr,hb,fun j v e=>?_⟩;obtain ⟨_,arr',T',fr',hb',c⟩:=z8w (h j v e);have eb:(a.add j).block=a.block:=by unfold Addr.add;split <;> rfl
 have eo:(a.add j).off=a.off+j:=by unfold Addr.add;split <;> simp_all
 rw [eb,hb] at hb';simp only [Option.some.injEq,Obj.cells.injEq] at hb';rw [eo,<- hb'.1] at c;exact c
section
variable {H:Type} {enc:TypeId×Value->H} {W:World}
noncomputable abbrev trd (enc:TypeId×Value->H) (W:World) (n:Nat) (t:TypeId) (cs:List Value):=DataW.trod enc prog W 0 (fun _=>true) true n t cs
theorem wD {α:Type} {R:Fz->List Value->α->Prop} {t e:TypeId} {k fuel:Nat} {cs:List Value} {x:DataW H×List MemPlace} (z:prog.underlying t=some (.slice e)) (w:prog.cellsOf e=k) (C:0 < k)
  (IH:∀m,m < fuel->∀cs x,trd enc W m e cs=some x->∃a:α,R (Fz.whole W) cs a) (h:trd enc W fuel t cs=some x):∃v l,cs=[v]/\SliceOf R (Fz.whole W) k v l:=by
 rcases DataW.trod_slice z h with ⟨rfl,_⟩ | ⟨a,len,cap,elems,rest,n,rfl,rfl,_,_,hl,N,s,d,_⟩
 ·exact ⟨_,[],rfl,SliceOf.nil k⟩
 ·rw [w] at d
  have key:∀m,m<=len->∃(cells:List Value) (l:List α),cells.length=m * k/\Chunks (R (Fz.whole W)) k cells l/\∀(j:Nat) (v:Value),cells[j]? = some v->W.cell? (a.add j)=some v:=by
   intro m
   induction m with
   | zero=>exact fun _=>⟨[],[],by simp,rfl,fun j v c=>by simp at c⟩
   | succ m B=>
    intro hm';obtain ⟨cells,l,o,p,q⟩:=B (by omega);have J:=d m (by omega);rw [List.getElem?_eq_getElem (by omega)] at J;obtain ⟨cs',u,e2⟩:=Option.bind_eq_some_iff.1 J;obtain ⟨_,g,b⟩:=World.cells?_some u;obtain ⟨y,A⟩:=IH n (Nat.lt_succ_self n) cs' _ e2;refine ⟨cells++cs',l++[y],by rw [laQ,o,g,Nat.succ_mul],p.snoc g A,fun j v c=>?_⟩;by_cases i:j < cells.length
    ·rw [List.getElem?_append_left i] at c
     exact q j v c
    ·rw [List.getElem?_append_right (by omega)] at c
     have f:j - cells.length < k:=by
      have:=(List.getElem?_eq_some_iff.1 c).1;omega
     have:=b (j - cells.length) f;rw [Deep.add_add,c] at this;rw [o] at this i f;rw [show m * k+(j - m * k)=j by omega] at this;exact this
  obtain ⟨cells,l,o,p,q⟩:=key len (Nat.le_refl _);exact ⟨_,l,rfl,cells,.inr ⟨a,len,cap,rfl,o,by omega,fun r=>q0n r q⟩,p⟩
theorem qJ {α:Type} {l:List α} {n:Nat} (h:l.length=n+1):∃a r,l=a::r/\r.length=n:=by
 cases l with
 | nil=>cases h
 | cons a r=>exact ⟨a,r,rfl,by simpa using h⟩
theorem i64_of {n:Int} (h:(Lit.int .i64 n).wf=true):I64 n:=by
 simp only [Lit.wf,baQ,decide_eq_true_eq] at h;have a:=h.1;have b:=h.2
 simp [IntKind.min,IntKind.max,IntKind.signed,IntKind.bits] at a b
 exact ⟨by omega,by omega⟩
theorem mW {n:Nat} {cs:List Value} {x:DataW H×List MemPlace} (h:trd enc W n 9 cs=some x):∃s:Bs,cs=[.string s]:=by
 obtain ⟨s,a,_⟩:=DataW.trod_string underlying9 h;exact ⟨s,a⟩
theorem j7i {n:Nat} {cs:List Value} {x:DataW H×List MemPlace} (h:trd enc W n 9 cs=some x):∃s:Bs,RStr (Fz.whole W) cs s:=mW h
theorem nX {n:Nat} {cs:List Value} {x:DataW H×List MemPlace} (h:trd enc W n 3 cs=some x):∃i:Int,cs=[.int .i64 i]/\I64 i:=by
 obtain ⟨i,a,_,b⟩:=DataW.trod_int underlying3 h;exact ⟨i,a,i64_of b⟩
theorem nV {t:TypeId} {fs:Array Field} {n:Nat} {cs:List Value} {x:DataW H×List MemPlace} (k:prog.underlying t=some (.struct fs)) (h:trd enc W n t cs=some x) :
  ∃m,n=m+1/\cs.length=prog.cellsOf t/\∀(i:Nat) (u:TypeId) (o:Nat),(fs[i]?).map (fun f=>(f.type,f.offset))=some (u,o)->∃y,trd enc W m u ((cs.drop o).take (prog.cellsOf u))=some y:=by
 obtain ⟨xs,m,b,_,c,d,g⟩:=DataW.trod_struct k h;refine ⟨m,b,c,fun i u o j=>?_⟩;obtain ⟨f,a,e⟩:=Option.map_eq_some_iff.1 j;simp only [Prod.mk.injEq] at e;obtain ⟨rfl,rfl⟩:=e
 have hi:i < xs.length:=by
  rw [d];exact (Array.getElem?_eq_some_iff.1 a).1
 exact ⟨xs[i],by rw [<- List.getElem?_eq_getElem hi];exact g i f a⟩
theorem c9:prog.cellsOf 9=1:=by kernel_rfl
theorem c3:prog.cellsOf 3=1:=by kernel_rfl
theorem c4:prog.cellsOf 4=1:=by kernel_rfl
theorem c26:prog.cellsOf 26=4:=by kernel_rfl
theorem c36:prog.cellsOf 36=4:=by kernel_rfl
theorem c48:prog.cellsOf 48=8:=by kernel_rfl
theorem c50:prog.cellsOf 50=11:=by kernel_rfl
theorem c75:prog.cellsOf 75=2:=by kernel_rfl
theorem c79:prog.cellsOf 79=10:=by kernel_rfl
theorem c85:prog.cellsOf 85=3:=by kernel_rfl
theorem c125:prog.cellsOf 125=2:=by kernel_rfl
theorem c22:prog.cellsOf 22=1:=by kernel_rfl
theorem c23:prog.cellsOf 23=1:=by kernel_rfl
theorem c24:prog.cellsOf 24=1:=by kernel_rfl
theorem c34:prog.cellsOf 34=1:=by kernel_rfl
theorem c43:prog.cellsOf 43=1:=by kernel_rfl
theorem c44:prog.cellsOf 44=1:=by kernel_rfl
theorem c45:prog.cellsOf 45=1:=by kernel_rfl
theorem c46:prog.cellsOf 46=1:=by kernel_rfl
theorem c83:prog.cellsOf 83=1:=by kernel_rfl
theorem y7c {t e:TypeId} {fuel:Nat} {v:Value} {x:DataW H×List MemPlace} (d:prog.underlying t=some (.slice e)) (h:trd enc W fuel t [v]=some x):z2a v:=by
 rcases DataW.trod_slice d h with ⟨b,_⟩ | ⟨a,len,cap,elems,rest,m,_,b,_,_,c,_⟩
 ·simp only [List.cons.injEq,and_true] at b;subst b;exact Nat.le_refl 0
 ·simp only [List.cons.injEq,and_true] at b;subst b;exact c
theorem z4j {n:Nat} {cs:List Value} {x:DataW H×List MemPlace} (h:trd enc W n 4 cs=some x):∃b:Bool,cs=[.bool b]:=by
 obtain ⟨b,a,_⟩:=DataW.trod_bool underlying4 h;exact ⟨b,a⟩
theorem z5l {n:Nat} {cs:List Value} {x:DataW H×List MemPlace} (h:trd enc W n 23 cs=some x):∃v l,cs=[v]/\SliceOf RStr (Fz.whole W) 1 v l :=
 wD underlying23 c9 (by decide) (fun _ _ _ _ h=>j7i h) h
theorem j4e {n:Nat} {cs:List Value} {x:DataW H×List MemPlace} (h:trd enc W n 75 cs=some x):∃a:Atom,RAtom (Fz.whole W) cs a:=by
 obtain ⟨m,rfl,hl,j⟩:=nV underlying75 h;rw [c75] at hl;obtain ⟨a0,r,rfl,b⟩:=qJ hl;obtain ⟨l,r,rfl,c⟩:=qJ b;obtain rfl:=List.eq_nil_of_length_eq_zero c;obtain ⟨_,f⟩:=j 0 9 0 rfl;obtain ⟨_,g⟩:=j 1 3 1 rfl;simp only [c9,c3,List.drop_succ_cons,List.drop_zero,List.take_succ_cons,List.take_zero] at f g;obtain ⟨s,d⟩:=mW f;obtain ⟨i,e,k⟩:=nX g;simp only [List.cons.injEq,and_true] at d e;subst d e;exact ⟨⟨s,i⟩,rfl,k⟩
theorem x2x {n:Nat} {cs:List Value} {x:DataW H×List MemPlace} (h:trd enc W n 125 cs=some x):∃a:TPar,RTPar (Fz.whole W) cs a:=by
 obtain ⟨m,rfl,hl,j⟩:=nV underlying125 h;rw [c125] at hl;obtain ⟨a0,r,rfl,b⟩:=qJ hl;obtain ⟨k,r,rfl,c⟩:=qJ b;obtain rfl:=List.eq_nil_of_length_eq_zero c;obtain ⟨_,f⟩:=j 0 9 0 rfl;obtain ⟨_,g⟩:=j 1 4 1 rfl;simp only [c9,c4,List.drop_succ_cons,List.drop_zero,List.take_succ_cons,List.take_zero] at f g;obtain ⟨s,d⟩:=mW f;obtain ⟨i,e⟩:=z4j g;simp only [List.cons.injEq,and_true] at d e;subst d e;exact ⟨⟨s,i⟩,rfl⟩
theorem j9j {n:Nat} {cs:List Value} {x:DataW H×List MemPlace} (h:trd enc W n 85 cs=some x):∃a:TCon,RTCon (Fz.whole W) cs a:=by
 obtain ⟨m,rfl,hl,b⟩:=nV underlying85 h;rw [c85] at hl;obtain ⟨a0,r,rfl,c⟩:=qJ hl;obtain ⟨q,r,rfl,d⟩:=qJ c;obtain ⟨a2,r,rfl,e⟩:=qJ d;obtain rfl:=List.eq_nil_of_length_eq_zero e;obtain ⟨_,i⟩:=b 0 9 0 rfl;obtain ⟨_,k⟩:=b 1 9 1 rfl;obtain ⟨_,o⟩:=b 2 83 2 rfl;simp only [c9,c83,List.drop_succ_cons,List.drop_zero,List.take_succ_cons,List.take_zero] at i k o;obtain ⟨s,f⟩:=mW i;obtain ⟨t,g⟩:=mW k;obtain ⟨v,l,e2,p⟩:=wD (R:=RBoo) underlying83 c4 (by decide) (fun j u cs x h=>z4j h) o;simp only [List.cons.injEq,and_true] at f g e2;subst f g e2;exact ⟨⟨s,t,l⟩,_,rfl,p⟩
theorem te_read:∀(n:Nat) (cs:List Value) (x:DataW H×List MemPlace),trd enc W n 48 cs=some x->∃e:TE,RTE (Fz.whole W) cs e:=by
 intro n
 induction n using Nat.strongRecOn with
 | ind n I=>
  intro cs x h;obtain ⟨m,rfl,hl,a⟩:=nV underlying48 h;rw [c48] at hl;obtain ⟨a0,r,rfl,l⟩:=qJ hl;obtain ⟨Y,r,rfl,o⟩:=qJ l;obtain ⟨a2,r,rfl,p⟩:=qJ o;obtain ⟨a3,r,rfl,q⟩:=qJ p;obtain ⟨a4,r,rfl,t⟩:=qJ q;obtain ⟨a5,r,rfl,c⟩:=qJ t;obtain ⟨Z,r,rfl,g⟩:=qJ c;obtain ⟨a7,r,rfl,u⟩:=qJ g;obtain rfl:=List.eq_nil_of_length_eq_zero u;obtain ⟨_,z⟩:=a 0 3 0 rfl;obtain ⟨_,A⟩:=a 1 9 1 rfl;obtain ⟨_,B⟩:=a 2 9 2 rfl;obtain ⟨_,C⟩:=a 3 3 3 rfl;obtain ⟨_,D⟩:=a 4 3 4 rfl;obtain ⟨_,f5⟩:=a 5 44 5 rfl;obtain ⟨_,E⟩:=a 6 45 6 rfl;obtain ⟨_,f7⟩:=a 7 46 7 rfl;simp only [c3,c9,c44,c45,c46,List.drop_succ_cons,List.drop_zero,List.take_succ_cons,List.take_zero] at z A B C D f5 E f7;obtain ⟨k,d,_⟩:=nX z;obtain ⟨nm,f⟩:=mW A;obtain ⟨op,e2⟩:=mW B;obtain ⟨nu,e3,L⟩:=nX C;obtain ⟨si,e4,M⟩:=nX D;obtain ⟨v5,U,v,P⟩:=wD (R:=RAtom) underlying44 c75 (by decide) (fun j G cs x h=>j4e h) f5
  obtain ⟨v6,V,w,Q⟩:=wD (R:=RTA) underlying45 c79 (by decide) (fun j G cs x h=>by
   obtain ⟨m',rfl,hl,a⟩:=nV underlying79 h;rw [c79] at hl;obtain ⟨b0,r,rfl,c⟩:=qJ hl;obtain ⟨b1,r,rfl,g⟩:=qJ c;obtain ⟨_,F⟩:=a 0 9 0 rfl;obtain ⟨_,g1⟩:=a 1 23 1 rfl;obtain ⟨_,i⟩:=a 2 48 2 rfl;simp only [c9,c23,c48,List.drop_succ_cons,List.drop_zero,List.take_succ_cons,List.take_zero] at F g1 i;rw [List.take_of_length_le (by omega)] at i;obtain ⟨s,d⟩:=mW F;obtain ⟨v1,T,f,K⟩:=z5l g1;obtain ⟨b,hb⟩:=I m' (by omega) _ _ i;simp only [List.cons.injEq,and_true] at d f;subst d f
   exact ⟨.mk s T b,⟨_,r,rfl,by omega,K,hb⟩⟩) E
  obtain ⟨v7,X,y,S⟩:=wD (R:=RTE) underlying46 c48 (by decide) (fun j G cs x h=>I j (by omega) cs x h) f7;simp only [List.cons.injEq,and_true] at d f e2 e3 e4 v w y;subst d f e2 e3 e4 v w y;exact ⟨.mk k nm op nu si U V X,RTE.iff.2 ⟨_,_,_,rfl,L,M,P,Q,S⟩⟩
theorem fn_read {n:Nat} {cs:List Value} {x:DataW H×List MemPlace} (h:trd enc W n 50 cs=some x):∃a:TFn,RTFn (Fz.whole W) cs a:=by
 obtain ⟨m,rfl,hl,c⟩:=nV underlying50 h;rw [c50] at hl;obtain ⟨a0,r,rfl,e⟩:=qJ hl;obtain ⟨w,r,rfl,f⟩:=qJ e;obtain ⟨a2,r,rfl,u⟩:=qJ f;obtain ⟨_,o⟩:=c 0 9 0 rfl;obtain ⟨_,p⟩:=c 1 4 1 rfl;obtain ⟨_,q⟩:=c 2 43 2 rfl;obtain ⟨_,d⟩:=c 3 48 3 rfl;simp only [c9,c4,c43,c48,List.drop_succ_cons,List.drop_zero,List.take_succ_cons,List.take_zero] at o p q d;rw [List.take_of_length_le (by omega)] at d;obtain ⟨s,g⟩:=mW o;obtain ⟨i,k⟩:=z4j p;obtain ⟨v,l,e2,t⟩:=wD (R:=RTPar) underlying43 c125 (by decide) (fun j y cs x h=>x2x h) q;obtain ⟨b,hb⟩:=te_read _ _ _ d;simp only [List.cons.injEq,and_true] at g k e2;subst g k e2;exact ⟨⟨s,i,l,b⟩,_,_,rfl,t,hb⟩
theorem x4v {n:Nat} {cs:List Value} {x:DataW H×List MemPlace} (h:trd enc W n 26 cs=some x):∃T:Trc,RTrc (Fz.whole W) cs T:=by
 obtain ⟨m,rfl,hl,a⟩:=nV underlying26 h;rw [c26] at hl;obtain ⟨a0,r,rfl,c⟩:=qJ hl;obtain ⟨B,r,rfl,d⟩:=qJ c;obtain ⟨a2,r,rfl,e⟩:=qJ d;obtain ⟨a3,r,rfl,f⟩:=qJ e;obtain rfl:=List.eq_nil_of_length_eq_zero f;obtain ⟨_,k⟩:=a 0 22 0 rfl;obtain ⟨_,b⟩:=a 1 23 1 rfl;obtain ⟨_,l⟩:=a 2 24 2 rfl;obtain ⟨_,o⟩:=a 3 23 3 rfl;simp only [c22,c23,c24,List.drop_succ_cons,List.drop_zero,List.take_succ_cons,List.take_zero] at k b l o;have u:=y7c underlying23 b;obtain ⟨v0,w,g,p⟩:=wD (R:=RTCon) underlying22 c85 (by decide) (fun j v cs x h=>j9j h) k;obtain ⟨v1,y,i,q⟩:=z5l b;obtain ⟨v2,z,e2,s⟩:=wD (R:=RTFn) underlying24 c50 (by decide) (fun j v cs x h=>fn_read h) l;obtain ⟨v3,A,e3,t⟩:=z5l o;simp only [List.cons.injEq,and_true] at g i e2 e3;subst g i e2 e3;exact ⟨⟨w,y,z,A⟩,_,_,_,_,rfl,u,p,q,s,t⟩
theorem rw_read {n:Nat} {cs:List Value} {x:DataW H×List MemPlace} (h:trd enc W n 36 cs=some x):∃r:Rw,RRw (Fz.whole W) cs r:=by
 obtain ⟨m,rfl,hl,a⟩:=nV underlying36 h;rw [c36] at hl;obtain ⟨a0,r,rfl,c⟩:=qJ hl;obtain ⟨A,r,rfl,d⟩:=qJ c;obtain ⟨a2,r,rfl,f⟩:=qJ d;obtain ⟨a3,r,rfl,g⟩:=qJ f;obtain rfl:=List.eq_nil_of_length_eq_zero g;obtain ⟨_,o⟩:=a 0 3 0 rfl;obtain ⟨_,p⟩:=a 1 3 1 rfl;obtain ⟨_,b⟩:=a 2 34 2 rfl;obtain ⟨_,q⟩:=a 3 3 3 rfl;simp only [c3,c34,List.drop_succ_cons,List.drop_zero,List.take_succ_cons,List.take_zero] at o p b q;have w:=y7c underlying34 b;obtain ⟨i0,k,s⟩:=nX o;obtain ⟨y,l,t⟩:=nX p;obtain ⟨v2,z,e2,u⟩:=wD (R:=RInt) underlying34 c3 (by decide) (fun j B cs x h=>by obtain ⟨i,e,_⟩:=nX h;exact ⟨i,e⟩) b;obtain ⟨i3,e3,v⟩:=nX q;simp only [List.cons.injEq,and_true] at k l e2 e3;subst k l e2 e3;exact ⟨⟨i0,y,z,i3⟩,_,rfl,w,s,t,v,u⟩
end
end Go.Sw
namespace Go.Proofs.YtlfobekmmndchaaGreatDoor
open Go.ChangeShapes Go.WideShapes Go.ChangeAt Go.RowKit Go.Sw
theorem own:ownKnob Tryz.prog.godebug=none:=by kernel_rfl
theorem laidOut:laidOutB Tryz.prog=true:=by kernel_rfl
abbrev laidAll:List (String×DataW Unit):=Rows.optSitesRow.laid
theorem q1b {W:World} {g:Nat} {cs:List Value} (h:∀(i:Nat) (v:Value),cs[i]? = some v->W.cell? ⟨g,i,none⟩=some v) (a:cs≠[]):At (Fz.whole W) ⟨g,0,none⟩ cs :=
 q0n a fun j v b=>by
  have:=h j v b;have e:(⟨g,0,none⟩:Addr).add j=⟨g,j,none⟩:=by unfold Addr.add;split <;> simp_all
  rw [e];exact this
theorem j6k {W:World} (a:W.ShapedOpen Tryz.prog):∃m,At (Fz.whole W) ⟨0,0,none⟩ [.int .i64 m]:=by
 obtain ⟨m,N⟩:=cell_of_shapedOpen_int (P:=Tryz.prog) (g:=0) (t:=3) (k:=.i64) (zero:=#[.int .i64 0]) a (of_decide_eq_true (by kernel_rfl)) (by kernel_rfl) rfl (by kernel_rfl) (by kernel_rfl) (by kernel_rfl)
 exact ⟨m,q1b (fun i v hi=>by
  cases i with
  | zero=>simp at hi;subst hi;exact N
  | succ i=>simp at hi) (by simp)⟩
theorem tabs_of {W:World} (d:laidMet Tryz.prog laidAll W):Tabs (Fz.whole W):=by
 have c:laidMet Tryz.prog (("internal/strconv.uint64pow10",Lib.tabData .u64 Lib.pow10Tab)::_) W:=d.tail.tail;have a:=Lib.tabIs_of_head (P:=Tryz.prog) (g:=1) (t:=292) (e:=230) (n:=20) (by kernel_rfl) (by kernel_rfl) (by kernel_rfl) (by kernel_rfl) (by kernel_rfl) (by kernel_rfl) c;intro w O;unfold Lib.TabIs at a ⊢;unfold World.var? at a ⊢;cases b:Tryz.prog.globalNamed "internal/strconv.uint64pow10" with
 | none=>rw [b] at a;cases a
 | some g=>
  rw [b] at a;simp only [Option.bind_some] at a ⊢;split at a
  ·rename_i cs t fr J
   rw [O.fz g _ J];exact a
  ·cases a
theorem err_at {W:World} {n:String} {d:DataW Unit} {g:Nat} {r:List (String×DataW Unit)} (h:laidMet Tryz.prog ((n,d)::r) W) (e:Tryz.prog.globalNamed n=some g) (k:(Tryz.prog.globals[g]?).map (·.type)=some 274):ErrAt (Fz.whole W) g:=by
 obtain ⟨ps,⟨g',t',cs,fuel,p,q,hg',ht',a,b,_,_⟩,_⟩:=h;obtain rfl:=Option.some.inj (e.symm.trans hg');obtain rfl:=Option.some.inj (k.symm.trans ht')
 have key:∃v,cs.toList=[v]/\(v=.nilIface∨∃t p,v=.iface t p):=by
  cases fuel with
  | zero=>simp [DataW.trod] at b
  | succ fuel=>
   unfold DataW.trod at b;generalize f:Tryz.prog.underlying 274=u at b;have c:∃ms,u=some (.interface ms):=⟨_,f.symm.trans Tryz.underlying274⟩;clear f;obtain ⟨ms,rfl⟩:=c;split at b <;> simp_all
 obtain ⟨v,l,j⟩:=key;refine ⟨v,q1b (fun i u hi=>?_) (by simp),j⟩;cases i with
 | zero=>
  simp at hi;subst hi
  have:=World.var?_cell e a 0;rw [this,<- Array.getElem?_toList,l];rfl
 | succ i=>simp at hi
theorem j1u {W:World} (b:W.ShapedOpen Tryz.prog) (a:laidMet Tryz.prog laidAll W):Glob (Fz.whole W) :=
 ⟨j6k b,tabs_of a,err_at (g:=2) a.tail.tail.tail.tail.tail (by kernel_rfl) (by kernel_rfl),err_at (g:=3) a.tail.tail.tail.tail (by kernel_rfl) (by kernel_rfl)⟩
end Go.Proofs.YtlfobekmmndchaaGreatDoor
namespace Go.Proofs.YtlfobekmmndchaaGreatDoor
open Go.ChangeShapes Go.WideShapes Go.ChangeAt Go.RowKit Go.Sw
set_option maxRecDepth 100000
section
variable {H:Type} {enc:TypeId×Value->H}
theorem j0g {a:Assume} {C:Checked} {os:Os} {f:FuncId} {fn:Func} {s:ChangeSpec} {conds:List PathCond} {apart fresh handsOn again:Bool} {X:World->Array Value->Prop}
  (l:∀(w w':World) (args:Array Value),w.heap=w'.heap->X w args->X w' args)
  (own:ownKnob C.prog.godebug=none) (started:os.Started) (noInit:C.prog.inits.idxOf? f=none) (d:C.prog.funcs[f]? = some fn)
  (witness:∃(w:World) (tape:Tape) (i:Input),w.os=os/\(w.forCall tape i).Shaped C.prog/\i.vars=[]/\Input.okWide C.prog (w.forCall tape i) .any w.heap.size f i /\
   ((s.pre enc C.prog fn conds apart (w.forCall tape i).memory i.args/\X (w.forCall tape i).memory i.args)/\sizedMet enc C.prog fn (OpenSpec.ofChange s) apart (w.forCall tape i).memory i.args)/\a.holds C.prog (lone (Frame.enter C.prog f i.args .normal) [] (w.forCall tape i)))
  (contract:∀(W:World) (base:Nat) (args:Array Value) (ds gs:List (DataW H)) (before:List MemPlace),
   (∀(j:Nat) t v,fn.params[j]? = some t->args[j]? = some v->Value.okWide C.prog W .any base t v) ->
   DataW.Whole enc C.prog fn.params.toList s.vars apart W args.toList ds gs before->X W args->sizedMet enc C.prog fn (OpenSpec.ofChange s) apart W args->W.ShapedOpen C.prog ->
   Calls C.prog f args W fun e W'=>∃v,e=.returned v/\s.post enc C.prog fn apart fresh handsOn again W args v W') :
  ReturnsInHanded a C os f .any (fun w args=>(s.pre enc C.prog fn conds apart w args/\X w args)/\sizedMet enc C.prog fn (OpenSpec.ofChange s) apart w args) (s.post enc C.prog fn apart fresh handsOn again):=by
 refine returnsInHanded_of_calls own started noInit witness ?_;intro w tape i _ k _ g b _;obtain ⟨_,_,_,fn',hfn',_,_,_,_,c⟩:=g;have e:fn'=fn:=Option.some.inj (hfn'.symm.trans d);subst e;obtain ⟨⟨⟨ds,gs,before,m,_⟩,n⟩,h,ds',gs',before',o,hz'⟩:=b;have hw':=DataW.Whole.of_heap (w':=w.forCall tape i) (by rfl) m;refine (contract (w.forCall tape i) w.heap.size i.args ds gs before c hw' (l _ _ _ (by rfl) n) ⟨h,ds',gs',before',DataW.Whole.of_heap (w':=w.forCall tape i) (by rfl) o,hz'⟩ k).mono fun e W' ⟨v,J,h⟩=>?_;subst J;exact ChangeSpec.post_blind h
theorem z6q {a:Assume} {C:Checked} {os:Os} {f:FuncId} {fn:Func} {s:ChangeSpec} {conds:List PathCond} {apart fresh handsOn again:Bool} {X:World->Array Value->Prop}
  (k:∀(w w':World) (args:Array Value),w.heap=w'.heap->X w args->X w' args)
  (own:ownKnob C.prog.godebug=none) (started:os.Started) (noInit:C.prog.inits.idxOf? f=none) (b:C.prog.funcs[f]? = some fn)
  (witness:∃(w:World) (tape:Tape) (i:Input),w.os=os/\(w.forCall tape i).Shaped C.prog/\i.vars=[]/\Input.okWide C.prog (w.forCall tape i) .any w.heap.size f i /\
   ((s.pre enc C.prog fn conds apart (w.forCall tape i).memory i.args/\X (w.forCall tape i).memory i.args)/\sizedMet enc C.prog fn (OpenSpec.ofChange s) apart (w.forCall tape i).memory i.args)/\a.holds C.prog (lone (Frame.enter C.prog f i.args .normal) [] (w.forCall tape i)))
  (contract:∀(W:World) (base:Nat) (args:Array Value) (ds gs:List (DataW H)) (before:List MemPlace),
   (∀(j:Nat) t v,fn.params[j]? = some t->args[j]? = some v->Value.okWide C.prog W .any base t v) ->
   DataW.Whole enc C.prog fn.params.toList s.vars apart W args.toList ds gs before->X W args->W.ShapedOpen C.prog ->
   Calls C.prog f args W fun e W'=>∃v,e=.returned v/\s.post enc C.prog fn apart fresh handsOn again W args v W') :
  ReturnsInHanded a C os f .any (fun w args=>(s.pre enc C.prog fn conds apart w args/\X w args)/\sizedMet enc C.prog fn (OpenSpec.ofChange s) apart w args) (s.post enc C.prog fn apart fresh handsOn again):=by
 exact j0g k own started noInit b witness fun W base args ds gs before c d g _ h=>contract W base args ds gs before c d g h
theorem z0z {W W':World} (N:Mem (Fz.whole W) [] W'):∀k,k < W.heap.size->W'.heap[k]? = W.heap[k]? := fun k a=>by
 have h:W.heap[k]? = some W.heap[k]:=Array.getElem?_eq_getElem a;rw [h];exact N.fz k _ h
theorem x2m {W W':World} (N:Mem (Fz.whole W) [] W'):W.heap.size<=W'.heap.size:=by
 rcases Nat.lt_or_ge W'.heap.size W.heap.size with h | h
 ·have a:=z0z N W'.heap.size h
  rw [Array.getElem?_eq_getElem h] at a
  simp at a
 ·exact h
theorem j0c {W W':World} (N:Mem (Fz.whole W) [] W') {t:TypeId} (f:Tryz.prog.readableRec t=true) (a:t < Tryz.prog.types.size) {v:Value} {d:DataW H} {ps:List MemPlace}
  (h:DataW.Trod enc Tryz.prog W 0 (fun _=>true) true t v d ps) (c:∀x∈ps,x.block < W.heap.size):DataW.Trod enc Tryz.prog W' 0 (fun b=>decide (b < W.heap.size)) true t v d ps:=by
 have O:=x2m N;have e:=z0z N;have hb:Below W.heap.size W { W with heap:=W'.heap }:={ os:=rfl,tape:=rfl,output:=rfl,size:=O,block:=e };exact DataW.Trod.of_heap (w:={ W with heap:=W'.heap }) (w':=W') rfl (Below.trod laidOut f a h hb c)
theorem z8c {W W':World} (N:Mem (Fz.whole W) [] W'):∀{ts:List TypeId} {vs:List Value} {ds:List (DataW H)} {p:List MemPlace},(∀t∈ts,Tryz.prog.readableRec t=true/\t < Tryz.prog.types.size) ->
  DataW.TrodAll enc Tryz.prog W 0 (fun _=>true) true ts vs ds p->(∀x∈p,x.block < W.heap.size)->DataW.TrodAll enc Tryz.prog W' 0 (fun b=>decide (b < W.heap.size)) true ts vs ds p
 | [],_,_,_,_,h,_=>by
  obtain ⟨rfl,rfl,rfl⟩:=trodAll_nil h;exact h
 | t::ts,_,_,_,c,h,a=>by
  obtain ⟨v,vs,d,ds,p,q,rfl,rfl,rfl,f,g⟩:=trodAll_cons h
  exact ⟨p,q,j0c N (c t msQ).1 (c t msQ).2 f (fun x e=>a x (List.mem_append_left _ e)),
   z8c N (fun u i=>c u (mcQ _ i)) g (fun x e=>a x (List.mem_append_right _ e)),rfl⟩
theorem q2r {fn:Func} {s:ChangeSpec} {apart fresh handsOn:Bool} {W W':World} {args:Array Value} {ds gs:List (DataW H)} {before:List MemPlace}
  (b:DataW.Whole enc Tryz.prog fn.params.toList s.vars apart W args.toList ds gs before) (g:s.vars=[]) (d:∀gs:List (DataW H),gs=[]->s.fn H (ds++gs)={ results:=[.lit (.bool true)],args:=ds }) (a:fn.resultTypes=#[4])
  (j:∀t∈fn.params.toList,Tryz.prog.readableRec t=true/\t < Tryz.prog.types.size) (N:Mem (Fz.whole W) [] W'):s.post enc Tryz.prog fn apart fresh handsOn false W args (.bool true) W':=by
 have e:=b.lt;have hW':=b;obtain ⟨p,q,i,f,rfl,_,_⟩:=b;rw [g] at f;obtain ⟨rfl,rfl⟩:=trodVars_none f;have c:=d [] rfl;refine ⟨ds,[],_,[],p,[],hW',?_,?_,?_,?_,fun h=>by cases h⟩
 ·rw [c,a]
  exact trodAll_mk1 (shut_bool Tryz.underlying4 true)
 ·rw [c]
  exact z8c N j i (fun x k=>e x (by simpa using k))
 ·rw [c,g]
  exact rfl
 ·exact World.keptBut_mono (fun _ h=>h.elim) (World.keptBut_none_iff.2 ⟨N.os,N.out,z0z N⟩)
theorem agg_of {t:TypeId} {W:World} {base:Nat} {v:Value} {fs:Array Field} (a:Tryz.prog.underlying t=some (.struct fs)) (h:Value.okWide Tryz.prog W .any base t v):∃cs:List Value,v=.agg cs.toArray:=by
 obtain ⟨cs,rfl,_⟩:=okWide_struct a h;exact ⟨cs.toList,by simp⟩
theorem j3e {W:World} {base:Nat} {v:Value} {d:DataW H} {p:List MemPlace} (e:Value.okWide Tryz.prog W .any base 26 v) (h:DataW.Trod enc Tryz.prog W 0 (fun _=>true) true 26 v d p):∃cs T,v=.agg (List.toArray cs)/\RTrc (Fz.whole W) cs T:=by
 obtain ⟨cs,rfl⟩:=agg_of Tryz.underlying26 e;obtain ⟨fuel,b⟩:=h;obtain ⟨c,a⟩:=x4v (enc:=enc) (W:=W) (n:=fuel) (cs:=cs) b;exact ⟨cs,c,rfl,a⟩
theorem rw_arg {W:World} {base:Nat} {v:Value} {d:DataW H} {p:List MemPlace} (c:Value.okWide Tryz.prog W .any base 36 v) (h:DataW.Trod enc Tryz.prog W 0 (fun _=>true) true 36 v d p):∃cs ru fn path nu,v=.agg (List.toArray cs)/\RRw (Fz.whole W) cs ⟨ru,fn,path,nu⟩:=by
 obtain ⟨cs,rfl⟩:=agg_of Tryz.underlying36 c;obtain ⟨fuel,b⟩:=h;obtain ⟨⟨ru,fn,path,nu⟩,a⟩:=rw_read (enc:=enc) (W:=W) (n:=fuel) (cs:=cs) b;exact ⟨cs,ru,fn,path,nu,rfl,a⟩
end
end Go.Proofs.YtlfobekmmndchaaGreatDoor
namespace Go.Proofs.YtlfobekmmndchaaGreatDoor
open Go.ChangeShapes Go.WideShapes Go.ChangeAt Go.RowKit Go.Sw
set_option maxRecDepth 100000
theorem j2g:Tryz.pinned.checked.prog.mainIs=some (true,"85501da53bcbeb676a92cebcef877aabde4957abcbe701bf1dd5251624ce4289".toList):=by kernel_rfl
theorem q2s:true=Tryz.prog.looks []:=by kernel_rfl
theorem dJ (W:World):laidMetH Tryz.prog laidAll W=laidMet Tryz.prog laidAll W:=MakeChecks.laidMetH_plain _ _ _ (by kernel_rfl)
theorem q2q (os:Os) (args:Array Value):laidMet Tryz.prog laidAll ((World.laidAll Tryz.prog os laidAll).forCall (fun _ _=>0) ⟨#[],args,[]⟩).memory:=laidMet_laidAll _ (by kernel_rfl) (by kernel_rfl)
theorem j2r {l:List TypeId} (h:(l.all fun t=>Tryz.prog.readableRec t&&decide (t < Tryz.prog.types.size))=true) {t:TypeId} (a:t∈l):Tryz.prog.readableRec t=true/\t < Tryz.prog.types.size:=by
 have:=List.all_eq_true.1 h t a
 simpa using this
section
variable {H:Type} {enc:TypeId×Value->H}
end
end Go.Proofs.YtlfobekmmndchaaGreatDoor
namespace Go.Sw
open Go.Proofs Go.Proofs.Tryz
set_option maxRecDepth 20000
set_option maxHeartbeats 4000000
abbrev Sco:=List (Bs×Int)
def aA:Sco->List Bs->List Bool->Sco
 | Γ,v::vs,m::ms=>aA (qT Γ v (vJ m)) vs ms
 | Γ,_,_=>Γ
def vI (T:Trc) (i:Nat):List Bool:=match T.cons[i]? with | some d=>d.fields | none=>[]
def headOk (T:Trc) (first:Nat):List Atom->List TA->Prop
 | a::_,.mk c _ _::_=>a.name≠sNo/\wH T c=some first
 | _,_=>False
mutual
def tyT (T:Trc) (chg:Bool):Sco->TE->Prop
 | Γ,.mk k nm op num site args arms body=>
  (if k=7 then zB (.mk k nm op num site args arms body) false false false false true true false=true/\(⟨[],Γ,[]⟩:BS).atomL args [false]=true /\
    ∃first,headOk T first args arms/\tyTa T chg first Γ 0 arms/\jN T first arms.length=true
   else ∃z,yY T chg (.mk k nm op num site args arms body) ⟨[],Γ,[]⟩=some z)/\tyTs T chg (qT Γ nm (vJ (decide (k=4∨k=6)))) body
def tyTs (T:Trc) (chg:Bool):Sco->List TE->Prop
 | _,[]=>True
 | Γ,x::xs=>xs=[]/\tyT T chg Γ x
def tyTa (T:Trc) (chg:Bool) (first:Nat):Sco->Nat->List TA->Prop
 | _,_,[]=>True
 | Γ,i,.mk c vs b::xs=>mM T first i (.mk c vs b)=true/\tyT T chg (aA Γ vs (vI T (first+i))) b/\tyTa T chg first Γ (i+1) xs
end
mutual
def qE:TE->List Bs
 | .mk _ nm _ _ _ _ arms body=>namTa arms++namTs nm body
def namTs (nm:Bs):List TE->List Bs
 | []=>[]
 | x::xs=>(nm::qE x)++namTs nm xs
def namTa:List TA->List Bs
 | []=>[]
 | .mk _ vs b::xs=>vs++(qE b++namTa xs)
end
def z5i (k site:Int):List Int:=if k=4∨k=5 then [site] else []
mutual
def vW:TE->List Int
 | .mk k _ _ _ site _ arms body=>z5i k site++(sitKa arms++sitKs body)
def sitKs:List TE->List Int
 | []=>[]
 | x::xs=>vW x++sitKs xs
def sitKa:List TA->List Int
 | []=>[]
 | .mk _ _ b::xs=>vW b++sitKa xs
end
def FreshN (L NN:List Bs):Prop:=NN.Nodup/\(∀n∈NN,vC n=true/\n∉L)/\(NN=[]∨L.length+NN.length<=2000)
def FreshS (L S:List Int):Prop:=S.Nodup/\∀x∈S,x∉L/\1<=x/\x<=20000
theorem FreshN.app {L NN M:List Bs}:FreshN L (NN++M)↔FreshN L NN/\FreshN (L++NN) M:=by
 unfold FreshN;rw [List.nodup_append];constructor
 ·rintro ⟨⟨h,i,j⟩,f,c⟩
  refine ⟨⟨h,fun n d=>f n (List.mem_append_left _ d),?_⟩,i,fun n d=>⟨(f n (List.mem_append_right _ d)).1,fun e=>?_⟩,?_⟩
  ·rcases c with c | c
   ·exact .inl (List.append_eq_nil_iff.1 c).1
   ·rw [laQ] at c;exact .inr (by omega)
  ·rcases List.mem_append.1 e with e | e
   ·exact (f n (List.mem_append_right _ d)).2 e
   ·exact j n e n d rfl
  ·rcases c with c | c
   ·exact .inl (List.append_eq_nil_iff.1 c).2
   ·rw [laQ] at c ⊢;exact .inr (by omega)
 ·rintro ⟨⟨h,i,j⟩,f,c,g⟩
  refine ⟨⟨h,f,fun a k b hb e=>(c b hb).2 (List.mem_append_right _ (e▸k))⟩,fun n d=>?_,?_⟩
  ·rcases List.mem_append.1 d with d | d
   ·exact i n d
   ·exact ⟨(c n d).1,fun e=>(c n d).2 (List.mem_append_left _ e)⟩
  ·rcases g with g | g
   ·subst g;rw [List.append_nil];exact j
   ·rw [laQ] at g ⊢;exact .inr (by omega)
theorem FreshS.app {L NN M:List Int}:FreshS L (NN++M)↔FreshS L NN/\FreshS (L++NN) M:=by
 unfold FreshS;rw [List.nodup_append];constructor
 ·rintro ⟨⟨f,g,i⟩,e⟩
  refine ⟨⟨f,fun n c=>e n (List.mem_append_left _ c)⟩,g,fun n c=>⟨fun d=>?_,(e n (List.mem_append_right _ c)).2⟩⟩;rcases List.mem_append.1 d with d | d
  ·exact (e n (List.mem_append_right _ c)).1 d
  ·exact i n d n c rfl
 ·rintro ⟨⟨f,g⟩,e,h⟩
  refine ⟨⟨f,e,fun a j b hb d=>(h b hb).1 (List.mem_append_right _ (d▸j))⟩,fun n c=>?_⟩;rcases List.mem_append.1 c with c | c
  ·exact g n c
  ·exact ⟨fun d=>(h n c).1 (List.mem_append_left _ d),(h n c).2⟩
theorem FreshN.nil {L:List Bs}:FreshN L []:=⟨List.nodup_nil,(fun _ h=>by cases h),.inl rfl⟩
theorem FreshS.nil {L:List Int}:FreshS L []:=⟨List.nodup_nil,(fun _ h=>by cases h)⟩
def BS.names (s:BS):List Bs:=s.list.map TPar.name
def BS.keys (s:BS):List Int:=s.sites.map Prod.fst
theorem xget_none:∀{l:List (Int×Int)} {k:Int},oB l k=none↔k∉l.map Prod.fst
 | [],k=>by simp [oB]
 | (a,v)::l,k=>by
  rw [oB];by_cases h:a=k
  ·rw [if_pos h];subst h;simp
  ·rw [if_neg h,xget_none (l:=l)];simp only [List.map_cons,List.mem_cons,not_or];exact ⟨fun b=>⟨fun c=>h c.symm,b⟩,fun b=>b.2⟩
structure Ext (s z:BS) (NN:List Bs) (S:List Int):Prop where
 names:z.names=s.names++NN
 keys:z.keys=s.keys++S
 fn:FreshN s.names NN
 fs:FreshS s.keys S
theorem Ext.refl (s:BS):Ext s s [] []:=⟨(List.append_nil _).symm,(List.append_nil _).symm,.nil,.nil⟩
theorem Ext.trans {s t z:BS} {NN M:List Bs} {S R:List Int} (h:Ext s t NN S) (k:Ext t z M R):Ext s z (NN++M) (S++R) :=
 ⟨by rw [k.names,h.names,List.append_assoc],by rw [k.keys,h.keys,List.append_assoc],FreshN.app.2 ⟨h.fn,h.names▸k.fn⟩,FreshS.app.2 ⟨h.fs,h.keys▸k.fs⟩⟩
theorem Ext.cast {s z:BS} {NN M:List Bs} {S R:List Int} (h:Ext s z NN S) (a:NN=M) (b:S=R):Ext s z M R:=a▸b▸h
theorem z1w {s z:BS} {n:Bs} {m:Bool} (h:s.bind n m=some z):Ext s z [n] []/\z.kinds=qT s.kinds n (vJ m):=by
 unfold BS.bind at h;split at h
 ·rename_i a;cases h
  refine ⟨⟨by simp [BS.names],(List.append_nil _).symm,⟨by simp,fun x c=>?_,.inr ?_⟩,.nil⟩,rfl⟩
  ·rw [List.mem_singleton.1 c];refine ⟨a.1,fun N=>a.2.1 ?_⟩
   obtain ⟨p,b,J⟩:=List.mem_map.1 N;exact ⟨p,b,J⟩
  ·simp only [BS.names,List.length_map,List.length_singleton];omega
 ·cases h
theorem z8p {s:BS} {n:Bs} {m:Bool} (h:FreshN s.names [n]):∃z,s.bind n m=some z:=by
 refine ⟨_,q0s (h.2.1 n msQ).1 (fun ⟨p,a,J⟩=>(h.2.1 n msQ).2 (List.mem_map.2 ⟨p,a,J⟩)) ?_⟩;rcases h.2.2 with h | h
 ·cases h
 ·simp only [BS.names,List.length_map,List.length_singleton] at h;omega
theorem gI:∀{vs:List Bs} {ms:List Bool} {s z:BS},s.binds vs ms=some z->Ext s z vs []/\z.kinds=aA s.kinds vs ms
 | [],ms,s,z,h=>by cases ms <;> (simp only [BS.binds] at h;cases h;exact ⟨.refl _,rfl⟩)
 | v::vs,[],s,z,h=>by simp [BS.binds] at h
 | v::vs,m::ms,s,z,h=>by
  rw [BS.binds] at h;obtain ⟨t,b,c⟩:=Option.bind_eq_some_iff.1 h;obtain ⟨a,d⟩:=z1w b;obtain ⟨e2,e⟩:=gI c;exact ⟨(a.trans e2).cast rfl rfl,by rw [e,d,aA]⟩
theorem sP:∀{vs:List Bs} {ms:List Bool} {s:BS},vs.length<=ms.length->FreshN s.names vs->∃z,s.binds vs ms=some z
 | [],ms,s,_,_=>⟨s,by cases ms <;> rfl⟩
 | v::vs,[],s,h,_=>by simp at h
 | v::vs,m::ms,s,h,d=>by
  obtain ⟨b,c⟩:=FreshN.app.1 (show FreshN s.names ([v]++vs) from d);obtain ⟨t,a⟩:=z8p (m:=m) b;obtain ⟨z,e⟩:=sP (vs:=vs) (ms:=ms) (s:=t) (by simpa using h) ((z1w a).1.names▸c);exact ⟨z,by rw [BS.binds,a];exact e⟩
end Go.Sw
