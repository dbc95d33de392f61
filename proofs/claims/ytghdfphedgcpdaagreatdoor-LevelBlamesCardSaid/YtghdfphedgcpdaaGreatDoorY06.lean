import Derived.Test.YtghdfphedgcpdaaGreatDoorY05
set_option linter.unusedVariables false
set_option linter.unusedSimpArgs false
namespace Go.Sw
open Go.Proofs Go.Proofs.Tryz
set_option maxRecDepth 20000
set_option maxHeartbeats 4000000
theorem x8b {Φ:Fz} {K:List Res} {w:World} {r i:Nat} {rs:Value} {ws:List Bs} {d:Nat} (hd:d<=1000) (hE:uH ws d) (G:Glob Φ) (rl:SliceOf RStr Φ 1 rs ws) (v:ws.length<=1000000) (hi:i<=ws.length) (N:Mem Φ (.blk r (ob [rs,.int .i64 i] 210)::K) w) :
  Calls prog 193 #[.pointer (some ⟨r,0,none⟩),.int .i64 ((d+1:Nat):Int)] w (fun ee w'=>Out (qF ws (zY ws d) i) (fun x=>∃y:Fz×List Value,ee=.returned (.agg y.2.toArray)/\(Φ.Le y.1/\REx y.1 y.2 x.1)/\Mem y.1 (.blk r (ob [rs,.int .i64 ((x.2:Nat):Int)] 210)::K) w') (fun c=>ee=.panicked (aB c)/\Mem Φ K w')):=by
 obtain ⟨pw,cw,rfl,g4,h4⟩:=rl.fm
 refine zL func193 ntmps193 fun Q hQ a J=>?_
 refine Alc fun b2 w N a J=>?_
 replace N:=N.pl 1
 refine zT call179 (fun w N a J=>?_) (c:=mL (i:=i) rl v (by omega) N)
 refine goJ 10 fun a J=>?_
 refine sq fun L6 K2=>?_
 have t0:∀a w,(EnvR 125 [(0,.pointer (some ⟨r,0,none⟩)),(1,.int .i64 ((d+1:Nat):Int)),(4,.pointer (some ⟨b2,0,none⟩)),(5,.string (zF ws i)),(12,.string (zF ws i)),(13,.bool (z0x (zF ws i)))] [] a/\Mem Φ (.blk r (ob [.slice pw ws.length cw,.int .i64 i] 210)::.blk b2 (ob [.int .i64 ((0:Nat):Int),.int .i64 ((0:Nat):Int),.string ⟨#[]⟩,.slice none 0 0,.slice none 0 0] 110)::K) w/\(True))->L6 a w:=by
  clear N J
  rintro a w ⟨J,N,e4⟩
  apply K2
  generalize b:(z0x (zF ws i))=H2 at J
  cases H2
  by_cases s:(zF ws i)=(⟨#[108,101,116]⟩:Bs)
  have M0:=z0b s (by decide)
  refine Sto 0 fun w N a J=>?_
  refine jN call142 (fun w1 w u0 N a J=>?_) (fun w1 w u0 N=>?_) (c:=aZ G (i:=(i+1)) rl v (by omega) N)
  have y2:=xE u0
  refine gS call204 (fun x1 l3 w F0 K1 N a J=>?_) (fun x1 w F0 N=>?_) (c:=j7g hd hE G (i:=w1.2) rl v (by omega) N)
  obtain ⟨p2,a4⟩:=l3
  obtain ⟨I0,N0⟩:=K1
  simp only at I0 N0 N J
  have L2:=two_le F0
  replace rl:=rl.up I0
  replace G:=G.mono I0
  replace N:=N.nf
  obtain ⟨j4,Y3,rfl,X2,H3⟩:=N0.fm
  refine qO fun a J=>?_
  refine Sto 1 fun w N a J=>?_
  refine go fun a J=>?_
  have f0:=N
  replace N:=N.dl [1]
  refine pS (N:=f0) ?_
  show Out (qF ws (zY ws d) i) _ _
  rw [show qF ws (zY ws d) i=.ok (.mk 6 0 w1.1 x1.1 [],x1.2) from (y4q b s).trans ((zE u0).trans ((zE F0).trans (rfl)))]
  exact ⟨(p2,_),rfl,⟨I0,REx.node N0⟩,N⟩
  replace N:=N.dl [0]
  show Out (qF ws (zY ws d) i) _ _
  rw [show qF ws (zY ws d) i=.error _ from (y4q b s).trans ((zE u0).trans (zO F0))]
  rotate_left
  replace N:=N.dl [0]
  show Out (qF ws (zY ws d) i) _ _
  rw [show qF ws (zY ws d) i=.error _ from (y4q b s).trans (zO u0)]
  rotate_left
  by_cases t:(zF ws i)=(⟨#[99,97,115,101]⟩:Bs)
  have M0:=z0b t (by decide)
  refine Sto 0 fun w N a J=>?_
  refine Qq (fun a J=>?_) (o:=by exact fun J O=>wG ((d:Nat):Int) J rfl rfl (by rw [jI (by omega)];omega))
  refine gS call180 (fun E0 m3 w n L1 N a J=>?_) (fun E0 w n N=>?_) (c:=hE G rl (i:=(i+1)) (by omega) N)
  obtain ⟨U3,b4⟩:=m3
  obtain ⟨p,l⟩:=L1
  simp only at p l N J
  have M2:=vW d _ _ n
  replace rl:=rl.up p
  replace G:=G.mono p
  replace N:=N.nf
  obtain ⟨k4,Z3,l4,c53,rfl,C3,c4,d4,D3,I3,E3,J3⟩:=REx.fm l
  refine jQ fun m4 w N a J=>?_
  have D:=N
  clear N
  obtain ⟨Z0,q,N,b1⟩:=D.freezeRow (i:=0) rfl
  clear D
  replace rl:=rl.up q
  replace G:=G.mono q
  replace l:=REx.mono _ _ _ _ q l
  replace N:=N.nf
  have e:SliceOf REx Z0 5 _ ([E0.1]):=⟨_,b1,(Chunks.one rfl l)⟩
  obtain ⟨j3,c63,C0,F3,K3⟩:=e.form (by decide)
  have E:=N
  clear N
  subst C0
  have N:=E
  clear E
  refine qO fun a J=>?_
  refine Alc fun F2 w N a J=>?_
  refine Sto 0 fun w N a J=>?_
  refine go fun a J=>?_
  replace N:=N.nilRow 174 7
  replace N:=N.nf
  refine zU (J.ks [0,1,4,7]) N (fun R mm a w=>∃(e0:Fz) (j:Nat) (u:Value) (cs:List Value) (xs:List Arm) (f:Nat),mm=ws.length - j/\R e0 [] [(0,.gs (u) 174 7 cs),(1,.blk F2 (ob [.int .i64 ((7:Nat):Int),.int .i64 ((0:Nat):Int),.string ⟨#[]⟩,.slice j3 ([E0.1]).length c63,u] 110)),(2,.blk r (ob [.slice pw ws.length cw,.int .i64 j] 210))] a w/\(Z0.Le e0/\(Chunks (RArm e0) 7 cs xs/\xs.length<=j/\j<=ws.length/\xs.length+f=ws.length+1/\gU ws (zY ws d) (ws.length+1) true E0.2=wD xs (gU ws (zY ws d) f (decide (xs.length=0)) j)))) (ws.length - E0.2) ⟨Z0,E0.2,.slice none 0 0,[],[],ws.length+1,rfl,⟨J.pk,N⟩,⟨Fz.Le.refl _,⟨rfl,Nat.zero_le _,by omega,Nat.zero_add _,oJ _⟩⟩⟩ ?_
  clear N J
  rintro mm a w ⟨e0,j,u,cs,xs,f,J0,⟨J,N⟩,L0⟩ W3 k1
  replace N:=N.nf
  obtain ⟨g,L0⟩:=L0
  replace rl:=rl.up g
  replace G:=G.mono g
  replace l:=REx.mono _ _ _ _ g l
  replace e:=e.up g
  obtain ⟨hch,i4,hj,f4,I⟩:=L0
  refine Qq (fun a J=>?_) (o:=by exact fun J O=>j0x 0 (xs.length) J O rfl rfl (hch.length) (by decide) runUnderlying108)
  by_cases s0:xs.length=0
  replace N:=N.pl 2
  refine jN call178 (fun d2 w L N a J=>?_) (fun d2 w L N=>?_) (c:=pL (x:=(⟨#[40]⟩:Bs)) (i:=j) rl v (by omega) N)
  have z2:=pJ L
  refine jN call177 (fun r0 w X N a J=>?_) (fun r0 w X N=>?_) (c:=sJ G (i:=d2.2) rl v (by omega) N)
  have A2:=xE X
  refine qO fun a J=>?_
  refine Alc fun G2 w N a J=>?_
  refine Sto 0 fun w N a J=>?_
  refine go fun a J=>?_
  replace N:=N.nilRow 9 1
  replace N:=N.nf
  refine zU (J.ks [0,1,4,7,8]) N (fun R mm a w=>∃(j2:Nat) (u2:Value) (vs:List Bs) (f2:Nat),mm=ws.length - j2/\R e0 [] [(0,.gs (u2) 9 1 (strs vs)),(1,.blk G2 (ob [.string r0.1,u2,.int .i64 ((0:Nat):Int),.int .i64 ((0:Nat):Int),.string ⟨#[]⟩,.slice none 0 0,.slice none 0 0] 174)),(2,.blk r (ob [.slice pw ws.length cw,.int .i64 j2] 210))] a w/\(vs.length<=j2/\j < j2/\j2<=ws.length/\vs.length+f2=ws.length+1/\gB ws (ws.length+1) r0.2=wD vs (gB ws f2 j2))) (ws.length - r0.2) ⟨r0.2,.slice none 0 0,[],ws.length+1,rfl,⟨J.pk,N⟩,⟨Nat.zero_le _,by omega,by omega,Nat.zero_add _,oJ _⟩⟩ ?_
  clear N J
  rintro mm a w ⟨j2,u2,vs,f2,J0,⟨J,N⟩,M1⟩ X3 N1
  replace N:=N.nf
  obtain ⟨i3,P2,Q2,O1,w0⟩:=M1
  replace N:=N.pl 2
  refine zT call179 (fun w N a J=>?_) (c:=mL (i:=j2) rl v (by omega) N)
  by_cases n1:(zF ws j2)=(⟨#[45,62]⟩:Bs)
  refine go fun a J=>?_
  have D:=N
  clear N
  obtain ⟨q2,M,N,c1⟩:=D.freezeRow (i:=1) rfl
  clear D
  replace rl:=rl.up M
  replace G:=G.mono M
  replace l:=REx.mono _ _ _ _ M l
  replace e:=e.up M
  replace hch:=hch.mono fun _ _ h=>RArm.mono _ _ _ _ M h
  replace N:=N.nf
  have n0:SliceOf RStr q2 1 _ (vs):=SliceOf.strs.2 c1
  obtain ⟨k3,I2,C0,G3,L3⟩:=n0.form (by decide)
  have E:=N
  clear N
  subst C0
  have N:=E
  clear E
  have H0:=j0l w0 (by omega) n1
  refine jN call178 (fun e2 w d0 N a J=>?_) (fun e2 w d0 N=>?_) (c:=pL (x:=(⟨#[45,62]⟩:Bs)) (i:=j2) rl v (by omega) N)
  have B2:=pJ d0
  refine Qq (fun a J=>?_) (o:=by exact fun J O=>wG ((d:Nat):Int) J rfl rfl (by rw [jI (by omega)];omega))
  refine gS call180 (fun P k2 w Z p1 N a J=>?_) (fun P w Z N=>?_) (c:=hE G rl (i:=e2.2) (by omega) N)
  obtain ⟨z1,t3⟩:=k2
  obtain ⟨A,x0⟩:=p1
  simp only at A x0 N J
  have s2:=vW d _ _ Z
  replace rl:=rl.up A
  replace G:=G.mono A
  replace l:=REx.mono _ _ _ _ A l
  replace e:=e.up A
  replace hch:=hch.mono fun _ _ h=>RArm.mono _ _ _ _ A h
  replace n0:=n0.up A
  replace N:=N.nf
  obtain ⟨X1,G1,Y1,H1,rfl,N2,y3,z3,R2,Y2,S2,Z2⟩:=REx.fm x0
  refine Sto 1 fun w N a J=>?_
  refine jN call178 (fun Q0 w g0 N a J=>?_) (fun Q0 w g0 N=>?_) (c:=pL (x:=(⟨#[41]⟩:Bs)) (i:=P.2) rl v (by omega) N)
  have P1:=pJ g0
  refine jQ fun Q3 w N a J=>?_
  refine vH 3 rt_108 (fun v127 w N a J=>?_)
  refine Sto 4 fun w N a J=>?_
  refine go fun a J=>?_
  replace N:=N.ar [2,0] [3,1,3,3]
  refine k1 _ _ _ (by subst J0;omega) ⟨(z1),(Q0.2),(v127),((cs++[.string r0.1,.slice k3 (vs).length I2,.int .i64 (P.1.kind),.int .i64 (P.1.num),.string P.1.name,.slice X1 P.1.args.length G1,.slice Y1 P.1.arms.length H1])),(xs++[.mk r0.1 vs P.1]),(f - 1),rfl,⟨J.pk,by exact N⟩,?_⟩
  refine ⟨((g).trans M).trans A,?_⟩
  exact ⟨hch.snoc (k:=7) rfl (RArm.of n0 x0 (c:=r0.1)),by simp only [laQ,lcQ,lnQ];omega,by omega,by simp only [laQ,lcQ,lnQ];omega,y9j (x:=(.mk r0.1 vs P.1,Q0.2)) I (by omega) (.inl s0) ((zE L).trans ((zE X).trans ((zE H0).trans ((zE d0).trans ((zE Z).trans ((zE g0).trans (rfl)))))))⟩
  replace N:=N.dl [3,2,1,0]
  show Out (qF ws (zY ws d) i) _ _
  rw [show qF ws (zY ws d) i=.error _ from (vF b s t).trans ((zE n).trans (zO (kD I (by omega) (.inl s0) ((zE L).trans ((zE X).trans ((zE H0).trans ((zE d0).trans ((zE Z).trans (zO g0)))))))))]
  exact ⟨rfl,N.le (((((p).trans q).trans g).trans M).trans A)⟩
  replace N:=N.dl [3,2,1,0]
  show Out (qF ws (zY ws d) i) _ _
  rw [show qF ws (zY ws d) i=.error _ from (vF b s t).trans ((zE n).trans (zO (kD I (by omega) (.inl s0) ((zE L).trans ((zE X).trans ((zE H0).trans ((zE d0).trans (zO Z))))))))]
  exact ⟨rfl,N.le ((((p).trans q).trans g).trans M)⟩
  replace N:=N.dl [3,2,1,0]
  show Out (qF ws (zY ws d) i) _ _
  rw [show qF ws (zY ws d) i=.error _ from (vF b s t).trans ((zE n).trans (zO (kD I (by omega) (.inl s0) ((zE L).trans ((zE X).trans ((zE H0).trans (zO d0)))))))]
  exact ⟨rfl,N.le ((((p).trans q).trans g).trans M)⟩
  refine Reg [1,2,1,0,0,0,1,0] [2,3,4,5] fun w N a J=>?_
  refine jN call142 (fun R0 w h0 N a J=>?_) (fun R0 w h0 N=>?_) (c:=aZ G (i:=j2) rl v (by omega) N)
  have Q1:=xE h0
  refine jQ fun R3 w N a J=>?_
  refine vH 2 xQ (fun g2 w N a J=>?_) (hb:=by simp [zR];omega)
  refine Sto 3 fun w N a J=>?_
  refine go fun a J=>?_
  first | rw [qI] at N | rw [<- yN] at N
  replace N:=N.ar [0] [5,5,5,3,5,5]
  refine N1 _ _ _ (by subst J0;omega) ⟨(R0.2),(g2),(vs++[R0.1]),(f2 - 1),rfl,⟨J.pk,by exact N⟩,?_⟩
  exact ⟨by simp only [laQ,lcQ,lnQ];omega,by omega,by omega,by simp only [laQ,lcQ,lnQ];omega,q2t w0 (by omega) n1 h0⟩
  replace N:=N.dl [4,3,2,1,0]
  show Out (qF ws (zY ws d) i) _ _
  rw [show qF ws (zY ws d) i=.error _ from (vF b s t).trans ((zE n).trans (zO (kD I (by omega) (.inl s0) ((zE L).trans ((zE X).trans (zO (q2s w0 (by omega) n1 h0)))))))]
  rotate_left
  replace N:=N.dl [2,1,0]
  show Out (qF ws (zY ws d) i) _ _
  rw [show qF ws (zY ws d) i=.error _ from (vF b s t).trans ((zE n).trans (zO (kD I (by omega) (.inl s0) ((zE L).trans (zO X)))))]
  rotate_left
  replace N:=N.dl [2,1,0]
  show Out (qF ws (zY ws d) i) _ _
  rw [show qF ws (zY ws d) i=.error _ from (vF b s t).trans ((zE n).trans (zO (kD I (by omega) (.inl s0) (zO L))))]
  rotate_left
  replace N:=N.pl 2
  refine zT call179 (fun w N a J=>?_) (c:=mL (i:=j) rl v (by omega) N)
  by_cases W:(zF ws j)=(⟨#[40]⟩:Bs)
  refine jN call178 (fun l1 w z N a J=>?_) (fun l1 w z N=>?_) (c:=pL (x:=(⟨#[40]⟩:Bs)) (i:=j) rl v (by omega) N)
  have R1:=pJ z
  refine jN call177 (fun S w F N a J=>?_) (fun S w F N=>?_) (c:=sJ G (i:=l1.2) rl v (by omega) N)
  have S1:=xE F
  refine qO fun a J=>?_
  refine Alc fun F1 w N a J=>?_
  refine Sto 0 fun w N a J=>?_
  refine go fun a J=>?_
  replace N:=N.nilRow 9 1
  replace N:=N.nf
  refine zU (J.ks [0,1,4,7,8]) N (fun R mm a w=>∃(j2:Nat) (u2:Value) (vs:List Bs) (f2:Nat),mm=ws.length - j2/\R e0 [] [(0,.gs (u2) 9 1 (strs vs)),(1,.blk F1 (ob [.string S.1,u2,.int .i64 ((0:Nat):Int),.int .i64 ((0:Nat):Int),.string ⟨#[]⟩,.slice none 0 0,.slice none 0 0] 174)),(2,.blk r (ob [.slice pw ws.length cw,.int .i64 j2] 210))] a w/\(vs.length<=j2/\j < j2/\j2<=ws.length/\vs.length+f2=ws.length+1/\gB ws (ws.length+1) S.2=wD vs (gB ws f2 j2))) (ws.length - S.2) ⟨S.2,.slice none 0 0,[],ws.length+1,rfl,⟨J.pk,N⟩,⟨Nat.zero_le _,by omega,by omega,Nat.zero_add _,oJ _⟩⟩ ?_
  clear N J
  rintro mm a w ⟨j2,u2,vs,f2,J0,⟨J,N⟩,u1⟩ n3 v1
  replace N:=N.nf
  obtain ⟨i3,P2,Q2,O1,w0⟩:=u1
  replace N:=N.pl 2
  refine zT call179 (fun w N a J=>?_) (c:=mL (i:=j2) rl v (by omega) N)
  by_cases K0:(zF ws j2)=(⟨#[45,62]⟩:Bs)
  refine go fun a J=>?_
  have D:=N
  clear N
  obtain ⟨A1,B,N,O0⟩:=D.freezeRow (i:=1) rfl
  clear D
  replace rl:=rl.up B
  replace G:=G.mono B
  replace l:=REx.mono _ _ _ _ B l
  replace e:=e.up B
  replace hch:=hch.mono fun _ _ h=>RArm.mono _ _ _ _ B h
  replace N:=N.nf
  have Y:SliceOf RStr A1 1 _ (vs):=SliceOf.strs.2 O0
  obtain ⟨Z1,I1,C0,T2,a3⟩:=Y.form (by decide)
  have E:=N
  clear N
  subst C0
  have N:=E
  clear E
  have o0:=j0l w0 (by omega) K0
  refine jN call178 (fun m1 w U N a J=>?_) (fun m1 w U N=>?_) (c:=pL (x:=(⟨#[45,62]⟩:Bs)) (i:=j2) rl v (by omega) N)
  have T1:=pJ U
  refine Qq (fun a J=>?_) (o:=by exact fun J O=>wG ((d:Nat):Int) J rfl rfl (by rw [jI (by omega)];omega))
  refine gS call180 (fun T l2 w a0 q1 N a J=>?_) (fun T w a0 N=>?_) (c:=hE G rl (i:=m1.2) (by omega) N)
  obtain ⟨B1,u3⟩:=l2
  obtain ⟨C,y0⟩:=q1
  simp only at C y0 N J
  have t2:=vW d _ _ a0
  replace rl:=rl.up C
  replace G:=G.mono C
  replace l:=REx.mono _ _ _ _ C l
  replace e:=e.up C
  replace hch:=hch.mono fun _ _ h=>RArm.mono _ _ _ _ C h
  replace Y:=Y.up C
  replace N:=N.nf
  obtain ⟨a2,c171,c2,J1,rfl,O2,A3,B3,U2,b3,V2,d3⟩:=REx.fm y0
  refine Sto 1 fun w N a J=>?_
  refine jN call178 (fun S0 w i0 N a J=>?_) (fun S0 w i0 N=>?_) (c:=pL (x:=(⟨#[41]⟩:Bs)) (i:=T.2) rl v (by omega) N)
  have U1:=pJ i0
  refine jQ fun S3 w N a J=>?_
  refine vH 3 rt_108 (fun h2 w N a J=>?_)
  refine Sto 4 fun w N a J=>?_
  refine go fun a J=>?_
  replace N:=N.ar [2,0] [3,1,3,3]
  refine k1 _ _ _ (by subst J0;omega) ⟨(B1),(S0.2),(h2),((cs++[.string S.1,.slice Z1 (vs).length I1,.int .i64 (T.1.kind),.int .i64 (T.1.num),.string T.1.name,.slice a2 T.1.args.length c171,.slice c2 T.1.arms.length J1])),(xs++[.mk S.1 vs T.1]),(f - 1),rfl,⟨J.pk,by exact N⟩,?_⟩
  refine ⟨((g).trans B).trans C,?_⟩
  exact ⟨hch.snoc (k:=7) rfl (RArm.of Y y0 (c:=S.1)),by simp only [laQ,lcQ,lnQ];omega,by omega,by simp only [laQ,lcQ,lnQ];omega,y9j (x:=(.mk S.1 vs T.1,S0.2)) I (by omega) (.inr W) ((zE z).trans ((zE F).trans ((zE o0).trans ((zE U).trans ((zE a0).trans ((zE i0).trans (rfl)))))))⟩
  replace N:=N.dl [3,2,1,0]
  show Out (qF ws (zY ws d) i) _ _
  rw [show qF ws (zY ws d) i=.error _ from (vF b s t).trans ((zE n).trans (zO (kD I (by omega) (.inr W) ((zE z).trans ((zE F).trans ((zE o0).trans ((zE U).trans ((zE a0).trans (zO i0)))))))))]
  exact ⟨rfl,N.le (((((p).trans q).trans g).trans B).trans C)⟩
  replace N:=N.dl [3,2,1,0]
  show Out (qF ws (zY ws d) i) _ _
  rw [show qF ws (zY ws d) i=.error _ from (vF b s t).trans ((zE n).trans (zO (kD I (by omega) (.inr W) ((zE z).trans ((zE F).trans ((zE o0).trans ((zE U).trans (zO a0))))))))]
  exact ⟨rfl,N.le ((((p).trans q).trans g).trans B)⟩
  replace N:=N.dl [3,2,1,0]
  show Out (qF ws (zY ws d) i) _ _
  rw [show qF ws (zY ws d) i=.error _ from (vF b s t).trans ((zE n).trans (zO (kD I (by omega) (.inr W) ((zE z).trans ((zE F).trans ((zE o0).trans (zO U)))))))]
  exact ⟨rfl,N.le ((((p).trans q).trans g).trans B)⟩
  refine Reg [1,2,1,0,0,0,1,0] [2,3,4,5] fun w N a J=>?_
  refine jN call142 (fun T0 w j0 N a J=>?_) (fun T0 w j0 N=>?_) (c:=aZ G (i:=j2) rl v (by omega) N)
  have V1:=xE j0
  refine jQ fun T3 w N a J=>?_
  refine vH 2 xQ (fun i2 w N a J=>?_) (hb:=by simp [zR];omega)
  refine Sto 3 fun w N a J=>?_
  refine go fun a J=>?_
  first | rw [qI] at N | rw [<- yN] at N
  replace N:=N.ar [0] [5,5,5,3,5,5]
  refine v1 _ _ _ (by subst J0;omega) ⟨(T0.2),(i2),(vs++[T0.1]),(f2 - 1),rfl,⟨J.pk,by exact N⟩,?_⟩
  exact ⟨by simp only [laQ,lcQ,lnQ];omega,by omega,by omega,by simp only [laQ,lcQ,lnQ];omega,q2t w0 (by omega) K0 j0⟩
  replace N:=N.dl [4,3,2,1,0]
  show Out (qF ws (zY ws d) i) _ _
  rw [show qF ws (zY ws d) i=.error _ from (vF b s t).trans ((zE n).trans (zO (kD I (by omega) (.inr W) ((zE z).trans ((zE F).trans (zO (q2s w0 (by omega) K0 j0)))))))]
  rotate_left
  replace N:=N.dl [2,1,0]
  show Out (qF ws (zY ws d) i) _ _
  rw [show qF ws (zY ws d) i=.error _ from (vF b s t).trans ((zE n).trans (zO (kD I (by omega) (.inr W) ((zE z).trans (zO F)))))]
  rotate_left
  replace N:=N.dl [2,1,0]
  show Out (qF ws (zY ws d) i) _ _
  rw [show qF ws (zY ws d) i=.error _ from (vF b s t).trans ((zE n).trans (zO (kD I (by omega) (.inr W) (zO z))))]
  rotate_left
  refine go fun a J=>?_
  have D:=N
  clear N
  obtain ⟨Y0,V,N,P0⟩:=D.freezeRow (i:=1) rfl
  clear D
  replace rl:=rl.up V
  replace G:=G.mono V
  replace l:=REx.mono _ _ _ _ V l
  replace e:=e.up V
  replace hch:=hch.mono fun _ _ h=>RArm.mono _ _ _ _ V h
  replace N:=N.nf
  have G0:SliceOf RArm Y0 7 _ (xs):=⟨_,P0,hch⟩
  obtain ⟨M3,p3,C0,W2,e3⟩:=G0.form (by decide)
  have E:=N
  clear N
  subst C0
  have N:=E
  clear E
  have J2:=x3c I (by omega) s0 W
  refine Sto 2 fun w N a J=>?_
  refine go fun a J=>?_
  have f0:=N
  replace N:=N.dl [2,1]
  refine pS (N:=f0) ?_
  show Out (qF ws (zY ws d) i) _ _
  rw [show qF ws (zY ws d) i=.ok (.mk 7 0 ⟨#[]⟩ [E0.1] xs,j) from (vF b s t).trans ((zE n).trans ((zE J2).trans rfl))]
  exact ⟨(Y0,_),rfl,⟨(((p).trans q).trans g).trans V,REx.full e G0⟩,N⟩
  replace N:=N.dl [0]
  show Out (qF ws (zY ws d) i) _ _
  rw [show qF ws (zY ws d) i=.error _ from (vF b s t).trans (zO n)]
  rotate_left
  refine yH call158 (fun H w N a J=>?_) (fun H w N a J=>?_) (c:=mK G N)
  have M0:=x6p H
  refine Sto 0 fun w N a J=>?_
  refine gS call205 (fun U0 m2 w k0 r1 N a J=>?_) (fun U0 w k0 N=>?_) (c:=q9j (m:=1) hd hE G (i:=(i+1)) rl v (by omega) N)
  obtain ⟨C1,v3⟩:=m2
  obtain ⟨p0,z0⟩:=r1
  simp only at p0 z0 N J
  have v2:=j6t (by omega) k0
  replace rl:=rl.up p0
  replace G:=G.mono p0
  replace N:=N.nf
  obtain ⟨N3,q3,rfl,C2,f3⟩:=z0.fm
  refine qO fun a J=>?_
  refine Sto 1 fun w N a J=>?_
  refine go fun a J=>?_
  have f0:=N
  replace N:=N.dl [1]
  refine pS (N:=f0) ?_
  show Out (qF ws (zY ws d) i) _ _
  rw [show qF ws (zY ws d) i=.ok (.mk 4 0 (zF ws i) U0.1 [],U0.2) from (q7f b s t H).trans ((zE k0).trans (rfl))]
  exact ⟨(C1,_),rfl,⟨p0,REx.node z0⟩,N⟩
  replace N:=N.dl [0]
  show Out (qF ws (zY ws d) i) _ _
  rw [show qF ws (zY ws d) i=.error _ from (q7f b s t H).trans (zO k0)]
  rotate_left
  refine jN call142 (fun V0 w b0 N a J=>?_) (fun V0 w b0 N=>?_) (c:=aZ G (i:=i) rl v (by omega) N)
  have W1:=xE b0
  refine gS call205 (fun W0 n2 w l0 s1 N a J=>?_) (fun W0 w l0 N=>?_) (c:=q9j (m:=0) hd hE G (i:=V0.2) rl v (by omega) N)
  obtain ⟨D1,w3⟩:=n2
  obtain ⟨q0,A0⟩:=s1
  simp only at q0 A0 N J
  have w2:=j6t (by omega) l0
  replace rl:=rl.up q0
  replace G:=G.mono q0
  replace N:=N.nf
  obtain ⟨O3,r3,rfl,D2,g3⟩:=A0.fm
  refine qO fun a J=>?_
  refine Sto 1 fun w N a J=>?_
  refine go fun a J=>?_
  have f0:=N
  replace N:=N.dl [1]
  refine pS (N:=f0) ?_
  show Out (qF ws (zY ws d) i) _ _
  rw [show qF ws (zY ws d) i=.ok (.mk 5 0 V0.1 W0.1 [],W0.2) from (z8k b s t H).trans ((zE b0).trans ((zE l0).trans (rfl)))]
  exact ⟨(D1,_),rfl,⟨q0,REx.node A0⟩,N⟩
  replace N:=N.dl [0]
  show Out (qF ws (zY ws d) i) _ _
  rw [show qF ws (zY ws d) i=.error _ from (z8k b s t H).trans ((zE b0).trans (zO l0))]
  rotate_left
  replace N:=N.dl [0]
  show Out (qF ws (zY ws d) i) _ _
  rw [show qF ws (zY ws d) i=.error _ from (z8k b s t H).trans (zO b0)]
  rotate_left
  have M0:=isOp_lt b
  refine Sto 0 fun w N a J=>?_
  refine gS call204 (fun X0 o2 w m0 t1 N a J=>?_) (fun X0 w m0 N=>?_) (c:=j7g hd hE G (i:=(i+1)) rl v (by omega) N)
  obtain ⟨E1,x3⟩:=o2
  obtain ⟨D0,B0⟩:=t1
  simp only at D0 B0 N J
  have x2:=two_le m0
  replace G:=G.mono D0
  replace N:=N.nf
  obtain ⟨P3,s3,rfl,E2,h3⟩:=B0.fm
  refine qO fun a J=>?_
  refine Sto 1 fun w N a J=>?_
  refine go fun a J=>?_
  have f0:=N
  replace N:=N.dl [1]
  refine pS (N:=f0) ?_
  show Out (qF ws (zY ws d) i) _ _
  rw [show qF ws (zY ws d) i=.ok (.mk 8 0 (zF ws i) X0.1 [],X0.2) from (j6a b).trans ((zE m0).trans (rfl))]
  exact ⟨(E1,_),rfl,⟨D0,REx.node B0⟩,N⟩
  replace N:=N.dl [0]
  show Out (qF ws (zY ws d) i) _ _
  rw [show qF ws (zY ws d) i=.error _ from (j6a b).trans (zO m0)]
  rotate_left
  all_goals first | (exact ⟨rfl,N.le (((p).trans q).trans g)⟩) | (exact ⟨rfl,N.le (Fz.Le.refl _)⟩)
 by_cases d1:(zF ws i)=(⟨#[43]⟩:Bs)
 refine go fun a J=>?_
 exact t0 _ _ (by rw [hU (.inl d1)];exact ⟨J.pk,N,trivial⟩)
 by_cases e1:(zF ws i)=(⟨#[45]⟩:Bs)
 refine go fun a J=>?_
 exact t0 _ _ (by rw [hU (.inr (.inl e1))];exact ⟨J.pk,N,trivial⟩)
 by_cases f1:(zF ws i)=(⟨#[42]⟩:Bs)
 refine go fun a J=>?_
 exact t0 _ _ (by rw [hU (.inr (.inr (.inl f1)))];exact ⟨J.pk,N,trivial⟩)
 refine go fun a J=>?_
 by_cases g1:(zF ws i)=(⟨#[47]⟩:Bs)
 refine go fun a J=>?_
 exact t0 _ _ (by rw [hU (.inr (.inr (.inr (.inl g1))))];exact ⟨J.pk,N,trivial⟩)
 by_cases h1:(zF ws i)=(⟨#[37]⟩:Bs)
 refine go fun a J=>?_
 exact t0 _ _ (by rw [hU (.inr (.inr (.inr (.inr (.inl h1)))))];exact ⟨J.pk,N,trivial⟩)
 by_cases i1:(zF ws i)=(⟨#[60]⟩:Bs)
 refine go fun a J=>?_
 exact t0 _ _ (by rw [hU (.inr (.inr (.inr (.inr (.inr (.inl i1))))))];exact ⟨J.pk,N,trivial⟩)
 by_cases j1:(zF ws i)=(⟨#[61]⟩:Bs)
 refine go fun a J=>?_
 exact t0 _ _ (by rw [hU (.inr (.inr (.inr (.inr (.inr (.inr j1))))))];exact ⟨J.pk,N,trivial⟩)
 refine go fun a J=>?_
 exact t0 _ _ (by rw [isOp_no d1 e1 f1 g1 h1 i1 j1];exact ⟨J.pk,N,trivial⟩)
theorem j3p {ws:List Bs} (b:ws.length<=1000000):uH ws 0:=by
 intro Φ K w r i rs G rl j N
 obtain ⟨pw,cw,rfl,e,f⟩:=rl.fm
 refine zL func180 ntmps180 fun Q hQ a J=>?_
 refine Alc fun g w N a J=>?_
 replace N:=N.pl 1
 refine zT call179 (fun w N a J=>?_) (c:=mL (i:=i) rl b (by omega) N)
 by_cases h:(zF ws i)=(⟨#[]⟩:Bs)
 refine go fun a J=>?_
 refine st J rfl rfl rfl (gM J rfl call143 (tU (i:=i) rl b (by omega) N) (fun w N=>fun a d=>hQ _ _ _ (qL d ?_)))
 replace N:=N.dl [0]
 show Out (zY ws 0 i) _ _
 rw [q0e];exact ⟨rfl,N⟩
 refine Qq (fun a J=>?_) (o:=by exact fun J O=>vO true J rfl rfl rfl)
 refine go fun a J=>?_
 refine st J rfl rfl rfl (gM J rfl call143 (tU (i:=i) rl b (by omega) N) (fun w N=>fun a d=>hQ _ _ _ (qL d ?_)))
 replace N:=N.dl [0]
 show Out (zY ws 0 i) _ _
 rw [q0e];exact ⟨rfl,N⟩
theorem j3o {ws:List Bs} {d:Nat} (U:d<=1000) (n:ws.length<=1000000) (W:∀j,(zF ws j).size<=1000000) (hE:uH ws d):uH ws (d+1):=by
 intro Φ K w r i rs G rl hi N
 obtain ⟨pw,cw,rfl,l0,m0⟩:=rl.fm
 have Y:¬d+1=0:=by omega
 refine zL func180 ntmps180 fun Q hQ a J=>?_
 refine Alc fun b2 w N a J=>?_
 replace N:=N.pl 1
 refine zT call179 (fun w N a J=>?_) (c:=mL (i:=i) rl n (by omega) N)
 by_cases m:(zF ws i)=(⟨#[]⟩:Bs)
 refine go fun a J=>?_
 refine st J rfl rfl rfl (gM J rfl call143 (tU (i:=i) rl n (by omega) N) (fun w N=>fun a U=>hQ _ _ _ (qL U ?_)))
 replace N:=N.dl [0]
 show Out (zY ws (d+1) i) _ _
 rw [show zY ws (d+1) i=.error _ from expr_no m]
 exact ⟨rfl,N⟩
 refine yO call192 (fun y9 w z N a J=>?_) (c:=j2a (W _) G N)
 replace N:=N.nf
 rcases b:sV (zF ws i) with _ | n0
 rw [b] at J
 by_cases g:(zF ws i)=(⟨#[40]⟩:Bs)
 have A:=pX m
 refine Sto 0 fun w N a J=>?_
 refine gS call193 (fun C X w k H N a J=>?_) (fun C w k N=>?_) (c:=x8b U hE G (i:=(i+1)) rl n (by omega) N)
 obtain ⟨M,h0⟩:=X
 obtain ⟨l,y⟩:=H
 simp only at l y N J
 have V:=form_le k
 replace rl:=rl.up l
 replace G:=G.mono l
 replace N:=N.nf
 obtain ⟨o0,g0,p0,c37,rfl,Z,i0,j0,a0,c0,b0,d0⟩:=REx.fm y
 refine Alc fun f0 w N a J=>?_
 refine Sto 0 fun w N a J=>?_
 replace N:=N.pl 1
 refine jN call178 (fun L w s N a J=>?_) (fun L w s N=>?_) (c:=pL (x:=(⟨#[41]⟩:Bs)) (i:=C.2) rl n (by omega) N)
 have P:=pJ s
 refine Sto 2 fun w N a J=>?_
 refine go fun a J=>?_
 have f:=N
 replace N:=N.dl [2,1]
 refine pS (N:=f) ?_
 show Out (zY ws (d+1) i) _ _
 rw [show zY ws (d+1) i=.ok (C.1,L.2) from j9b m b g k s]
 exact ⟨(M,_),rfl,⟨l,y⟩,N⟩
 replace N:=N.dl [1,0]
 show Out (zY ws (d+1) i) _ _
 rw [show zY ws (d+1) i=.error _ from expr_fc m b g k s]
 exact ⟨rfl,N.le (l)⟩
 replace N:=N.dl [0]
 show Out (zY ws (d+1) i) _ _
 rw [show zY ws (d+1) i=.error _ from expr_fe m b g k]
 exact ⟨rfl,N⟩
 refine yH call158 (fun e w N a J=>?_) (fun e w N a J=>?_) (c:=mK G N)
 refine jN call177 (fun D w t N a J=>?_) (fun D w t N=>?_) (c:=sJ G (i:=i) rl n (by omega) N)
 have R:=xE t
 refine qO fun a J=>?_
 refine Sto 1 fun w N a J=>?_
 refine go fun a J=>?_
 have f:=N
 replace N:=N.dl [1]
 refine pS (N:=f) ?_
 show Out (zY ws (d+1) i) _ _
 rw [show zY ws (d+1) i=.ok (.mk 4 0 D.1 [] [],D.2) from x4d m b g e t]
 rotate_left
 replace N:=N.dl [0]
 exact j9a m e t
 have e0:=x8y m
 have I:0 < (zF ws i).size:=by omega
 obtain ⟨c53,q⟩:=xT I
 refine Qq (fun a J=>?_) (o:=by exact fun J O=>xF 0 c53 J rfl rfl runUnderlying9 q)
 by_cases B:c53.toNat=33
 refine Qq (fun a J=>?_) (o:=by exact fun J O=>vE 1 ((zF ws i).size) J rfl runUnderlying9 ⟨_,rfl⟩ rfl (by omega) (by exact Nat.le_refl _))
 refine yH call161 (fun p w N a J=>?_) (fun p w N a J=>?_) (c:=tI G N)
 have A:=pX m
 refine Sto 0 fun w N a J=>?_
 refine Qq (fun a J=>?_) (o:=by exact fun J O=>vE 1 ((zF ws i).size) J rfl runUnderlying9 ⟨_,rfl⟩ rfl (by omega) (by exact Nat.le_refl _))
 refine qO fun a J=>?_
 refine Sto 1 fun w N a J=>?_
 refine go fun a J=>?_
 have f:=N
 replace N:=N.dl [1]
 refine pS (N:=f) ?_
 show Out (zY ws (d+1) i) _ _
 rw [show zY ws (d+1) i=.ok (.mk 3 0 ((zF ws i).extract 1 (zF ws i).size) [] [],i+1) from j1v m b g e ((yP q).trans B) p]
 rotate_left
 refine jN call142 (fun E w u N a J=>?_) (fun E w u N=>?_) (c:=aZ G (i:=i) rl n (by omega) N)
 have S:=xE u
 refine qO fun a J=>?_
 refine Sto 1 fun w N a J=>?_
 refine go fun a J=>?_
 have f:=N
 replace N:=N.dl [1]
 refine pS (N:=f) ?_
 show Out (zY ws (d+1) i) _ _
 rw [show zY ws (d+1) i=.ok (.mk 2 0 E.1 [] [],E.2) from (z3a m b g e (fun h=>absurd (h.2.symm.trans p) (by decide))).trans ((zE u).trans rfl)]
 rotate_left
 replace N:=N.dl [0]
 show Out (zY ws (d+1) i) _ _
 rw [show zY ws (d+1) i=.error _ from (z3a m b g e (fun h=>absurd (h.2.symm.trans p) (by decide))).trans (zO u)]
 exact ⟨rfl,N⟩
 refine jN call142 (fun F w v N a J=>?_) (fun F w v N=>?_) (c:=aZ G (i:=i) rl n (by omega) N)
 have T:=xE v
 refine qO fun a J=>?_
 refine Sto 1 fun w N a J=>?_
 refine go fun a J=>?_
 have f:=N
 replace N:=N.dl [1]
 refine pS (N:=f) ?_
 show Out (zY ws (d+1) i) _ _
 rw [show zY ws (d+1) i=.ok (.mk 2 0 F.1 [] [],F.2) from (z3a m b g e (fun h=>B ((yP q).symm.trans h.1))).trans ((zE v).trans rfl)]
 rotate_left
 replace N:=N.dl [0]
 show Out (zY ws (d+1) i) _ _
 rw [show zY ws (d+1) i=.error _ from (z3a m b g e (fun h=>B ((yP q).symm.trans h.1))).trans (zO v)]
 exact ⟨rfl,N⟩
 rw [b] at J
 have A:=pX m
 refine Sto 0 fun w N a J=>?_
 refine qO fun a J=>?_
 refine Sto 1 fun w N a J=>?_
 refine go fun a J=>?_
 have f:=N
 replace N:=N.dl [1]
 refine pS (N:=f) ?_
 show Out (zY ws (d+1) i) _ _
 rw [show zY ws (d+1) i=.ok (.mk 1 y9 ⟨#[]⟩ [] [],i+1) from x4e m (b.trans (congrArg some (z _ b).symm))]
 exact ⟨(Φ,_),rfl,⟨Fz.Le.refl _,REx.leaf (x6n (b.trans (congrArg some (z _ b).symm)))⟩,N⟩
 all_goals (exact ⟨(Φ,_),rfl,⟨Fz.Le.refl _,REx.leaf q0q⟩,N⟩)
theorem q9i {ws:List Bs} (a:ws.length<=1000000) (b:∀j,(zF ws j).size<=1000000):∀d,d<=1000->uH ws d
 | 0,_=>j3p a
 | d+1,h=>j3o (by omega) a b (q9i a b d (by omega))
theorem q2e {Φ:Fz} {K:List Res} {w:World} {r i:Nat} {rs:Value} {ws:List Bs} (G:Glob Φ) (rl:SliceOf RStr Φ 1 rs ws) (f:ws.length<=1000000) (s:i<=ws.length) (N:Mem Φ (.blk r (ob [rs,.int .i64 i] 210)::K) w) :
  Calls prog 140 #[.pointer (some ⟨r,0,none⟩)] w (fun ee w'=>Out (pG ws i) (fun x=>ee=.returned (.agg #[.string x.1.name,.string x.1.type])/\Mem Φ (.blk r (ob [rs,.int .i64 ((x.2:Nat):Int)] 210)::K) w') (fun c=>ee=.panicked (aB c)/\Mem Φ K w')):=by
 obtain ⟨pw,cw,rfl,o,p⟩:=rl.fm
 refine zL func140 ntmps140 fun Q hQ a J=>?_
 refine Alc fun q w N a J=>?_
 replace N:=N.pl 1
 refine jN call142 (fun m w d N a J=>?_) (fun m w d N=>?_) (c:=aZ G (i:=i) rl f (by omega) N)
 have j:=xE d
 refine jN call178 (fun n w e N a J=>?_) (fun n w e N=>?_) (c:=pL (x:=(⟨#[58]⟩:Bs)) (i:=m.2) rl f (by omega) N)
 have k:=pJ e
 refine jN call177 (fun g w b N a J=>?_) (fun g w b N=>?_) (c:=sJ G (i:=n.2) rl f (by omega) N)
 have h:=xE b
 refine qO fun a J=>?_
 refine Sto 1 fun w N a J=>?_
 refine go fun a J=>?_
 have l:=N
 replace N:=N.dl [1]
 refine pS (N:=l) ?_
 show Out (pG ws i) _ _
 rw [show pG ws i=.ok ((⟨m.1,g.1⟩:Param),g.2) from (zE d).trans ((zE e).trans ((zE b).trans (rfl)))]
 exact ⟨rfl,N⟩
 replace N:=N.dl [0]
 show Out (pG ws i) _ _
 rw [show pG ws i=.error _ from (zE d).trans ((zE e).trans (zO b))]
 exact ⟨rfl,N⟩
 replace N:=N.dl [0]
 show Out (pG ws i) _ _
 rw [show pG ws i=.error _ from (zE d).trans (zO e)]
 exact ⟨rfl,N⟩
 replace N:=N.dl [0]
 show Out (pG ws i) _ _
 rw [show pG ws i=.error _ from zO d]
 exact ⟨rfl,N⟩
theorem x7y {Φ:Fz} {K:List Res} {w:World} {r i:Nat} {rs:Value} {ws:List Bs} (G:Glob Φ) (rl:SliceOf RStr Φ 1 rs ws) (z:ws.length<=1000000) (hi:i<=ws.length) (N:Mem Φ (.blk r (ob [rs,.int .i64 i] 210)::K) w) :
  Calls prog 139 #[.pointer (some ⟨r,0,none⟩)] w (fun ee w'=>Out (cW ws i) (fun x=>∃y:Fz×List Value,ee=.returned (.agg y.2.toArray)/\(Φ.Le y.1/\RData y.1 y.2 x.1)/\Mem y.1 (.blk r (ob [rs,.int .i64 ((x.2:Nat):Int)] 210)::K) w') (fun c=>ee=.panicked (aB c)/\Mem Φ K w')):=by
 obtain ⟨pw,cw,rfl,A0,B0⟩:=rl.fm
 refine zL func139 ntmps139 fun Q hQ a J=>?_
 refine Alc fun b2 w N a J=>?_
 replace N:=N.pl 1
 refine jN call177 (fun q4 w p N a J=>?_) (fun q4 w p N=>?_) (c:=sJ G (i:=i) rl z (by omega) N)
 have f0:=xE p
 refine qO fun a J=>?_
 refine Alc fun b6 w N a J=>?_
 refine Sto 0 fun w N a J=>?_
 replace N:=N.pl 1
 refine jN call178 (fun q8 w v N a J=>?_) (fun q8 w v N=>?_) (c:=pL (x:=(⟨#[61]⟩:Bs)) (i:=q4.2) rl z (by omega) N)
 have g0:=pJ v
 refine go fun a J=>?_
 replace N:=N.nilRow 128 2
 replace N:=N.nf
 refine zU (J.ks [0,2,3]) N (fun R mm a w=>∃(o:Fz) (j:Nat) (u:Value) (cs:List Value) (xs:List Con) (f:Nat),mm=ws.length - j/\R o [] [(0,.gs (u) 128 2 cs),(1,.blk r (ob [.slice pw ws.length cw,.int .i64 j] 210)),(2,.blk b6 (ob [.string q4.1,u] 126))] a w/\(Φ.Le o/\(Chunks (RCon o) 2 cs xs/\xs.length<=j/\j<=ws.length/\xs.length+f=ws.length+1/\gV ws (ws.length+1) q8.2=wD xs (gV ws f j)))) (ws.length - q8.2) ⟨Φ,q8.2,.slice none 0 0,[],[],ws.length+1,rfl,⟨J.pk,N⟩,⟨Fz.Le.refl _,⟨rfl,Nat.zero_le _,by omega,Nat.zero_add _,oJ _⟩⟩⟩ ?_
 clear N J
 rintro mm a w ⟨o,j,u,cs,xs,f,S,⟨J,N⟩,B⟩ s0 W
 replace N:=N.nf
 obtain ⟨g,B⟩:=B
 replace rl:=rl.up g
 replace G:=G.mono g
 obtain ⟨hch,D0,hj,x0,D⟩:=B
 replace N:=N.pl 1
 refine jN call177 (fun d w e N a J=>?_) (fun d w e N=>?_) (c:=sJ G (i:=j) rl z (by omega) N)
 have Z:=xE e
 refine qO fun a J=>?_
 refine Alc fun d0 w N a J=>?_
 refine Sto 0 fun w N a J=>?_
 refine go fun a J=>?_
 replace N:=N.nilRow 9 1
 replace N:=N.nf
 refine zU (J.ks [0,2,3,4]) N (fun R mm a w=>∃(A:Nat) (u2:Value) (vs:List Bs) (Y:Nat),mm=ws.length - A/\R o [] [(0,.gs (u2) 9 1 (strs vs)),(1,.blk d0 (ob [.string d.1,u2] 128)),(2,.blk r (ob [.slice pw ws.length cw,.int .i64 A] 210))] a w/\(vs.length<=A/\j < A/\A<=ws.length/\vs.length+Y=ws.length+1/\kN ws (ws.length+1) d.2=wD vs (kN ws Y A))) (ws.length - d.2) ⟨d.2,.slice none 0 0,[],ws.length+1,rfl,⟨J.pk,N⟩,⟨Nat.zero_le _,by omega,by omega,Nat.zero_add _,oJ _⟩⟩ ?_
 clear N J
 rintro mm a w ⟨A,u2,vs,Y,S,⟨J,N⟩,V⟩ t0 X
 replace N:=N.nf
 obtain ⟨C0,y0,z0,m0,P⟩:=V
 replace N:=N.pl 2
 refine zT call179 (fun w N a J=>?_) (c:=mL (i:=A) rl z (by omega) N)
 refine yH call158 (fun q w N a J=>?_) (fun q w N a J=>?_) (c:=mK G N)
 refine Reg [1,2,1,0,0,0,1,0] [2,3,4,5] fun w N a J=>?_
 refine jN call177 (fun U w s N a J=>?_) (fun U w s N=>?_) (c:=sJ G (i:=A) rl z (by omega) N)
 have a0:=xE s
 refine jQ fun F0 w N a J=>?_
 refine vH 2 xQ (fun k0 w N a J=>?_) (hb:=by simp [zR];omega)
 refine Sto 3 fun w N a J=>?_
 refine go fun a J=>?_
 first | rw [qI] at N | rw [<- yN] at N
 replace N:=N.ar [0] [5,5,5,3,5,5]
 refine X _ _ _ (by subst S;omega) ⟨(U.2),(k0),(vs++[U.1]),(Y - 1),rfl,⟨J.pk,by exact N⟩,?_⟩
 exact ⟨by simp only [laQ,lcQ,lnQ];omega,by omega,by omega,by simp only [laQ,lcQ,lnQ];omega,q6v P (by omega) q s⟩
 replace N:=N.dl [4,3,2,1,0]
 show Out (cW ws i) _ _
 rw [show cW ws i=.error _ from (zE p).trans ((zE v).trans (zO (j1m D (by omega) e (q6u P (by omega) q s))))]
 exact ⟨rfl,N.le (g)⟩
 refine go fun a J=>?_
 have l:=N
 clear N
 obtain ⟨I,n,N,E⟩:=l.freezeRow (i:=1) rfl
 clear l
 replace rl:=rl.up n
 replace G:=G.mono n
 replace hch:=hch.mono fun _ _ h=>RCon.mono _ _ _ _ n h
 replace N:=N.nf
 have b:SliceOf RStr I 1 _ (vs):=SliceOf.strs.2 E
 obtain ⟨i0,e0,T,o0,q0⟩:=b.form (by decide)
 have m:=N
 clear N
 subst T
 have N:=m
 clear m
 have H:=j1w P (by omega) q
 refine jQ fun G0 w N a J=>?_
 refine vH 3 rt_124 (fun l0 w N a J=>?_)
 refine Sto 4 fun w N a J=>?_
 replace N:=N.pl 1
 refine zT call179 (fun w N a J=>?_) (c:=mL (i:=A) rl z (by omega) N)
 by_cases M:(zF ws A)=(⟨#[124]⟩:Bs)
 have n0:=z0b M (by decide)
 refine Sto 0 fun w N a J=>?_
 refine go fun a J=>?_
 replace N:=N.ar [2,1] [3,3,2,3]
 refine W _ _ _ (by subst S;omega) ⟨(I),(A+1),(l0),((cs++[.string d.1,.slice i0 (vs).length e0])),(xs++[(⟨d.1,vs⟩:Con)]),(f - 1),rfl,⟨J.pk,by exact N⟩,?_⟩
 refine ⟨(g).trans n,?_⟩
 exact ⟨(hch.snoc (k:=2) (x:=(⟨d.1,vs⟩:Con)) rfl ⟨_,rfl,b⟩),by simp only [laQ,lcQ,lnQ];omega,by omega,by simp only [laQ,lcQ,lnQ];omega,j8j D (by omega) e H M⟩
 refine go fun a J=>?_
 have l:=N
 clear N
 obtain ⟨L,t,N,F⟩:=l.freezeRow (i:=3) rfl
 clear l
 replace G:=G.mono t
 replace hch:=hch.mono fun _ _ h=>RCon.mono _ _ _ _ t h
 replace b:=b.up t
 replace N:=N.nf
 have C:SliceOf RCon L 2 _ (xs++[(⟨d.1,vs⟩:Con)]):=⟨_,F,(hch.snoc (k:=2) (x:=(⟨d.1,vs⟩:Con)) rfl ⟨_,rfl,b⟩)⟩
 obtain ⟨E0,w0,T,p0,r0⟩:=C.form (by decide)
 have m:=N
 clear N
 subst T
 have N:=m
 clear m
 refine Sto 4 fun w N a J=>?_
 refine go fun a J=>?_
 have h0:=N
 replace N:=N.dl [4,3,2,1]
 refine pS (N:=h0) ?_
 show Out (cW ws i) _ _
 rw [show cW ws i=.ok ((⟨q4.1,xs++[(⟨d.1,vs⟩:Con)]⟩:Data),A) from (zE p).trans ((zE v).trans ((zE (x3n D (by omega) e H M)).trans rfl))]
 exact ⟨(L,_),rfl,⟨((g).trans n).trans t,⟨_,rfl,C⟩⟩,N⟩
 replace N:=N.dl [2,1,0]
 show Out (cW ws i) _ _
 rw [show cW ws i=.error _ from (zE p).trans ((zE v).trans (zO (j1l D (by omega) e)))]
 exact ⟨rfl,N.le (g)⟩
 replace N:=N.dl [1,0]
 show Out (cW ws i) _ _
 rw [show cW ws i=.error _ from (zE p).trans (zO v)]
 exact ⟨rfl,N⟩
 replace N:=N.dl [0]
 show Out (cW ws i) _ _
 rw [show cW ws i=.error _ from zO p]
 exact ⟨rfl,N⟩
theorem rfun_ok {Φ:Fz} {K:List Res} {w:World} {r i:Nat} {rs:Value} {ws:List Bs} (hE:uH ws 250) (G:Glob Φ) (rl:SliceOf RStr Φ 1 rs ws) (p:ws.length<=1000000) (hi:i<=ws.length) (N:Mem Φ (.blk r (ob [rs,.int .i64 i] 210)::K) w) :
  Calls prog 141 #[.pointer (some ⟨r,0,none⟩)] w (fun ee w'=>Out (hH ws i) (fun x=>∃y:Fz×List Value,ee=.returned (.agg y.2.toArray)/\(Φ.Le y.1/\RFun y.1 y.2 x.1)/\Mem y.1 (.blk r (ob [rs,.int .i64 ((x.2:Nat):Int)] 210)::K) w') (fun c=>ee=.panicked (aB c)/\Mem Φ K w')):=by
 obtain ⟨pw,cw,rfl,A0,B0⟩:=rl.fm
 refine zL func141 ntmps141 fun Q hQ a J=>?_
 refine Alc fun b2 w N a J=>?_
 replace N:=N.pl 1
 refine jN call142 (fun I w e N a J=>?_) (fun I w e N=>?_) (c:=aZ G (i:=i) rl p (by omega) N)
 have d0:=xE e
 refine qO fun a J=>?_
 refine Alc fun b6 w N a J=>?_
 refine Sto 0 fun w N a J=>?_
 refine go fun a J=>?_
 replace N:=N.nilRow 36 2
 replace N:=N.nf
 refine zU (J.ks [0,2,3]) N (fun R mm a w=>∃(j:Nat) (u:Value) (cs:List Value) (xs:List Param) (f:Nat),mm=ws.length - j/\R Φ [] [(0,.gs (u) 36 2 cs),(1,.blk b6 (ob [.string I.1,u,.string ⟨#[]⟩,.int .i64 ((0:Nat):Int),.int .i64 ((0:Nat):Int),.string ⟨#[]⟩,.slice none 0 0,.slice none 0 0] 112)),(2,.blk r (ob [.slice pw ws.length cw,.int .i64 j] 210))] a w/\(Chunks (RParam Φ) 2 cs xs/\xs.length<=j/\j<=ws.length/\xs.length+f=ws.length+1/\wK ws (ws.length+1) I.2=wD xs (wK ws f j))) (ws.length - I.2) ⟨I.2,.slice none 0 0,[],[],ws.length+1,rfl,⟨J.pk,N⟩,⟨rfl,Nat.zero_le _,by omega,Nat.zero_add _,oJ _⟩⟩ ?_
 clear N J
 rintro mm a w ⟨j,u,cs,xs,f,f0,⟨J,N⟩,a0⟩ L8 b0
 replace N:=N.nf
 obtain ⟨hch,C0,hj,z0,B⟩:=a0
 replace N:=N.pl 2
 refine zT call179 (fun w N a J=>?_) (c:=mL (i:=j) rl p (by omega) N)
 by_cases z:(zF ws j)=(⟨#[40]⟩:Bs)
 have k0:=z0b z (by decide)
 refine Sto 0 fun w N a J=>?_
 refine Reg [1,2,1,0,0,0,1,0] [2,3] fun w N a J=>?_
 refine jN call140 (fun v w m N a J=>?_) (fun v w m N=>?_) (c:=q2e G (i:=(j+1)) rl p (by omega) N)
 have V:=q8p m
 refine jQ fun G0 w N a J=>?_
 refine vH 2 z3y (fun h0 w N a J=>?_)
 refine Sto 3 fun w N a J=>?_
 replace N:=N.pl 1
 refine jN call178 (fun M w q N a J=>?_) (fun M w q N=>?_) (c:=pL (x:=(⟨#[41]⟩:Bs)) (i:=v.2) rl p (by omega) N)
 have W:=pJ q
 refine go fun a J=>?_
 replace N:=N.ar [1] [3,1,3,3]
 refine b0 _ _ _ (by subst f0;omega) ⟨(M.2),(h0),((cs++[.string v.1.name,.string v.1.type])),(xs++[v.1]),(f - 1),rfl,⟨J.pk,by exact N⟩,?_⟩
 exact ⟨(hch.snoc (k:=2) (x:=v.1) rfl rfl),by simp only [laQ,lcQ,lnQ];omega,by omega,by simp only [laQ,lcQ,lnQ];omega,q8q B (by omega) z m q⟩
 replace N:=N.dl [3,2,1,0]
 show Out (hH ws i) _ _
 rw [show hH ws i=.error _ from (zE e).trans (zO (q4t B (by omega) z m q))]
 exact ⟨rfl,N⟩
 replace N:=N.dl [2,1,0]
 show Out (hH ws i) _ _
 rw [show hH ws i=.error _ from (zE e).trans (zO (q4s B (by omega) z m))]
 exact ⟨rfl,N⟩
 refine go fun a J=>?_
 have D:=N
 clear N
 obtain ⟨T,b,N,C⟩:=D.freezeRow (i:=1) rfl
 clear D
 replace rl:=rl.up b
 replace G:=G.mono b
 replace hch:=hch.mono fun _ _ h=>RParam.mono _ _ _ _ b h
 replace N:=N.nf
 have l:SliceOf RParam T 2 _ (xs):=⟨_,C,hch⟩
 obtain ⟨D0,c27,g0,l0,o0⟩:=l.form (by decide)
 have E:=N
 clear N
 subst g0
 have N:=E
 clear E
 have o:=j2x B (by omega) z
 refine jN call178 (fun P w d N a J=>?_) (fun P w d N=>?_) (c:=pL (x:=(⟨#[58]⟩:Bs)) (i:=j) rl p (by omega) N)
 have X:=pJ d
 refine jN call177 (fun F w g N a J=>?_) (fun F w g N=>?_) (c:=sJ G (i:=P.2) rl p (by omega) N)
 have Y:=xE g
 refine Sto 1 fun w N a J=>?_
 refine jN call178 (fun S w n N a J=>?_) (fun S w n N=>?_) (c:=pL (x:=(⟨#[61]⟩:Bs)) (i:=F.2) rl p (by omega) N)
 have Z:=pJ n
 refine gS call180 (fun H i0 w s L N a J=>?_) (fun H w s N=>?_) (c:=hE G rl (i:=S.2) (by omega) N)
 obtain ⟨U,u0⟩:=i0
 obtain ⟨t,A⟩:=L
 simp only at t A N J
 have c0:=vW 250 _ _ s
 replace G:=G.mono t
 replace l:=l.up t
 replace N:=N.nf
 obtain ⟨E0,s0,F0,t0,rfl,j0,w0,x0,m0,p0,n0,q0⟩:=REx.fm A
 refine Sto 1 fun w N a J=>?_
 refine Sto 2 fun w N a J=>?_
 refine go fun a J=>?_
 have e0:=N
 replace N:=N.dl [2,1]
 refine pS (N:=e0) ?_
 show Out (hH ws i) _ _
 rw [show hH ws i=.ok ((⟨I.1,xs,F.1,H.1⟩:Fun),H.2) from (zE e).trans ((zE o).trans ((zE d).trans ((zE g).trans ((zE n).trans ((zE s).trans (rfl))))))]
 exact ⟨(U,_),rfl,⟨(b).trans t,⟨_,_,rfl,l,A⟩⟩,N⟩
 replace N:=N.dl [1,0]
 show Out (hH ws i) _ _
 rw [show hH ws i=.error _ from (zE e).trans ((zE o).trans ((zE d).trans ((zE g).trans ((zE n).trans (zO s)))))]
 exact ⟨rfl,N.le (b)⟩
 replace N:=N.dl [1,0]
 show Out (hH ws i) _ _
 rw [show hH ws i=.error _ from (zE e).trans ((zE o).trans ((zE d).trans ((zE g).trans (zO n))))]
 exact ⟨rfl,N.le (b)⟩
 replace N:=N.dl [1,0]
 show Out (hH ws i) _ _
 rw [show hH ws i=.error _ from (zE e).trans ((zE o).trans ((zE d).trans (zO g)))]
 exact ⟨rfl,N.le (b)⟩
 replace N:=N.dl [1,0]
 show Out (hH ws i) _ _
 rw [show hH ws i=.error _ from (zE e).trans ((zE o).trans (zO d))]
 exact ⟨rfl,N.le (b)⟩
 replace N:=N.dl [0]
 show Out (hH ws i) _ _
 rw [show hH ws i=.error _ from zO e]
 exact ⟨rfl,N⟩
theorem Mem.freezeRowT {Φ:Fz} {K:List Res} {w:World} {v:Value} {T:TypeId} {k i:Nat} {cs:List Value} (N:Mem Φ K w) (q:qU K i=some (.gs v T k cs)) :
  ∃Ψ,Φ.Le Ψ/\Mem Ψ (tJ K i) w/\Row Ψ v k cs/\∀K' w',Mem Ψ K' w'->Mem Φ (.gs v T k cs::K') w':=by
 have h:=N.pull q
 obtain ⟨m,hl,t⟩:=N.own _ (qV q)
 rcases t with ⟨rfl,rfl⟩ | ⟨b,cap,cur,rfl,s,u,a,g,n,d⟩
 ·refine ⟨Φ,Fz.Le.refl Φ,h.tail,.inl ⟨rfl,List.eq_nil_of_length_eq_zero (by simpa using hl)⟩,fun K' w' h'=>?_⟩
  have:cs=[]:=List.eq_nil_of_length_eq_zero (by simpa using hl)
  subst this
  exact h'.nilRow T k
 ·have f:=h.no (b:=b) rfl
  refine ⟨_,Fz.le_add f _,h.freezeHead (b:=b) rfl u,.inr ⟨_,m,cap,rfl,hl,Nat.le_trans a g,fun _=>⟨rfl,cur,T,(0,0),by simp [Fz.add],fun j v l=>?_⟩⟩,fun K' w' h'=>?_⟩
  ·rw [<- d,List.getElem?_take] at l
   split at l
   ·simpa using l
   ·cases l
  ·have hb:w'.heap[b]? = some (.cells cur T (0,0)):=h'.fz b _ (by simp [Fz.add])
   have hk':∀c∈hY K',c≠b:=fun c a e=>by
    have:=h'.apart c a
    subst e
    simp [Fz.add] at this
   refine { fz:=fun c o a=>h'.fz c o ((Fz.le_add f _).obj c o a),own:=fun r hr=>?_,os:=h'.os,out:=h'.out,nodup := ?_,apart:=fun c a=>?_ }
   ·rcases List.mem_cons.1 hr with rfl | hr
    ·exact ⟨m,hl,.inr ⟨b,cap,cur,rfl,s,hb,a,g,n,d⟩⟩
    ·exact h'.own r hr
   ·show (hY (.gs _ _ _ _::K')).Nodup
    simp only [hY,List.filterMap_cons,Res.foot,Value.ownBlock,List.nodup_cons]
    exact ⟨fun a=>hk' _ a rfl,h'.nodup⟩
   ·simp only [hY,List.filterMap_cons,Res.foot,Value.ownBlock,List.mem_cons] at a
    rcases a with rfl | a
    ·exact f
    ·have p:=h'.apart c a
     simp only [Fz.add,if_neg (hk' c a)] at p
     exact p
theorem SliceOf.formO {α:Type} {R:Fz->List Value->α->Prop} {Φ:Fz} {k c:Nat} {q:Option Addr} {xs:List α} (h:SliceOf R Φ k (.slice q xs.length c) xs) (d:0 < k) :
  xs.length<=9223372036854775807/\(xs≠[]->∃p,q=some p):=by
 obtain ⟨p,c',e,h1,b⟩:=h.form d
 injection e with a e2 e3
 subst a
 exact ⟨h1,b⟩
def Thaw (R:List Res) (Φ:Fz) (v:Value) (l:List Bs):Prop :=
 ∀(Ψ:Fz) (K:List Res) (w:World),Φ.Le Ψ->Mem Ψ (R++K) w->∃a,Ψ.Le a/\Mem a K w/\SliceOf RStr a 1 v l/\∀K' w',Mem a K' w'->Mem Ψ (R++K') w'
theorem Thaw.none {Φ:Fz} {v:Value} {l:List Bs} (h:SliceOf RStr Φ 1 v l):Thaw [] Φ v l :=
 fun Ψ _ _ hl N=>⟨Ψ,Fz.Le.refl _,N,h.mono RStr.mono hl,fun _ _ h=>h⟩
theorem Thaw.own {Φ:Fz} {v:Value} {l:List Bs}:Thaw [.gs v 9 1 (strs l)] Φ v l:=fun _ _ _ _ N=>
 let ⟨a,h1,b,c,d⟩:=N.freezeRowT (i:=0) rfl
 ⟨a,h1,b,SliceOf.strs.2 c,d⟩
theorem Thaw.mono {R:List Res} {Φ Ψ:Fz} {v:Value} {l:List Bs} (h:Thaw R Φ v l) (hl:Φ.Le Ψ):Thaw R Ψ v l :=
 fun a K w b N=>h a K w (hl.trans b) N
def Fz.del (Φ:Fz) (b:Nat):Fz:={ Φ with obj:=fun c=>if c=b then none else Φ.obj c }
theorem At.del {Φ:Fz} {p:Addr} {cs:List Value} {b:Nat} (h:At Φ p cs) (hb:p.block≠b):At (Φ.del b) p cs:=by
 obtain ⟨h1,cur,T,o,a,c⟩:=h
 exact ⟨h1,cur,T,o,by simp only [Fz.del,if_neg hb];exact a,c⟩
theorem x2x {Φ:Fz} {K:List Res} {w:World} {v0:Value} {l:List Bs} (m:SliceOf RStr Φ 1 v0 l) (G:Glob Φ) (N:Mem Φ K w) :
  Calls prog 132 #[v0] w (fun ee w'=>ee=.returned (.bool (pT yQ [] l))/\Mem Φ K w'):=by
 obtain ⟨p0,c0,rfl,z,q⟩:=m.fm
 refine zL func132 ntmps132 fun Q hQ a J=>?_
 refine MkM fun y w N a J=>?_
 refine go fun a J=>?_
 refine zU (J.ks [3,7,8]) N (fun R mm a w=>∃(i:Nat) (ds:List Bs),mm=l.length - i/\R Φ [(9,.int .i64 i)] [(0,.mp y (mZ ds))] a w/\(pT yQ [] l=pT yQ ds (l.drop i))) (l.length - 0) ⟨0,[],rfl,⟨J.pk,N⟩,rfl⟩ ?_
 clear N J
 rintro mm a w ⟨i,ds,p,⟨J,N⟩,g⟩ C n
 replace N:=N.nf
 by_cases r:i < l.length
 refine go fun a J=>?_
 obtain ⟨B,rfl,f,e,h,t,s,k⟩:=m.el q r
 obtain rfl:h=[.string f]:=k
 refine yH call161 (fun j w N a J=>?_) (fun j w N a J=>?_) (c:=tI G N)
 refine go fun a J=>?_
 rcases d:yM ((mZ ds)) f with _ | v
 have b:=congrArg (zJ false (.bool false)) d
 refine Qq (fun a J=>?_) (o:=by exact fun J O=>Ok.cast (zW 0 runUnderlying198 runUnderlying9 zeroValue4 J O rfl rfl rfl) (show zJ false (.bool false) (yM ((mZ ds)) f)=.bool false from b))
 refine z4d 0 runUnderlying198 runUnderlying9 fun w N a J=>?_
 rw [<- z5e] at N
 refine go fun a J=>?_
 refine n _ _ _ (by subst p;omega) ⟨(i+1),(ds++[f]),rfl,⟨J.pk,N⟩,?_⟩
 rw [g,zA e];have A:=y7q d;simp [pT, *]
 obtain ⟨rfl,u⟩:=y7r d
 have b:=congrArg (zJ false (.bool false)) d
 refine Qq (fun a J=>?_) (o:=by exact fun J O=>Ok.cast (zW 0 runUnderlying198 runUnderlying9 zeroValue4 J O rfl rfl rfl) (show zJ false (.bool false) (yM ((mZ ds)) f)=.bool true from b))
 refine zD ?_
 replace N:=N.dl [0]
 exact zP N (by rw [g,zA e];simp [pT, *])
 refine zD ?_
 replace N:=N.dl [0]
 exact zP N (by rw [g,zA e];simp [pT, *])
 refine zD ?_
 replace N:=N.dl [0]
 exact zP N (by rw [g,zB r];rfl)
section
variable {Φ:Fz} {K:List Res} {w:World}
theorem q4r {b:Nat} {m:List (Bs×Value)} {l:List (Bs×Data)} {name:Bs} {d2:List Value} {x:Data} (g:MapRel (RVa RData Φ) m l) (k:RData Φ d2 x) (N:Mem Φ (.mp b m::K) w) :
  Calls prog 159 #[.map (some b),.string name,.agg d2.toArray] w (fun ee w'=>ee=.returned (.bool ((zK l name).isNone))/\Mem Φ (.mp b (vR m name (.agg d2.toArray))::K) w'):=by
 obtain ⟨C,rfl,u⟩:=id k
 obtain ⟨B,c4,rfl,v,y⟩:=u.fm
 refine zL func159 ntmps159 fun Q hQ a J=>?_
 refine Bx fun A w N a J=>?_
 refine go fun a J=>?_
 rcases c:yM (m) name with _ | r
 have d:=congrArg (zJ true (.agg #[.string ⟨#[]⟩,.slice none 0 0])) c
 refine Qq (fun a J=>?_) (o:=by exact fun J O=>Ok.cast (zW 1 runUnderlying113 runUnderlying9 zeroValue126 J O rfl rfl rfl) (show zJ true (.agg #[.string ⟨#[]⟩,.slice none 0 0]) (yM (m) name)=.tuple #[.agg #[.string ⟨#[]⟩,.slice none 0 0],.bool false] from d))
 refine Alc fun s w N a J=>?_
 refine Sto 0 fun w N a J=>?_
 refine z4d 2 runUnderlying113 runUnderlying9 fun w N a J=>?_
 refine zD ?_
 replace N:=N.dl [1,0]
 refine ⟨?_,?_⟩
 rw [g.none c];rfl
 simp only [vR,c];exact N
 obtain ⟨h,f,n,rfl,e⟩:=g.get c
 obtain ⟨z,rfl,i⟩:=id e
 obtain ⟨j,c24,rfl,p,q⟩:=i.fm
 have d:=congrArg (zJ true (.agg #[.string ⟨#[]⟩,.slice none 0 0])) c
 refine Qq (fun a J=>?_) (o:=by exact fun J O=>Ok.cast (zW 1 runUnderlying113 runUnderlying9 zeroValue126 J O rfl rfl rfl) (show zJ true (.agg #[.string ⟨#[]⟩,.slice none 0 0]) (yM (m) name)=.tuple #[.agg #[.string h.name,.slice j h.cons.length c24],.bool true] from d))
 refine Alc fun t w N a J=>?_
 refine Sto 0 fun w N a J=>?_
 refine zD ?_
 replace N:=N.dl [1,0]
 refine ⟨?_,?_⟩
 rw [f];rfl
 simp only [vR,c];exact N
theorem pQ {b:Nat} {m:List (Bs×Value)} {l:List (Bs×Maker)} {name:Bs} {d2:List Value} {x:Maker} (h:MapRel (RVa RMaker Φ) m l) (p:RMaker Φ d2 x) (N:Mem Φ (.mp b m::K) w) :
  Calls prog 160 #[.map (some b),.string name,.agg d2.toArray] w (fun ee w'=>ee=.returned (.bool ((zK l name).isNone))/\Mem Φ (.mp b (vR m name (.agg d2.toArray))::K) w'):=by
 obtain ⟨F,rfl,A⟩:=id p
 obtain ⟨I,rfl,B⟩:=id A
 obtain ⟨H,G,rfl,C,D⟩:=B.fm
 refine zL func160 ntmps160 fun Q hQ a J=>?_
 refine Bx fun u w N a J=>?_
 refine go fun a J=>?_
 rcases c:yM (m) name with _ | t
 have d:=congrArg (zJ true (.agg #[.string ⟨#[]⟩,.string ⟨#[]⟩,.slice none 0 0])) c
 refine Qq (fun a J=>?_) (o:=by exact fun J O=>Ok.cast (zW 1 runUnderlying114 runUnderlying9 zeroValue201 J O rfl rfl rfl) (show zJ true (.agg #[.string ⟨#[]⟩,.string ⟨#[]⟩,.slice none 0 0]) (yM (m) name)=.tuple #[.agg #[.string ⟨#[]⟩,.string ⟨#[]⟩,.slice none 0 0],.bool false] from d))
 refine Alc fun v w N a J=>?_
 refine Sto 0 fun w N a J=>?_
 refine z4d 2 runUnderlying114 runUnderlying9 fun w N a J=>?_
 refine zD ?_
 replace N:=N.dl [1,0]
 refine ⟨?_,?_⟩
 rw [h.none c];rfl
 simp only [vR,c];exact N
 obtain ⟨e,g,q,rfl,f⟩:=h.get c
 obtain ⟨y,rfl,j⟩:=id f
 obtain ⟨E,rfl,k⟩:=id j
 obtain ⟨n,i,rfl,r,s⟩:=k.fm
 have d:=congrArg (zJ true (.agg #[.string ⟨#[]⟩,.string ⟨#[]⟩,.slice none 0 0])) c
 refine Qq (fun a J=>?_) (o:=by exact fun J O=>Ok.cast (zW 1 runUnderlying114 runUnderlying9 zeroValue201 J O rfl rfl rfl) (show zJ true (.agg #[.string ⟨#[]⟩,.string ⟨#[]⟩,.slice none 0 0]) (yM (m) name)=.tuple #[.agg #[.string e.data,.string e.con.name,.slice n e.con.fields.length i],.bool true] from d))
 refine Alc fun z w N a J=>?_
 refine Sto 0 fun w N a J=>?_
 refine zD ?_
 replace N:=N.dl [1,0]
 refine ⟨?_,?_⟩
 rw [g];rfl
 simp only [vR,c];exact N
theorem q8n {b:Nat} {m:List (Bs×Value)} {l:List (Bs×Fun)} {name:Bs} {d2:List Value} {x:Fun} (h:MapRel (RVa RFun Φ) m l) (s:RFun Φ d2 x) (N:Mem Φ (.mp b m::K) w) :
  Calls prog 162 #[.map (some b),.string name,.agg d2.toArray] w (fun ee w'=>ee=.returned (.bool ((zK l name).isNone))/\Mem Φ (.mp b (vR m name (.agg d2.toArray))::K) w'):=by
 obtain ⟨s1,b7,rfl,W,Z⟩:=id s
 obtain ⟨p3,c4,rfl,a0,b0⟩:=W.fm
 obtain ⟨c0,S,d0,T,rfl,u,U,V,y,D,z,E⟩:=REx.fm Z
 refine zL func162 ntmps162 fun Q hQ a J=>?_
 refine Bx fun L w N a J=>?_
 refine go fun a J=>?_
 rcases c:yM (m) name with _ | I
 have e:=congrArg (zJ true (.agg #[.string ⟨#[]⟩,.slice none 0 0,.string ⟨#[]⟩,.int .i64 ((0:Nat):Int),.int .i64 ((0:Nat):Int),.string ⟨#[]⟩,.slice none 0 0,.slice none 0 0])) c
 refine Qq (fun a J=>?_) (o:=by exact fun J O=>Ok.cast (zW 1 runUnderlying115 runUnderlying9 zeroValue112 J O rfl rfl rfl) (show zJ true (.agg #[.string ⟨#[]⟩,.slice none 0 0,.string ⟨#[]⟩,.int .i64 ((0:Nat):Int),.int .i64 ((0:Nat):Int),.string ⟨#[]⟩,.slice none 0 0,.slice none 0 0]) (yM (m) name)=.tuple #[.agg #[.string ⟨#[]⟩,.slice none 0 0,.string ⟨#[]⟩,.int .i64 ((0:Nat):Int),.int .i64 ((0:Nat):Int),.string ⟨#[]⟩,.slice none 0 0,.slice none 0 0],.bool false] from e))
 refine Alc fun M w N a J=>?_
 refine Sto 0 fun w N a J=>?_
 refine z4d 2 runUnderlying115 runUnderlying9 fun w N a J=>?_
 refine zD ?_
 replace N:=N.dl [1,0]
 refine ⟨?_,?_⟩
 rw [h.none c];rfl
 simp only [vR,c];exact N
 obtain ⟨d,g,t,rfl,f⟩:=h.get c
 obtain ⟨e0,P,rfl,k,n⟩:=id f
 obtain ⟨p,i,rfl,A,F⟩:=k.fm
 obtain ⟨q,j,r,c53,rfl,v,X,Y,B,G,C,H⟩:=REx.fm n
 have e:=congrArg (zJ true (.agg #[.string ⟨#[]⟩,.slice none 0 0,.string ⟨#[]⟩,.int .i64 ((0:Nat):Int),.int .i64 ((0:Nat):Int),.string ⟨#[]⟩,.slice none 0 0,.slice none 0 0])) c
 refine Qq (fun a J=>?_) (o:=by exact fun J O=>Ok.cast (zW 1 runUnderlying115 runUnderlying9 zeroValue112 J O rfl rfl rfl) (show zJ true (.agg #[.string ⟨#[]⟩,.slice none 0 0,.string ⟨#[]⟩,.int .i64 ((0:Nat):Int),.int .i64 ((0:Nat):Int),.string ⟨#[]⟩,.slice none 0 0,.slice none 0 0]) (yM (m) name)=.tuple #[.agg #[.string d.name,.slice p d.params.length i,.string d.result,.int .i64 (d.body.kind),.int .i64 (d.body.num),.string d.body.name,.slice q d.body.args.length j,.slice r d.body.arms.length c53],.bool true] from e))
 refine Alc fun R w N a J=>?_
 refine Sto 0 fun w N a J=>?_
 refine zD ?_
 replace N:=N.dl [1,0]
 refine ⟨?_,?_⟩
 rw [g];rfl
 simp only [vR,c];exact N
theorem j2u {b:Nat} {m:List (Bs×Value)} {l:List (Bs×Bs)} {name:Bs} {x:Bs} (f:MapRel RVs m l) (N:Mem Φ (.mp b m::K) w) :
  Calls prog 163 #[.map (some b),.string name,.string x] w (fun ee w'=>ee=.returned (.bool ((zK l name).isNone))/\Mem Φ (.mp b (vR m name (.string x))::K) w'):=by
 refine zL func163 ntmps163 fun Q hQ a J=>?_
 refine go fun a J=>?_
 rcases c:yM (m) name with _ | g
 have d:=congrArg (zJ true (.string ⟨#[]⟩)) c
 refine Qq (fun a J=>?_) (o:=by exact fun J O=>Ok.cast (zW 0 runUnderlying70 runUnderlying9 zeroValue9 J O rfl rfl rfl) (show zJ true (.string ⟨#[]⟩) (yM (m) name)=.tuple #[.string ⟨#[]⟩,.bool false] from d))
 refine z4d 0 runUnderlying70 runUnderlying9 fun w N a J=>?_
 refine zD ?_
 refine ⟨?_,?_⟩
 rw [f.none c];rfl
 simp only [vR,c];exact N
 obtain ⟨h,e,rfl⟩:=f.get c
 have d:=congrArg (zJ true (.string ⟨#[]⟩)) c
 refine Qq (fun a J=>?_) (o:=by exact fun J O=>Ok.cast (zW 0 runUnderlying70 runUnderlying9 zeroValue9 J O rfl rfl rfl) (show zJ true (.string ⟨#[]⟩) (yM (m) name)=.tuple #[.string h,.bool true] from d))
 refine zD ?_
 refine ⟨?_,?_⟩
 rw [e];rfl
 simp only [vR,c];exact N
end
theorem z8y {Φ:Fz} {K:List Res} {w:World} {p0:Addr} {T:Table} {name:Bs} (p:RTable Φ p0 T) (N:Mem Φ K w) :
  Calls prog 128 #[.pointer (some p0),.string name] w (fun ee w'=>ee=.returned (.bool (wI T name))/\Mem Φ K w'):=by
 obtain ⟨q,m1,m2,m3,m4,j,d6,d7,d8,l,m,d,g,e,F,I,G,L,H,M⟩:=p.ex
 obtain ⟨a0,c24,b0,U,c0,V,d0,c42,rfl,W,X,Y,Z,s,z,t,A,u,B,v,C⟩:=RCore.fm d
 refine zL func128 ntmps128 fun Q hQ a J=>?_
 refine go fun a J=>?_
 rcases c:yM (j) name with _ | P
 have b:=congrArg (zJ true (.agg #[.string ⟨#[]⟩,.slice none 0 0])) c
 refine Qq (fun a J=>?_) (o:=by exact fun J O=>Ok.cast (qA runUnderlying113 runUnderlying9 zeroValue126 J O rfl rfl g) (show zJ true (.agg #[.string ⟨#[]⟩,.slice none 0 0]) (yM (j) name)=.tuple #[.agg #[.string ⟨#[]⟩,.slice none 0 0],.bool false] from b))
 refine Alc fun R w N a J=>?_
 refine Sto 0 fun w N a J=>?_
 refine Qq (fun a J=>?_) (o:=by exact fun J O=>z7s J rfl rfl)
 refine zD ?_
 replace N:=N.dl [0]
 exact zP N (by have e_:=MapRel.none e c;simp [wI,yU, *] <;> rfl)
 obtain ⟨h,E,r,rfl,f⟩:=e.get c
 obtain ⟨e0,rfl,k⟩:=id f
 obtain ⟨n,i,rfl,y,D⟩:=k.fm
 have b:=congrArg (zJ true (.agg #[.string ⟨#[]⟩,.slice none 0 0])) c
 refine Qq (fun a J=>?_) (o:=by exact fun J O=>Ok.cast (qA runUnderlying113 runUnderlying9 zeroValue126 J O rfl rfl g) (show zJ true (.agg #[.string ⟨#[]⟩,.slice none 0 0]) (yM (j) name)=.tuple #[.agg #[.string h.name,.slice n h.cons.length i],.bool true] from b))
 refine Alc fun S w N a J=>?_
 refine Sto 0 fun w N a J=>?_
 refine zD ?_
 replace N:=N.dl [0]
 exact zP N (by simp [wI,yU, *] <;> rfl)
theorem oX {Φ:Fz} {K:List Res} {w:World} {d0:List Value} {e:Ex} {nm:Bool} {sn:Bool} {ar:Int} {rm:Int} (b:REx Φ d0 e) (N:Mem Φ K w) :
  Calls prog 185 #[.agg d0.toArray,.bool nm,.bool sn,.int .i64 ar,.int .i64 rm] w (fun ee w'=>ee=.returned (.bool (qP e nm sn ar rm))/\Mem Φ K w'):=by
 obtain ⟨I,c4,L,h,rfl,c,G,H,E,F,d,f⟩:=REx.fm b
 refine zL func185 ntmps185 fun Q hQ a J=>?_
 refine Bx fun g w N a J=>?_
 refine go fun a J=>?_
 cases nm
 by_cases i:e.num=0
 refine go fun a J=>?_
 cases sn
 by_cases j:e.name=(⟨#[]⟩:Bs)
 by_cases k:ar < 0
 by_cases l:rm < 0
 refine zD ?_
 replace N:=N.dl [0]
 rotate_left
 refine Qq (fun a J=>?_) (o:=by exact fun J O=>mX J rfl rfl)
 refine zD ?_
 replace N:=N.dl [0]
 rotate_left
 by_cases m:((e.args.length:Nat):Int)=ar
 refine go fun a J=>?_
 by_cases n:rm < 0
 refine zD ?_
 replace N:=N.dl [0]
 rotate_left
 refine Qq (fun a J=>?_) (o:=by exact fun J O=>mX J rfl rfl)
 refine zD ?_
 replace N:=N.dl [0]
 rotate_left
 refine zD ?_
 replace N:=N.dl [0]
 rotate_left
 refine zD ?_
 replace N:=N.dl [0]
 rotate_left
 by_cases p:ar < 0
 by_cases q:rm < 0
 refine zD ?_
 replace N:=N.dl [0]
 rotate_left
 refine Qq (fun a J=>?_) (o:=by exact fun J O=>mX J rfl rfl)
 refine zD ?_
 replace N:=N.dl [0]
 rotate_left
 by_cases r:((e.args.length:Nat):Int)=ar
 by_cases s:rm < 0
 refine zD ?_
 replace N:=N.dl [0]
 rotate_left
 refine Qq (fun a J=>?_) (o:=by exact fun J O=>mX J rfl rfl)
 refine zD ?_
 replace N:=N.dl [0]
 rotate_left
 refine zD ?_
 replace N:=N.dl [0]
 rotate_left
 refine zD ?_
 replace N:=N.dl [0]
 rotate_left
 refine go fun a J=>?_
 cases sn
 by_cases t:e.name=(⟨#[]⟩:Bs)
 by_cases u:ar < 0
 by_cases v:rm < 0
 refine zD ?_
 replace N:=N.dl [0]
 rotate_left
 refine Qq (fun a J=>?_) (o:=by exact fun J O=>mX J rfl rfl)
 refine zD ?_
 replace N:=N.dl [0]
 rotate_left
 by_cases y:((e.args.length:Nat):Int)=ar
 refine go fun a J=>?_
 by_cases z:rm < 0
 refine zD ?_
 replace N:=N.dl [0]
 rotate_left
 refine Qq (fun a J=>?_) (o:=by exact fun J O=>mX J rfl rfl)
 refine zD ?_
 replace N:=N.dl [0]
 rotate_left
 refine zD ?_
 replace N:=N.dl [0]
 rotate_left
 refine zD ?_
 replace N:=N.dl [0]
 rotate_left
 by_cases A:ar < 0
 by_cases B:rm < 0
 refine zD ?_
 replace N:=N.dl [0]
 rotate_left
 refine Qq (fun a J=>?_) (o:=by exact fun J O=>mX J rfl rfl)
 refine zD ?_
 replace N:=N.dl [0]
 rotate_left
 by_cases C:((e.args.length:Nat):Int)=ar
 by_cases D:rm < 0
 refine zD ?_
 replace N:=N.dl [0]
 rotate_left
 refine Qq (fun a J=>?_) (o:=by exact fun J O=>mX J rfl rfl)
 refine zD ?_
 replace N:=N.dl [0]
 rotate_left
 refine zD ?_
 replace N:=N.dl [0]
 rotate_left
 all_goals (exact zP N (by simp [qP, *] <;> omega))
section
variable {Φ:Fz} {K:List Res} {w:World}
theorem x1c {p0:Addr} {T:Table} {d1:List Value} {e:Ex} {b:Nat} {s:Scope} (j:RTable Φ p0 T) (g:REx Φ d1 e) (N:Mem Φ (.mp b (yW s)::K) w) :
  Calls prog 166 #[.pointer (some p0),.agg d1.toArray,.map (some b)] w (fun ee w'=>ee=.returned (.string (sI e))/\Mem Φ (.mp b (yW s)::K) w'):=by
 obtain ⟨k,m1,m2,m3,m4,d5,d6,d7,d8,h,i,f,Z,E,B,F,C,G,D,H⟩:=j.ex
 obtain ⟨a0,c24,b0,L,c0,M,d0,c42,rfl,S,U,V,W,m,t,n,u,o,v,p,y⟩:=RCore.fm f
 obtain ⟨e0,P,f0,R,rfl,l,X,Y,q,z,r,A⟩:=REx.fm g
 refine zL func166 ntmps166 fun Q hQ a J=>?_
 refine Bx fun I w N a J=>?_
 refine yH call185 (fun d w N a J=>?_) (fun d w N a J=>?_) (c:=oX g N)
 refine zD ?_
 replace N:=N.dl [0]
 exact tT N (by simp [sI,sNo,yU,d])
 refine zD ?_
 replace N:=N.dl [0]
 exact tT N (by simp [sI,sNo,yU,d])
theorem j0j {p0:Addr} {T:Table} {d1:List Value} {e:Ex} {b:Nat} {s:Scope} (m:RTable Φ p0 T) (j:REx Φ d1 e) (N:Mem Φ (.mp b (yW s)::K) w) :
  Calls prog 167 #[.pointer (some p0),.agg d1.toArray,.map (some b)] w (fun ee w'=>ee=.returned (.string (mW e s))/\Mem Φ (.mp b (yW s)::K) w'):=by
 obtain ⟨p,m1,m2,m3,m4,d5,d6,d7,d8,k,l,h,g0,L,G,M,H,P,I,R⟩:=m.ex
 obtain ⟨h0,c24,i0,V,j0,W,k0,c42,rfl,a0,b0,c0,d0,r,A,t,B,u,C,v,D⟩:=RCore.fm h
 obtain ⟨l0,X,m0,Y,rfl,q,e0,f0,y,E,z,F⟩:=REx.fm j
 refine zL func167 ntmps167 fun Q hQ a J=>?_
 refine Bx fun U w N a J=>?_
 refine yH call185 (fun f w N a J=>?_) (fun f w N a J=>?_) (c:=oX j N)
 refine go fun a J=>?_
 rcases g:yM ((yW s)) e.name with _ | S
 have d:=congrArg (zJ false (.string ⟨#[]⟩)) g
 refine Qq (fun a J=>?_) (o:=by exact fun J O=>Ok.cast (zW 1 runUnderlying195 runUnderlying9 zeroValue9 J O rfl rfl rfl) (show zJ false (.string ⟨#[]⟩) (yM ((yW s)) e.name)=.string ⟨#[]⟩ from d))
 refine zD ?_
 replace N:=N.dl [0]
 exact tT N (by have Z:=kI g;simp [mW,sNo,f,Z])
 obtain ⟨n,i,rfl⟩:=kJ g
 have d:=congrArg (zJ false (.string ⟨#[]⟩)) g
 refine Qq (fun a J=>?_) (o:=by exact fun J O=>Ok.cast (zW 1 runUnderlying195 runUnderlying9 zeroValue9 J O rfl rfl rfl) (show zJ false (.string ⟨#[]⟩) (yM ((yW s)) e.name)=.string n from d))
 refine zD ?_
 replace N:=N.dl [0]
 exact tT N (by simp [mW,sNo,f,i])
 refine zD ?_
 replace N:=N.dl [0]
 exact tT N (by simp [mW,sNo,f])
theorem j9t {p0:Addr} {T:Table} {d1:List Value} {e:Ex} {b:Nat} {s:Scope} (q:RTable Φ p0 T) (l:REx Φ d1 e) (N:Mem Φ (.mp b (yW s)::K) w) :
  Calls prog 168 #[.pointer (some p0),.agg d1.toArray,.map (some b)] w (fun ee w'=>ee=.returned (.string (uQ T e))/\Mem Φ (.mp b (yW s)::K) w'):=by
 obtain ⟨t,m1,m2,m3,m4,d5,d6,d7,m,n,p,h,h0,P,L,R,M,S,i,j⟩:=q.ex
 obtain ⟨i0,c24,j0,W,k0,X,l0,c42,rfl,b0,c0,d0,e0,v,D,y,E,z,F,A,G⟩:=RCore.fm h
 obtain ⟨m0,Y,n0,Z,rfl,u,f0,g0,B,H,C,I⟩:=REx.fm l
 refine zL func168 ntmps168 fun Q hQ a J=>?_
 refine Bx fun V w N a J=>?_
 refine yH call185 (fun f w N a J=>?_) (fun f w N a J=>?_) (c:=oX l N)
 refine Reg [1,1,1,2,1,2,2,1] [0,1] fun w N a J=>?_
 refine go fun a J=>?_
 rcases g:yM (m) e.name with _ | U
 have d:=congrArg (zJ false (.string ⟨#[]⟩)) g
 refine Qq (fun a J=>?_) (o:=by exact fun J O=>Ok.cast (qA runUnderlying70 runUnderlying9 zeroValue9 J O rfl rfl i) (show zJ false (.string ⟨#[]⟩) (yM (m) e.name)=.string ⟨#[]⟩ from d))
 refine zD ?_
 replace N:=N.dl [0]
 exact tT N (by have e_:=MapRel.none j g;simp [uQ,sNo,f,e_])
 obtain ⟨r,k,rfl⟩:=j.get g
 have d:=congrArg (zJ false (.string ⟨#[]⟩)) g
 refine Qq (fun a J=>?_) (o:=by exact fun J O=>Ok.cast (qA runUnderlying70 runUnderlying9 zeroValue9 J O rfl rfl i) (show zJ false (.string ⟨#[]⟩) (yM (m) e.name)=.string r from d))
 refine zD ?_
 replace N:=N.dl [0]
 exact tT N (by simp [uQ,sNo,f,k])
 refine zD ?_
 replace N:=N.dl [0]
 exact tT N (by simp [uQ,sNo,f])
theorem j1a {p0:Addr} {T:Table} {v1:Value} {xs:List Ex} {b:Nat} {s:Scope} {v3:Value} {ts:List Bs} (v:RTable Φ p0 T) (m:SliceOf REx Φ 5 v1 xs) (l:SliceOf RStr Φ 1 v3 ts) (ih:∀x:Ex,x∈xs->∀{Φ:Fz} {K:List Res} {w:World} {p:Addr} {d:List Value} {b:Nat} {s:Scope},RTable Φ p T->REx Φ d x->Mem Φ (.mp b (yW s)::K) w->Calls prog 134 #[.pointer (some p),.agg d.toArray,.map (some b)] w (fun ee w'=>ee=.returned (.string (zI T x s).1)/\Mem Φ (.mp b (yW (zI T x s).2)::K) w')) (N:Mem Φ (.mp b (yW s)::K) w) :
  Calls prog 186 #[.pointer (some p0),v1,.map (some b),v3] w (fun ee w'=>ee=.returned (.bool ((vT T xs s ts).1))/\Mem Φ (.mp b (yW (vT T xs s ts).2)::K) w'):=by
 obtain ⟨E,m1,m2,m3,m4,d5,d6,d7,d8,z,A,g,F0,h0,e0,i0,f0,j0,g0,k0⟩:=v.ex
 obtain ⟨G0,c24,H0,o0,I0,q0,J0,c42,rfl,s0,t0,u0,w0,P,Y,S,Z,U,a0,V,b0⟩:=RCore.fm g
 obtain ⟨p1,c1,rfl,C0,C⟩:=m.fm
 obtain ⟨p3,c3,rfl,D0,D⟩:=l.fm
 refine zL func186 ntmps186 fun Q hQ a J=>?_
 by_cases x0:xs.length=ts.length
 refine go fun a J=>?_
 refine zU (J.ks [0,2,3,17,18]) N (fun R mm a w=>∃(i:Nat) (q:Scope),mm=xs.length - i/\R Φ [(19,.int .i64 i)] [(0,.mp b (yW q))] a w/\(vT T xs s ts=allQ T (xs.drop i) q (ts.drop i))) (xs.length - 0) ⟨0,s,rfl,⟨J.pk,N⟩,by simp [vT, *]⟩ ?_
 clear N J
 rintro mm a w ⟨i,q,B,⟨J,N⟩,e⟩ m0 r
 replace N:=N.nf
 by_cases o:i < xs.length
 refine go fun a J=>?_
 obtain ⟨M0,rfl,h,f,F,L,G,j⟩:=m.el C o
 obtain ⟨K0,c68,L0,r0,rfl,I,y0,z0,W,c0,X,d0⟩:=REx.fm j
 refine Alc fun n0 w N a J=>?_
 refine Sto 0 fun w N a J=>?_
 replace N:=N.pl 1
 refine zT call134 (fun w N a J=>?_) (c:=ih _ (by exact mgQ f) v j N)
 by_cases A0:(zI T h q).1=(⟨#[]⟩:Bs)
 refine zD ?_
 replace N:=N.dl [1]
 have hr_:vT T xs s ts=(false,(zI T h q).2):=by
  rw [e,zA f];simp [allQ,sNo, *]
 show _/\_;rw [hr_];exact ⟨rfl,N⟩
 refine go fun a J=>?_
 have t:i < ts.length:=by omega
 obtain ⟨N0,rfl,y,k,n,M,H,u⟩:=l.el D t
 obtain rfl:n=[.string y]:=u
 by_cases B0:(zI T h q).1=y
 refine go fun a J=>?_
 replace N:=N.dl [1]
 refine r _ _ _ (by subst B;omega) ⟨(i+1),((zI T h q).2),rfl,⟨J.pk,N⟩,?_⟩
 rw [e,zA f,zA k];rw [z7u,if_neg (by rintro (h_ | h_) <;> simp_all [sNo])]
 refine zD ?_
 replace N:=N.dl [1]
 have hr_:vT T xs s ts=(false,(zI T h q).2):=by
  rw [e,zA f,zA k];simp [allQ,sNo, *]
 show _/\_;rw [hr_];exact ⟨rfl,N⟩
 refine zD ?_
 have hr_:vT T xs s ts=(true,q):=by
  rw [e,zB o];rfl
 show _/\_;rw [hr_];exact ⟨rfl,N⟩
 refine zD ?_
 have hr_:vT T xs s ts=(false,s):=by
  simp [vT, *]
 show _/\_;rw [hr_];exact ⟨rfl,N⟩
end
theorem con_ok {Φ:Fz} {K:List Res} {w:World} {p0:Addr} {T:Table} {d1:List Value} {e:Ex} {b:Nat} {s:Scope} (r:RTable Φ p0 T) (t:REx Φ d1 e) (ih:∀x:Ex,x.sz < e.sz->∀{Φ:Fz} {K:List Res} {w:World} {p:Addr} {d:List Value} {b:Nat} {s:Scope},RTable Φ p T->REx Φ d x->Mem Φ (.mp b (yW s)::K) w->Calls prog 134 #[.pointer (some p),.agg d.toArray,.map (some b)] w (fun ee w'=>ee=.returned (.string (zI T x s).1)/\Mem Φ (.mp b (yW (zI T x s).2)::K) w')) (N:Mem Φ (.mp b (yW s)::K) w) :
  Calls prog 169 #[.pointer (some p0),.agg d1.toArray,.map (some b)] w (fun ee w'=>ee=.returned (.string ((uM T e s).1))/\Mem Φ (.mp b (yW (uM T e s).2)::K) w'):=by
 obtain ⟨C,m1,m2,m3,m4,d5,u,d7,d8,z,A,i,x0,c0,j,k,a0,d0,b0,e0⟩:=r.ex
 obtain ⟨y0,c24,z0,k0,A0,l0,B0,c42,rfl,o0,q0,r0,s0,F,R,G,S,H,U,I,V⟩:=RCore.fm i
 obtain ⟨C0,m0,D0,n0,rfl,E,v,t0,L,W,M,X⟩:=REx.fm t
 refine zL func169 ntmps169 fun Q hQ a J=>?_
 refine Bx fun g0 w N a J=>?_
 refine Reg [1,1,1,2,1,2,2,1,1,1,0,0,1] [0,1] fun w N a J=>?_
 refine go fun a J=>?_
 rcases g:yM (u) e.name with _ | f0
 have f:=congrArg (zJ true (.agg #[.string ⟨#[]⟩,.string ⟨#[]⟩,.slice none 0 0])) g
 refine Qq (fun a J=>?_) (o:=by exact fun J O=>Ok.cast (qA runUnderlying114 runUnderlying9 zeroValue201 J O rfl rfl j) (show zJ true (.agg #[.string ⟨#[]⟩,.string ⟨#[]⟩,.slice none 0 0]) (yM (u) e.name)=.tuple #[.agg #[.string ⟨#[]⟩,.string ⟨#[]⟩,.slice none 0 0],.bool false] from f))
 refine Alc fun h0 w N a J=>?_
 refine Sto 0 fun w N a J=>?_
 refine zD ?_
 replace N:=N.dl [1,0]
 have hr_:uM T e s=((⟨#[]⟩:Bs),s):=by
  have e_:=MapRel.none k g
  simp [uM,sNo, *]
 show _/\_;rw [hr_];exact ⟨rfl,N⟩
 obtain ⟨h,Z,D,rfl,q⟩:=k.get g
 obtain ⟨i0,rfl,y⟩:=id q
 obtain ⟨E0,rfl,l⟩:=id y
 obtain ⟨B,c76,rfl,P,Y⟩:=l.fm
 have f:=congrArg (zJ true (.agg #[.string ⟨#[]⟩,.string ⟨#[]⟩,.slice none 0 0])) g
 refine Qq (fun a J=>?_) (o:=by exact fun J O=>Ok.cast (qA runUnderlying114 runUnderlying9 zeroValue201 J O rfl rfl j) (show zJ true (.agg #[.string ⟨#[]⟩,.string ⟨#[]⟩,.slice none 0 0]) (yM (u) e.name)=.tuple #[.agg #[.string h.data,.string h.con.name,.slice B h.con.fields.length c76],.bool true] from f))
 refine Alc fun j0 w N a J=>?_
 refine Sto 0 fun w N a J=>?_
 refine yH call185 (fun m w N a J=>?_) (fun m w N a J=>?_) (c:=oX t N)
 replace N:=N.pl 2
 refine yH call186 (fun n w N a J=>?_) (fun n w N a J=>?_) (c:=j1a (T:=T) r v l (fun x hx=>ih x (Ex.lt_args hx)) N)
 refine zD ?_
 replace N:=N.dl [2,1]
 have hr_:uM T e s=(h.data,(vT T e.args s h.con.fields).2):=by
  simp [uM,sNo, *]
 show _/\_;rw [hr_];exact ⟨rfl,N⟩
 refine zD ?_
 replace N:=N.dl [2,1]
 have hr_:uM T e s=((⟨#[]⟩:Bs),(vT T e.args s h.con.fields).2):=by
  simp [uM,sNo, *]
 show _/\_;rw [hr_];exact ⟨rfl,N⟩
 refine zD ?_
 replace N:=N.dl [1,0]
 have hr_:uM T e s=((⟨#[]⟩:Bs),s):=by
  simp [uM,sNo, *]
 show _/\_;rw [hr_];exact ⟨rfl,N⟩
theorem z9p {Φ:Fz} {K:List Res} {w:World} (N:Mem Φ K w) :
  Calls Tryz.prog 157 #[] w (fun ee w'=>∃y:Fz×List Value,ee=.returned (.agg y.2.toArray)/\(Φ.Le y.1/\RData y.1 y.2 truthsD)/\Mem y.1 K w'):=by
 refine zL Tryz.func157 Tryz.ntmps157 fun Q hQ a J=>?_
 refine Alc fun n w N a J=>?_
 refine qO fun a J=>?_
 refine qO fun a J=>?_
 refine jQ fun v4 w N a J=>?_
 have b:=N
 clear N
 obtain ⟨f,j,N,e⟩:=b.freezeRow (i:=0) rfl
 clear b
 replace N:=N.nf
 have d:SliceOf RCon f 2 _ (truthsD.cons):=⟨_,e,⟨[_,_],[_,_],rfl,rfl,⟨_,rfl,SliceOf.nil 1⟩,[_,_],[],rfl,rfl,⟨_,rfl,SliceOf.nil 1⟩,rfl⟩⟩
 obtain ⟨o,m,h,k,l⟩:=d.form (by decide)
 have c:=N
 clear N
 subst h
 have N:=c
 clear c
 refine qO fun a J=>?_
 refine Sto 0 fun w N a J=>?_
 refine go fun a J=>?_
 have g:=N
 replace N:=N.dl [0]
 refine pS (N:=g) ?_
 exact ⟨(f,_),rfl,⟨j,_,rfl,d⟩,N⟩
theorem op_ok {Φ:Fz} {K:List Res} {w:World} {p0:Addr} {T:Table} {d1:List Value} {e:Ex} {b:Nat} {s:Scope} (r:RTable Φ p0 T) (j:REx Φ d1 e) (ih:∀x:Ex,x.sz < e.sz->∀{Φ:Fz} {K:List Res} {w:World} {p:Addr} {d:List Value} {b:Nat} {s:Scope},RTable Φ p T->REx Φ d x->Mem Φ (.mp b (yW s)::K) w->Calls prog 134 #[.pointer (some p),.agg d.toArray,.map (some b)] w (fun ee w'=>ee=.returned (.string (zI T x s).1)/\Mem Φ (.mp b (yW (zI T x s).2)::K) w')) (N:Mem Φ (.mp b (yW s)::K) w) :
  Calls prog 173 #[.pointer (some p0),.agg d1.toArray,.map (some b)] w (fun ee w'=>ee=.returned (.string ((nX T e s).1))/\Mem Φ (.mp b (yW (nX T e s).2)::K) w'):=by
 obtain ⟨X,m1,m2,m3,m4,d5,d6,d7,d8,g,H,l,X0,t0,q0,u0,r0,w0,s0,x0⟩:=r.ex
 obtain ⟨Y0,c24,Z0,E0,a1,F0,b1,c42,rfl,K0,L0,M0,N0,b0,i0,c0,j0,d0,k0,e0,l0⟩:=RCore.fm l
 obtain ⟨c1,G0,e1,H0,rfl,a0,y,O0,f0,m0,g0,n0⟩:=REx.fm j
 refine zL func173 ntmps173 fun Q hQ a J=>?_
 refine Bx fun D0 w N a J=>?_
 refine yH call185 (fun C w N a J=>?_) (fun C w N a J=>?_) (c:=oX j N)
 refine jQ fun g1 w N a J=>?_
 have t:=N
 clear N
 obtain ⟨G,f,N,q⟩:=t.freezeRow (i:=0) rfl
 clear t
 replace g:=g.mono f
 replace r:=r.mono f
 replace y:=y.up f
 replace j:=REx.mono _ _ _ _ f j
 replace N:=N.nf
 have n:SliceOf RStr G 1 _ ([yU,yU]):=SliceOf.strs.2 q
 obtain ⟨f1,I0,R,h0,o0⟩:=n.form (by decide)
 have u:=N
 clear N
 subst R
 have N:=u
 clear u
 replace N:=N.pl 1
 refine yH call186 (fun D w N a J=>?_) (fun D w N a J=>?_) (c:=j1a (T:=T) r y n (fun x hx=>ih x (Ex.lt_args hx)) N)
 by_cases P0:e.name=(⟨#[43]⟩:Bs)
 refine zD ?_
 replace N:=N.le (f)
 replace N:=N.dl [1]
 have hr_:nX T e s=((⟨#[73,110,116]⟩:Bs),(vT T e.args s ([yU,yU])).2):=by simp [nX,opT,sNo,kV,truthsD, *] <;> rfl
 show _/\_;rw [hr_];exact ⟨rfl,N⟩
 by_cases Q0:e.name=(⟨#[45]⟩:Bs)
 refine zD ?_
 replace N:=N.le (f)
 replace N:=N.dl [1]
 have hr_:nX T e s=((⟨#[73,110,116]⟩:Bs),(vT T e.args s ([yU,yU])).2):=by simp [nX,opT,sNo,kV,truthsD, *] <;> rfl
 show _/\_;rw [hr_];exact ⟨rfl,N⟩
 by_cases R0:e.name=(⟨#[42]⟩:Bs)
 refine zD ?_
 replace N:=N.le (f)
 replace N:=N.dl [1]
 have hr_:nX T e s=((⟨#[73,110,116]⟩:Bs),(vT T e.args s ([yU,yU])).2):=by simp [nX,opT,sNo,kV,truthsD, *] <;> rfl
 show _/\_;rw [hr_];exact ⟨rfl,N⟩
 refine go fun a J=>?_
 by_cases S0:e.name=(⟨#[47]⟩:Bs)
 refine zD ?_
 replace N:=N.le (f)
 replace N:=N.dl [1]
 have hr_:nX T e s=((⟨#[73,110,116]⟩:Bs),(vT T e.args s ([yU,yU])).2):=by simp [nX,opT,sNo,kV,truthsD, *] <;> rfl
 show _/\_;rw [hr_];exact ⟨rfl,N⟩
 by_cases T0:e.name=(⟨#[37]⟩:Bs)
 refine zD ?_
 replace N:=N.le (f)
 replace N:=N.dl [1]
 have hr_:nX T e s=((⟨#[73,110,116]⟩:Bs),(vT T e.args s ([yU,yU])).2):=by simp [nX,opT,sNo,kV,truthsD, *] <;> rfl
 show _/\_;rw [hr_];exact ⟨rfl,N⟩
 by_cases U0:e.name=(⟨#[60]⟩:Bs)
 refine yO call157 (fun S w E N a J=>?_) (c:=z9p N)
 obtain ⟨C0,J0⟩:=S
 obtain ⟨k,v⟩:=E
 simp only at k v N J
 replace g:=g.mono k
 replace j:=REx.mono _ _ _ _ k j
 replace N:=N.nf
 obtain ⟨A0,rfl,A⟩:=id v
 obtain ⟨y0,V,rfl,I,M⟩:=A.fm
 refine Qq (fun a J=>?_) (o:=by exact fun J O=>j7v runUnderlying126 rfl isAgg9 J rfl rfl)
 refine zD ?_
 replace N:=N.le ((f).trans k)
 replace N:=N.dl [1]
 have hr_:nX T e s=(truthsD.name,(vT T e.args s ([yU,yU])).2):=by simp [nX,opT,sNo,kV,truthsD, *] <;> rfl
 show _/\_;rw [hr_];exact ⟨rfl,N⟩
 by_cases Z:e.name=(⟨#[61]⟩:Bs)
 refine yO call157 (fun F w z N a J=>?_) (c:=z9p N)
 obtain ⟨U,Y⟩:=F
 obtain ⟨h,m⟩:=z
 simp only at h m N J
 replace g:=g.mono h
 replace j:=REx.mono _ _ _ _ h j
 replace N:=N.nf
 obtain ⟨B0,rfl,B⟩:=id m
 obtain ⟨z0,W,rfl,L,P⟩:=B.fm
 refine Qq (fun a J=>?_) (o:=by exact fun J O=>j7v runUnderlying126 rfl isAgg9 J rfl rfl)
 refine zD ?_
 replace N:=N.le ((f).trans h)
 replace N:=N.dl [1]
 have hr_:nX T e s=(truthsD.name,(vT T e.args s ([yU,yU])).2):=by simp [nX,opT,sNo,kV,truthsD, *] <;> rfl
 show _/\_;rw [hr_];exact ⟨rfl,N⟩
 refine zD ?_
 replace N:=N.le (f)
 replace N:=N.dl [1]
 have hr_:nX T e s=((⟨#[]⟩:Bs),(vT T e.args s ([yU,yU])).2):=by simp [nX,opT,sNo,kV,truthsD, *] <;> rfl
 show _/\_;rw [hr_];exact ⟨rfl,N⟩
 refine zD ?_
 replace N:=N.le (f)
 replace N:=N.dl [1]
 have hr_:nX T e s=((⟨#[]⟩:Bs),(vT T e.args s ([yU,yU])).2):=by simp [nX,opT,sNo,kV,truthsD, *] <;> rfl
 show _/\_;rw [hr_];exact ⟨rfl,N⟩
 refine zD ?_
 replace N:=N.dl [0]
 have hr_:nX T e s=((⟨#[]⟩:Bs),s):=by simp [nX,opT,sNo,kV,truthsD, *] <;> rfl
 show _/\_;rw [hr_];exact ⟨rfl,N⟩
theorem call_ok {Φ:Fz} {K:List Res} {w:World} {p0:Addr} {T:Table} {d1:List Value} {e:Ex} {b:Nat} {s:Scope} (y:RTable Φ p0 T) (z:REx Φ d1 e) (hT:∀n f,zK T.funs n=some f->f.params.length<=1000) (ih:∀x:Ex,x.sz < e.sz->∀{Φ:Fz} {K:List Res} {w:World} {p:Addr} {d:List Value} {b:Nat} {s:Scope},RTable Φ p T->REx Φ d x->Mem Φ (.mp b (yW s)::K) w->Calls prog 134 #[.pointer (some p),.agg d.toArray,.map (some b)] w (fun ee w'=>ee=.returned (.string (zI T x s).1)/\Mem Φ (.mp b (yW (zI T x s).2)::K) w')) (N:Mem Φ (.mp b (yW s)::K) w) :
  Calls prog 170 #[.pointer (some p0),.agg d1.toArray,.map (some b)] w (fun ee w'=>ee=.returned (.string ((aP T e s).1))/\Mem Φ (.mp b (yW (aP T e s).2)::K) w'):=by
 obtain ⟨t0,m1,m2,m3,m4,d5,d6,d7,d8,q,g0,r,u1,R0,P0,S0,D,E,Q0,T0⟩:=y.ex
 obtain ⟨v1,c24,w1,e1,x1,f1,y1,c42,rfl,i1,j1,k1,l1,y0,H0,z0,I0,A0,J0,B0,K0⟩:=RCore.fm r
 obtain ⟨z1,g1,A1,h1,rfl,w0,F,n1,C0,L0,D0,M0⟩:=REx.fm z
 refine zL func170 ntmps170 fun Q hQ a J=>?_
 refine Bx fun Z0 w N a J=>?_
 refine Reg [1,1,1,2,1,2,2,1,1,1,0,0,1] [0,1] fun w N a J=>?_
 refine go fun a J=>?_
 rcases l:yM (d7) e.name with _ | X0
 have k:=congrArg (zJ true (.agg #[.string ⟨#[]⟩,.slice none 0 0,.string ⟨#[]⟩,.int .i64 ((0:Nat):Int),.int .i64 ((0:Nat):Int),.string ⟨#[]⟩,.slice none 0 0,.slice none 0 0])) l
 refine Qq (fun a J=>?_) (o:=by exact fun J O=>Ok.cast (qA runUnderlying115 runUnderlying9 zeroValue112 J O rfl rfl D) (show zJ true (.agg #[.string ⟨#[]⟩,.slice none 0 0,.string ⟨#[]⟩,.int .i64 ((0:Nat):Int),.int .i64 ((0:Nat):Int),.string ⟨#[]⟩,.slice none 0 0,.slice none 0 0]) (yM (d7) e.name)=.tuple #[.agg #[.string ⟨#[]⟩,.slice none 0 0,.string ⟨#[]⟩,.int .i64 ((0:Nat):Int),.int .i64 ((0:Nat):Int),.string ⟨#[]⟩,.slice none 0 0,.slice none 0 0],.bool false] from k))
 refine Alc fun a1 w N a J=>?_
 refine Sto 0 fun w N a J=>?_
 refine zD ?_
 replace N:=N.dl [1,0]
 have hr_:aP T e s=((⟨#[]⟩:Bs),s):=by
  have e_:=MapRel.none E l
  simp [aP,sNo, *]
 show _/\_;rw [hr_];exact ⟨rfl,N⟩
 obtain ⟨g,X,u0,rfl,t⟩:=E.get l
 obtain ⟨B1,b1,rfl,P,G⟩:=id t
 obtain ⟨n0,a0,rfl,E0,V⟩:=P.fm
 obtain ⟨o0,b0,q0,c0,rfl,x0,o1,p1,F0,N0,G0,O0⟩:=REx.fm G
 have k:=congrArg (zJ true (.agg #[.string ⟨#[]⟩,.slice none 0 0,.string ⟨#[]⟩,.int .i64 ((0:Nat):Int),.int .i64 ((0:Nat):Int),.string ⟨#[]⟩,.slice none 0 0,.slice none 0 0])) l
 refine Qq (fun a J=>?_) (o:=by exact fun J O=>Ok.cast (qA runUnderlying115 runUnderlying9 zeroValue112 J O rfl rfl D) (show zJ true (.agg #[.string ⟨#[]⟩,.slice none 0 0,.string ⟨#[]⟩,.int .i64 ((0:Nat):Int),.int .i64 ((0:Nat):Int),.string ⟨#[]⟩,.slice none 0 0,.slice none 0 0]) (yM (d7) e.name)=.tuple #[.agg #[.string g.name,.slice n0 g.params.length a0,.string g.result,.int .i64 (g.body.kind),.int .i64 (g.body.num),.string g.body.name,.slice o0 g.body.args.length b0,.slice q0 g.body.arms.length c0],.bool true] from k))
 refine Alc fun c1 w N a J=>?_
 refine Sto 0 fun w N a J=>?_
 refine yH call185 (fun S w N a J=>?_) (fun S w N a J=>?_) (c:=oX z N)
 refine go fun a J=>?_
 replace N:=N.nilRow 9 1
 replace N:=N.nf
 refine go fun a J=>?_
 refine zU (J.ks [0,2,4,7,30,31]) N (fun R mm a w=>∃(i:Nat) (u:Value) (ty:List Bs),mm=g.params.length - i/\R Φ [(9,u),(32,.int .i64 i)] [(0,.gs (u) 9 1 (strs ty))] a w/\(g.params.map Param.type=ty++(g.params.drop i).map Param.type)) (g.params.length - 0) ⟨0,.slice none 0 0,[],rfl,⟨J.pk,N⟩,by simp⟩ ?_
 clear N J
 rintro mm a w ⟨i,u,ty,j0,⟨J,N⟩,j⟩ Y0 U
 replace N:=N.nf
 by_cases A:i < g.params.length
 refine go fun a J=>?_
 obtain ⟨V0,rfl,Z,L,d0,h0,f0,I⟩:=P.el V A
 obtain rfl:=id I
 refine Alc fun r0 w N a J=>?_
 refine Sto 0 fun w N a J=>?_
 refine jQ fun W0 w N a J=>?_
 refine vH 2 xQ (fun Y w N a J=>?_) (hb:=by have l0:=congrArg List.length j;have r1:=hT _ _ X;simp only [List.length_map,laQ,zR,lcQ,lnQ] at l0 ⊢;omega)
 first | rw [qI] at N | rw [<- yN] at N
 refine go fun a J=>?_
 replace N:=N.dl [1,0]
 refine U _ _ _ (by subst j0;omega) ⟨(i+1),(Y),((ty++[Z.type])),rfl,⟨J.pk,N⟩,?_⟩
 rw [j,zA L];simp
 refine go fun a J=>?_
 have W:ty=g.params.map Param.type:=by rw [j,zB A];simp
 subst W
 refine go fun a J=>?_
 have B:=N
 clear N
 obtain ⟨M,h,N,v⟩:=B.freezeRow (i:=0) rfl
 clear B
 replace q:=q.mono h
 replace y:=y.mono h
 replace F:=F.up h
 replace z:=REx.mono _ _ _ _ h z
 replace t:=RFun.mono _ _ _ _ h t
 replace G:=REx.mono _ _ _ _ h G
 replace N:=N.nf
 have m:SliceOf RStr M 1 _ ((g.params.map Param.type)):=SliceOf.strs.2 v
 obtain ⟨U0,s0,m0,i0,k0⟩:=m.form (by decide)
 have C:=N
 clear N
 subst m0
 have N:=C
 clear C
 replace N:=N.pl 2
 refine yH call186 (fun H w N a J=>?_) (fun H w N a J=>?_) (c:=j1a (T:=T) y F m (fun x hx=>ih x (Ex.lt_args hx)) N)
 refine zD ?_
 replace N:=N.le (h)
 replace N:=N.dl [2,1]
 have hr_:aP T e s=(g.result,(vT T e.args s (g.params.map Param.type)).2):=by
  clear j
  simp [aP,sNo, *]
 show _/\_;rw [hr_];exact ⟨rfl,N⟩
 refine zD ?_
 replace N:=N.le (h)
 replace N:=N.dl [2,1]
 have hr_:aP T e s=((⟨#[]⟩:Bs),(vT T e.args s (g.params.map Param.type)).2):=by
  clear j
  simp [aP,sNo, *]
 show _/\_;rw [hr_];exact ⟨rfl,N⟩
 refine zD ?_
 replace N:=N.dl [1,0]
 have hr_:aP T e s=((⟨#[]⟩:Bs),s):=by
  simp [aP,sNo, *]
 show _/\_;rw [hr_];exact ⟨rfl,N⟩
end Go.Sw
