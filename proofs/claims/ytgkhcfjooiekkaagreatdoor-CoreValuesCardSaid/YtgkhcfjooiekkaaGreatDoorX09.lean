import Derived.Test.YtgkhcfjooiekkaaGreatDoorX08
set_option linter.unusedVariables false
set_option linter.unusedSimpArgs false
namespace Go.Sw
open Go.Proofs.Tryz
open Go.Proofs
set_option maxRecDepth 20000
set_option maxHeartbeats 4000000
theorem z6x {T:Table} {inp:List (Bs×Val)} {g:Nat} (ih:∀g1,g1<=g->gX prog T inp g1):j8z prog T inp g:=by
 intro V K w p l env ov s mg bs fuel G rG rl rv a0 E0 hg C0 Z N
 obtain ⟨p1,c1,rfl,F0,Y⟩:=rl.fm
 refine zM func158 ntmps158 fun Q hQ a J=>?_
 refine Bx J N fun b2 w N a J=>?_
 refine go J N fun a J=>?_
 replace N:=N.nilRow 42 3
 replace N:=N.nf
 refine go J N fun a J=>?_
 refine zV (J.ks [2,3,10,11]) N (fun R mm a w=>∃(z:Fz) (i:Nat) (u:Value) (cs:List Value) (xs:List Val) (g1:Nat),mm=l.length - i/\R z [(7,u),(12,.int .i64 ((i:Nat):Int))] [(0,.gs (u) 42 3 cs),(2,.blk bs (ob [.int .i64 ((fuel - g1:Nat):Int)] 3))] a w/\(V.Le z/\(Chunks (RVal z) 3 cs xs/\xs.length=i/\g1<=g/\xE (qM ⟨T.funs,inp⟩) env l g=(xE (qM ⟨T.funs,inp⟩) env (l.drop i) g1).bind fun vs g2=>.ok (xs++vs) g2))) (l.length - 0) ⟨V,0,.slice none 0 0,[],[],g,rfl,⟨J.pk,N⟩,⟨Fz.Le.refl _,⟨rfl,rfl,Nat.le_refl _,j3e _⟩⟩⟩ ?_
 clear N J
 rintro mm a w ⟨z,i,u,cs,xs,g1,X,⟨J,N⟩,E⟩ L8 U
 replace N:=N.nf
 obtain ⟨e,E⟩:=E
 replace G:=G.mono e
 replace rG:=RGiven.mono e rG
 replace rl:=rl.up e
 replace rv:=REnv.mono e rv
 obtain ⟨hch,c0,D0,t⟩:=E
 refine go J N fun a J=>?_
 by_cases H:i < l.length
 refine go J N fun a J=>?_
 obtain ⟨K0,rfl,f0,j,h0,l0,A,f⟩:=rl.el Y H
 obtain ⟨H0,c25,I0,w0,rfl,j0,z0,A0,m0,q0,n0,r0⟩:=REx.fm f
 refine Alc J N fun u0 w N a J=>?_
 refine Sto 0 J N fun w N a J=>?_
 refine go J N fun a J=>?_
 have b:=Z
 rw [t,zA j] at b
 replace b:=jQ (r:=qM ⟨T.funs,inp⟩ g1 f0 env) (jQ b)
 replace N:=N.pl 3
 refine xQ hQ call103 J N (fun L g0 w m I N a J=>?_) (fun L w m N=>?_) (c:=ih g1 (by omega) G rG f rv (a0 _ (mgQ j)) (by omega) (by omega) b N)
 obtain ⟨y,S⟩:=L
 obtain ⟨M,x0⟩:=g0
 obtain ⟨d,n⟩:=I
 have q:=wP m
 simp only at d n N J q
 have W:=qT _ _ _ _ _ _ q
 replace rG:=RGiven.mono d rG
 replace rv:=REnv.mono d rv
 replace hch:=hch.mono fun _ _ h=>RVal.mono _ _ _ _ d h
 replace A:=A.mono d
 replace f:=REx.mono _ _ _ _ d f
 replace N:=N.nf
 obtain ⟨d0,P,rfl,k0,B0,o0,s0⟩:=RVal.fm n
 refine qG J N fun L0 w N a J=>?_
 refine qN 3 wN J N (fun e0 w N a J=>?_)
 refine go J N fun a J=>?_
 replace N:=N.ar [2,0] [2,2]
 refine U _ _ _ (by subst X;omega) ⟨(M),(i+1),(e0),((cs++[.string y.con,.int .i64 (y.num),.slice d0 y.args.length P])),(xs++[y]),(S),rfl,⟨J.pk,by exact N⟩,?_⟩
 refine ⟨(e).trans d,?_⟩
 refine ⟨hch.snoc rfl n,by simp [c0],by omega,?_⟩
 rw [t,zA j]
 exact q1m q
 have F:=vC m b
 replace N:=N.dl [3,2,1]
 exact nI (by rw [t,zA j];exact q1n F) ⟨rfl,N.le (e)⟩
 refine go J N fun a J=>?_
 have B:=N
 clear N
 obtain ⟨D,k,N,v⟩:=B.freezeRow (i:=0) rfl
 clear B
 replace rG:=RGiven.mono k rG
 replace rv:=REnv.mono k rv
 replace hch:=hch.mono fun _ _ h=>RVal.mono _ _ _ _ k h
 replace N:=N.nf
 have o:SliceOf RVal D 3 _ (xs):=⟨_,v,hch⟩
 obtain ⟨J0,c66,b0,p0,t0⟩:=o.form (by decide)
 have C:=N
 clear N
 subst b0
 have N:=C
 clear C
 refine go J N fun a J=>?_
 replace N:=N.dl [0]
 refine zD hQ J N ?_
 exact dY (by rw [t,zE H];exact q4k) ⟨(D,_),rfl,⟨(e).trans k,o⟩,N⟩
theorem y0r {T:Table} {inp:List (Bs×Val)} {g:Nat} (ih:gX prog T inp g):q3m prog T inp g:=by
 intro V K w p d f l s mg bs fuel v rG rf rs W0 l0 hg T0 W N
 obtain ⟨s1,b7,rfl,h2,A⟩:=id rf
 obtain ⟨p3,c4,rfl,V0,k0⟩:=h2.fm
 obtain ⟨Y0,K0,Z0,L0,rfl,r0,P0,Q0,x0,B0,y0,C0⟩:=REx.fm A
 obtain ⟨p2,c2,rfl,U0,j0⟩:=rs.fm
 obtain ⟨M,e0⟩:=q8r W
 refine zM func48 ntmps48 fun Q hQ a J=>?_
 refine Bx J N fun G0 w N a J=>?_
 refine Bx J N fun H0 w N a J=>?_
 refine Alc J N fun I0 w N a J=>?_
 refine go J N fun a J=>?_
 refine zV (J.ks [2,3,4,6,11,12]) N (fun R mm a w=>∃(m:Fz) (i:Nat) (en:Env) (nv:Option Addr),mm=f.params.length - i/\R m [(7,.pointer nv),(13,.int .i64 ((i:Nat):Int))] [] a w/\(V.Le m/\(REnv m en nv/\aS (f.params.map Param.name) l []=aS ((f.params.map Param.name).drop i) (l.drop i) en))) (f.params.length - 0) ⟨V,0,[],none,rfl,⟨J.pk,N⟩,⟨Fz.Le.refl _,⟨rfl,rfl⟩⟩⟩ ?_
 clear N J
 rintro mm a w ⟨m,i,en,nv,i0,⟨J,N⟩,n⟩ F0 S
 obtain ⟨e,n⟩:=n
 replace v:=v.mono e
 replace rG:=RGiven.mono e rG
 replace h2:=h2.up e
 replace A:=REx.mono _ _ _ _ e A
 replace rf:=RFun.mono _ _ _ _ e rf
 replace rs:=rs.up e
 obtain ⟨rn,G⟩:=n
 refine go J N fun a J=>?_
 by_cases F:i < f.params.length
 refine go J N fun a J=>?_
 have U:i < l.length:=z6l (env:=en) (env':=M) (by rw [<- G];exact e0) (by simpa using F)
 refine go J N fun a J=>?_
 obtain ⟨b1,rfl,a0,X,o0,u0,B,q⟩:=h2.el k0 F
 obtain rfl:=id q
 refine Alc J N fun J0 w N a J=>?_
 refine Sto 0 J N fun w N a J=>?_
 refine Reg [1,2,1,1,1,2,1,1,0,1] [0,1,2,3,4] J N fun w N a J=>?_
 refine go J N fun a J=>?_
 obtain ⟨c1,rfl,y,Y,p0,w0,C,k⟩:=rs.el j0 U
 obtain ⟨m0,d0,rfl,s0,R0,z0,D0⟩:=RVal.fm k
 refine z3h J N fun a J=>?_
 refine Bx J N fun L w N a J=>?_
 have D:=N
 clear N
 obtain ⟨E,b,N,H⟩:=D.freezeBlk (i:=0) rfl
 clear D
 replace v:=v.mono b
 replace rG:=RGiven.mono b rG
 replace A:=REx.mono _ _ _ _ b A
 replace rf:=RFun.mono _ _ _ _ b rf
 replace rn:=REnv.mono b rn
 replace B:=B.mono b
 replace q:=RParam.mono _ _ _ _ b q
 replace C:=C.mono b
 replace k:=RVal.mono _ _ _ _ b k
 replace N:=N.nf
 have z:REnv E ((a0.name,y)::en) (some ⟨L,0,none⟩):=⟨_,[.string y.con,.int .i64 (y.num),.slice m0 y.args.length d0],_,rfl,H,rfl,k,rn⟩
 refine go J N fun a J=>?_
 replace N:=N.dl [0]
 refine S _ _ _ (by subst i0;omega) ⟨(E),(i+1),((a0.name,y)::en),((some ⟨L,0,none⟩)),rfl,⟨J.pk,by exact N⟩,?_⟩
 refine ⟨(e).trans b,?_⟩
 refine ⟨z,?_⟩
 rw [G,zA (show (f.params.map Param.name)[i]? = some _ by rw [List.getElem?_map,X];rfl),zA Y];rfl
 refine go J N fun a J=>?_
 have t:xY (qM ⟨T.funs,inp⟩) f l g=qM ⟨T.funs,inp⟩ g f.body en:=by
  have f0:¬i < (f.params.map Param.name).length:=by simpa using F
  unfold xY nP
  rw [G,zE f0];rfl
 have j:=W
 rw [t] at j
 replace N:=N.pl 3
 refine xQ hQ call103 J N (fun Z n0 w o P N a J=>?_) (fun Z w o N=>?_) (c:=ih v rG A rn l0 (by omega) (by omega) j N)
 obtain ⟨d1,O0⟩:=Z
 obtain ⟨b0,N0⟩:=n0
 obtain ⟨h,r⟩:=P
 have u:=wP o
 simp only at h r N J u
 have g0:=qT _ _ _ _ _ _ u
 replace rG:=RGiven.mono h rG
 replace A:=REx.mono _ _ _ _ h A
 replace rf:=RFun.mono _ _ _ _ h rf
 replace rn:=REnv.mono h rn
 replace N:=N.nf
 obtain ⟨a1,M0,rfl,t0,S0,A0,E0⟩:=RVal.fm r
 refine Sto 1 J N fun w N a J=>?_
 refine go J N fun a J=>?_
 have h0:=N
 replace N:=N.dl [3,2,1]
 refine jS hQ J h0 ?_
 exact dY (by rw [t];exact u) ⟨(b0,_),rfl,⟨(e).trans h,r⟩,N⟩
 have I:=vC o j
 replace N:=N.dl [3,2,1]
 exact nI (by rw [t];exact I) ⟨rfl,N.le (e)⟩
theorem j5y {T:Table} {inp:List (Bs×Val)}:gX prog T inp 0:=by
 intro V K w p d e env ov mg bs fuel g rG re rv g0 hg d0 f0 N
 obtain ⟨i,m1,m2,m3,m4,d5,d6,d7,d8,c,f,b,h0,D,A,E,B,F,C,G⟩:=g.ex
 obtain ⟨i0,c24,j0,M,k0,P,l0,c42,rfl,U,W,X,Y,k,s,l,t,m,u,n,v⟩:=RCore.fm b
 obtain ⟨m0,R,n0,S,rfl,j,Z,a0,q,y,r,z⟩:=REx.fm re
 refine zM func103 ntmps103 fun Q hQ a J=>?_
 refine Bx J N fun H w N a J=>?_
 refine Bx J N fun I w N a J=>?_
 refine Alc J N fun L w N a J=>?_
 refine Sto 3 J N fun w N a J=>?_
 refine Reg [1,2,1,2,1,2,1] [0,1,2,3] J N fun w N a J=>?_
 have e0:fuel < fuel+1:=by omega
 refine yE J N fun a J=>?_
 refine Qq J N (fun a J=>?_) (o:=by exact fun _ _ _ J O=>qL J rfl runUnderlying177 (by intro ms h;cases h))
 refine st0 J rfl rfl (vK J rfl (vM _) (fun a hd=>hQ _ _ _ (yT hd ?_)))
 replace N:=N.dl [2,1,0]
 exact nI (oA _ _ _) ⟨rfl,N⟩
theorem j5x {T:Table} {inp:List (Bs×Val)} {g:Nat} (hF:z0g T) (ih:∀g1,g1<=g->gX prog T inp g1):gX prog T inp (g+1):=by
 intro V K w p d e env ov mg bs fuel f rG re rv h0 hg hfu M0 N
 rw [yH] at M0
 obtain ⟨I8,m1,m2,m3,m4,d5,d6,d7,d8,b,U5,y2,ma9,Y9,W9,Z9,E2,h2,X9,mr16⟩:=f.ex
 obtain ⟨p23,c24,p29,c30,p35,c36,p41,c42,rfl,h22,h28,h34,h40,K9,R9,L9,S9,M9,T9,N9,U9⟩:=RCore.fm y2
 obtain ⟨p47,c48,p53,c54,rfl,H9,h,A,O9,n3,P9,o3⟩:=REx.fm re
 refine zM func103 ntmps103 fun Q hQ a J=>?_
 refine Bx J N fun b59 w N a J=>?_
 refine Bx J N fun b60 w N a J=>?_
 refine Alc J N fun b61 w N a J=>?_
 refine Sto 3 J N fun w N a J=>?_
 rw [show fuel - (g+1)+1=fuel - g by omega] at N
 refine Reg [1,2,1,2,1,2,1] [0,1,2,3] J N fun w N a J=>?_
 have hk_:¬fuel < fuel - g:=by omega
 refine go J N fun a J=>?_
 by_cases L4:e.kind=1
 refine yE J N fun a J=>?_
 refine Sto 0 J N fun w N a J=>?_
 refine go J N fun a J=>?_
 have D:=N
 replace N:=N.dl [2,1,0]
 refine jS hQ J D ?_
 exact dY ((yH _ _ _ _).trans (x4j L4)) ⟨(V,_),rfl,⟨Fz.Le.refl _,RVal.iff.2 ⟨_,rfl,(by obtain ⟨_,_,_,h_,_⟩:=REx.iff.1 re;exact h_),SliceOf.nil 3⟩⟩,N⟩
 refine go J N fun a J=>?_
 by_cases G3:e.kind=2
 refine go J N fun a J=>?_
 refine zV (J.ks [4,6]) N (fun R mm a w=>∃(en:Env) (nv:Option Addr),mm=en.length/\R V [(2,.pointer nv)] [] a w/\(REnv V en nv/\zN env e.name=zN en e.name)) (env.length) ⟨env,ov,rfl,⟨J.pk,N⟩,⟨rv,rfl⟩⟩ ?_
 clear N J
 rintro mm a w ⟨en,nv,T0,⟨J,N⟩,O4⟩ L72 P4
 obtain ⟨rn,H0⟩:=O4
 refine go J N fun a J=>?_
 obtain _ | ⟨⟨N7,k4⟩,h3⟩:=en
 obtain rfl:=rn
 refine Qq J N (fun a J=>?_) (o:=by exact fun _ _ _ J O=>j0k rfl J rfl rfl (fun _=>by kernel_rfl))
 refine yE J N fun a J=>?_
 refine Sto 0 J N fun w N a J=>?_
 refine go J N fun a J=>?_
 have D:=N
 replace N:=N.dl [2,1,0]
 refine jS hQ J D ?_
 exact dY (((yH _ _ _ _).trans (q7j G3)).trans (show Ev.ok ((zN env e.name).getD v0) g=.ok v0 g by rw [H0];rfl)) ⟨(V,_),rfl,⟨Fz.Le.refl _,RVal.iff.2 ⟨_,rfl,(show I64 0 from ⟨by decide,by decide⟩),SliceOf.nil 3⟩⟩,N⟩
 obtain ⟨p79,c80,R4,rfl,Q4,J9,q3,e4⟩:=rn
 obtain ⟨O7,H5,rfl,I9,h88,Q9,V9⟩:=RVal.fm q3
 refine Qq J N (fun a J=>?_) (o:=by exact fun _ _ _ J O=>j0l rfl J rfl rfl (fun _=>by kernel_rfl))
 refine Reg [1,1,1,2,1,2,1] [0,1,2,3] J N fun w N a J=>?_
 refine go J N fun a J=>?_
 by_cases M4:N7=e.name
 refine Qq J N (fun a J=>?_) (o:=by exact fun _ _ _ J O=>xW 1 (vs:=[.string k4.con,.int .i64 (k4.num),.slice O7 k4.args.length H5]) J O rfl Q4 isAgg42 sizeOf42 rfl rfl)
 refine Sto 0 J N fun w N a J=>?_
 refine go J N fun a J=>?_
 have D:=N
 replace N:=N.dl [2,1,0]
 refine jS hQ J D ?_
 exact dY (((yH _ _ _ _).trans (q7j G3)).trans (by rw [H0];simp only [zN,if_pos M4.symm,Option.getD_some])) ⟨(V,_),rfl,⟨Fz.Le.refl _,q3⟩,N⟩
 refine go J N fun a J=>?_
 refine P4 (h3.length) _ _ (by subst T0;simp only [lcQ];omega) ⟨(h3),(R4),rfl,⟨J.pk,N⟩,?_⟩
 refine ⟨e4,?_⟩
 rw [H0];simp only [zN,if_neg (Ne.symm M4)]
 refine go J N fun a J=>?_
 by_cases N4:e.kind=3
 refine go J N fun a J=>?_
 refine st J rfl rfl rfl (j5v rG runUnderlying94 runUnderlying9 zeroValue42 J N.toSees rfl rfl (fun I5 C2 a J=>?_))
 obtain ⟨p105,i8,rfl,V5,f9,E6,l7⟩:=RVal.fm C2
 refine Sto 0 J N fun w N a J=>?_
 refine go J N fun a J=>?_
 have D:=N
 replace N:=N.dl [2,1,0]
 refine jS hQ J D ?_
 exact dY ((yH _ _ _ _).trans (x4i N4)) ⟨(V,_),rfl,⟨Fz.Le.refl _,C2⟩,N⟩
 refine go J N fun a J=>?_
 by_cases Z1:e.kind=4
 refine Reg [1,2,2,1,2,1,0,1,0] [0,1,2] J N fun w N a J=>?_
 refine go J N fun a J=>?_
 have A0:=M0
 rw [y5a Z1] at A0
 replace N:=N.pl 3
 refine xQ hQ call158 J N (fun r3 b5 w w1 H3 N a J=>?_) (fun r3 w w1 N=>?_) (c:=z6x (fun l2 h_=>ih l2 (by omega)) f rG h rv (qV h0).2.1 (qV h0).1 (by omega) (by omega) (jQ A0) N)
 obtain ⟨z118,X8⟩:=r3
 obtain ⟨l4,J8⟩:=b5
 obtain ⟨P,I1⟩:=H3
 have d1:=wP w1
 simp only at P I1 N J d1
 have p5:=q1o d1
 replace f:=f.mono P
 replace rG:=RGiven.mono P rG
 replace re:=REx.mono _ _ _ _ P re
 replace rv:=REnv.mono P rv
 replace b:=b.mono P
 replace E2:=E2.mono P
 replace h2:=h2.up P
 replace h:=h.up P
 replace A:=A.up P
 replace N:=N.nf
 obtain ⟨p126,c127,rfl,B5,F5⟩:=I1.fm
 have E5:=y3q A0 d1
 refine yE J N fun a J=>?_
 refine Sto 1 J N fun w N a J=>?_
 refine go J N fun a J=>?_
 have D:=N
 replace N:=N.dl [3,2,1]
 refine jS hQ J D ?_
 exact dY (((yH _ _ _ _).trans (y5a Z1)).trans (pN d1)) ⟨(l4,_),rfl,⟨P,RVal.iff.2 ⟨_,rfl,(show I64 0 from ⟨by decide,by decide⟩),I1⟩⟩,N⟩
 have S2:=vC w1 (jQ A0)
 replace N:=N.dl [3,2,1]
 exact nI (((yH _ _ _ _).trans (y5a Z1)).trans (nF S2)) ⟨rfl,N.le (Fz.Le.refl _)⟩
 refine go J N fun a J=>?_
 by_cases Q0:e.kind=5
 refine Reg [2,1,2,1,1,2,1,2,2,2,1,2,1,0,0,0] [0,1,2] J N fun w N a J=>?_
 refine go J N fun a J=>?_
 rcases v1:yO (d7) e.name with _ | P7
 exact absurd (j1u Q0 (MapRel.none h2 v1)) M0
 obtain ⟨x0,p0,J5,rfl,k0⟩:=h2.get v1
 obtain ⟨s141,Y7,rfl,K4,k1⟩:=id k0
 obtain ⟨S4,y4,rfl,F6,m7⟩:=K4.fm
 obtain ⟨T4,z4,U4,A4,rfl,W5,g9,h9,G6,n7,H6,o7⟩:=REx.fm k1
 have N2:=congrArg (zK false (.agg #[.string ⟨#[]⟩,.slice none 0 0,.string ⟨#[]⟩,.int .i64 ((0:Nat):Int),.int .i64 ((0:Nat):Int),.string ⟨#[]⟩,.slice none 0 0,.slice none 0 0])) v1
 refine Qq J N (fun a J=>?_) (o:=by exact fun _ _ _ J O=>Ok.cast (zY runUnderlying103 runUnderlying9 zeroValue68 J O rfl rfl E2) (show zK false (.agg #[.string ⟨#[]⟩,.slice none 0 0,.string ⟨#[]⟩,.int .i64 ((0:Nat):Int),.int .i64 ((0:Nat):Int),.string ⟨#[]⟩,.slice none 0 0,.slice none 0 0]) (yO (d7) e.name)=.agg #[.string x0.name,.slice S4 x0.params.length y4,.string x0.result,.int .i64 (x0.body.kind),.int .i64 (x0.body.num),.string x0.body.name,.slice T4 x0.body.args.length z4,.slice U4 x0.body.arms.length A4] from N2))
 refine go J N fun a J=>?_
 have B0:=M0
 rw [z2r Q0 p0] at B0
 replace N:=N.pl 3
 refine xQ hQ call158 J N (fun s3 c5 w x1 I3 N a J=>?_) (fun s3 w x1 N=>?_) (c:=z6x (fun l2 h_=>ih l2 (by omega)) f rG h rv (qV h0).2.1 (qV h0).1 (by omega) (by omega) (jQ B0) N)
 obtain ⟨z167,F4⟩:=s3
 obtain ⟨Q7,K8⟩:=c5
 obtain ⟨I,J1⟩:=I3
 have N0:=wP x1
 simp only at I J1 N J N0
 have q5:=q1o N0
 replace f:=f.mono I
 replace rG:=RGiven.mono I rG
 replace re:=REx.mono _ _ _ _ I re
 replace rv:=REnv.mono I rv
 replace b:=b.mono I
 replace h:=h.up I
 replace A:=A.up I
 replace k0:=RFun.mono _ _ _ _ I k0
 replace k1:=REx.mono _ _ _ _ I k1
 replace N:=N.nf
 obtain ⟨p175,j8,rfl,C5,G5⟩:=J1.fm
 have d2:=y3q B0 N0
 refine xQ hQ call48 J N (fun t3 e5 w y1 J3 N a J=>?_) (fun t3 w y1 N=>?_) (c:=y0r (ih F4 (by omega)) f rG k0 J1 (hF _ _ p0).1 (hF _ _ p0).2 (by omega) (by omega) d2 N)
 obtain ⟨z184,Y8⟩:=t3
 obtain ⟨n4,L8⟩:=e5
 obtain ⟨S,K1⟩:=J3
 have Q1:=wP y1
 simp only at S K1 N J Q1
 have r5:=cY Q1
 replace f:=f.mono S
 replace rG:=RGiven.mono S rG
 replace re:=REx.mono _ _ _ _ S re
 replace rv:=REnv.mono S rv
 replace b:=b.mono S
 replace h:=h.up S
 replace A:=A.up S
 replace k0:=RFun.mono _ _ _ _ S k0
 replace k1:=REx.mono _ _ _ _ S k1
 replace N:=N.nf
 obtain ⟨p194,c195,rfl,X5,i9,I6,p7⟩:=RVal.fm K1
 refine Sto 1 J N fun w N a J=>?_
 refine go J N fun a J=>?_
 have D:=N
 replace N:=N.dl [3,2,1]
 refine jS hQ J D ?_
 exact dY ((((yH _ _ _ _).trans (z2r Q0 p0)).trans (pN N0)).trans Q1) ⟨(n4,_),rfl,⟨(I).trans S,K1⟩,N⟩
 have T2:=vC y1 d2
 replace N:=N.dl [3,2,1]
 exact nI ((((yH _ _ _ _).trans (z2r Q0 p0)).trans (pN N0)).trans T2) ⟨rfl,N.le (I)⟩
 have U2:=vC x1 (jQ B0)
 replace N:=N.dl [3,2,1]
 exact nI (((yH _ _ _ _).trans (z2r Q0 p0)).trans (nF U2)) ⟨rfl,N.le (Fz.Le.refl _)⟩
 refine go J N fun a J=>?_
 by_cases b0:e.kind=6
 refine go J N fun a J=>?_
 refine yZ [2,1,2,1,2,1,0,0,0] (.q 0 (.q 1 (.q 2 (.q 3 (.q 4 (.q 5 (.e2 6 7 (.e 7 (.e 8 (.done))) (.e 6 (.e 8 (.done)))))))))) [0,1,2] J N fun w N=>?_
 have p3:=j8c b0 M0
 have l1:0 < e.args.length:=by omega
 have n1:1 < e.args.length:=by omega
 obtain ⟨x4,c0⟩:=qX n1
 refine go J N fun a J=>?_
 obtain ⟨q204,rfl,x205,U,K5,s6,G,u⟩:=h.el n3 l1
 obtain ⟨p213,k8,p219,l8,rfl,Y5,j9,k9,J6,q7,K6,r7⟩:=REx.fm u
 refine go J N fun a J=>?_
 refine aR ?_ ?_
 have C0:=M0
 rw [dI b0 U c0] at C0
 replace N:=N.pl 3
 refine xQ hQ call103 J N (fun u3 f5 w z1 K3 N a J=>?_) (fun u3 w z1 N=>?_) (c:=ih g (by omega) f rG u rv ((qV h0).2.1 _ (mgQ U)) (by omega) (by omega) (jQ C0) N)
 obtain ⟨i2,G4⟩:=u3
 obtain ⟨R7,M8⟩:=f5
 obtain ⟨L,d0⟩:=K3
 have O0:=wP z1
 simp only at L d0 N J O0
 have s5:=qT _ _ _ _ _ _ O0
 replace f:=f.mono L
 replace rG:=RGiven.mono L rG
 replace re:=REx.mono _ _ _ _ L re
 replace rv:=REnv.mono L rv
 replace b:=b.mono L
 replace h:=h.up L
 replace A:=A.up L
 replace G:=G.mono L
 replace u:=REx.mono _ _ _ _ L u
 replace N:=N.nf
 obtain ⟨V4,B4,rfl,Z5,l9,L6,s7⟩:=RVal.fm d0
 have f2:=y3q C0 O0
 refine Alc J N fun Z7 w N a J=>?_
 refine Sto 0 J N fun w N a J=>?_
 refine Reg [2,1,2,1,2,1,2,2,1,1,0,0,0] [0,2,3,4] J N fun w N a J=>?_
 refine go J N fun a J=>?_
 obtain ⟨Z4,V1⟩:=qX n1
 obtain ⟨L5,t6,R0,l0⟩:=h.elem V1
 obtain ⟨p255,m8,p261,n8,rfl,a6,m9,n9,M6,t7,N6,u7⟩:=REx.fm l0
 refine z3h J N fun a J=>?_
 refine Bx J N fun v4 w N a J=>?_
 have Y:=N
 clear N
 obtain ⟨o4,B,N,J2⟩:=Y.freezeBlk (i:=0) rfl
 clear Y
 replace f:=f.mono B
 replace rG:=RGiven.mono B rG
 replace re:=REx.mono _ _ _ _ B re
 replace rv:=REnv.mono B rv
 replace b:=b.mono B
 replace h:=h.up B
 replace A:=A.up B
 replace G:=G.mono B
 replace u:=REx.mono _ _ _ _ B u
 replace d0:=RVal.mono _ _ _ _ B d0
 replace R0:=R0.mono B
 replace l0:=REx.mono _ _ _ _ B l0
 replace N:=N.nf
 have J0:REnv o4 ((e.name,i2)::env) (some ⟨v4,0,none⟩):=⟨_,[.string i2.con,.int .i64 (i2.num),.slice V4 i2.args.length B4],_,rfl,J2,rfl,d0,rv⟩
 obtain rfl:x4=Z4:=Option.some.inj (c0.symm.trans V1)
 replace N:=N.pl 1
 refine xQ hQ call103 J N (fun v3 g5 w A1 L3 N a J=>?_) (fun v3 w A1 N=>?_) (c:=ih G4 (by omega) f rG l0 J0 ((qV h0).2.1 _ (mgQ V1)) (by omega) (by omega) f2 N)
 obtain ⟨z275,Z8⟩:=v3
 obtain ⟨p4,N8⟩:=g5
 obtain ⟨v,L1⟩:=L3
 have R1:=wP A1
 simp only at v L1 N J R1
 have t5:=qT _ _ _ _ _ _ R1
 replace f:=f.mono v
 replace rG:=RGiven.mono v rG
 replace re:=REx.mono _ _ _ _ v re
 replace rv:=REnv.mono v rv
 replace b:=b.mono v
 replace h:=h.up v
 replace A:=A.up v
 replace G:=G.mono v
 replace u:=REx.mono _ _ _ _ v u
 replace d0:=RVal.mono _ _ _ _ v d0
 replace R0:=R0.mono v
 replace l0:=REx.mono _ _ _ _ v l0
 replace J0:=REnv.mono v J0
 replace N:=N.nf
 obtain ⟨p285,o8,rfl,b6,o9,O6,v7⟩:=RVal.fm L1
 refine Sto 2 J N fun w N a J=>?_
 refine go J N fun a J=>?_
 have D:=N
 replace N:=N.dl [4,3,2,1]
 refine jS hQ J D ?_
 exact dY ((((yH _ _ _ _).trans (dI b0 U c0)).trans (pN O0)).trans R1) ⟨(p4,_),rfl,⟨((L).trans B).trans v,L1⟩,N⟩
 have V2:=vC A1 f2
 replace N:=N.dl [4,3,2,1]
 exact nI ((((yH _ _ _ _).trans (dI b0 U c0)).trans (pN O0)).trans V2) ⟨rfl,N.le ((L).trans B)⟩
 have W2:=vC z1 (jQ C0)
 replace N:=N.dl [3,2,1]
 exact nI (((yH _ _ _ _).trans (dI b0 U c0)).trans (nF W2)) ⟨rfl,N.le (Fz.Le.refl _)⟩
 refine Alc J N fun a8 w N a J=>?_
 have D0:=M0
 rw [dI b0 U c0] at D0
 replace N:=N.pl 4
 refine xQ hQ call103 J N (fun w3 h5 w B1 M3 N a J=>?_) (fun w3 w B1 N=>?_) (c:=ih g (by omega) f rG u rv ((qV h0).2.1 _ (mgQ U)) (by omega) (by omega) (jQ D0) N)
 obtain ⟨j2,H4⟩:=w3
 obtain ⟨S7,O8⟩:=h5
 obtain ⟨M,e0⟩:=M3
 have P0:=wP B1
 simp only at M e0 N J P0
 have u5:=qT _ _ _ _ _ _ P0
 replace f:=f.mono M
 replace rG:=RGiven.mono M rG
 replace re:=REx.mono _ _ _ _ M re
 replace rv:=REnv.mono M rv
 replace b:=b.mono M
 replace h:=h.up M
 replace A:=A.up M
 replace G:=G.mono M
 replace u:=REx.mono _ _ _ _ M u
 replace N:=N.nf
 obtain ⟨W4,C4,rfl,c6,p9,P6,w7⟩:=RVal.fm e0
 have g2:=y3q D0 P0
 refine Sto 1 J N fun w N a J=>?_
 refine Reg [2,1,2,1,2,1,2,2,1,1,0,0,0] [1,2,3,4] J N fun w N a J=>?_
 refine go J N fun a J=>?_
 obtain ⟨a5,W1⟩:=qX n1
 obtain ⟨M5,u6,S0,m0⟩:=h.elem W1
 obtain ⟨p323,p8,p329,q8,rfl,e6,q9,r9,Q6,x7,R6,y7⟩:=REx.fm m0
 refine z3h J N fun a J=>?_
 refine Bx J N fun w4 w N a J=>?_
 have Y:=N
 clear N
 obtain ⟨q4,C,N,K2⟩:=Y.freezeBlk (i:=0) rfl
 clear Y
 replace f:=f.mono C
 replace rG:=RGiven.mono C rG
 replace re:=REx.mono _ _ _ _ C re
 replace rv:=REnv.mono C rv
 replace b:=b.mono C
 replace h:=h.up C
 replace A:=A.up C
 replace G:=G.mono C
 replace u:=REx.mono _ _ _ _ C u
 replace e0:=RVal.mono _ _ _ _ C e0
 replace S0:=S0.mono C
 replace m0:=REx.mono _ _ _ _ C m0
 replace N:=N.nf
 have K0:REnv q4 ((e.name,j2)::env) (some ⟨w4,0,none⟩):=⟨_,[.string j2.con,.int .i64 (j2.num),.slice W4 j2.args.length C4],_,rfl,K2,rfl,e0,rv⟩
 obtain rfl:x4=a5:=Option.some.inj (c0.symm.trans W1)
 refine xQ hQ call103 J N (fun x3 i5 w C1 N3 N a J=>?_) (fun x3 w C1 N=>?_) (c:=ih H4 (by omega) f rG m0 K0 ((qV h0).2.1 _ (mgQ W1)) (by omega) (by omega) g2 N)
 obtain ⟨z343,a9⟩:=x3
 obtain ⟨r4,P8⟩:=i5
 obtain ⟨y,M1⟩:=N3
 have S1:=wP C1
 simp only at y M1 N J S1
 have v5:=qT _ _ _ _ _ _ S1
 replace f:=f.mono y
 replace rG:=RGiven.mono y rG
 replace re:=REx.mono _ _ _ _ y re
 replace rv:=REnv.mono y rv
 replace b:=b.mono y
 replace h:=h.up y
 replace A:=A.up y
 replace G:=G.mono y
 replace u:=REx.mono _ _ _ _ y u
 replace e0:=RVal.mono _ _ _ _ y e0
 replace S0:=S0.mono y
 replace m0:=REx.mono _ _ _ _ y m0
 replace K0:=REnv.mono y K0
 replace N:=N.nf
 obtain ⟨p353,r8,rfl,f6,s9,S6,z7⟩:=RVal.fm M1
 refine Sto 2 J N fun w N a J=>?_
 refine go J N fun a J=>?_
 have D:=N
 replace N:=N.dl [4,3,2,1]
 refine jS hQ J D ?_
 exact dY ((((yH _ _ _ _).trans (dI b0 U c0)).trans (pN P0)).trans S1) ⟨(r4,_),rfl,⟨((M).trans C).trans y,M1⟩,N⟩
 have X2:=vC C1 g2
 replace N:=N.dl [4,3,2,1]
 exact nI ((((yH _ _ _ _).trans (dI b0 U c0)).trans (pN P0)).trans X2) ⟨rfl,N.le ((M).trans C)⟩
 have Y2:=vC B1 (jQ D0)
 replace N:=N.dl [4,3,2,1]
 exact nI (((yH _ _ _ _).trans (dI b0 U c0)).trans (nF Y2)) ⟨rfl,N.le (Fz.Le.refl _)⟩
 refine go J N fun a J=>?_
 by_cases X:e.kind=7
 refine go J N fun a J=>?_
 refine yZ [2,1,2,1,2,1,0,0,0] (.q 0 (.q 1 (.q 2 (.q 3 (.q 4 (.q 5 (.e2 6 7 (.e 7 (.e 8 (.done))) (.e 6 (.e 8 (.done)))))))))) [0,1,2] J N fun w N=>?_
 have p3:=j1t X M0
 have l1:0 < e.args.length:=by omega
 refine go J N fun a J=>?_
 obtain ⟨q363,rfl,x364,H,N5,v6,s,j⟩:=h.el n3 l1
 obtain ⟨p372,s8,p378,t8,rfl,g6,t9,u9,T6,A7,U6,B7⟩:=REx.fm j
 refine go J N fun a J=>?_
 refine aR ?_ ?_
 have E0:=M0
 rw [pG X H] at E0
 replace N:=N.pl 3
 refine xQ hQ call103 J N (fun y3 j5 w D1 O3 N a J=>?_) (fun y3 w D1 N=>?_) (c:=ih g (by omega) f rG j rv ((qV h0).2.1 _ (mgQ H)) (by omega) (by omega) (jQ E0) N)
 obtain ⟨y0,I4⟩:=y3
 obtain ⟨f1,Q8⟩:=j5
 obtain ⟨E,Z⟩:=O3
 have n0:=wP D1
 simp only at E Z N J n0
 have w5:=qT _ _ _ _ _ _ n0
 replace f:=f.mono E
 replace rG:=RGiven.mono E rG
 replace re:=REx.mono _ _ _ _ E re
 replace rv:=REnv.mono E rv
 replace b:=b.mono E
 replace h:=h.up E
 replace A:=A.up E
 replace s:=s.mono E
 replace j:=REx.mono _ _ _ _ E j
 replace N:=N.nf
 obtain ⟨p398,u8,rfl,h6,n2,V6,Y3⟩:=RVal.fm Z
 have O2:=y3q E0 n0
 refine Alc J N fun b8 w N a J=>?_
 refine Sto 0 J N fun w N a J=>?_
 refine go J N fun a J=>?_
 refine zV (J.ks [2,3,6,8,120,121]) N (fun R mm a w=>∃(i:Nat),mm=e.arms.length - i/\R f1 [(122,.int .i64 ((i:Nat):Int))] [] a w/\(kD e.arms y0.con=kD (e.arms.drop i) y0.con)) (e.arms.length - 0) ⟨0,rfl,⟨J.pk,N⟩,rfl⟩ ?_
 clear N J
 rintro mm a w ⟨i,T0,⟨J,N⟩,r1⟩ U7 U3
 refine go J N fun a J=>?_
 by_cases i3:i < e.arms.length
 refine go J N fun a J=>?_
 obtain ⟨q413,rfl,u0,X1,O5,w6,i0,f0⟩:=A.el o3 i3
 obtain ⟨s420,c8,rfl,a2,r0⟩:=RArm.iff.1 f0
 obtain ⟨p422,v8,rfl,W6,Z3⟩:=a2.fm
 obtain ⟨p430,w8,p436,x8,rfl,i6,v9,w9,X6,C7,Y6,D7⟩:=REx.fm r0
 refine Alc J N fun e8 w N a J=>?_
 refine Sto 0 J N fun w N a J=>?_
 refine go J N fun a J=>?_
 by_cases j3:u0.con=y0.con
 refine go J N fun a J=>?_
 have L0:kD e.arms y0.con=some u0:=by
  rw [r1,zA X1];simp [kD,j3]
 have U0:=O2
 rw [aY L0] at U0
 obtain ⟨q1,x2⟩:=y0n U0
 refine go J N fun a J=>?_
 refine zV (J.ks [3,6,8,10,132,133]) N (fun R mm a w=>∃(h1:Fz) (k:Nat) (en:Env) (nv:Option Addr),mm=u0.vars.length - k/\R h1 [(2,.pointer nv),(134,.int .i64 ((k:Nat):Int))] [] a w/\(f1.Le h1/\(REnv h1 en nv/\aS u0.vars y0.args env=aS (u0.vars.drop k) (y0.args.drop k) en))) (u0.vars.length - 0) ⟨f1,0,env,ov,rfl,⟨J.pk,N⟩,⟨Fz.Le.refl _,⟨rv,rfl⟩⟩⟩ ?_
 clear N J
 rintro mm a w ⟨h1,k,en,nv,T0,⟨J,N⟩,s1⟩ V7 V3
 obtain ⟨l,s1⟩:=s1
 replace f:=f.mono l
 replace rG:=RGiven.mono l rG
 replace re:=REx.mono _ _ _ _ l re
 replace rv:=REnv.mono l rv
 replace b:=b.mono l
 replace h:=h.up l
 replace A:=A.up l
 replace s:=s.mono l
 replace j:=REx.mono _ _ _ _ l j
 replace n2:=n2.up l
 replace Z:=RVal.mono _ _ _ _ l Z
 replace i0:=i0.mono l
 replace f0:=RArm.mono _ _ _ _ l f0
 replace a2:=a2.up l
 replace r0:=REx.mono _ _ _ _ l r0
 obtain ⟨rn,H0⟩:=s1
 refine go J N fun a J=>?_
 by_cases o2:k < u0.vars.length
 refine go J N fun a J=>?_
 have B2:k < y0.args.length:=z6l (env:=en) (env':=q1) (by rw [<- H0];exact x2) o2
 refine go J N fun a J=>?_
 obtain ⟨q457,rfl,F2,f4,E3,x6,r2,c4⟩:=a2.el Z3 o2
 obtain rfl:E3=[.string F2]:=c4
 refine go J N fun a J=>?_
 obtain ⟨q464,rfl,o1,g4,P5,y6,s2,Y0⟩:=n2.el Y3 B2
 obtain ⟨X4,D4,rfl,j6,x9,Z6,E7⟩:=RVal.fm Y0
 refine z3h J N fun a J=>?_
 refine Bx J N fun f3 w N a J=>?_
 have Y:=N
 clear N
 obtain ⟨H2,m,N,L2⟩:=Y.freezeBlk (i:=0) rfl
 clear Y
 replace f:=f.mono m
 replace rG:=RGiven.mono m rG
 replace re:=REx.mono _ _ _ _ m re
 replace rv:=REnv.mono m rv
 replace b:=b.mono m
 replace h:=h.up m
 replace A:=A.up m
 replace s:=s.mono m
 replace j:=REx.mono _ _ _ _ m j
 replace Z:=RVal.mono _ _ _ _ m Z
 replace i0:=i0.mono m
 replace f0:=RArm.mono _ _ _ _ m f0
 replace r0:=REx.mono _ _ _ _ m r0
 replace rn:=REnv.mono m rn
 replace r2:=r2.mono m
 replace s2:=s2.mono m
 replace Y0:=RVal.mono _ _ _ _ m Y0
 replace N:=N.nf
 have z2:REnv H2 ((F2,o1)::en) (some ⟨f3,0,none⟩):=⟨_,[.string o1.con,.int .i64 (o1.num),.slice X4 o1.args.length D4],_,rfl,L2,rfl,Y0,rn⟩
 refine go J N fun a J=>?_
 refine V3 _ _ _ (by subst T0;omega) ⟨(H2),(k+1),((F2,o1)::en),((some ⟨f3,0,none⟩)),rfl,⟨J.pk,N⟩,?_⟩
 refine ⟨(l).trans m,?_⟩
 refine ⟨z2,?_⟩
 rw [H0,zA f4,zA g4];rfl
 refine go J N fun a J=>?_
 have I0:aS u0.vars y0.args env=some en:=by
  rw [H0,zE o2,y7s]
 have V0:=U0
 rw [z2e I0] at V0
 replace N:=N.pl 2
 refine xQ hQ call103 J N (fun z3 k5 w E1 P3 N a J=>?_) (fun z3 w E1 N=>?_) (c:=ih I4 (by omega) f rG r0 rn ((qV h0).2.2 _ (mgQ X1)).1 (by omega) (by omega) V0 N)
 obtain ⟨z490,b9⟩:=z3
 obtain ⟨s4,R8⟩:=k5
 obtain ⟨t,N1⟩:=P3
 have T1:=wP E1
 simp only at t N1 N J T1
 have x5:=qT _ _ _ _ _ _ T1
 replace f:=f.mono t
 replace rG:=RGiven.mono t rG
 replace re:=REx.mono _ _ _ _ t re
 replace rv:=REnv.mono t rv
 replace b:=b.mono t
 replace h:=h.up t
 replace A:=A.up t
 replace s:=s.mono t
 replace j:=REx.mono _ _ _ _ t j
 replace Z:=RVal.mono _ _ _ _ t Z
 replace i0:=i0.mono t
 replace f0:=RArm.mono _ _ _ _ t f0
 replace r0:=REx.mono _ _ _ _ t r0
 replace rn:=REnv.mono t rn
 replace N:=N.nf
 obtain ⟨p500,y8,rfl,k6,y9,a7,F7⟩:=RVal.fm N1
 refine Sto 3 J N fun w N a J=>?_
 refine go J N fun a J=>?_
 have D:=N
 replace N:=N.dl [5,4,3,2,1]
 refine jS hQ J D ?_
 exact dY ((((((yH _ _ _ _).trans (pG X H)).trans (pN n0)).trans (aY L0)).trans (z2e I0)).trans T1) ⟨(s4,_),rfl,⟨((E).trans l).trans t,N1⟩,N⟩
 have Z2:=vC E1 V0
 replace N:=N.dl [5,4,3,2,1]
 exact nI ((((((yH _ _ _ _).trans (pG X H)).trans (pN n0)).trans (aY L0)).trans (z2e I0)).trans Z2) ⟨rfl,N.le ((E).trans l)⟩
 refine go J N fun a J=>?_
 replace N:=N.dl [0]
 refine U3 _ _ _ (by subst T0;omega) ⟨(i+1),rfl,⟨J.pk,N⟩,?_⟩
 rw [r1,zA X1];simp only [kD,if_neg j3]
 refine yE J N fun a J=>?_
 refine Sto 2 J N fun w N a J=>?_
 refine go J N fun a J=>?_
 have D:=N
 replace N:=N.dl [4,3,2,0]
 refine jS hQ J D ?_
 exact dY ((((yH _ _ _ _).trans (pG X H)).trans (pN n0)).trans (y0h (by rw [r1,zE i3];rfl))) ⟨(f1,_),rfl,⟨E,RVal.iff.2 ⟨_,rfl,(show I64 0 from ⟨by decide,by decide⟩),SliceOf.nil 3⟩⟩,N⟩
 have a3:=vC D1 (jQ E0)
 replace N:=N.dl [3,2,1]
 exact nI (((yH _ _ _ _).trans (pG X H)).trans (nF a3)) ⟨rfl,N.le (Fz.Le.refl _)⟩
 refine Alc J N fun f8 w N a J=>?_
 have F0:=M0
 rw [pG X H] at F0
 replace N:=N.pl 4
 refine xQ hQ call103 J N (fun A3 l5 w F1 Q3 N a J=>?_) (fun A3 w F1 N=>?_) (c:=ih g (by omega) f rG j rv ((qV h0).2.1 _ (mgQ H)) (by omega) (by omega) (jQ F0) N)
 obtain ⟨z0,J4⟩:=A3
 obtain ⟨i1,S8⟩:=l5
 obtain ⟨F,a0⟩:=Q3
 have o0:=wP F1
 simp only at F a0 N J o0
 have y5:=qT _ _ _ _ _ _ o0
 replace f:=f.mono F
 replace rG:=RGiven.mono F rG
 replace re:=REx.mono _ _ _ _ F re
 replace rv:=REnv.mono F rv
 replace b:=b.mono F
 replace h:=h.up F
 replace A:=A.up F
 replace s:=s.mono F
 replace j:=REx.mono _ _ _ _ F j
 replace N:=N.nf
 obtain ⟨p525,z8,rfl,l6,p2,b7,a4⟩:=RVal.fm a0
 have P2:=y3q F0 o0
 refine Sto 1 J N fun w N a J=>?_
 refine go J N fun a J=>?_
 refine zV (J.ks [2,3,6,8,120,121]) N (fun R mm a w=>∃(i:Nat),mm=e.arms.length - i/\R i1 [(122,.int .i64 ((i:Nat):Int))] [] a w/\(kD e.arms z0.con=kD (e.arms.drop i) z0.con)) (e.arms.length - 0) ⟨0,rfl,⟨J.pk,N⟩,rfl⟩ ?_
 clear N J
 rintro mm a w ⟨i,T0,⟨J,N⟩,t1⟩ W7 W3
 refine go J N fun a J=>?_
 by_cases k3:i < e.arms.length
 refine go J N fun a J=>?_
 obtain ⟨q539,rfl,w0,Y1,Q5,z6,j0,g0⟩:=A.el o3 k3
 obtain ⟨s546,g8,rfl,b2,s0⟩:=RArm.iff.1 g0
 obtain ⟨p548,A8,rfl,c7,b4⟩:=b2.fm
 obtain ⟨p556,B8,p562,C8,rfl,m6,z9,A9,e7,G7,f7,H7⟩:=REx.fm s0
 refine Alc J N fun h8 w N a J=>?_
 refine Sto 0 J N fun w N a J=>?_
 refine go J N fun a J=>?_
 by_cases l3:w0.con=z0.con
 refine go J N fun a J=>?_
 have L0:kD e.arms z0.con=some w0:=by
  rw [t1,zA Y1];simp [kD,l3]
 have W0:=P2
 rw [aY L0] at W0
 obtain ⟨q1,x2⟩:=y0n W0
 refine go J N fun a J=>?_
 refine zV (J.ks [3,6,8,10,132,133]) N (fun R mm a w=>∃(j1:Fz) (k:Nat) (en:Env) (nv:Option Addr),mm=w0.vars.length - k/\R j1 [(2,.pointer nv),(134,.int .i64 ((k:Nat):Int))] [] a w/\(i1.Le j1/\(REnv j1 en nv/\aS w0.vars z0.args env=aS (w0.vars.drop k) (z0.args.drop k) en))) (w0.vars.length - 0) ⟨i1,0,env,ov,rfl,⟨J.pk,N⟩,⟨Fz.Le.refl _,⟨rv,rfl⟩⟩⟩ ?_
 clear N J
 rintro mm a w ⟨j1,k,en,nv,T0,⟨J,N⟩,u1⟩ X7 X3
 obtain ⟨n,u1⟩:=u1
 replace f:=f.mono n
 replace rG:=RGiven.mono n rG
 replace re:=REx.mono _ _ _ _ n re
 replace rv:=REnv.mono n rv
 replace b:=b.mono n
 replace h:=h.up n
 replace s:=s.mono n
 replace j:=REx.mono _ _ _ _ n j
 replace p2:=p2.up n
 replace a0:=RVal.mono _ _ _ _ n a0
 replace j0:=j0.mono n
 replace g0:=RArm.mono _ _ _ _ n g0
 replace b2:=b2.up n
 replace s0:=REx.mono _ _ _ _ n s0
 obtain ⟨rn,H0⟩:=u1
 refine go J N fun a J=>?_
 by_cases q2:k < w0.vars.length
 refine go J N fun a J=>?_
 have B2:k < z0.args.length:=z6l (env:=en) (env':=q1) (by rw [<- H0];exact x2) q2
 refine go J N fun a J=>?_
 obtain ⟨q583,rfl,G2,h4,F3,A6,t2,d4⟩:=b2.el b4 q2
 obtain rfl:F3=[.string G2]:=d4
 refine go J N fun a J=>?_
 obtain ⟨q590,rfl,p1,i4,R5,B6,u2,Z0⟩:=p2.el a4 B2
 obtain ⟨Y4,E4,rfl,n6,B9,g7,I7⟩:=RVal.fm Z0
 refine z3h J N fun a J=>?_
 refine Bx J N fun g3 w N a J=>?_
 have Y:=N
 clear N
 obtain ⟨I2,r,N,M2⟩:=Y.freezeBlk (i:=0) rfl
 clear Y
 replace f:=f.mono r
 replace rG:=RGiven.mono r rG
 replace re:=REx.mono _ _ _ _ r re
 replace rv:=REnv.mono r rv
 replace b:=b.mono r
 replace h:=h.up r
 replace s:=s.mono r
 replace j:=REx.mono _ _ _ _ r j
 replace a0:=RVal.mono _ _ _ _ r a0
 replace j0:=j0.mono r
 replace g0:=RArm.mono _ _ _ _ r g0
 replace s0:=REx.mono _ _ _ _ r s0
 replace rn:=REnv.mono r rn
 replace t2:=t2.mono r
 replace u2:=u2.mono r
 replace Z0:=RVal.mono _ _ _ _ r Z0
 replace N:=N.nf
 have A2:REnv I2 ((G2,p1)::en) (some ⟨g3,0,none⟩):=⟨_,[.string p1.con,.int .i64 (p1.num),.slice Y4 p1.args.length E4],_,rfl,M2,rfl,Z0,rn⟩
 refine go J N fun a J=>?_
 refine X3 _ _ _ (by subst T0;omega) ⟨(I2),(k+1),((G2,p1)::en),((some ⟨g3,0,none⟩)),rfl,⟨J.pk,N⟩,?_⟩
 refine ⟨(n).trans r,?_⟩
 refine ⟨A2,?_⟩
 rw [H0,zA h4,zA i4];rfl
 refine go J N fun a J=>?_
 have I0:aS w0.vars z0.args env=some en:=by
  rw [H0,zE q2,y7s]
 have X0:=W0
 rw [z2e I0] at X0
 replace N:=N.pl 1
 refine xQ hQ call103 J N (fun B3 m5 w G1 R3 N a J=>?_) (fun B3 w G1 N=>?_) (c:=ih J4 (by omega) f rG s0 rn ((qV h0).2.2 _ (mgQ Y1)).1 (by omega) (by omega) X0 N)
 obtain ⟨z616,d9⟩:=B3
 obtain ⟨t4,T8⟩:=m5
 obtain ⟨z,O1⟩:=R3
 have U1:=wP G1
 simp only at z O1 N J U1
 have z5:=qT _ _ _ _ _ _ U1
 replace f:=f.mono z
 replace rG:=RGiven.mono z rG
 replace re:=REx.mono _ _ _ _ z re
 replace rv:=REnv.mono z rv
 replace b:=b.mono z
 replace h:=h.up z
 replace s:=s.mono z
 replace j:=REx.mono _ _ _ _ z j
 replace a0:=RVal.mono _ _ _ _ z a0
 replace j0:=j0.mono z
 replace g0:=RArm.mono _ _ _ _ z g0
 replace s0:=REx.mono _ _ _ _ z s0
 replace rn:=REnv.mono z rn
 replace N:=N.nf
 obtain ⟨p626,D8,rfl,o6,C9,h7,J7⟩:=RVal.fm O1
 refine Sto 3 J N fun w N a J=>?_
 refine go J N fun a J=>?_
 have D:=N
 replace N:=N.dl [5,4,3,2,1]
 refine jS hQ J D ?_
 exact dY ((((((yH _ _ _ _).trans (pG X H)).trans (pN o0)).trans (aY L0)).trans (z2e I0)).trans U1) ⟨(t4,_),rfl,⟨((F).trans n).trans z,O1⟩,N⟩
 have b3:=vC G1 X0
 replace N:=N.dl [5,4,3,2,1]
 exact nI ((((((yH _ _ _ _).trans (pG X H)).trans (pN o0)).trans (aY L0)).trans (z2e I0)).trans b3) ⟨rfl,N.le ((F).trans n)⟩
 refine go J N fun a J=>?_
 replace N:=N.dl [0]
 refine W3 _ _ _ (by subst T0;omega) ⟨(i+1),rfl,⟨J.pk,N⟩,?_⟩
 rw [t1,zA Y1];simp only [kD,if_neg l3]
 refine yE J N fun a J=>?_
 refine Sto 2 J N fun w N a J=>?_
 refine go J N fun a J=>?_
 have D:=N
 replace N:=N.dl [4,3,2,1]
 refine jS hQ J D ?_
 exact dY ((((yH _ _ _ _).trans (pG X H)).trans (pN o0)).trans (y0h (by rw [t1,zE k3];rfl))) ⟨(i1,_),rfl,⟨F,RVal.iff.2 ⟨_,rfl,(show I64 0 from ⟨by decide,by decide⟩),SliceOf.nil 3⟩⟩,N⟩
 have d3:=vC F1 (jQ F0)
 replace N:=N.dl [4,3,2,1]
 exact nI (((yH _ _ _ _).trans (pG X H)).trans (nF d3)) ⟨rfl,N.le (Fz.Le.refl _)⟩
 refine go J N fun a J=>?_
 by_cases c2:e.kind=8
 refine go J N fun a J=>?_
 have G0:=M0
 rw [q2u c2] at G0
 replace N:=N.pl 3
 refine xQ hQ call158 J N (fun C3 n5 w H1 S3 N a J=>?_) (fun C3 w H1 N=>?_) (c:=z6x (fun l2 h_=>ih l2 (by omega)) f rG h rv (qV h0).2.1 (qV h0).1 (by omega) (by omega) (jQ G0) N)
 obtain ⟨D3,e9⟩:=C3
 obtain ⟨T7,U8⟩:=n5
 obtain ⟨q0,a1⟩:=S3
 have e1:=wP H1
 simp only at q0 a1 N J e1
 have A5:=q1o e1
 replace rG:=RGiven.mono q0 rG
 replace re:=REx.mono _ _ _ _ q0 re
 replace rv:=REnv.mono q0 rv
 replace b:=b.mono q0
 replace N:=N.nf
 obtain ⟨p651,E8,rfl,D5,R2⟩:=a1.fm
 have Q2:=y3q G0 e1
 refine Reg [1,2,1,1,1,2,1,1,1,2,0,0] [1,2,3] J N fun w N a J=>?_
 have p3:=x3b Q2
 have l1:0 < D3.length:=by omega
 have n1:1 < D3.length:=by omega
 refine go J N fun a J=>?_
 obtain ⟨q657,rfl,x658,j4,S5,C6,v2,b1⟩:=a1.el R2 l1
 obtain ⟨p666,F8,rfl,p6,D9,i7,K7⟩:=RVal.fm b1
 refine go J N fun a J=>?_
 obtain ⟨x671,D2⟩:=qX n1
 obtain ⟨T5,D6,w2,c1⟩:=a1.elem D2
 obtain ⟨p679,G8,rfl,q6,E9,j7,L7⟩:=RVal.fm c1
 refine qH call159 J N (fun o5 w T3 N a J=>?_) (c:=j0o (by obtain ⟨_,_,h_,_⟩:=RVal.iff.1 b1;exact h_) (by obtain ⟨_,_,h_,_⟩:=RVal.iff.1 c1;exact h_) N)
 obtain ⟨u4,V8⟩:=o5
 obtain ⟨W,P1⟩:=T3
 simp only at W P1 N J
 replace rG:=RGiven.mono W rG
 replace re:=REx.mono _ _ _ _ W re
 replace rv:=REnv.mono W rv
 replace b:=b.mono W
 replace v2:=v2.mono W
 replace b1:=RVal.mono _ _ _ _ W b1
 replace w2:=w2.mono W
 replace c1:=RVal.mono _ _ _ _ W c1
 replace N:=N.nf
 obtain ⟨p692,H8,rfl,r6,F9,k7,M7⟩:=RVal.fm P1
 refine Sto 1 J N fun w N a J=>?_
 refine go J N fun a J=>?_
 have D:=N
 replace N:=N.dl [3,2,1]
 refine jS hQ J D ?_
 exact dY ((((yH _ _ _ _).trans (q2u c2)).trans (pN e1)).trans (opOf_eq j4 D2)) ⟨(u4,_),rfl,⟨(q0).trans W,P1⟩,N⟩
 have e3:=vC H1 (jQ G0)
 replace N:=N.dl [3,2,1]
 exact nI (((yH _ _ _ _).trans (q2u c2)).trans (nF e3)) ⟨rfl,N.le (Fz.Le.refl _)⟩
 refine yE J N fun a J=>?_
 refine Sto 0 J N fun w N a J=>?_
 refine go J N fun a J=>?_
 have D:=N
 replace N:=N.dl [2,1,0]
 refine jS hQ J D ?_
 exact dY ((yH _ _ _ _).trans (j8d (by have h_:=L4;omega) (by have h_:=G3;omega) (by have h_:=N4;omega) (by have h_:=Z1;omega) (by have h_:=Q0;omega) (by have h_:=b0;omega) (by have h_:=X;omega) (by have h_:=c2;omega))) ⟨(V,_),rfl,⟨Fz.Le.refl _,RVal.iff.2 ⟨_,rfl,(show I64 0 from ⟨by decide,by decide⟩),SliceOf.nil 3⟩⟩,N⟩
theorem x0e {T:Table} {inp:List (Bs×Val)} (a:z0g T):∀g,gX prog T inp g:=by
 suffices H:∀n g,g < n->gX prog T inp g from fun g=>H _ g (Nat.lt_succ_self _)
 intro n
 induction n with
 | zero=>intro g h;omega
 | succ n b=>
  intro g h
  cases g with
  | zero=>exact j5y
  | succ g=>exact j5x a fun g1 h1=>b g1 (by omega)
theorem z0k {T:Table} {inp:List (Bs×Val)} (a:z0g T) (g:Nat):q3m prog T inp g:=y0r (x0e a g)
theorem run1_ok {V:Fz} {K:List Res} {w:World} {p:Addr} {T:Table} {d0:List Value} {c:Core} {mg:Value} {inp:List (Bs×Val)} {fuel b0 b1 b2 b3 b4 b5 b6:Nat} (L:RCore V d0 c) (A0:RTable V p T) (rG:RGiven V mg inp) (hF:z0g T) (q5:c.outputs.length<=1000) (O6:fuel<=1000000)
  (h1:jZ ⟨T.funs,inp⟩ c.outputs fuel≠.stuck) (N:Mem V (.blk b0 (ob d0 27)::.blk b1 (ob [.pointer (some p)] 89)::.blk b2 (ob [mg] 94)::.blk b3 (ob [.int .i64 ((fuel:Nat):Int)] 3)::.blk b4 (ob [.slice none 0 0] 93)::.blk b5 (ob [.slice none 0 0] 38)::.blk b6 (ob [.slice none 0 0,.int .i64 ((0:Nat):Int)] 30)::K) w) :
  Calls prog 46 #[.pointer (some ⟨b0,0,none⟩),.pointer (some ⟨b1,0,none⟩),.pointer (some ⟨b2,0,none⟩),.pointer (some ⟨b3,0,none⟩),.pointer (some ⟨b4,0,none⟩),.pointer (some ⟨b5,0,none⟩),.pointer (some ⟨b6,0,none⟩)] w (fun e w'=>Out (y2e (jZ ⟨T.funs,inp⟩ c.outputs fuel))
   (fun x=>∃y:Fz×Value×List Int×Value,e=.returned (.int .i64 ((0:Nat):Int))/\(V.Le y.1/\dV y.2.2.1=((fuel - x.2:Nat):Int)/\y.2.2.1.length<=1000/\SliceOf RNamed y.1 4 y.2.2.2 (mD c.outputs x.1)/\NewRow V y.2.2.2)/\Mem y.1 (.blk b4 (ob [y.2.1] 93)::.gs y.2.1 3 1 (z2w y.2.2.1)::.blk b6 (ob [y.2.2.2,.int .i64 ((0:Nat):Int)] 30)::K) w')
   (fun c=>(e=.returned (.int .i64 ((c:Nat):Int))∨c=4/\e=.panicked (sL ()))/\Mem V K w')):=by
 obtain ⟨p3,c4,p9,O1,f2,P1,K4,c22,rfl,h2,h8,H6,i0,R6,S6,r5,y5,s5,z5,t5,G1⟩:=RCore.fm L
 obtain ⟨X4,T6,U6,V6,W6,D6,E6,x1,F6,t,W3,n1,E5,H5,F5,I5,G0,j0,G5,J5⟩:=A0.ex
 obtain ⟨X6,A6,Y6,B6,Z6,C6,a7,c66,rfl,J6,K6,L6,M6,u5,A5,v5,B5,w5,C5,x5,D5⟩:=RCore.fm n1
 have z1:=N
 clear z1
 refine zM func46 ntmps46 fun Q hQ a J=>?_
 refine go J N fun a J=>?_
 replace N:=N.nilRow 3 1
 replace N:=N.nf
 replace N:=N.nilRow 42 3
 replace N:=N.nf
 refine go J N fun a J=>?_
 refine zV (J.ks [0,1,2,3,4,5,6,16,17]) N (fun R mm a w=>∃(M0:Fz) (i:Nat) (u:Value) (cl:List Int) (uv:Value) (cs:List Value) (xs:List Val) (g1:Nat),mm=c.outputs.length - i/\R M0 [(18,.int .i64 ((i:Nat):Int))] [(0,.gs (uv) 42 3 cs),(1,.gs (u) 3 1 (z2w cl)),(6,.blk b4 (ob [u] 93)),(7,.blk b5 (ob [uv] 38))] a w/\(V.Le M0/\(Chunks (RVal M0) 3 cs xs/\xs.length=i/\i<=c.outputs.length/\g1<=fuel/\cl.length=i/\dV cl=((fuel - g1:Nat):Int)/\jZ ⟨T.funs,inp⟩ c.outputs fuel=(jZ ⟨T.funs,inp⟩ (c.outputs.drop i) g1).bind fun vs g2=>.ok (xs++vs) g2))) (c.outputs.length - 0) ⟨V,0,.slice none 0 0,[],.slice none 0 0,[],[],fuel,rfl,⟨J.pk,N⟩,⟨Fz.Le.refl _,⟨rfl,rfl,Nat.zero_le _,Nat.le_refl _,rfl,by simp [dV],j3e _⟩⟩⟩ ?_
 clear N J
 rintro mm a w ⟨M0,i,u,cl,uv,cs,xs,g1,F,⟨J,N⟩,j1⟩ z6 A
 replace N:=N.nf
 obtain ⟨b,j1⟩:=j1
 replace i0:=i0.up b
 replace L:=RCore.mono _ _ _ _ b L
 replace A0:=A0.mono b
 replace rG:=RGiven.mono b rG
 replace t:=t.mono b
 replace G0:=G0.mono b
 replace j0:=j0.up b
 obtain ⟨hch,H,Q6,P6,G,n,B⟩:=j1
 refine go J N fun a J=>?_
 by_cases A2:i < c.outputs.length
 refine go J N fun a J=>?_
 obtain ⟨K2,rfl,u1,d,x2,p5,F0,B2⟩:=i0.el G1 A2
 obtain rfl:x2=[.string u1]:=B2
 refine Alc J N fun K0 w N a J=>?_
 refine Sto 0 J N fun w N a J=>?_
 refine go J N fun a J=>?_
 refine yZ [2,2,2,2,0,1,1,0,0] (.q 0 (.q 1 (.q 2 (.q 3 (.e2 4 7 (.q 5 (.q 6 (.e 7 (.e 8 (.done))))) (.e 4 (.q 5 (.q 6 (.e 8 (.done)))))))))) [0,1,3,4,5,6,7,8,9] J N fun w N=>?_
 refine go J N fun a J=>?_
 refine aR ?_ ?_
 replace N:=N.pl 2
 refine zS call47 J N (fun w N a J=>?_) (c:=y5h (l:=cl) (by omega) N)
 refine Qq J N (fun a J=>?_) (o:=by exact fun _ _ _ J O=>vT ((g1:Nat):Int) J rfl rfl (by rw [n,yC (by omega)];omega))
 refine Qq J N (fun a J=>?_) (o:=by exact fun _ _ _ J O=>z2u (vs:=[(0,.pointer (some p)),(1,mg),(2,.pointer (some ⟨K0,0,none⟩)),(3,.int .i64 ((g1:Nat):Int))]) (cs:=[.pointer (some p),mg,.pointer (some ⟨K0,0,none⟩),.int .i64 ((g1:Nat):Int)]) J rfl (by rcases rG with ⟨_,_,h_,_⟩ | ⟨h_,_⟩ <;> rw [h_] <;> kernel_rfl))
 refine Alc J N fun T3 w N a J=>?_
 refine y6r J rfl rfl (jE 0 (cs:=[.pointer none,.map none,.pointer none,.int .i64 ((0:Nat):Int)]) (vs:=[.pointer (some p),mg,.pointer (some ⟨K0,0,none⟩),.int .i64 ((g1:Nat):Int)]) J N rfl rfl rfl rfl sizeOf99 rfl (by simp only [List.all_cons,RGiven.one rG];rfl) rfl fun w N=>⟨dG (by kernel_rfl),fun a J=>?_⟩)
 replace N:=N.nf
 refine go J N fun a J=>?_
 refine yZ [2,2,1,1,2,1,2,0,0,0] (.q 0 (.q 1 (.q 2 (.q 3 (.q 4 (.q 5 (.q 6 (.e2 7 8 (.e 8 (.e 9 (.done))) (.e 7 (.e 9 (.done))))))))))) [0,1,3,4,5,6,7,8,9,10] J N fun w N=>?_
 replace N:Mem M0 (.blk T3 (ob [.pointer (some p),mg,.pointer (some ⟨K0,0,none⟩),.int .i64 ((g1:Nat):Int)] 99)::.gs (u) 3 1 (z2w cl)::.blk K0 (ob [.int .i64 ((g1 - g1:Nat):Int)] 3)::.gs (uv) 42 3 cs::.blk b0 (ob [.slice p3 c.datas.length c4,.slice p9 c.inputs.length O1,.slice f2 c.funs.length P1,.slice (some K2) c.outputs.length c22] 27)::.blk b1 (ob [.pointer (some p)] 89)::.blk b2 (ob [mg] 94)::.blk b3 (ob [.int .i64 ((fuel:Nat):Int)] 3)::.blk b4 (ob [u] 93)::.blk b5 (ob [uv] 38)::.blk b6 (ob [.slice none 0 0,.int .i64 ((0:Nat):Int)] 30)::K) w:=by rw [Nat.sub_self];exact N
 refine go J N fun a J=>?_
 rcases p1:yO (x1) u1 with _ | y6
 exact absurd (by rw [B,zA d,y3w (MapRel.none j0 p1)];rfl) h1
 obtain ⟨L0,E,Y4,rfl,H0⟩:=j0.get p1
 obtain ⟨b7,P4,rfl,y2,Q0⟩:=id H0
 obtain ⟨C2,p2,rfl,j4,x4⟩:=y2.fm
 obtain ⟨D2,q2,E2,r2,rfl,X3,f5,g5,k4,y4,l4,z4⟩:=REx.fm Q0
 have Y1:=congrArg (zK false (.agg #[.string ⟨#[]⟩,.slice none 0 0,.string ⟨#[]⟩,.int .i64 ((0:Nat):Int),.int .i64 ((0:Nat):Int),.string ⟨#[]⟩,.slice none 0 0,.slice none 0 0])) p1
 refine Qq J N (fun a J=>?_) (o:=by exact fun _ _ _ J O=>Ok.cast (zY runUnderlying103 runUnderlying9 zeroValue68 J O rfl rfl G0) (show zK false (.agg #[.string ⟨#[]⟩,.slice none 0 0,.string ⟨#[]⟩,.int .i64 ((0:Nat):Int),.int .i64 ((0:Nat):Int),.string ⟨#[]⟩,.slice none 0 0,.slice none 0 0]) (yO (x1) u1)=.agg #[.string L0.name,.slice C2 L0.params.length p2,.string L0.result,.int .i64 (L0.body.kind),.int .i64 (L0.body.num),.string L0.body.name,.slice D2 L0.body.args.length q2,.slice E2 L0.body.arms.length r2] from Y1))
 refine aR ?_ ?_
 have q0:=h1
 rw [B,zA d,cK E] at q0
 replace q0:=jQ (r:=xY (qM ⟨T.funs,inp⟩) L0 [] g1) (jQ q0)
 replace N:=N.pl 2
 refine xQ hQ call48 J N (fun I1 K3 w Y0 R1 N a J=>?_) (fun I1 w Y0 N=>?_) (c:=z0k hF g1 A0 rG H0 (SliceOf.nil 3) (hF _ _ E).1 (hF _ _ E).2 (Nat.le_refl _) (by omega) q0 N)
 obtain ⟨f,M⟩:=I1
 obtain ⟨B0,Z4⟩:=K3
 obtain ⟨v,W⟩:=R1
 have a0:=wP Y0
 simp only at v W N J a0
 have P3:=cY a0
 replace i0:=i0.up v
 replace L:=RCore.mono _ _ _ _ v L
 replace A0:=A0.mono v
 replace rG:=RGiven.mono v rG
 replace t:=t.mono v
 replace G0:=G0.mono v
 replace j0:=j0.up v
 replace hch:=hch.mono fun _ _ h=>RVal.mono _ _ _ _ v h
 replace F0:=F0.mono v
 replace H0:=RFun.mono _ _ _ _ v H0
 replace Q0:=REx.mono _ _ _ _ v Q0
 replace N:=N.nf
 obtain ⟨w0,m0,rfl,Y3,h5,m4,A4⟩:=RVal.fm W
 refine Alc J N fun Q4 w N a J=>?_
 refine Sto 0 J N fun w N a J=>?_
 refine go J N fun a J=>?_
 refine yZ [2,2,0,0,2,0,0,0,0,0] (.q 0 (.q 1 (.q 4 (.e2 2 5 (.e2 3 5 (.e 5 (.e 6 (.e 7 (.e 8 (.e 9 (.done)))))) (.e2 3 6 (.e 6 (.e 7 (.e 8 (.e 9 (.done))))) (.e 3 (.e 7 (.e 8 (.e 9 (.done))))))) (.e2 2 6 (.e2 3 6 (.e 6 (.e 7 (.e 8 (.e 9 (.done))))) (.e 3 (.e 7 (.e 8 (.e 9 (.done)))))) (.e 2 (.e 3 (.e 7 (.e 8 (.e 9 (.done))))))))))) [0,1,2,5,6,7,8,9,10,11] J N fun w N=>?_
 refine go J N fun a J=>?_
 refine aR ?_ ?_
 refine qG J N fun O5 w N a J=>?_
 refine aR ?_ ?_
 refine qN 4 pR J N (fun L2 w N a J=>?_)
 rw [<- qO] at N
 refine d_e J rfl rfl rfl (pY (qU 1 (vs:=[.string f.con,.int .i64 (f.num),.slice w0 f.args.length m0]) J N.toSees rfl rfl isAgg42 sizeOf42 rfl rfl) ⟨fun _=>N.sn (Fz.Le.refl _),fun a J=>?_⟩)
 refine qG J N fun v143 w N a J=>?_
 refine qN 6 wN J N (fun M2 w N a J=>?_)
 refine Sto 11 J N fun w N a J=>?_
 refine Sto 12 J N fun w N a J=>?_
 refine go J N fun a J=>?_
 replace N:=N.ar [4,3,2,1,0] [8,8,8,8,8,8,8,7,8]
 refine A _ _ _ (by subst F;omega) ⟨(B0),(i+1),(L2),((cl++[((g1 - M:Nat):Int)])),(M2),((cs++[.string f.con,.int .i64 (f.num),.slice w0 f.args.length m0])),(xs++[f]),(M),rfl,⟨J.pk,by exact N⟩,?_⟩
 refine ⟨(b).trans v,?_⟩
 refine ⟨hch.snoc rfl W,by simp [H],by omega,by omega,by simp [G],?_,?_⟩
 rw [yM,n,yC (by omega)];omega
 rw [B,zA d]
 exact yG E a0
 refine d_e J rfl rfl rfl (pY (qU 1 (vs:=[.string f.con,.int .i64 (f.num),.slice w0 f.args.length m0]) J N.toSees rfl rfl isAgg42 sizeOf42 rfl rfl) ⟨fun _=>N.sn (Fz.Le.refl _),fun a J=>?_⟩)
 refine aR ?_ ?_
 refine qN 4 pR J N (fun v145 w N a J=>?_)
 rw [<- qO] at N
 refine qG J N fun v146 w N a J=>?_
 refine qN 6 wN J N (fun N2 w N a J=>?_)
 refine Sto 11 J N fun w N a J=>?_
 refine Sto 12 J N fun w N a J=>?_
 refine go J N fun a J=>?_
 replace N:=N.ar [4,3,2,1,0] [8,8,8,8,8,8,8,7,8]
 refine A _ _ _ (by subst F;omega) ⟨(B0),(i+1),(v145),((cl++[((g1 - M:Nat):Int)])),(N2),((cs++[.string f.con,.int .i64 (f.num),.slice w0 f.args.length m0])),(xs++[f]),(M),rfl,⟨J.pk,by exact N⟩,?_⟩
 refine ⟨(b).trans v,?_⟩
 refine ⟨hch.snoc rfl W,by simp [H],by omega,by omega,by simp [G],?_,?_⟩
 rw [yM,n,yC (by omega)];omega
 rw [B,zA d]
 exact yG E a0
 refine qG J N fun P5 w N a J=>?_
 refine qN 5 pR J N (fun O2 w N a J=>?_)
 rw [<- qO] at N
 refine qN 6 wN J N (fun P2 w N a J=>?_)
 refine Sto 11 J N fun w N a J=>?_
 refine Sto 12 J N fun w N a J=>?_
 refine go J N fun a J=>?_
 replace N:=N.ar [4,3,2,1,0] [8,8,8,8,8,8,8,7,8]
 refine A _ _ _ (by subst F;omega) ⟨(B0),(i+1),(O2),((cl++[((g1 - M:Nat):Int)])),(P2),((cs++[.string f.con,.int .i64 (f.num),.slice w0 f.args.length m0])),(xs++[f]),(M),rfl,⟨J.pk,by exact N⟩,?_⟩
 refine ⟨(b).trans v,?_⟩
 refine ⟨hch.snoc rfl W,by simp [H],by omega,by omega,by simp [G],?_,?_⟩
 rw [yM,n,yC (by omega)];omega
 rw [B,zA d]
 exact yG E a0
 refine d_e J rfl rfl rfl (pY (qU 0 (vs:=[.string f.con,.int .i64 (f.num),.slice w0 f.args.length m0]) J N.toSees rfl rfl isAgg42 sizeOf42 rfl rfl) ⟨fun _=>N.sn (Fz.Le.refl _),fun a J=>?_⟩)
 refine aR ?_ ?_
 refine qG J N fun Q5 w N a J=>?_
 refine aR ?_ ?_
 refine qN 4 pR J N (fun Q2 w N a J=>?_)
 rw [<- qO] at N
 refine qG J N fun R5 w N a J=>?_
 refine qN 6 wN J N (fun R2 w N a J=>?_)
 refine Sto 11 J N fun w N a J=>?_
 refine Sto 12 J N fun w N a J=>?_
 refine go J N fun a J=>?_
 replace N:=N.ar [4,3,2,1,0] [8,8,8,8,8,8,8,7,8]
 refine A _ _ _ (by subst F;omega) ⟨(B0),(i+1),(Q2),((cl++[((g1 - M:Nat):Int)])),(R2),((cs++[.string f.con,.int .i64 (f.num),.slice w0 f.args.length m0])),(xs++[f]),(M),rfl,⟨J.pk,by exact N⟩,?_⟩
 refine ⟨(b).trans v,?_⟩
 refine ⟨hch.snoc rfl W,by simp [H],by omega,by omega,by simp [G],?_,?_⟩
 rw [yM,n,yC (by omega)];omega
 rw [B,zA d]
 exact yG E a0
 refine qG J N fun S5 w N a J=>?_
 refine qN 5 pR J N (fun S2 w N a J=>?_)
 rw [<- qO] at N
 refine qN 6 wN J N (fun T2 w N a J=>?_)
 refine Sto 11 J N fun w N a J=>?_
 refine Sto 12 J N fun w N a J=>?_
 refine go J N fun a J=>?_
 replace N:=N.ar [4,3,2,1,0] [8,8,8,8,8,8,8,7,8]
 refine A _ _ _ (by subst F;omega) ⟨(B0),(i+1),(S2),((cl++[((g1 - M:Nat):Int)])),(T2),((cs++[.string f.con,.int .i64 (f.num),.slice w0 f.args.length m0])),(xs++[f]),(M),rfl,⟨J.pk,by exact N⟩,?_⟩
 refine ⟨(b).trans v,?_⟩
 refine ⟨hch.snoc rfl W,by simp [H],by omega,by omega,by simp [G],?_,?_⟩
 rw [yM,n,yC (by omega)];omega
 rw [B,zA d]
 exact yG E a0
 refine qG J N fun T5 w N a J=>?_
 refine qG J N fun U5 w N a J=>?_
 refine qN 5 pR J N (fun U2 w N a J=>?_)
 rw [<- qO] at N
 refine qN 6 wN J N (fun V2 w N a J=>?_)
 refine Sto 11 J N fun w N a J=>?_
 refine Sto 12 J N fun w N a J=>?_
 refine go J N fun a J=>?_
 replace N:=N.ar [4,3,2,1,0] [8,8,8,8,8,8,8,7,8]
 refine A _ _ _ (by subst F;omega) ⟨(B0),(i+1),(U2),((cl++[((g1 - M:Nat):Int)])),(V2),((cs++[.string f.con,.int .i64 (f.num),.slice w0 f.args.length m0])),(xs++[f]),(M),rfl,⟨J.pk,by exact N⟩,?_⟩
 refine ⟨(b).trans v,?_⟩
 refine ⟨hch.snoc rfl W,by simp [H],by omega,by omega,by simp [G],?_,?_⟩
 rw [yM,n,yC (by omega)];omega
 rw [B,zA d]
 exact yG E a0
 have A1:=vC Y0 q0
 replace N:=N.dl [10,9,8,7,6,5,4,3,2,1,0]
 exact z4u (tR (by rw [B,zA d];exact gN E A1)) ⟨.inr ⟨rfl,rfl⟩,N.le (b)⟩
 refine Alc J N fun R4 w N a J=>?_
 have r0:=h1
 rw [B,zA d,cK E] at r0
 replace r0:=jQ (r:=xY (qM ⟨T.funs,inp⟩) L0 [] g1) (jQ r0)
 replace N:=N.pl 3
 refine xQ hQ call48 J N (fun J1 L3 w Z0 S1 N a J=>?_) (fun J1 w Z0 N=>?_) (c:=z0k hF g1 A0 rG H0 (SliceOf.nil 3) (hF _ _ E).1 (hF _ _ E).2 (Nat.le_refl _) (by omega) r0 N)
 obtain ⟨g,P⟩:=J1
 obtain ⟨C0,a5⟩:=L3
 obtain ⟨z,X⟩:=S1
 have c0:=wP Z0
 simp only at z X N J c0
 have Q3:=cY c0
 replace i0:=i0.up z
 replace L:=RCore.mono _ _ _ _ z L
 replace A0:=A0.mono z
 replace rG:=RGiven.mono z rG
 replace t:=t.mono z
 replace G0:=G0.mono z
 replace j0:=j0.up z
 replace hch:=hch.mono fun _ _ h=>RVal.mono _ _ _ _ z h
 replace F0:=F0.mono z
 replace H0:=RFun.mono _ _ _ _ z H0
 replace Q0:=REx.mono _ _ _ _ z Q0
 replace N:=N.nf
 obtain ⟨x0,n0,rfl,Z3,i5,n4,B4⟩:=RVal.fm X
 refine Sto 1 J N fun w N a J=>?_
 refine go J N fun a J=>?_
 refine yZ [2,2,0,0,2,0,0,0,0,0] (.q 0 (.q 1 (.q 4 (.e2 2 5 (.e2 3 5 (.e 5 (.e 6 (.e 7 (.e 8 (.e 9 (.done)))))) (.e2 3 6 (.e 6 (.e 7 (.e 8 (.e 9 (.done))))) (.e 3 (.e 7 (.e 8 (.e 9 (.done))))))) (.e2 2 6 (.e2 3 6 (.e 6 (.e 7 (.e 8 (.e 9 (.done))))) (.e 3 (.e 7 (.e 8 (.e 9 (.done)))))) (.e 2 (.e 3 (.e 7 (.e 8 (.e 9 (.done))))))))))) [0,1,2,5,6,7,8,9,10,11] J N fun w N=>?_
 refine go J N fun a J=>?_
 refine aR ?_ ?_
 refine qG J N fun V5 w N a J=>?_
 refine aR ?_ ?_
 refine qN 4 pR J N (fun W2 w N a J=>?_)
 rw [<- qO] at N
 refine d_e J rfl rfl rfl (pY (qU 2 (vs:=[.string g.con,.int .i64 (g.num),.slice x0 g.args.length n0]) J N.toSees rfl rfl isAgg42 sizeOf42 rfl rfl) ⟨fun _=>N.sn (Fz.Le.refl _),fun a J=>?_⟩)
 refine qG J N fun W5 w N a J=>?_
 refine qN 6 wN J N (fun X2 w N a J=>?_)
 refine Sto 11 J N fun w N a J=>?_
 refine Sto 12 J N fun w N a J=>?_
 refine go J N fun a J=>?_
 replace N:=N.ar [4,3,2,1,0] [8,8,8,8,8,8,8,7,8]
 refine A _ _ _ (by subst F;omega) ⟨(C0),(i+1),(W2),((cl++[((g1 - P:Nat):Int)])),(X2),((cs++[.string g.con,.int .i64 (g.num),.slice x0 g.args.length n0])),(xs++[g]),(P),rfl,⟨J.pk,by exact N⟩,?_⟩
 refine ⟨(b).trans z,?_⟩
 refine ⟨hch.snoc rfl X,by simp [H],by omega,by omega,by simp [G],?_,?_⟩
 rw [yM,n,yC (by omega)];omega
 rw [B,zA d]
 exact yG E c0
 refine d_e J rfl rfl rfl (pY (qU 2 (vs:=[.string g.con,.int .i64 (g.num),.slice x0 g.args.length n0]) J N.toSees rfl rfl isAgg42 sizeOf42 rfl rfl) ⟨fun _=>N.sn (Fz.Le.refl _),fun a J=>?_⟩)
 refine aR ?_ ?_
 refine qN 4 pR J N (fun Y2 w N a J=>?_)
 rw [<- qO] at N
 refine qG J N fun X5 w N a J=>?_
 refine qN 6 wN J N (fun Z2 w N a J=>?_)
 refine Sto 11 J N fun w N a J=>?_
 refine Sto 12 J N fun w N a J=>?_
 refine go J N fun a J=>?_
 replace N:=N.ar [4,3,2,1,0] [8,8,8,8,8,8,8,7,8]
 refine A _ _ _ (by subst F;omega) ⟨(C0),(i+1),(Y2),((cl++[((g1 - P:Nat):Int)])),(Z2),((cs++[.string g.con,.int .i64 (g.num),.slice x0 g.args.length n0])),(xs++[g]),(P),rfl,⟨J.pk,by exact N⟩,?_⟩
 refine ⟨(b).trans z,?_⟩
 refine ⟨hch.snoc rfl X,by simp [H],by omega,by omega,by simp [G],?_,?_⟩
 rw [yM,n,yC (by omega)];omega
 rw [B,zA d]
 exact yG E c0
 refine qG J N fun Y5 w N a J=>?_
 refine qN 5 pR J N (fun a3 w N a J=>?_)
 rw [<- qO] at N
 refine qN 6 wN J N (fun d3 w N a J=>?_)
 refine Sto 11 J N fun w N a J=>?_
 refine Sto 12 J N fun w N a J=>?_
 refine go J N fun a J=>?_
 replace N:=N.ar [4,3,2,1,0] [8,8,8,8,8,8,8,7,8]
 refine A _ _ _ (by subst F;omega) ⟨(C0),(i+1),(a3),((cl++[((g1 - P:Nat):Int)])),(d3),((cs++[.string g.con,.int .i64 (g.num),.slice x0 g.args.length n0])),(xs++[g]),(P),rfl,⟨J.pk,by exact N⟩,?_⟩
 refine ⟨(b).trans z,?_⟩
 refine ⟨hch.snoc rfl X,by simp [H],by omega,by omega,by simp [G],?_,?_⟩
 rw [yM,n,yC (by omega)];omega
 rw [B,zA d]
 exact yG E c0
 refine d_e J rfl rfl rfl (pY (qU 1 (vs:=[.string g.con,.int .i64 (g.num),.slice x0 g.args.length n0]) J N.toSees rfl rfl isAgg42 sizeOf42 rfl rfl) ⟨fun _=>N.sn (Fz.Le.refl _),fun a J=>?_⟩)
 refine aR ?_ ?_
 refine qG J N fun Z5 w N a J=>?_
 refine aR ?_ ?_
 refine qN 4 pR J N (fun e3 w N a J=>?_)
 rw [<- qO] at N
 refine qG J N fun a6 w N a J=>?_
 refine qN 6 wN J N (fun f3 w N a J=>?_)
 refine Sto 11 J N fun w N a J=>?_
 refine Sto 12 J N fun w N a J=>?_
 refine go J N fun a J=>?_
 replace N:=N.ar [4,3,2,1,0] [8,8,8,8,8,8,8,7,8]
 refine A _ _ _ (by subst F;omega) ⟨(C0),(i+1),(e3),((cl++[((g1 - P:Nat):Int)])),(f3),((cs++[.string g.con,.int .i64 (g.num),.slice x0 g.args.length n0])),(xs++[g]),(P),rfl,⟨J.pk,by exact N⟩,?_⟩
 refine ⟨(b).trans z,?_⟩
 refine ⟨hch.snoc rfl X,by simp [H],by omega,by omega,by simp [G],?_,?_⟩
 rw [yM,n,yC (by omega)];omega
 rw [B,zA d]
 exact yG E c0
 refine qG J N fun c6 w N a J=>?_
 refine qN 5 pR J N (fun g3 w N a J=>?_)
 rw [<- qO] at N
 refine qN 6 wN J N (fun h3 w N a J=>?_)
 refine Sto 11 J N fun w N a J=>?_
 refine Sto 12 J N fun w N a J=>?_
 refine go J N fun a J=>?_
 replace N:=N.ar [4,3,2,1,0] [8,8,8,8,8,8,8,7,8]
 refine A _ _ _ (by subst F;omega) ⟨(C0),(i+1),(g3),((cl++[((g1 - P:Nat):Int)])),(h3),((cs++[.string g.con,.int .i64 (g.num),.slice x0 g.args.length n0])),(xs++[g]),(P),rfl,⟨J.pk,by exact N⟩,?_⟩
 refine ⟨(b).trans z,?_⟩
 refine ⟨hch.snoc rfl X,by simp [H],by omega,by omega,by simp [G],?_,?_⟩
 rw [yM,n,yC (by omega)];omega
 rw [B,zA d]
 exact yG E c0
 refine qG J N fun d6 w N a J=>?_
 refine qG J N fun e6 w N a J=>?_
 refine qN 5 pR J N (fun i3 w N a J=>?_)
 rw [<- qO] at N
 refine qN 6 wN J N (fun j3 w N a J=>?_)
 refine Sto 11 J N fun w N a J=>?_
 refine Sto 12 J N fun w N a J=>?_
 refine go J N fun a J=>?_
 replace N:=N.ar [4,3,2,1,0] [8,8,8,8,8,8,8,7,8]
 refine A _ _ _ (by subst F;omega) ⟨(C0),(i+1),(i3),((cl++[((g1 - P:Nat):Int)])),(j3),((cs++[.string g.con,.int .i64 (g.num),.slice x0 g.args.length n0])),(xs++[g]),(P),rfl,⟨J.pk,by exact N⟩,?_⟩
 refine ⟨(b).trans z,?_⟩
 refine ⟨hch.snoc rfl X,by simp [H],by omega,by omega,by simp [G],?_,?_⟩
 rw [yM,n,yC (by omega)];omega
 rw [B,zA d]
 exact yG E c0
 have B1:=vC Z0 r0
 replace N:=N.dl [11,10,9,8,7,6,5,4,3,2,1,0]
 exact z4u (tR (by rw [B,zA d];exact gN E B1)) ⟨.inr ⟨rfl,rfl⟩,N.le (b)⟩
 refine Alc J N fun n2 w N a J=>?_
 replace N:=N.pl 3
 refine zS call47 J N (fun w N a J=>?_) (c:=y5h (l:=cl) (by omega) N)
 refine Qq J N (fun a J=>?_) (o:=by exact fun _ _ _ J O=>vT ((g1:Nat):Int) J rfl rfl (by rw [n,yC (by omega)];omega))
 refine Qq J N (fun a J=>?_) (o:=by exact fun _ _ _ J O=>z2u (vs:=[(0,.pointer (some p)),(1,mg),(2,.pointer (some ⟨K0,0,none⟩)),(3,.int .i64 ((g1:Nat):Int))]) (cs:=[.pointer (some p),mg,.pointer (some ⟨K0,0,none⟩),.int .i64 ((g1:Nat):Int)]) J rfl (by rcases rG with ⟨_,_,h_,_⟩ | ⟨h_,_⟩ <;> rw [h_] <;> kernel_rfl))
 refine y6r J rfl rfl (jE 1 (cs:=[.pointer none,.map none,.pointer none,.int .i64 ((0:Nat):Int)]) (vs:=[.pointer (some p),mg,.pointer (some ⟨K0,0,none⟩),.int .i64 ((g1:Nat):Int)]) J N rfl rfl rfl rfl sizeOf99 rfl (by simp only [List.all_cons,RGiven.one rG];rfl) rfl fun w N=>⟨dG (by kernel_rfl),fun a J=>?_⟩)
 replace N:=N.nf
 refine go J N fun a J=>?_
 refine yZ [2,2,1,1,2,1,2,0,0,0] (.q 0 (.q 1 (.q 2 (.q 3 (.q 4 (.q 5 (.q 6 (.e2 7 8 (.e 8 (.e 9 (.done))) (.e 7 (.e 9 (.done))))))))))) [0,1,3,4,5,6,7,8,9,10] J N fun w N=>?_
 replace N:Mem M0 (.gs (u) 3 1 (z2w cl)::.blk n2 (ob [.pointer (some p),mg,.pointer (some ⟨K0,0,none⟩),.int .i64 ((g1:Nat):Int)] 99)::.blk K0 (ob [.int .i64 ((g1 - g1:Nat):Int)] 3)::.gs (uv) 42 3 cs::.blk b0 (ob [.slice p3 c.datas.length c4,.slice p9 c.inputs.length O1,.slice f2 c.funs.length P1,.slice (some K2) c.outputs.length c22] 27)::.blk b1 (ob [.pointer (some p)] 89)::.blk b2 (ob [mg] 94)::.blk b3 (ob [.int .i64 ((fuel:Nat):Int)] 3)::.blk b4 (ob [u] 93)::.blk b5 (ob [uv] 38)::.blk b6 (ob [.slice none 0 0,.int .i64 ((0:Nat):Int)] 30)::K) w:=by rw [Nat.sub_self];exact N
 refine go J N fun a J=>?_
 rcases X0:yO (x1) u1 with _ | N4
 exact absurd (by rw [B,zA d,y3w (MapRel.none j0 X0)];rfl) h1
 obtain ⟨k0,s,U3,rfl,l0⟩:=j0.get X0
 obtain ⟨N5,S4,rfl,z2,R0⟩:=id l0
 obtain ⟨F2,s2,rfl,o4,C4⟩:=z2.fm
 obtain ⟨G2,t2,H2,u2,rfl,a4,j5,k5,p4,D4,q4,E4⟩:=REx.fm R0
 have y1:=congrArg (zK false (.agg #[.string ⟨#[]⟩,.slice none 0 0,.string ⟨#[]⟩,.int .i64 ((0:Nat):Int),.int .i64 ((0:Nat):Int),.string ⟨#[]⟩,.slice none 0 0,.slice none 0 0])) X0
 refine Qq J N (fun a J=>?_) (o:=by exact fun _ _ _ J O=>Ok.cast (zY runUnderlying103 runUnderlying9 zeroValue68 J O rfl rfl G0) (show zK false (.agg #[.string ⟨#[]⟩,.slice none 0 0,.string ⟨#[]⟩,.int .i64 ((0:Nat):Int),.int .i64 ((0:Nat):Int),.string ⟨#[]⟩,.slice none 0 0,.slice none 0 0]) (yO (x1) u1)=.agg #[.string k0.name,.slice F2 k0.params.length s2,.string k0.result,.int .i64 (k0.body.kind),.int .i64 (k0.body.num),.string k0.body.name,.slice G2 k0.body.args.length t2,.slice H2 k0.body.arms.length u2] from y1))
 refine aR ?_ ?_
 have s0:=h1
 rw [B,zA d,cK s] at s0
 replace s0:=jQ (r:=xY (qM ⟨T.funs,inp⟩) k0 [] g1) (jQ s0)
 replace N:=N.pl 2
 refine xQ hQ call48 J N (fun K1 M3 w a1 T1 N a J=>?_) (fun K1 w a1 N=>?_) (c:=z0k hF g1 A0 rG l0 (SliceOf.nil 3) (hF _ _ s).1 (hF _ _ s).2 (Nat.le_refl _) (by omega) s0 N)
 obtain ⟨j,S⟩:=K1
 obtain ⟨D0,c5⟩:=M3
 obtain ⟨C,Y⟩:=T1
 have e0:=wP a1
 simp only at C Y N J e0
 have R3:=cY e0
 replace i0:=i0.up C
 replace L:=RCore.mono _ _ _ _ C L
 replace A0:=A0.mono C
 replace rG:=RGiven.mono C rG
 replace t:=t.mono C
 replace hch:=hch.mono fun _ _ h=>RVal.mono _ _ _ _ C h
 replace F0:=F0.mono C
 replace l0:=RFun.mono _ _ _ _ C l0
 replace R0:=REx.mono _ _ _ _ C R0
 replace N:=N.nf
 obtain ⟨y0,o0,rfl,d4,l5,r4,F4⟩:=RVal.fm Y
 refine Alc J N fun T4 w N a J=>?_
 refine Sto 0 J N fun w N a J=>?_
 refine go J N fun a J=>?_
 refine yZ [2,2,0,0,2,0,0,0,0,0] (.q 0 (.q 1 (.q 4 (.e2 2 5 (.e2 3 5 (.e 5 (.e 6 (.e 7 (.e 8 (.e 9 (.done)))))) (.e2 3 6 (.e 6 (.e 7 (.e 8 (.e 9 (.done))))) (.e 3 (.e 7 (.e 8 (.e 9 (.done))))))) (.e2 2 6 (.e2 3 6 (.e 6 (.e 7 (.e 8 (.e 9 (.done))))) (.e 3 (.e 7 (.e 8 (.e 9 (.done)))))) (.e 2 (.e 3 (.e 7 (.e 8 (.e 9 (.done))))))))))) [0,1,3,5,6,7,8,9,10,11] J N fun w N=>?_
 refine go J N fun a J=>?_
 refine aR ?_ ?_
 refine qG J N fun f6 w N a J=>?_
 refine aR ?_ ?_
 refine qN 3 pR J N (fun k3 w N a J=>?_)
 rw [<- qO] at N
 refine d_e J rfl rfl rfl (pY (qU 1 (vs:=[.string j.con,.int .i64 (j.num),.slice y0 j.args.length o0]) J N.toSees rfl rfl isAgg42 sizeOf42 rfl rfl) ⟨fun _=>N.sn (Fz.Le.refl _),fun a J=>?_⟩)
 refine qG J N fun g6 w N a J=>?_
 refine qN 6 wN J N (fun l3 w N a J=>?_)
 refine Sto 11 J N fun w N a J=>?_
 refine Sto 12 J N fun w N a J=>?_
 refine go J N fun a J=>?_
 replace N:=N.ar [5,3,2,1,0] [8,8,8,8,8,8,8,7,8]
 refine A _ _ _ (by subst F;omega) ⟨(D0),(i+1),(k3),((cl++[((g1 - S:Nat):Int)])),(l3),((cs++[.string j.con,.int .i64 (j.num),.slice y0 j.args.length o0])),(xs++[j]),(S),rfl,⟨J.pk,by exact N⟩,?_⟩
 refine ⟨(b).trans C,?_⟩
 refine ⟨hch.snoc rfl Y,by simp [H],by omega,by omega,by simp [G],?_,?_⟩
 rw [yM,n,yC (by omega)];omega
 rw [B,zA d]
 exact yG s e0
 refine d_e J rfl rfl rfl (pY (qU 1 (vs:=[.string j.con,.int .i64 (j.num),.slice y0 j.args.length o0]) J N.toSees rfl rfl isAgg42 sizeOf42 rfl rfl) ⟨fun _=>N.sn (Fz.Le.refl _),fun a J=>?_⟩)
 refine aR ?_ ?_
 refine qN 3 pR J N (fun m3 w N a J=>?_)
 rw [<- qO] at N
 refine qG J N fun h6 w N a J=>?_
 refine qN 6 wN J N (fun n3 w N a J=>?_)
 refine Sto 11 J N fun w N a J=>?_
 refine Sto 12 J N fun w N a J=>?_
 refine go J N fun a J=>?_
 replace N:=N.ar [5,3,2,1,0] [8,8,8,8,8,8,8,7,8]
 refine A _ _ _ (by subst F;omega) ⟨(D0),(i+1),(m3),((cl++[((g1 - S:Nat):Int)])),(n3),((cs++[.string j.con,.int .i64 (j.num),.slice y0 j.args.length o0])),(xs++[j]),(S),rfl,⟨J.pk,by exact N⟩,?_⟩
 refine ⟨(b).trans C,?_⟩
 refine ⟨hch.snoc rfl Y,by simp [H],by omega,by omega,by simp [G],?_,?_⟩
 rw [yM,n,yC (by omega)];omega
 rw [B,zA d]
 exact yG s e0
 refine qG J N fun i6 w N a J=>?_
 refine qN 4 pR J N (fun o3 w N a J=>?_)
 rw [<- qO] at N
 refine qN 6 wN J N (fun q3 w N a J=>?_)
 refine Sto 11 J N fun w N a J=>?_
 refine Sto 12 J N fun w N a J=>?_
 refine go J N fun a J=>?_
 replace N:=N.ar [5,3,2,1,0] [8,8,8,8,8,8,8,7,8]
 refine A _ _ _ (by subst F;omega) ⟨(D0),(i+1),(o3),((cl++[((g1 - S:Nat):Int)])),(q3),((cs++[.string j.con,.int .i64 (j.num),.slice y0 j.args.length o0])),(xs++[j]),(S),rfl,⟨J.pk,by exact N⟩,?_⟩
 refine ⟨(b).trans C,?_⟩
 refine ⟨hch.snoc rfl Y,by simp [H],by omega,by omega,by simp [G],?_,?_⟩
 rw [yM,n,yC (by omega)];omega
 rw [B,zA d]
 exact yG s e0
 refine d_e J rfl rfl rfl (pY (qU 0 (vs:=[.string j.con,.int .i64 (j.num),.slice y0 j.args.length o0]) J N.toSees rfl rfl isAgg42 sizeOf42 rfl rfl) ⟨fun _=>N.sn (Fz.Le.refl _),fun a J=>?_⟩)
 refine aR ?_ ?_
 refine qG J N fun j6 w N a J=>?_
 refine aR ?_ ?_
 refine qN 3 pR J N (fun r3 w N a J=>?_)
 rw [<- qO] at N
 refine qG J N fun k6 w N a J=>?_
 refine qN 6 wN J N (fun s3 w N a J=>?_)
 refine Sto 11 J N fun w N a J=>?_
 refine Sto 12 J N fun w N a J=>?_
 refine go J N fun a J=>?_
 replace N:=N.ar [5,3,2,1,0] [8,8,8,8,8,8,8,7,8]
 refine A _ _ _ (by subst F;omega) ⟨(D0),(i+1),(r3),((cl++[((g1 - S:Nat):Int)])),(s3),((cs++[.string j.con,.int .i64 (j.num),.slice y0 j.args.length o0])),(xs++[j]),(S),rfl,⟨J.pk,by exact N⟩,?_⟩
 refine ⟨(b).trans C,?_⟩
 refine ⟨hch.snoc rfl Y,by simp [H],by omega,by omega,by simp [G],?_,?_⟩
 rw [yM,n,yC (by omega)];omega
 rw [B,zA d]
 exact yG s e0
 refine qG J N fun l6 w N a J=>?_
 refine qN 4 pR J N (fun t3 w N a J=>?_)
 rw [<- qO] at N
 refine qN 6 wN J N (fun u3 w N a J=>?_)
 refine Sto 11 J N fun w N a J=>?_
 refine Sto 12 J N fun w N a J=>?_
 refine go J N fun a J=>?_
 replace N:=N.ar [5,3,2,1,0] [8,8,8,8,8,8,8,7,8]
 refine A _ _ _ (by subst F;omega) ⟨(D0),(i+1),(t3),((cl++[((g1 - S:Nat):Int)])),(u3),((cs++[.string j.con,.int .i64 (j.num),.slice y0 j.args.length o0])),(xs++[j]),(S),rfl,⟨J.pk,by exact N⟩,?_⟩
 refine ⟨(b).trans C,?_⟩
 refine ⟨hch.snoc rfl Y,by simp [H],by omega,by omega,by simp [G],?_,?_⟩
 rw [yM,n,yC (by omega)];omega
 rw [B,zA d]
 exact yG s e0
 refine qG J N fun m6 w N a J=>?_
 refine qG J N fun n6 w N a J=>?_
 refine qN 4 pR J N (fun v3 w N a J=>?_)
 rw [<- qO] at N
 refine qN 6 wN J N (fun w3 w N a J=>?_)
 refine Sto 11 J N fun w N a J=>?_
 refine Sto 12 J N fun w N a J=>?_
 refine go J N fun a J=>?_
 replace N:=N.ar [5,3,2,1,0] [8,8,8,8,8,8,8,7,8]
 refine A _ _ _ (by subst F;omega) ⟨(D0),(i+1),(v3),((cl++[((g1 - S:Nat):Int)])),(w3),((cs++[.string j.con,.int .i64 (j.num),.slice y0 j.args.length o0])),(xs++[j]),(S),rfl,⟨J.pk,by exact N⟩,?_⟩
 refine ⟨(b).trans C,?_⟩
 refine ⟨hch.snoc rfl Y,by simp [H],by omega,by omega,by simp [G],?_,?_⟩
 rw [yM,n,yC (by omega)];omega
 rw [B,zA d]
 exact yG s e0
 have C1:=vC a1 s0
 replace N:=N.dl [10,9,8,7,6,5,4,3,2,1,0]
 exact z4u (tR (by rw [B,zA d];exact gN s C1)) ⟨.inr ⟨rfl,rfl⟩,N.le (b)⟩
 refine Alc J N fun U4 w N a J=>?_
 have t0:=h1
 rw [B,zA d,cK s] at t0
 replace t0:=jQ (r:=xY (qM ⟨T.funs,inp⟩) k0 [] g1) (jQ t0)
 replace N:=N.pl 3
 refine xQ hQ call48 J N (fun L1 N3 w c1 U1 N a J=>?_) (fun L1 w c1 N=>?_) (c:=z0k hF g1 A0 rG l0 (SliceOf.nil 3) (hF _ _ s).1 (hF _ _ s).2 (Nat.le_refl _) (by omega) t0 N)
 obtain ⟨m,U⟩:=L1
 obtain ⟨E0,d5⟩:=N3
 obtain ⟨D,Z⟩:=U1
 have f0:=wP c1
 simp only at D Z N J f0
 have S3:=cY f0
 replace i0:=i0.up D
 replace L:=RCore.mono _ _ _ _ D L
 replace rG:=RGiven.mono D rG
 replace t:=t.mono D
 replace hch:=hch.mono fun _ _ h=>RVal.mono _ _ _ _ D h
 replace F0:=F0.mono D
 replace l0:=RFun.mono _ _ _ _ D l0
 replace R0:=REx.mono _ _ _ _ D R0
 replace N:=N.nf
 obtain ⟨z0,p0,rfl,e4,m5,s4,G4⟩:=RVal.fm Z
 refine Sto 1 J N fun w N a J=>?_
 refine go J N fun a J=>?_
 refine yZ [2,2,0,0,2,0,0,0,0,0] (.q 0 (.q 1 (.q 4 (.e2 2 5 (.e2 3 5 (.e 5 (.e 6 (.e 7 (.e 8 (.e 9 (.done)))))) (.e2 3 6 (.e 6 (.e 7 (.e 8 (.e 9 (.done))))) (.e 3 (.e 7 (.e 8 (.e 9 (.done))))))) (.e2 2 6 (.e2 3 6 (.e 6 (.e 7 (.e 8 (.e 9 (.done))))) (.e 3 (.e 7 (.e 8 (.e 9 (.done)))))) (.e 2 (.e 3 (.e 7 (.e 8 (.e 9 (.done))))))))))) [0,1,3,5,6,7,8,9,10,11] J N fun w N=>?_
 refine go J N fun a J=>?_
 refine aR ?_ ?_
 refine qG J N fun o6 w N a J=>?_
 refine aR ?_ ?_
 refine qN 3 pR J N (fun x3 w N a J=>?_)
 rw [<- qO] at N
 refine d_e J rfl rfl rfl (pY (qU 2 (vs:=[.string m.con,.int .i64 (m.num),.slice z0 m.args.length p0]) J N.toSees rfl rfl isAgg42 sizeOf42 rfl rfl) ⟨fun _=>N.sn (Fz.Le.refl _),fun a J=>?_⟩)
 refine qG J N fun p6 w N a J=>?_
 refine qN 6 wN J N (fun y3 w N a J=>?_)
 refine Sto 11 J N fun w N a J=>?_
 refine Sto 12 J N fun w N a J=>?_
 refine go J N fun a J=>?_
 replace N:=N.ar [5,3,2,1,0] [8,8,8,8,8,8,8,7,8]
 refine A _ _ _ (by subst F;omega) ⟨(E0),(i+1),(x3),((cl++[((g1 - U:Nat):Int)])),(y3),((cs++[.string m.con,.int .i64 (m.num),.slice z0 m.args.length p0])),(xs++[m]),(U),rfl,⟨J.pk,by exact N⟩,?_⟩
 refine ⟨(b).trans D,?_⟩
 refine ⟨hch.snoc rfl Z,by simp [H],by omega,by omega,by simp [G],?_,?_⟩
 rw [yM,n,yC (by omega)];omega
 rw [B,zA d]
 exact yG s f0
 refine d_e J rfl rfl rfl (pY (qU 2 (vs:=[.string m.con,.int .i64 (m.num),.slice z0 m.args.length p0]) J N.toSees rfl rfl isAgg42 sizeOf42 rfl rfl) ⟨fun _=>N.sn (Fz.Le.refl _),fun a J=>?_⟩)
 refine aR ?_ ?_
 refine qN 3 pR J N (fun z3 w N a J=>?_)
 rw [<- qO] at N
 refine qG J N fun q6 w N a J=>?_
 refine qN 6 wN J N (fun A3 w N a J=>?_)
 refine Sto 11 J N fun w N a J=>?_
 refine Sto 12 J N fun w N a J=>?_
 refine go J N fun a J=>?_
 replace N:=N.ar [5,3,2,1,0] [8,8,8,8,8,8,8,7,8]
 refine A _ _ _ (by subst F;omega) ⟨(E0),(i+1),(z3),((cl++[((g1 - U:Nat):Int)])),(A3),((cs++[.string m.con,.int .i64 (m.num),.slice z0 m.args.length p0])),(xs++[m]),(U),rfl,⟨J.pk,by exact N⟩,?_⟩
 refine ⟨(b).trans D,?_⟩
 refine ⟨hch.snoc rfl Z,by simp [H],by omega,by omega,by simp [G],?_,?_⟩
 rw [yM,n,yC (by omega)];omega
 rw [B,zA d]
 exact yG s f0
 refine qG J N fun r6 w N a J=>?_
 refine qN 4 pR J N (fun B3 w N a J=>?_)
 rw [<- qO] at N
 refine qN 6 wN J N (fun C3 w N a J=>?_)
 refine Sto 11 J N fun w N a J=>?_
 refine Sto 12 J N fun w N a J=>?_
 refine go J N fun a J=>?_
 replace N:=N.ar [5,3,2,1,0] [8,8,8,8,8,8,8,7,8]
 refine A _ _ _ (by subst F;omega) ⟨(E0),(i+1),(B3),((cl++[((g1 - U:Nat):Int)])),(C3),((cs++[.string m.con,.int .i64 (m.num),.slice z0 m.args.length p0])),(xs++[m]),(U),rfl,⟨J.pk,by exact N⟩,?_⟩
 refine ⟨(b).trans D,?_⟩
 refine ⟨hch.snoc rfl Z,by simp [H],by omega,by omega,by simp [G],?_,?_⟩
 rw [yM,n,yC (by omega)];omega
 rw [B,zA d]
 exact yG s f0
 refine d_e J rfl rfl rfl (pY (qU 1 (vs:=[.string m.con,.int .i64 (m.num),.slice z0 m.args.length p0]) J N.toSees rfl rfl isAgg42 sizeOf42 rfl rfl) ⟨fun _=>N.sn (Fz.Le.refl _),fun a J=>?_⟩)
 refine aR ?_ ?_
 refine qG J N fun s6 w N a J=>?_
 refine aR ?_ ?_
 refine qN 3 pR J N (fun D3 w N a J=>?_)
 rw [<- qO] at N
 refine qG J N fun t6 w N a J=>?_
 refine qN 6 wN J N (fun E3 w N a J=>?_)
 refine Sto 11 J N fun w N a J=>?_
 refine Sto 12 J N fun w N a J=>?_
 refine go J N fun a J=>?_
 replace N:=N.ar [5,3,2,1,0] [8,8,8,8,8,8,8,7,8]
 refine A _ _ _ (by subst F;omega) ⟨(E0),(i+1),(D3),((cl++[((g1 - U:Nat):Int)])),(E3),((cs++[.string m.con,.int .i64 (m.num),.slice z0 m.args.length p0])),(xs++[m]),(U),rfl,⟨J.pk,by exact N⟩,?_⟩
 refine ⟨(b).trans D,?_⟩
 refine ⟨hch.snoc rfl Z,by simp [H],by omega,by omega,by simp [G],?_,?_⟩
 rw [yM,n,yC (by omega)];omega
 rw [B,zA d]
 exact yG s f0
 refine qG J N fun u6 w N a J=>?_
 refine qN 4 pR J N (fun F3 w N a J=>?_)
 rw [<- qO] at N
 refine qN 6 wN J N (fun G3 w N a J=>?_)
 refine Sto 11 J N fun w N a J=>?_
 refine Sto 12 J N fun w N a J=>?_
 refine go J N fun a J=>?_
 replace N:=N.ar [5,3,2,1,0] [8,8,8,8,8,8,8,7,8]
 refine A _ _ _ (by subst F;omega) ⟨(E0),(i+1),(F3),((cl++[((g1 - U:Nat):Int)])),(G3),((cs++[.string m.con,.int .i64 (m.num),.slice z0 m.args.length p0])),(xs++[m]),(U),rfl,⟨J.pk,by exact N⟩,?_⟩
 refine ⟨(b).trans D,?_⟩
 refine ⟨hch.snoc rfl Z,by simp [H],by omega,by omega,by simp [G],?_,?_⟩
 rw [yM,n,yC (by omega)];omega
 rw [B,zA d]
 exact yG s f0
 refine qG J N fun v6 w N a J=>?_
 refine qG J N fun w6 w N a J=>?_
 refine qN 4 pR J N (fun H3 w N a J=>?_)
 rw [<- qO] at N
 refine qN 6 wN J N (fun I3 w N a J=>?_)
 refine Sto 11 J N fun w N a J=>?_
 refine Sto 12 J N fun w N a J=>?_
 refine go J N fun a J=>?_
 replace N:=N.ar [5,3,2,1,0] [8,8,8,8,8,8,8,7,8]
 refine A _ _ _ (by subst F;omega) ⟨(E0),(i+1),(H3),((cl++[((g1 - U:Nat):Int)])),(I3),((cs++[.string m.con,.int .i64 (m.num),.slice z0 m.args.length p0])),(xs++[m]),(U),rfl,⟨J.pk,by exact N⟩,?_⟩
 refine ⟨(b).trans D,?_⟩
 refine ⟨hch.snoc rfl Z,by simp [H],by omega,by omega,by simp [G],?_,?_⟩
 rw [yM,n,yC (by omega)];omega
 rw [B,zA d]
 exact yG s f0
 have D1:=vC c1 t0
 replace N:=N.dl [11,10,9,8,7,6,5,4,3,2,1,0]
 exact z4u (tR (by rw [B,zA d];exact gN s D1)) ⟨.inr ⟨rfl,rfl⟩,N.le (b)⟩
 refine go J N fun a J=>?_
 have T0:=N
 clear N
 obtain ⟨O0,g0,N,r1⟩:=T0.freezeRow (i:=0) rfl
 clear T0
 replace i0:=i0.up g0
 replace L:=RCore.mono _ _ _ _ g0 L
 replace rG:=RGiven.mono g0 rG
 replace t:=t.mono g0
 replace hch:=hch.mono fun _ _ h=>RVal.mono _ _ _ _ g0 h
 replace N:=N.nf
 have u0:SliceOf RVal O0 3 _ (xs):=⟨_,r1,hch⟩
 obtain ⟨I2,v2,c2,t4,Z1⟩:=u0.form (by decide)
 have U0:=N
 clear N
 subst c2
 have N:=U0
 clear U0
 have o1:jZ ⟨T.funs,inp⟩ c.outputs fuel=.ok xs g1:=by
  rw [B,zE A2];exact q6f
 refine zW call49 J N (fun V0 w N a J=>?_) (fun V0 w N a J=>?_) (c:=q3r (V:=O0) (K:=.gs (u) 3 1 (z2w cl)::.blk b0 (ob [.slice p3 c.datas.length c4,.slice p9 c.inputs.length O1,.slice f2 c.funs.length P1,.slice K4 c.outputs.length c22] 27)::.blk b1 (ob [.pointer (some p)] 89)::.blk b2 (ob [mg] 94)::.blk b3 (ob [.int .i64 ((fuel:Nat):Int)] 3)::.blk b4 (ob [u] 93)::.blk b5 (ob [.slice I2 (xs).length v2] 38)::.blk b6 (ob [.slice none 0 0,.int .i64 ((0:Nat):Int)] 30)::K) (p:=vU) (fs:=[]) (cs:=[]) u0 call50 (fun x c w hx hc N=>z0z hc N) N)
 refine go J N fun a J=>?_
 replace N:=N.dl [7,6,5,4,3,2,1,0]
 refine zD hQ J N ?_
 exact z4u (q9e o1 V0) ⟨.inl rfl,N.le ((b).trans g0)⟩
 refine go J N fun a J=>?_
 have m1:=V0
 replace N:=N.nilRow 62 4
 replace N:=N.nf
 refine go J N fun a J=>?_
 refine zV (J.ks [0,6,48,49]) N (fun R mm a w=>∃(P0:Fz) (k:Nat) (uo:Value) (co:List Value),mm=xs.length - k/\R P0 [(50,.int .i64 ((k:Nat):Int))] [(0,.gs (uo) 62 4 co),(8,.blk b6 (ob [uo,.int .i64 ((0:Nat):Int)] 30))] a w/\(O0.Le P0/\(Chunks (RNamed P0) 4 co ((mD c.outputs xs).take k)))) (xs.length - 0) ⟨O0,0,.slice none 0 0,[],rfl,⟨J.pk,N⟩,⟨Fz.Le.refl _,rfl⟩⟩ ?_
 clear N J
 rintro mm a w ⟨P0,k,uo,co,F,⟨J,N⟩,W0⟩ O4 W1
 replace N:=N.nf
 obtain ⟨h0,W0⟩:=W0
 replace i0:=i0.up h0
 replace L:=RCore.mono _ _ _ _ h0 L
 replace rG:=RGiven.mono h0 rG
 replace t:=t.mono h0
 replace u0:=u0.up h0
 have S0:=W0
 refine go J N fun a J=>?_
 by_cases F1:k < (xs).length
 refine go J N fun a J=>?_
 obtain ⟨L5,rfl,J0,t1,V3,h4,k1,N0⟩:=u0.el Z1 F1
 obtain ⟨K5,W4,rfl,f4,n5,u4,H4⟩:=RVal.fm N0
 refine Alc J N fun V4 w N a J=>?_
 refine Sto 0 J N fun w N a J=>?_
 refine Reg [1,2,1,2,1,1,2,2,0,1,0,0,1,0] [0,2,3,4,5,6,7,8,9] J N fun w N a J=>?_
 refine go J N fun a J=>?_
 have X1:k < c.outputs.length:=by omega
 obtain ⟨M5,rfl,f1,d2,Q1,i4,l1,a2⟩:=i0.el G1 X1
 obtain rfl:Q1=[.string f1]:=a2
 refine qH call51 J N (fun O3 w V1 N a J=>?_) (c:=own_ok (q7g (by have h_:=List.any_eq_false.1 m1 _ (mgQ t1);simpa using h_)) N0 N)
 obtain ⟨v1,e5⟩:=O3
 obtain ⟨I,d1⟩:=V1
 simp only at I d1 N J
 replace L:=RCore.mono _ _ _ _ I L
 replace rG:=RGiven.mono I rG
 replace t:=t.mono I
 replace S0:=S0.mono fun _ _ h=>RNamed.mono _ _ _ _ I h
 replace k1:=k1.mono I
 replace N0:=RVal.mono _ _ _ _ I N0
 replace l1:=l1.mono I
 replace N:=N.nf
 obtain ⟨H1,E1,rfl,g4,o5,v4,I4⟩:=RVal.fm d1
 refine z3h J N fun a J=>?_
 refine qG J N fun x6 w N a J=>?_
 refine qN 2 rt_28 J N (fun J3 w N a J=>?_) (hb:=by have h_:=S0.length;have I6:((mD c.outputs xs).take k).length<=xs.length:=(by simp [mD];omega);rw [h_];simp only [lcQ,lnQ];omega)
 refine Sto 10 J N fun w N a J=>?_
 refine go J N fun a J=>?_
 replace N:=N.dl [1,0]
 refine W1 _ _ _ (by subst F;omega) ⟨(v1),(k+1),(J3),((co++[.string f1,.string J0.con,.int .i64 (J0.num),.slice H1 J0.args.length E1])),rfl,⟨J.pk,by exact N⟩,?_⟩
 refine ⟨(h0).trans I,?_⟩
 rw [xD (j7b d2 t1)];exact S0.snoc rfl (show RNamed v1 [.string f1,.string J0.con,.int .i64 (J0.num),.slice H1 J0.args.length E1] (⟨f1,J0⟩:Named) from ⟨_,rfl,d1⟩)
 refine go J N fun a J=>?_
 rw [j7a F1] at S0
 have T0:=N
 clear N
 obtain ⟨w1,I0,N,s1,q1⟩:=T0.freezeRowN (i:=0) rfl
 clear T0
 replace L:=RCore.mono _ _ _ _ I0 L
 replace rG:=RGiven.mono I0 rG
 replace t:=t.mono I0
 replace S0:=S0.mono fun _ _ h=>RNamed.mono _ _ _ _ I0 h
 replace N:=N.nf
 have e1:SliceOf RNamed w1 4 _ ((mD c.outputs xs)):=⟨_,s1,S0⟩
 obtain ⟨J2,w2,c2,w4,J4⟩:=e1.form (by decide)
 have U0:=N
 clear N
 subst c2
 have N:=U0
 clear U0
 replace q1:=q1.anti (((b).trans g0).trans h0)
 refine go J N fun a J=>?_
 replace N:=N.ar [6,4,3,2,1] [2,1,2]
 refine zD hQ J N ?_
 exact endOut (endP_ok o1 m1) ⟨(w1,u,cl,.slice J2 ((mD c.outputs xs)).length w2),rfl,⟨(((b).trans g0).trans h0).trans I0,by rw [n],(show cl.length<=1000 by omega),e1,q1⟩,N⟩
end Go.Sw

namespace Go.Sw
open Go.Proofs
theorem mC {c:Core} (h:yP c=0):xS c=false/\qR c=true:=by
 unfold yP at h
 split at h
 ·cases h
 split at h
 ·cases h
 split at h
 ·rename_i a hr;exact ⟨by simpa using a,hr⟩
 ·cases h
theorem z2o {c:Core} (h:yP c=0):z0g (zH c):=by
 obtain ⟨hl,hr⟩:=mC h
 have b:wV c=true:=by simp only [qR,baQ] at hr;exact hr.1.1.1.1.1
 intro n f a
 exact ⟨z6a hl b n f a,cH hl (dJ b a)⟩
theorem j6v {c:Core} (h:yP c=0):c.outputs.length<=1000:=by
 have hl:=(mC h).1
 simp only [xS,Bool.or_eq_false_iff,decide_eq_false_iff_not] at hl
 omega
theorem run_ns {c:Core} (h:yP c=0) {l:List Named} (a:vP (zH c) l c.inputs=true) (g:Nat):jZ ⟨(zH c).funs,inpP l⟩ c.outputs g≠.stuck :=
 (j3u (nK h) (q1u (nK h) a) (fun _ h=>h) g).1
theorem x0b {r:Ev (List Val)} {c:Nat} (h:y2e r=.error c):c≠0:=by
 cases r with
 | ok vs g=>
  simp only [y2e] at h
  split at h
  ·cases h;decide
  ·cases h
 | spent=>cases h;decide
 | stuck=>cases h;decide
section
variable {P:Program} {n:Nat} {E:List (Nat×Value)} {D:List Deferred} {a:Act} {V:Fz} {K:List Res} {w:World}
variable {Kn:Value->World->Prop} {Qp:List PanicEntry->World->Prop} {dst:Option Tmp} {ty:TypeId} {pos:String} {aft:Array Edge} {g:Option (Nat×Bool)}
theorem z6z {α β ε:Type} {f:FuncId} {xs:Array Operand} {ts:Array TypeId} {vs:List Value} {r:Except ε α} {X:α->β->Value} {Z:ε->Value} {F1:α->β->Fz} {b:Fz} {KO:α->β->List Res} {KE:List Res} {G:α->β->Prop}
  (J:EnvR n E D a) (m:evs E xs.toList=some vs) (l:∀args w,(callFunc f args).run P w=.ok (.enter f args) w)
  (j:Calls P f vs.toArray w (fun e w'=>Out r (fun x=>∃y,e=.returned (X x y)/\G x y/\Mem (F1 x y) (KO x y) w') (fun c=>e=.returned (Z c)/\Mem b KE w')))
  (k:∀x y w',r=.ok x->G x y->Mem (F1 x y) (KO x y) w'->Kn (X x y) w') (kp:∀c w',r=.error c->Mem b KE w'->Kn (Z c) w') :
  Oper.eff P ⟨dst,.call { callee:=.value (.func f),args:=xs,argTypes:=ts },ty,pos,aft,g⟩ a w Kn Qp:=by
 refine aE J m l j (fun v w' h=>?_) (fun c w' h=>?_) (fun w' h=>?_)
 ·cases r with
  | ok x=>obtain ⟨y,h1,d,i⟩:=h;cases h1;exact k _ _ _ rfl d i
  | error c=>obtain ⟨h1,d⟩:=h;cases h1;exact kp _ _ rfl d
 ·cases r with
  | ok x=>obtain ⟨y,h1,_⟩:=h;cases h1
  | error c=>obtain ⟨h1,d⟩:=h;cases h1
 ·cases r with
  | ok x=>obtain ⟨y,h1,_⟩:=h;cases h1
  | error c=>obtain ⟨h1,_⟩:=h;cases h1
theorem uI {fn:Func} {R:Ending->World->Prop} {t u T b k i:Nat} {cs:List Value} {d:TypeId} {x:Value} (J:EnvR n E [] a) (N:Sees V K w) (hr:fn.results=#[.cell t T,.tmp u]) (c:get E t=some (.pointer (some ⟨b,0,none⟩)))
  (j:qJ K i=some (.blk b (ob cs d))) (g:AggT P T) (f:SizeT P T k) (hl:cs.length=k) (l:get E u=some x) (h:R (.returned (.tuple #[.agg cs.toArray,x])) w):bodyPost P fn R .ret a w:=by
 refine ⟨J.defs,_,?_,h⟩
 have e:=j2z (P:=P) J N c j g f hl
 simp [results,hr,Array.getD_eq_getD_getElem?,J.env t _ c,J.env u _ l,asAddr,e,Sem.run_bind,Result.andThen]
theorem mE {fn:Func} {R:Ending->World->Prop} {t u d T b k i:Nat} {cs:List Value} {g:TypeId} {x f:Value} (J:EnvR n E [] a) (N:Sees V K w) (hr:fn.results=#[.cell t T,.tmp u,.tmp d]) (e:get E t=some (.pointer (some ⟨b,0,none⟩)))
  (o:qJ K i=some (.blk b (ob cs g))) (m:AggT P T) (l:SizeT P T k) (hl:cs.length=k) (p:get E u=some x) (c:get E d=some f) (h:R (.returned (.tuple #[.agg cs.toArray,x,f])) w):bodyPost P fn R .ret a w:=by
 refine ⟨J.defs,_,?_,h⟩
 have j:=j2z (P:=P) J N e o m l hl
 simp [results,hr,Array.getD_eq_getD_getElem?,J.env t _ e,J.env u _ p,J.env d _ c,asAddr,j,Sem.run_bind,Result.andThen]
end
theorem j1n {V:Fz} {K:List Res} {w:World} {p:Addr} {T:Table} {d0:List Value} {c:Core} {mg:Value} {inp:List (Bs×Val)} {fuel m n o q d r f:Nat} (l:RCore V d0 c) (k:RTable V p T) (rG:RGiven V mg inp) (u:z0g T) (a:c.outputs.length<=1000) (g:fuel<=1000000)
  (j:jZ ⟨T.funs,inp⟩ c.outputs fuel≠.stuck)
  (N:Mem V (.blk m (ob d0 27)::.blk n (ob [.pointer (some p)] 89)::.blk o (ob [mg] 94)::.blk q (ob [.int .i64 ((fuel:Nat):Int)] 3)::.blk d (ob [.slice none 0 0] 93)::.blk r (ob [.slice none 0 0] 38)::.blk f (ob [.slice none 0 0,.int .i64 ((0:Nat):Int)] 30)::K) w) :
  Calls Tryz.prog 45 #[.func (.func 46) #[] #[.pointer (some ⟨m,0,none⟩),.pointer (some ⟨n,0,none⟩),.pointer (some ⟨o,0,none⟩),.pointer (some ⟨q,0,none⟩),.pointer (some ⟨d,0,none⟩),.pointer (some ⟨r,0,none⟩),.pointer (some ⟨f,0,none⟩)]] w (fun e w'=>Out (y2e (jZ ⟨T.funs,inp⟩ c.outputs fuel))
   (fun x=>∃y:Fz×Value×List Int×Value,e=.returned (.int .i64 ((0:Nat):Int))/\(V.Le y.1/\dV y.2.2.1=((fuel - x.2:Nat):Int)/\y.2.2.1.length<=1000/\SliceOf RNamed y.1 4 y.2.2.2 (mD c.outputs x.1)/\NewRow V y.2.2.2)/\Mem y.1 (.blk d (ob [y.2.1] 93)::.gs y.2.1 3 1 (z2w y.2.2.1)::.blk f (ob [y.2.2.2,.int .i64 ((0:Nat):Int)] 30)::K) w')
   (fun c=>e=.returned (.int .i64 ((c:Nat):Int))/\Mem V K w')):=by
 refine q0p (α:=List Val×Nat) (β:=Fz×Value×List Int×Value) (F:=fun _ y=>y.1) (KO:=fun _ y=>.blk d (ob [y.2.1] 93)::.gs y.2.1 3 1 (z2w y.2.2.1)::.blk f (ob [y.2.2.2,.int .i64 ((0:Nat):Int)] 30)::K)
  (G:=fun (x:List Val×Nat) y=>V.Le y.1/\dV y.2.2.1=((fuel - x.2:Nat):Int)/\y.2.2.1.length<=1000/\SliceOf RNamed y.1 4 y.2.2.2 (mD c.outputs x.1)/\NewRow V y.2.2.2) Tryz.call46 (fun b w N=>?_) N
 have N:=((((((N.pull (i:=7) rfl).pull (i:=7) rfl).pull (i:=7) rfl).pull (i:=7) rfl).pull (i:=7) rfl).pull (i:=7) rfl).pull (i:=7) rfl
 refine (run1_ok (K:=.blk b (ob [.int .i64 ((0:Nat):Int)] 31)::K) l k rG u a g j N).mono fun e w' h=>?_
 cases hr:y2e (jZ ⟨T.funs,inp⟩ c.outputs fuel) with
 | ok x=>
  rw [hr] at h
  obtain ⟨y,h1,s,t⟩:=h
  exact ⟨y,h1,s,t.pull (i:=3) rfl⟩
 | error c'=>
  rw [hr] at h
  exact h
end Go.Sw
