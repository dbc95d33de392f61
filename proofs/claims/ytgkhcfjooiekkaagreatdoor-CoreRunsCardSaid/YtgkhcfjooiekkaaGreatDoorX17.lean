import Derived.Test.YtgkhcfjooiekkaaGreatDoorX16
set_option linter.unusedVariables false
set_option linter.unusedSimpArgs false
namespace Go.Sw
open Go.Proofs Go.Proofs.Tryz
set_option maxRecDepth 20000
set_option maxHeartbeats 4000000
theorem inR_ok {V:Fz} {K:List Res} {w:World} {x:Int} {lo:Int} {b:Int}  (N:Mem V K w) :
  Calls prog 53 #[.int .i64 x,.int .i64 lo,.int .i64 b] w (fun ee w'=>ee=.returned (.bool ((decide (lo<=x)&&decide (x<=b))))/\Mem V K w'):=by
 refine zK func53 ntmps53 fun Q hQ a J=>?_
 by_cases c:lo<=x
 refine Qq (fun a J=>?_) (o:=by exact fun J O=>y_leqD J rfl rfl)
 refine zF ?_
 exact zM N (by first | rfl | simp [*])
 refine zF ?_
 exact zM N (by first | rfl | simp [*])
theorem x8r {V:Fz} {K:List Res} {w:World} {d0:List Value} {v1:Value} {c:Core} {l:List Named} {fuel:Int} (f:RCore V d0 c) (rl:SliceOf RNamed V 4 v1 l) (R1:∀v,d0[3]? = some v->Cap v) (hF:jP c=0->y9u c) (s1:jP c=0->c.outputs.length<=1000) (hN:jP c=0->qV c l=0->∀g,jI (mY c l) c.outputs g≠.stuck) (N:Mem V K w) :
  Calls prog 17 #[.agg d0.toArray,v1,.int .i64 fuel] w (fun ee w'=>∃y:Fz×List Value,ee=.returned (.tuple #[.agg y.2.toArray,.int .i64 (uQ c l fuel).2])/\(V.Le y.1/\ROutcome y.1 y.2 (uQ c l fuel).1)/\Mem y.1 K w'):=by
 obtain ⟨p3,c4,p9,O0,Y0,P0,q2,c22,rfl,h2,h8,U2,R0,b3,e3,F2,I2,G2,J2,H2,t1⟩:=RCore.fm f
 obtain ⟨p1,c1,rfl,a3,d3⟩:=rl.fm
 have E0:=R1
 refine zK func17 ntmps17 fun Q hQ a J=>?_
 refine Bx fun f1 w N a J=>?_
 refine Alc fun h1 w N a J=>?_
 refine zO call52 (fun w N a J=>?_) (c:=z4z f E0 N)
 by_cases O1:jP c=0
 have d:jP c=0:=by omega
 refine zZ call53 (fun c0 w N a J=>?_) (fun c0 w N a J=>?_) (c:=inR_ok N)
 refine go fun a J=>?_
 have r1:0<=fuel/\fuel<=200000:=by have h_:=c0;simp only [baQ,decide_eq_true_eq] at h_;omega
 have I:=N
 have F0:=J
 clear N J
 obtain ⟨fu,rfl⟩:=Int.eq_ofNat_of_zero_le r1.1
 have N:=I
 have J:=F0
 clear I F0
 refine zO call32 (fun w N a J=>?_) (c:=y1q f rl E0 N)
 by_cases P1:qV c l=0
 have C:qV c l=0:=by omega
 refine dG fun a J=>?_
 refine Alc fun i1 w N a J=>?_
 refine Sto 0 fun w N a J=>?_
 refine go fun a J=>?_
 have m:RWorld V [.slice p3 c.datas.length c4,.slice p9 c.inputs.length O0,.slice Y0 c.funs.length P0,.slice q2 c.outputs.length c22,.slice p1 l.length c1] ⟨c,l⟩:=⟨_,_,_,_,_,rfl,f,rl⟩
 refine Alc fun N0 w N a J=>?_
 refine go fun a J=>?_
 replace N:=N.nilRow 62 4
 replace N:=N.nf
 refine zU (J.ks [2,3,6,9,10]) N (fun R mm a w=>∃(A:Fz) (i:Nat) (u:Value) (cs:List Value) (xs:List Val) (g1:Nat),mm=c.outputs.length - i/\R A [(11,.int .i64 ((g1:Nat):Int)),(12,.int .i64 ((i:Nat):Int))] [(0,.gs (u) 62 4 cs),(1,.blk N0 (ob [u,.int .i64 ((0:Nat):Int)] 30))] a w/\(V.Le A/\(Chunks (RNamed A) 4 cs (jN c.outputs xs)/\xs.length=i/\i<=c.outputs.length/\g1<=fu/\jI (mY c l) c.outputs fu=(jI (mY c l) (c.outputs.drop i) g1).bind fun vs g2=>.ok (xs++vs) g2))) (c.outputs.length - 0) ⟨V,0,.slice none 0 0,[],[],fu,rfl,⟨J.pk,N⟩,⟨Fz.Le.refl _,⟨by simp only [jN,List.zipWith_nil_right];rfl,rfl,Nat.zero_le _,Nat.le_refl _,y2h _⟩⟩⟩ ?_
 clear N J
 rintro mm a w ⟨A,i,u,cs,xs,g1,V0,⟨J,N⟩,g0⟩ S2 q1
 replace N:=N.nf
 obtain ⟨p,g0⟩:=g0
 replace R0:=R0.up p
 replace f:=f.up p
 replace m:=m.up p
 obtain ⟨b,w1,Z2,Y2,a0⟩:=g0
 refine go fun a J=>?_
 by_cases o1:i < c.outputs.length
 refine goJ 16 fun a J=>?_
 refine sq fun K1 Z=>?_
 obtain ⟨B1,rfl,Y,E,m1,E2,t,u1⟩:=R0.el t1 o1
 obtain rfl:m1=[.string Y]:=u1
 have H0:=hN d C fu
 rw [a0,zA E] at H0
 obtain ⟨f_,k0,D⟩:=x2j H0
 obtain ⟨j_,U0,l0⟩:=y4j k0
 have i0:∀a w,(∃(M:Fz) (b0:Nat) (z:Val) (g2:Nat) (sv:Value),EnvR 92 [(2,.int .i64 ((fu:Nat):Int)),(3,.pointer (some ⟨f1,0,none⟩)),(6,.pointer (some ⟨h1,0,none⟩)),(9,.pointer (some ⟨i1,0,none⟩)),(10,.pointer (some ⟨N0,0,none⟩)),(12,.int .i64 ((i:Nat):Int)),(13,.pointer (some ⟨b0,0,none⟩))] [] a/\Mem M (.blk b0 (ob [.string z.con,.int .i64 (z.num),sv,.int .i64 ((g2:Nat):Int)] 46)::.gs (u) 62 4 cs::.blk N0 (ob [u,.int .i64 ((0:Nat):Int)] 30)::.blk i1 (ob [.slice p3 c.datas.length c4,.slice p9 c.inputs.length O0,.slice Y0 c.funs.length P0,.slice (some B1) c.outputs.length c22,.slice p1 l.length c1] 113)::.blk h1 (ob [.slice none 0 0,.int .i64 ((0:Nat):Int)] 30)::.blk f1 (ob [.slice p3 c.datas.length c4,.slice p9 c.inputs.length O0,.slice Y0 c.funs.length P0,.slice (some B1) c.outputs.length c22] 27)::K) w/\(A.Le M/\(xC (yM (mY c l)) f_ [] g1=.ok z g2/\RVal M [.string z.con,.int .i64 z.num,sv] z)))->K1 a w:=by
  clear N J
  rintro a w ⟨M,b0,z,g2,sv,J,N,h0⟩
  obtain ⟨L,h0⟩:=h0
  replace f:=f.up L
  replace m:=m.up L
  replace b:=b.mono fun _ _ h=>h.up L
  replace t:=t.mono L
  apply Z
  obtain ⟨s0,I0⟩:=h0
  have c2:=nQ s0
  obtain ⟨s2,L1,rfl,B2,L2,i2,K2⟩:=aB I0
  have D2:¬g2 < 0:=Nat.not_lt_zero _
  refine Reg [1,2,1,2,1,1,2,1,2,1,0,0,1,0] [0,2,3,4,5] fun w N a J=>?_
  refine dG fun a J=>?_
  refine qF fun g3 w N a J=>?_
  refine qQ 2 z2x (fun v80 w N a J=>?_) (hb:=by have h_:=b.length;have V2:(jN c.outputs xs).length<=c.outputs.length:=(by simp [jN];omega);have W2:=s1 d;rw [h_];simp only [lcQ,lnQ];omega)
  refine Sto 3 fun w N a J=>?_
  refine go fun a J=>?_
  replace N:=N.dl [1,0]
  refine q1 _ _ _ (by subst V0;omega) ⟨(M),(i+1),(v80),((cs++[.string Y,.string z.con,.int .i64 (z.num),.slice s2 z.args.length L1])),(xs++[z]),(g2),rfl,⟨J.pk,by exact N⟩,?_⟩
  refine ⟨(p).trans L,?_⟩
  exact ⟨by rw [j4u (o:=Y) (by rw [w1];exact E)];exact b.snoc (k:=4) (x:=(⟨Y,z⟩:Named)) rfl ⟨_,rfl,I0⟩,by simp [w1],by omega,by have h_:=nQ s0;omega,by rw [a0,zA E];exact yL k0 s0⟩
 refine yE [2,2,1,2,1,1,2,0,1,0,0,0] (.q 0 (.q 1 (.q 2 (.q 3 (.q 4 (.q 5 (.q 6 (.q 8 (.e2 7 10 (.e2 9 10 (.e 10 (.e 11 (.done))) (.e 9 (.e 11 (.done)))) (.e 7 (.e 9 (.e 11 (.done))))))))))))) [1,2,3,4] J N fun w N=>?_
 refine go fun a J=>?_
 refine wN ?_ ?_
 refine zO call55 (fun w N a J=>?_) (c:=dQ f N)
 refine wN ?_ ?_
 rw [show xF c.funs Y=((j_:Nat):Int) by rw [xF,U0]] at J
 refine d_e J rfl rfl rfl (jQ J rfl call54 (uX (hF d) g1 m l0 (SliceOf.nil 3) rfl (by omega) (by omega) D N) (fun C1 v2 w n0 D0 N=>⟨fun _=>N.sn ((Fz.Le.refl _).trans (D0.1)),fun a J=>?_⟩) (fun C1 w n0 N=>⟨fun _=>N.sn (Fz.Le.refl _),fun a J=>?_⟩))
 obtain ⟨z85,n1⟩:=C1
 obtain ⟨F1,f3⟩:=v2
 obtain ⟨F,o0⟩:=D0
 have J0:=jL n0
 simp only at F o0 N J J0
 obtain ⟨u2,M1,rfl,C2,M2,j2,l2⟩:=aB o0
 replace f:=f.up F
 replace m:=m.up F
 replace b:=b.mono fun _ _ h=>h.up F
 replace t:=t.mono F
 replace N:=N.nf
 have V1:¬n1 < 0:=Nat.not_lt_zero _
 refine Alc fun b1 w N a J=>?_
 refine Sto 0 fun w N a J=>?_
 refine go fun a J=>?_
 exact i0 _ _ ⟨F1,b1,z85,n1,.slice u2 z85.args.length M1,J.pk,N,⟨F,⟨J0,o0⟩⟩⟩
 have w0:=qW n0 D
 have W1:(-1:Int) < 0:=by decide
 refine Alc fun x2 w N a J=>?_
 refine Sto 0 fun w N a J=>?_
 refine go fun a J=>?_
 apply Z
 refine zX fun a J=>?_
 refine Sto 4 fun w N a J=>?_
 refine go fun a J=>?_
 have j:=N
 replace N:=N.dl [5,4,3,2,1,0]
 refine hQ _ _ _ (xV (i:=4) (cs:=[.slice none 0 0,.int .i64 ((0:Nat):Int)]) J j.toSees results17 rfl rfl isAgg30 sizeOf30 rfl rfl ?_)
 have hr_:uQ c l ((fu:Nat):Int)=(tP,4):=by rw [uQ,if_neg (not_not_intro d),if_neg (by simp;omega),if_neg (not_not_intro C),Int.toNat_natCast,aI (by rw [a0,zA E];exact pN k0 w0)];rfl
 rw [hr_];exact ⟨(A,_),rfl,⟨p,⟨_,rfl,SliceOf.nil 4⟩⟩,N⟩
 refine Alc fun d1 w N a J=>?_
 rw [show xF c.funs Y=((j_:Nat):Int) by rw [xF,U0]] at J
 refine d_e J rfl rfl rfl (jQ J rfl call54 (uX (hF d) g1 m l0 (SliceOf.nil 3) rfl (by omega) (by omega) D N) (fun K0 D1 w T e0 N=>⟨fun _=>N.sn ((Fz.Le.refl _).trans (e0.1)),fun a J=>?_⟩) (fun K0 w T N=>⟨fun _=>N.sn (Fz.Le.refl _),fun a J=>?_⟩))
 obtain ⟨M0,z0⟩:=K0
 obtain ⟨Z0,P2⟩:=D1
 obtain ⟨r,W⟩:=e0
 have q0:=jL T
 simp only at r W N J q0
 obtain ⟨x1,j1,rfl,S1,m2,G1,I1⟩:=aB W
 replace f:=f.up r
 replace m:=m.up r
 replace b:=b.mono fun _ _ h=>h.up r
 replace t:=t.mono r
 replace N:=N.nf
 have X1:¬z0 < 0:=Nat.not_lt_zero _
 refine Sto 0 fun w N a J=>?_
 refine go fun a J=>?_
 exact i0 _ _ ⟨Z0,d1,M0,z0,.slice x1 M0.args.length j1,J.pk,N,⟨r,⟨q0,W⟩⟩⟩
 have x0:=qW T D
 have Y1:(-1:Int) < 0:=by decide
 refine Sto 0 fun w N a J=>?_
 refine go fun a J=>?_
 apply Z
 refine zX fun a J=>?_
 refine Sto 4 fun w N a J=>?_
 refine go fun a J=>?_
 have j:=N
 replace N:=N.dl [5,4,3,2,1,0]
 refine hQ _ _ _ (xV (i:=4) (cs:=[.slice none 0 0,.int .i64 ((0:Nat):Int)]) J j.toSees results17 rfl rfl isAgg30 sizeOf30 rfl rfl ?_)
 have hr_:uQ c l ((fu:Nat):Int)=(tP,4):=by rw [uQ,if_neg (not_not_intro d),if_neg (by simp;omega),if_neg (not_not_intro C),Int.toNat_natCast,aI (by rw [a0,zA E];exact pN k0 x0)];rfl
 rw [hr_];exact ⟨(A,_),rfl,⟨p,⟨_,rfl,SliceOf.nil 4⟩⟩,N⟩
 refine Alc fun e1 w N a J=>?_
 refine zO call55 (fun w N a J=>?_) (c:=dQ f N)
 rw [show xF c.funs Y=((j_:Nat):Int) by rw [xF,U0]] at J
 refine d_e J rfl rfl rfl (jQ J rfl call54 (uX (hF d) g1 m l0 (SliceOf.nil 3) rfl (by omega) (by omega) D N) (fun L0 E1 w U f0 N=>⟨fun _=>N.sn ((Fz.Le.refl _).trans (f0.1)),fun a J=>?_⟩) (fun L0 w U N=>⟨fun _=>N.sn (Fz.Le.refl _),fun a J=>?_⟩))
 obtain ⟨z139,A0⟩:=L0
 obtain ⟨a1,Q2⟩:=E1
 obtain ⟨s,X⟩:=f0
 have r0:=jL U
 simp only at s X N J r0
 obtain ⟨y1,k1,rfl,T1,n2,H1,J1⟩:=aB X
 replace f:=f.up s
 replace m:=m.up s
 replace b:=b.mono fun _ _ h=>h.up s
 replace t:=t.mono s
 replace N:=N.nf
 have Z1:¬A0 < 0:=Nat.not_lt_zero _
 refine Sto 0 fun w N a J=>?_
 refine go fun a J=>?_
 exact i0 _ _ ⟨a1,e1,z139,A0,.slice y1 z139.args.length k1,J.pk,N,⟨s,⟨r0,X⟩⟩⟩
 have y0:=qW U D
 have a2:(-1:Int) < 0:=by decide
 refine Sto 0 fun w N a J=>?_
 refine go fun a J=>?_
 apply Z
 refine zX fun a J=>?_
 refine Sto 4 fun w N a J=>?_
 refine go fun a J=>?_
 have j:=N
 replace N:=N.dl [5,4,3,2,1,0]
 refine hQ _ _ _ (xV (i:=4) (cs:=[.slice none 0 0,.int .i64 ((0:Nat):Int)]) J j.toSees results17 rfl rfl isAgg30 sizeOf30 rfl rfl ?_)
 have hr_:uQ c l ((fu:Nat):Int)=(tP,4):=by rw [uQ,if_neg (not_not_intro d),if_neg (by simp;omega),if_neg (not_not_intro C),Int.toNat_natCast,aI (by rw [a0,zA E];exact pN k0 y0)];rfl
 rw [hr_];exact ⟨(A,_),rfl,⟨p,⟨_,rfl,SliceOf.nil 4⟩⟩,N⟩
 refine go fun a J=>?_
 have j0:jI (mY c l) c.outputs fu=.ok xs g1:=by rw [a0,zB o1];exact y1f
 have G0:=N
 clear N
 obtain ⟨H,B,N,p0⟩:=G0.freezeRow (i:=0) rfl
 clear G0
 replace f:=f.up B
 replace m:=m.up B
 replace b:=b.mono fun _ _ h=>h.up B
 replace N:=N.nf
 have G:SliceOf RNamed H 4 _ ((jN c.outputs xs)):=⟨_,p0,b⟩
 obtain ⟨z1,c167,o2,d2,W0⟩:=G.form (by decide)
 have I:=N
 clear N
 subst o2
 have N:=I
 clear I
 refine go fun a J=>?_
 refine zU (J.ks [2,6,10,11]) N (fun R mm a w=>∃(k:Nat),mm=(jN c.outputs xs).length - k/\R H [(14,.int .i64 ((k:Nat):Int))] [] a w/\((jN c.outputs xs).any (fun n=>z0g n.value)=((jN c.outputs xs).drop k).any (fun n=>z0g n.value))) ((jN c.outputs xs).length - 0) ⟨0,rfl,⟨J.pk,N⟩,rfl⟩ ?_
 clear N J
 rintro mm a w ⟨k,V0,⟨J,N⟩,S⟩ w2 S0
 by_cases B0:k < ((jN c.outputs xs)).length
 refine go fun a J=>?_
 obtain ⟨O2,rfl,u0,t0,N1,b2,T0,X0⟩:=G.el W0 B0
 obtain ⟨y2,rfl,C0⟩:=id X0
 obtain ⟨A1,l1,rfl,U1,A2,f2,k2⟩:=RVal.fm C0
 refine Qq (fun a J=>?_) (o:=by exact fun J O=>jF 1 (vs:=[.string u0.value.con,.int .i64 (u0.value.num),.slice A1 u0.value.args.length l1]) J O rfl T0 isAgg42 sizeOf42 rfl rfl)
 refine zZ call56 (fun P w N a J=>?_) (fun P w N a J=>?_) (c:=z3z C0 N)
 have m0:xs.any vX=true:=by rw [<- y1b (os:=c.outputs) (by omega),S,zA t0,List.any_cons,P];rfl
 refine zX fun a J=>?_
 refine Sto 2 fun w N a J=>?_
 refine go fun a J=>?_
 have j:=N
 replace N:=N.dl [3,2,1,0]
 refine hQ _ _ _ (xV (i:=2) (cs:=[.slice none 0 0,.int .i64 ((0:Nat):Int)]) J j.toSees results17 rfl rfl isAgg30 sizeOf30 rfl rfl ?_)
 have hr_:uQ c l ((fu:Nat):Int)=(tP,7):=by rw [uQ,if_neg (not_not_intro d),if_neg (by simp;omega),if_neg (not_not_intro C),Int.toNat_natCast,y3y j0 m0];rfl
 rw [hr_];exact ⟨(H,_),rfl,⟨(p).trans B,⟨_,rfl,SliceOf.nil 4⟩⟩,N⟩
 refine go fun a J=>?_
 refine S0 _ _ _ (by subst V0;omega) ⟨(k+1),rfl,⟨J.pk,by exact N⟩,?_⟩
 rw [S,zA t0,List.any_cons,P];rfl
 have m0:xs.any vX=false:=by rw [<- y1b (os:=c.outputs) (by omega),S,zB B0];rfl
 refine Qq (fun a J=>?_) (o:=by exact fun J O=>xX ((fu - g1:Nat):Int) J rfl rfl (by rw [yD (by omega)];omega))
 refine Sto 0 fun w N a J=>?_
 refine Sto 2 fun w N a J=>?_
 refine go fun a J=>?_
 have j:=N
 replace N:=N.dl [3,2,1,0]
 refine hQ _ _ _ (xV (i:=2) (cs:=[.slice z1 ((jN c.outputs xs)).length c167,.int .i64 ((fu - g1:Nat):Int)]) J j.toSees results17 rfl rfl isAgg30 sizeOf30 rfl rfl ?_)
 have hr_:uQ c l ((fu:Nat):Int)=(⟨(jN c.outputs xs),((fu - g1:Nat):Int)⟩,0):=by rw [uQ,if_neg (not_not_intro d),if_neg (by simp;omega),if_neg (not_not_intro C),Int.toNat_natCast,j7r j0 m0]
 rw [hr_];exact ⟨(H,_),rfl,⟨(p).trans B,⟨_,rfl,G⟩⟩,N⟩
 refine zX fun a J=>?_
 refine Sto 0 fun w N a J=>?_
 refine go fun a J=>?_
 have j:=N
 replace N:=N.dl [1,0]
 refine hQ _ _ _ (xV (i:=0) (cs:=[.slice none 0 0,.int .i64 ((0:Nat):Int)]) J j.toSees results17 rfl rfl isAgg30 sizeOf30 rfl rfl ?_)
 have hr_:uQ c l ((fu:Nat):Int)=(tP,qV c l):=by rw [uQ,if_neg (not_not_intro d),if_neg (by simp;omega),if_pos P1]
 rw [hr_];exact ⟨(V,_),rfl,⟨Fz.Le.refl _,⟨_,rfl,SliceOf.nil 4⟩⟩,N⟩
 refine zX fun a J=>?_
 refine Sto 0 fun w N a J=>?_
 refine go fun a J=>?_
 have j:=N
 replace N:=N.dl [1,0]
 refine hQ _ _ _ (xV (i:=0) (cs:=[.slice none 0 0,.int .i64 ((0:Nat):Int)]) J j.toSees results17 rfl rfl isAgg30 sizeOf30 rfl rfl ?_)
 have hr_:uQ c l fuel=(tP,1):=by rw [uQ,if_neg (not_not_intro d),if_pos c0]
 rw [hr_];exact ⟨(V,_),rfl,⟨Fz.Le.refl _,⟨_,rfl,SliceOf.nil 4⟩⟩,N⟩
 refine zX fun a J=>?_
 refine Sto 0 fun w N a J=>?_
 refine go fun a J=>?_
 have j:=N
 replace N:=N.dl [1,0]
 refine hQ _ _ _ (xV (i:=0) (cs:=[.slice none 0 0,.int .i64 ((0:Nat):Int)]) J j.toSees results17 rfl rfl isAgg30 sizeOf30 rfl rfl ?_)
 have hr_:uQ c l fuel=(tP,jP c):=by rw [uQ,if_pos O1]
 rw [hr_];exact ⟨(V,_),rfl,⟨Fz.Le.refl _,⟨_,rfl,SliceOf.nil 4⟩⟩,N⟩
end Go.Sw
