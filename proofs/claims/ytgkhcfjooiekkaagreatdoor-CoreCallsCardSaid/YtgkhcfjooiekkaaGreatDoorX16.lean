import Derived.Test.YtgkhcfjooiekkaaGreatDoorX15
set_option linter.unusedVariables false
set_option linter.unusedSimpArgs false
namespace Go.Sw
open Go.Proofs Go.Proofs.Tryz
set_option maxRecDepth 20000
set_option maxHeartbeats 4000000
theorem z4z {V:Fz} {K:List Res} {w:World} {d0:List Value} {c:Core} (s:RCore V d0 c) (b2:∀v,d0[3]? = some v->Cap v) (N:Mem V K w) :
  Calls prog 52 #[.agg d0.toArray] w (fun ee w'=>ee=.returned (.int .i64 (jP c))/\Mem V K w'):=by
 obtain ⟨p3,c4,p9,c1,M2,f1,z1,c22,rfl,h2,h8,D,I,g4,h4,w3,s1,x3,U,y3,t1⟩:=RCore.fm s
 refine zK func52 ntmps52 fun Q hQ a J=>?_
 refine Bx fun b1 w N a J=>?_
 refine go fun a J=>?_
 refine zU (J.ks [1]) N (fun R mm a w=>∃(i:Nat),mm=c.funs.length - i/\R V [(3,.int .i64 ((i:Nat):Int))] [] a w/\(c.funs.any (fun f=>vB 250 f.body)=(c.funs.drop i).any (fun f=>vB 250 f.body))) (c.funs.length - 0) ⟨0,rfl,⟨J.pk,N⟩,rfl⟩ ?_
 clear N J
 rintro mm a w ⟨i,B,⟨J,N⟩,j0⟩ V3 p1
 by_cases m1:i < c.funs.length
 refine go fun a J=>?_
 obtain ⟨l4,rfl,x0,H0,h3,u3,r1,u1⟩:=D.el U m1
 obtain ⟨m4,X3,rfl,N1,n1⟩:=id u1
 obtain ⟨j4,c46,rfl,z3,C3⟩:=N1.fm
 obtain ⟨N2,H1,O2,I1,rfl,t3,Y3,Z3,A3,D3,B3,E3⟩:=REx.fm n1
 refine Qq (fun a J=>?_) (o:=by exact fun J O=>jF 3 (vs:=[.int .i64 (x0.body.kind),.int .i64 (x0.body.num),.string x0.body.name,.slice N2 x0.body.args.length H1,.slice O2 x0.body.arms.length I1]) J O rfl r1 isAgg66 sizeOf66 rfl rfl)
 refine zZ call106 (fun f0 w N a J=>?_) (fun f0 w N a J=>?_) (c:=x8i (m:=250) (by omega) n1 N)
 refine zF ?_
 replace N:=N.dl [0]
 exact vP N (by rw [jP,j0,zA H0,List.any_cons,f0];rfl)
 refine go fun a J=>?_
 refine p1 _ _ _ (by subst B;omega) ⟨(i+1),rfl,⟨J.pk,N⟩,?_⟩
 rw [j0,zA H0,List.any_cons,f0];rfl
 have q:c.funs.any (fun f=>vB 250 f.body)=false:=by rw [j0,zB m1];rfl
 refine zZ call107 (fun g0 w N a J=>?_) (fun g0 w N a J=>?_) (c:=j4d s N)
 refine zF ?_
 replace N:=N.dl [0]
 exact vP N (by rw [jP,q,g0];rfl)
 have r:=g0
 obtain ⟨f2,d4,e4,f4,n2,S0,o2⟩:=x1y r
 refine zZ call108 (fun h0 w N a J=>?_) (fun h0 w N a J=>?_) (c:=q3n s f2 n2 N)
 by_cases O1:c.outputs.length=0
 refine zF ?_
 replace N:=N.dl [0]
 exact vP N (by exact (kD q r (by unfold kN;simp only [show decide (c.outputs.length≠0)=false from decide_eq_false (fun g=>g O1),Bool.false_and,Bool.and_false])).symm)
 have P1:=h0
 have U1:decide (c.outputs.length≠0)=true:=decide_eq_true (by omega)
 refine go fun a J=>?_
 replace N:=N.nilRow 9 1
 replace N:=N.nf
 refine zU (J.ks [1]) N (fun R mm a w=>∃(i1:Nat) (u:Value),mm=c.inputs.length - i1/\R V [(4,u),(5,.int .i64 ((i1:Nat):Int))] [(0,.gs (u) 9 1 (strs ((c.inputs.take i1).map Param.name)))] a w/\(c.inputs.all (fun p=>xT c.datas p.type)=(c.inputs.drop i1).all (fun p=>xT c.datas p.type))) (c.inputs.length - 0) ⟨0,.slice none 0 0,rfl,⟨J.pk,N⟩,rfl⟩ ?_
 clear N J
 rintro mm a w ⟨i1,u,B,⟨J,N⟩,k0⟩ W3 q1
 replace N:=N.nf
 by_cases o1:i1 < c.inputs.length
 refine go fun a J=>?_
 obtain ⟨P2,rfl,R2,u0,j3,v3,s3,v1⟩:=h8.el s1 o1
 obtain rfl:=id v1
 refine qF fun Q2 w N a J=>?_
 refine qQ 1 wT (fun E1 w N a J=>?_) (hb:=by rw [yG,List.length_map,List.length_take];simp only [lcQ,lnQ];omega)
 replace N:Mem V (.gs (Q2) 9 1 [.string R2.name]::.gs (E1) 9 1 (strs ((c.inputs.take (i1+1)).map Param.name))::.blk b1 (ob [.slice p3 c.datas.length c4,.slice (some P2) c.inputs.length c1,.slice M2 c.funs.length f1,.slice z1 c.outputs.length c22] 27)::K) w:=by rw [jY u0,List.map_append,yW];exact N
 refine Reg [2,1,2,1,1,1,2,0,1] [0,1,2] fun w N a J=>?_
 refine zZ call109 (fun i0 w N a J=>?_) (fun i0 w N a J=>?_) (c:=y2c s N)
 refine go fun a J=>?_
 replace N:=N.dl [0]
 refine q1 _ _ _ (by subst B;omega) ⟨(i1+1),(E1),rfl,⟨J.pk,N⟩,?_⟩
 rw [k0,zA u0,List.all_cons,i0];rfl
 refine zF ?_
 replace N:=N.dl [2,1,0]
 exact vP N (by exact (kD q r (by unfold kN;simp only [show c.inputs.all (fun p=>xT c.datas p.type)=false by rw [k0,zA u0,List.all_cons,i0];rfl,Bool.false_and,Bool.and_false])).symm)
 refine go fun a J=>?_
 have R1:c.inputs.all (fun p=>xT c.datas p.type)=true:=by rw [k0,zB o1];rfl
 rw [List.take_of_length_le (l:=c.inputs) (by omega)] at N
 replace N:=N.nf
 refine go fun a J=>?_
 have y0:=Cap.own N (i:=0) rfl
 have y:=N
 clear N
 obtain ⟨H,d,N,o0⟩:=y.freezeRow (i:=0) rfl
 clear y
 replace D:=D.up d
 replace I:=I.up d
 replace s:=s.up d
 replace N:=N.nf
 have W:SliceOf RStr H 1 _ ((c.inputs.map Param.name)):=SliceOf.strs.2 o0
 obtain ⟨F3,Z2,r0,p2,B2⟩:=W.form (by decide)
 have z:=N
 clear N
 subst r0
 have N:=z
 clear z
 refine zZ call110 (fun L w N a J=>?_) (fun L w N a J=>?_) (c:=oJ W y0 N)
 have T1:=L
 refine go fun a J=>?_
 replace N:=N.nilRow 9 1
 replace N:=N.nf
 refine zU (J.ks [1]) N (fun R mm a w=>∃(i2:Nat) (u:Value),mm=c.funs.length - i2/\R H [(4,u),(6,.int .i64 ((i2:Nat):Int))] [(0,.gs (u) 9 1 (strs ((c.funs.take i2).map Fun.name)))] a w/\(c.funs.all (wA c.datas)=(c.funs.drop i2).all (wA c.datas))) (c.funs.length - 0) ⟨0,.slice none 0 0,rfl,⟨J.pk,N⟩,rfl⟩ ?_
 clear N J
 rintro mm a w ⟨i2,u,B,⟨J,N⟩,A⟩ S2 M0
 replace N:=N.nf
 by_cases z0:i2 < c.funs.length
 refine go fun a J=>?_
 obtain ⟨C1,rfl,b,t,J1,g2,l0,G⟩:=D.el U z0
 obtain ⟨R3,W2,rfl,A0,Z⟩:=id G
 obtain ⟨w1,d1,rfl,q2,T0⟩:=A0.fm
 obtain ⟨x1,e1,y1,c143,rfl,c2,k3,l3,r2,C2,s2,D2⟩:=REx.fm Z
 refine Alc fun a1 w N a J=>?_
 refine Sto 0 fun w N a J=>?_
 refine qF fun D1 w N a J=>?_
 refine qQ 2 wT (fun J0 w N a J=>?_) (hb:=by rw [yG,List.length_map,List.length_take];simp only [lcQ,lnQ];omega)
 replace N:Mem H (.gs (D1) 9 1 [.string b.name]::.blk a1 (ob [.string b.name,.slice w1 b.params.length d1,.string b.result,.int .i64 (b.body.kind),.int .i64 (b.body.num),.string b.body.name,.slice x1 b.body.args.length e1,.slice y1 b.body.arms.length c143] 68)::.gs (J0) 9 1 (strs ((c.funs.take (i2+1)).map Fun.name))::.blk b1 (ob [.slice p3 c.datas.length c4,.slice p9 c.inputs.length c1,.slice (some C1) c.funs.length f1,.slice z1 c.outputs.length c22] 27)::K) w:=by rw [jY t,List.map_append,yW];exact N
 refine go fun a J=>?_
 refine zU (J.ks [1,4,6,7]) N (fun R mm a w=>∃(k:Nat),mm=b.params.length - k/\R H [(8,.int .i64 ((k:Nat):Int))] [] a w/\(b.params.all (fun p=>xA c.datas p.type)=(b.params.drop k).all (fun p=>xA c.datas p.type))) (b.params.length - 0) ⟨0,rfl,⟨J.pk,N⟩,rfl⟩ ?_
 clear N J
 rintro mm a w ⟨k,B,⟨J,N⟩,P⟩ T2 N0
 by_cases B0:k < b.params.length
 refine Reg [2,1,2,1,1,1,2,0,1] [0,1,2,3] fun w N a J=>?_
 refine go fun a J=>?_
 obtain ⟨N3,rfl,U3,s0,K1,j2,X1,V0⟩:=A0.el T0 B0
 obtain rfl:=id V0
 refine zZ call81 (fun M w N a J=>?_) (fun M w N a J=>?_) (c:=z5i s N)
 refine go fun a J=>?_
 refine N0 _ _ _ (by subst B;omega) ⟨(k+1),rfl,⟨J.pk,N⟩,?_⟩
 rw [P,zA s0,List.all_cons,M];rfl
 refine zF ?_
 replace N:=N.le (d)
 replace N:=N.dl [3,2,1,0]
 exact vP N (by exact (kD q r (by unfold kN;simp only [show c.funs.all (wA c.datas)=false by rw [A,zA t,List.all_cons];unfold wA;rw [P,zA s0,List.all_cons,M];rfl,Bool.false_and,Bool.and_false])).symm)
 have U0:b.params.all (fun p=>xA c.datas p.type)=true:=by rw [P,zB B0];rfl
 refine zZ call81 (fun a0 w N a J=>?_) (fun a0 w N a J=>?_) (c:=z5i s N)
 refine go fun a J=>?_
 refine j8f J rfl rfl rfl rfl rfl (pA J rfl call88 (x4p (f:=b) G (by have h_:=S0 b (mgQ t);omega) N) fun v171 w N a J=>?_)
 replace N:=N.nf
 have m0:=Cap.own N (i:=0) rfl
 have y:=N
 clear N
 obtain ⟨Z0,n,N,p0⟩:=y.freezeRow (i:=0) rfl
 clear y
 replace D:=D.up n
 replace I:=I.up n
 replace s:=s.up n
 replace l0:=l0.mono n
 replace G:=G.up n
 replace Z:=Z.up n
 replace N:=N.nf
 have X:SliceOf RStr Z0 1 _ ((b.params.map Param.name++zP b.body)):=SliceOf.strs.2 p0
 obtain ⟨G3,a3,r0,t2,E2⟩:=X.form (by decide)
 have z:=N
 clear N
 subst r0
 have N:=z
 clear z
 refine zZ call110 (fun b0 w N a J=>?_) (fun b0 w N a J=>?_) (c:=oJ X m0 N)
 refine go fun a J=>?_
 replace N:=N.le (n)
 replace N:=N.dl [1,0]
 refine M0 _ _ _ (by subst B;omega) ⟨(i2+1),(J0),rfl,⟨J.pk,N⟩,?_⟩
 rw [A,zA t,List.all_cons,show wA c.datas b=true by unfold wA;rw [U0,show xA c.datas b.result=true from (by first | assumption | exact wE (by assumption) | exact kM (by assumption)),show dH (b.params.map Param.name++zP b.body)=true from (by first | assumption | exact wE (by assumption) | exact kM (by assumption))];rfl];rfl
 refine zF ?_
 replace N:=N.le ((d).trans n)
 replace N:=N.dl [3,2,1,0]
 exact vP N (by exact (kD q r (by unfold kN;simp only [show c.funs.all (wA c.datas)=false by rw [A,zA t,List.all_cons];unfold wA;simp only [b0,Bool.and_false,Bool.false_and],Bool.false_and,Bool.and_false])).symm)
 refine zF ?_
 replace N:=N.le (d)
 replace N:=N.dl [3,2,1,0]
 exact vP N (by exact (kD q r (by unfold kN;simp only [show c.funs.all (wA c.datas)=false by rw [A,zA t,List.all_cons];unfold wA;simp only [a0,Bool.and_false,Bool.false_and],Bool.false_and,Bool.and_false])).symm)
 refine go fun a J=>?_
 have Q1:c.funs.all (wA c.datas)=true:=by rw [A,zB z0];rfl
 rw [List.take_of_length_le (l:=c.funs) (by omega)] at N
 replace N:=N.nf
 refine go fun a J=>?_
 have n0:=Cap.own N (i:=0) rfl
 have y:=N
 clear N
 obtain ⟨T,h,N,q0⟩:=y.freezeRow (i:=0) rfl
 clear y
 replace D:=D.up h
 replace I:=I.up h
 replace s:=s.up h
 replace N:=N.nf
 have Y:SliceOf RStr T 1 _ ((c.funs.map Fun.name)):=SliceOf.strs.2 q0
 obtain ⟨H3,b3,r0,u2,F2⟩:=Y.form (by decide)
 have z:=N
 clear N
 subst r0
 have N:=z
 clear z
 refine zZ call110 (fun c0 w N a J=>?_) (fun c0 w N a J=>?_) (c:=oJ Y n0 N)
 refine zZ call110 (fun e0 w N a J=>?_) (fun e0 w N a J=>?_) (c:=oJ I (b2 _ rfl) N)
 refine go fun a J=>?_
 have S1:dH (c.funs.map Fun.name)=true:=(by first | assumption | exact wE (by assumption) | exact kM (by assumption))
 have V1:dH c.outputs=true:=(by first | assumption | exact wE (by assumption) | exact kM (by assumption))
 refine go fun a J=>?_
 refine zU (J.ks [1]) N (fun R mm a w=>∃(i3:Nat),mm=c.funs.length - i3/\R T [(9,.int .i64 ((i3:Nat):Int))] [] a w/\(c.funs.all (nB c)=(c.funs.drop i3).all (nB c))) (c.funs.length - 0) ⟨0,rfl,⟨J.pk,N⟩,rfl⟩ ?_
 clear N J
 rintro mm a w ⟨i3,B,⟨J,N⟩,E⟩ U2 O0
 by_cases C0:i3 < c.funs.length
 refine Reg [2,1,2,1,1,1,2,1,2,1,1,1,2,0,1,1,1,1,1] [0] fun w N a J=>?_
 refine go fun a J=>?_
 obtain ⟨O3,rfl,e,C,L1,k2,Q0,W0⟩:=D.el U C0
 obtain ⟨S3,X2,rfl,D0,E0⟩:=id W0
 obtain ⟨I3,d3,rfl,v2,G2⟩:=D0.fm
 obtain ⟨A1,g1,B1,h1,rfl,d2,m3,n3,w2,H2,x2,I2⟩:=REx.fm E0
 refine Qq (fun a J=>?_) (o:=by exact fun J O=>jF 3 (vs:=[.int .i64 (e.body.kind),.int .i64 (e.body.num),.string e.body.name,.slice A1 e.body.args.length g1,.slice B1 e.body.arms.length h1]) J O rfl Q0 isAgg66 sizeOf66 rfl rfl)
 refine zO call111 (fun w N a J=>?_) (c:=x3k s D0 E0 o2 (S0 e (mgQ C)).2.1 (by have h_:=(S0 e (mgQ C));omega) N)
 refine go fun a J=>?_
 generalize a2:(!((zS c e.body e.params).2))=K0 at J
 cases K0
 by_cases j1:(zS c e.body e.params).1=e.result
 refine go fun a J=>?_
 refine O0 _ _ _ (by subst B;omega) ⟨(i3+1),rfl,⟨J.pk,N⟩,?_⟩
 rw [E,zA C,List.all_cons,show nB c e=true by unfold nB;rw [show (zS c e.body e.params).2=true from (by first | assumption | exact wE (by assumption) | exact kM (by assumption)),decide_eq_true (by assumption)];rfl];rfl
 refine zF ?_
 replace N:=N.le ((d).trans h)
 replace N:=N.dl [0]
 exact vP N (by exact (kD q r (by unfold kN;simp only [show c.funs.all (nB c)=false by rw [E,zA C,List.all_cons];unfold nB;simp only [decide_eq_false j1,Bool.and_false,Bool.false_and],Bool.false_and,Bool.and_false])).symm)
 refine zF ?_
 replace N:=N.le ((d).trans h)
 replace N:=N.dl [0]
 exact vP N (by exact (kD q r (by unfold kN;simp only [show c.funs.all (nB c)=false by rw [E,zA C,List.all_cons];unfold nB;simp only [show (zS c e.body e.params).2=false from (by first | assumption | exact wE (by assumption) | exact kM (by assumption)),Bool.and_false,Bool.false_and],Bool.false_and,Bool.and_false])).symm)
 have W1:c.funs.all (nB c)=true:=by rw [E,zB C0];rfl
 refine go fun a J=>?_
 refine zU (J.ks [1]) N (fun R mm a w=>∃(i4:Nat),mm=c.outputs.length - i4/\R T [(12,.int .i64 ((i4:Nat):Int))] [] a w/\(c.outputs.all (y2e c.funs)=(c.outputs.drop i4).all (y2e c.funs))) (c.outputs.length - 0) ⟨0,rfl,⟨J.pk,N⟩,rfl⟩ ?_
 clear N J
 rintro mm a w ⟨i4,B,⟨J,N⟩,F⟩ V2 P0
 by_cases F0:i4 < c.outputs.length
 refine Reg [2,1,2,1,1,2,0,1] [0] fun w N a J=>?_
 refine go fun a J=>?_
 obtain ⟨P3,rfl,w0,S,L0,l2,Y1,X0⟩:=I.el t1 F0
 obtain rfl:L0=[.string w0]:=X0
 refine zO call55 (fun w N a J=>?_) (c:=dQ s N)
 by_cases G0:xF c.funs w0 < 0
 refine zF ?_
 replace N:=N.le ((d).trans h)
 replace N:=N.dl [0]
 exact vP N (by exact (kD q r (by unfold kN;simp only [show c.outputs.all (y2e c.funs)=false by rw [F,zA S,List.all_cons,outR_no G0];rfl,Bool.false_and,Bool.and_false])).symm)
 refine go fun a J=>?_
 obtain ⟨j,hj⟩:=y0t G0
 have b4:=q9i hj
 rw [show xF c.funs w0=((j:Nat):Int) by rw [xF,hj]] at J
 refine go fun a J=>?_
 have R0:j < c.funs.length:=by omega
 obtain ⟨Q3,rfl,F1,t0,M1,m2,Z1,Y0⟩:=D.el U R0
 obtain ⟨T3,Y2,rfl,k1,l1⟩:=id Y0
 obtain ⟨J3,e3,rfl,y2,J2⟩:=k1.fm
 obtain ⟨K3,f3,L3,g3,rfl,e2,o3,q3,z2,K2,A2,L2⟩:=REx.fm l1
 by_cases r3:0 < F1.params.length
 refine zF ?_
 replace N:=N.le ((d).trans h)
 replace N:=N.dl [0]
 exact vP N (by exact (kD q r (by unfold kN;simp only [show c.outputs.all (y2e c.funs)=false by rw [F,zA S,List.all_cons,j8r hj t0,decide_eq_false (by omega)];rfl,Bool.false_and,Bool.and_false])).symm)
 refine go fun a J=>?_
 refine P0 _ _ _ (by subst B;omega) ⟨(i4+1),rfl,⟨J.pk,N⟩,?_⟩
 rw [F,zA S,List.all_cons,j8r hj t0,decide_eq_true (by omega)];rfl
 refine zF ?_
 replace N:=N.le ((d).trans h)
 replace N:=N.dl [0]
 exact vP N (by exact (x4y q r (by unfold kN;rw [P1,U1,R1,T1,Q1,S1,V1,W1,show c.outputs.all (y2e c.funs)=true by rw [F,zB F0];rfl];rfl)).symm)
 refine zF ?_
 replace N:=N.le ((d).trans h)
 replace N:=N.dl [0]
 exact vP N (by exact (kD q r (by unfold kN;simp only [e0,Bool.false_and,Bool.and_false])).symm)
 refine zF ?_
 replace N:=N.le ((d).trans h)
 replace N:=N.dl [0]
 exact vP N (by exact (kD q r (by unfold kN;simp only [c0,Bool.false_and,Bool.and_false])).symm)
 refine zF ?_
 replace N:=N.le (d)
 replace N:=N.dl [0]
 exact vP N (by exact (kD q r (by unfold kN;simp only [L,Bool.false_and,Bool.and_false])).symm)
 refine zF ?_
 replace N:=N.dl [0]
 exact vP N (by exact (kD q r (by unfold kN;simp only [h0,Bool.false_and,Bool.and_false])).symm)
section
variable {V:Fz} {K:List Res} {w:World}
theorem j2e {d0:List Value} {v:Val} {most:Nat} (t:RVal V d0 v) (h1:most<=1000000) (T:∀x:Val,x.sz < v.sz->∀{V:Fz} {K:List Res} {w:World} {d:List Value} {most:Nat},most<=1000000->RVal V d x->Mem V K w->Calls prog 113 #[.agg d.toArray,.int .i64 (most:Int)] w (fun ee w'=>ee=.returned (.int .i64 ((vY x most:Nat):Int))/\Mem V K w')) (N:Mem V K w) :
  Calls prog 113 #[.agg d0.toArray,.int .i64 (most:Int)] w (fun ee w'=>ee=.returned (.int .i64 (((vY v most:Nat):Int)))/\Mem V K w'):=by
 obtain ⟨U,c4,rfl,L,G,M,s⟩:=RVal.fm t
 refine zK func113 ntmps113 fun Q hQ a J=>?_
 refine Bx fun E w N a J=>?_
 refine goJ 6 fun a J=>?_
 refine sq fun p l=>?_
 have e:∀a w,(∃(n:Nat),EnvR 31 [(5,.int .i64 ((n:Nat):Int))] [] a/\Mem V (.blk E (ob [.string v.con,.int .i64 (v.num),.slice U v.args.length c4] 42)::K) w/\(vY v most=n))->p a w:=by
  clear N J
  rintro a w ⟨n,J,N,j⟩
  apply l
  refine zF ?_
  replace N:=N.dl [0]
  exact vP N (by rw [j])
 refine go fun a J=>?_
 refine zU (J.ks [1,2]) N (fun R mm a w=>∃(i:Nat) (n:Nat),mm=v.args.length - i/\R V [(5,.int .i64 ((n:Nat):Int)),(6,.int .i64 ((i:Nat):Int))] [] a w/\(1<=n/\n<=most+1/\vY v most=vsizeRs (v.args.drop i) most n)) (v.args.length - 0) ⟨0,1,rfl,⟨J.pk,N⟩,⟨by omega,by omega,x3m v most⟩⟩ ?_
 clear N J
 rintro mm a w ⟨i,n,r,⟨J,N⟩,k⟩ D m
 obtain ⟨P,S,h⟩:=k
 by_cases q:i < v.args.length
 by_cases H:n<=most
 refine go fun a J=>?_
 obtain ⟨X,rfl,b,g,u,A,y,f⟩:=G.el s q
 obtain ⟨W,F,rfl,z,I,B,C⟩:=RVal.fm f
 refine Qq (fun a J=>?_) (o:=by exact fun J O=>xX ((most - n:Nat):Int) J rfl rfl (by rw [yD (by omega)];omega))
 refine zO call113 (fun w N a J=>?_) (c:=T _ (Val.lt_args (mgQ g)) (by omega) f N)
 refine Qq (fun a J=>?_) (o:=by exact fun J O=>z1m ((n+(vY b (most - n)):Nat):Int) J rfl rfl (by have h_:=z4g b (most - n);rw [yD (by omega)];omega))
 refine go fun a J=>?_
 refine m _ _ _ (by subst r;omega) ⟨(i+1),(n+(vY b (most - n))),rfl,⟨J.pk,N⟩,?_⟩
 have h_:=z4g b (most - n);exact ⟨by omega,by omega,by rw [h,zA g,q6u,if_pos (by omega)]⟩
 refine go fun a J=>?_
 exact e _ _ ⟨n,J.pk,N,by rw [h,y1m (by omega)]⟩
 refine go fun a J=>?_
 exact e _ _ ⟨n,J.pk,N,by rw [h,y1m (by omega)]⟩
theorem j6p {d:List Value} {v:Val} {most:Nat} (h1:most<=1000000) (re:RVal V d v) (N:Mem V K w) :
  Calls prog 113 #[.agg d.toArray,.int .i64 (most:Int)] w (fun ee w'=>ee=.returned (.int .i64 ((vY v most:Nat):Int))/\Mem V K w'):=by
 suffices H:∀n (v:Val),v.sz < n->∀{V:Fz} {K:List Res} {w:World} {d:List Value} {most:Nat},most<=1000000->RVal V d v->Mem V K w->Calls prog 113 #[.agg d.toArray,.int .i64 (most:Int)] w (fun ee w'=>ee=.returned (.int .i64 ((vY v most:Nat):Int))/\Mem V K w') from H _ v (Nat.lt_succ_self _) h1 re N
 intro n
 induction n with
 | zero=>intro v h;omega
 | succ n b=>intro v h V K w d most h1 re N;exact j2e re h1 (fun x c _ _ _ _ _ a r m=>b x (by omega) a r m) N
theorem y4y {ds:List Data} {v:Val} {n:Bs} (h:n=yH):mG ds v n=(decide (v.con=sNo)&&decide (v.args.length=0)):=by cases v;simp only [mG,if_pos h];rfl
theorem q1p {ds:List Data} {v:Val} {n:Bs} (h:¬n=yH) (h1:(yK ds n).isSome=false∨¬v.num=0):mG ds v n=false:=by
 cases v with
 | mk con num args=>
  simp only [mG,if_neg h]
  cases a:yK ds n with
  | none=>rfl
  | some d=>rw [a] at h1;exact if_pos (h1.resolve_left (by simp))
theorem q9t {ds:List Data} {v:Val} {n:Bs} (h:¬n=yH) (h1:vL ((yK ds n).getD aL).cons v.con=none):mG ds v n=false:=by
 cases v with
 | mk con num args=>
  simp only [mG,if_neg h]
  cases a:yK ds n with
  | none=>rfl
  | some d=>
   rw [a] at h1
   have h1:vL d.cons con=none:=h1
   simp only [h1];split <;> rfl
theorem z2d {ds:List Data} {v:Val} {n:Bs} {x:Con} (h:¬n=yH) (a:(yK ds n).isSome=true) (c:v.num=0) (h1:vL ((yK ds n).getD aL).cons v.con=some x):mG ds v n=(decide (v.args.length=x.fields.length)&&isValsR ds v.args x.fields):=by
 cases v with
 | mk con num args=>
  simp only [mG,if_neg h]
  cases b:yK ds n with
  | none=>rw [b] at a;cases a
  | some d=>
   rw [b] at h1
   have h1:vL d.cons con=some x:=h1
   simp only [h1,if_neg (show ¬num≠0 from fun g=>g c)];rfl
theorem z6t {ds:List Data} {v:Val} {vs:List Val} {f:Bs} {fs:List Bs}:isValsR ds (v::vs) (f::fs)=(mG ds v f&&isValsR ds vs fs):=rfl
theorem z3z {d0:List Value} {v:Val} (b:RVal V d0 v) (N:Mem V K w) :
  Calls prog 56 #[.agg d0.toArray] w (fun ee w'=>ee=.returned (.bool (z0g v))/\Mem V K w'):=by
 obtain ⟨k,c4,rfl,d,h,e,f⟩:=RVal.fm b
 refine zK func56 ntmps56 fun Q hQ a J=>?_
 refine Bx fun g w N a J=>?_
 refine zO call113 (fun w N a J=>?_) (c:=j6p (most:=4000) (by omega) b N)
 refine Qq (fun a J=>?_) (o:=by exact fun J O=>j6y (i:=(vY v 4000)) (j:=4000) J rfl rfl)
 refine zF ?_
 replace N:=N.dl [0]
 exact zM N (by first | rfl | simp [z0g, *])
theorem q9u {d0:List Value} {c:Core} {name:Bs} {d2:List Value} {v:Val} (p:RCore V d0 c) (A:RVal V d2 v) (ih:∀x:Val,x.sz < v.sz->∀{V:Fz} {K:List Res} {w:World} {d0:List Value} {name:Bs} {d2:List Value},RCore V d0 c->RVal V d2 x->Mem V K w->Calls prog 65 #[.agg d0.toArray,.string name,.agg d2.toArray] w (fun ee w'=>ee=.returned (.bool (mG c.datas x name))/\Mem V K w')) (N:Mem V K w) :
  Calls prog 65 #[.agg d0.toArray,.string name,.agg d2.toArray] w (fun ee w'=>ee=.returned (.bool (mG c.datas v name))/\Mem V K w'):=by
 obtain ⟨p3,c4,p9,I0,W0,J0,X0,c22,rfl,h2,h8,O0,P0,T0,U0,q0,x0,r0,y0,s0,z0⟩:=RCore.fm p
 obtain ⟨Y0,K0,rfl,o0,u,t0,S⟩:=RVal.fm A
 refine zK func65 ntmps65 fun Q hQ a J=>?_
 refine Bx fun F0 w N a J=>?_
 refine Bx fun G0 w N a J=>?_
 by_cases Q0:name=(⟨#[73,110,116]⟩:Bs)
 by_cases R0:v.con=(⟨#[]⟩:Bs)
 refine Qq (fun a J=>?_) (o:=by exact fun J O=>pS (i:=v.args.length) (j:=0) J rfl rfl)
 refine zF ?_
 replace N:=N.dl [1,0]
 exact zM N (by rw [y4y (by assumption)];simp [sNo, *])
 refine zF ?_
 replace N:=N.dl [1,0]
 exact zM N (by rw [y4y (by assumption)];simp [sNo, *])
 have d:¬name=yH:=by assumption
 refine yP call118 (fun i0 w I N a J=>?_) (c:=z5c p N)
 obtain ⟨t,N0⟩:=i0
 obtain ⟨b,q⟩:=I
 simp only at b q N J
 replace p:=p.up b
 replace u:=u.up b
 replace A:=A.up b
 replace N:=N.nf
 obtain ⟨d1,rfl,D⟩:=id q
 obtain ⟨Z0,L0,rfl,u0,T⟩:=D.fm
 refine Alc fun H0 w N a J=>?_
 refine Sto 0 fun w N a J=>?_
 refine go fun a J=>?_
 generalize n0:(!(yK c.datas name).isSome)=B at J
 cases B
 by_cases S0:v.num=0
 refine go fun a J=>?_
 refine zU (J.ks [3,5,7]) N (fun R mm a w=>∃(i:Nat),mm=((yK c.datas name).getD aL).cons.length - i/\R t [(9,.int .i64 ((i:Nat):Int))] [] a w/\(vL ((yK c.datas name).getD aL).cons v.con=vL (((yK c.datas name).getD aL).cons.drop i) v.con)) (((yK c.datas name).getD aL).cons.length - 0) ⟨0,rfl,⟨J.pk,N⟩,rfl⟩ ?_
 clear N J
 rintro mm a w ⟨i,y,⟨J,N⟩,l⟩ D0 L
 by_cases E:i < ((yK c.datas name).getD aL).cons.length
 refine Reg [1,2,1,1,1,2,1,2,1] [0,1,2] fun w N a J=>?_
 refine go fun a J=>?_
 obtain ⟨b1,rfl,h,r,k0,p0,m0,W⟩:=D.el T E
 obtain ⟨e1,rfl,F⟩:=id W
 obtain ⟨a1,M0,rfl,w0,U⟩:=F.fm
 by_cases G:h.name=v.con
 refine Reg [1,2,1,1,2,1,1,1,2,1,1] [0,1,2] fun w N a J=>?_
 have f:vL ((yK c.datas name).getD aL).cons v.con=some h:=by rw [l,zA r,vL,if_pos G]
 by_cases Y:v.args.length=h.fields.length
 refine go fun a J=>?_
 refine zU (J.ks [3,5,7,9]) N (fun R mm a w=>∃(k:Nat),mm=v.args.length - k/\R t [(10,.int .i64 ((k:Nat):Int))] [] a w/\(isValsR c.datas v.args h.fields=isValsR c.datas (v.args.drop k) (h.fields.drop k))) (v.args.length - 0) ⟨0,rfl,⟨J.pk,N⟩,rfl⟩ ?_
 clear N J
 rintro mm a w ⟨k,y,⟨J,N⟩,m⟩ E0 M
 by_cases H:k < v.args.length
 refine Reg [2,1,2,1,1,1,2,1,1,2,1,2,1,1,2,0,1] [0,1,2] fun w N a J=>?_
 refine go fun a J=>?_
 have P:k < h.fields.length:=by omega
 obtain ⟨c1,rfl,h0,s,C,c0,Z,z⟩:=F.el U P
 obtain rfl:C=[.string h0]:=z
 refine go fun a J=>?_
 obtain ⟨B0,rfl,C0,g,X,e0,a0,n⟩:=u.el S H
 obtain ⟨A0,j0,rfl,b0,l0,f0,g0⟩:=RVal.fm n
 refine zZ call65 (fun e w N a J=>?_) (fun e w N a J=>?_) (c:=ih _ (Val.lt_args (mgQ g)) p n N)
 refine go fun a J=>?_
 refine M _ _ _ (by subst y;omega) ⟨(k+1),rfl,⟨J.pk,N⟩,?_⟩
 rw [m,zA g,zA s,z6t,e];rfl
 refine zF ?_
 replace N:=N.le (b)
 replace N:=N.dl [2,1,0]
 exact zM N (by rw [z2d d (by first | assumption | exact wE (by assumption) | exact kM (by assumption)) (by assumption) f,m,zA g,zA s,z6t,e];simp)
 refine zF ?_
 replace N:=N.le (b)
 replace N:=N.dl [2,1,0]
 exact zM N (by rw [z2d d (by first | assumption | exact wE (by assumption) | exact kM (by assumption)) (by assumption) f,m,zB H,decide_eq_true (by omega)];rfl)
 refine zF ?_
 replace N:=N.le (b)
 replace N:=N.dl [2,1,0]
 exact zM N (by rw [z2d d (by first | assumption | exact wE (by assumption) | exact kM (by assumption)) (by assumption) f,decide_eq_false Y];rfl)
 refine go fun a J=>?_
 refine L _ _ _ (by subst y;omega) ⟨(i+1),rfl,⟨J.pk,N⟩,?_⟩
 rw [l,zA r,vL,if_neg G]
 refine zF ?_
 replace N:=N.le (b)
 replace N:=N.dl [2,1,0]
 exact zM N (by exact (q9t d (by rw [l,zB E,vL])).symm)
 refine zF ?_
 replace N:=N.le (b)
 replace N:=N.dl [2,1,0]
 exact zM N (by exact (q1p d (by first | exact .inl (by assumption) | exact .inl (kM (by assumption)) | exact .inr (by assumption))).symm)
 refine zF ?_
 replace N:=N.le (b)
 replace N:=N.dl [2,1,0]
 exact zM N (by exact (q1p d (by first | exact .inl (by assumption) | exact .inl (kM (by assumption)) | exact .inr (by assumption))).symm)
theorem y4x {d0:List Value} {c:Core} {name:Bs} {d2:List Value} {v:Val} (a:RCore V d0 c) (b:RVal V d2 v) (N:Mem V K w) :
  Calls prog 65 #[.agg d0.toArray,.string name,.agg d2.toArray] w (fun ee w'=>ee=.returned (.bool (mG c.datas v name))/\Mem V K w'):=by
 suffices H:∀n (v:Val),v.sz < n->∀{V:Fz} {K:List Res} {w:World} {d0:List Value} {name:Bs} {d2:List Value},RCore V d0 c->RVal V d2 v->Mem V K w->Calls prog 65 #[.agg d0.toArray,.string name,.agg d2.toArray] w (fun ee w'=>ee=.returned (.bool (mG c.datas v name))/\Mem V K w') from H _ v (Nat.lt_succ_self _) a b N
 intro n
 induction n with
 | zero=>intro v h;omega
 | succ n e=>intro v h V K w d0 name d2 d g1 m;exact q9u d g1 (fun x i _ _ _ _ _ _ f g m=>e x (by omega) f g m) m
theorem y1q {d0:List Value} {c:Core} {v1:Value} {l:List Named} (j:RCore V d0 c) (A:SliceOf RNamed V 4 v1 l) (C:∀v,d0[3]? = some v->Cap v) (N:Mem V K w) :
  Calls prog 32 #[.agg d0.toArray,v1] w (fun ee w'=>ee=.returned (.int .i64 (qV c l))/\Mem V K w'):=by
 obtain ⟨p3,c4,p9,f0,q0,g0,r0,c22,rfl,h2,h8,h0,i0,o0,p0,S,t,T,X,U,Y⟩:=RCore.fm j
 obtain ⟨p1,c1,rfl,n0,E⟩:=A.fm
 have s:=C
 refine zK func32 ntmps32 fun Q hQ a J=>?_
 refine Bx fun c0 w N a J=>?_
 refine zO call52 (fun w N a J=>?_) (c:=z4z j s N)
 by_cases B:jP c=0
 by_cases j0:l.length=c.inputs.length
 refine go fun a J=>?_
 refine zU (J.ks [1,2]) N (fun R mm a w=>∃(i:Nat),mm=l.length - i/\R V [(6,.int .i64 ((i:Nat):Int))] [] a w/\(aK c.datas l c.inputs=aK c.datas (l.drop i) (c.inputs.drop i))) (l.length - 0) ⟨0,rfl,⟨J.pk,N⟩,rfl⟩ ?_
 clear N J
 rintro mm a w ⟨i,D,⟨J,N⟩,b⟩ b0 q
 by_cases m:i < l.length
 refine Reg [1,1,1,1,2,1,2,1,1,1,2,1,1,1,1,1,1,2,0,1,1,2,1,2,1,1,1,2,1,1,1,1,2,0,1,1] [0] fun w N a J=>?_
 refine go fun a J=>?_
 obtain ⟨s0,rfl,d,e,G,M,g,u⟩:=A.el E m
 obtain ⟨e0,rfl,h⟩:=id u
 obtain ⟨z,k,rfl,L,k0,W,Z⟩:=RVal.fm h
 refine go fun a J=>?_
 have r:i < c.inputs.length:=by omega
 obtain ⟨t0,rfl,F,f,H,P,I,y⟩:=h8.el t r
 obtain rfl:=id y
 by_cases l0:d.name=F.name
 refine Qq (fun a J=>?_) (o:=by exact fun J O=>jF 1 (vs:=[.string d.value.con,.int .i64 (d.value.num),.slice z d.value.args.length k]) J O rfl g isAgg42 sizeOf42 rfl rfl)
 refine zZ call56 (fun n w N a J=>?_) (fun n w N a J=>?_) (c:=z3z h N)
 refine zF ?_
 replace N:=N.dl [0]
 exact vP N (by rw [qV,if_neg (by simp [*]),if_neg (by omega),show aK c.datas l c.inputs=false by rw [b,zA e,zA f,aK];simp [*]];rfl)
 refine Qq (fun a J=>?_) (o:=by exact fun J O=>jF 1 (vs:=[.string d.value.con,.int .i64 (d.value.num),.slice z d.value.args.length k]) J O rfl g isAgg42 sizeOf42 rfl rfl)
 refine zZ call65 (fun p w N a J=>?_) (fun p w N a J=>?_) (c:=y4x j h N)
 refine go fun a J=>?_
 refine q _ _ _ (by subst D;omega) ⟨(i+1),rfl,⟨J.pk,N⟩,?_⟩
 rw [b,zA e,zA f,aK];simp [*]
 refine zF ?_
 replace N:=N.dl [0]
 exact vP N (by rw [qV,if_neg (by simp [*]),if_neg (by omega),show aK c.datas l c.inputs=false by rw [b,zA e,zA f,aK];simp [*]];rfl)
 refine zF ?_
 replace N:=N.dl [0]
 exact vP N (by rw [qV,if_neg (by simp [*]),if_neg (by omega),show aK c.datas l c.inputs=false by rw [b,zA e,zA f,aK];simp [*]];rfl)
 refine zF ?_
 replace N:=N.dl [0]
 exact vP N (by rw [qV,if_neg (by simp [*]),if_neg (by omega),show aK c.datas l c.inputs=true by rw [b,zB m,aK]];rfl)
 refine zF ?_
 replace N:=N.dl [0]
 exact vP N (by simp [qV, *])
 refine zF ?_
 replace N:=N.dl [0]
 exact vP N (by rw [qV,if_pos B])
end
theorem q9g {V:Fz} {K:List Res} {w:World} {p:Value} {l:List Named} {name:Bs} (n:SliceOf RNamed V 4 p l) (N:Mem V K w) :
  Calls prog 164 #[p,.string name] w (fun ee w'=>∃y:Fz×List Value,ee=.returned (.agg y.2.toArray)/\(V.Le y.1/\RVal y.1 y.2 (z4n l name))/\Mem y.1 K w'):=by
 obtain ⟨S,c0,rfl,H,u⟩:=n.fm
 refine zK func164 ntmps164 fun Q hQ a J=>?_
 refine Alc fun M w N a J=>?_
 refine Qq (fun a J=>?_) (o:=by exact fun J O=>xX (((l.length:Nat):Int) - 1) J rfl rfl (yD (by omega)))
 refine go fun a J=>?_
 refine zU (J.ks [0,1,4]) N (fun R mm a w=>∃(k:Nat),mm=k/\R V [(5,.int .i64 (((k:Nat):Int) - 1))] [] a w/\(k<=l.length/\z4n l name=z4n (l.take k) name)) (l.length) ⟨l.length,rfl,⟨J.pk,N⟩,⟨Nat.le_refl _,by rw [List.take_length]⟩⟩ ?_
 clear N J
 rintro mm a w ⟨k,t,⟨J,N⟩,r⟩ L s
 obtain ⟨G,d⟩:=r
 by_cases P:0<=((k:Nat):Int) - 1
 refine go fun a J=>?_
 rw [show ((k:Nat):Int) - 1=((k - 1:Nat):Int) by omega] at J
 refine go fun a J=>?_
 have j:(k - 1) < l.length:=by omega
 obtain ⟨I,rfl,b,c,z,B,i,m⟩:=n.el u j
 obtain ⟨E,rfl,f⟩:=id m
 obtain ⟨v,c25,rfl,A,F,C,D⟩:=RVal.fm f
 refine go fun a J=>?_
 by_cases h:b.name=name
 refine go fun a J=>?_
 refine Qq (fun a J=>?_) (o:=by exact fun J O=>jF 1 (vs:=[.string b.value.con,.int .i64 (b.value.num),.slice v b.value.args.length c25]) J O rfl i isAgg42 sizeOf42 rfl rfl)
 refine Sto 0 fun w N a J=>?_
 refine go fun a J=>?_
 have e:=N
 replace N:=N.dl [0]
 refine qG (N:=e) ?_
 have q:z4n l name=_:=(by rw [d,show k=(k - 1)+1 by omega,jY c,y4e,if_pos (h).symm]:z4n l name=b.value)
 rw [q];exact ⟨(V,_),rfl,⟨Fz.Le.refl _,f⟩,N⟩
 refine Qq (fun a J=>?_) (o:=by exact fun J O=>xX (((k - 1:Nat):Int) - 1) J rfl rfl (yD (by omega)))
 refine go fun a J=>?_
 refine s _ _ _ (by subst t;omega) ⟨(k - 1),rfl,⟨J.pk,N⟩,?_⟩
 exact ⟨by omega,by rw [d,show k=(k - 1)+1 by omega,jY c,y4e,if_neg (fun g=>h g.symm)];rfl⟩
 refine zX fun a J=>?_
 refine Sto 0 fun w N a J=>?_
 refine go fun a J=>?_
 have e:=N
 replace N:=N.dl [0]
 refine qG (N:=e) ?_
 have q:z4n l name=_:=(by rw [d,show k=0 by omega];rfl:z4n l name=v0)
 rw [q];exact ⟨(V,_),rfl,⟨Fz.Le.refl _,RVal.iff.2 ⟨_,rfl,(show I64 0 from ⟨by decide,by decide⟩),SliceOf.nil 3⟩⟩,N⟩
theorem j9z {V:Fz} {K:List Res} {w:World} {op:Bs} {x y:Int} (c:I64 x) (hb:I64 y) (n:opT op≠sNo) (N:Mem V K w) :
  Calls prog 165 #[.string op,.int .i64 x,.int .i64 y] w (fun ee w'=>∃yy:Fz×List Value,ee=.returned (.agg yy.2.toArray)/\(V.Le yy.1/\RVal yy.1 yy.2 (yJ op x y))/\Mem yy.1 K w'):=by
 refine zK func165 ntmps165 fun Q hQ a J=>?_
 refine Alc fun p w N a J=>?_
 by_cases q:op=(⟨#[43]⟩:Bs)
 refine Qq (fun a J=>?_) (o:=by exact fun J O=>z1m _ J rfl rfl rfl)
 refine zX fun a J=>?_
 refine Sto 0 fun w N a J=>?_
 refine go fun a J=>?_
 have b:=N
 replace N:=N.dl [0]
 refine qG (N:=b) ?_
 exact ⟨(V,_),rfl,⟨Fz.Le.refl _,by
  rw [show yJ op x y=Val.mk (⟨#[]⟩:Bs) (IntKind.i64.wrap (x+y)) [] by simp [yJ,gQ,v0,pY,sNo,nT,kR, *]]
  exact RVal.iff.2 ⟨_,rfl,(by first | exact I64.of_wrap _ | exact vN c | exact (show I64 0 from ⟨by decide,by decide⟩)),SliceOf.nil 3⟩⟩,N⟩
 by_cases g:op=(⟨#[45]⟩:Bs)
 refine Qq (fun a J=>?_) (o:=by exact fun J O=>xX _ J rfl rfl rfl)
 refine zX fun a J=>?_
 refine Sto 0 fun w N a J=>?_
 refine go fun a J=>?_
 have b:=N
 replace N:=N.dl [0]
 refine qG (N:=b) ?_
 exact ⟨(V,_),rfl,⟨Fz.Le.refl _,by
  rw [show yJ op x y=Val.mk (⟨#[]⟩:Bs) (IntKind.i64.wrap (x - y)) [] by simp [yJ,gQ,v0,pY,sNo,nT,kR, *]]
  exact RVal.iff.2 ⟨_,rfl,(by first | exact I64.of_wrap _ | exact vN c | exact (show I64 0 from ⟨by decide,by decide⟩)),SliceOf.nil 3⟩⟩,N⟩
 by_cases h:op=(⟨#[42]⟩:Bs)
 refine Qq (fun a J=>?_) (o:=by exact fun J O=>j9u _ J rfl rfl rfl)
 refine zX fun a J=>?_
 refine Sto 0 fun w N a J=>?_
 refine go fun a J=>?_
 have b:=N
 replace N:=N.dl [0]
 refine qG (N:=b) ?_
 exact ⟨(V,_),rfl,⟨Fz.Le.refl _,by
  rw [show yJ op x y=Val.mk (⟨#[]⟩:Bs) (IntKind.i64.wrap (x * y)) [] by simp [yJ,gQ,v0,pY,sNo,nT,kR, *]]
  exact RVal.iff.2 ⟨_,rfl,(by first | exact I64.of_wrap _ | exact vN c | exact (show I64 0 from ⟨by decide,by decide⟩)),SliceOf.nil 3⟩⟩,N⟩
 refine go fun a J=>?_
 by_cases i:op=(⟨#[47]⟩:Bs)
 by_cases d:y=0
 refine zX fun a J=>?_
 refine Sto 0 fun w N a J=>?_
 refine go fun a J=>?_
 have b:=N
 replace N:=N.dl [0]
 refine qG (N:=b) ?_
 exact ⟨(V,_),rfl,⟨Fz.Le.refl _,by
  rw [show yJ op x y=Val.mk (⟨#[]⟩:Bs) (0) [] by simp [yJ,gQ,v0,pY,sNo,nT,kR, *]]
  exact RVal.iff.2 ⟨_,rfl,(by first | exact I64.of_wrap _ | exact vN c | exact (show I64 0 from ⟨by decide,by decide⟩)),SliceOf.nil 3⟩⟩,N⟩
 refine Qq (fun a J=>?_) (o:=by exact fun J O=>y_quo _ J rfl rfl d rfl)
 refine zX fun a J=>?_
 refine Sto 0 fun w N a J=>?_
 refine go fun a J=>?_
 have b:=N
 replace N:=N.dl [0]
 refine qG (N:=b) ?_
 exact ⟨(V,_),rfl,⟨Fz.Le.refl _,by
  rw [show yJ op x y=Val.mk (⟨#[]⟩:Bs) (IntKind.i64.wrap (x.tdiv y)) [] by simp [yJ,gQ,v0,pY,sNo,nT,kR, *]]
  exact RVal.iff.2 ⟨_,rfl,(by first | exact I64.of_wrap _ | exact vN c | exact (show I64 0 from ⟨by decide,by decide⟩)),SliceOf.nil 3⟩⟩,N⟩
 by_cases j:op=(⟨#[37]⟩:Bs)
 by_cases e:y=0
 refine zX fun a J=>?_
 refine Sto 0 fun w N a J=>?_
 refine go fun a J=>?_
 have b:=N
 replace N:=N.dl [0]
 refine qG (N:=b) ?_
 exact ⟨(V,_),rfl,⟨Fz.Le.refl _,by
  rw [show yJ op x y=Val.mk (⟨#[]⟩:Bs) (0) [] by simp [yJ,gQ,v0,pY,sNo,nT,kR, *]]
  exact RVal.iff.2 ⟨_,rfl,(by first | exact I64.of_wrap _ | exact vN c | exact (show I64 0 from ⟨by decide,by decide⟩)),SliceOf.nil 3⟩⟩,N⟩
 refine Qq (fun a J=>?_) (o:=by exact fun J O=>y_rem _ J rfl rfl e rfl)
 refine zX fun a J=>?_
 refine Sto 0 fun w N a J=>?_
 refine go fun a J=>?_
 have b:=N
 replace N:=N.dl [0]
 refine qG (N:=b) ?_
 exact ⟨(V,_),rfl,⟨Fz.Le.refl _,by
  rw [show yJ op x y=Val.mk (⟨#[]⟩:Bs) (x.tmod y) [] by simp [yJ,gQ,v0,pY,sNo,nT,kR, *]]
  exact RVal.iff.2 ⟨_,rfl,(by first | exact I64.of_wrap _ | exact vN c | exact (show I64 0 from ⟨by decide,by decide⟩)),SliceOf.nil 3⟩⟩,N⟩
 by_cases k:op=(⟨#[60]⟩:Bs)
 by_cases l:x < y
 refine zX fun a J=>?_
 refine Sto 0 fun w N a J=>?_
 refine go fun a J=>?_
 have b:=N
 replace N:=N.dl [0]
 refine qG (N:=b) ?_
 exact ⟨(V,_),rfl,⟨Fz.Le.refl _,by
  rw [show yJ op x y=Val.mk (⟨#[84,114,117,101]⟩:Bs) (0) [] by simp [yJ,gQ,v0,pY,sNo,nT,kR, *]]
  exact RVal.iff.2 ⟨_,rfl,(by first | exact I64.of_wrap _ | exact vN c | exact (show I64 0 from ⟨by decide,by decide⟩)),SliceOf.nil 3⟩⟩,N⟩
 refine zX fun a J=>?_
 refine Sto 0 fun w N a J=>?_
 refine go fun a J=>?_
 have b:=N
 replace N:=N.dl [0]
 refine qG (N:=b) ?_
 exact ⟨(V,_),rfl,⟨Fz.Le.refl _,by
  rw [show yJ op x y=Val.mk (⟨#[70,97,108,115,101]⟩:Bs) (0) [] by simp [yJ,gQ,v0,pY,sNo,nT,kR, *]]
  exact RVal.iff.2 ⟨_,rfl,(by first | exact I64.of_wrap _ | exact vN c | exact (show I64 0 from ⟨by decide,by decide⟩)),SliceOf.nil 3⟩⟩,N⟩
 refine go fun a J=>?_
 have f:op=⟨#[61]⟩:=by rcases x4j n with h_ | h_ | h_ | h_ | h_ | h_ | h_ <;> first | assumption | contradiction
 by_cases m:x=y
 refine zX fun a J=>?_
 refine Sto 0 fun w N a J=>?_
 refine go fun a J=>?_
 have b:=N
 replace N:=N.dl [0]
 refine qG (N:=b) ?_
 exact ⟨(V,_),rfl,⟨Fz.Le.refl _,by
  rw [show yJ op x y=Val.mk (⟨#[84,114,117,101]⟩:Bs) (0) [] by simp [yJ,gQ,v0,pY,sNo,nT,kR, *]]
  exact RVal.iff.2 ⟨_,rfl,(by first | exact I64.of_wrap _ | exact vN c | exact (show I64 0 from ⟨by decide,by decide⟩)),SliceOf.nil 3⟩⟩,N⟩
 refine zX fun a J=>?_
 refine Sto 0 fun w N a J=>?_
 refine go fun a J=>?_
 have b:=N
 replace N:=N.dl [0]
 refine qG (N:=b) ?_
 exact ⟨(V,_),rfl,⟨Fz.Le.refl _,by
  rw [show yJ op x y=Val.mk (⟨#[70,97,108,115,101]⟩:Bs) (0) [] by simp [yJ,gQ,v0,pY,sNo,nT,kR, *]]
  exact RVal.iff.2 ⟨_,rfl,(by first | exact I64.of_wrap _ | exact vN c | exact (show I64 0 from ⟨by decide,by decide⟩)),SliceOf.nil 3⟩⟩,N⟩
theorem y0i {c:Core} {l:List Named} {g:Nat} (hF:y9u c) (ih:y9t Tryz.prog c l g):ApplyR Tryz.prog c l g:=by
 intro V K w d v2 args f j fu rW hj ra n0 l0 m0 a0 N
 obtain ⟨G1,y1,H1,z1,I1,A1,J1,B1,K1,C1,rfl,rWc,w0,m1,D1,A0,E1,F1⟩:=RWorld.fm rW
 obtain ⟨p2,c2,rfl,l1,s0⟩:=ra.fm
 obtain ⟨M,k0⟩:=y3e a0
 have X:j < c.funs.length:=(List.getElem?_eq_some_iff.1 hj).1
 obtain ⟨X0,c0⟩:=hF _ (mgQ hj)
 refine zK Tryz.func54 Tryz.ntmps54 fun Q hQ a J=>?_
 refine Bx fun b2 w N a J=>?_
 refine Alc fun b3 w N a J=>?_
 refine go fun a J=>?_
 obtain ⟨q5,rfl,z,x0,f1,k1,p,n⟩:=w0.el A0 X
 obtain ⟨v1,a1,rfl,P,q⟩:=id n
 obtain ⟨o1,c1,rfl,N0,Y⟩:=P.fm
 obtain ⟨p1,c23,q1,d1,rfl,G0,g1,h1,O0,S0,P0,T0⟩:=REx.fm q
 refine go fun a J=>?_
 obtain rfl:z=f:=Option.some.inj (x0.symm.trans hj)
 refine Alc fun b1 w N a J=>?_
 refine Sto 0 fun w N a J=>?_
 refine go fun a J=>?_
 replace N:=N.nilRow 62 4
 replace N:=N.nf
 refine zU (J.ks [2,3,4,8,9]) N (fun R mm a w=>∃(i:Nat) (u:Value) (cs:List Value) (nl:List Named),mm=z.params.length - i/\R V [(10,u),(11,.int .i64 ((i:Nat):Int))] [(0,.gs (u) 62 4 cs)] a w/\(Chunks (RNamed V) 4 cs nl/\nl.length=i/\i<=z.params.length/\mU (z.params.map Param.name) args []=mU ((z.params.map Param.name).drop i) (args.drop i) (vM nl))) (z.params.length - 0) ⟨0,.slice none 0 0,[],[],rfl,⟨J.pk,N⟩,⟨rfl,rfl,Nat.zero_le _,rfl⟩⟩ ?_
 clear N J
 rintro mm a w ⟨i,u,cs,nl,q0,⟨J,N⟩,T⟩ Z0 U
 replace N:=N.nf
 obtain ⟨m,Z,W0,G⟩:=T
 by_cases F:i < z.params.length
 refine Reg [1,1,2,1,1,1,2,1,1,1,2,1,0,0,1] [1,2,3] fun w N a J=>?_
 have W:i < args.length:=tY (env:=vM nl) (env':=M) (by rw [<- G];exact k0) (by simpa using F)
 refine go fun a J=>?_
 obtain ⟨t1,rfl,L,d0,C0,L0,E0,b0⟩:=P.el Y F
 obtain rfl:=id b0
 refine go fun a J=>?_
 obtain ⟨u1,rfl,y,e0,D0,M0,F0,D⟩:=ra.el s0 W
 obtain ⟨y0,i0,rfl,H0,i1,Q0,U0⟩:=RVal.fm D
 refine dG fun a J=>?_
 refine qF fun x1 w N a J=>?_
 refine qQ 1 z2x (fun z0 w N a J=>?_) (hb:=by have h_:=m.length;rw [h_];simp only [lcQ,lnQ];omega)
 refine go fun a J=>?_
 replace N:=N.dl [0]
 refine U _ _ _ (by subst q0;omega) ⟨(i+1),(z0),((cs++[.string L.name,.string y.con,.int .i64 (y.num),.slice y0 y.args.length i0])),(nl++[⟨L.name,y⟩]),rfl,⟨J.pk,by exact N⟩,?_⟩
 exact ⟨m.snoc (k:=4) (x:=(⟨L.name,y⟩:Named)) rfl ⟨_,rfl,D⟩,by simp [Z],by omega,by rw [G,j5a d0,zA e0,dO];rfl⟩
 refine go fun a J=>?_
 have v:xC (yM (mY c l)) z args g=yM (mY c l) g z.body (vM nl):=by
  have o0:¬i < (z.params.map Param.name).length:=by simpa using F
  unfold xC nX
  rw [G,zB o0];rfl
 have o:=a0
 rw [v] at o
 have B:=N
 clear N
 obtain ⟨g0,b,N,A⟩:=B.freezeRow (i:=0) rfl
 clear B
 replace rW:=rW.up b
 replace rWc:=rWc.up b
 replace p:=p.mono b
 replace n:=n.up b
 replace q:=q.up b
 replace m:=m.mono fun _ _ h=>h.up b
 replace N:=N.nf
 have t:SliceOf RNamed g0 4 _ (nl):=⟨_,A,m⟩
 obtain ⟨r1,c72,u0,R0,V0⟩:=t.form (by decide)
 have C:=N
 clear N
 subst u0
 have N:=C
 clear C
 refine go fun a J=>?_
 refine st J rfl rfl rfl (jQ J rfl Tryz.call112 (ih rW t q c0 n0 l0 m0 (by omega) o N) (fun f0 B0 w r S N a J=>?_) (fun f0 w r N a J=>?_))
 obtain ⟨L1,j0⟩:=f0
 obtain ⟨h0,w1⟩:=B0
 obtain ⟨e,s⟩:=S
 have E:=jL r
 simp only at e s N J E
 obtain ⟨s1,e1,rfl,I0,Y0,r0,t0⟩:=aB s
 replace rW:=rW.up e
 replace rWc:=rWc.up e
 replace p:=p.mono e
 replace n:=n.up e
 replace q:=q.up e
 replace N:=N.nf
 have J0:¬j0 < 0:=Nat.not_lt_zero _
 refine Sto 1 fun w N a J=>?_
 refine go fun a J=>?_
 have H:=N
 replace N:=N.dl [2,1,0]
 refine qG (N:=H) ?_
 exact mL ((v).trans E) ⟨(h0,_),rfl,⟨(b).trans e,s⟩,N⟩
 have I:=qW r o
 have K0:(-1:Int) < 0:=by decide
 refine Sto 1 fun w N a J=>?_
 refine go fun a J=>?_
 have H:=N
 replace N:=N.dl [2,1,0]
 refine qG (N:=H) ?_
 exact xY ((v).trans I) ⟨rfl,N.le (b)⟩
theorem j3s {c:Core} {l:List Named}:y9t prog c l 0:=by
 intro V K w d de v1 vars e fu rW rvars re z q n p A v N
 obtain ⟨R,D,S,E,T,F,U,G,W,H,rfl,rWc,B,C,I,M,L,P⟩:=RWorld.fm rW
 obtain ⟨Z,c4,p9,m,rfl,f,X,Y,s,u,g,h⟩:=REx.fm re
 obtain ⟨vp,vc,rfl,t,y⟩:=rvars.fm
 refine zK func112 ntmps112 fun Q hQ a J=>?_
 refine Bx fun i w N a J=>?_
 refine Bx fun j w N a J=>?_
 refine Alc fun k w N a J=>?_
 refine Qq (fun a J=>?_) (o:=by exact fun J O=>xX (fu - 1) J rfl rfl (yD (by omega)))
 have r:fu - 1 < 0:=by omega
 refine zX fun a J=>?_
 refine Sto 0 fun w N a J=>?_
 refine go fun a J=>?_
 have b:=N
 replace N:=N.dl [2,1,0]
 refine qG (N:=b) ?_
 exact xY (dP _ _ _) ⟨rfl,N⟩
theorem j3r {c:Core} {l:List Named} {g:Nat} (hF:y9u c) (ih:∀g1,g1<=g->y9t prog c l g1):y9t prog c l (g+1):=by
 intro V K w d de v1 vars e fu rW rvars re y0 hgf hf0 hf1 hvl R0 N
 obtain ⟨I4,D4,J4,E4,K4,F4,L4,G4,M4,H4,rfl,rWc,hwf,A4,wm3,wn3,wm5,wn5⟩:=RWorld.fm rW
 obtain ⟨p3,c4,p9,g4,rfl,hi13,h2,h8,hm5,w4,hm11,H5⟩:=REx.fm re
 obtain ⟨vp,vc,rfl,hmv,hnv⟩:=rvars.fm
 rw [zT] at R0
 obtain rfl:fu=((g+1:Nat):Int):=by omega
 have m7:=(yO y0).1
 refine zK func112 ntmps112 fun Q hQ a J=>?_
 refine Bx fun k2 w N a J=>?_
 refine Bx fun l2 w N a J=>?_
 refine Alc fun m2 w N a J=>?_
 refine Qq (fun a J=>?_) (o:=by exact fun J O=>xX ((g:Nat):Int) J rfl rfl (by rw [yD (by omega)];omega))
 have hk21:¬g < 0:=Nat.not_lt_zero _
 by_cases k4:e.kind=1
 refine zX fun a J=>?_
 refine dG fun a J=>?_
 refine Sto 0 fun w N a J=>?_
 refine go fun a J=>?_
 have b:=N
 replace N:=N.dl [2,1,0]
 refine qG (N:=b) ?_
 exact mL ((zT _ _ _ _).trans (j1t k4)) ⟨(V,_),rfl,⟨Fz.Le.refl _,RVal.iff.2 ⟨_,rfl,(by obtain ⟨_,_,_,h_,_⟩:=REx.iff.1 re;exact h_),SliceOf.nil 3⟩⟩,N⟩
 by_cases l4:e.kind=2
 refine yP call164 (fun t9 w C5 N a J=>?_) (c:=q9g rvars N)
 obtain ⟨m6,d33⟩:=t9
 obtain ⟨p0,R2⟩:=C5
 simp only at p0 R2 N J
 replace rW:=rW.up p0
 replace rWc:=rWc.up p0
 replace A4:=A4.up p0
 replace h2:=h2.up p0
 replace h8:=h8.up p0
 replace re:=re.up p0
 replace rvars:=rvars.up p0
 replace N:=N.nf
 obtain ⟨p38,c39,rfl,hi42,h37,hm40,hn41⟩:=RVal.fm R2
 refine dG fun a J=>?_
 refine Sto 0 fun w N a J=>?_
 refine go fun a J=>?_
 have b:=N
 replace N:=N.dl [2,1,0]
 refine qG (N:=b) ?_
 exact mL ((zT _ _ _ _).trans (y6w l4)) ⟨(m6,_),rfl,⟨p0,R2⟩,N⟩
 by_cases m4:e.kind=3
 refine yP call164 (fun u9 w D5 N a J=>?_) (c:=q9g A4 N)
 obtain ⟨n6,d49⟩:=u9
 obtain ⟨u0,T2⟩:=D5
 simp only at u0 T2 N J
 replace rW:=rW.up u0
 replace rWc:=rWc.up u0
 replace h2:=h2.up u0
 replace h8:=h8.up u0
 replace re:=re.up u0
 replace rvars:=rvars.up u0
 replace N:=N.nf
 obtain ⟨p54,c55,rfl,hi58,h53,hm56,hn57⟩:=RVal.fm T2
 refine dG fun a J=>?_
 refine Sto 0 fun w N a J=>?_
 refine go fun a J=>?_
 have b:=N
 replace N:=N.dl [2,1,0]
 refine qG (N:=b) ?_
 exact mL ((zT _ _ _ _).trans (j1s m4)) ⟨(n6,_),rfl,⟨u0,T2⟩,N⟩
 refine go fun a J=>?_
 by_cases w0:e.kind=6
 refine goJ 13 fun a J=>?_
 refine sq fun c7 I2=>?_
 have K3:=q2r w0 R0
 have b2:0 < e.args.length:=by omega
 have Q2:1 < e.args.length:=by omega
 obtain ⟨L0,e0⟩:=qR Q2
 obtain ⟨r9,rfl,s9,h0,U9,hl66,t,s⟩:=h2.el w4 b2
 obtain ⟨p71,c72,p77,c78,rfl,hi81,h70,h76,hm73,hn74,hm79,hn80⟩:=REx.fm s
 have g0:=R0
 rw [vQ w0 h0 e0] at g0
 have J3:∀a w,(∃(l0:Fz) (f4:Nat) (z:Val) (g1:Nat) (sv:Value),EnvR 217 [(1,.slice vp vars.length vc),(4,.pointer (some ⟨k2,0,none⟩)),(6,.pointer (some ⟨l2,0,none⟩)),(8,.pointer (some ⟨m2,0,none⟩)),(9,.pointer (some ⟨f4,0,none⟩))] [] a/\Mem l0 (.blk f4 (ob [.string z.con,.int .i64 (z.num),sv,.int .i64 ((g1:Nat):Int)] 46)::.blk m2 (ob [.string ⟨#[]⟩,.int .i64 ((0:Nat):Int),.slice none 0 0,.int .i64 ((0:Nat):Int)] 46)::.blk l2 (ob [.int .i64 (e.kind),.int .i64 (e.num),.string e.name,.slice (some r9) e.args.length c4,.slice p9 e.arms.length g4] 66)::.blk k2 (ob [.slice I4 c.datas.length D4,.slice J4 c.inputs.length E4,.slice K4 c.funs.length F4,.slice L4 c.outputs.length G4,.slice M4 l.length H4] 113)::K) w/\(V.Le l0/\((yM (mY c l)) g s9 (vM vars)=.ok z g1/\RVal l0 [.string z.con,.int .i64 z.num,sv] z)))->c7 a w:=by
  clear N J
  rintro a w ⟨l0,f4,z,g1,sv,J,N,F2⟩
  obtain ⟨L,F2⟩:=F2
  replace rW:=rW.up L
  replace rWc:=rWc.up L
  replace h2:=h2.up L
  replace h8:=h8.up L
  replace re:=re.up L
  replace rvars:=rvars.up L
  replace t:=t.mono L
  replace s:=s.up L
  apply I2
  obtain ⟨t0,F⟩:=F2
  have q8:=yF _ _ _ _ _ _ t0
  obtain ⟨o2,n2,rfl,hi92,hs93,J8,hn95⟩:=aB F
  have hk96:¬g1 < 0:=Nat.not_lt_zero _
  have t1:=uM g0 t0
  refine go fun a J=>?_
  refine yE [2,0,1,0,1,2,1,2,1,0,0,1,2,1,2,1,2,0,0] (.q 0 (.q 2 (.q 4 (.q 5 (.q 6 (.q 7 (.q 8 (.q 11 (.q 12 (.q 13 (.q 14 (.q 15 (.q 16 (.e2 1 9 (.e2 3 9 (.e 9 (.e 10 (.e 17 (.e 18 (.done))))) (.e 3 (.e 10 (.e 17 (.e 18 (.done)))))) (.e 1 (.e 3 (.e 10 (.e 17 (.e 18 (.done)))))))))))))))))))) [0,1,2,3] J N fun w N=>?_
  refine dG fun a J=>?_
  refine go fun a J=>?_
  obtain ⟨j3,m0⟩:=qR Q2
  obtain ⟨d7,i8,D,f⟩:=h2.elem m0
  obtain ⟨p109,C9,p115,D9,rfl,n7,W9,X9,r8,K8,s8,L8⟩:=REx.fm f
  refine go fun a J=>?_
  refine wN ?_ ?_
  refine d_e J rfl rfl rfl (vH (sz:=4) (cs:=[]) J N rfl (dK runUnderlying28 sizeOf62) rfl (by decide) fun v120 w N _=>⟨fun _=>N.sn (Fz.Le.refl _),fun a J=>?_⟩)
  refine wN ?_ ?_
  obtain ⟨k1,V2,z0⟩:=id rvars
  refine d_e J rfl rfl rfl (jD 0 (xs:=[]) (news:=k1) z2x J N rfl rfl rfl (V2.rowIn N.toSees) (z0.ones RNamed.ones) (by intro n_ m_ I0 h1;have h_:=z0.length;simp only [lnQ] at I0;omega) fun v121 w N=>⟨fun _=>N.sn (Fz.Le.refl _),fun a J=>?_⟩)
  replace N:=N.nf
  refine qF fun v125 w N a J=>?_
  refine d_e J rfl rfl rfl (jD 1 (xs:=k1) (news:=[.string e.name,.string z.con,.int .i64 (z.num),.slice o2 z.args.length n2]) z2x J N rfl rfl rfl (N.toSees.rowIn (i:=0) rfl) rfl (by intro n_ m_ I0 h1;have h_:=z0.length;simp only [lcQ,lnQ] at h1;omega) fun v126 w N=>⟨fun _=>N.sn (Fz.Le.refl _),fun a J=>?_⟩)
  replace N:=N.nf
  obtain rfl:L0=j3:=Option.some.inj (e0.symm.trans m0)
  have N0:Chunks (RNamed l0) 4 (k1++[.string e.name,.string z.con,.int .i64 (z.num),.slice o2 z.args.length n2]) (vars++[⟨e.name,z⟩]):=Chunks.snoc (R:=RNamed l0) (k:=4) (x:=(⟨e.name,z⟩:Named)) rfl ⟨_,rfl,F⟩ z0
  have G:=N
  clear N
  obtain ⟨N4,j,N,W2⟩:=G.freezeRow (i:=1) rfl
  clear G
  replace rW:=rW.up j
  replace rWc:=rWc.up j
  replace h2:=h2.up j
  replace h8:=h8.up j
  replace re:=re.up j
  replace rvars:=rvars.up j
  replace t:=t.mono j
  replace s:=s.up j
  replace F:=F.up j
  replace D:=D.mono j
  replace f:=f.up j
  replace N0:=N0.mono fun _ _ h=>h.up j
  replace N:=N.nf
  have c2:SliceOf RNamed N4 4 _ ((vars++[⟨e.name,z⟩])):=⟨_,W2,N0⟩
  obtain ⟨p132,c133,e1,t8,M8⟩:=c2.form (by decide)
  have H:=N
  clear N
  subst e1
  have N:=H
  clear H
  have f0:vM (vars++[⟨e.name,z⟩])=(e.name,z)::vM vars:=dO vars ⟨e.name,z⟩
  have S0:=t1
  rw [<- f0] at S0
  refine d_e J rfl rfl rfl (jQ J rfl call112 (ih g1 (by omega) rW c2 f ((yO y0).2.1 _ (mgQ m0)) rfl (by omega) (by omega) (by rw [laQ];simp only [lcQ,lnQ];omega) S0 N) (fun M3 a6 w u1 u2 N=>⟨fun _=>N.sn (((Fz.Le.refl _).trans j).trans (u2.1)),fun a J=>?_⟩) (fun M3 w u1 N=>⟨fun _=>N.sn ((Fz.Le.refl _).trans j),fun a J=>?_⟩))
  obtain ⟨z141,x5⟩:=M3
  obtain ⟨O4,s144⟩:=a6
  obtain ⟨y,G1⟩:=u2
  have S1:=jL u1
  simp only at y G1 N J S1
  have o6:=yF _ _ _ _ _ _ S1
  obtain ⟨p149,E9,rfl,o7,b9,A6,R6⟩:=aB G1
  replace rW:=rW.up y
  replace rWc:=rWc.up y
  replace h2:=h2.up y
  replace h8:=h8.up y
  replace re:=re.up y
  replace rvars:=rvars.up y
  replace t:=t.mono y
  replace s:=s.up y
  replace F:=F.up y
  replace D:=D.mono y
  replace f:=f.up y
  replace N:=N.nf
  have J7:¬x5 < 0:=Nat.not_lt_zero _
  refine Sto 2 fun w N a J=>?_
  refine go fun a J=>?_
  have b:=N
  replace N:=N.dl [4,3,2,1,0]
  refine qG (N:=b) ?_
  exact mL ((((((zT _ _ _ _).trans (vQ w0 h0 e0)).trans (jW t0)).trans (congrArg (yM (mY c l) g1 L0) f0.symm))).trans S1) ⟨(O4,_),rfl,⟨((L).trans j).trans y,G1⟩,N⟩
  have m3:=qW u1 S0
  have K7:(-1:Int) < 0:=by decide
  refine Sto 2 fun w N a J=>?_
  refine go fun a J=>?_
  have b:=N
  replace N:=N.dl [4,3,2,1,0]
  refine qG (N:=b) ?_
  exact xY ((((((zT _ _ _ _).trans (vQ w0 h0 e0)).trans (jW t0)).trans (congrArg (yM (mY c l) g1 L0) f0.symm))).trans m3) ⟨rfl,N.le ((L).trans j)⟩
  refine qF fun v159 w N a J=>?_
  obtain ⟨l1,X2,A0⟩:=id rvars
  refine d_e J rfl rfl rfl (jD 1 (xs:=[]) (news:=l1) z2x J N rfl rfl rfl (X2.rowIn N.toSees) (A0.ones RNamed.ones) (by intro n_ m_ I0 h1;have h_:=A0.length;simp only [lnQ] at I0;omega) fun v160 w N=>⟨fun _=>N.sn (Fz.Le.refl _),fun a J=>?_⟩)
  replace N:=N.nf
  refine d_e J rfl rfl rfl (jD 1 (xs:=l1) (news:=[.string e.name,.string z.con,.int .i64 (z.num),.slice o2 z.args.length n2]) z2x J N rfl rfl rfl (N.toSees.rowIn (i:=0) rfl) rfl (by intro n_ m_ I0 h1;have h_:=A0.length;simp only [lcQ,lnQ] at h1;omega) fun v164 w N=>⟨fun _=>N.sn (Fz.Le.refl _),fun a J=>?_⟩)
  replace N:=N.nf
  obtain rfl:L0=j3:=Option.some.inj (e0.symm.trans m0)
  have O0:Chunks (RNamed l0) 4 (l1++[.string e.name,.string z.con,.int .i64 (z.num),.slice o2 z.args.length n2]) (vars++[⟨e.name,z⟩]):=Chunks.snoc (R:=RNamed l0) (k:=4) (x:=(⟨e.name,z⟩:Named)) rfl ⟨_,rfl,F⟩ A0
  have G:=N
  clear N
  obtain ⟨P4,m,N,Y2⟩:=G.freezeRow (i:=1) rfl
  clear G
  replace rW:=rW.up m
  replace rWc:=rWc.up m
  replace h2:=h2.up m
  replace h8:=h8.up m
  replace re:=re.up m
  replace rvars:=rvars.up m
  replace t:=t.mono m
  replace s:=s.up m
  replace F:=F.up m
  replace D:=D.mono m
  replace f:=f.up m
  replace O0:=O0.mono fun _ _ h=>h.up m
  replace N:=N.nf
  have d2:SliceOf RNamed P4 4 _ ((vars++[⟨e.name,z⟩])):=⟨_,Y2,O0⟩
  obtain ⟨p170,c171,e1,u8,N8⟩:=d2.form (by decide)
  have H:=N
  clear N
  subst e1
  have N:=H
  clear H
  have f0:vM (vars++[⟨e.name,z⟩])=(e.name,z)::vM vars:=dO vars ⟨e.name,z⟩
  have T0:=t1
  rw [<- f0] at T0
  refine d_e J rfl rfl rfl (jQ J rfl call112 (ih g1 (by omega) rW d2 f ((yO y0).2.1 _ (mgQ m0)) rfl (by omega) (by omega) (by rw [laQ];simp only [lcQ,lnQ];omega) T0 N) (fun N3 b6 w w1 v2 N=>⟨fun _=>N.sn (((Fz.Le.refl _).trans m).trans (v2.1)),fun a J=>?_⟩) (fun N3 w w1 N=>⟨fun _=>N.sn ((Fz.Le.refl _).trans m),fun a J=>?_⟩))
  obtain ⟨z179,y5⟩:=N3
  obtain ⟨Q4,s182⟩:=b6
  obtain ⟨A,H1⟩:=v2
  have T1:=jL w1
  simp only at A H1 N J T1
  have p6:=yF _ _ _ _ _ _ T1
  obtain ⟨p187,F9,rfl,p7,d9,B6,S6⟩:=aB H1
  replace rW:=rW.up A
  replace rWc:=rWc.up A
  replace h2:=h2.up A
  replace h8:=h8.up A
  replace re:=re.up A
  replace rvars:=rvars.up A
  replace t:=t.mono A
  replace s:=s.up A
  replace F:=F.up A
  replace D:=D.mono A
  replace f:=f.up A
  replace N:=N.nf
  have L7:¬y5 < 0:=Nat.not_lt_zero _
  refine Sto 2 fun w N a J=>?_
  refine go fun a J=>?_
  have b:=N
  replace N:=N.dl [4,3,2,1,0]
  refine qG (N:=b) ?_
  exact mL ((((((zT _ _ _ _).trans (vQ w0 h0 e0)).trans (jW t0)).trans (congrArg (yM (mY c l) g1 L0) f0.symm))).trans T1) ⟨(Q4,_),rfl,⟨((L).trans m).trans A,H1⟩,N⟩
  have n3:=qW w1 T0
  have M7:(-1:Int) < 0:=by decide
  refine Sto 2 fun w N a J=>?_
  refine go fun a J=>?_
  have b:=N
  replace N:=N.dl [4,3,2,1,0]
  refine qG (N:=b) ?_
  exact xY ((((((zT _ _ _ _).trans (vQ w0 h0 e0)).trans (jW t0)).trans (congrArg (yM (mY c l) g1 L0) f0.symm))).trans n3) ⟨rfl,N.le ((L).trans m)⟩
  refine qF fun v197 w N a J=>?_
  refine d_e J rfl rfl rfl (vH (sz:=4) (cs:=[]) J N rfl (dK runUnderlying28 sizeOf62) rfl (by decide) fun v198 w N _=>⟨fun _=>N.sn (Fz.Le.refl _),fun a J=>?_⟩)
  obtain ⟨m1,Z2,B0⟩:=id rvars
  refine d_e J rfl rfl rfl (jD 0 (xs:=[]) (news:=m1) z2x J N rfl rfl rfl (Z2.rowIn N.toSees) (B0.ones RNamed.ones) (by intro n_ m_ I0 h1;have h_:=B0.length;simp only [lnQ] at I0;omega) fun v199 w N=>⟨fun _=>N.sn (Fz.Le.refl _),fun a J=>?_⟩)
  replace N:=N.nf
  refine d_e J rfl rfl rfl (jD 0 (xs:=m1) (news:=[.string e.name,.string z.con,.int .i64 (z.num),.slice o2 z.args.length n2]) z2x J N rfl rfl rfl (N.toSees.rowIn (i:=1) rfl) rfl (by intro n_ m_ I0 h1;have h_:=B0.length;simp only [lcQ,lnQ] at h1;omega) fun v203 w N=>⟨fun _=>N.sn (Fz.Le.refl _),fun a J=>?_⟩)
  replace N:=N.nf
  obtain rfl:L0=j3:=Option.some.inj (e0.symm.trans m0)
  have P0:Chunks (RNamed l0) 4 (m1++[.string e.name,.string z.con,.int .i64 (z.num),.slice o2 z.args.length n2]) (vars++[⟨e.name,z⟩]):=Chunks.snoc (R:=RNamed l0) (k:=4) (x:=(⟨e.name,z⟩:Named)) rfl ⟨_,rfl,F⟩ B0
  have G:=N
  clear N
  obtain ⟨R4,n,N,a3⟩:=G.freezeRow (i:=0) rfl
  clear G
  replace rW:=rW.up n
  replace rWc:=rWc.up n
  replace h2:=h2.up n
  replace h8:=h8.up n
  replace re:=re.up n
  replace rvars:=rvars.up n
  replace t:=t.mono n
  replace s:=s.up n
  replace F:=F.up n
  replace D:=D.mono n
  replace f:=f.up n
  replace P0:=P0.mono fun _ _ h=>h.up n
  replace N:=N.nf
  have f2:SliceOf RNamed R4 4 _ ((vars++[⟨e.name,z⟩])):=⟨_,a3,P0⟩
  obtain ⟨p209,c210,e1,v8,O8⟩:=f2.form (by decide)
  have H:=N
  clear N
  subst e1
  have N:=H
  clear H
  have f0:vM (vars++[⟨e.name,z⟩])=(e.name,z)::vM vars:=dO vars ⟨e.name,z⟩
  have U0:=t1
  rw [<- f0] at U0
  refine d_e J rfl rfl rfl (jQ J rfl call112 (ih g1 (by omega) rW f2 f ((yO y0).2.1 _ (mgQ m0)) rfl (by omega) (by omega) (by rw [laQ];simp only [lcQ,lnQ];omega) U0 N) (fun O3 c6 w x1 w2 N=>⟨fun _=>N.sn (((Fz.Le.refl _).trans n).trans (w2.1)),fun a J=>?_⟩) (fun O3 w x1 N=>⟨fun _=>N.sn ((Fz.Le.refl _).trans n),fun a J=>?_⟩))
  obtain ⟨z218,z5⟩:=O3
  obtain ⟨S4,s221⟩:=c6
  obtain ⟨B,I1⟩:=w2
  have U1:=jL x1
  simp only at B I1 N J U1
  have q6:=yF _ _ _ _ _ _ U1
  obtain ⟨p226,G9,rfl,q7,e9,C6,T6⟩:=aB I1
  replace rW:=rW.up B
  replace rWc:=rWc.up B
  replace h2:=h2.up B
  replace h8:=h8.up B
  replace re:=re.up B
  replace rvars:=rvars.up B
  replace t:=t.mono B
  replace s:=s.up B
  replace F:=F.up B
  replace D:=D.mono B
  replace f:=f.up B
  replace N:=N.nf
  have N7:¬z5 < 0:=Nat.not_lt_zero _
  refine Sto 2 fun w N a J=>?_
  refine go fun a J=>?_
  have b:=N
  replace N:=N.dl [4,3,2,1,0]
  refine qG (N:=b) ?_
  exact mL ((((((zT _ _ _ _).trans (vQ w0 h0 e0)).trans (jW t0)).trans (congrArg (yM (mY c l) g1 L0) f0.symm))).trans U1) ⟨(S4,_),rfl,⟨((L).trans n).trans B,I1⟩,N⟩
  have o3:=qW x1 U0
  have O7:(-1:Int) < 0:=by decide
  refine Sto 2 fun w N a J=>?_
  refine go fun a J=>?_
  have b:=N
  replace N:=N.dl [4,3,2,1,0]
  refine qG (N:=b) ?_
  exact xY ((((((zT _ _ _ _).trans (vQ w0 h0 e0)).trans (jW t0)).trans (congrArg (yM (mY c l) g1 L0) f0.symm))).trans o3) ⟨rfl,N.le ((L).trans n)⟩
 refine yE [2,1,1,2,1,2,1,0,0,0] (.q 0 (.q 1 (.q 2 (.q 3 (.q 4 (.q 5 (.q 6 (.e2 7 8 (.e 8 (.e 9 (.done))) (.e 7 (.e 9 (.done))))))))))) [0,1,2] J N fun w N=>?_
 refine go fun a J=>?_
 refine wN ?_ ?_
 refine d_e J rfl rfl rfl (jQ J rfl call112 (ih g (by omega) rW rvars s ((yO y0).2.1 _ (mgQ h0)) rfl (by omega) (by omega) (by omega) (qJ g0) N) (fun P3 d6 w y1 x2 N=>⟨fun _=>N.sn ((Fz.Le.refl _).trans (x2.1)),fun a J=>?_⟩) (fun P3 w y1 N=>⟨fun _=>N.sn (Fz.Le.refl _),fun a J=>?_⟩))
 obtain ⟨Y3,y3⟩:=P3
 obtain ⟨T4,s243⟩:=d6
 obtain ⟨S,J1⟩:=x2
 have Z0:=jL y1
 simp only at S J1 N J Z0
 have r6:=yF _ _ _ _ _ _ Z0
 obtain ⟨K5,n5,rfl,r7,f9,D6,U6⟩:=aB J1
 replace rW:=rW.up S
 replace rWc:=rWc.up S
 replace h2:=h2.up S
 replace h8:=h8.up S
 replace re:=re.up S
 replace rvars:=rvars.up S
 replace t:=t.mono S
 replace s:=s.up S
 replace N:=N.nf
 have P7:¬y3 < 0:=Nat.not_lt_zero _
 have N6:=uM g0 Z0
 refine Alc fun h5 w N a J=>?_
 refine Sto 0 fun w N a J=>?_
 refine go fun a J=>?_
 exact J3 _ _ ⟨T4,h5,Y3,y3,.slice K5 Y3.args.length n5,J.pk,N,⟨S,⟨Z0,J1⟩⟩⟩
 have q3:=qW y1 (qJ g0)
 have Q7:(-1:Int) < 0:=by decide
 refine Alc fun y9 w N a J=>?_
 refine Sto 0 fun w N a J=>?_
 refine go fun a J=>?_
 apply I2
 refine Sto 1 fun w N a J=>?_
 refine go fun a J=>?_
 have b:=N
 replace N:=N.dl [3,2,1,0]
 refine qG (N:=b) ?_
 exact xY (((zT _ _ _ _).trans (vQ w0 h0 e0)).trans (xR q3)) ⟨rfl,N.le (Fz.Le.refl _)⟩
 refine Alc fun i5 w N a J=>?_
 refine d_e J rfl rfl rfl (jQ J rfl call112 (ih g (by omega) rW rvars s ((yO y0).2.1 _ (mgQ h0)) rfl (by omega) (by omega) (by omega) (qJ g0) N) (fun Q3 e6 w z1 y2 N=>⟨fun _=>N.sn ((Fz.Le.refl _).trans (y2.1)),fun a J=>?_⟩) (fun Q3 w z1 N=>⟨fun _=>N.sn (Fz.Le.refl _),fun a J=>?_⟩))
 obtain ⟨Z3,z3⟩:=Q3
 obtain ⟨U4,s272⟩:=e6
 obtain ⟨T,K1⟩:=y2
 have a1:=jL z1
 simp only at T K1 N J a1
 have s6:=yF _ _ _ _ _ _ a1
 obtain ⟨L5,o5,rfl,s7,g9,E6,V6⟩:=aB K1
 replace rW:=rW.up T
 replace rWc:=rWc.up T
 replace h2:=h2.up T
 replace h8:=h8.up T
 replace re:=re.up T
 replace rvars:=rvars.up T
 replace t:=t.mono T
 replace s:=s.up T
 replace N:=N.nf
 have R7:¬z3 < 0:=Nat.not_lt_zero _
 have O6:=uM g0 a1
 refine Sto 0 fun w N a J=>?_
 refine go fun a J=>?_
 exact J3 _ _ ⟨U4,i5,Z3,z3,.slice L5 Z3.args.length o5,J.pk,N,⟨T,⟨a1,K1⟩⟩⟩
 have r3:=qW z1 (qJ g0)
 have S7:(-1:Int) < 0:=by decide
 refine Sto 0 fun w N a J=>?_
 refine go fun a J=>?_
 apply I2
 refine Sto 1 fun w N a J=>?_
 refine go fun a J=>?_
 have b:=N
 replace N:=N.dl [3,2,1,0]
 refine qG (N:=b) ?_
 exact xY (((zT _ _ _ _).trans (vQ w0 h0 e0)).trans (xR r3)) ⟨rfl,N.le (Fz.Le.refl _)⟩
 by_cases s0:e.kind=7
 refine goJ 18 fun a J=>?_
 refine sq fun f5 r1=>?_
 have K3:=y6v s0 R0
 have b2:0 < e.args.length:=by omega
 obtain ⟨U5,rfl,Z5,n0,e7,j8,P,v⟩:=h2.el w4 b2
 obtain ⟨p303,H9,p309,I9,rfl,t7,Y9,Z9,w8,P8,x8,Q8⟩:=REx.fm v
 have I:=R0
 rw [kI s0 n0] at I
 have G2:∀a w,(∃(o0:Fz) (p2:Nat) (z:Val) (g1:Nat) (sv:Value),EnvR 217 [(1,.slice vp vars.length vc),(4,.pointer (some ⟨k2,0,none⟩)),(6,.pointer (some ⟨l2,0,none⟩)),(8,.pointer (some ⟨m2,0,none⟩)),(10,.pointer (some ⟨p2,0,none⟩))] [] a/\Mem o0 (.blk p2 (ob [.string z.con,.int .i64 (z.num),sv,.int .i64 ((g1:Nat):Int)] 46)::.blk m2 (ob [.string ⟨#[]⟩,.int .i64 ((0:Nat):Int),.slice none 0 0,.int .i64 ((0:Nat):Int)] 46)::.blk l2 (ob [.int .i64 (e.kind),.int .i64 (e.num),.string e.name,.slice (some U5) e.args.length c4,.slice p9 e.arms.length g4] 66)::.blk k2 (ob [.slice I4 c.datas.length D4,.slice J4 c.inputs.length E4,.slice K4 c.funs.length F4,.slice L4 c.outputs.length G4,.slice M4 l.length H4] 113)::K) w/\(V.Le o0/\((yM (mY c l)) g Z5 (vM vars)=.ok z g1/\RVal o0 [.string z.con,.int .i64 z.num,sv] z)))->f5 a w:=by
  clear N J
  rintro a w ⟨o0,p2,z,g1,sv,J,N,n1⟩
  obtain ⟨U,n1⟩:=n1
  replace rW:=rW.up U
  replace rWc:=rWc.up U
  replace h2:=h2.up U
  replace h8:=h8.up U
  replace re:=re.up U
  replace rvars:=rvars.up U
  replace P:=P.mono U
  replace v:=v.up U
  apply r1
  obtain ⟨b1,D0⟩:=n1
  have t6:=yF _ _ _ _ _ _ b1
  obtain ⟨p322,J9,rfl,u7,z4,F6,u4⟩:=aB D0
  have T7:¬g1 < 0:=Nat.not_lt_zero _
  have a2:=uM I b1
  refine go fun a J=>?_
  refine zU (J.ks [1,4,6,8,10]) N (fun R mm a w=>∃(i:Nat),mm=e.arms.length - i/\R o0 [(11,.int .i64 ((i:Nat):Int))] [] a w/\(vA e.arms z.con=vA (e.arms.drop i) z.con)) (e.arms.length - 0) ⟨0,rfl,⟨J.pk,N⟩,rfl⟩ ?_
  clear N J
  rintro mm a w ⟨i,O2,⟨J,N⟩,o1⟩ v9 p4
  by_cases E3:i < e.arms.length
  refine Reg [1,2,1,1,1,2,1,1,2,1] [0,1,2,3] fun w N a J=>?_
  refine go fun a J=>?_
  obtain ⟨q341,rfl,M,f1,f7,k8,C0,E0⟩:=h8.el H5 E3
  obtain ⟨s348,z9,rfl,F3,J0⟩:=RArm.iff.1 E0
  obtain ⟨p350,K9,rfl,y8,v4⟩:=F3.fm
  obtain ⟨M5,p5,N5,q5,rfl,v7,h357,h363,z8,R8,A8,S8⟩:=REx.fm J0
  by_cases G3:M.con=z.con
  refine go fun a J=>?_
  have M2:vA e.arms z.con=some M:=by
   rw [o1,zA f1];simp [vA,G3]
  have V0:=a2
  rw [pK M2] at V0
  obtain ⟨i4,E5⟩:=z4x V0
  have hvm_:=((yO y0).2.2 _ (mgQ f1)).2
  refine st J rfl rfl rfl (vH (sz:=4) (cs:=[]) J N rfl (dK runUnderlying28 sizeOf62) rfl (by decide) fun v372 w N _ a J=>?_)
  refine go fun a J=>?_
  obtain ⟨r2,b3,Q0⟩:=id rvars
  refine st J rfl rfl rfl (jD 0 (xs:=[]) (news:=r2) z2x J N rfl rfl rfl (b3.rowIn N.toSees) (Q0.ones RNamed.ones) (by intro n_ m_ I0 h1;have h_:=Q0.length;simp only [lnQ] at I0;omega) fun W5 w N a J=>?_)
  replace N:=N.nf
  refine go fun a J=>?_
  refine zU (J.ks [4,6,8,10,11]) N (fun R mm a w=>∃(k:Nat) (u:Value) (cs:List Value) (nl:List Named),mm=M.vars.length - k/\R o0 [(12,u),(13,.int .i64 ((k:Nat):Int))] [(0,.gs (u) 62 4 cs)] a w/\(Chunks (RNamed o0) 4 cs nl/\nl.length=vars.length+k/\k<=M.vars.length/\mU M.vars z.args (vM vars)=mU (M.vars.drop k) (z.args.drop k) (vM nl))) (M.vars.length - 0) ⟨0,W5,r2,vars,rfl,⟨J.pk,N⟩,⟨Q0,rfl,Nat.zero_le _,rfl⟩⟩ ?_
  clear N J
  rintro mm a w ⟨k,u,cs,nl,O2,⟨J,N⟩,o4⟩ w9 q4
  replace N:=N.nf
  obtain ⟨i1,J5,hnm_,M0⟩:=o4
  by_cases s2:k < M.vars.length
  refine Reg [1,1,2,1,1,1,2,1,1,2,1,1,2,1,1,2,1,0,0,1] [1,2,3,4] fun w N a J=>?_
  have F5:k < z.args.length:=tY (env:=vM nl) (env':=i4) (by rw [<- M0];exact E5) s2
  refine go fun a J=>?_
  obtain ⟨q385,rfl,j2,B4,h4,l8,k7,y4⟩:=F3.el v4 s2
  obtain rfl:h4=[.string j2]:=y4
  refine go fun a J=>?_
  obtain ⟨q392,rfl,j1,C4,g7,m8,l7,S2⟩:=z4.el u4 F5
  obtain ⟨O5,r5,rfl,w7,h400,B8,T8⟩:=RVal.fm S2
  refine dG fun a J=>?_
  refine qF fun v406 w N a J=>?_
  refine qQ 1 z2x (fun X5 w N a J=>?_) (hb:=by have h_:=i1.length;rw [h_];simp only [lcQ,lnQ];omega)
  refine go fun a J=>?_
  replace N:=N.dl [0]
  refine q4 _ _ _ (by subst O2;omega) ⟨(k+1),(X5),((cs++[.string j2,.string j1.con,.int .i64 (j1.num),.slice O5 j1.args.length r5])),(nl++[⟨j2,j1⟩]),rfl,⟨J.pk,by exact N⟩,?_⟩
  exact ⟨i1.snoc (k:=4) (x:=(⟨j2,j1⟩:Named)) rfl ⟨_,rfl,S2⟩,by simp [J5];omega,by omega,by rw [M0,zA B4,zA C4,dO];rfl⟩
  refine Reg [2,1,1,2,1,1,1,2,1,2,0,0] [1,2,3,4] fun w N a J=>?_
  refine Qq (fun a J=>?_) (o:=by exact fun J O=>jF 2 (vs:=[.int .i64 (M.body.kind),.int .i64 (M.body.num),.string M.body.name,.slice M5 M.body.args.length p5,.slice N5 M.body.arms.length q5]) J O rfl C0 isAgg66 sizeOf66 rfl rfl)
  refine go fun a J=>?_
  have L2:mU M.vars z.args (vM vars)=some (vM nl):=by
   rw [M0,zB s2,z8d]
  have W0:=V0
  rw [oE L2] at W0
  have G:=N
  clear N
  obtain ⟨V4,p,N,d3⟩:=G.freezeRow (i:=0) rfl
  clear G
  replace rW:=rW.up p
  replace rWc:=rWc.up p
  replace h2:=h2.up p
  replace re:=re.up p
  replace rvars:=rvars.up p
  replace P:=P.mono p
  replace v:=v.up p
  replace D0:=D0.up p
  replace C0:=C0.mono p
  replace E0:=E0.up p
  replace J0:=J0.up p
  replace i1:=i1.mono fun _ _ h=>h.up p
  replace N:=N.nf
  have i2:SliceOf RNamed V4 4 _ (nl):=⟨_,d3,i1⟩
  obtain ⟨p414,L9,e1,C8,U8⟩:=i2.form (by decide)
  have H:=N
  clear N
  subst e1
  have N:=H
  clear H
  refine d_e J rfl rfl rfl (jQ J rfl call112 (ih g1 (by omega) rW i2 J0 ((yO y0).2.2 _ (mgQ f1)).1 rfl (by omega) (by omega) (by omega) W0 N) (fun R3 f6 w A1 z2 N=>⟨fun _=>N.sn (((Fz.Le.refl _).trans p).trans (z2.1)),fun a J=>?_⟩) (fun R3 w A1 N=>⟨fun _=>N.sn ((Fz.Le.refl _).trans p),fun a J=>?_⟩))
  obtain ⟨z422,A5⟩:=R3
  obtain ⟨W4,s425⟩:=f6
  obtain ⟨C,L1⟩:=z2
  have V1:=jL A1
  simp only at C L1 N J V1
  have u6:=yF _ _ _ _ _ _ V1
  obtain ⟨p430,M9,rfl,x7,h9,G6,W6⟩:=aB L1
  replace rW:=rW.up C
  replace rWc:=rWc.up C
  replace h2:=h2.up C
  replace re:=re.up C
  replace rvars:=rvars.up C
  replace P:=P.mono C
  replace v:=v.up C
  replace D0:=D0.up C
  replace C0:=C0.mono C
  replace E0:=E0.up C
  replace J0:=J0.up C
  replace N:=N.nf
  have U7:¬A5 < 0:=Nat.not_lt_zero _
  refine Sto 1 fun w N a J=>?_
  refine go fun a J=>?_
  have b:=N
  replace N:=N.dl [3,2,1,0]
  refine qG (N:=b) ?_
  exact mL ((((((zT _ _ _ _).trans (kI s0 n0)).trans (jW b1)).trans (pK M2)).trans (oE L2)).trans V1) ⟨(W4,_),rfl,⟨((U).trans p).trans C,L1⟩,N⟩
  have s3:=qW A1 W0
  have V7:(-1:Int) < 0:=by decide
  refine Sto 1 fun w N a J=>?_
  refine go fun a J=>?_
  have b:=N
  replace N:=N.dl [3,2,1,0]
  refine qG (N:=b) ?_
  exact xY ((((((zT _ _ _ _).trans (kI s0 n0)).trans (jW b1)).trans (pK M2)).trans (oE L2)).trans s3) ⟨rfl,N.le ((U).trans p)⟩
  refine go fun a J=>?_
  refine p4 _ _ _ (by subst O2;omega) ⟨(i+1),rfl,⟨J.pk,by exact N⟩,?_⟩
  rw [o1,zA f1];simp only [vA,if_neg G3]
  refine zX fun a J=>?_
  refine Sto 1 fun w N a J=>?_
  refine go fun a J=>?_
  have b:=N
  replace N:=N.dl [3,2,1,0]
  refine qG (N:=b) ?_
  exact absurd (z4v (by rw [o1,zB E3];rfl)) a2
 refine yE [2,1,1,2,1,2,1,0,0,0] (.q 0 (.q 1 (.q 2 (.q 3 (.q 4 (.q 5 (.q 6 (.e2 7 8 (.e 8 (.e 9 (.done))) (.e 7 (.e 9 (.done))))))))))) [0,1,2] J N fun w N=>?_
 refine go fun a J=>?_
 refine wN ?_ ?_
 refine d_e J rfl rfl rfl (jQ J rfl call112 (ih g (by omega) rW rvars v ((yO y0).2.1 _ (mgQ n0)) rfl (by omega) (by omega) (by omega) (qJ I) N) (fun S3 g6 w B1 A2 N=>⟨fun _=>N.sn ((Fz.Le.refl _).trans (A2.1)),fun a J=>?_⟩) (fun S3 w B1 N=>⟨fun _=>N.sn (Fz.Le.refl _),fun a J=>?_⟩))
 obtain ⟨a4,A3⟩:=S3
 obtain ⟨X4,s448⟩:=g6
 obtain ⟨a0,M1⟩:=A2
 have c1:=jL B1
 simp only at a0 M1 N J c1
 have v6:=yF _ _ _ _ _ _ c1
 obtain ⟨P5,s5,rfl,y7,i9,H6,X6⟩:=aB M1
 replace rW:=rW.up a0
 replace rWc:=rWc.up a0
 replace h2:=h2.up a0
 replace re:=re.up a0
 replace rvars:=rvars.up a0
 replace P:=P.mono a0
 replace v:=v.up a0
 replace N:=N.nf
 have W7:¬A3 < 0:=Nat.not_lt_zero _
 have P6:=uM I c1
 refine Alc fun j5 w N a J=>?_
 refine Sto 0 fun w N a J=>?_
 refine go fun a J=>?_
 exact G2 _ _ ⟨X4,j5,a4,A3,.slice P5 a4.args.length s5,J.pk,N,⟨a0,⟨c1,M1⟩⟩⟩
 have t3:=qW B1 (qJ I)
 have X7:(-1:Int) < 0:=by decide
 refine Alc fun A9 w N a J=>?_
 refine Sto 0 fun w N a J=>?_
 refine go fun a J=>?_
 apply r1
 refine Sto 1 fun w N a J=>?_
 refine go fun a J=>?_
 have b:=N
 replace N:=N.dl [3,2,1,0]
 refine qG (N:=b) ?_
 exact xY (((zT _ _ _ _).trans (kI s0 n0)).trans (xR t3)) ⟨rfl,N.le (Fz.Le.refl _)⟩
 refine Alc fun k5 w N a J=>?_
 refine d_e J rfl rfl rfl (jQ J rfl call112 (ih g (by omega) rW rvars v ((yO y0).2.1 _ (mgQ n0)) rfl (by omega) (by omega) (by omega) (qJ I) N) (fun T3 h6 w C1 B2 N=>⟨fun _=>N.sn ((Fz.Le.refl _).trans (B2.1)),fun a J=>?_⟩) (fun T3 w C1 N=>⟨fun _=>N.sn (Fz.Le.refl _),fun a J=>?_⟩))
 obtain ⟨b4,B3⟩:=T3
 obtain ⟨Y4,s477⟩:=h6
 obtain ⟨b0,N1⟩:=B2
 have d1:=jL C1
 simp only at b0 N1 N J d1
 have w6:=yF _ _ _ _ _ _ d1
 obtain ⟨Q5,t5,rfl,z7,j9,I6,Y6⟩:=aB N1
 replace rW:=rW.up b0
 replace rWc:=rWc.up b0
 replace h2:=h2.up b0
 replace re:=re.up b0
 replace rvars:=rvars.up b0
 replace P:=P.mono b0
 replace v:=v.up b0
 replace N:=N.nf
 have Y7:¬B3 < 0:=Nat.not_lt_zero _
 have Q6:=uM I d1
 refine Sto 0 fun w N a J=>?_
 refine go fun a J=>?_
 exact G2 _ _ ⟨Y4,k5,b4,B3,.slice Q5 b4.args.length t5,J.pk,N,⟨b0,⟨d1,N1⟩⟩⟩
 have u3:=qW C1 (qJ I)
 have Z7:(-1:Int) < 0:=by decide
 refine Sto 0 fun w N a J=>?_
 refine go fun a J=>?_
 apply r1
 refine Sto 1 fun w N a J=>?_
 refine go fun a J=>?_
 have b:=N
 replace N:=N.dl [3,2,1,0]
 refine qG (N:=b) ?_
 exact xY (((zT _ _ _ _).trans (kI s0 n0)).trans (xR u3)) ⟨rfl,N.le (Fz.Le.refl _)⟩
 refine go fun a J=>?_
 replace N:=N.nilRow 42 3
 replace N:=N.nf
 obtain ⟨I5,L3⟩:=x3e k4 l4 m4 w0 s0 R0
 refine zU (J.ks [1,4,6,8]) N (fun R mm a w=>∃(G0:Fz) (i:Nat) (u:Value) (cs:List Value) (xs:List Val) (g1:Nat),mm=e.args.length - i/\R G0 [(3,.int .i64 ((g1:Nat):Int)),(14,u),(15,.int .i64 ((i:Nat):Int))] [(0,.gs (u) 42 3 cs)] a w/\(V.Le G0/\(Chunks (RVal G0) 3 cs xs/\xs.length=i/\g1<=g/\jZ (yM (mY c l)) (vM vars) e.args g=(jZ (yM (mY c l)) (vM vars) (e.args.drop i) g1).bind fun vs g2=>.ok (xs++vs) g2))) (e.args.length - 0) ⟨V,0,.slice none 0 0,[],[],g,rfl,⟨J.pk,N⟩,⟨Fz.Le.refl _,⟨rfl,rfl,Nat.le_refl _,y2h _⟩⟩⟩ ?_
 clear N J
 rintro mm a w ⟨G0,i,u,cs,xs,g1,O2,⟨J,N⟩,p1⟩ x9 r4
 replace N:=N.nf
 obtain ⟨E,p1⟩:=p1
 replace rW:=rW.up E
 replace rWc:=rWc.up E
 replace h2:=h2.up E
 replace re:=re.up E
 replace rvars:=rvars.up E
 obtain ⟨hch,o9,hg1,M0⟩:=p1
 by_cases H3:i < e.args.length
 refine goJ 36 fun a J=>?_
 refine sq fun g5 s1=>?_
 obtain ⟨V5,rfl,X3,r0,h7,n8,q0,Y⟩:=h2.el w4 H3
 obtain ⟨p517,N9,p523,O9,rfl,A7,h516,h522,D8,V8,E8,W8⟩:=REx.fm Y
 have X:=I5
 rw [M0,zA r0] at X
 replace X:=qJ (r:=yM (mY c l) g1 X3 (vM vars)) (qJ X)
 have H2:∀a w,(∃(H0:Fz) (q2:Nat) (z:Val) (g2:Nat) (sv:Value),EnvR 217 [(1,.slice vp vars.length vc),(4,.pointer (some ⟨k2,0,none⟩)),(6,.pointer (some ⟨l2,0,none⟩)),(8,.pointer (some ⟨m2,0,none⟩)),(14,u),(15,.int .i64 ((i:Nat):Int)),(16,.pointer (some ⟨q2,0,none⟩))] [] a/\Mem H0 (.blk q2 (ob [.string z.con,.int .i64 (z.num),sv,.int .i64 ((g2:Nat):Int)] 46)::.gs (u) 42 3 cs::.blk m2 (ob [.string ⟨#[]⟩,.int .i64 ((0:Nat):Int),.slice none 0 0,.int .i64 ((0:Nat):Int)] 46)::.blk l2 (ob [.int .i64 (e.kind),.int .i64 (e.num),.string e.name,.slice (some V5) e.args.length c4,.slice p9 e.arms.length g4] 66)::.blk k2 (ob [.slice I4 c.datas.length D4,.slice J4 c.inputs.length E4,.slice K4 c.funs.length F4,.slice L4 c.outputs.length G4,.slice M4 l.length H4] 113)::K) w/\(G0.Le H0/\((yM (mY c l)) g1 X3 (vM vars)=.ok z g2/\RVal H0 [.string z.con,.int .i64 z.num,sv] z)))->g5 a w:=by
  clear N J
  rintro a w ⟨H0,q2,z,g2,sv,J,N,q1⟩
  obtain ⟨i0,q1⟩:=q1
  replace rW:=rW.up i0
  replace rWc:=rWc.up i0
  replace re:=re.up i0
  replace rvars:=rvars.up i0
  replace hch:=hch.mono fun _ _ h=>h.up i0
  replace q0:=q0.mono i0
  replace Y:=Y.up i0
  apply s1
  obtain ⟨f3,U2⟩:=q1
  have x6:=yF _ _ _ _ _ _ f3
  obtain ⟨R5,u5,rfl,B7,k9,J6,X8⟩:=aB U2
  have a8:¬g2 < 0:=Nat.not_lt_zero _
  refine qF fun v546 w N a J=>?_
  refine qQ 2 pE (fun Y5 w N a J=>?_)
  refine go fun a J=>?_
  replace N:=N.dl [1,0]
  refine r4 _ _ _ (by subst O2;omega) ⟨(H0),(i+1),(Y5),((cs++[.string z.con,.int .i64 (z.num),.slice R5 z.args.length u5])),(xs++[z]),(g2),rfl,⟨J.pk,by exact N⟩,?_⟩
  refine ⟨(E).trans i0,?_⟩
  refine ⟨hch.snoc rfl U2,by simp [o9],by omega,?_⟩
  rw [M0,zA r0]
  exact z6i f3
 refine yE [2,1,1,2,1,1,2,1,0,0,0] (.q 0 (.q 1 (.q 2 (.q 3 (.q 4 (.q 5 (.q 6 (.q 7 (.e2 8 9 (.e 9 (.e 10 (.done))) (.e 8 (.e 10 (.done)))))))))))) [1,2,3] J N fun w N=>?_
 refine go fun a J=>?_
 refine wN ?_ ?_
 refine d_e J rfl rfl rfl (jQ J rfl call112 (ih g1 (by omega) rW rvars Y ((yO y0).2.1 _ (mgQ r0)) rfl (by omega) (by omega) (by omega) X N) (fun U3 i6 w D1 C2 N=>⟨fun _=>N.sn ((Fz.Le.refl _).trans (C2.1)),fun a J=>?_⟩) (fun U3 w D1 N=>⟨fun _=>N.sn (Fz.Le.refl _),fun a J=>?_⟩))
 obtain ⟨d4,C3⟩:=U3
 obtain ⟨Z4,s555⟩:=i6
 obtain ⟨c0,O1⟩:=C2
 have W1:=jL D1
 simp only at c0 O1 N J W1
 have y6:=yF _ _ _ _ _ _ W1
 obtain ⟨S5,v5,rfl,C7,l9,K6,Z6⟩:=aB O1
 replace rW:=rW.up c0
 replace rWc:=rWc.up c0
 replace re:=re.up c0
 replace rvars:=rvars.up c0
 replace hch:=hch.mono fun _ _ h=>h.up c0
 replace q0:=q0.mono c0
 replace Y:=Y.up c0
 replace N:=N.nf
 have b8:¬C3 < 0:=Nat.not_lt_zero _
 refine Alc fun l5 w N a J=>?_
 refine Sto 0 fun w N a J=>?_
 refine go fun a J=>?_
 exact H2 _ _ ⟨Z4,l5,d4,C3,.slice S5 d4.args.length v5,J.pk,N,⟨c0,⟨W1,O1⟩⟩⟩
 have v3:=qW D1 X
 have c8:(-1:Int) < 0:=by decide
 refine Alc fun B9 w N a J=>?_
 refine Sto 0 fun w N a J=>?_
 refine go fun a J=>?_
 apply s1
 refine Sto 2 fun w N a J=>?_
 refine go fun a J=>?_
 have b:=N
 replace N:=N.dl [4,3,2,1,0]
 refine qG (N:=b) ?_
 exact xY ((zT _ _ _ _).trans (L3 (by rw [M0,zA r0];exact z0b v3))) ⟨rfl,N.le (E)⟩
 refine Alc fun m5 w N a J=>?_
 refine d_e J rfl rfl rfl (jQ J rfl call112 (ih g1 (by omega) rW rvars Y ((yO y0).2.1 _ (mgQ r0)) rfl (by omega) (by omega) (by omega) X N) (fun V3 j6 w E1 D2 N=>⟨fun _=>N.sn ((Fz.Le.refl _).trans (D2.1)),fun a J=>?_⟩) (fun V3 w E1 N=>⟨fun _=>N.sn (Fz.Le.refl _),fun a J=>?_⟩))
 obtain ⟨e4,D3⟩:=V3
 obtain ⟨a5,s583⟩:=j6
 obtain ⟨j0,P1⟩:=D2
 have X1:=jL E1
 simp only at j0 P1 N J X1
 have z6:=yF _ _ _ _ _ _ X1
 obtain ⟨T5,w5,rfl,D7,m9,L6,a7⟩:=aB P1
 replace rW:=rW.up j0
 replace rWc:=rWc.up j0
 replace re:=re.up j0
 replace hch:=hch.mono fun _ _ h=>h.up j0
 replace q0:=q0.mono j0
 replace Y:=Y.up j0
 replace N:=N.nf
 have d8:¬D3 < 0:=Nat.not_lt_zero _
 refine Sto 0 fun w N a J=>?_
 refine go fun a J=>?_
 exact H2 _ _ ⟨a5,m5,e4,D3,.slice T5 e4.args.length w5,J.pk,N,⟨j0,⟨X1,P1⟩⟩⟩
 have w3:=qW E1 X
 have e8:(-1:Int) < 0:=by decide
 refine Sto 0 fun w N a J=>?_
 refine go fun a J=>?_
 apply s1
 refine Sto 2 fun w N a J=>?_
 refine go fun a J=>?_
 have b:=N
 replace N:=N.dl [4,3,2,1,0]
 refine qG (N:=b) ?_
 exact xY ((zT _ _ _ _).trans (L3 (by rw [M0,zA r0];exact z0b w3))) ⟨rfl,N.le (E)⟩
 refine go fun a J=>?_
 have K0:jZ (yM (mY c l)) (vM vars) e.args g=.ok xs g1:=by rw [M0,zB H3];exact y0q
 have G:=N
 clear N
 obtain ⟨k3,k0,N,e3⟩:=G.freezeRow (i:=0) rfl
 clear G
 replace rW:=rW.up k0
 replace rWc:=rWc.up k0
 replace re:=re.up k0
 replace hch:=hch.mono fun _ _ h=>h.up k0
 replace N:=N.nf
 have Z:SliceOf RVal k3 3 _ (xs):=⟨_,e3,hch⟩
 obtain ⟨p607,P9,e1,F8,x4⟩:=Z.form (by decide)
 have H:=N
 clear N
 subst e1
 have N:=H
 clear H
 by_cases I3:e.kind=4
 refine zX fun a J=>?_
 refine dG fun a J=>?_
 refine Sto 0 fun w N a J=>?_
 refine go fun a J=>?_
 have b:=N
 replace N:=N.dl [2,1,0]
 refine qG (N:=b) ?_
 exact mL (((zT _ _ _ _).trans (z3d I3)).trans (jW K0)) ⟨(k3,_),rfl,⟨(E).trans k0,RVal.iff.2 ⟨_,rfl,(show I64 0 from ⟨by decide,by decide⟩),Z⟩⟩,N⟩
 by_cases t2:e.kind=8
 refine go fun a J=>?_
 refine yE [1,2,1,1,1,2,1,1,1,2,0,1,1,0] (.q 0 (.q 1 (.q 2 (.q 3 (.q 4 (.q 5 (.q 6 (.q 7 (.q 8 (.q 9 (.q 11 (.e 10 (.q 12 (.e 13 (.done))))))))))))))) [0,1,2] J N fun w N=>?_
 have Z1:=R0
 rw [z4f t2,jW K0] at Z1
 have K3:=j0q Z1
 have b2:0 < xs.length:=by omega
 have Q2:1 < xs.length:=by omega
 refine go fun a J=>?_
 have s4:0 < (xs).length:=by omega
 obtain ⟨q618,rfl,x619,h3,i7,o8,J2,X0⟩:=Z.el x4 s4
 obtain ⟨p627,Q9,rfl,E7,h626,G8,Y8⟩:=RVal.fm X0
 refine go fun a J=>?_
 have t4:1 < (xs).length:=by omega
 obtain ⟨x633,Y1⟩:=qR t4
 obtain ⟨j7,p8,K2,Y0⟩:=Z.elem Y1
 obtain ⟨p641,R9,rfl,F7,h640,H8,Z8⟩:=RVal.fm Y0
 refine yP call165 (fun k6 w n4 N a J=>?_) (c:=j9z (by obtain ⟨_,_,h_,_⟩:=RVal.iff.1 X0;exact h_) (by obtain ⟨_,_,h_,_⟩:=RVal.iff.1 Y0;exact h_) (q6g h3 Y1 Z1).1 N)
 obtain ⟨b5,V9⟩:=k6
 obtain ⟨W,Q1⟩:=n4
 simp only at W Q1 N J
 replace rW:=rW.up W
 replace rWc:=rWc.up W
 replace re:=re.up W
 replace Z:=Z.up W
 replace J2:=J2.mono W
 replace X0:=X0.up W
 replace K2:=K2.mono W
 replace Y0:=Y0.up W
 replace N:=N.nf
 obtain ⟨p654,S9,rfl,G7,h653,I8,a9⟩:=RVal.fm Q1
 refine dG fun a J=>?_
 refine Sto 0 fun w N a J=>?_
 refine go fun a J=>?_
 have b:=N
 replace N:=N.dl [2,1,0]
 refine qG (N:=b) ?_
 exact mL ((((zT _ _ _ _).trans (z4f t2)).trans (jW K0)).trans (q6g h3 Y1 Z1).2) ⟨(b5,_),rfl,⟨((E).trans k0).trans W,Q1⟩,N⟩
 refine go fun a J=>?_
 refine yE [2,1,2,1,2,0,1,1,0,0] (.q 0 (.q 1 (.q 2 (.q 3 (.q 4 (.q 6 (.q 7 (.e 5 (.e 8 (.e 9 (.done))))))))))) [0,1,2] J N fun w N=>?_
 obtain ⟨N2,f_,l3⟩:=x9i k4 l4 m4 w0 s0 I3 t2 R0
 obtain ⟨j_,I7,G5⟩:=y4j l3
 have P2:=R0
 rw [cA N2 l3,jW K0] at P2
 refine zO call55 (fun w N a J=>?_) (c:=dQ rWc N)
 rw [show xF c.funs e.name=((j_:Nat):Int) by rw [xF,I7]] at J
 refine d_e J rfl rfl rfl (jQ J rfl call54 (y0i hF (ih g1 (by omega)) rW G5 Z rfl (by omega) (by omega) P2 N) (fun W3 l6 w F1 E2 N=>⟨fun _=>N.sn ((Fz.Le.refl _).trans (E2.1)),fun a J=>?_⟩) (fun W3 w F1 N=>⟨fun _=>N.sn (Fz.Le.refl _),fun a J=>?_⟩))
 obtain ⟨z664,B5⟩:=W3
 obtain ⟨c5,s667⟩:=l6
 obtain ⟨F0,R1⟩:=E2
 have g3:=jL F1
 simp only at F0 R1 N J g3
 obtain ⟨p672,T9,rfl,H7,n9,M6,b7⟩:=aB R1
 replace rW:=rW.up F0
 replace rWc:=rWc.up F0
 replace re:=re.up F0
 replace N:=N.nf
 have f8:¬B5 < 0:=Nat.not_lt_zero _
 refine Sto 0 fun w N a J=>?_
 refine go fun a J=>?_
 have b:=N
 replace N:=N.dl [2,1,0]
 refine qG (N:=b) ?_
 exact mL ((((zT _ _ _ _).trans (cA N2 l3)).trans (jW K0)).trans g3) ⟨(c5,_),rfl,⟨((E).trans k0).trans F0,R1⟩,N⟩
 have x3:=qW F1 P2
 have g8:(-1:Int) < 0:=by decide
 refine Sto 0 fun w N a J=>?_
 refine go fun a J=>?_
 have b:=N
 replace N:=N.dl [2,1,0]
 refine qG (N:=b) ?_
 exact xY ((((zT _ _ _ _).trans (cA N2 l3)).trans (jW K0)).trans x3) ⟨rfl,N.le ((E).trans k0)⟩
theorem x1b {c:Core} {l:List Named} (a:y9u c):∀g,y9t prog c l g:=by
 suffices H:∀n g,g < n->y9t prog c l g from fun g=>H _ g (Nat.lt_succ_self _)
 intro n
 induction n with
 | zero=>intro g h;omega
 | succ n b=>
  intro g h
  cases g with
  | zero=>exact j3s
  | succ g=>exact j3r a fun g1 h1=>b g1 (by omega)
theorem uX {c:Core} {l:List Named} (a:y9u c) (g:Nat):ApplyR prog c l g:=y0i a (x1b a g)
end Go.Sw
