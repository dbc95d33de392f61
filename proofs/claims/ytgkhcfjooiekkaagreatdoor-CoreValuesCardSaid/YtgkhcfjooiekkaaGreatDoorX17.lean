import Derived.Test.YtgkhcfjooiekkaaGreatDoorX16
set_option linter.unusedVariables false
set_option linter.unusedSimpArgs false
namespace Go.Sw
open Go.Proofs.Tryz
open Go.Proofs
set_option maxRecDepth 20000
set_option maxHeartbeats 4000000
theorem y0v {V:Fz} {K:List Res} {w:World} {d0:List Value} {c:Core} (s:RCore V d0 c) (c2:∀v,d0[3]? = some v->Cap v) (N:Mem V K w) :
  Calls prog 52 #[.agg d0.toArray] w (fun ee w'=>ee=.returned (.int .i64 (nG c))/\Mem V K w'):=by
 obtain ⟨p3,c4,p9,d1,N2,g1,A1,c22,rfl,h2,h8,D,I,h4,j4,x3,t1,y3,W,z3,u1⟩:=RCore.fm s
 refine zM func52 ntmps52 fun Q L a J=>?_
 refine Bx J N fun c1 w N a J=>?_
 refine go J N fun a J=>?_
 refine zV (J.ks [1]) N (fun R mm a w=>∃(i:Nat),mm=c.funs.length - i/\R V [(3,.int .i64 ((i:Nat):Int))] [] a w/\(c.funs.any (fun f=>xG 250 f.body)=(c.funs.drop i).any (fun f=>xG 250 f.body))) (c.funs.length - 0) ⟨0,rfl,⟨J.pk,N⟩,rfl⟩ ?_
 clear N J
 rintro mm a w ⟨i,B,⟨J,N⟩,k0⟩ W3 q1
 refine go J N fun a J=>?_
 by_cases n1:i < c.funs.length
 refine go J N fun a J=>?_
 obtain ⟨m4,rfl,y0,I0,j3,v3,s1,v1⟩:=D.el W n1
 obtain ⟨n4,Y3,rfl,O1,o1⟩:=id v1
 obtain ⟨k4,c46,rfl,A3,D3⟩:=O1.fm
 obtain ⟨O2,I1,P2,J1,rfl,u3,Z3,a4,B3,E3,C3,F3⟩:=REx.fm o1
 refine Qq J N (fun a J=>?_) (o:=by exact fun _ _ _ J O=>xW 3 (vs:=[.int .i64 (y0.body.kind),.int .i64 (y0.body.num),.string y0.body.name,.slice O2 y0.body.args.length I1,.slice P2 y0.body.arms.length J1]) J O rfl s1 isAgg66 sizeOf66 rfl rfl)
 refine zW call106 J N (fun g0 w N a J=>?_) (fun g0 w N a J=>?_) (c:=x3m (m:=250) (by omega) o1 N)
 refine go J N fun a J=>?_
 replace N:=N.dl [0]
 refine zD L J N ?_
 exact jG N (by rw [nG,k0,zA I0,List.any_cons,g0];rfl)
 refine go J N fun a J=>?_
 refine q1 _ _ _ (by subst B;omega) ⟨(i+1),rfl,⟨J.pk,N⟩,?_⟩
 rw [k0,zA I0,List.any_cons,g0];rfl
 refine go J N fun a J=>?_
 have q:c.funs.any (fun f=>xG 250 f.body)=false:=by rw [k0,zE n1];rfl
 refine zW call107 J N (fun h0 w N a J=>?_) (fun h0 w N a J=>?_) (c:=q9t s N)
 refine go J N fun a J=>?_
 replace N:=N.dl [0]
 refine zD L J N ?_
 exact jG N (by rw [nG,q,h0];rfl)
 refine go J N fun a J=>?_
 have r:=h0
 obtain ⟨g2,e4,f4,g4,o2,T0,p2⟩:=j6u r
 refine zW call108 J N (fun i0 w N a J=>?_) (fun i0 w N a J=>?_) (c:=q1c s g2 o2 N)
 refine go J N fun a J=>?_
 by_cases P1:c.outputs.length=0
 refine go J N fun a J=>?_
 replace N:=N.dl [0]
 refine zD L J N ?_
 exact jG N (by exact (vJ q r (by unfold vR;simp only [show decide (c.outputs.length≠0)=false from decide_eq_false (fun g=>g P1),Bool.false_and,Bool.and_false])).symm)
 refine go J N fun a J=>?_
 have Q1:=i0
 have V1:decide (c.outputs.length≠0)=true:=decide_eq_true (by omega)
 refine go J N fun a J=>?_
 replace N:=N.nilRow 9 1
 replace N:=N.nf
 refine zV (J.ks [1]) N (fun R mm a w=>∃(i1:Nat) (u:Value),mm=c.inputs.length - i1/\R V [(4,u),(5,.int .i64 ((i1:Nat):Int))] [(0,.gs (u) 9 1 (strs ((c.inputs.take i1).map Param.name)))] a w/\(c.inputs.all (fun p=>jY c.datas p.type)=(c.inputs.drop i1).all (fun p=>jY c.datas p.type))) (c.inputs.length - 0) ⟨0,.slice none 0 0,rfl,⟨J.pk,N⟩,rfl⟩ ?_
 clear N J
 rintro mm a w ⟨i1,u,B,⟨J,N⟩,l0⟩ X3 r1
 replace N:=N.nf
 refine go J N fun a J=>?_
 by_cases p1:i1 < c.inputs.length
 refine go J N fun a J=>?_
 obtain ⟨Q2,rfl,S2,w0,k3,w3,t3,w1⟩:=h8.el t1 p1
 obtain rfl:=id w1
 refine qG J N fun R2 w N a J=>?_
 refine qN 1 wM J N (fun F1 w N a J=>?_) (hb:=by rw [yF,List.length_map,List.length_take];simp only [lcQ,lnQ];omega)
 replace N:Mem V (.gs (R2) 9 1 [.string S2.name]::.gs (F1) 9 1 (strs ((c.inputs.take (i1+1)).map Param.name))::.blk c1 (ob [.slice p3 c.datas.length c4,.slice (some Q2) c.inputs.length d1,.slice N2 c.funs.length g1,.slice A1 c.outputs.length c22] 27)::K) w:=by rw [xD w0,List.map_append,yQ];exact N
 refine Reg [2,1,2,1,1,1,2,0,1] [0,1,2] J N fun w N a J=>?_
 refine zW call109 J N (fun j0 w N a J=>?_) (fun j0 w N a J=>?_) (c:=z9t s N)
 refine go J N fun a J=>?_
 replace N:=N.dl [0]
 refine r1 _ _ _ (by subst B;omega) ⟨(i1+1),(F1),rfl,⟨J.pk,N⟩,?_⟩
 rw [l0,zA w0,List.all_cons,j0];rfl
 refine go J N fun a J=>?_
 replace N:=N.dl [2,1,0]
 refine zD L J N ?_
 exact jG N (by exact (vJ q r (by unfold vR;simp only [show c.inputs.all (fun p=>jY c.datas p.type)=false by rw [l0,zA w0,List.all_cons,j0];rfl,Bool.false_and,Bool.and_false])).symm)
 refine go J N fun a J=>?_
 have S1:c.inputs.all (fun p=>jY c.datas p.type)=true:=by rw [l0,zE p1];rfl
 rw [List.take_of_length_le (l:=c.inputs) (by omega)] at N
 replace N:=N.nf
 refine go J N fun a J=>?_
 have z0:=Cap.own N (i:=0) rfl
 have y:=N
 clear N
 obtain ⟨H,d,N,p0⟩:=y.freezeRow (i:=0) rfl
 clear y
 replace D:=D.up d
 replace I:=I.up d
 replace s:=RCore.mono _ _ _ _ d s
 replace N:=N.nf
 have X:SliceOf RStr H 1 _ ((c.inputs.map Param.name)):=SliceOf.strs.2 p0
 obtain ⟨G3,a3,s0,q2,C2⟩:=X.form (by decide)
 have z:=N
 clear N
 subst s0
 have N:=z
 clear z
 refine zW call110 J N (fun M w N a J=>?_) (fun M w N a J=>?_) (c:=gG X z0 N)
 refine go J N fun a J=>?_
 have U1:=M
 refine go J N fun a J=>?_
 replace N:=N.nilRow 9 1
 replace N:=N.nf
 refine zV (J.ks [1]) N (fun R mm a w=>∃(i2:Nat) (u:Value),mm=c.funs.length - i2/\R H [(4,u),(6,.int .i64 ((i2:Nat):Int))] [(0,.gs (u) 9 1 (strs ((c.funs.take i2).map Fun.name)))] a w/\(c.funs.all (kG c.datas)=(c.funs.drop i2).all (kG c.datas))) (c.funs.length - 0) ⟨0,.slice none 0 0,rfl,⟨J.pk,N⟩,rfl⟩ ?_
 clear N J
 rintro mm a w ⟨i2,u,B,⟨J,N⟩,A⟩ T2 N0
 replace N:=N.nf
 refine go J N fun a J=>?_
 by_cases A0:i2 < c.funs.length
 refine go J N fun a J=>?_
 obtain ⟨D1,rfl,b,t,K1,j2,m0,G⟩:=D.el W A0
 obtain ⟨S3,X2,rfl,B0,a0⟩:=id G
 obtain ⟨x1,e1,rfl,r2,U0⟩:=B0.fm
 obtain ⟨y1,f1,z1,c143,rfl,d2,l3,m3,s2,D2,t2,E2⟩:=REx.fm a0
 refine Alc J N fun b1 w N a J=>?_
 refine Sto 0 J N fun w N a J=>?_
 refine qG J N fun E1 w N a J=>?_
 refine qN 2 wM J N (fun K0 w N a J=>?_) (hb:=by rw [yF,List.length_map,List.length_take];simp only [lcQ,lnQ];omega)
 replace N:Mem H (.gs (E1) 9 1 [.string b.name]::.blk b1 (ob [.string b.name,.slice x1 b.params.length e1,.string b.result,.int .i64 (b.body.kind),.int .i64 (b.body.num),.string b.body.name,.slice y1 b.body.args.length f1,.slice z1 b.body.arms.length c143] 68)::.gs (K0) 9 1 (strs ((c.funs.take (i2+1)).map Fun.name))::.blk c1 (ob [.slice p3 c.datas.length c4,.slice p9 c.inputs.length d1,.slice (some D1) c.funs.length g1,.slice A1 c.outputs.length c22] 27)::K) w:=by rw [xD t,List.map_append,yQ];exact N
 refine go J N fun a J=>?_
 refine zV (J.ks [1,4,6,7]) N (fun R mm a w=>∃(k:Nat),mm=b.params.length - k/\R H [(8,.int .i64 ((k:Nat):Int))] [] a w/\(b.params.all (fun p=>jH c.datas p.type)=(b.params.drop k).all (fun p=>jH c.datas p.type))) (b.params.length - 0) ⟨0,rfl,⟨J.pk,N⟩,rfl⟩ ?_
 clear N J
 rintro mm a w ⟨k,B,⟨J,N⟩,S⟩ U2 O0
 refine go J N fun a J=>?_
 by_cases C0:k < b.params.length
 refine Reg [2,1,2,1,1,1,2,0,1] [0,1,2,3] J N fun w N a J=>?_
 refine go J N fun a J=>?_
 obtain ⟨O3,rfl,V3,t0,L1,k2,Y1,W0⟩:=B0.el U0 C0
 obtain rfl:=id W0
 refine zW call81 J N (fun P w N a J=>?_) (fun P w N a J=>?_) (c:=tV s N)
 refine go J N fun a J=>?_
 refine O0 _ _ _ (by subst B;omega) ⟨(k+1),rfl,⟨J.pk,N⟩,?_⟩
 rw [S,zA t0,List.all_cons,P];rfl
 refine go J N fun a J=>?_
 replace N:=N.le (d)
 replace N:=N.dl [3,2,1,0]
 refine zD L J N ?_
 exact jG N (by exact (vJ q r (by unfold vR;simp only [show c.funs.all (kG c.datas)=false by rw [A,zA t,List.all_cons];unfold kG;rw [S,zA t0,List.all_cons,P];rfl,Bool.false_and,Bool.and_false])).symm)
 refine go J N fun a J=>?_
 have V0:b.params.all (fun p=>jH c.datas p.type)=true:=by rw [S,zE C0];rfl
 refine zW call81 J N (fun b0 w N a J=>?_) (fun b0 w N a J=>?_) (c:=tV s N)
 refine go J N fun a J=>?_
 refine j3i J rfl rfl rfl rfl rfl (wC J rfl call88 (j9j (f:=b) G (by have h_:=T0 b (mgQ t);omega) N) fun v171 w N a J=>?_)
 replace N:=N.nf
 have n0:=Cap.own N (i:=0) rfl
 have y:=N
 clear N
 obtain ⟨a1,n,N,q0⟩:=y.freezeRow (i:=0) rfl
 clear y
 replace D:=D.up n
 replace I:=I.up n
 replace s:=RCore.mono _ _ _ _ n s
 replace m0:=m0.mono n
 replace G:=RFun.mono _ _ _ _ n G
 replace a0:=REx.mono _ _ _ _ n a0
 replace N:=N.nf
 have Y:SliceOf RStr a1 1 _ ((b.params.map Param.name++zP b.body)):=SliceOf.strs.2 q0
 obtain ⟨H3,b3,s0,u2,F2⟩:=Y.form (by decide)
 have z:=N
 clear N
 subst s0
 have N:=z
 clear z
 refine zW call110 J N (fun c0 w N a J=>?_) (fun c0 w N a J=>?_) (c:=gG Y n0 N)
 refine go J N fun a J=>?_
 replace N:=N.le (n)
 replace N:=N.dl [1,0]
 refine N0 _ _ _ (by subst B;omega) ⟨(i2+1),(K0),rfl,⟨J.pk,N⟩,?_⟩
 rw [A,zA t,List.all_cons,show kG c.datas b=true by unfold kG;rw [V0,show jH c.datas b.result=true from (by first | assumption | exact kJ (by assumption) | exact vQ (by assumption)),show aW (b.params.map Param.name++zP b.body)=true from (by first | assumption | exact kJ (by assumption) | exact vQ (by assumption))];rfl];rfl
 refine go J N fun a J=>?_
 replace N:=N.le ((d).trans n)
 replace N:=N.dl [3,2,1,0]
 refine zD L J N ?_
 exact jG N (by exact (vJ q r (by unfold vR;simp only [show c.funs.all (kG c.datas)=false by rw [A,zA t,List.all_cons];unfold kG;simp only [c0,Bool.and_false,Bool.false_and],Bool.false_and,Bool.and_false])).symm)
 refine go J N fun a J=>?_
 replace N:=N.le (d)
 replace N:=N.dl [3,2,1,0]
 refine zD L J N ?_
 exact jG N (by exact (vJ q r (by unfold vR;simp only [show c.funs.all (kG c.datas)=false by rw [A,zA t,List.all_cons];unfold kG;simp only [b0,Bool.and_false,Bool.false_and],Bool.false_and,Bool.and_false])).symm)
 refine go J N fun a J=>?_
 have R1:c.funs.all (kG c.datas)=true:=by rw [A,zE A0];rfl
 rw [List.take_of_length_le (l:=c.funs) (by omega)] at N
 replace N:=N.nf
 refine go J N fun a J=>?_
 have o0:=Cap.own N (i:=0) rfl
 have y:=N
 clear N
 obtain ⟨U,h,N,r0⟩:=y.freezeRow (i:=0) rfl
 clear y
 replace D:=D.up h
 replace I:=I.up h
 replace s:=RCore.mono _ _ _ _ h s
 replace N:=N.nf
 have Z:SliceOf RStr U 1 _ ((c.funs.map Fun.name)):=SliceOf.strs.2 r0
 obtain ⟨I3,d3,s0,v2,G2⟩:=Z.form (by decide)
 have z:=N
 clear N
 subst s0
 have N:=z
 clear z
 refine zW call110 J N (fun e0 w N a J=>?_) (fun e0 w N a J=>?_) (c:=gG Z o0 N)
 refine zW call110 J N (fun f0 w N a J=>?_) (fun f0 w N a J=>?_) (c:=gG I (c2 _ rfl) N)
 refine go J N fun a J=>?_
 have T1:aW (c.funs.map Fun.name)=true:=(by first | assumption | exact kJ (by assumption) | exact vQ (by assumption))
 have W1:aW c.outputs=true:=(by first | assumption | exact kJ (by assumption) | exact vQ (by assumption))
 refine go J N fun a J=>?_
 refine zV (J.ks [1]) N (fun R mm a w=>∃(i3:Nat),mm=c.funs.length - i3/\R U [(9,.int .i64 ((i3:Nat):Int))] [] a w/\(c.funs.all (pZ c)=(c.funs.drop i3).all (pZ c))) (c.funs.length - 0) ⟨0,rfl,⟨J.pk,N⟩,rfl⟩ ?_
 clear N J
 rintro mm a w ⟨i3,B,⟨J,N⟩,E⟩ V2 P0
 refine go J N fun a J=>?_
 by_cases D0:i3 < c.funs.length
 refine Reg [2,1,2,1,1,1,2,1,2,1,1,1,2,0,1,1,1,1,1] [0] J N fun w N a J=>?_
 refine go J N fun a J=>?_
 obtain ⟨P3,rfl,e,C,M1,l2,R0,X0⟩:=D.el W D0
 obtain ⟨T3,Y2,rfl,E0,F0⟩:=id X0
 obtain ⟨J3,e3,rfl,w2,H2⟩:=E0.fm
 obtain ⟨B1,h1,C1,j1,rfl,e2,n3,o3,x2,I2,y2,J2⟩:=REx.fm F0
 refine Qq J N (fun a J=>?_) (o:=by exact fun _ _ _ J O=>xW 3 (vs:=[.int .i64 (e.body.kind),.int .i64 (e.body.num),.string e.body.name,.slice B1 e.body.args.length h1,.slice C1 e.body.arms.length j1]) J O rfl R0 isAgg66 sizeOf66 rfl rfl)
 refine zS call111 J N (fun w N a J=>?_) (c:=j8i s E0 F0 p2 (T0 e (mgQ C)).2.1 (by have h_:=(T0 e (mgQ C));omega) N)
 refine go J N fun a J=>?_
 generalize b2:(!((zQ c e.body e.params).2))=L0 at J
 cases L0
 refine go J N fun a J=>?_
 by_cases k1:(zQ c e.body e.params).1=e.result
 refine go J N fun a J=>?_
 refine P0 _ _ _ (by subst B;omega) ⟨(i3+1),rfl,⟨J.pk,N⟩,?_⟩
 rw [E,zA C,List.all_cons,show pZ c e=true by unfold pZ;rw [show (zQ c e.body e.params).2=true from (by first | assumption | exact kJ (by assumption) | exact vQ (by assumption)),decide_eq_true (by assumption)];rfl];rfl
 refine go J N fun a J=>?_
 replace N:=N.le ((d).trans h)
 replace N:=N.dl [0]
 refine zD L J N ?_
 exact jG N (by exact (vJ q r (by unfold vR;simp only [show c.funs.all (pZ c)=false by rw [E,zA C,List.all_cons];unfold pZ;simp only [decide_eq_false k1,Bool.and_false,Bool.false_and],Bool.false_and,Bool.and_false])).symm)
 refine go J N fun a J=>?_
 replace N:=N.le ((d).trans h)
 replace N:=N.dl [0]
 refine zD L J N ?_
 exact jG N (by exact (vJ q r (by unfold vR;simp only [show c.funs.all (pZ c)=false by rw [E,zA C,List.all_cons];unfold pZ;simp only [show (zQ c e.body e.params).2=false from (by first | assumption | exact kJ (by assumption) | exact vQ (by assumption)),Bool.and_false,Bool.false_and],Bool.false_and,Bool.and_false])).symm)
 refine go J N fun a J=>?_
 have X1:c.funs.all (pZ c)=true:=by rw [E,zE D0];rfl
 refine go J N fun a J=>?_
 refine zV (J.ks [1]) N (fun R mm a w=>∃(i4:Nat),mm=c.outputs.length - i4/\R U [(12,.int .i64 ((i4:Nat):Int))] [] a w/\(c.outputs.all (z9v c.funs)=(c.outputs.drop i4).all (z9v c.funs))) (c.outputs.length - 0) ⟨0,rfl,⟨J.pk,N⟩,rfl⟩ ?_
 clear N J
 rintro mm a w ⟨i4,B,⟨J,N⟩,F⟩ W2 Q0
 refine go J N fun a J=>?_
 by_cases G0:i4 < c.outputs.length
 refine Reg [2,1,2,1,1,2,0,1] [0] J N fun w N a J=>?_
 refine go J N fun a J=>?_
 obtain ⟨Q3,rfl,x0,T,M0,m2,Z1,Y0⟩:=I.el u1 G0
 obtain rfl:M0=[.string x0]:=Y0
 refine zS call55 J N (fun w N a J=>?_) (c:=y8w s N)
 refine go J N fun a J=>?_
 by_cases H0:aF c.funs x0 < 0
 refine go J N fun a J=>?_
 replace N:=N.le ((d).trans h)
 replace N:=N.dl [0]
 refine zD L J N ?_
 exact jG N (by exact (vJ q r (by unfold vR;simp only [show c.outputs.all (z9v c.funs)=false by rw [F,zA T,List.all_cons,outR_no H0];rfl,Bool.false_and,Bool.and_false])).symm)
 refine go J N fun a J=>?_
 obtain ⟨j,hj⟩:=z8u H0
 have d4:=q4v hj
 rw [show aF c.funs x0=((j:Nat):Int) by rw [aF,hj]] at J
 refine go J N fun a J=>?_
 have S0:j < c.funs.length:=by omega
 obtain ⟨R3,rfl,G1,u0,N1,n2,a2,Z0⟩:=D.el W S0
 obtain ⟨U3,Z2,rfl,l1,m1⟩:=id Z0
 obtain ⟨K3,f3,rfl,z2,K2⟩:=l1.fm
 obtain ⟨L3,g3,M3,h3,rfl,f2,q3,r3,A2,L2,B2,M2⟩:=REx.fm m1
 refine go J N fun a J=>?_
 by_cases s3:0 < G1.params.length
 refine go J N fun a J=>?_
 replace N:=N.le ((d).trans h)
 replace N:=N.dl [0]
 refine zD L J N ?_
 exact jG N (by exact (vJ q r (by unfold vR;simp only [show c.outputs.all (z9v c.funs)=false by rw [F,zA T,List.all_cons,j3s hj u0,decide_eq_false (by omega)];rfl,Bool.false_and,Bool.and_false])).symm)
 refine go J N fun a J=>?_
 refine Q0 _ _ _ (by subst B;omega) ⟨(i4+1),rfl,⟨J.pk,N⟩,?_⟩
 rw [F,zA T,List.all_cons,j3s hj u0,decide_eq_true (by omega)];rfl
 refine go J N fun a J=>?_
 replace N:=N.le ((d).trans h)
 replace N:=N.dl [0]
 refine zD L J N ?_
 exact jG N (by exact (j9r q r (by unfold vR;rw [Q1,V1,S1,U1,R1,T1,W1,X1,show c.outputs.all (z9v c.funs)=true by rw [F,zE G0];rfl];rfl)).symm)
 refine go J N fun a J=>?_
 replace N:=N.le ((d).trans h)
 replace N:=N.dl [0]
 refine zD L J N ?_
 exact jG N (by exact (vJ q r (by unfold vR;simp only [f0,Bool.false_and,Bool.and_false])).symm)
 refine go J N fun a J=>?_
 replace N:=N.le ((d).trans h)
 replace N:=N.dl [0]
 refine zD L J N ?_
 exact jG N (by exact (vJ q r (by unfold vR;simp only [e0,Bool.false_and,Bool.and_false])).symm)
 refine go J N fun a J=>?_
 replace N:=N.le (d)
 replace N:=N.dl [0]
 refine zD L J N ?_
 exact jG N (by exact (vJ q r (by unfold vR;simp only [M,Bool.false_and,Bool.and_false])).symm)
 refine go J N fun a J=>?_
 replace N:=N.dl [0]
 refine zD L J N ?_
 exact jG N (by exact (vJ q r (by unfold vR;simp only [i0,Bool.false_and,Bool.and_false])).symm)
end Go.Sw

namespace Go.Sw
open Go.Proofs.Tryz
open Go.Proofs
set_option maxRecDepth 20000
set_option maxHeartbeats 4000000
variable {V:Fz} {K:List Res} {w:World}
theorem q7t {d0:List Value} {v:Val} {most:Nat} (D:RVal V d0 v) (h1:most<=1000000) (ih:∀x:Val,x.sz < v.sz->∀{V:Fz} {K:List Res} {w:World} {d:List Value} {most:Nat},most<=1000000->RVal V d x->Mem V K w->Calls prog 113 #[.agg d.toArray,.int .i64 (most:Int)] w (fun ee w'=>ee=.returned (.int .i64 ((vE x most:Nat):Int))/\Mem V K w')) (N:Mem V K w) :
  Calls prog 113 #[.agg d0.toArray,.int .i64 (most:Int)] w (fun ee w'=>ee=.returned (.int .i64 (((vE v most:Nat):Int)))/\Mem V K w'):=by
 obtain ⟨p3,c4,rfl,f0,h2,g0,C⟩:=RVal.fm D
 refine zM func113 ntmps113 fun Q hQ a J=>?_
 refine sq fun L8 A=>?_
 refine go0 J N fun a J=>?_
 refine Bx J N fun Y w N a J=>?_
 refine go0 J N fun a J=>?_
 apply A
 refine sq fun M m=>?_
 refine go0 J N fun a J=>?_
 apply m
 refine sq fun y p=>?_
 have f:∀a w,(∃(n:Nat),EnvR 31 [(5,.int .i64 ((n:Nat):Int))] [] a/\Mem V (.blk Y (ob [.string v.con,.int .i64 (v.num),.slice p3 v.args.length c4] 42)::K) w/\(vE v most=n))->y a w:=by
  clear N J
  rintro a w ⟨n,J,N,k⟩
  apply p
  refine sq fun P q=>?_
  refine go0 J N fun a J=>?_
  apply q
  refine go0 J N fun a J=>?_
  replace N:=N.dl [0]
  refine zD hQ J N ?_
  exact jG N (by rw [k])
 refine sq fun S r=>?_
 refine go0 J N fun a J=>?_
 apply r
 refine go0 J N fun a J=>?_
 refine zV (J.ks [1,2]) N (fun R mm a w=>∃(i:Nat) (n:Nat),mm=v.args.length - i/\R V [(5,.int .i64 ((n:Nat):Int)),(6,.int .i64 ((i:Nat):Int))] [] a w/\(1<=n/\n<=most+1/\vE v most=vsizeRs (v.args.drop i) most n)) (v.args.length - 0) ⟨0,1,rfl,⟨J.pk,N⟩,⟨by omega,by omega,j8k v most⟩⟩ ?_
 clear N J
 rintro mm a w ⟨i,n,B,⟨J,N⟩,l⟩ T s
 obtain ⟨h0,i0,j⟩:=l
 refine sq fun U t=>?_
 refine sq fun W b=>?_
 refine go0 J N fun a J=>?_
 by_cases z:i < v.args.length
 refine go0 J N fun a J=>?_
 by_cases b0:n<=most
 refine go0 J N fun a J=>?_
 apply b
 refine go0 J N fun a J=>?_
 apply t
 refine sq fun X u=>?_
 refine go0 J N fun a J=>?_
 obtain ⟨m0,rfl,e,h,E,H,F,g⟩:=h2.el C z
 obtain ⟨l0,Z,rfl,G,c0,I,L⟩:=RVal.fm g
 refine go0 J N fun a J=>?_
 refine Qq J N (fun a J=>?_) (o:=by exact fun _ _ _ J O=>vT ((most - n:Nat):Int) J rfl rfl (by rw [yC (by omega)];omega))
 refine zS call113 J N (fun w N a J=>?_) (c:=ih _ (Val.lt_args (mgQ h)) (by omega) g N)
 refine Qq J N (fun a J=>?_) (o:=by exact fun _ _ _ J O=>z1w ((n+(vE e (most - n)):Nat):Int) J rfl rfl (by have h_:=z2s e (most - n);rw [yC (by omega)];omega))
 refine go0 J N fun a J=>?_
 apply u
 refine go0 J N fun a J=>?_
 refine s _ _ _ (by subst B;omega) ⟨(i+1),(n+(vE e (most - n))),rfl,⟨J.pk,N⟩,?_⟩
 have h_:=z2s e (most - n);exact ⟨by omega,by omega,by rw [j,zA h,q2y,if_pos (by omega)]⟩
 refine go0 J N fun a J=>?_
 apply b
 refine go0 J N fun a J=>?_
 exact f _ _ ⟨n,J.pk,N,by rw [j,z9l (by omega)]⟩
 refine go0 J N fun a J=>?_
 apply b
 refine go0 J N fun a J=>?_
 exact f _ _ ⟨n,J.pk,N,by rw [j,z9l (by omega)]⟩
theorem j2c {d:List Value} {v:Val} {most:Nat} (h1:most<=1000000) (re:RVal V d v) (N:Mem V K w) :
  Calls prog 113 #[.agg d.toArray,.int .i64 (most:Int)] w (fun ee w'=>ee=.returned (.int .i64 ((vE v most:Nat):Int))/\Mem V K w'):=by
 suffices H:∀n (v:Val),v.sz < n->∀{V:Fz} {K:List Res} {w:World} {d:List Value} {most:Nat},most<=1000000->RVal V d v->Mem V K w->Calls prog 113 #[.agg d.toArray,.int .i64 (most:Int)] w (fun ee w'=>ee=.returned (.int .i64 ((vE v most:Nat):Int))/\Mem V K w') from H _ v (Nat.lt_succ_self _) h1 re N
 intro n
 induction n with
 | zero=>intro v h;omega
 | succ n b=>intro v h V K w d most h1 re N;exact q7t re h1 (fun x c _ _ _ _ _ a r m=>b x (by omega) a r m) N
theorem y3b {ds:List Data} {v:Val} {n:Bs} (h:n=yA):pK ds v n=(decide (v.con=sNo)&&decide (v.args.length=0)):=by cases v;simp only [pK,if_pos h];rfl
theorem y9h {ds:List Data} {v:Val} {n:Bs} (h:¬n=yA) (h1:(yD ds n).isSome=false∨¬v.num=0):pK ds v n=false:=by
 cases v with
 | mk con num args=>
  simp only [pK,if_neg h]
  cases a:yD ds n with
  | none=>rfl
  | some d=>rw [a] at h1;exact if_pos (h1.resolve_left (by simp))
theorem q5i {ds:List Data} {v:Val} {n:Bs} (h:¬n=yA) (h1:xN ((yD ds n).getD nL).cons v.con=none):pK ds v n=false:=by
 cases v with
 | mk con num args=>
  simp only [pK,if_neg h]
  cases a:yD ds n with
  | none=>rfl
  | some d=>
   rw [a] at h1
   have h1:xN d.cons con=none:=h1
   simp only [h1];split <;> rfl
theorem z0v {ds:List Data} {v:Val} {n:Bs} {x:Con} (h:¬n=yA) (a:(yD ds n).isSome=true) (c:v.num=0) (h1:xN ((yD ds n).getD nL).cons v.con=some x):pK ds v n=(decide (v.args.length=x.fields.length)&&isValsR ds v.args x.fields):=by
 cases v with
 | mk con num args=>
  simp only [pK,if_neg h]
  cases b:yD ds n with
  | none=>rw [b] at a;cases a
  | some d=>
   rw [b] at h1
   have h1:xN d.cons con=some x:=h1
   simp only [h1,if_neg (show ¬num≠0 from fun g=>g c)];rfl
theorem z5d {ds:List Data} {v:Val} {vs:List Val} {f:Bs} {fs:List Bs}:isValsR ds (v::vs) (f::fs)=(pK ds v f&&isValsR ds vs fs):=rfl
theorem y9n {d0:List Value} {v:Val} (b:RVal V d0 v) (N:Mem V K w) :
  Calls prog 56 #[.agg d0.toArray] w (fun ee w'=>ee=.returned (.bool (z7n v))/\Mem V K w'):=by
 obtain ⟨l,c4,rfl,e,k,f,g⟩:=RVal.fm b
 refine zM func56 ntmps56 fun Q d a J=>?_
 refine Bx J N fun h w N a J=>?_
 refine zS call113 J N (fun w N a J=>?_) (c:=j2c (most:=4000) (by omega) b N)
 refine Qq J N (fun a J=>?_) (o:=by exact fun _ _ _ J O=>j2l (i:=(vE v 4000)) (j:=4000) J rfl rfl)
 refine go J N fun a J=>?_
 replace N:=N.dl [0]
 refine zD d J N ?_
 exact zL N (by first | rfl | simp [z7n, *])
theorem q5j {d0:List Value} {c:Core} {name:Bs} {d2:List Value} {v:Val} (p:RCore V d0 c) (B:RVal V d2 v) (ih:∀x:Val,x.sz < v.sz->∀{V:Fz} {K:List Res} {w:World} {d0:List Value} {name:Bs} {d2:List Value},RCore V d0 c->RVal V d2 x->Mem V K w->Calls prog 65 #[.agg d0.toArray,.string name,.agg d2.toArray] w (fun ee w'=>ee=.returned (.bool (pK c.datas x name))/\Mem V K w')) (N:Mem V K w) :
  Calls prog 65 #[.agg d0.toArray,.string name,.agg d2.toArray] w (fun ee w'=>ee=.returned (.bool (pK c.datas v name))/\Mem V K w'):=by
 obtain ⟨p3,c4,p9,J0,X0,K0,Y0,c22,rfl,h2,h8,P0,Q0,U0,V0,r0,y0,s0,z0,t0,A0⟩:=RCore.fm p
 obtain ⟨Z0,L0,rfl,p0,y,u0,T⟩:=RVal.fm B
 refine zM func65 ntmps65 fun Q q a J=>?_
 refine Bx J N fun G0 w N a J=>?_
 refine Bx J N fun H0 w N a J=>?_
 refine go J N fun a J=>?_
 by_cases R0:name=(⟨#[73,110,116]⟩:Bs)
 refine go J N fun a J=>?_
 by_cases S0:v.con=(⟨#[]⟩:Bs)
 refine Qq J N (fun a J=>?_) (o:=by exact fun _ _ _ J O=>wX (i:=v.args.length) (j:=0) J rfl rfl)
 refine go J N fun a J=>?_
 replace N:=N.dl [1,0]
 refine zD q J N ?_
 exact zL N (by rw [y3b (by assumption)];simp [sNo, *])
 refine go J N fun a J=>?_
 replace N:=N.dl [1,0]
 refine zD q J N ?_
 exact zL N (by rw [y3b (by assumption)];simp [sNo, *])
 refine go J N fun a J=>?_
 have d:¬name=yA:=by assumption
 refine qH call118 J N (fun j0 w L N a J=>?_) (c:=z3m p N)
 obtain ⟨u,O0⟩:=j0
 obtain ⟨b,r⟩:=L
 simp only at b r N J
 replace p:=RCore.mono _ _ _ _ b p
 replace y:=y.up b
 replace B:=RVal.mono _ _ _ _ b B
 replace N:=N.nf
 obtain ⟨e1,rfl,E⟩:=id r
 obtain ⟨a1,M0,rfl,w0,U⟩:=E.fm
 refine Alc J N fun I0 w N a J=>?_
 refine Sto 0 J N fun w N a J=>?_
 refine go J N fun a J=>?_
 generalize o0:(!(yD c.datas name).isSome)=C at J
 cases C
 refine go J N fun a J=>?_
 by_cases T0:v.num=0
 refine go J N fun a J=>?_
 refine zV (J.ks [3,5,7]) N (fun R mm a w=>∃(i:Nat),mm=((yD c.datas name).getD nL).cons.length - i/\R u [(9,.int .i64 ((i:Nat):Int))] [] a w/\(xN ((yD c.datas name).getD nL).cons v.con=xN (((yD c.datas name).getD nL).cons.drop i) v.con)) (((yD c.datas name).getD nL).cons.length - 0) ⟨0,rfl,⟨J.pk,N⟩,rfl⟩ ?_
 clear N J
 rintro mm a w ⟨i,z,⟨J,N⟩,l⟩ E0 M
 refine go J N fun a J=>?_
 by_cases F:i < ((yD c.datas name).getD nL).cons.length
 refine Reg [1,2,1,1,1,2,1,2,1] [0,1,2] J N fun w N a J=>?_
 refine go J N fun a J=>?_
 obtain ⟨c1,rfl,h,s,l0,q0,n0,X⟩:=E.el U F
 obtain ⟨f1,rfl,G⟩:=id X
 obtain ⟨b1,N0,rfl,x0,W⟩:=G.fm
 refine go J N fun a J=>?_
 by_cases H:h.name=v.con
 refine Reg [1,2,1,1,2,1,1,1,2,1,1] [0,1,2] J N fun w N a J=>?_
 have f:xN ((yD c.datas name).getD nL).cons v.con=some h:=by rw [l,zA s,xN,if_pos H]
 refine go J N fun a J=>?_
 by_cases Z:v.args.length=h.fields.length
 refine go J N fun a J=>?_
 refine zV (J.ks [3,5,7,9]) N (fun R mm a w=>∃(k:Nat),mm=v.args.length - k/\R u [(10,.int .i64 ((k:Nat):Int))] [] a w/\(isValsR c.datas v.args h.fields=isValsR c.datas (v.args.drop k) (h.fields.drop k))) (v.args.length - 0) ⟨0,rfl,⟨J.pk,N⟩,rfl⟩ ?_
 clear N J
 rintro mm a w ⟨k,z,⟨J,N⟩,m⟩ F0 P
 refine go J N fun a J=>?_
 by_cases I:k < v.args.length
 refine Reg [2,1,2,1,1,1,2,1,1,2,1,2,1,1,2,0,1] [0,1,2] J N fun w N a J=>?_
 refine go J N fun a J=>?_
 have S:k < h.fields.length:=by omega
 obtain ⟨d1,rfl,i0,t,D,e0,a0,A⟩:=G.el W S
 obtain rfl:D=[.string i0]:=A
 refine go J N fun a J=>?_
 obtain ⟨C0,rfl,D0,g,Y,f0,b0,n⟩:=y.el T I
 obtain ⟨B0,k0,rfl,c0,m0,g0,h0⟩:=RVal.fm n
 refine zW call65 J N (fun e w N a J=>?_) (fun e w N a J=>?_) (c:=ih _ (Val.lt_args (mgQ g)) p n N)
 refine go J N fun a J=>?_
 refine P _ _ _ (by subst z;omega) ⟨(k+1),rfl,⟨J.pk,N⟩,?_⟩
 rw [m,zA g,zA t,z5d,e];rfl
 refine go J N fun a J=>?_
 replace N:=N.le (b)
 replace N:=N.dl [2,1,0]
 refine zD q J N ?_
 exact zL N (by rw [z0v d (by first | assumption | exact kJ (by assumption) | exact vQ (by assumption)) (by assumption) f,m,zA g,zA t,z5d,e];simp)
 refine go J N fun a J=>?_
 replace N:=N.le (b)
 replace N:=N.dl [2,1,0]
 refine zD q J N ?_
 exact zL N (by rw [z0v d (by first | assumption | exact kJ (by assumption) | exact vQ (by assumption)) (by assumption) f,m,zE I,decide_eq_true (by omega)];rfl)
 refine go J N fun a J=>?_
 replace N:=N.le (b)
 replace N:=N.dl [2,1,0]
 refine zD q J N ?_
 exact zL N (by rw [z0v d (by first | assumption | exact kJ (by assumption) | exact vQ (by assumption)) (by assumption) f,decide_eq_false Z];rfl)
 refine go J N fun a J=>?_
 refine M _ _ _ (by subst z;omega) ⟨(i+1),rfl,⟨J.pk,N⟩,?_⟩
 rw [l,zA s,xN,if_neg H]
 refine go J N fun a J=>?_
 replace N:=N.le (b)
 replace N:=N.dl [2,1,0]
 refine zD q J N ?_
 exact zL N (by exact (q5i d (by rw [l,zE F,xN])).symm)
 refine go J N fun a J=>?_
 replace N:=N.le (b)
 replace N:=N.dl [2,1,0]
 refine zD q J N ?_
 exact zL N (by exact (y9h d (by first | exact .inl (by assumption) | exact .inl (vQ (by assumption)) | exact .inr (by assumption))).symm)
 refine go J N fun a J=>?_
 replace N:=N.le (b)
 replace N:=N.dl [2,1,0]
 refine zD q J N ?_
 exact zL N (by exact (y9h d (by first | exact .inl (by assumption) | exact .inl (vQ (by assumption)) | exact .inr (by assumption))).symm)
theorem y3a {d0:List Value} {c:Core} {name:Bs} {d2:List Value} {v:Val} (a:RCore V d0 c) (b:RVal V d2 v) (N:Mem V K w) :
  Calls prog 65 #[.agg d0.toArray,.string name,.agg d2.toArray] w (fun ee w'=>ee=.returned (.bool (pK c.datas v name))/\Mem V K w'):=by
 suffices H:∀n (v:Val),v.sz < n->∀{V:Fz} {K:List Res} {w:World} {d0:List Value} {name:Bs} {d2:List Value},RCore V d0 c->RVal V d2 v->Mem V K w->Calls prog 65 #[.agg d0.toArray,.string name,.agg d2.toArray] w (fun ee w'=>ee=.returned (.bool (pK c.datas v name))/\Mem V K w') from H _ v (Nat.lt_succ_self _) a b N
 intro n
 induction n with
 | zero=>intro v h;omega
 | succ n e=>intro v h V K w d0 name d2 d g1 m;exact q5j d g1 (fun x i _ _ _ _ _ _ f g m=>e x (by omega) f g m) m
theorem z0p {d0:List Value} {c:Core} {name:Bs} {d2:List Value} {v:Val} (b:RCore V d0 c) (d:RVal V d2 v) (j:∀v,d0[3]? = some v->Cap v) (N:Mem V K w) :
  Calls prog 30 #[.agg d0.toArray,.string name,.agg d2.toArray] w (fun ee w'=>ee=.returned (.int .i64 (wJ c name v))/\Mem V K w'):=by
 obtain ⟨R,c4,S,y,H,z,I,c22,rfl,M,P,B,C,F,G,l,p,m,q,n,r⟩:=RCore.fm b
 obtain ⟨L,A,rfl,k,D,o,s⟩:=RVal.fm d
 have i:=j
 refine zM func30 ntmps30 fun Q h a J=>?_
 refine Bx J N fun t w N a J=>?_
 refine Bx J N fun u w N a J=>?_
 refine zS call52 J N (fun w N a J=>?_) (c:=y0v b i N)
 refine go J N fun a J=>?_
 by_cases E:nG c=0
 refine zW call81 J N (fun e w N a J=>?_) (fun e w N a J=>?_) (c:=tV b N)
 refine zW call56 J N (fun f w N a J=>?_) (fun f w N a J=>?_) (c:=y9n d N)
 refine go J N fun a J=>?_
 replace N:=N.dl [1,0]
 refine zD h J N ?_
 exact jG N (by simp [wJ, *])
 refine zW call65 J N (fun g w N a J=>?_) (fun g w N a J=>?_) (c:=y3a b d N)
 refine go J N fun a J=>?_
 replace N:=N.dl [1,0]
 refine zD h J N ?_
 exact jG N (by simp [wJ, *])
 refine go J N fun a J=>?_
 replace N:=N.dl [1,0]
 refine zD h J N ?_
 exact jG N (by simp [wJ, *])
 refine go J N fun a J=>?_
 replace N:=N.dl [1,0]
 refine zD h J N ?_
 exact jG N (by simp [wJ, *])
 refine go J N fun a J=>?_
 replace N:=N.dl [1,0]
 refine zD h J N ?_
 exact jG N (by simp [wJ, *])
theorem uV {d0:List Value} {c:Core} {v1:Value} {l:List Named} (j:RCore V d0 c) (B:SliceOf RNamed V 4 v1 l) (D:∀v,d0[3]? = some v->Cap v) (N:Mem V K w) :
  Calls prog 32 #[.agg d0.toArray,v1] w (fun ee w'=>ee=.returned (.int .i64 (vA c l))/\Mem V K w'):=by
 obtain ⟨p3,c4,p9,g0,r0,h0,s0,c22,rfl,h2,h8,i0,j0,p0,q0,T,u,U,Y,W,Z⟩:=RCore.fm j
 obtain ⟨p1,c1,rfl,o0,F⟩:=B.fm
 have t:=D
 refine zM func32 ntmps32 fun Q k a J=>?_
 refine Bx J N fun e0 w N a J=>?_
 refine zS call52 J N (fun w N a J=>?_) (c:=y0v j t N)
 refine go J N fun a J=>?_
 by_cases C:nG c=0
 refine go J N fun a J=>?_
 by_cases k0:l.length=c.inputs.length
 refine go J N fun a J=>?_
 refine zV (J.ks [1,2]) N (fun R mm a w=>∃(i:Nat),mm=l.length - i/\R V [(6,.int .i64 ((i:Nat):Int))] [] a w/\(nJ c.datas l c.inputs=nJ c.datas (l.drop i) (c.inputs.drop i))) (l.length - 0) ⟨0,rfl,⟨J.pk,N⟩,rfl⟩ ?_
 clear N J
 rintro mm a w ⟨i,E,⟨J,N⟩,b⟩ c0 r
 refine go J N fun a J=>?_
 by_cases n:i < l.length
 refine Reg [1,1,1,1,2,1,2,1,1,1,2,1,1,1,1,1,1,2,0,1,1,2,1,2,1,1,1,2,1,1,1,1,2,0,1,1] [0] J N fun w N a J=>?_
 refine go J N fun a J=>?_
 obtain ⟨t0,rfl,d,e,H,P,g,y⟩:=B.el F n
 obtain ⟨f0,rfl,h⟩:=id y
 obtain ⟨A,m,rfl,M,l0,X,a0⟩:=RVal.fm h
 refine go J N fun a J=>?_
 have s:i < c.inputs.length:=by omega
 obtain ⟨u0,rfl,G,f,I,S,L,z⟩:=h8.el u s
 obtain rfl:=id z
 refine go J N fun a J=>?_
 by_cases m0:d.name=G.name
 refine Qq J N (fun a J=>?_) (o:=by exact fun _ _ _ J O=>xW 1 (vs:=[.string d.value.con,.int .i64 (d.value.num),.slice A d.value.args.length m]) J O rfl g isAgg42 sizeOf42 rfl rfl)
 refine zW call56 J N (fun p w N a J=>?_) (fun p w N a J=>?_) (c:=y9n h N)
 refine go J N fun a J=>?_
 replace N:=N.dl [0]
 refine zD k J N ?_
 exact jG N (by rw [vA,if_neg (by simp [*]),if_neg (by omega),show nJ c.datas l c.inputs=false by rw [b,zA e,zA f,nJ];simp [*]];rfl)
 refine Qq J N (fun a J=>?_) (o:=by exact fun _ _ _ J O=>xW 1 (vs:=[.string d.value.con,.int .i64 (d.value.num),.slice A d.value.args.length m]) J O rfl g isAgg42 sizeOf42 rfl rfl)
 refine zW call65 J N (fun q w N a J=>?_) (fun q w N a J=>?_) (c:=y3a j h N)
 refine go J N fun a J=>?_
 refine r _ _ _ (by subst E;omega) ⟨(i+1),rfl,⟨J.pk,N⟩,?_⟩
 rw [b,zA e,zA f,nJ];simp [*]
 refine go J N fun a J=>?_
 replace N:=N.dl [0]
 refine zD k J N ?_
 exact jG N (by rw [vA,if_neg (by simp [*]),if_neg (by omega),show nJ c.datas l c.inputs=false by rw [b,zA e,zA f,nJ];simp [*]];rfl)
 refine go J N fun a J=>?_
 replace N:=N.dl [0]
 refine zD k J N ?_
 exact jG N (by rw [vA,if_neg (by simp [*]),if_neg (by omega),show nJ c.datas l c.inputs=false by rw [b,zA e,zA f,nJ];simp [*]];rfl)
 refine go J N fun a J=>?_
 replace N:=N.dl [0]
 refine zD k J N ?_
 exact jG N (by rw [vA,if_neg (by simp [*]),if_neg (by omega),show nJ c.datas l c.inputs=true by rw [b,zE n,nJ]];rfl)
 refine go J N fun a J=>?_
 replace N:=N.dl [0]
 refine zD k J N ?_
 exact jG N (by simp [vA, *])
 refine go J N fun a J=>?_
 replace N:=N.dl [0]
 refine zD k J N ?_
 exact jG N (by rw [vA,if_pos C])
end Go.Sw

namespace Go.Sw
open Go.Proofs.Tryz
open Go.Proofs
set_option maxRecDepth 20000
set_option maxHeartbeats 4000000
theorem z2y (c:Core) (t:Bs) (v:Val):wI c t v=wJ c t v:=by
 unfold wI wJ
 rw [q4e]
 by_cases h:yP c=0
 have a:=(j3c h).tab
 simp only [h,ne_eq,not_true_eq_false,if_false]
 rw [z7l a,q5r,y5l a]
 rw [if_pos h,if_pos h]
theorem z0n (c:Core) (l:List Named):mP c l=vA c l:=by
 unfold mP vA
 rw [q4e]
 by_cases h:yP c=0
 have a:=(j3c h).tab
 simp only [h,ne_eq,not_true_eq_false,if_false]
 by_cases hl:l.length=c.inputs.length
 simp only [hl,not_true_eq_false,if_false]
 rw [q4x a l _ hl]
 cases vP (zH c) l c.inputs <;> rfl
 rw [if_pos hl]
 cases g:vP (zH c) l c.inputs with
 | true=>exact absurd (y9c g) hl
 | false=>rfl
 rw [if_pos h,if_pos h]
theorem y6q {V:Fz} {K:List Res} {w:World} {d0 d1:List Value} {R:Value} {c:Core} {x:Param} {l:List Named} (b:RCore V d0 c) (s:RParam V d1 x) (rl:SliceOf RNamed V 4 R l) (p:∀v,d0[3]? = some v->Cap v) (G:Glob V) (t:Tabs V) (N:Mem V K w) :
  Calls prog 11 #[.agg d0.toArray,.agg d1.toArray,R] w (fun ee w'=>ee=.returned (.bool true)/\Mem V K w'):=by
 obtain ⟨p3,c4,p9,X,g0,Y,h0,c22,rfl,h2,h8,a0,b0,e0,f0,B,H,C,I,D,L⟩:=RCore.fm b
 obtain rfl:=id s
 obtain ⟨i0,Z,rfl,F,j⟩:=rl.fm
 have d:=p
 refine zM func11 ntmps11 fun Q y a J=>?_
 refine Bx J N fun S w N a J=>?_
 refine Bx J N fun T w N a J=>?_
 refine yE J N fun a J=>?_
 refine Alc J N fun U w N a J=>?_
 refine Sto 0 J N fun w N a J=>?_
 refine go J N fun a J=>?_
 have g:RVal V [.string ⟨#[]⟩,.int .i64 0,.slice none 0 0] (Val.mk sNo 0 []):=RVal.iff.2 ⟨_,rfl,⟨by decide,by decide⟩,SliceOf.nil 3⟩
 refine go J N fun a J=>?_
 by_cases n:0 < l.length
 refine go J N fun a J=>?_
 obtain ⟨j0,rfl,f,P,u,A,i,k⟩:=rl.el j n
 obtain ⟨W,rfl,h⟩:=id k
 obtain ⟨r,m,rfl,z,c0,E,M⟩:=RVal.fm h
 refine Qq J N (fun a J=>?_) (o:=by exact fun _ _ _ J O=>xW 1 (vs:=[.string f.value.con,.int .i64 (f.value.num),.slice r f.value.args.length m]) J O rfl i isAgg42 sizeOf42 rfl rfl)
 refine Sto 0 J N fun w N a J=>?_
 refine zS call18 J N (fun w N a J=>?_) (c:=j4b G t N)
 refine go J N fun a J=>?_
 refine yZ [1,1,2,1,2,2,0,2,1,2,2,0,1,1,1,2,1,0,2,1,0,1,1,1] (.q 0 (.q 1 (.q 2 (.q 3 (.q 4 (.q 5 (.q 7 (.q 8 (.q 9 (.q 10 (.e 6 (.e 11 (.q 12 (.q 13 (.q 14 (.q 15 (.q 16 (.q 18 (.q 19 (.e 17 (.e 20 (.q 21 (.q 22 (.q 23 (.done))))))))))))))))))))))))) [0,1,2] J N fun w N=>?_
 refine zS call29 J N (fun w N a J=>?_) (c:=z2z (name:=x.type) b h G N)
 refine zS call30 J N (fun w N a J=>?_) (c:=z0p (name:=x.type) b h d N)
 refine Qq J N (fun a J=>?_) (o:=by exact fun _ _ _ J O=>xK true J rfl rfl (decide_eq_true (z2y c x.type f.value)))
 refine zS call31 J N (fun w N a J=>?_) (c:=z0o b rl G N)
 refine zS call32 J N (fun w N a J=>?_) (c:=uV b rl d N)
 refine Qq J N (fun a J=>?_) (o:=by exact fun _ _ _ J O=>xK true J rfl rfl (decide_eq_true (z0n c l)))
 refine go J N fun a J=>?_
 replace N:=N.dl [2,1,0]
 refine zD y J N ?_
 exact ⟨by rfl,N⟩
 refine zS call18 J N (fun w N a J=>?_) (c:=j4b G t N)
 refine go J N fun a J=>?_
 refine yZ [1,1,2,1,2,2,0,2,1,2,2,0,1,1,1,2,1,0,2,1,0,1,1,1] (.q 0 (.q 1 (.q 2 (.q 3 (.q 4 (.q 5 (.q 7 (.q 8 (.q 9 (.q 10 (.e 6 (.e 11 (.q 12 (.q 13 (.q 14 (.q 15 (.q 16 (.q 18 (.q 19 (.e 17 (.e 20 (.q 21 (.q 22 (.q 23 (.done))))))))))))))))))))))))) [0,1,2] J N fun w N=>?_
 refine zS call29 J N (fun w N a J=>?_) (c:=z2z (name:=x.type) b g G N)
 refine zS call30 J N (fun w N a J=>?_) (c:=z0p (name:=x.type) b g d N)
 refine Qq J N (fun a J=>?_) (o:=by exact fun _ _ _ J O=>xK true J rfl rfl (decide_eq_true (z2y c x.type (Val.mk sNo 0 []))))
 refine zS call31 J N (fun w N a J=>?_) (c:=z0o b rl G N)
 refine zS call32 J N (fun w N a J=>?_) (c:=uV b rl d N)
 refine Qq J N (fun a J=>?_) (o:=by exact fun _ _ _ J O=>xK true J rfl rfl (decide_eq_true (z0n c l)))
 refine go J N fun a J=>?_
 replace N:=N.dl [2,1,0]
 refine zD y J N ?_
 exact ⟨by rfl,N⟩
end Go.Sw
