import Derived.LoopNIn
import Derived.RangeFuncIn
import Derived.Test.YtlfobekmmndchaaGreatDoorX07
set_option linter.unusedVariables false
set_option linter.unusedSimpArgs false
namespace Go.Sw
open Go.Proofs Go.Proofs.Tryz
set_option maxRecDepth 20000
set_option maxHeartbeats 4000000
def z7a (e:TE):Prop:=∀{Φ:Fz} {w:World} {σ β:Type} {c:List Value} {y:Value} {step:σ->Fnd->σ×Bool} {G:Fz->σ->Bool->β->Prop} {KV:σ->Bool->β->List Res} {s0:σ} {z0:β} {p:List Int} {up:List TE} {items:List Fnd},
  RFnd Φ c ⟨p,up,e⟩->FitE p up e->Steps prog y Φ RFnd items step G KV->(∀x∈zE p up e,x∈items)->G Φ s0 true z0->Mem Φ (KV s0 true z0) w ->
  Calls prog 124 #[.agg c.toArray,y] w (fun ee w'=>∃q:Fz×β,ee=.returned (.bool (zK step s0 (zE p up e)).2)/\(Φ.Le q.1/\G q.1 (zK step s0 (zE p up e)).1 (zK step s0 (zE p up e)).2 q.2)/\Mem q.1 (KV (zK step s0 (zE p up e)).1 (zK step s0 (zE p up e)).2 q.2) w')
theorem q5b {e:TE} (B1:∀a∈e.arms,z7a a.body) (C1:∀x∈e.body,z7a x):z7a e:=by
 intro Φ w σ β c y step G KV s0 z0 p up items hf I M F0 B N
 have m:=hf
 obtain ⟨r1,p1,q1,n1⟩:=M.fn
 subst n1
 obtain ⟨s1,s2,p3,d4,rfl,i1,D1,D,y0,C,q0⟩:=id hf
 replace D:SliceOf RInt Φ 1 s1 p:=D
 replace y0:SliceOf RPtE Φ 1 s2 up:=y0
 replace q0:RTE Φ _ e:=q0
 obtain ⟨Y,P,rfl,R1,A2⟩:=D.fm
 obtain ⟨Z,U,rfl,S1,B2⟩:=y0.fm
 have n:=q0
 obtain ⟨X2,c23,Y2,R2,Z2,S2,rfl,t2,u2,U2,o0,E,w2,C2,x2,j1,y2,k1⟩:=RTE.fm q0
 refine zJ func124 ntmps124 fun Q hQ a J=>?_
 refine Bx fun T w N a J=>?_
 refine go1 fun a J=>?_
 refine mQ ?_
 refine zH J (by intro c h;cases h) (yX J rfl) rfl fun a J=>
   zH J (by intro c h;cases h) (qA 0 (vs:=[.slice Y p.length P,.slice Z up.length U,.pointer (some p3)]) J N.toSees rfl rfl isAgg90 sizeOf90 rfl rfl) rfl fun a J=>?_
 refine in_stR J rfl rfl rfl (by intro c h;cases h) (hM J rfl rfl (M.go Φ s0 z0 _ (⟨p,up,e⟩) [.blk T (ob [.slice Y p.length P,.slice Z up.length U,.pointer (some p3)] 90)] w (Fz.Le.refl _) (F0 _ q5a) m B N) fun w A1 a J=>?_)
 obtain ⟨u1,t1,u,j,N⟩:=A1
 replace D:=D.mono RInt.mono u
 replace y0:=y0.mono RPtE.mono u
 replace o0:=o0.mono RTA.mono u
 replace E:=E.mono RTE.mono u
 replace C:=C.mono u
 replace n:=RTE.mono _ _ _ _ u n
 replace m:=RFnd.mono _ _ _ _ u m
 replace B:=M.mono _ _ _ _ _ u B
 replace N:=N.nf
 refine zH J (by intro c h;cases h) (z5v J rfl) rfl fun a J=>?_
 refine zY ?_
 refine go fun a J=>?_
 generalize R0:(!(step s0 (⟨p,up,e⟩)).2)=e1 at J
 cases e1
 refine go fun a J=>?_
 have S0:(step s0 (⟨p,up,e⟩)).2=true:=by have h_:=R0;revert h_;cases ((step s0 (⟨p,up,e⟩)).2) <;> simp
 rw [S0] at j N
 refine Reg [1,2,1,1,1,1,2,0,0,1] [0] fun w N a J=>?_
 have l1:=SliceOf.full y0
 refine Qq (fun a J=>?_) (o:=by exact fun J O=>oR J rfl rfl rfl runUnderlying87 sizeOf88 (show up.length<=U from D1))
 refine qG fun m0 w N a J=>?_
 obtain ⟨k2,O0,g0⟩:=id l1
 refine d_e J rfl rfl rfl (cG aM J N rfl O0 rfl (N.toSees.rowIn (i:=0) rfl) (by simp) rfl (by rw [g0.length];have:=I.1;have:=I.2;simp only [lcQ,lnQ];omega) fun f3 w N=>⟨fun _=>N.sn (Fz.Le.refl _),fun a J=>?_⟩)
 replace N:=N.nf
 have K:=N
 clear N
 obtain ⟨N0,v,N,P0,p0⟩:=K.freezeRowC (i:=0) rfl
 clear K
 replace D:=D.mono RInt.mono v
 replace o0:=o0.mono RTA.mono v
 replace E:=E.mono RTE.mono v
 replace C:=C.mono v
 replace n:=RTE.mono _ _ _ _ v n
 replace m:=RFnd.mono _ _ _ _ v m
 replace B:=M.mono _ _ _ _ _ v B
 replace j:=M.mono _ _ _ _ _ v j
 replace g0:=g0.mono fun _ _ h=>RPtE.mono _ _ _ _ v h
 replace N:=N.nf
 have k:SliceOf RPtE N0 1 _ ((up++[e])):=⟨_,P0,g0.append (yQ rfl ⟨_,_,rfl,C,n⟩)⟩
 obtain ⟨o1,f1,M0,T1,D2⟩:=k.form (by decide)
 have L:=N
 clear N
 subst M0
 have N:=L
 clear L
 refine go fun a J=>?_
 refine pX (fun mm a w=>∃(d0:Fz) (i:Nat) (si:σ) (zi:β),mm=e.arms.length - i/\EnvR 90 [(1,.func r1 p1 q1),(2,.pointer (some ⟨T,0,none⟩)),(5,.int .i64 p.length),(7,.slice o1 ((up++[e])).length f1),(34,.int .i64 e.arms.length),(35,.int .i64 i)] [] a/\Mem d0 (.gs (m0) 88 1 [.pointer (some p3)]::.blk T (ob [.slice Y p.length P,.slice Z up.length U,.pointer (some p3)] 90)::KV si true zi) w/\(N0.Le d0/\(zK step s0 (zE p up e)=zK step si (belowTa p (up++[e]) ((i:Nat):Int) (e.arms.drop i)++belowTs p (up++[e]) 0 e.body)/\G d0 si true zi))) (e.arms.length - 0) ⟨N0,0,(step s0 (⟨p,up,e⟩)).1,t1,rfl,J.pk,N,⟨Fz.Le.refl _,⟨y9w S0,j⟩⟩⟩ ?_
 clear N J
 rintro mm a w ⟨d0,i,si,zi,a1,J,N,b0⟩ P2 h1
 obtain ⟨t,b0⟩:=b0
 replace D:=D.mono RInt.mono t
 replace o0:=o0.mono RTA.mono t
 replace E:=E.mono RTE.mono t
 replace C:=C.mono t
 replace n:=RTE.mono _ _ _ _ t n
 replace m:=RFnd.mono _ _ _ _ t m
 replace B:=M.mono _ _ _ _ _ t B
 replace j:=M.mono _ _ _ _ _ t j
 replace k:=k.mono RPtE.mono t
 have A:=b0.2
 by_cases g1:i < e.arms.length
 refine go fun a J=>?_
 refine jF [1,2,1,1,1,1,0,0,1,1,2,1,1,2,1,1,1,1,1,0,1] (.q 0 (.q 1 (.q 2 (.q 3 (.q 4 (.q 5 (.q 8 (.q 9 (.q 10 (.q 11 (.q 12 (.q 13 (.q 14 (.q 15 (.q 16 (.q 18 (.e 6 (.e 7 (.q 17 (.e 19 (.q 20 (.done)))))))))))))))))))))) [.gs (m0) 88 1 [.pointer (some p3)],.blk T (ob [.slice Y p.length P,.slice Z up.length U,.pointer (some p3)] 90)] J N mixed (by kernel_rfl) (by simp) fun w N=>?_
 have m1:=SliceOf.full D
 refine Qq (fun a J=>?_) (o:=by exact fun J O=>oR J rfl rfl rfl runUnderlying34 sizeOf3 (show p.length<=P from i1))
 refine go fun a J=>?_
 obtain ⟨d3,rfl,A0,l0,l2,v2,i0,j0⟩:=o0.el j1 g1
 obtain ⟨a3,T2,Q2,rfl,V2,x0,z2,E2⟩:=RTA.fm j0
 obtain ⟨b3,d2,F2,e2,G2,f2,rfl,E1,F1,W2,m2,n2,L1,U1,M1,V1,N1,W1⟩:=RTE.fm x0
 refine qG fun U0 w N a J=>?_
 obtain ⟨x1,G0,R⟩:=id m1
 refine d_e J rfl rfl rfl (cG cP J N rfl G0 rfl (N.toSees.rowIn (i:=0) rfl) (by simp) rfl (by rw [R.length];have:=I.1;have:=I.2;simp only [lcQ,lnQ];omega) fun N2 w N=>⟨fun _=>N.sn (Fz.Le.refl _),fun a J=>?_⟩)
 replace N:=N.nf
 have K:=N
 clear N
 obtain ⟨c1,d,N,H0,D0⟩:=K.freezeRowC (i:=0) rfl
 clear K
 replace D:=D.mono RInt.mono d
 replace E:=E.mono RTE.mono d
 replace C:=C.mono d
 replace n:=RTE.mono _ _ _ _ d n
 replace m:=RFnd.mono _ _ _ _ d m
 replace B:=M.mono _ _ _ _ _ d B
 replace j:=M.mono _ _ _ _ _ d j
 replace k:=k.mono RPtE.mono d
 replace A:=M.mono _ _ _ _ _ d A
 replace i0:=i0.mono d
 replace j0:=RTA.mono _ _ _ _ d j0
 replace x0:=RTE.mono _ _ _ _ d x0
 replace R:=R.mono fun _ _ h=>RInt.mono _ _ _ _ d h
 replace N:=N.nf
 have r0:SliceOf RInt c1 1 _ ((p++[((i:Nat):Int)])):=⟨_,H0,R.append (yQ rfl (show RInt _ _ _ from rfl))⟩
 obtain ⟨H2,g2,M0,v1,X1⟩:=r0.form (by decide)
 have L:=N
 clear N
 subst M0
 have N:=L
 clear L
 refine yE fun a J=>?_
 have J1:=(Fz.Le.refl _).trans d
 refine yF call124 (fun u0 w f N a J=>?_) (c:=B1 _ (mgQ l0) (KV:=fun s b z=>[.gs (U0) 3 1 [.int .i64 i],.gs (m0) 88 1 [.pointer (some p3)],.blk T (ob [.slice Y p.length P,.slice Z up.length U,.pointer (some p3)] 90)]++KV s b z) (s0:=si) (z0:=zi) ⟨_,_,_,_,rfl,D0,p0,r0,k,(At.part2 i0),x0⟩ (I.arm (mgQ l0)) ((M.sub ((((u).trans v).trans t).trans d) fun _ h=>h).frame [.gs (U0) 3 1 [.int .i64 i],.gs (m0) 88 1 [.pointer (some p3)],.blk T (ob [.slice Y p.length P,.slice Z up.length U,.pointer (some p3)] 90)]) (fun _ h=>F0 _ (j2e l0 h)) A N)
 replace D:=D.mono RInt.mono f.1
 replace E:=E.mono RTE.mono f.1
 replace C:=C.mono f.1
 replace n:=RTE.mono _ _ _ _ f.1 n
 replace m:=RFnd.mono _ _ _ _ f.1 m
 replace B:=M.mono _ _ _ _ _ f.1 B
 replace j:=M.mono _ _ _ _ _ f.1 j
 replace k:=k.mono RPtE.mono f.1
 replace A:=M.mono _ _ _ _ _ f.1 A
 replace i0:=i0.mono f.1
 replace j0:=RTA.mono _ _ _ _ f.1 j0
 replace x0:=RTE.mono _ _ _ _ f.1 x0
 have e0:=f.2
 replace N:=N.nf
 refine go fun a J=>?_
 generalize B0:(!(zK step si (zE (p++[((i:Nat):Int)]) (up++[e]) A0.body)).2)=X0 at J
 cases X0
 refine go fun a J=>?_
 have K0:(zK step si (zE (p++[((i:Nat):Int)]) (up++[e]) A0.body)).2=true:=by have h_:=B0;revert h_;cases ((zK step si (zE (p++[((i:Nat):Int)]) (up++[e]) A0.body)).2) <;> simp
 rw [K0] at e0 N
 replace N:=N.dl [0]
 refine h1 _ _ _ (by subst a1;omega) ⟨(u0.1),(i+1),((zK step si (zE (p++[((i:Nat):Int)]) (up++[e]) A0.body)).1),(u0.2),rfl,J.pk,N,?_⟩
 refine ⟨((t).trans d).trans f.1,?_⟩
 exact ⟨j6b b0.1 l0 K0,e0⟩
 refine yK ?_
 replace N:=N.dl [2,1,0]
 have k0:(zK step si (zE (p++[((i:Nat):Int)]) (up++[e]) A0.body)).2=false:=by have h_:=B0;revert h_;cases ((zK step si (zE (p++[((i:Nat):Int)]) (up++[e]) A0.body)).2) <;> simp
 rw [show zK step s0 (zE p up e)=_ from j6a b0.1 l0 k0];rw [k0] at e0 N
 exact ⟨(u0.1,u0.2),rfl,⟨((((u).trans v).trans t).trans d).trans f.1,e0⟩,N⟩
 refine go fun a J=>?_
 refine pX (fun mm a w=>∃(X:Fz) (j_:Nat) (sj:σ) (zj:β),mm=e.body.length - j_/\EnvR 90 [(1,.func r1 p1 q1),(2,.pointer (some ⟨T,0,none⟩)),(5,.int .i64 p.length),(7,.slice o1 ((up++[e])).length f1),(65,.int .i64 e.body.length),(66,.int .i64 j_)] [] a/\Mem X (.gs (m0) 88 1 [.pointer (some p3)]::.blk T (ob [.slice Y p.length P,.slice Z up.length U,.pointer (some p3)] 90)::KV sj true zj) w/\(d0.Le X/\(zK step s0 (zE p up e)=zK step sj (belowTs p (up++[e]) ((j_:Nat):Int) (e.body.drop j_))/\G X sj true zj))) (e.body.length - 0) ⟨d0,0,si,zi,rfl,J.pk,N,⟨Fz.Le.refl _,⟨by have h_:=b0.1;rw [qE g1] at h_;exact h_,A⟩⟩⟩ ?_
 clear N J
 rintro mm a w ⟨X,j_,sj,zj,a1,J,N,F⟩ c2 Z0
 obtain ⟨l,F⟩:=F
 replace D:=D.mono RInt.mono l
 replace E:=E.mono RTE.mono l
 replace C:=C.mono l
 replace n:=RTE.mono _ _ _ _ l n
 replace m:=RFnd.mono _ _ _ _ l m
 replace B:=M.mono _ _ _ _ _ l B
 replace j:=M.mono _ _ _ _ _ l j
 replace k:=k.mono RPtE.mono l
 replace A:=M.mono _ _ _ _ _ l A
 have a0:=F.2
 by_cases Q0:j_ < e.body.length
 refine go fun a J=>?_
 refine jF [1,2,1,1,1,1,0,0,1,1,2,1,1,2,1,1,1,1,0,1] (.q 0 (.q 1 (.q 2 (.q 3 (.q 4 (.q 5 (.q 8 (.q 9 (.q 10 (.q 11 (.q 12 (.q 13 (.q 14 (.q 15 (.q 17 (.e 6 (.e 7 (.q 16 (.e 18 (.q 19 (.done))))))))))))))))))))) [.gs (m0) 88 1 [.pointer (some p3)],.blk T (ob [.slice Y p.length P,.slice Z up.length U,.pointer (some p3)] 90)] J N mixed (by kernel_rfl) (by simp) fun w N=>?_
 have b1:=SliceOf.full D
 refine Qq (fun a J=>?_) (o:=by exact fun J O=>oR J rfl rfl rfl runUnderlying34 sizeOf3 (show p.length<=P from i1))
 refine go fun a J=>?_
 obtain ⟨M2,rfl,c0,W,y1,I1,V,H⟩:=E.el k1 Q0
 obtain ⟨I2,h2,J2,c168,K2,i2,rfl,G1,H1,o2,p2,q2,O1,Y1,P1,Z1,Q1,a2⟩:=RTE.fm H
 refine qG fun V0 w N a J=>?_
 obtain ⟨z1,I0,S⟩:=id b1
 refine d_e J rfl rfl rfl (cG cP J N rfl I0 rfl (N.toSees.rowIn (i:=0) rfl) (by simp) rfl (by rw [S.length];have:=I.1;have:=I.2;simp only [lcQ,lnQ];omega) fun O2 w N=>⟨fun _=>N.sn (Fz.Le.refl _),fun a J=>?_⟩)
 replace N:=N.nf
 have K:=N
 clear N
 obtain ⟨d1,g,N,J0,E0⟩:=K.freezeRowC (i:=0) rfl
 clear K
 replace C:=C.mono g
 replace n:=RTE.mono _ _ _ _ g n
 replace m:=RFnd.mono _ _ _ _ g m
 replace B:=M.mono _ _ _ _ _ g B
 replace j:=M.mono _ _ _ _ _ g j
 replace k:=k.mono RPtE.mono g
 replace A:=M.mono _ _ _ _ _ g A
 replace a0:=M.mono _ _ _ _ _ g a0
 replace V:=V.mono g
 replace H:=RTE.mono _ _ _ _ g H
 replace S:=S.mono fun _ _ h=>RInt.mono _ _ _ _ g h
 replace N:=N.nf
 have t0:SliceOf RInt d1 1 _ ((p++[((j_:Nat):Int)])):=⟨_,J0,S.append (yQ rfl (show RInt _ _ _ from rfl))⟩
 obtain ⟨L2,j2,M0,w1,b2⟩:=t0.form (by decide)
 have L:=N
 clear N
 subst M0
 have N:=L
 clear L
 refine yE fun a J=>?_
 have K1:=(Fz.Le.refl _).trans g
 refine yF call124 (fun w0 w r N a J=>?_) (c:=C1 _ (mgQ W) (KV:=fun s b z=>[.gs (V0) 3 1 [.int .i64 j_],.gs (m0) 88 1 [.pointer (some p3)],.blk T (ob [.slice Y p.length P,.slice Z up.length U,.pointer (some p3)] 90)]++KV s b z) (s0:=sj) (z0:=zj) ⟨_,_,_,_,rfl,E0,p0,t0,k,V,H⟩ (I.rest (mgQ W)) ((M.sub (((((u).trans v).trans t).trans l).trans g) fun _ h=>h).frame [.gs (V0) 3 1 [.int .i64 j_],.gs (m0) 88 1 [.pointer (some p3)],.blk T (ob [.slice Y p.length P,.slice Z up.length U,.pointer (some p3)] 90)]) (fun _ h=>F0 _ (q4z W h)) a0 N)
 replace C:=C.mono r.1
 replace n:=RTE.mono _ _ _ _ r.1 n
 replace m:=RFnd.mono _ _ _ _ r.1 m
 replace B:=M.mono _ _ _ _ _ r.1 B
 replace j:=M.mono _ _ _ _ _ r.1 j
 replace A:=M.mono _ _ _ _ _ r.1 A
 replace a0:=M.mono _ _ _ _ _ r.1 a0
 replace V:=V.mono r.1
 replace H:=RTE.mono _ _ _ _ r.1 H
 have f0:=r.2
 replace N:=N.nf
 refine go fun a J=>?_
 generalize C0:(!(zK step sj (zE (p++[((j_:Nat):Int)]) (up++[e]) c0)).2)=Y0 at J
 cases Y0
 refine go fun a J=>?_
 have L0:(zK step sj (zE (p++[((j_:Nat):Int)]) (up++[e]) c0)).2=true:=by have h_:=C0;revert h_;cases ((zK step sj (zE (p++[((j_:Nat):Int)]) (up++[e]) c0)).2) <;> simp
 rw [L0] at f0 N
 replace N:=N.dl [0]
 refine Z0 _ _ _ (by subst a1;omega) ⟨(w0.1),(j_+1),((zK step sj (zE (p++[((j_:Nat):Int)]) (up++[e]) c0)).1),(w0.2),rfl,J.pk,N,?_⟩
 refine ⟨((l).trans g).trans r.1,?_⟩
 exact ⟨j2l F.1 W L0,f0⟩
 refine yK ?_
 replace N:=N.dl [2,1,0]
 have k0:(zK step sj (zE (p++[((j_:Nat):Int)]) (up++[e]) c0)).2=false:=by have h_:=C0;revert h_;cases ((zK step sj (zE (p++[((j_:Nat):Int)]) (up++[e]) c0)).2) <;> simp
 rw [show zK step s0 (zE p up e)=_ from j2k F.1 W k0];rw [k0] at f0 N
 exact ⟨(w0.1,w0.2),rfl,⟨(((((u).trans v).trans t).trans l).trans g).trans r.1,f0⟩,N⟩
 refine yK ?_
 replace N:=N.dl [1,0]
 have hr_:zK step s0 (zE p up e)=(sj,true):=by have h_:=F.1;rw [qE Q0] at h_;exact h_
 rw [hr_];exact ⟨(X,zj),rfl,⟨(((u).trans v).trans t).trans l,a0⟩,N⟩
 refine yK ?_
 replace N:=N.dl [0]
 have k0:(step s0 (⟨p,up,e⟩)).2=false:=by have h_:=R0;revert h_;cases ((step s0 (⟨p,up,e⟩)).2) <;> simp
 rw [q5c k0];rw [k0] at j N
 exact ⟨(u1,t1),rfl,⟨u,j⟩,N⟩
theorem uZ:∀(k:Nat) (e:TE),zC e < k->z7a e
 | 0,_,h=>absurd h (Nat.not_lt_zero _)
 | k+1,e,h=>q5b (fun a b=>uZ k a.body (by have:=wG b;omega)) (fun x c=>uZ k x (by have:=kD c;omega))
theorem j6o (e:TE):z7a e:=uZ _ e (Nat.lt_succ_self _)
section
variable {P:Program} {Φ:Fz} {w:World}
theorem y5e {α σ β:Type} {n gf p:Nat} {E:List (Nat×Value)} {Dd:List Deferred} {a:Act} {g:Operand} {assign body:Code} {Q:Exit->Act->World->Prop} {fs cs:List Value}
  (RA:Fz->List Value->α->Prop) (items:List α) (f:σ->α->σ) (G:Fz->σ->β->Prop) (KV:σ->β->List Res) (s0:σ) (z0:β)
  (J:EnvR n E Dd a) (hG:G Φ s0 z0) (N:Mem Φ (KV s0 z0) w) (y:ev E g=some (.func (.func gf) fs.toArray cs.toArray)) (v:∀args w,(callFunc gf args).run P w=.ok (.enter gf args) w) (A:Nat.blt p n=true)
  (b:∀Ψ Ψ' s z,Ψ.Le Ψ'->G Ψ s z->G Ψ' s z)
  (B:∀Ψ s z c x l i j K' a w,Φ.Le Ψ->x∈items->RA Ψ c x->G Ψ s z->EnvR n ((p,.agg c.toArray)::E) [] a->Mem Ψ (.blk l i::(KV s z++K')) w ->
   assign.wpIn (FO (some l)) 2 P (Exit.then (fun q C=>∃K1,Mem Ψ (.blk l i::K1) C/\∀o,Mem Ψ (.blk l j::K1) o ->
    body.wpIn (FO (some l)) 2 P (fun e _ w=>e=.normal/\∃Ψ' z',Ψ.Le Ψ'/\G Ψ' (f s x) z'/\Mem Ψ' (.blk l j::(KV (f s x) z'++K')) w) q o) (fun _ _ _=>False)) a w)
  (u:Iter P Φ gf fs cs RA items)
  (kn:∀Dk Ψ z a w,Φ.Le Ψ->G Ψ (items.foldl f s0) z->EnvR n E ({ target:=.collected Dk,args:=#[] }::Dd) a->Mem Ψ (.blk Dk (.deferred (some []))::KV (items.foldl f s0) z) w->Q .normal a w):(Code.rangeFunc g #[p] assign body).wp P Q a w:=by
 refine y5f RA items .ret (fun s x=>(f s x,true)) (fun Ψ s _ z=>G Ψ s z) (fun s _ z=>KV s z) s0 z0 J hG N y v A (fun Ψ Ψ' s _ z=>b Ψ Ψ' s z) (fun Ψ s z c x l i j K' a w k d m h r t=>?_) u (fun Dk Ψ z a w k d m h=>?_)
 ·exact B Ψ s z c x l i j K' a w k d m h r t
 ·rw [y4l] at d h ⊢;exact kn Dk Ψ z a w k d m h
theorem gS {α σ β:Type} {n gf p:Nat} {E:List (Nat×Value)} {Dd:List Deferred} {a:Act} {g:Operand} {assign body:Code} {Q:Exit->Act->World->Prop} {fs cs:List Value}
  (RA:Fz->List Value->α->Prop) (items:List α) (j:Jmp) (step:σ->α->σ×Bool) (G:Fz->σ->Bool->β->Prop) (KV:σ->Bool->β->List Res) (s0:σ) (z0:β)
  (J:EnvR n E Dd a) (hG:G Φ s0 true z0) (N:Mem Φ (KV s0 true z0) w) (v:ev E g=some (.func (.func gf) fs.toArray cs.toArray)) (u:∀args w,(callFunc gf args).run P w=.ok (.enter gf args) w) (y:Nat.blt p n=true)
  (d:∀Ψ Ψ' s b z,Ψ.Le Ψ'->G Ψ s b z->G Ψ' s b z)
  (A:∀Ψ s z c x l m o K' a w,Φ.Le Ψ->x∈items->RA Ψ c x->G Ψ s true z->EnvR n ((p,.agg c.toArray)::E) [] a->Mem Ψ (.blk l m::(KV s true z++K')) w ->
   assign.wpIn (FO (some l)) 2 P (Exit.then (fun r B=>∃K1,Mem Ψ (.blk l m::K1) B/\∀q,Mem Ψ (.blk l o::K1) q ->
    body.wpIn (FO (some l)) 2 P (fun e _ w=>z8i j (step s x).2 e/\∃Ψ' z',Ψ.Le Ψ'/\G Ψ' (step s x).1 (step s x).2 z'/\Mem Ψ' (.blk l o::(KV (step s x).1 (step s x).2 z'++K')) w) r q) (fun _ _ _=>False)) a w)
  (t:Iter P Φ gf fs cs RA items)
  (kn:(zK step s0 items).2=true->∀Dk Ψ z a w,Φ.Le Ψ->G Ψ (zK step s0 items).1 true z->EnvR n E ({ target:=.collected Dk,args:=#[] }::Dd) a->Mem Ψ (.blk Dk (.deferred (some []))::KV (zK step s0 items).1 true z) w->Q .normal a w)
  (kj:(zK step s0 items).2=false->∀Dk Ψ z a w,Φ.Le Ψ->G Ψ (zK step s0 items).1 false z->EnvR n E ({ target:=.collected Dk,args:=#[] }::Dd) a->Mem Ψ (.blk Dk (.deferred (some []))::KV (zK step s0 items).1 false z) w->Q j.ex a w):(Code.rangeFunc g #[p] assign body).wp P Q a w:=by
 refine y5f RA items j step G KV s0 z0 J hG N v u y d A t (fun Dk Ψ z a w i f k h=>?_)
 cases hb:(zK step s0 items).2 with
 | true=>rw [hb] at f h;exact kn hb Dk Ψ z a w i f k h
 | false=>rw [hb] at f h;exact kj hb Dk Ψ z a w i f k h
end
theorem z0f {α:Type}:∀(l:List α) (n:Int),0<=n->n+(l.length:Int)<=9223372036854775807->l.foldl (fun n _=>IntKind.i64.wrap (n+1)) n=n+(l.length:Int)
 | [],n,_,_=>by simp
 | x::l,n,a,h=>by
  rw [lcQ] at h
  rw [List.foldl_cons,cU (by omega),z0f l (n+1) (by omega) (by omega),lcQ];omega
mutual
theorem dZ:∀(e:TE) (p:List Int) (up:List TE),(zE p up e).length=zC e
 | .mk k nm op num site args arms body,p,up=>by
  rw [zE,lcQ,laQ,below_lenA arms,below_lenS body,zC];omega
theorem below_lenS:∀(l:List TE) (p:List Int) (up:List TE) (i:Int),(belowTs p up i l).length=weightTs l
 | [],_,_,_=>rfl
 | x::xs,p,up,i=>by rw [belowTs,laQ,dZ x,below_lenS xs,weightTs]
theorem below_lenA:∀(l:List TA) (p:List Int) (up:List TE) (i:Int),(belowTa p up i l).length=weightTa l
 | [],_,_,_=>rfl
 | .mk _ _ b::xs,p,up,i=>by rw [belowTa,laQ,dZ b,below_lenA xs,weightTa]
end
theorem z6o {Φ:Fz} {K:List Res} {w:World} {p:Addr} (N:Mem Φ K w) :
  Calls prog 74 #[.pointer (some p)] w (fun ee w'=>∃q:Fz×Nat,ee=.returned (.func (.func 123) #[] #[.pointer (some ⟨q.2,0,none⟩)])/\(Φ.Le q.1/\At q.1 ⟨q.2,0,none⟩ [.pointer (some p)])/\Mem q.1 K w'):=by
 refine zJ func74 ntmps74 fun Q hQ a J=>?_
 refine Bx fun f w N a J=>?_
 refine go fun a J=>?_
 have b:=N
 clear N
 obtain ⟨e,d,N,c⟩:=b.freezeBlk (i:=0) rfl
 clear b
 replace N:=N.nf
 refine yK ?_
 exact ⟨(e,f),rfl,⟨d,c⟩,N⟩
theorem hH {Φ:Fz} {b:Nat} {p:Addr} {d:List Value} {e:TE} (hb:At Φ ⟨b,0,none⟩ [.pointer (some p)]) (j:At Φ p d) (re:RTE Φ d e) (q:FitE [] [] e):Iter prog Φ 123 [] [.pointer (some ⟨b,0,none⟩)] RFnd (zE [] [] e):=by
 intro σ β y Ψ step G KV s0 z0 w hl n i N
 obtain ⟨m,k,l,g⟩:=n.fn
 subst g
 replace hb:=hb.mono hl
 replace j:=j.mono hl
 replace re:=RTE.mono _ _ _ _ hl re
 show Calls prog 123 #[.func m k l,.pointer (some ⟨b,0,none⟩)] w _
 refine zJ func123 ntmps123 fun Q hQ a J=>?_
 refine yE fun a J=>?_
 refine yF call124 (fun o w f N a J=>?_) (c:=j6o e ⟨_,_,_,_,rfl,by exact Nat.le_refl 0,by exact Nat.le_refl 0,SliceOf.nil _,SliceOf.nil _,j,re⟩ q n (fun _ h=>h) i N)
 refine go fun a J=>?_
 refine hQ _ _ _ (yP J results123 ?_)
 exact ⟨_,o.1,o.2,rfl,f.1,f.2,N⟩
def vJ (T:Trc):Nat:=(T.funs.map fun f=>zC f.body).sum
def FitP (T:Trc):Prop:=vJ T<=20000
theorem q4a {l:List TFn} {i:Nat} {f:TFn} (h:l[i]? = some f):((l.drop i).map fun f=>zC f.body).sum=zC f.body+((l.drop (i+1)).map fun f=>zC f.body).sum:=by rw [yI h];simp
theorem q7y {l:List TFn} {i:Nat} {f:TFn} (h:l[i]? = some f):zC f.body<=(l.map fun f=>zC f.body).sum:=by
 induction l generalizing i with
 | nil=>simp at h
 | cons g l a=>
  cases i with
  | zero=>simp at h;subst h;simp
  | succ i=>have:=a (i:=i) (by simpa using h);simp;omega
theorem FitP.fn {T:Trc} (h:FitP T) {i:Nat} {f:TFn} (a:T.funs[i]? = some f):FitE [] [] f.body:=⟨rfl,by have:=q7y a;simp only [FitP,vJ] at h;simp only [lnQ];omega⟩
theorem j5k {Φ:Fz} {K:List Res} {w:World} {tc:List Value} {T:Trc} (I:RTrc Φ tc T) (y:FitP T) (N:Mem Φ K w) :
  Calls prog 35 #[.agg tc.toArray] w (fun ee w'=>ee=.returned (.int .i64 ((vJ T:Nat):Int))/\Mem Φ K w'):=by
 have d:=I
 obtain ⟨L,c4,M,t,V,u,v,c22,rfl,X,h2,h8,P,y0,D0,E0,b0,i0,c0,H,d0,j0⟩:=RTrc.fm I
 refine sL func35 rfl ntmps35 rfl (fun Q hQ a J=>?_)
 refine Bx fun m w N a J=>?_
 refine Alc fun n w N a J=>?_
 refine Sto 0 fun w N a J=>?_
 refine go fun a J=>?_
 refine pX (fun mm a w=>∃(i:Nat) (ds:List Nat) (s:Nat),mm=T.funs.length - i/\EnvR 22 [(1,.pointer (some ⟨m,0,none⟩)),(3,.pointer (some ⟨n,0,none⟩)),(7,.int .i64 T.funs.length),(8,.int .i64 i)] (aL ds) a/\Mem Φ (.blk n (ob [.int .i64 s] 3)::.blk m (ob [.slice L T.cons.length c4,.slice M T.inputs.length t,.slice V T.funs.length u,.slice v T.outputs.length c22] 26)::yA ds++K) w/\(vJ T=s+((T.funs.drop i).map fun f=>zC f.body).sum)) (T.funs.length - 0) ⟨0,[],0,rfl,J.pk,N,(Nat.zero_add _).symm⟩ ?_
 clear N J
 rintro mm a w ⟨i,ds,s,S,J,N,o⟩ r0 G
 by_cases E:i < T.funs.length
 refine go fun a J=>?_
 obtain ⟨D,rfl,l,q,W,a0,e,g⟩:=P.el H E
 obtain ⟨H0,c50,s0,rfl,z0,k,e0,k0⟩:=RTFn.fm g
 obtain ⟨I0,t0,J0,u0,K0,w0,rfl,Y,Z,A0,B0,C0,f0,l0,g0,m0,h0,n0⟩:=RTE.fm k
 refine yF call74 (fun L0 w j N a J=>?_) (c:=z6o N)
 replace d:=RTrc.mono _ _ _ _ j.1 d
 replace e:=e.mono j.1
 replace g:=RTFn.mono _ _ _ _ j.1 g
 replace k:=RTE.mono _ _ _ _ j.1 k
 have z:=j.2
 replace N:=N.nf
 refine go fun a J=>?_
 refine y5e (p:=17) RFnd (zE [] [] l.body) (fun r _=>IntKind.i64.wrap (r+1)) (fun Ψ_ r z_=>True) (fun r z_=>.blk n (ob [.int .i64 r] 3)::.blk m (ob [.slice L T.cons.length c4,.slice M T.inputs.length t,.slice (some D) T.funs.length u,.slice v T.outputs.length c22] 26)::yA ds++K) ((s:Nat):Int) () J trivial N rfl call123 rfl (fun _ _ _ _ _ _=>trivial) (fun Ψr_ r z_ x0 x_ l_ F0 G0 q0 a w b o0 U F J N=>?_) (hH z (At.part3 e) k (y.fn q)) (fun Dk Ψr_ M0 a w b F J N=>?_)
 replace d:=RTrc.mono _ _ _ _ b d
 replace e:=e.mono b
 replace g:=RTFn.mono _ _ _ _ b g
 replace k:=RTE.mono _ _ _ _ b k
 replace N:=N.nf
 refine wS ?_
 refine ⟨_,N,fun w N=>?_⟩
 replace N:=N.nf
 refine gA ?_
 refine xG ?_
 refine zH J (by intro c h;cases h) (yH 1 J N.toSees rfl rfl rfl isAgg3) rfl fun a J=>
   zH J (by intro c h;cases h) (tJ _ J rfl rfl rfl) rfl fun a J=>?_
 refine jY J rfl rfl (by intro c h;cases h) (zQ 1 (cs:=[.int .i64 r]) (vs:=[.int .i64 (IntKind.i64.wrap (r+1))]) J N rfl rfl rfl rfl sizeOf3 rfl rfl rfl fun w N a J=>?_)
 replace N:=N.nf
 refine zY ?_
 exact ⟨rfl,Ψr_,(),(Fz.Le.refl _),trivial,N⟩
 replace d:=RTrc.mono _ _ _ _ b d
 replace e:=e.mono b
 replace g:=RTFn.mono _ _ _ _ b g
 replace k:=RTE.mono _ _ _ _ b k
 replace N:Mem Ψr_ (.blk n (ob [.int .i64 ((zE [] [] l.body).foldl (fun r _=>IntKind.i64.wrap (r+1)) ((s:Nat):Int))] 3)::.blk m (ob [.slice L T.cons.length c4,.slice M T.inputs.length t,.slice (some D) T.funs.length u,.slice v T.outputs.length c22] 26)::yA (Dk::ds)++K) w:=Mem.mid (A:=[.blk Dk (.deferred (some []))]) (B:=[.blk n (ob [.int .i64 ((zE [] [] l.body).foldl (fun r _=>IntKind.i64.wrap (r+1)) ((s:Nat):Int))] 3),.blk m (ob [.slice L T.cons.length c4,.slice M T.inputs.length t,.slice (some D) T.funs.length u,.slice v T.outputs.length c22] 26)]) (C:=yA ds++K) N
 replace N:=N.nm
 rw [z0f _ _ (by omega) (by rw [dZ];have R:=o;rw [q4a q] at R;simp only [FitP] at y;omega),dZ,show ((s:Nat):Int)+((zC l.body:Nat):Int)=(((s+zC l.body):Nat):Int) from by omega] at N
 replace N:=N.nf
 refine go fun a J=>?_
 replace N:=N.le ((j.1).trans b)
 refine G _ _ _ (by subst S;omega) ⟨(i+1),((Dk::ds)),((s+zC l.body)),rfl,J.pk,N,?_⟩
 rw [o,q4a q,Nat.add_assoc]
 refine go fun a J=>?_
 replace N:=N.dl [1,0]
 replace N:Mem Φ (yA ds++(K)) w:=Mem.mid (A:=[]) (B:=yA ds) (C:=K) N
 refine hQ _ _ _ (retX1 (ds:=ds) J results35 rfl N fun w N=>?_)
 rw [show vJ T=s from by rw [o,qE E];rfl];exact ⟨rfl,N⟩
section
variable {P:Program} {F:Fence} {n:Nat} {Q:Exit->Act->World->Prop} {c:Code}
theorem z5f:∀{k:Nat} {a:Act} {w:World},Code.roundsIn F n P c Q k a w->Code.roundsIn F n P c Q (k+1) a w
 | 0,_,_,h=>h.elim
 | k+1,a,w,h=>by
  rw [roundsIn_succ] at h ⊢
  exact Code.wpIn_mono (fun e a w q=>by cases e <;> first | exact z5f q | exact q) h
theorem j4y {k m:Nat} {a:Act} {w:World} (h:Code.roundsIn F n P c Q k a w) (b:k<=m):Code.roundsIn F n P c Q m a w:=by
 induction b with
 | refl=>exact h
 | step _ d=>exact z5f d
theorem y6o {a:Act} {w:World} (I:Nat->Act->World->Prop) (d:Nat) (e:I d a w)
  (hb:∀m a w,I m a w->∀L:Act->World->Prop,(∀m' a w,m' < m->I m' a w->L a w)->c.wpIn F n P (Exit.then L Q) a w):(Code.loop c).wpIn F n P Q a w:=by
 have key:∀m a w,I m a w->Code.roundsIn F n P c Q (m+1) a w:=by
  intro m
  induction m using Nat.strongRecOn with
  | _ m g=>
   intro a w f
   rw [roundsIn_succ]
   exact hb m a w f _ fun m' a w b h=>j4y (g m' b a w h) b
 exact wpIn_loop_rounds _ (key d a w e)
end
def aP (l:List (Bs×Bool)):List (Bs×Value):=l.map fun p=>(p.1,.bool p.2)
theorem q0b:∀(l:List (Bs×Bool)) (k:Bs),jJ (aP l) k=(yC l k).map (.bool ·)
 | [],_=>rfl
 | (q,x)::l,k=>by
  simp only [aP,List.map_cons,jJ,yC]
  split
  ·rfl
  ·exact q0b l k
theorem y2r (l:List (Bs×Bool)) (k:Bs):zZ false (.bool false) (jJ (aP l) k)=.bool ((yC l k).getD false):=by rw [q0b];cases yC l k <;> rfl
theorem z7v:∀(l:List (Bs×Bool)) (k:Bs) (x:Bool),z0p (aP l) k (.bool x)=aP (qJ l k x)
 | [],_,_=>rfl
 | (q,y)::l,k,x=>by
  simp only [aP,List.map_cons,z0p,qJ]
  split
  ·rfl
  ·rw [List.map_cons];exact congrArg _ (z7v l k x)
structure ROp (Φ:Fz) (p:Addr) (T:Trc):Prop where
 ex:∃cs m,At Φ p (cs++[.map (some m)])/\RTrc Φ cs T/\MapAt Φ m (zN (atM 0 T.funs []))
theorem ROp.mono {Φ Ψ:Fz} {p:Addr} {T:Trc} (h:ROp Φ p T) (hl:Φ.Le Ψ):ROp Ψ p T :=
 let ⟨cs,m,a,b,c⟩:=h.ex;⟨cs,m,a.mono hl,RTrc.mono _ _ _ _ hl b,c.mono hl⟩
def mU (u:List (Bs×Int)):List Atom->List (Bs×Int)
 | []=>u
 | a::l=>mU (if a.name=sNo then u else qJ u a.name (IntKind.i64.wrap ((yC u a.name).getD 0+1))) l
abbrev LookS:=List (Bs×Int)×List (Bs×Bool)
def uO (s:LookS) (x:Fnd):LookS:=(mU s.1 x.x.args,if x.x.kind=7 then qJ s.2 (xD x.x 0).name true else s.2)
def aK (f:TFn):LookS:=(zE [] [] f.body).foldl uO ([],[])
structure RFnO (Φ:Fz) (p:Addr) (T:Trc) (F:TFn):Prop where
 ex:∃pf pp mu ms d,At Φ p [.pointer (some pf),.pointer (some pp),.map (some mu),.map (some ms)]/\At Φ pf d/\RTFn Φ d F/\ROp Φ pp T/\MapAt Φ mu (zN (aK F).1)/\MapAt Φ ms (aP (aK F).2)
theorem RFnO.mono {Φ Ψ:Fz} {p:Addr} {T:Trc} {F:TFn} (h:RFnO Φ p T F) (hl:Φ.Le Ψ):RFnO Ψ p T F :=
 let ⟨pf,pp,mu,ms,d,a,b,c,e,f,g⟩:=h.ex;⟨pf,pp,mu,ms,d,a.mono hl,b.mono hl,RTFn.mono _ _ _ _ hl c,e.mono hl,f.mono hl,g.mono hl⟩
theorem y9s:∀{l:List TFn} {j:Nat} {m:List (Bs×Int)} {f:TFn},atM j (l++[f]) m=qJ (atM j l m) f.name ((j+l.length:Nat):Int)
 | [],j,m,f=>rfl
 | g::l,j,m,f=>by
  rw [List.cons_append,atM,atM,y9s,lcQ,show j+1+l.length=j+(l.length+1) from by omega]
theorem j6j {l:List TFn} {i:Nat} {f:TFn} (a:l[i]? = some f):atM 0 (l.take (i+1)) []=qJ (atM 0 (l.take i) []) f.name (i:Int):=by
 have hi:i < l.length:=(List.getElem?_eq_some_iff.1 a).1
 rw [jA a,y9s,List.length_take,Nat.min_eq_left (Nat.le_of_lt hi),Nat.zero_add]
theorem q4f {u b:List (Bs×Int)} {l:List Atom} {i:Nat} {a:Atom} (h:mU b l=mU u (l.drop i)) (c:l[i]? = some a):mU b l=mU (if a.name=sNo then u else qJ u a.name (IntKind.i64.wrap ((yC u a.name).getD 0+1))) (l.drop (i+1)):=by
 rw [h,yI c,mU]
theorem y4z {u a:List (Bs×Int)} {l:List Atom} {i:Nat} (h:mU a l=mU u (l.drop i)) (hi:¬i < l.length):mU a l=u:=by rw [h,qE hi,mU]
theorem z2b {Φ:Fz} {K:List Res} {w:World} {tc:List Value} {T:Trc} (z:RTrc Φ tc T) (N:Mem Φ K w) :
  Calls prog 26 #[.agg tc.toArray] w (fun ee w'=>∃q:Fz×Nat,ee=.returned (.pointer (some ⟨q.2,0,none⟩))/\(Φ.Le q.1/\ROp q.1 ⟨q.2,0,none⟩ T)/\Mem q.1 K w'):=by
 have c:=z
 obtain ⟨B,c4,C,h,v,j,l,c22,rfl,Y,h2,h8,H,s0,y0,z0,c0,j0,d0,s,e0,k0⟩:=RTrc.fm z
 refine zJ func26 ntmps26 fun Q hQ a J=>?_
 refine Bx fun o w N a J=>?_
 refine MkM fun f w N a J=>?_
 replace N:=N.nf
 refine BldT fun a J=>?_
 refine Bx fun n w N a J=>?_
 refine go fun a J=>?_
 refine qD (J.ks [3,11,12]) N (fun R mm a w=>∃(i:Nat),mm=T.funs.length - i/\R Φ [(13,.int .i64 i)] [(1,.mp f (zN (atM 0 (T.funs.take i) [])))] a w/\(True)) (T.funs.length - 0) ⟨0,rfl,⟨J.pk,N⟩,trivial⟩ ?_
 clear N J
 rintro mm a w ⟨i,L,⟨J,N⟩,W⟩ q0 r
 replace N:=N.nf
 by_cases p:i < T.funs.length
 refine go fun a J=>?_
 obtain ⟨y,rfl,b,u,V,b0,X,t⟩:=H.el s p
 obtain ⟨M,c50,r0,rfl,t0,I,f0,l0⟩:=RTFn.fm t
 obtain ⟨P,E,S,F,U,G,rfl,Z,a0,u0,w0,x0,g0,m0,h0,n0,i0,o0⟩:=RTE.fm I
 refine Alc fun D w N a J=>?_
 refine Sto 0 fun w N a J=>?_
 refine Reg [1,1,1,2,1,2,1,0] [0,1,2,3] fun w N a J=>?_
 refine uF 2 runUnderlying98 runUnderlying9 fun w N a J=>?_
 replace N:Mem Φ (.blk D (ob [.string b.name,.bool b.chg,.slice M b.params.length c50,.int .i64 (b.body.kind),.string b.body.name,.string b.body.op,.int .i64 (b.body.num),.int .i64 (b.body.site),.slice P b.body.args.length E,.slice S b.body.arms.length F,.slice U b.body.body.length G] 50)::.blk n (ob [.slice B T.cons.length c4,.slice C T.inputs.length h,.slice (some y) T.funs.length j,.slice l T.outputs.length c22,.map (some f)] 109)::.mp f (zN (qJ (atM 0 (T.funs.take i) []) b.name ((i:Nat):Int)))::.blk o (ob [.slice B T.cons.length c4,.slice C T.inputs.length h,.slice (some y) T.funs.length j,.slice l T.outputs.length c22] 26)::K) w:=by rw [<- wP (atM 0 (T.funs.take i) []) b.name ((i:Nat):Int)];exact N
 refine go fun a J=>?_
 rw [<- j6j u] at N
 replace N:=N.dl [0]
 refine r _ _ _ (by subst L;omega) ⟨(i+1),rfl,⟨J.pk,N⟩,?_⟩
 trivial
 refine go fun a J=>?_
 replace N:Mem Φ (.blk n (ob [.slice B T.cons.length c4,.slice C T.inputs.length h,.slice v T.funs.length j,.slice l T.outputs.length c22,.map (some f)] 109)::.mp f (zN (atM 0 T.funs []))::.blk o (ob [.slice B T.cons.length c4,.slice C T.inputs.length h,.slice v T.funs.length j,.slice l T.outputs.length c22] 26)::K) w:=by rw [show atM 0 T.funs []=atM 0 (T.funs.take i) [] from by rw [List.take_of_length_le (Nat.le_of_not_lt p)]];exact N
 have d:=N
 clear N
 obtain ⟨p0,m,N,e⟩:=d.freezeBlk (i:=0) rfl
 clear d
 replace c:=RTrc.mono _ _ _ _ m c
 replace N:=N.nf
 have d:=N
 clear N
 obtain ⟨A,g,N,k⟩:=d.freezeMap (i:=0) rfl
 clear d
 replace c:=RTrc.mono _ _ _ _ g c
 replace e:=e.mono g
 replace N:=N.dl [0]
 refine yK ?_
 exact ⟨(A,n),rfl,⟨(m).trans g,⟨_,_,e,c,k⟩⟩,N⟩
theorem j0g {Φ:Fz} {K:List Res} {w:World} {pa:Addr} {T:Trc} {i0:Nat} {F:TFn} (RO:ROp Φ pa T) (hF:T.funs[i0]? = some F) (N0:FitP T) (c1:∀y∈zE [] [] F.body,y.x.kind=7->0 < y.x.args.length) (N:Mem Φ K w) :
  Calls prog 44 #[.pointer (some pa),.int .i64 i0] w (fun ee w'=>∃q:Fz×Nat,ee=.returned (.pointer (some ⟨q.2,0,none⟩))/\(Φ.Le q.1/\RFnO q.1 ⟨q.2,0,none⟩ T F)/\Mem q.1 K w'):=by
 have l:=RO
 obtain ⟨z2,m2,g,u0,d2⟩:=RO.ex
 have n:=u0
 obtain ⟨p9,S0,r1,U0,s1,c22,t1,V0,rfl,R1,h8,B2,Z0,C2,V1,e2,W1,f2,X1,Q0,Y1,g2⟩:=RTrc.fm u0
 replace g:At Φ pa [.slice p9 T.cons.length S0,.slice r1 T.inputs.length U0,.slice s1 T.funs.length c22,.slice t1 T.outputs.length V0,.map (some m2)]:=g
 have O0:=(List.getElem?_eq_some_iff.1 hF).1
 refine sL func44 rfl ntmps44 rfl (fun Q hQ a J=>?_)
 refine go fun a J=>?_
 obtain ⟨U,rfl,c0,w0,L1,U1,f,k⟩:=Z0.el Q0 O0
 obtain ⟨K2,c44,u2,rfl,D2,z,Z1,h2⟩:=RTFn.fm k
 obtain ⟨L2,v2,M2,w2,N2,x2,rfl,S1,T1,E2,F2,G2,a2,i2,b2,j2,c2,k2⟩:=RTE.fm z
 refine MkM fun t w N a J=>?_
 replace N:=N.nf
 refine MkM fun u w N a J=>?_
 replace N:=N.nf
 refine yE fun a J=>?_
 refine Bx fun r w N a J=>?_
 refine Alc fun P w N a J=>?_
 refine Sto 0 fun w N a J=>?_
 refine go fun a J=>?_
 obtain rfl:c0=F:=Option.some.inj (w0.symm.trans hF)
 refine yF call74 (fun P2 w E N a J=>?_) (c:=z6o N)
 replace n:=RTrc.mono _ _ _ _ E.1 n
 replace g:=g.mono E.1
 replace l:=l.mono E.1
 replace f:=f.mono E.1
 replace k:=RTFn.mono _ _ _ _ E.1 k
 replace z:=RTE.mono _ _ _ _ E.1 z
 have E0:=E.2
 replace N:=N.nf
 refine go fun a J=>?_
 refine y5e (p:=28) RFnd (zE [] [] c0.body) (uO) (fun Ψ_ s_ z_=>True) (fun s_ z_=>.blk P (ob [.pointer (some ⟨r,0,none⟩)] 102)::.blk r (ob [.pointer (some (U.add (i0 * 11))),.pointer (some pa),.map (some t),.map (some u)] 101)::.mp u (aP s_.2)::.mp t (zN s_.1)::K) ([],[]) () J trivial N rfl call123 rfl (fun _ _ _ _ _ _=>trivial) (fun Ψr_ s_ z_ y2 H l_ J2 J0 x0 a w b R0 H0 M0 J N=>?_) (hH E0 (At.part3 f) z (N0.fn w0)) (fun Dk Ψr_ Q2 a w b M0 J N=>?_)
 replace n:=RTrc.mono _ _ _ _ b n
 replace g:=g.mono b
 replace l:=l.mono b
 replace f:=f.mono b
 replace k:=RTFn.mono _ _ _ _ b k
 replace z:=RTE.mono _ _ _ _ b z
 replace N:=N.nf
 obtain ⟨v1,w1,Z,A2,rfl,P1,Q1,m0,n0,t0,W⟩:=id H0
 replace m0:SliceOf RInt Ψr_ 1 v1 H.path:=m0
 replace n0:SliceOf RPtE Ψr_ 1 w1 H.up:=n0
 replace W:RTE Ψr_ _ H.x:=W
 obtain ⟨a0,X,rfl,m1,l2⟩:=m0.fm
 obtain ⟨b0,Y,rfl,n1,n2⟩:=n0.fm
 have o2:=W
 obtain ⟨u1,K0,p2,J1,q2,K1,rfl,d1,e1,L0,M1,N1,j1,l0,k1,o1,l1,p1⟩:=RTE.fm W
 refine xG ?_
 refine vS J rfl rfl rfl (by intro c h;cases h) (qP (cs:=[.slice none 0 0,.slice none 0 0,.pointer none]) N zeroValue90 rfl fun L w N a J=>?_)
 refine jY J rfl rfl (by intro c h;cases h) (zQ 0 (cs:=[.slice none 0 0,.slice none 0 0,.pointer none]) (vs:=[.slice a0 H.path.length X,.slice b0 H.up.length Y,.pointer (some Z)]) J N rfl rfl rfl rfl sizeOf90 rfl rfl rfl fun w N a J=>?_)
 replace N:=N.nf
 refine zY ?_
 replace N:=N.pl 1
 refine ⟨_,N,fun w N=>?_⟩
 replace N:=N.nf
 refine gA ?_
 refine sqI fun z1 y0=>?_
 refine sqI fun A1 z0=>?_
 refine xG ?_
 refine zH J (by intro c h;cases h) (qK J rfl z6r rfl) rfl fun a J=>
   zH J (by intro c h;cases h) (yH 1 J N.toSees rfl rfl rfl isAgg88) rfl fun a J=>
   zH J (by intro c h;cases h) (z1f J rfl) rfl fun a J=>
   zH J (by intro c h;cases h) (aB J rfl q9j) rfl fun a J=>
   zH J (by intro c h;cases h) (uE 5 J N.toSees rfl t0 rfl isAgg44) rfl fun a J=>
   zH J (by intro c h;cases h) (aC J rfl runUnderlying44) rfl fun a J=>
   zH J (by intro c h;cases h) (yX J rfl) rfl fun a J=>?_
 refine zY ?_
 apply z0
 refine gA ?_
 refine y6o (fun mm a w=>∃(k_:Nat) (us:List (Bs×Int)),mm=H.x.args.length - k_/\EnvR 70 [(4,.pointer none),(5,.pointer (some ⟨P,0,none⟩)),(6,.pointer (some ⟨L,0,none⟩)),(33,.slice u1 H.x.args.length K0),(34,.int .i64 H.x.args.length),(35,.int .i64 k_)] [] a/\Mem Ψr_ (.blk l_ J0::.blk L (ob [.slice a0 H.path.length X,.slice b0 H.up.length Y,.pointer (some Z)] 90)::.blk P (ob [.pointer (some ⟨r,0,none⟩)] 102)::.blk r (ob [.pointer (some (U.add (i0 * 11))),.pointer (some pa),.map (some t),.map (some u)] 101)::.mp u (aP s_.2)::.mp t (zN us)::(K++x0)) w/\(mU s_.1 H.x.args=mU us (H.x.args.drop k_))) (H.x.args.length - 0) ⟨0,s_.1,rfl,J.pk,N,rfl⟩ ?_
 clear N J
 rintro mm a w ⟨k_,us,P0,J,N,R⟩ B1 e0
 refine sqI fun C1 f0=>?_
 refine xG ?_
 by_cases M:k_ < H.x.args.length
 refine zH J (by intro c h;cases h) (oX true J rfl rfl (decide_eq_true (Int.ofNat_lt.2 M))) rfl fun a J=>?_
 refine zY ?_
 apply f0
 refine sqI fun D1 A0=>?_
 refine pT J rfl ?_
 refine wS ?_
 apply A0
 refine sqI fun E1 g0=>?_
 refine gA ?_
 refine sqI fun F1 B0=>?_
 refine xG ?_
 obtain ⟨r2,rfl,d,o0,X0,h1,C0,F0⟩:=L0.el l0 M
 obtain ⟨rfl,f1⟩:=id F0
 refine zH J (by intro c h;cases h) (xO k_ J rfl rfl runUnderlying44 sizeOf75 M) rfl fun a J=>
   zH J (by intro c h;cases h) (tL J N.toSees rfl C0 isAgg75 sizeOf75 rfl) rfl fun a J=>?_
 refine vS J rfl rfl rfl (by intro c h;cases h) (qP (cs:=[.string ⟨#[]⟩,.int .i64 ((0:Nat):Int)]) N zeroValue75 rfl fun s0 w N a J=>?_)
 refine jY J rfl rfl (by intro c h;cases h) (zQ 0 (cs:=[.string ⟨#[]⟩,.int .i64 ((0:Nat):Int)]) (vs:=[.string d.name,.int .i64 (d.num)]) J N rfl rfl rfl rfl sizeOf75 rfl rfl rfl fun w N a J=>?_)
 replace N:=N.nf
 refine zY ?_
 apply B0
 refine sqI fun G1 h0=>?_
 refine xG ?_
 refine zH J (by intro c h;cases h) (qK J rfl q9l rfl) rfl fun a J=>
   zH J (by intro c h;cases h) (yH 0 J N.toSees rfl rfl rfl isAgg9) rfl fun a J=>?_
 by_cases V:d.name=(⟨#[]⟩:Bs)
 refine zH J (by intro c h;cases h) (y1o false J rfl rfl (congrArg Bool.not (decide_eq_true V))) rfl fun a J=>?_
 refine zY ?_
 apply h0
 refine wE J rfl ?_
 refine wS ?_
 apply g0
 refine xG ?_
 refine zH J (by intro c h;cases h) (vH (i:=k_) (j:=1) J rfl rfl (by omega)) rfl fun a J=>
   zH J (by intro c h;cases h) (yX J rfl) rfl fun a J=>?_
 refine zY ?_
 replace N:=N.dl [0]
 refine e0 _ _ _ (by subst P0;omega) ⟨(k_+1),(us),rfl,J.pk,N,?_⟩
 have h_:=q4f R o0
 rw [if_pos (show d.name=sNo from V)] at h_;exact h_
 refine zH J (by intro c h;cases h) (y1o true J rfl rfl (congrArg Bool.not (decide_eq_false V))) rfl fun a J=>?_
 refine zY ?_
 apply h0
 refine pT J rfl ?_
 refine pJ [2,1,1,2,1,2,2,1,0] (.q 0 (.q 1 (.q 2 (.q 3 (.q 4 (.q 5 (.q 6 (.q 7 (.e 8 (.done)))))))))) [.blk s0 (ob [.string d.name,.int .i64 (d.num)] 75),.blk L (ob [.slice a0 H.path.length X,.slice b0 H.up.length Y,.pointer (some Z)] 90),.blk P (ob [.pointer (some ⟨r,0,none⟩)] 102),.blk r (ob [.pointer (some (U.add (i0 * 11))),.pointer (some pa),.map (some t),.map (some u)] 101),.mp u (aP s_.2),.mp t (zN us)] J N mixed (by kernel_rfl) (by simp) (by kernel_rfl) fun w N=>?_
 refine Qq (fun a J=>?_) (o:=by exact fun J O=>Ok.cast (yZ 5 runUnderlying98 runUnderlying9 zeroValue3 J O rfl rfl rfl) (vP us d.name))
 refine Qq (fun a J=>?_) (o:=by exact fun J O=>tJ _ J rfl rfl rfl)
 refine uF 6 runUnderlying98 runUnderlying9 fun w N a J=>?_
 replace N:Mem Ψr_ (.blk s0 (ob [.string d.name,.int .i64 (d.num)] 75)::.blk l_ J0::.blk L (ob [.slice a0 H.path.length X,.slice b0 H.up.length Y,.pointer (some Z)] 90)::.blk P (ob [.pointer (some ⟨r,0,none⟩)] 102)::.blk r (ob [.pointer (some (U.add (i0 * 11))),.pointer (some pa),.map (some t),.map (some u)] 101)::.mp u (aP s_.2)::.mp t (zN (qJ us d.name (IntKind.i64.wrap (((yC us d.name).getD 0)+1))))::(K++x0)) w:=by rw [<- wP us d.name (IntKind.i64.wrap (((yC us d.name).getD 0)+1))];exact N
 refine go fun a J=>?_
 apply g0
 refine xG ?_
 refine zH J (by intro c h;cases h) (vH (i:=k_) (j:=1) J rfl rfl (by omega)) rfl fun a J=>
   zH J (by intro c h;cases h) (yX J rfl) rfl fun a J=>?_
 refine zY ?_
 replace N:=N.dl [0]
 refine e0 _ _ _ (by subst P0;omega) ⟨(k_+1),((qJ us d.name (IntKind.i64.wrap (((yC us d.name).getD 0)+1)))),rfl,J.pk,N,?_⟩
 have h_:=q4f R o0
 rw [if_neg (show ¬d.name=sNo from V)] at h_;exact h_
 refine zH J (by intro c h;cases h) (oX false J rfl rfl (decide_eq_false (fun hh=>M (Int.ofNat_lt.1 hh)))) rfl fun a J=>?_
 refine zY ?_
 apply f0
 refine sqI fun H1 a1=>?_
 refine wE J rfl ?_
 refine z8j ?_
 apply y0
 refine sqI fun I1 j0=>?_
 refine xG ?_
 refine zH J (by intro c h;cases h) (qK J rfl z6r rfl) rfl fun a J=>
   zH J (by intro c h;cases h) (yH 1 J N.toSees rfl rfl rfl isAgg88) rfl fun a J=>
   zH J (by intro c h;cases h) (z1f J rfl) rfl fun a J=>
   zH J (by intro c h;cases h) (aB J rfl q9i) rfl fun a J=>
   zH J (by intro c h;cases h) (uE 0 J N.toSees rfl t0 rfl isAgg3) rfl fun a J=>?_
 by_cases S:H.x.kind=7
 refine zH J (by intro c h;cases h) (xY true J rfl rfl (decide_eq_true S)) rfl fun a J=>?_
 refine zY ?_
 apply j0
 refine pT J rfl ?_
 refine pJ [2,1,1,2,1,2,1,1,2,1,1,2,0] (.q 0 (.q 1 (.q 2 (.q 3 (.q 4 (.q 5 (.q 6 (.q 7 (.q 8 (.q 9 (.q 10 (.q 11 (.e 12 (.done)))))))))))))) [.blk L (ob [.slice a0 H.path.length X,.slice b0 H.up.length Y,.pointer (some Z)] 90),.blk P (ob [.pointer (some ⟨r,0,none⟩)] 102),.blk r (ob [.pointer (some (U.add (i0 * 11))),.pointer (some pa),.map (some t),.map (some u)] 101),.mp u (aP s_.2),.mp t (zN us)] J N mixed (by kernel_rfl) (by simp) (by kernel_rfl) fun w N=>?_
 refine go fun a J=>?_
 have D0:0 < H.x.args.length:=c1 _ R0 S
 obtain ⟨s2,rfl,p0,I0,Y0,i1,b1,G0⟩:=L0.el l0 D0
 obtain ⟨rfl,g1⟩:=id G0
 refine uF 4 runUnderlying99 runUnderlying9 fun w N a J=>?_
 replace N:Mem Ψr_ (.blk l_ J0::.blk L (ob [.slice a0 H.path.length X,.slice b0 H.up.length Y,.pointer (some Z)] 90)::.blk P (ob [.pointer (some ⟨r,0,none⟩)] 102)::.blk r (ob [.pointer (some (U.add (i0 * 11))),.pointer (some pa),.map (some t),.map (some u)] 101)::.mp u (aP (qJ s_.2 p0.name true))::.mp t (zN us)::(K++x0)) w:=by rw [<- z7v s_.2 p0.name true];exact N
 refine go fun a J=>?_
 replace N:=N.dl [1]
 refine ⟨rfl,Ψr_,(),(Fz.Le.refl _),trivial,?_⟩
 simp only [uO];rw [y4z R M,if_pos S,show (xD H.x 0).name=p0.name from by rw [xD,I0];rfl];exact N
 refine zH J (by intro c h;cases h) (xY false J rfl rfl (decide_eq_false S)) rfl fun a J=>?_
 refine zY ?_
 apply j0
 refine wE J rfl ?_
 refine wS ?_
 replace N:=N.dl [1]
 refine ⟨rfl,Ψr_,(),(Fz.Le.refl _),trivial,?_⟩
 simp only [uO];rw [y4z R M,if_neg S];exact N
 replace n:=RTrc.mono _ _ _ _ b n
 replace g:=g.mono b
 replace l:=l.mono b
 replace f:=f.mono b
 replace k:=RTFn.mono _ _ _ _ b k
 replace z:=RTE.mono _ _ _ _ b z
 replace N:Mem Ψr_ (.blk P (ob [.pointer (some ⟨r,0,none⟩)] 102)::.blk r (ob [.pointer (some (U.add (i0 * 11))),.pointer (some pa),.map (some t),.map (some u)] 101)::.mp u (aP ((aK c0).2))::.mp t (zN ((aK c0).1))::yA (Dk::[])++K) w:=Mem.mid (A:=[.blk Dk (.deferred (some []))]) (B:=[.blk P (ob [.pointer (some ⟨r,0,none⟩)] 102),.blk r (ob [.pointer (some (U.add (i0 * 11))),.pointer (some pa),.map (some t),.map (some u)] 101),.mp u (aP ((aK c0).2)),.mp t (zN ((aK c0).1))]) (C:=yA []++K) N
 refine go fun a J=>?_
 have G:=N
 clear N
 obtain ⟨x1,v,N,D⟩:=G.freezeBlk (i:=1) rfl
 clear G
 replace n:=RTrc.mono _ _ _ _ v n
 replace g:=g.mono v
 replace l:=l.mono v
 replace f:=f.mono v
 replace k:=RTFn.mono _ _ _ _ v k
 replace z:=RTE.mono _ _ _ _ v z
 replace N:=N.nf
 have G:=N
 clear N
 obtain ⟨y1,s,N,I⟩:=G.freezeMap (i:=2) rfl
 clear G
 replace n:=RTrc.mono _ _ _ _ s n
 replace g:=g.mono s
 replace l:=l.mono s
 replace f:=f.mono s
 replace k:=RTFn.mono _ _ _ _ s k
 replace z:=RTE.mono _ _ _ _ s z
 replace D:=D.mono s
 replace N:=N.nf
 have G:=N
 clear N
 obtain ⟨q0,m,N,k0⟩:=G.freezeMap (i:=1) rfl
 clear G
 replace n:=RTrc.mono _ _ _ _ m n
 replace g:=g.mono m
 replace l:=l.mono m
 replace f:=f.mono m
 replace k:=RTFn.mono _ _ _ _ m k
 replace z:=RTE.mono _ _ _ _ m z
 replace D:=D.mono m
 replace I:=I.mono m
 replace N:=N.dl [0]
 replace N:Mem q0 (yA (Dk::[])++(K)) w:=Mem.mid (A:=[]) (B:=yA (Dk::[])) (C:=K) N
 refine hQ _ _ _ (retX1 (ds:=(Dk::[])) J results44 rfl N fun w N=>?_)
 exact ⟨(q0,r),rfl,⟨((((E.1).trans b).trans v).trans s).trans m,⟨_,_,_,_,_,D,f,k,l,I,k0⟩⟩,N⟩
theorem Chunks.at {α:Type} {R:List Value->α->Prop} {k:Nat}:∀{l:List α} {cs:List Value} {i:Nat} {x:α},Chunks R k cs l->l[i]? = some x->R ((cs.drop (i * k)).take k) x/\((cs.drop (i * k)).take k).length=k
 | [],_,_,_,_,a=>by simp at a
 | y::ys,cs,0,x,⟨c,rest,b,d,e,f⟩,a=>by
  simp only [List.getElem?_cons_zero,Option.some.injEq] at a
  subst a;subst b
  rw [Nat.zero_mul,List.drop_zero,<- d,List.take_left];exact ⟨e,rfl⟩
 | y::ys,cs,i+1,x,⟨c,rest,b,d,e,f⟩,a=>by
  simp only [List.getElem?_cons_succ] at a
  have:=Chunks.at f a
  rw [b,show (i+1) * k=c.length+i * k from by rw [d,Nat.succ_mul,Nat.add_comm],List.drop_append,List.drop_of_length_le (by omega),List.nil_append,Nat.add_sub_cancel_left];exact this
theorem Chunks.put {α:Type} {R:List Value->α->Prop} {k:Nat} {c':List Value} {x':α} (hc':c'.length=k) (hx':R c' x'):∀{l:List α} {cs:List Value} {i:Nat},Chunks R k cs l->i < l.length->Chunks R k (cs.take (i * k)++(c'++cs.drop (i * k+k))) (l.set i x')
 | [],_,_,_,hi=>absurd hi (Nat.not_lt_zero _)
 | y::ys,cs,0,⟨c,rest,b,a,e,d⟩,_=>by
  subst b
  refine ⟨c',rest,?_,hc',hx',d⟩
  rw [Nat.zero_mul,List.take_zero,List.nil_append,Nat.zero_add,<- a,List.drop_left]
 | y::ys,cs,i+1,⟨c,rest,b,a,e,d⟩,hi=>by
  subst b
  refine ⟨c,rest.take (i * k)++(c'++rest.drop (i * k+k)),?_,a,e,Chunks.put hc' hx' d (by simpa using hi)⟩
  rw [show (i+1) * k=c.length+i * k from by rw [a,Nat.succ_mul,Nat.add_comm],List.take_append,List.append_assoc,Nat.add_assoc,List.drop_append,List.take_of_length_le (by omega),Nat.add_sub_cancel_left,List.drop_of_length_le (by omega),List.nil_append,Nat.add_sub_cancel_left]
theorem q7p {cs vs:List Value} {a o k:Nat} (c:a+k<=cs.length) (d:o+vs.length<=k):jI cs (a+o) vs=cs.take a++(jI ((cs.drop a).take k) o vs++cs.drop (a+k)):=by
 rw [xH,xH]
 rw [List.take_add,List.append_assoc,List.append_assoc,List.append_assoc]
 congr 1
 rw [List.take_take,Nat.min_eq_left (by omega)]
 congr 2
 rw [List.drop_take]
 have b:cs.drop (a+o+vs.length)=(cs.drop a).drop (o+vs.length):=by rw [List.drop_drop];congr 1;omega
 rw [b,show cs.drop (a+k)=((cs.drop a).drop (o+vs.length)).drop (k - (o+vs.length)) from by rw [List.drop_drop,List.drop_drop];congr 1;omega,List.take_append_drop]
section
variable {P:Program} {n:Nat} {E:List (Nat×Value)} {D:List Deferred} {a:Act} {Φ Ψ:Fz} {K:List Res} {w:World}
variable {Kn:Value->World->Prop} {Qp:List PanicEntry->World->Prop} {dst:Option Tmp} {ty:TypeId} {pos:String} {aft:Array Edge} {g:Option (Nat×Bool)}
theorem Sees.gsLen {α:Type} {R:List Value->α->Prop} {i k:Nat} {v:Value} {T:TypeId} {cs:List Value} {l:List α} (N:Sees Φ K w) (o:yV K i=some (.gs v T k cs)) (j:Chunks R k cs l) (e:0 < k):∃p c,v=.slice p l.length c/\l.length<=9223372036854775807/\(l≠[]->∃q,p=some q):=by
 obtain ⟨m,a⟩:=N.own _ (yS o)
 have hl:=j.length
 have f:m=l.length:=Nat.eq_of_mul_eq_mul_right e (by rw [<- a.1,hl])
 subst f
 rcases a.2 with ⟨rfl,g⟩ | ⟨b,cap,cur,rfl,_,_,n,d,_⟩
 ·refine ⟨none,0,by rw [g],by omega,fun h=>?_⟩
  exact absurd (List.eq_nil_of_length_eq_zero g) h
 ·refine ⟨_,_,rfl,?_,fun _=>⟨_,rfl⟩⟩
  simp only [maxLen] at d;omega
theorem Sees.rowCell {i k m c:Nat} {q:Addr} {T:TypeId} {cs:List Value} (N:Sees Φ K w) (a:yV K i=some (.gs (.slice (some q) m c) T k cs)):q.spot=none/\∀j v,cs[j]? = some v->w.cell? (q.add j)=some v:=by
 have hq:q.spot=none:=by
  obtain ⟨_,_,d⟩:=N.own _ (yS a)
  rcases d with ⟨h,_⟩ | ⟨b,_,_,h,_⟩
  ·cases h
  ·cases h;rfl
 refine ⟨hq,fun j v f=>?_⟩
 rcases N.rowIn a with ⟨h,_⟩ | ⟨q',m',c',h,_,e⟩
 ·cases h
 ·cases h;exact e _ _ f
theorem mC (i j o:Nat) {x:Operand} {T T0:TypeId} {q:Addr} {m c k t:Nat} {cs cx vs:List Value} (J:EnvR n E D a) (N:Sees Φ K w)
  (u:ev E x=some (.pointer (some ((q.add (j * k)).add o)))) (s:yV K i=some (.gs (.slice (some q) m c) T0 k cs)) (r:(cs.drop (j * k)).take k=cx) (p:AggT P T) (l:SizeT P T t) (h:uP (uN cx o) t=vs) (hl:vs.length=t) :
  Ok P a (.load T x) ty w (.agg vs.toArray):=fun _ _ _ _=>by
 obtain ⟨hq,b⟩:=N.rowCell s
 have g:(q.add (j * k)).spot=none:=by unfold Addr.add;split <;> simp [hq]
 have e:∀i v,vs[i]? = some v->w.cell? (((q.add (j * k)).add o).add i)=some v:=fun i v hi=>by
  rw [sT,sP] at h
  have f:i < t:=by rw [<- hl];exact (List.getElem?_eq_some_iff.1 hi).1
  rw [<- h,List.getElem?_take_of_lt f,List.getElem?_drop] at hi
  rw [add_add _ o i g,add_add _ _ _ hq]
  refine b _ v ?_
  rw [<- r] at hi
  have d:o+i < k:=by
   have:=(List.getElem?_eq_some_iff.1 hi).1
   rw [List.length_take] at this;omega
  rw [List.getElem?_take_of_lt d,List.getElem?_drop] at hi
  exact hi
 have d:=run_loadCells_list (P:=P) (w:=w) _ vs e
 rw [hl] at d
 simp only [execOp,J.ev u]
 simp [Instr.loadAt,Instr.sureAddr,loadVar,Sem.run_bind,p w,l w,Result.andThen,d]
theorem z3i (i j:Nat) {x:Operand} {T T0:TypeId} {q:Addr} {m c k:Nat} {cs cx:List Value} (J:EnvR n E D a) (N:Sees Φ K w)
  (o:ev E x=some (.pointer (some (q.add (j * k))))) (l:yV K i=some (.gs (.slice (some q) m c) T0 k cs)) (h:(cs.drop (j * k)).take k=cx) (g:AggT P T) (f:SizeT P T k) (hl:cx.length=k) :
  Ok P a (.load T x) ty w (.agg cx.toArray):=fun _ _ _ _=>by
 obtain ⟨hq,b⟩:=N.rowCell l
 have e:∀i v,cx[i]? = some v->w.cell? ((q.add (j * k)).add i)=some v:=fun i v hi=>by
  rw [add_add _ _ _ hq]
  refine b _ v ?_
  have d:i < k:=by rw [<- hl];exact (List.getElem?_eq_some_iff.1 hi).1
  rw [<- h,List.getElem?_take_of_lt d,List.getElem?_drop] at hi
  exact hi
 have d:=run_loadCells_list (P:=P) (w:=w) _ cx e
 rw [hl] at d
 simp only [execOp,J.ev o]
 simp [Instr.loadAt,Instr.sureAddr,loadVar,Sem.run_bind,g w,f w,Result.andThen,d]
theorem z5t (i j o:Nat) {x:Operand} {T T0:TypeId} {q:Addr} {m c k:Nat} {cs cx:List Value} {v:Value} (J:EnvR n E D a) (N:Sees Φ K w)
  (p:ev E x=some (.pointer (some ((q.add (j * k)).add o)))) (l:yV K i=some (.gs (.slice (some q) m c) T0 k cs)) (h:(cs.drop (j * k)).take k=cx) (g:Scalar P T) (d:cx[o]? = some v) :
  Ok P a (.load T x) ty w v:=fun _ _ _ _=>by
 obtain ⟨hq,b⟩:=N.rowCell l
 have e:w.cell? ((q.add (j * k)).add o)=some v:=by
  rw [add_add _ _ _ hq]
  refine b _ v ?_
  rw [<- h] at d
  have f:o < k:=by
   have:=(List.getElem?_eq_some_iff.1 d).1
   rw [List.length_take] at this;omega
  rw [List.getElem?_take_of_lt f,List.getElem?_drop] at d
  exact d
 simp only [execOp,J.ev p]
 simp [Instr.loadAt,Instr.sureAddr,loadVar,Sem.run_bind,g w,Result.andThen,load,Sem.run,e]
theorem qU {α:Type} {R:List Value->α->Prop} (i j o:Nat) {x y:Operand} {T T0:TypeId} {pt:Addr} {q:Addr} {m c k t:Nat} {val:Value} {cs vs:List Value} {l:List α} {u u':α} (J:EnvR n E D a) (N:Mem Φ K w)
  (hx:ev E x=some (.pointer (some pt))) (r:pt=⟨q.block,q.off+(j * k+o),none⟩) (hy:ev E y=some val) (X:yV K i=some (.gs (.slice (some q) m c) T0 k cs)) (B:Chunks R k cs l) (Z:l[j]? = some u)
  (C:val.cells.toList=vs) (hS:SizeT P T t) (hl:vs.length=t) (h1:vs.all Value.oneCell'=true) (ho:o+t<=k) (hR:∀cx,cx.length=k->R cx u->R (jI cx o vs) u')
  (kk:∀cs' w',Chunks R k cs' (l.set j u')->Mem Φ (kS K i (.gs (.slice (some q) m c) T0 k cs')) w'->Kn undef w'):Oper.eff P ⟨dst,.store T x y,ty,pos,aft,g⟩ a w Kn Qp:=by
 have H:=B.length
 have W:j < l.length:=(List.getElem?_eq_some_iff.1 Z).1
 have M:j * k+k<=cs.length:=by rw [H,<- Nat.succ_mul];exact Nat.mul_le_mul_right _ W
 obtain ⟨n0,p,h⟩:=N.own _ (yS X)
 rcases h with ⟨h,_⟩ | ⟨b,cap,cur,h,G,hb,Q,I,L,A⟩
 ·cases h
 ·cases h
  have V:cs.length<=cur.size:=by
   have h3:=congrArg List.length A
   rw [List.length_take,Array.length_toList] at h3;omega
  have e0:m * k=cs.length:=by rw [<- p]
  have Y:=run_storeCells_at P b (j * k+o) T0 vs 0 cur w hb (by rw [hl];omega) (fun v C=>List.all_eq_true.1 h1 v C)
  simp only [Nat.zero_add] at r
  have U:val.cells.size=t:=by rw [<- Array.length_toList,C,hl]
  unfold Oper.eff
  have s:(execOp a.eval ⟨dst,.store T x y,ty,pos,aft,g⟩).run P w=.ok .skip (w.setRow b (jI cur.toList (j * k+o) vs).toArray):=by
   simp only [execOp,J.ev hx,J.ev hy,r]
   simp only [Nat.add_zero] at Y
   simp [Instr.storeAt,Instr.sureAddr,storeVar,Sem.run_bind,hS w,U,C,Y,xH]
  rw [s]
  obtain ⟨F,d⟩:=B.at Z
  have f:=Chunks.put (c':=jI ((cs.drop (j * k)).take k) o vs) (by rw [xH,laQ,laQ,List.length_take,List.length_drop,d];omega) (hR _ d F) B W
  rw [<- q7p M (by rw [hl];exact ho)] at f
  refine kk _ _ f (N.upd X rfl rfl (fun x B S=>setRow_other w b x _ (fun e=>S (by simp [Res.foot,Value.ownBlock,e]))) ?_ (.inl rfl))
  have z:(jI cs (j * k+o) vs).length=cs.length:=by rw [xH];simp only [laQ,List.length_take,List.length_drop];omega
  refine ⟨m,by rw [z];exact p,.inr ⟨b,c,(jI cur.toList (j * k+o) vs).toArray,rfl,G,setRow_heap w b _ _ T0 _ hb,Q,I,?_,?_⟩⟩
  ·rw [<- L,xH,List.size_toArray]
   simp only [laQ,List.length_take,List.length_drop,Array.length_toList]
   omega
  ·rw [List.toList_toArray,<- A,xH,xH]
   rw [List.take_append,List.take_append,List.take_take,List.length_take,Array.length_toList,List.drop_take]
   rw [List.take_of_length_le (by omega:vs.length<=_)]
   congr 1
   ·rw [List.take_take];congr 1;omega
   ·congr 2;omega
end
theorem z6x {c d:List Value} (h:c.length=d.length):jI c 0 d=d:=by rw [xH,List.take_zero,List.nil_append,Nat.zero_add,List.drop_of_length_le (by omega),List.append_nil]
theorem RTE.len {Φ:Fz} {c:List Value} {x:TE} (h:RTE Φ c x):c.length=8:=by obtain ⟨s,t,u,rfl,_⟩:=RTE.iff.1 h;rfl
theorem rte_all {Φ:Fz} {c d:List Value} {x:TE} (a:c.length=8) (h:RTE Φ d x):RTE Φ (jI c 0 d) x:=by rw [z6x (by rw [a,h.len])];exact h
theorem y0d {Φ:Fz} {c:List Value} {x:TA} {v:Value} (h:RTA Φ c x) (O:SliceOf RStr Φ 1 v x.vars):RTA Φ (jI c 1 [v]) x:=by
 obtain ⟨s,b,rfl,d,a⟩:=RTA.iff.1 h
 exact RTA.iff.2 ⟨v,b,rfl,O,a⟩
theorem z2q {Φ:Fz} {c d:List Value} {x:TA} {e:TE} (h:RTA Φ c x) (a:RTE Φ d e):RTA Φ (jI c 2 d) (.mk x.con x.vars e):=by
 obtain ⟨s,b,rfl,f,g⟩:=RTA.iff.1 h
 refine RTA.iff.2 ⟨s,d,?_,f,a⟩
 rw [xH,Nat.add_comm 2 d.length]
 show [Value.string x.con,s]++(d++b.drop d.length)=_
 rw [List.drop_of_length_le (by rw [g.len,a.len];exact Nat.le_refl _),List.append_nil];rfl
theorem q3l {Φ:Fz} {c d:List Value} {x:TFn} {e:TE} (h:RTFn Φ c x) (a:RTE Φ d e):RTFn Φ (jI c 3 d) { x with body:=e }:=by
 obtain ⟨s,b,rfl,f,g⟩:=h
 refine ⟨s,d,?_,f,a⟩
 rw [xH,Nat.add_comm 3 d.length]
 show [Value.string x.name,.bool x.chg,s]++(d++b.drop d.length)=_
 rw [List.drop_of_length_le (by rw [g.len,a.len];exact Nat.le_refl _),List.append_nil];rfl
theorem vI {α:Type} {f:α->α} {l:List α} {i:Nat} {x:α} (a:l[i]? = some x):((l.take i).map f++l.drop i)[i]? = some x:=by
 have hi:i < l.length:=(List.getElem?_eq_some_iff.1 a).1
 rw [List.getElem?_append_right (by simp;omega)]
 simp only [List.length_map,List.length_take,Nat.min_eq_left (Nat.le_of_lt hi),Nat.sub_self]
 rw [List.getElem?_drop,Nat.add_zero];exact a
theorem z2i {α:Type} {f:α->α} {l:List α} {i:Nat} {x:α} (a:l[i]? = some x):((l.take i).map f++l.drop i).set i (f x)=(l.take (i+1)).map f++l.drop (i+1):=by
 have hi:i < l.length:=(List.getElem?_eq_some_iff.1 a).1
 rw [List.set_append_right _ _ (by simp;omega)]
 simp only [List.length_map,List.length_take,Nat.min_eq_left (Nat.le_of_lt hi),Nat.sub_self]
 rw [yI a,List.set_cons_zero,jA a,List.map_append,List.append_assoc];rfl
theorem q1v {α:Type} {f:α->α} {l:List α} {i:Nat} {x:α} (a:l[i]? = some x) (h:f x=x):(l.take i).map f++l.drop i=(l.take (i+1)).map f++l.drop (i+1):=by
 rw [yI a,jA a,List.map_append,List.append_assoc];simp [h]
theorem y6p {α:Type} {f:α->α} {l:List α} {i:Nat} (h:¬i < l.length):(l.take i).map f++l.drop i=l.map f:=by
 rw [List.take_of_length_le (by omega),List.drop_of_length_le (by omega),List.append_nil]
def xZ (l:Atoms):List (Bs×Value):=l.map fun p=>(p.1,.agg #[.string p.2.name,.int .i64 p.2.num])
theorem z7g:∀(l:Atoms) (k:Bs),jJ (xZ l) k=(yC l k).map fun a=>.agg #[.string a.name,.int .i64 a.num]
 | [],_=>rfl
 | (q,x)::l,k=>by
  simp only [xZ,List.map_cons,jJ,yC]
  split
  ·rfl
  ·exact z7g l k
theorem wH:∀(l:Atoms) (k:Bs) (x:Atom),z0p (xZ l) k (.agg #[.string x.name,.int .i64 x.num])=xZ (qJ l k x)
 | [],_,_=>rfl
 | (q,y)::l,k,x=>by
  simp only [xZ,List.map_cons,z0p,qJ]
  split
  ·rfl
  ·rw [List.map_cons];exact congrArg _ (wH l k x)
theorem y2m {l:Atoms} {k:Bs} {v:Value} (h:jJ (xZ l) k=some v):∃y,yC l k=some y/\v=.agg #[.string y.name,.int .i64 y.num]:=by
 rw [z7g] at h
 cases hq:yC l k with
 | none=>rw [hq] at h;cases h
 | some y=>rw [hq] at h;exact ⟨y,rfl,(Option.some.inj h).symm⟩
theorem y2l {l:Atoms} {k:Bs} (h:jJ (xZ l) k=none):yC l k=none:=by
 rw [z7g] at h
 cases hq:yC l k with
 | none=>rfl
 | some y=>rw [hq] at h;cases h
def MV (Φ:Fz) (v:Value) (m:Atoms):Prop:=(v=.map none/\m=[])∨∃b,v=.map (some b)/\MapAt Φ b (xZ m)
theorem MV.mono {Φ Ψ:Fz} {v:Value} {m:Atoms} (h:MV Φ v m) (hl:Φ.Le Ψ):MV Ψ v m:=by
 rcases h with h | ⟨b,a,c⟩
 ·exact .inl h
 ·exact .inr ⟨b,a,c.mono hl⟩
theorem MV.one {Φ:Fz} {v:Value} {m:Atoms} (h:MV Φ v m):v.oneCell'=true/\v.cells.toList=[v]:=by
 rcases h with ⟨rfl,_⟩ | ⟨b,rfl,_⟩ <;> exact ⟨rfl,rfl⟩
section
variable {P:Program} {n:Nat} {E:List (Nat×Value)} {D:List Deferred} {a:Act} {Φ Ψ:Fz} {K:List Res} {w:World} {ty:TypeId}
variable {Kn:Value->World->Prop} {Qp:List PanicEntry->World->Prop} {dst:Option Tmp} {pos:String} {aft:Array Edge} {g:Option (Nat×Bool)}
theorem z5u {t kt et:TypeId} {x y:Operand} {v z:Value} {m:Atoms} {s:Bs} {ok:Bool} (d:Under P t (.map kt et)) (c:Under P kt .string) (g:ZeroT P et z)
  (J:EnvR n E D a) (N:Sees Φ K w) (e:ev E x=some v) (f:ev E y=some (.string s)) (h:MV Φ v m):Ok P a (.lookup t x y ok) ty w (zZ ok z (jJ (xZ m) s)):=by
 rcases h with ⟨rfl,rfl⟩ | ⟨b,rfl,h⟩
 ·exact y9f d c g J e f
 ·exact yT d c g J N e f h
end
theorem tB {q:Addr} {x:Nat} (h:q.spot=none):q.add x=⟨q.block,q.off+(x+0),none⟩:=by
 cases q with
 | mk b f s=>
  simp only at h;subst h
  unfold Addr.add;split
  ·subst_vars;rfl
  ·rfl
theorem pB {q:Addr} {x o:Nat} (h:q.spot=none):(q.add x).add o=⟨q.block,q.off+(x+o),none⟩:=by
 rw [add_add _ _ _ h]
 have:=tB (q:=q) (x:=x+o) h
 simpa using this
theorem y0k {α:Type} {l:List α} {i:Nat} {x:α} (h:l[i]? = some x):l.set i x=l:=by
 obtain ⟨hi,a⟩:=List.getElem?_eq_some_iff.1 h
 rw [<- a];exact List.set_getElem_self hi
def cV (m:Atoms) (a:TA):TA:=.mk a.con a.vars (zT m a.body)
theorem y1g (m:Atoms):∀l:List TA,withTa m l=l.map (cV m)
 | []=>rfl
 | .mk c vs b::l=>by rw [withTa,y1g m l];rfl
theorem y1h (m:Atoms):∀l:List TE,withTs m l=l.map (zT m)
 | []=>rfl
 | x::l=>by rw [withTs,y1h m l];rfl
theorem y1f (m:Atoms) (e:TE):zT m e=.mk e.kind e.name e.op e.num e.site (e.args.map (mM m)) (e.arms.map (cV m)) (e.body.map (zT m)):=by
 cases e with
 | mk k nm op num site args arms body=>rw [zT,y1g,y1h];rfl
theorem y4c {m:Atoms} {a:Atom} (h:yC m a.name=none):mM m a=a:=by rw [mM,h];split <;> rfl
theorem j0q {m:Atoms} {a:Atom} (h:a.name=sNo):mM m a=a:=if_pos h
theorem x1d {m:Atoms} {a y:Atom} (h:¬a.name=sNo) (b:yC m a.name=some y):mM m a=y:=by rw [mM,if_neg h,b];rfl
mutual
def smT:TE->Prop
 | .mk _ _ _ _ _ args arms body=>args.length<=1000/\arms.length<=20000/\body.length<=20000/\smTa arms/\smTs body
def smTs:List TE->Prop
 | []=>True
 | x::xs=>smT x/\smTs xs
def smTa:List TA->Prop
 | []=>True
 | .mk _ vs b::xs=>vs.length<=1000/\smT b/\smTa xs
end
theorem y0v:∀{l:List TE} {x:TE},smTs l->x∈l->smT x
 | y::l,x,h,a=>by
  rcases List.mem_cons.1 a with rfl | a
  ·exact h.1
  ·exact y0v h.2 a
theorem nZ:∀{l:List TA} {x:TA},smTa l->x∈l->x.vars.length<=1000/\smT x.body
 | .mk c vs b::l,x,h,a=>by
  rcases List.mem_cons.1 a with rfl | a
  ·exact ⟨h.1,h.2.1⟩
  ·exact nZ h.2.2 a
theorem z0x (e:TE):smT e↔e.args.length<=1000/\e.arms.length<=20000/\e.body.length<=20000/\smTa e.arms/\smTs e.body:=by cases e;exact Iff.rfl
theorem j2a {y z:Atom} (h:Value.agg #[.string y.name,.int .i64 y.num]=.agg #[.string z.name,.int .i64 z.num]):y=z:=by
 injection h with h
 have c:=congrArg Array.toList h
 simp only [List.cons.injEq,and_true] at c
 obtain ⟨a,b⟩:=c
 injection a with a;injection b with _ b
 cases y;cases z;simp only at a b;rw [a,b]
structure AllSeen (es:Array MapEntry) (seen:Array Nat) (m:Atoms) (P:Bs×Atom->Prop):Prop where
 all:∀e∈es.toList,e.born∈seen->∀p∈m,e.key=.string p.1->e.val=.agg #[.string p.2.name,.int .i64 p.2.num]->P p
theorem AllSeen.start {es:Array MapEntry} {m:Atoms} {P:Bs×Atom->Prop}:AllSeen es #[] m P:=⟨fun e _ h=>by simp at h⟩
theorem AllSeen.next {es:Array MapEntry} {seen:Array Nat} {clock:Nat} {m:Atoms} {P:Bs×Atom->Prop} {e:MapEntry} {s:Bs} {y:Atom} (h:AllSeen es seen m P) (b:MapOk es clock (xZ m)) (J:e∈wF es seen) (k:e.key=.string s) (n:e.val=.agg #[.string y.name,.int .i64 y.num]) (l:P (s,y)):AllSeen es (seen.push e.born) m P:=by
 refine ⟨fun x i hb p d a c=>?_⟩
 rw [Array.mem_push] at hb
 rcases hb with hb | hb
 ·exact h.all x i hb p d a c
 ·have:x=e:=by
   have g:=find_born x es.toList b.nodup i
   have j:=find_born e es.toList b.nodup (leftE_mem.1 J).1
   rw [hb,j] at g;exact (Option.some.inj g).symm
  subst this
  have f:s=p.1:=by have:=k.symm.trans a;cases this;rfl
  have e2:y=p.2:=by
   exact j2a (n.symm.trans c)
  rw [show p=(s,y) from by cases p;simp only at f e2;rw [f,e2]];exact l
theorem j5w {l:Atoms} {k:Bs} {v:Value} (h:(k,v)∈xZ l):∃y,v=.agg #[.string y.name,.int .i64 y.num]/\(k,y)∈l:=by
 obtain ⟨p,a,J⟩:=List.mem_map.1 h
 cases J;exact ⟨p.2,rfl,a⟩
theorem AllSeen.done {es:Array MapEntry} {seen:Array Nat} {clock:Nat} {m:Atoms} {P:Bs×Atom->Prop} (h:AllSeen es seen m P) (a:MapOk es clock (xZ m)) (g:wF es seen=[]):∀p∈m,P p:=fun p d=>by
 have b:(Value.string p.1,Value.agg #[.string p.2.name,.int .i64 p.2.num])∈(xZ m).map (fun p=>(Value.string p.1,p.2)):=List.mem_map.2 ⟨(p.1,_),List.mem_map.2 ⟨p,d,rfl⟩,rfl⟩
 rw [<- a.eq] at b
 obtain ⟨e,J,hq⟩:=List.mem_map.1 b
 have O:e.born∈seen:=by
  refine Decidable.byContradiction fun f=>?_
  have:e∈wF es seen:=leftE_mem.2 ⟨J,f⟩
  rw [g] at this;cases this
 have c:=Prod.mk.inj hq
 exact h.all e J O p d c.1 c.2
theorem oK (n:Bs):∀(k:Nat) (e:TE),zC e < k->∀(p:List Int) (up:List TE),n∈z0z e↔∃y∈zE p up e,n∈z0y y.x.kind y.x.args
 | 0,_,h,_,_=>absurd h (Nat.not_lt_zero _)
 | k+1,.mk kd nm op num site args arms body,h,p,up=>by
  have m:weightTa arms+weightTs body < k:=by simp only [zC] at h;omega
  have j:∀(l:List TA) (i:Int) (up:List TE),weightTa l < k->(n∈splitTa l↔∃y∈belowTa p up i l,n∈z0y y.x.kind y.x.args):=by
   intro l
   induction l with
   | nil=>intro i up _;simp [splitTa,belowTa]
   | cons a l g=>
    cases a with
    | mk c vs b=>
     intro i up hl
     simp only [weightTa] at hl
     rw [splitTa,belowTa,List.mem_append,oK n k b (by omega) (p++[i]) up,g (i+1) up (by omega)]
     constructor
     ·rintro (⟨y,d,f⟩ | ⟨y,d,f⟩)
      ·exact ⟨y,List.mem_append_left _ d,f⟩
      ·exact ⟨y,List.mem_append_right _ d,f⟩
     ·rintro ⟨y,d,f⟩
      rcases List.mem_append.1 d with d | d
      ·exact .inl ⟨y,d,f⟩
      ·exact .inr ⟨y,d,f⟩
  have hb:∀(l:List TE) (i:Int) (up:List TE),weightTs l < k->(n∈splitTs l↔∃y∈belowTs p up i l,n∈z0y y.x.kind y.x.args):=by
   intro l
   induction l with
   | nil=>intro i up _;simp [splitTs,belowTs]
   | cons b l g=>
    intro i up hl
    simp only [weightTs] at hl
    rw [splitTs,belowTs,List.mem_append,oK n k b (by omega) (p++[i]) up,g (i+1) up (by omega)]
    constructor
    ·rintro (⟨y,d,f⟩ | ⟨y,d,f⟩)
     ·exact ⟨y,List.mem_append_left _ d,f⟩
     ·exact ⟨y,List.mem_append_right _ d,f⟩
    ·rintro ⟨y,d,f⟩
     rcases List.mem_append.1 d with d | d
     ·exact .inl ⟨y,d,f⟩
     ·exact .inr ⟨y,d,f⟩
  rw [z0z,zE,List.mem_append,List.mem_append,j arms 0 _ (by omega),hb body 0 _ (by omega)]
  constructor
  ·rintro ((d | ⟨y,d,f⟩) | ⟨y,d,f⟩)
   ·exact ⟨_,msQ ..,d⟩
   ·exact ⟨y,mcQ _ (List.mem_append_left _ d),f⟩
   ·exact ⟨y,mcQ _ (List.mem_append_right _ d),f⟩
  ·rintro ⟨y,d,f⟩
   rcases List.mem_cons.1 d with rfl | d
   ·exact .inl (.inl f)
   ·rcases List.mem_append.1 d with d | d
    ·exact .inl (.inr ⟨y,d,f⟩)
    ·exact .inr ⟨y,d,f⟩
theorem y3r (n:Bs):∀(l:List Fnd) (s:LookS),(∀y∈l,y.x.kind=7->0 < y.x.args.length)->((yC (l.foldl uO s).2 n).getD false=true↔((yC s.2 n).getD false=true∨∃y∈l,n∈z0y y.x.kind y.x.args))
 | [],s,_=>by simp
 | y::l,s,h=>by
  rw [List.foldl_cons,y3r n l _ fun z i=>h z (mcQ _ i)]
  have g:=h y (msQ ..)
  have f:((yC (uO s y).2 n).getD false=true)↔((yC s.2 n).getD false=true∨n∈z0y y.x.kind y.x.args):=by
   unfold uO z0y
   by_cases c:y.x.kind=7
   ·have hl:=g c
    simp only [c,if_true]
    rw [xS]
    cases d:y.x.args with
    | nil=>rw [d] at hl;simp at hl
    | cons e j=>
     simp only [xD,d,List.getElem?_cons_zero,Option.getD_some,List.head?_cons,Option.map_some,Option.toList_some,List.mem_singleton]
     by_cases J:n=e.name
     ·simp [J]
     ·rw [if_neg J];simp [J]
   ·simp [c]
  rw [f]
  constructor
  ·rintro ((a | a) | ⟨z,a,b⟩)
   ·exact .inl a
   ·exact .inr ⟨y,msQ ..,a⟩
   ·exact .inr ⟨z,mcQ _ a,b⟩
  ·rintro (a | ⟨z,a,b⟩)
   ·exact .inl (.inl a)
   ·rcases List.mem_cons.1 a with rfl | a
    ·exact .inl (.inr b)
    ·exact .inr ⟨z,a,b⟩
def HarF (F:TFn):Prop:=∀y∈zE [] [] F.body,y.x.kind=7->0 < y.x.args.length
theorem q6t {F:TFn} (a:HarF F) (n:Bs):(yC (aK F).2 n).getD false=true↔n∈z0z F.body:=by
 rw [aK,y3r n _ _ a,oK n _ F.body (Nat.lt_succ_self _) [] []]
 simp [yC]
def y2h (F:TFn) (p:Bs×Atom):Prop:=p.2.name≠sNo∨(yC (aK F).2 p.1).getD false=false
theorem y4d {F:TFn} (a:HarF F) (p:Bs×Atom):y2h F p↔(p.2.name≠sNo∨p.1∉z0z F.body):=by
 unfold y2h;rw [<- q6t a,Bool.not_eq_true]
theorem put_yes {T:Trc} {F:TFn} {m:Atoms} {e:TE} (a:HarF F) (h:∀p∈m,y2h F p):FnS.put ⟨T,F⟩ m e=some (zT m e):=if_pos fun p b=>(y4d a p).1 (h p b)
theorem put_not {T:Trc} {F:TFn} {m:Atoms} {e:TE} {p:Bs×Atom} (a:HarF F) (c:p∈m) (h:¬y2h F p):FnS.put ⟨T,F⟩ m e=none:=if_neg fun b=>h ((y4d a p).2 (b p c))
structure GI (e:TE):Prop where
 ar:ArI e
 op:e.kind=1->gF e.op=true
 na:e.args.length<=1000
 nv:∀a∈e.arms,a.vars.length<=1000
mutual
def gdT:TE->Prop
 | .mk k nm op num site args arms body=>GI (.mk k nm op num site args arms body)/\gdTa arms/\gdTs body
def gdTs:List TE->Prop
 | []=>True
 | x::xs=>gdT x/\gdTs xs
def gdTa:List TA->Prop
 | []=>True
 | .mk _ _ b::xs=>gdT b/\gdTa xs
end
theorem y6c (e:TE):gdT e↔GI e/\gdTa e.arms/\gdTs e.body:=by cases e;exact Iff.rfl
theorem gdTs_iff:∀{l:List TE},gdTs l↔∀x∈l,gdT x
 | []=>by simp [gdTs]
 | x::l=>by rw [gdTs,gdTs_iff (l:=l)];simp
theorem gdTa_iff:∀{l:List TA},gdTa l↔∀x∈l,gdT x.body
 | []=>by simp [gdTa]
 | .mk c vs b::l=>by rw [gdTa,gdTa_iff (l:=l)];simp [TA.body]
theorem nI {e x:TE} (h:gdT e) (a:x∈e.body):gdT x:=gdTs_iff.1 ((y6c e).1 h).2.2 x a
theorem hO {e:TE} {a:TA} (h:gdT e) (b:a∈e.arms):gdT a.body:=gdTa_iff.1 ((y6c e).1 h).2.1 a b
theorem nR {e:TE} (h:gdT e):GI e:=((y6c e).1 h).1
theorem q1d {e:TE} (b:GI e) (c:∀a∈e.arms,gdT a.body) (d:∀x∈e.body,gdT x):gdT e:=(y6c e).2 ⟨b,gdTa_iff.2 c,gdTs_iff.2 d⟩
theorem wV {C:TE->Prop} (h:∀e,(∀a∈e.arms,C a.body)->(∀x∈e.body,C x)->C e) (e:TE):C e:=by
 have:∀(k:Nat) (e:TE),zC e < k->C e:=by
  intro k
  induction k with
  | zero=>intro e J;exact absurd J (Nat.not_lt_zero _)
  | succ k b=>intro e J;exact h e (fun a c=>b _ (by have:=wG c;omega)) (fun x d=>b _ (by have:=kD d;omega))
 exact this _ e (Nat.lt_succ_self _)
theorem wI {p:List Int} {up:List TE} {e:TE} {y:Fnd} (h:y∈zE p up e):y=⟨p,up,e⟩∨(∃(j:Nat) (a:TA),e.arms[j]? = some a/\y∈zE (p++[(j:Int)]) (up++[e]) a.body)∨∃(j:Nat) (x:TE),e.body[j]? = some x/\y∈zE (p++[(j:Int)]) (up++[e]) x:=by
 rw [jK] at h
 rcases List.mem_cons.1 h with h | h
 ·exact .inl h
 ·rcases List.mem_append.1 h with h | h
  ·obtain ⟨j,a,c,b⟩:=mem_belowTa.1 h
   rw [Int.zero_add] at b
   exact .inr (.inl ⟨j,a,c,b⟩)
  ·obtain ⟨j,a,c,b⟩:=mem_belowTs.1 h
   rw [Int.zero_add] at b
   exact .inr (.inr ⟨j,a,c,b⟩)
theorem kZ {e:TE}:gdT e->∀{p:List Int} {up:List TE} {y:Fnd},y∈zE p up e->gdT y.x:=by
 refine wV (C:=fun e=>gdT e->∀{p:List Int} {up:List TE} {y:Fnd},y∈zE p up e->gdT y.x) (fun e f hb d p up y g=>?_) e
 rcases wI g with rfl | ⟨j,a,b,c⟩ | ⟨j,x,b,c⟩
 ·exact d
 ·exact f a (mgQ b) (hO d (mgQ b)) c
 ·exact hb x (mgQ b) (nI d (mgQ b)) c
theorem y9e {e:TE}:∀{p:List Int} {up:List TE} {y:Fnd},y∈zE p up e->zC y.x<=zC e:=by
 refine wV (C:=fun e=>∀{p:List Int} {up:List TE} {y:Fnd},y∈zE p up e->zC y.x<=zC e) (fun e d hb p up y f=>?_) e
 rcases wI f with rfl | ⟨j,a,b,c⟩ | ⟨j,x,b,c⟩
 ·exact Nat.le_refl _
 ·have:=d a (mgQ b) c;have:=wG (mgQ b);omega
 ·have:=hb x (mgQ b) c;have:=kD (mgQ b);omega
theorem q9r {e:TE}:gdT e->arT e:=by
 refine wV (C:=fun e=>gdT e->arT e) (fun e c hb b=>?_) e
 exact (arT_eq e).2 ⟨(nR b).ar,arTa_iff.2 fun a h=>c a h (hO b h),arTs_iff.2 fun x h=>hb x h (nI b h)⟩
theorem cI {F:TFn} (h:gdT F.body):HarF F:=fun y b a=>by
 have:=(nR (kZ h b)).ar.one (.inr (.inl a));omega
theorem z2g:∀l:List TE,l.length<=weightTs l
 | []=>by simp
 | x::l=>by have:=z2g l;have:=xI x;simp only [lcQ,weightTs];omega
theorem z2f:∀l:List TA,l.length<=weightTa l
 | []=>by simp
 | .mk c vs b::l=>by have:=z2f l;have:=xI b;simp only [lcQ,weightTa];omega
theorem smTs_iff:∀{l:List TE},smTs l↔∀x∈l,smT x
 | []=>by simp [smTs]
 | x::l=>by rw [smTs,smTs_iff (l:=l)];simp
theorem smTa_iff:∀{l:List TA},smTa l↔∀x∈l,x.vars.length<=1000/\smT x.body
 | []=>by simp [smTa]
 | .mk c vs b::l=>by rw [smTa,smTa_iff (l:=l)];simp [TA.body,TA.vars,and_assoc]
theorem q9v {e:TE}:gdT e->zC e<=20000->smT e:=by
 refine wV (C:=fun e=>gdT e->zC e<=20000->smT e) (fun e c hb b i=>?_) e
 have d:=xI e
 have f:=z2g e.body
 have g:=z2f e.arms
 refine (z0x e).2 ⟨(nR b).na,by omega,by omega,smTa_iff.2 fun a h=>⟨(nR b).nv a h,c a h (hO b h) (by have:=wG h;omega)⟩,smTs_iff.2 fun x h=>hb x h (nI b h) (by have:=kD h;omega)⟩
theorem gd_with {m:Atoms} {e:TE}:gdT e->gdT (zT m e):=by
 refine wV (C:=fun e=>gdT e->gdT (zT m e)) (fun e j hb f=>?_) e
 rw [y1f]
 have hi:=nR f
 have c:∀a∈e.arms.map (cV m),gdT a.body:=fun a h=>by
  obtain ⟨z,b,rfl⟩:=List.mem_map.1 h
  exact j z b (hO f b)
 have d:∀x∈e.body.map (zT m),gdT x:=fun x h=>by
  obtain ⟨z,b,rfl⟩:=List.mem_map.1 h
  exact hb z b (nI f b)
 refine q1d ⟨⟨fun h=>?_,fun h=>?_,fun g i=>?_,fun h=>?_,fun h=>?_,hi.ar.lo,hi.ar.hi⟩,hi.op,?_,fun a h=>?_⟩ c d
 ·show (e.args.map _).length=2;rw [List.length_map];exact hi.ar.two h
 ·show (e.args.map _).length=1;rw [List.length_map];exact hi.ar.one h
 ·show (e.body.map _).length=1;rw [List.length_map];exact hi.ar.rest g i
 ·show e.body.map _=[];rw [hi.ar.last h];rfl
 ·show e.arms.map _=[];rw [hi.ar.arms h];rfl
 ·show (e.args.map _).length<=1000;rw [List.length_map];exact hi.na
 ·obtain ⟨z,b,rfl⟩:=List.mem_map.1 h
  exact hi.nv z b
structure CallOk (T:Trc) (e:TE):Prop where
 ex:∃g∈T.funs,g.name=e.op
 all:∀g∈T.funs,g.name=e.op->g.params.length=e.args.length
structure GoodP (T:Trc):Prop where
 fit:FitP T
 gd:∀f∈T.funs,gdT f.body
 cl:∀f∈T.funs,∀y∈zE [] [] f.body,(y.x.kind=3∨y.x.kind=4∨y.x.kind=10)->CallOk T y.x
theorem GoodP.sm {T:Trc} (h:GoodP T) {F:TFn} (a:F∈T.funs) {y:Fnd} (b:y∈zE [] [] F.body):smT y.x:=by
 obtain ⟨i,hi⟩:=List.mem_iff_getElem?.1 a
 have d:=q7y hi
 have e:=y9e b
 have c:=h.fit
 simp only [FitP,vJ] at c
 exact q9v (kZ (h.gd F a) b) (by omega)
theorem uB (n:Bs) (c:n≠sNo):∀(l:List Atom) (u:List (Bs×Int)) (k:Nat),(yC u n).getD 0=(k:Int)->k+l.length < 1000000000->(yC (mU u l) n).getD 0=((k+wX n l:Nat):Int)
 | [],u,k,h,_=>by rw [mU,h];rfl
 | a::l,u,k,h,g=>by
  rw [lcQ] at g
  rw [mU]
  by_cases d:a.name=sNo
  ·rw [if_pos d,uB n c l u k h (by omega)]
   have:wX n (a::l)=wX n l:=by unfold wX;rw [List.filter_cons,if_neg (by simp [d])]
   rw [this]
  ·rw [if_neg d]
   by_cases b:n=a.name
   ·have e:(yC (qJ u a.name (IntKind.i64.wrap ((yC u a.name).getD 0+1))) n).getD 0=((k+1:Nat):Int):=by
     rw [xS,if_pos b]
     rw [b] at h
     rw [h,Option.getD_some]
     have f:=z0f [()] (k:Int) (by omega) (by simp only [lcQ,lnQ];omega)
     rw [show IntKind.i64.wrap ((k:Int)+1)=((k:Int)+1) from f];omega
    rw [uB n c l _ (k+1) e (by omega)]
    have:wX n (a::l)=wX n l+1:=by unfold wX;rw [List.filter_cons,if_pos (by simp [<- b,c]),lcQ]
    rw [this];congr 1;omega
   ·have e:(yC (qJ u a.name (IntKind.i64.wrap ((yC u a.name).getD 0+1))) n).getD 0=((k:Nat):Int):=by
     rw [xS,if_neg b];exact h
    rw [uB n c l _ k e (by omega)]
    have:wX n (a::l)=wX n l:=by unfold wX;rw [List.filter_cons,if_neg (by simp only [decide_eq_true_eq];exact fun h=>b h.1.symm)]
    rw [this]
theorem x2s (n:Bs) (l:List Atom):wX n l<=l.length:=List.length_filter_le _ _
theorem y3s (n:Bs) (b:n≠sNo):∀(l:List Fnd) (s:LookS) (k:Nat),(∀y∈l,y.x.args.length<=1000)->(yC s.1 n).getD 0=(k:Int)->k+1000 * l.length < 1000000000->(yC (l.foldl uO s).1 n).getD 0=((k+(l.map fun y=>wX n y.x.args).sum:Nat):Int)
 | [],s,k,_,h,_=>by rw [List.foldl_nil,h];rfl
 | y::l,s,k,a,h,d=>by
  rw [lcQ] at d
  have f:=a y (msQ ..)
  have g:=x2s n y.x.args
  have c:=uB n b y.x.args s.1 k h (by omega)
  rw [List.foldl_cons,y3s n b l (uO s y) (k+wX n y.x.args) (fun z e=>a z (mcQ _ e)) c (by omega),List.map_cons,List.sum_cons]
  congr 1;omega
theorem y1c (n:Bs) (e:TE):∀(p:List Int) (up:List TE),((zE p up e).map fun y=>wX n y.x.args).sum=tG n e:=by
 refine wV (C:=fun e=>∀(p:List Int) (up:List TE),((zE p up e).map fun y=>wX n y.x.args).sum=tG n e) (fun e j hb p up=>?_) e
 have g:∀(l:List TA) (i:Int) (up:List TE),(∀a∈l,∀(p:List Int) (up:List TE),((zE p up a.body).map fun y=>wX n y.x.args).sum=tG n a.body)->((belowTa p up i l).map fun y=>wX n y.x.args).sum=usesTa n l:=by
  intro l
  induction l with
  | nil=>intro i up _;rfl
  | cons a l f=>
   cases a with
   | mk c vs b=>
    intro i up h
    rw [belowTa,List.map_append,List.sum_append,f (i+1) up (fun a d=>h a (mcQ _ d)),usesTa]
    have:=h (.mk c vs b) (msQ ..) (p++[i]) up
    rw [show (TA.mk c vs b).body=b from rfl] at this
    rw [this]
 have d:∀(l:List TE) (i:Int) (up:List TE),(∀a∈l,∀(p:List Int) (up:List TE),((zE p up a).map fun y=>wX n y.x.args).sum=tG n a)->((belowTs p up i l).map fun y=>wX n y.x.args).sum=usesTs n l:=by
  intro l
  induction l with
  | nil=>intro i up _;rfl
  | cons b l f=>
   intro i up h
   rw [belowTs,List.map_append,List.sum_append,f (i+1) up (fun a d=>h a (mcQ _ d)),usesTs,h b (msQ ..) (p++[i]) up]
 rw [jK,List.map_cons,List.sum_cons,List.map_append,List.sum_append,g _ _ _ j,d _ _ _ hb]
 cases e;simp only [tG,TE.args,TE.arms,TE.body];omega
theorem j4f {T:Trc} {F:TFn} (h:GoodP T) (a:F∈T.funs) (n:Bs):(yC (aK F).1 n).getD 0=((tG n F.body:Nat):Int)∨n=sNo:=by
 by_cases b:n=sNo
 ·exact .inr b
 ·refine .inl ?_
  have c:(zE [] [] F.body).length<=20000:=by
   obtain ⟨i,hi⟩:=List.mem_iff_getElem?.1 a
   have c:=q7y hi
   have e:=h.fit
   simp only [FitP,vJ] at e
   rw [dZ];omega
  have d:=y3s n b (zE [] [] F.body) ([],[]) 0 (fun y f=>(nR (kZ (h.gd F a) f)).na) rfl (by omega)
  rw [aK,d,y1c,Nat.zero_add]
theorem y1b:∀(l:List Atom) (u:List (Bs×Int)),yC u sNo=none->yC (mU u l) sNo=none
 | [],_,h=>h
 | a::l,u,h=>by
  rw [mU]
  by_cases b:a.name=sNo
  ·rw [if_pos b];exact y1b l u h
  ·rw [if_neg b];refine y1b l _ ?_
   rw [xS,if_neg (fun c=>b c.symm)];exact h
theorem j0f:∀(l:List Fnd) (s:LookS),yC s.1 sNo=none->yC (l.foldl uO s).1 sNo=none
 | [],_,h=>h
 | y::l,s,h=>by rw [List.foldl_cons];exact j0f l _ (y1b _ _ h)
theorem x2t (e:TE):tG sNo e=0:=by
 rw [<- y1c sNo e [] []]
 have:∀l:List Fnd,(l.map fun y=>wX sNo y.x.args).sum=0:=by
  intro l
  induction l with
  | nil=>rfl
  | cons y l b=>
   rw [List.map_cons,List.sum_cons,b]
   have:wX sNo y.x.args=0:=by
    unfold wX
    rw [List.length_eq_zero_iff,List.filter_eq_nil_iff]
    intro a _;simp only [decide_eq_true_eq];exact fun h=>h.2 h.1
   rw [this]
 exact this _
theorem pI {T:Trc} {F:TFn} (h:GoodP T) (b:F∈T.funs) (n:Bs):(yC (aK F).1 n).getD 0=((tG n F.body:Nat):Int):=by
 rcases j4f h b n with a | a
 ·exact a
 ·subst a
  rw [aK,j0f _ _ rfl,x2t];rfl
section
variable {P:Program} {n:Nat} {E:List (Nat×Value)} {D:List Deferred} {a:Act} {Φ Ψ:Fz} {K:List Res} {w:World} {ty:TypeId}
variable {Kn:Value->World->Prop} {Qp:List PanicEntry->World->Prop} {dst:Option Tmp} {pos:String} {aft:Array Edge} {g:Option (Nat×Bool)}
theorem pM (i:Nat) {t kt et:TypeId} {x y z:Operand} {b:Nat} {m:List (Bs×Value)} {s:Bs} {v:Value} (e:Under P t (.map kt et)) (d:Under P kt .string)
  (J:EnvR n E D a) (N:Mem Φ K w) (f:ev E x=some (.map (some b))) (h:ev E y=some (.string s)) (j:ev E z=some v) (c:yV K i=some (.mp b m))
  (k:∀w',Mem Φ (kS K i (.mp b (z0p m s v))) w'->Kn undef w'):Oper.eff P ⟨dst,.insert t x y z,ty,pos,aft,g⟩ a w Kn Qp :=
 show Oper.eff P ⟨dst,.mapUpdate t x y z,ty,pos,aft,g⟩ a w Kn Qp from uI i e d J N f h j c k
end
def wpB (P:Program) (f:FuncId) (c:Code) (Q:Exit->Act->World->Prop) (a:Act) (w:World):Prop :=
 ∀(b:Frame) (k:List Item) (cs:List Frame),b.roundOf=none->b.fn=f ->
  ∃e a' w',Q e a' w'/\ArrivesIn (Machine.fenced P Fence.wide) P (lone (b.atR a (.code c::k)) cs w) b k cs e a' w'
section
variable {P:Program} {f:FuncId} {Q:Exit->Act->World->Prop} {a:Act} {w:World} {n:Nat} {E:List (Nat×Value)} {D:List Deferred}
theorem qY {c:Code} (h:c.wp P Q a w):wpB P f c Q a w:=fun b k cs d _=>(wpIn_wide (n:=0)).2 h b k cs d trivial (room_wide _)
theorem sqB {x y:Code} (h:∀L:Act->World->Prop,(∀a w,wpB P f y Q a w->L a w)->wpB P f x (Exit.then L Q) a w):wpB P f (Code.seq x y) Q a w:=by
 intro b k cs j hb
 obtain ⟨e,i,m,hq,c⟩:=h (fun a w=>wpB P f y Q a w) (fun _ _ h=>h) b (.code y::k) cs j hb
 have g:(lone (b.atR a (.code (.seq x y)::k)) cs w).fenced P Fence.wide:=fenced_wide _ _
 cases e with
 | normal=>
  obtain ⟨e2,a2,o,n,d⟩:=hq b k cs j hb
  exact ⟨e2,a2,o,n,.of_steps (.head g stepR_seq c) d⟩
 | exit id=>exact ⟨_,i,m,hq,.of_steps (.one g stepR_seq) (.pass (x:=.code y) rfl (fun _ _=>.inl (by simp)) c)⟩
 | goto l=>exact ⟨_,i,m,hq,.of_steps (.one g stepR_seq) (.pass (x:=.code y) rfl (fun _ _=>.inl (by simp)) c)⟩
 | ret=>exact ⟨_,i,m,hq,.of_steps (.one g stepR_seq) (.pass (x:=.code y) rfl (fun _ _=>.inl (by simp)) c)⟩
 | panic ch=>exact ⟨_,i,m,hq,.of_steps (.one g stepR_seq) (.pass (x:=.code y) rfl (fun _ _=>.inl (by simp)) c)⟩
 | outgrown=>exact ⟨_,i,m,hq,.of_steps (.one g stepR_seq) (.pass (x:=.code y) rfl (fun _ _=>.inl (by simp)) c)⟩
theorem z0a {id:Nat} {c:Code} (h:wpB P f c (Exit.inBlock id Q) a w):wpB P f (Code.block id c) Q a w:=by
 intro b k cs i hb
 have n:(lone (b.atR a (.code (.block id c)::k)) cs w).fenced P Fence.wide:=fenced_wide _ _
 obtain ⟨e,m,o,hq,d⟩:=h b (.inBlock id::k) cs i hb
 cases e with
 | normal=>exact ⟨.normal,m,o,hq,.head n stepR_block (StepsIn.trans d (.one (fenced_wide _ _) stepR_inBlock))⟩
 | exit id'=>
  by_cases g:id'=id
  ·simp only [Exit.inBlock,g,if_true] at hq
   exact ⟨.normal,m,o,hq,.head n stepR_block (d.1 k (by simp [exitTo,g]))⟩
  ·simp only [Exit.inBlock,g,if_false] at hq
   have:(id==id')=false:=by simp;exact fun h=>g h.symm
   refine ⟨.exit id',m,o,hq,fun k' p=>.head n stepR_block (d.1 k' ?_),fun j=>?_⟩
   ·simp [exitTo,this,p]
   ·rw [i] at j;cases j
 | goto l=>exact ⟨_,m,o,hq,fun k' p=>.head n stepR_block (d.1 k' (by simp [gotoIn,p])),fun j=>by rw [i] at j;cases j⟩
 | ret=>exact ⟨_,m,o,hq,.of_steps (.one n stepR_block) ⟨d.1,fun j=>by rw [i] at j;cases j⟩⟩
 | panic ch=>exact ⟨_,m,o,hq,.of_steps (.one n stepR_block) d⟩
 | outgrown=>exact ⟨_,m,o,hq,.of_steps (.one n stepR_block) d⟩
theorem y5p {fn:Func} {c:Code} {args:Array Value} {R:Ending->World->Prop} (j:P.funcs[f]? = some fn) (hb:fn.body=some c)
  (h:wpB P f c (xP P fn R) { tmps:=args++Array.replicate (fn.ntmps - args.size) undef,defers:=[] } w):Calls P f args w R:=by
 intro cs
 let b:Frame:={ (default:Frame) with fn:=f,kind:=.normal,roundOf:=none }
 have henter:Frame.enter P f args .normal=b.atR { tmps:=args++Array.replicate (fn.ntmps - args.size) undef,defers:=[] } [.code c]:=by
  simp [Frame.enter,Frame.atR,j,hb,b]
 obtain ⟨e,a',w',hq,a⟩:=h b [] cs rfl rfl
 rw [<- henter] at a
 cases e with
 | normal=>
  obtain ⟨e',w'',fr',i,O,d,hl⟩:=hq { b.atR a' [] with mode:=.returning } cs rfl rfl rfl j rfl
  exact ⟨e',w'',fr',i,Comes.of_steps (StepsIn.trans a (.one (fenced_wide _ _) (stepR_end rfl))).steps O,d,hl⟩
 | ret=>
  obtain ⟨todo,g⟩:=a.1 rfl
  obtain ⟨e',w'',fr',i,O,d,hl⟩:=hq { b.atR a' todo with mode:=.returning } cs rfl rfl rfl j rfl
  exact ⟨e',w'',fr',i,Comes.of_steps g.steps O,d,hl⟩
 | panic chain=>
  obtain ⟨todo,g⟩:=a
  obtain ⟨e',w'',fr',i,O,d,hl⟩:=hq { b.atR a' todo with mode:=.panicking chain } cs rfl rfl rfl j rfl
  exact ⟨e',w'',fr',i,Comes.of_steps g.steps O,d,hl⟩
 | exit id=>exact hq.elim
 | goto l=>exact hq.elim
 | outgrown=>exact ⟨.outgrown,w',b,hq,a.resolve_left (by simp [b]),rfl,trivial⟩
theorem z6p {fn:Func} {c:Code} {vs:List Value} {R:Ending->World->Prop} (g:P.funcs[f]? = some fn) (hb:fn.body=some c) (i:fn.ntmps=n) (hl:Nat.ble vs.length n=true)
  (k:∀Q:Exit->Act->World->Prop,(∀e a w,xP P fn R e a w->Q e a w)->∀a,EnvR n (aO 0 vs) [] a->wpB P f c Q a w):Calls P f vs.toArray w R:=by
 have hl':vs.length<=n:=by simpa using hl
 refine y5p g hb (k _ (fun _ _ _ h=>h) _ ⟨by simp [i];omega,fun t v j=>?_,rfl⟩)
 obtain ⟨_,b⟩:=nM vs 0 t v j
 simp only [Nat.sub_zero] at b
 have d:t < vs.length:=(List.getElem?_eq_some_iff.1 b).1
 simp only [List.getElem?_toArray,Array.getElem?_append,List.size_toArray,d,↓reduceIte]
 exact b
def q7g (P:Program) (l:Nat) (R:Ending->World->Prop) (e:Exit) (a:Act) (w:World):Prop :=
 match e with
 | .panic c=>a.defers=[]/\R (.panicked c) w
 | e=>roundPost P l R e a w
theorem z4g {l m:Nat} {tmps:Array Value} {assign body:Code} {R:Ending->World->Prop} {fd:Func} (C:P.funcs[f]? = some fd)
  (h:assign.wpIn (Fence.wide.inRound l) m P (Exit.then (fun p r=>∃q,(Instr.beginRound l).run P r=.ok () q/\body.wpIn (Fence.wide.inRound l) m P (q7g P l R) p q) (fun _ _ _=>False)) { tmps:=tmps,defers:=[] } w) :
  RoundIn Fence.wide m P l f tmps assign body w R:=by
 refine ⟨trivial,fun c cs D=>?_⟩
 let b:Frame:={ (default:Frame) with fn:=f,kind:=.normal,roundOf:=some l }
 have s:Frame.round l f tmps assign body .normal=b.atR { tmps:=tmps,defers:=[] } [.code assign,.beginRound,.code body]:=by
  simp [Frame.round,Frame.atR,b]
 have i:∀m,Machine.fenced P Fence.wide m:=fun _=>fenced_wide _ _
 obtain ⟨e,p,r,hq,d⟩:=h b [.beginRound,.code body] (c::cs) rfl trivial (room_wide _)
 rw [<- s] at d
 cases e with
 | normal=>
  obtain ⟨q,u,n⟩:=hq
  have s1:StepsIn (Machine.fenced P Fence.wide) P (lone (b.atR p [.beginRound,.code body]) (c::cs) r) (lone (b.atR p [.code body]) (c::cs) q):=.one (i _) (stepR_beginRound rfl u)
  obtain ⟨e2,a2,A,j,a⟩:=n b [] (c::cs) rfl trivial (room_wide _)
  have a:ArrivesIn (Machine.fenced P Fence.wide) P (lone (b.atR p [.code body]) (c::cs) q) b [] (c::cs) e2 a2 A:=a
  have d:StepsIn (Machine.fenced P Fence.wide) P (lone (Frame.round l f tmps assign body .normal) (c::cs) w) (lone (b.atR p [.beginRound,.code body]) (c::cs) r):=d
  cases e2 with
  | normal=>
   obtain ⟨v,o,g,k⟩:=j
   exact ⟨.returned v,o,k,(StepsIn.trans d s1).trans (StepsIn.trans a (.one (i _) (stepR_round_end rfl rfl g)))⟩
  | ret=>
   obtain ⟨v,o,g,k⟩:=j
   obtain ⟨z,O⟩:=a.2 rfl
   exact ⟨.returned v,o,k,(StepsIn.trans d s1).trans (StepsIn.trans O (.one (i _) (stepR_round_ret rfl rfl g)))⟩
  | exit id=>
   obtain ⟨v,o,g,k⟩:=j
   obtain ⟨z,y,O⟩:=a.2 rfl rfl
   exact ⟨.returned v,o,k,(StepsIn.trans d s1).trans (StepsIn.trans O (.one (i _) (stepR_round_exit rfl rfl y g)))⟩
  | goto t=>
   obtain ⟨v,o,g,k⟩:=j
   obtain ⟨z,y,O⟩:=a.2 rfl rfl
   exact ⟨.returned v,o,k,(StepsIn.trans d s1).trans (StepsIn.trans O (.one (i _) (stepR_round_goto rfl rfl y g)))⟩
  | panic chain=>
   obtain ⟨B,k⟩:=j
   obtain ⟨todo,O⟩:=a
   exact ⟨.panicked chain,A,k,(StepsIn.trans d s1).trans (StepsIn.trans O (.one (i _) (step_leave_panicked ⟨rfl,B,fd,C⟩)))⟩
  | outgrown=>exact j.elim
 | exit id=>exact hq.elim
 | goto t=>exact hq.elim
 | ret=>exact hq.elim
 | panic chain=>exact hq.elim
 | outgrown=>exact hq.elim
theorem y2f {g:Operand} {ps:Array Tmp} {assign body:Code}
  (h:∃(l:Nat) (mark:List Deferred) (u:World) (d:Deferred) (w1':World) (gf:FuncId) (args:Array Value) (y:World),
   (Instr.enterLoop f a.tmps ps assign body none).run P w=.ok (l,mark) u/\(resolve a.eval (rangeCall g l) 0).run P u=.ok d w1' /\
   (invoke d.target d.args).run P w1'=.ok (.enter gf args) y/\Calls P gf args y (rangePost Fence.wide 0 P l Q { a with defers:=mark++a.defers })) :
  wpB P f (Code.rangeFunc g ps assign body) Q a w:=by
 intro b k cs s hb
 obtain ⟨l,mark,u,d,w1',gf,args,y,J,r,q,j⟩:=h
 rw [<- s,<- hb] at J
 have i:∀m,Machine.fenced P Fence.wide m:=fun _=>fenced_wide _ _
 have henter:=stepR_rangeFunc (P:=P) (b:=b) (a:=a) (k:=k) (cs:=cs) (w:=w) J r q
 obtain ⟨e,D,fr,t,hsteps,B,hleave⟩:=((callsIn_wide (n:=0)).2 j).2 (b.atR { a with defers:=mark++a.defers } (.inRangeFunc l::k)::cs) (room_wide _)
 cases e with
 | outgrown=>
  obtain ⟨a0,C,hq⟩:=t
  exact ⟨.outgrown,a0,C,hq,.inr (Outgrown.of_steps (Steps.one henter) hsteps)⟩
 | returned v=>
  obtain ⟨jump,A,p,z⟩:=t
  have sback:StepsIn (Machine.fenced P Fence.wide) P (lone (b.atR a (.code (.rangeFunc g ps assign body)::k)) cs w) (lone (b.atR { a with defers:=mark++a.defers } ((jump.map Item.code).toList++k)) cs A):=by
   refine .head (i _) henter (StepsIn.trans hsteps (.head (i _) ?_ (.one (i _) (stepR_endRangeFunc p))))
   rw [<- finish_atR_inRangeFunc l v];exact step_leave_returned hleave
  cases jump with
  | none=>exact ⟨.normal,_,A,z,sback⟩
  | some c=>
   obtain ⟨e',a'',E,hq,o⟩:=z b k cs s trivial (room_wide _)
   exact ⟨e',a'',E,hq,.of_steps sback o⟩
 | panicked chain=>
  refine ⟨.panic chain,_,D,t,.inRangeFunc l::k,.head (i _) henter (StepsIn.trans hsteps (.one (i _) ?_))⟩
  rw [<- Frame.raise_atR];exact step_leave_panicked hleave
end
end Go.Sw
