import Derived.Test.YtlfobekmmndchaaGreatDoorX13
set_option linter.unusedVariables false
set_option linter.unusedSimpArgs false
namespace Go.Sw
open Go.Proofs Go.Proofs.Tryz
set_option maxRecDepth 20000
set_option maxHeartbeats 4000000
theorem z3h {Φ:Fz} {a1 P0:Nat} {pa:Addr} {T:Trc} {i0:Nat} {F:TFn} (o:At Φ ⟨a1,0,none⟩ [.pointer (some pa)]) (r:At Φ ⟨P0,0,none⟩ [.int .i64 i0]) (RO:ROp Φ pa T) (GP:GoodP T) (hF:T.funs[i0]? = some F) (Gl:Glob Φ):Iter prog Φ 75 [] [.pointer (some ⟨a1,0,none⟩),.pointer (some ⟨P0,0,none⟩)] RRw (qN T i0):=by
 intro σ β y Ψ step G KV s0 z0 w hl hy D N
 obtain ⟨W,U,V,o1⟩:=hy.fn
 subst o1
 replace o:=o.mono hl
 replace r:=r.mono hl
 replace RO:=RO.mono hl
 replace Gl:=Gl.mono hl
 show Calls prog 75 #[.func W U V,.pointer (some ⟨a1,0,none⟩),.pointer (some ⟨P0,0,none⟩)] w _
 have l1:=(List.getElem?_eq_some_iff.1 hF).1
 have v1:I64 ((i0:Nat):Int):=RO.i64 l1
 refine sL func75 rfl ntmps75 rfl (fun Q hQ a J=>?_)
 refine Bx fun b2 w N a J=>?_
 refine yF call44 (fun y4 w f0 N a J=>?_) (c:=j0g RO hF GP.fit (fun y_ N1 y1=>cI (GP.gd F (mgQ hF)) y_ N1 y1) N)
 replace D:=hy.mono _ _ _ _ _ f0.1 D
 replace o:=o.mono f0.1
 replace r:=r.mono f0.1
 replace Gl:=Gl.mono f0.1
 have RF6:=f0.2
 replace N:=N.nf
 refine Alc fun b7 w N a J=>?_
 refine Sto 0 fun w N a J=>?_
 refine go fun a J=>?_
 obtain ⟨f3,A2,y2,x2,W1,l,k,K0,L1,D1,C1⟩:=RF6.ex
 have m:=K0
 obtain ⟨X2,c24,G2,rfl,O2,H,h2,o2⟩:=RTFn.fm K0
 obtain ⟨Y2,I2,Z2,J2,a3,c44,rfl,d2,e2,P2,Q2,R2,i2,p2,j2,q2,k2,r2⟩:=RTE.fm H
 refine yF call74 (fun g3 w v N a J=>?_) (c:=z6o N)
 replace D:=hy.mono _ _ _ _ _ v.1 D
 replace o:=o.mono v.1
 replace r:=r.mono v.1
 replace Gl:=Gl.mono v.1
 replace RF6:=RF6.mono v.1
 replace l:=l.mono v.1
 replace k:=k.mono v.1
 replace H:=RTE.mono _ _ _ _ v.1 H
 replace m:=RTFn.mono _ _ _ _ v.1 m
 have d1:=v.2
 replace N:=N.nf
 refine go fun a J=>?_
 refine gS (p:=19) RFnd (zE [] [] F.body) .ret (fun I s=>zK step I (qV ⟨T,F⟩ i0 s)) G (fun I b_ z_=>.blk b7 (ob [.pointer (some ⟨y4.2,0,none⟩)] 102)::.blk b2 (ob [.func W U V] 110)::KV I b_ z_) s0 z0 J D N rfl call123 rfl hy.mono (fun Ψr_ I z_ M2 s l_ W2 f1 Y0 a w b M0 H0 z J N=>?_) (hH d1 (At.part3 k) H (GP.fit.fn hF)) (fun hr_ Dk Ψr_ X a w b z J N=>?_) (fun hr_ Dk Ψr_ X a w b z J N=>?_)
 replace D:=hy.mono _ _ _ _ _ b D
 replace o:=o.mono b
 replace r:=r.mono b
 replace Gl:=Gl.mono b
 replace RF6:=RF6.mono b
 replace l:=l.mono b
 replace k:=k.mono b
 replace H:=RTE.mono _ _ _ _ b H
 replace m:=RTFn.mono _ _ _ _ b m
 replace N:=N.nf
 have u:=H0
 obtain ⟨P1,Q1,m0,N2,rfl,a2,c2,P,L0,M,r0⟩:=id H0
 replace P:SliceOf RInt Ψr_ 1 P1 s.path:=P
 replace L0:SliceOf RPtE Ψr_ 1 Q1 s.up:=L0
 replace r0:RTE Ψr_ _ s.x:=r0
 obtain ⟨n0,h0,rfl,E1,s2⟩:=P.fm
 obtain ⟨o0,j0,rfl,F1,t2⟩:=L0.fm
 have R:=r0
 obtain ⟨b3,K2,d3,c80,e3,L2,rfl,f2,g2,S2,T2,U2,l2,u2,m2,v2,n2,w2⟩:=RTE.fm r0
 refine xG ?_
 refine vS J rfl rfl rfl (by intro c h;cases h) (qP (cs:=[.slice none 0 0,.slice none 0 0,.pointer none]) N zeroValue90 rfl fun y0 w N a J=>?_)
 refine jY J rfl rfl (by intro c h;cases h) (zQ 0 (cs:=[.slice none 0 0,.slice none 0 0,.pointer none]) (vs:=[.slice n0 s.path.length h0,.slice o0 s.up.length j0,.pointer (some m0)]) J N rfl rfl rfl rfl sizeOf90 rfl rfl rfl fun w N a J=>?_)
 replace N:=N.nf
 refine zY ?_
 replace N:=N.pl 1
 refine ⟨_,N,fun w N=>?_⟩
 replace N:=N.nf
 refine gA ?_
 refine sqI fun C2 j1=>?_
 refine xG ?_
 refine zH J (by intro c h;cases h) (qW J rfl) rfl fun a J=>?_
 refine zY ?_
 apply j1
 refine gA ?_
 refine y6o (fun mm a w=>∃(Y:Fz) (r_:Nat) (L:σ) (g0:β),mm=6 - r_/\EnvR 43 [(2,.pointer (some ⟨P0,0,none⟩)),(3,.pointer (some ⟨b2,0,none⟩)),(4,.pointer (some ⟨b7,0,none⟩)),(5,.pointer (some ⟨y0,0,none⟩)),(6,.int .i64 r_)] [] a/\Mem Y (.blk l_ f1::.blk y0 (ob [.slice n0 s.path.length h0,.slice o0 s.up.length j0,.pointer (some m0)] 90)::.blk b7 (ob [.pointer (some ⟨y4.2,0,none⟩)] 102)::.blk b2 (ob [.func W U V] 110)::(KV L true g0++Y0)) w/\(Ψr_.Le Y/\(1<=r_/\zK step I (qV ⟨T,F⟩ i0 s)=zK step L (jT ⟨T,F⟩ i0 s r_)/\G Y L true g0))) (6 - 1) ⟨Ψr_,1,I,z_,rfl,J.pk,N,⟨Fz.Le.refl _,⟨Nat.le_refl _,rfl,z⟩⟩⟩ ?_
 clear N J
 rintro mm a w ⟨Y,r_,L,g0,m1,J,N,E⟩ D2 S0
 obtain ⟨t,E⟩:=E
 replace D:=hy.mono _ _ _ _ _ t D
 replace o:=o.mono t
 replace r:=r.mono t
 replace Gl:=Gl.mono t
 replace RF6:=RF6.mono t
 replace l:=l.mono t
 replace k:=k.mono t
 replace H:=RTE.mono _ _ _ _ t H
 replace m:=RTFn.mono _ _ _ _ t m
 replace z:=hy.mono _ _ _ _ _ t z
 replace P:=P.mono RInt.mono t
 replace M:=M.mono t
 replace R:=RTE.mono _ _ _ _ t R
 replace u:=RFnd.mono _ _ _ _ t u
 have K:=E.2.2
 refine sqI fun E2 k1=>?_
 refine sqI fun F2 U0=>?_
 refine xG ?_
 refine zH J (by intro c h;cases h) (yX J rfl) rfl fun a J=>?_
 by_cases e0:r_<=5
 refine zH J (by intro c h;cases h) (z5s true J rfl rfl (decide_eq_true (Int.ofNat_le.2 e0))) rfl fun a J=>?_
 refine zY ?_
 apply U0
 refine pT J rfl ?_
 refine wS ?_
 apply k1
 refine sqI fun R1 D0=>?_
 refine gA ?_
 refine sqI fun S1 E0=>?_
 refine xG ?_
 refine zH J (by intro c h;cases h) (yH 2 J N.toSees rfl rfl rfl isAgg102) rfl fun a J=>
   zH J (by intro c h;cases h) (yX J rfl) rfl fun a J=>
   zH J (by intro c h;cases h) (qA 1 (vs:=[.slice n0 s.path.length h0,.slice o0 s.up.length j0,.pointer (some m0)]) J N.toSees rfl rfl isAgg90 sizeOf90 rfl rfl) rfl fun a J=>?_
 refine vS J rfl rfl rfl (by intro c h;cases h) (tQ J rfl call69 (j1c (path:=s.path) (up:=s.up) (e:=s.x) RF6 GP (mgQ hF) M0 u Gl (rul_lt E.1 e0) N) (fun d p1 w S g N a J=>?_) (fun d w S N a J=>?_))
 replace D:=hy.mono _ _ _ _ _ g.1 D
 replace o:=o.mono g.1
 replace r:=r.mono g.1
 replace l:=l.mono g.1
 replace k:=k.mono g.1
 replace H:=RTE.mono _ _ _ _ g.1 H
 replace m:=RTFn.mono _ _ _ _ g.1 m
 replace z:=hy.mono _ _ _ _ _ g.1 z
 replace P:=P.mono RInt.mono g.1
 replace M:=M.mono g.1
 replace R:=RTE.mono _ _ _ _ g.1 R
 replace u:=RFnd.mono _ _ _ _ g.1 u
 replace K:=hy.mono _ _ _ _ _ g.1 K
 have k0:=g.2
 obtain ⟨t1,R0⟩:∃s,s=p1.2:=⟨_,rfl⟩
 rw [<- R0] at k0 J
 have b0:=k0
 obtain ⟨u0,p0,w0,q0,x0,c125,rfl,w1,x1,X1,Y1,Z1,z1,G1,A1,H1,B1,I1⟩:=RTE.fm k0
 replace N:=N.nf
 refine zH J (by intro c h;cases h) (yX J rfl) rfl fun a J=>
   zH J (by intro c h;cases h) (xJ J rfl rfl) rfl fun a J=>
   zH J (by intro c h;cases h) (xJ J rfl rfl) rfl fun a J=>?_
 refine vS J rfl rfl rfl (by intro c h;cases h) (qP (cs:=[.int .i64 ((0:Nat):Int),.string ⟨#[]⟩,.string ⟨#[]⟩,.int .i64 ((0:Nat):Int),.int .i64 ((0:Nat):Int),.slice none 0 0,.slice none 0 0,.slice none 0 0]) N zeroValue48 rfl fun A0 w N a J=>?_)
 refine jY J rfl rfl (by intro c h;cases h) (zQ 0 (cs:=[.int .i64 ((0:Nat):Int),.string ⟨#[]⟩,.string ⟨#[]⟩,.int .i64 ((0:Nat):Int),.int .i64 ((0:Nat):Int),.slice none 0 0,.slice none 0 0,.slice none 0 0]) (vs:=[.int .i64 (d.kind),.string d.name,.string d.op,.int .i64 (d.num),.int .i64 (d.site),.slice u0 d.args.length p0,.slice w0 d.arms.length q0,.slice x0 d.body.length c125]) J N rfl rfl rfl rfl sizeOf48 rfl rfl rfl fun w N a J=>?_)
 replace N:=N.nf
 refine zH J (by intro c h;cases h) (qW J rfl) rfl fun a J=>?_
 refine zY ?_
 apply E0
 refine sqI fun T1 b1=>?_
 refine pJ [1,1,2,1,2,1,2,0,1,0,1,1] (.q 0 (.q 1 (.q 2 (.q 3 (.q 4 (.q 5 (.q 6 (.e 7 (.q 8 (.e 9 (.q 10 (.q 11 (.done))))))))))))) [.blk A0 (ob [.int .i64 (d.kind),.string d.name,.string d.op,.int .i64 (d.num),.int .i64 (d.site),.slice u0 d.args.length p0,.slice w0 d.arms.length q0,.slice x0 d.body.length c125] 48),.blk y0 (ob [.slice n0 s.path.length h0,.slice o0 s.up.length j0,.pointer (some m0)] 90),.blk b7 (ob [.pointer (some ⟨y4.2,0,none⟩)] 102),.blk b2 (ob [.func W U V] 110)] J N mixed (by kernel_rfl) (by simp) (by kernel_rfl) fun w N=>?_
 refine yF call76 (fun q1 w Z N a J=>?_) (c:=j2y P (q7a (GP.fit.fn hF) M0) N)
 obtain ⟨B2,u1⟩:=q1
 simp only at Z N J
 have V0:=N
 clear N
 obtain ⟨g1,f,N,I0,G0⟩:=V0.freezeRowC (i:=0) rfl
 clear V0
 replace D:=hy.mono _ _ _ _ _ f D
 replace o:=o.mono f
 replace r:=r.mono f
 replace l:=l.mono f
 replace k:=k.mono f
 replace H:=RTE.mono _ _ _ _ f H
 replace m:=RTFn.mono _ _ _ _ f m
 replace z:=hy.mono _ _ _ _ _ f z
 replace M:=M.mono f
 replace R:=RTE.mono _ _ _ _ f R
 replace u:=RFnd.mono _ _ _ _ f u
 replace K:=hy.mono _ _ _ _ _ f K
 replace b0:=RTE.mono _ _ _ _ f b0
 replace Z:=Z.mono fun _ _ h=>RInt.mono _ _ _ _ f h
 replace N:=N.nf
 have t0:SliceOf RInt g1 1 _ (s.path):=⟨_,I0,Z⟩
 obtain ⟨z2,V1,M1,s1,J1⟩:=t0.form (by decide)
 have X0:=N
 clear N
 subst M1
 have N:=X0
 clear X0
 refine yE fun a J=>?_
 refine d_fireg J rfl rfl rfl rfl rfl (hM J rfl rfl (hy.goM [.blk A0 (ob [.int .i64 (d.kind),.string d.name,.string d.op,.int .i64 (d.num),.int .i64 (d.site),.slice u0 d.args.length p0,.slice w0 d.arms.length q0,.slice x0 d.body.length c125] 48),.blk l_ f1,.blk y0 (ob [.slice n0 s.path.length h0,.slice o0 s.up.length j0,.pointer (some m0)] 90),.blk b7 (ob [.pointer (some ⟨y4.2,0,none⟩)] 102),.blk b2 (ob [.func W U V] 110)] (K1:=Y0) ((((((f0.1).trans v.1).trans b).trans t).trans g.1).trans f) (q8g hF M0 E.1 e0 S) ⟨_,rfl,G0,(show I64 (r_:Int) from by unfold I64;omega),v1,(show I64 0 from by unfold I64;omega),t0⟩ K N) fun w i1=>⟨fun _=>i1.elim fun Ψ_ h_=>h_.elim fun z_ h_=>(show Mem Ψ_ (.blk A0 (ob [.int .i64 (d.kind),.string d.name,.string d.op,.int .i64 (d.num),.int .i64 (d.site),.slice u0 d.args.length p0,.slice w0 d.arms.length q0,.slice x0 d.body.length c125] 48)::.blk l_ f1::.blk y0 (ob [.slice n0 s.path.length h0,.slice o0 s.up.length j0,.pointer (some m0)] 90)::.blk b7 (ob [.pointer (some ⟨y4.2,0,none⟩)] 102)::.blk b2 (ob [.func W U V] 110)::(KV ((step L (⟨(r_:Int),i0,s.path,0⟩)).1) ((step L (⟨(r_:Int),i0,s.path,0⟩)).2) z_++Y0)) w from h_.2.2).seesIn (((Fz.Le.refl _).trans f).trans h_.1) (by simp),fun a J=>?_⟩)
 obtain ⟨N0,z146,n,a0,N⟩:=i1
 replace D:=hy.mono _ _ _ _ _ n D
 replace o:=o.mono n
 replace r:=r.mono n
 replace l:=l.mono n
 replace k:=k.mono n
 replace H:=RTE.mono _ _ _ _ n H
 replace m:=RTFn.mono _ _ _ _ n m
 replace z:=hy.mono _ _ _ _ _ n z
 replace M:=M.mono n
 replace R:=RTE.mono _ _ _ _ n R
 replace u:=RFnd.mono _ _ _ _ n u
 replace K:=hy.mono _ _ _ _ _ n K
 replace b0:=RTE.mono _ _ _ _ n b0
 replace N:=N.nf
 refine go fun a J=>?_
 apply b1
 generalize F0:(!(step L (⟨(r_:Int),i0,s.path,0⟩)).2)=Z0 at J
 cases Z0
 refine wE J rfl ?_
 refine wS ?_
 apply D0
 refine xG ?_
 refine zH J (by intro c h;cases h) (yX J rfl) rfl fun a J=>
   zH J (by intro c h;cases h) (vH (i:=r_) (j:=1) J rfl rfl (by omega)) rfl fun a J=>
   zH J (by intro c h;cases h) (qW J rfl) rfl fun a J=>?_
 refine zY ?_
 have J0:(step L (⟨(r_:Int),i0,s.path,0⟩)).2=true:=by have h_:=F0;revert h_;cases ((step L (⟨(r_:Int),i0,s.path,0⟩)).2) <;> simp
 rw [J0] at a0 N
 replace N:=N.dl [0]
 refine S0 _ _ _ (by subst m1;omega) ⟨(N0),(r_+1),((step L (⟨(r_:Int),i0,s.path,0⟩)).1),(z146),rfl,J.pk,N,?_⟩
 refine ⟨(((t).trans g.1).trans f).trans n,?_⟩
 exact ⟨by omega,win_yes E.2.1 E.1 e0 S J0,a0⟩
 refine pT J rfl ?_
 refine wpIn_ret ?_
 replace N:=N.dl [2,0]
 have n1:(step L (⟨(r_:Int),i0,s.path,0⟩)).2=false:=by have h_:=F0;revert h_;cases ((step L (⟨(r_:Int),i0,s.path,0⟩)).2) <;> simp
 rw [n1] at a0 N
 have l0:zK step I (qV ⟨T,F⟩ i0 s)=_:=x2u E.2.1 E.1 e0 S n1
 simp only [l0]
 exact ⟨rfl,N0,z146,((((t).trans g.1).trans f).trans n),a0,N⟩
 replace N:=N.nf
 refine zH J (by intro c h;cases h) (yX J rfl) rfl fun a J=>
   zH J (by intro c h;cases h) (xJ J rfl rfl) rfl fun a J=>
   zH J (by intro c h;cases h) (xJ J rfl rfl) rfl fun a J=>?_
 refine vS J rfl rfl rfl (by intro c h;cases h) (qP (cs:=[.int .i64 ((0:Nat):Int),.string ⟨#[]⟩,.string ⟨#[]⟩,.int .i64 ((0:Nat):Int),.int .i64 ((0:Nat):Int),.slice none 0 0,.slice none 0 0,.slice none 0 0]) N zeroValue48 rfl fun h1 w N a J=>?_)
 refine jY J rfl rfl (by intro c h;cases h) (zQ 0 (cs:=[.int .i64 ((0:Nat):Int),.string ⟨#[]⟩,.string ⟨#[]⟩,.int .i64 ((0:Nat):Int),.int .i64 ((0:Nat):Int),.slice none 0 0,.slice none 0 0,.slice none 0 0]) (vs:=[.int .i64 ((0:Nat):Int),.string ⟨#[]⟩,.string ⟨#[]⟩,.int .i64 ((0:Nat):Int),.int .i64 ((0:Nat):Int),.slice none 0 0,.slice none 0 0,.slice none 0 0]) J N rfl rfl rfl rfl sizeOf48 rfl rfl rfl fun w N a J=>?_)
 replace N:=N.nf
 refine zH J (by intro c h;cases h) (qW J rfl) rfl fun a J=>?_
 refine zY ?_
 apply E0
 refine sqI fun U1 c1=>?_
 refine pJ [1,1,2,1,2,1,2,0,1,0,1,1] (.q 0 (.q 1 (.q 2 (.q 3 (.q 4 (.q 5 (.q 6 (.e 7 (.q 8 (.e 9 (.q 10 (.q 11 (.done))))))))))))) [.blk h1 (ob [.int .i64 ((0:Nat):Int),.string ⟨#[]⟩,.string ⟨#[]⟩,.int .i64 ((0:Nat):Int),.int .i64 ((0:Nat):Int),.slice none 0 0,.slice none 0 0,.slice none 0 0] 48),.blk y0 (ob [.slice n0 s.path.length h0,.slice o0 s.up.length j0,.pointer (some m0)] 90),.blk b7 (ob [.pointer (some ⟨y4.2,0,none⟩)] 102),.blk b2 (ob [.func W U V] 110)] J N mixed (by kernel_rfl) (by simp) (by kernel_rfl) fun w N=>?_
 refine go fun a J=>?_
 apply c1
 refine wE J rfl ?_
 refine wS ?_
 apply D0
 refine xG ?_
 refine zH J (by intro c h;cases h) (yX J rfl) rfl fun a J=>
   zH J (by intro c h;cases h) (vH (i:=r_) (j:=1) J rfl rfl (by omega)) rfl fun a J=>
   zH J (by intro c h;cases h) (qW J rfl) rfl fun a J=>?_
 refine zY ?_
 replace N:=N.dl [0]
 refine S0 _ _ _ (by subst m1;omega) ⟨(Y),(r_+1),(L),(g0),rfl,J.pk,N,?_⟩
 refine ⟨t,?_⟩
 exact ⟨by omega,win_no E.2.1 E.1 e0 S,K⟩
 refine zH J (by intro c h;cases h) (z5s false J rfl rfl (decide_eq_false (fun hh=>e0 (Int.ofNat_le.1 hh)))) rfl fun a J=>?_
 refine zY ?_
 apply U0
 refine wE J rfl ?_
 refine z8j ?_
 replace N:=N.dl [1]
 have l0:zK step I (qV ⟨T,F⟩ i0 s)=(L,true):=win_end E.2.1 e0
 simp only [l0]
 exact ⟨rfl,Y,g0,(t),K,N⟩
 replace D:=hy.mono _ _ _ _ _ b D
 replace o:=o.mono b
 replace r:=r.mono b
 replace l:=l.mono b
 replace k:=k.mono b
 replace H:=RTE.mono _ _ _ _ b H
 replace m:=RTFn.mono _ _ _ _ b m
 replace N:Mem Ψr_ (.blk b7 (ob [.pointer (some ⟨y4.2,0,none⟩)] 102)::.blk b2 (ob [.func W U V] 110)::yA (Dk::[])++KV ((zK (fun I s=>zK step I (qV ⟨T,F⟩ i0 s)) s0 (zE [] [] F.body)).1) true X) w:=Mem.mid (A:=[.blk Dk (.deferred (some []))]) (B:=[.blk b7 (ob [.pointer (some ⟨y4.2,0,none⟩)] 102),.blk b2 (ob [.func W U V] 110)]) (C:=yA []++KV ((zK (fun I s=>zK step I (qV ⟨T,F⟩ i0 s)) s0 (zE [] [] F.body)).1) true X) N
 replace N:=N.nm
 replace N:=N.dl [1,0]
 replace N:Mem Ψr_ (yA (Dk::[])++(KV ((zK (fun I s=>zK step I (qV ⟨T,F⟩ i0 s)) s0 (zE [] [] F.body)).1) true X)) w:=Mem.mid (A:=[]) (B:=yA (Dk::[])) (C:=KV ((zK (fun I s=>zK step I (qV ⟨T,F⟩ i0 s)) s0 (zE [] [] F.body)).1) true X) N
 refine hQ _ _ _ (retX0N (ds:=(Dk::[])) J results75 N fun w N=>?_)
 rw [y1i hF s0]
 have e1:zK (fun I s=>zK step I (qV ⟨T,F⟩ i0 s)) s0 (zE [] [] F.body)=((zK (fun I s=>zK step I (qV ⟨T,F⟩ i0 s)) s0 (zE [] [] F.body)).1,true):=by rw [<- hr_]
 rotate_left
 replace D:=hy.mono _ _ _ _ _ b D
 replace o:=o.mono b
 replace r:=r.mono b
 replace l:=l.mono b
 replace k:=k.mono b
 replace H:=RTE.mono _ _ _ _ b H
 replace m:=RTFn.mono _ _ _ _ b m
 replace N:Mem Ψr_ (.blk b7 (ob [.pointer (some ⟨y4.2,0,none⟩)] 102)::.blk b2 (ob [.func W U V] 110)::yA (Dk::[])++KV ((zK (fun I s=>zK step I (qV ⟨T,F⟩ i0 s)) s0 (zE [] [] F.body)).1) false X) w:=Mem.mid (A:=[.blk Dk (.deferred (some []))]) (B:=[.blk b7 (ob [.pointer (some ⟨y4.2,0,none⟩)] 102),.blk b2 (ob [.func W U V] 110)]) (C:=yA []++KV ((zK (fun I s=>zK step I (qV ⟨T,F⟩ i0 s)) s0 (zE [] [] F.body)).1) false X) N
 replace N:=N.nm
 replace N:=N.dl [1,0]
 replace N:Mem Ψr_ (yA (Dk::[])++(KV ((zK (fun I s=>zK step I (qV ⟨T,F⟩ i0 s)) s0 (zE [] [] F.body)).1) false X)) w:=Mem.mid (A:=[]) (B:=yA (Dk::[])) (C:=KV ((zK (fun I s=>zK step I (qV ⟨T,F⟩ i0 s)) s0 (zE [] [] F.body)).1) false X) N
 refine hQ _ _ _ (retX0 (ds:=(Dk::[])) J results75 N fun w N=>?_)
 rw [y1i hF s0]
 have e1:zK (fun I s=>zK step I (qV ⟨T,F⟩ i0 s)) s0 (zE [] [] F.body)=((zK (fun I s=>zK step I (qV ⟨T,F⟩ i0 s)) s0 (zE [] [] F.body)).1,false):=by rw [<- hr_]
 rotate_left
 all_goals (rw [e1];exact ⟨_,Ψr_,X,rfl,((f0.1).trans v.1).trans b,z,N⟩)
theorem z5n {Φ:Fz} {V:Nat} {pa:Addr} {T:Trc} (d:At Φ ⟨V,0,none⟩ [.pointer (some pa)]) (RO:ROp Φ pa T) (GP:GoodP T) (Gl:Glob Φ):Iter prog Φ 48 [] [.pointer (some ⟨V,0,none⟩)] RRw (qS T):=by
 intro σ β y Ψ step G KV s0 z0 w hl D l N
 obtain ⟨s,q,r,x0⟩:=D.fn
 subst x0
 replace d:=d.mono hl
 replace RO:=RO.mono hl
 replace Gl:=Gl.mono hl
 show Calls prog 48 #[.func s q r,.pointer (some ⟨V,0,none⟩)] w _
 obtain ⟨j1,m2,e,f0,X0⟩:=RO.ex
 have g:=f0
 obtain ⟨p9,D0,H0,E0,I0,c22,J0,F0,rfl,L0,h8,k1,l1,m1,Q0,Y0,R0,Z0,S0,a1,U0,b1⟩:=RTrc.fm f0
 replace e:At Ψ pa [.slice p9 T.cons.length D0,.slice H0 T.inputs.length E0,.slice I0 T.funs.length c22,.slice J0 T.outputs.length F0,.map (some m2)]:=e
 refine sL func48 rfl ntmps48 rfl (fun Q hQ a J=>?_)
 refine Bx fun o w N a J=>?_
 refine go fun a J=>?_
 refine pX (fun mm a w=>∃(H:Fz) (i:Nat) (ds:List Nat) (si:σ) (zi:β),mm=T.funs.length - i/\EnvR 44 [(1,.pointer (some ⟨V,0,none⟩)),(2,.pointer (some ⟨o,0,none⟩)),(11,.int .i64 T.funs.length),(12,.int .i64 i)] (aL ds) a/\Mem H (.blk o (ob [.func s q r] 110)::yA ds++KV si true zi) w/\(Ψ.Le H/\(zK step s0 (qS T)=zK step si (dU T i++kH T 0)/\G H si true zi))) (T.funs.length - 0) ⟨Ψ,0,[],s0,z0,rfl,J.pk,N,⟨Fz.Le.refl _,⟨by rw [q3x],l⟩⟩⟩ ?_
 clear N J
 rintro mm a w ⟨H,i,ds,si,zi,Z,J,N,F⟩ e1 t0
 obtain ⟨k,F⟩:=F
 replace l:=D.mono _ _ _ _ _ k l
 replace d:=d.mono k
 replace RO:=RO.mono k
 replace Gl:=Gl.mono k
 replace g:=RTrc.mono _ _ _ _ k g
 replace e:=e.mono k
 have f:=F.2
 by_cases W:i < T.funs.length
 obtain ⟨F_,i0⟩:=zW W
 refine yF call37 (fun q1 w j N a J=>?_) (c:=y5c N)
 replace l:=D.mono _ _ _ _ _ j.1 l
 replace d:=d.mono j.1
 replace RO:=RO.mono j.1
 replace Gl:=Gl.mono j.1
 replace g:=RTrc.mono _ _ _ _ j.1 g
 replace e:=e.mono j.1
 replace f:=D.mono _ _ _ _ _ j.1 f
 have k0:=j.2.1
 have l0:=j.2.2
 replace N:=N.nf
 refine go fun a J=>?_
 refine gS (p:=18) RRw (qN T i) .ret step G (fun s_ b_ z_=>.blk o (ob [.func s q r] 110)::(yA ds++KV s_ b_ z_)) si zi J f N rfl call75 rfl D.mono (fun Ψr_ s_ z_ i1 P l_ A0 m0 o0 a w b w0 X v J N=>?_) (z3h k0 l0 RO GP i0 Gl) (fun hr_ Dk Ψr_ L a w b v J N=>?_) (fun hr_ Dk Ψr_ L a w b v J N=>?_)
 replace l:=D.mono _ _ _ _ _ b l
 replace d:=d.mono b
 replace RO:=RO.mono b
 replace g:=RTrc.mono _ _ _ _ b g
 replace e:=e.mono b
 replace f:=D.mono _ _ _ _ _ b f
 replace N:Mem Ψr_ (.blk l_ A0::.blk o (ob [.func s q r] 110)::(KV s_ true z_++(yA ds++o0))) w:=Mem.rotM (A:=[.blk l_ A0,.blk o (ob [.func s q r] 110)]) N
 have I:=X
 obtain ⟨p1,rfl,M0,N0,O0,P0,G0⟩:=id X
 obtain ⟨n0,c53,rfl,V0,c1⟩:=G0.fm
 refine xG ?_
 refine vS J rfl rfl rfl (by intro c h;cases h) (qP (cs:=[.int .i64 ((0:Nat):Int),.int .i64 ((0:Nat):Int),.slice none 0 0,.int .i64 ((0:Nat):Int)]) N zeroValue36 rfl fun C0 w N a J=>?_)
 refine jY J rfl rfl (by intro c h;cases h) (zQ 0 (cs:=[.int .i64 ((0:Nat):Int),.int .i64 ((0:Nat):Int),.slice none 0 0,.int .i64 ((0:Nat):Int)]) (vs:=[.int .i64 (P.rule),.int .i64 (P.fn),.slice n0 P.path.length c53,.int .i64 (P.num)]) J N rfl rfl rfl rfl sizeOf36 rfl rfl rfl fun w N a J=>?_)
 replace N:=N.nf
 refine zY ?_
 replace N:=N.pl 1
 refine ⟨_,N,fun w N=>?_⟩
 replace N:=N.nf
 refine gA ?_
 refine sqI fun f1 u0=>?_
 refine xG ?_
 refine zH J (by intro c h;cases h) (yH 2 J N.toSees rfl rfl rfl isAgg110) rfl fun a J=>
   zH J (by intro c h;cases h) (qA 1 (vs:=[.int .i64 (P.rule),.int .i64 (P.fn),.slice n0 P.path.length c53,.int .i64 (P.num)]) J N.toSees rfl rfl isAgg36 sizeOf36 rfl rfl) rfl fun a J=>?_
 refine in_stR J rfl rfl rfl (by intro c h;cases h) (hM J rfl rfl (D.goM [.blk l_ m0,.blk C0 (ob [.int .i64 (P.rule),.int .i64 (P.fn),.slice n0 P.path.length c53,.int .i64 (P.num)] 36),.blk o (ob [.func s q r] 110)] (K1:=(yA ds++o0)) (((k).trans j.1).trans b) (q7u W w0) I v N) fun w j0 a J=>?_)
 obtain ⟨h0,B0,n,b0,N⟩:=j0
 replace l:=D.mono _ _ _ _ _ n l
 replace d:=d.mono n
 replace RO:=RO.mono n
 replace g:=RTrc.mono _ _ _ _ n g
 replace e:=e.mono n
 replace f:=D.mono _ _ _ _ _ n f
 replace v:=D.mono _ _ _ _ _ n v
 replace I:=RRw.mono _ _ _ _ n I
 replace N:=N.nf
 refine zH J (by intro c h;cases h) (z5v J rfl) rfl fun a J=>?_
 refine zY ?_
 apply u0
 generalize d0:(!(step s_ P).2)=p0 at J
 cases p0
 refine wE J rfl ?_
 refine wS ?_
 replace N:=N.dl [1]
 have K:(step s_ P).2=true:=by have h_:=d0;revert h_;cases (step s_ P).2 <;> simp
 rotate_left
 refine pT J rfl ?_
 refine wpIn_ret ?_
 replace N:=N.dl [1]
 have K:(step s_ P).2=false:=by have h_:=d0;revert h_;cases (step s_ P).2 <;> simp
 rotate_left
 replace l:=D.mono _ _ _ _ _ b l
 replace d:=d.mono b
 replace RO:=RO.mono b
 replace g:=RTrc.mono _ _ _ _ b g
 replace e:=e.mono b
 replace f:=D.mono _ _ _ _ _ b f
 replace N:Mem Ψr_ (.blk o (ob [.func s q r] 110)::yA (Dk::ds)++KV ((zK step si (qN T i)).1) true L) w:=Mem.mid (A:=[.blk Dk (.deferred (some []))]) (B:=[.blk o (ob [.func s q r] 110)]) (C:=yA ds++KV ((zK step si (qN T i)).1) true L) N
 replace N:=N.nm
 refine go fun a J=>?_
 refine t0 _ _ _ (by subst Z;omega) ⟨(Ψr_),(i+1),((Dk::ds)),((zK step si (qN T i)).1),(L),rfl,J.pk,N,?_⟩
 refine ⟨((k).trans j.1).trans b,?_⟩
 exact ⟨q7w F.1 W hr_,v⟩
 replace l:=D.mono _ _ _ _ _ b l
 replace d:=d.mono b
 replace RO:=RO.mono b
 replace g:=RTrc.mono _ _ _ _ b g
 replace e:=e.mono b
 replace f:=D.mono _ _ _ _ _ b f
 replace N:Mem Ψr_ (.blk o (ob [.func s q r] 110)::yA (Dk::ds)++KV ((zK step si (qN T i)).1) false L) w:=Mem.mid (A:=[.blk Dk (.deferred (some []))]) (B:=[.blk o (ob [.func s q r] 110)]) (C:=yA ds++KV ((zK step si (qN T i)).1) false L) N
 replace N:=N.nm
 replace N:=N.dl [0]
 replace N:Mem Ψr_ (yA (Dk::ds)++(KV ((zK step si (qN T i)).1) false L)) w:=Mem.mid (A:=[]) (B:=yA (Dk::ds)) (C:=KV ((zK step si (qN T i)).1) false L) N
 refine hQ _ _ _ (retX0 (ds:=(Dk::ds)) J results48 N fun w N=>?_)
 rw [show zK step s0 (qS T)=_ from q7x F.1 W hr_]
 exact ⟨_,Ψr_,L,rfl,((k).trans j.1).trans b,v,N⟩
 refine go fun a J=>?_
 refine pX (fun mm a w=>∃(u:Fz) (E:Nat) (sj:σ) (zj:β),mm=T.funs.length - E/\EnvR 44 [(1,.pointer (some ⟨V,0,none⟩)),(2,.pointer (some ⟨o,0,none⟩)),(29,.int .i64 T.funs.length),(30,.int .i64 E)] (aL ds) a/\Mem u (.blk o (ob [.func s q r] 110)::yA ds++KV sj true zj) w/\(H.Le u/\(zK step s0 (qS T)=zK step sj (kH T E)/\G u sj true zj))) (T.funs.length - 0) ⟨H,0,si,zi,rfl,J.pk,N,⟨Fz.Le.refl _,⟨q7t F.1 W,f⟩⟩⟩ ?_
 clear N J
 rintro mm a w ⟨u,E,sj,zj,Z,J,N,z⟩ g1 c0
 obtain ⟨m,z⟩:=z
 replace l:=D.mono _ _ _ _ _ m l
 replace d:=d.mono m
 replace RO:=RO.mono m
 replace g:=RTrc.mono _ _ _ _ m g
 replace e:=e.mono m
 replace f:=D.mono _ _ _ _ _ m f
 have M:=z.2
 refine go fun a J=>?_
 by_cases R:E < T.funs.length
 refine go1 fun a J=>?_
 refine wp_region_lit ?_
 refine go1 fun a J=>?_
 refine mQ ?_
 refine zH J (by intro c h;cases h) (pO J N.toSees rfl d rfl isAgg63) rfl fun a J=>
   zH J (by intro c h;cases h) (yX J rfl) rfl fun a J=>?_
 obtain ⟨F_,i0⟩:=zW R
 refine vS J rfl rfl rfl (by intro c h;cases h) (z3q J rfl call49 (q0n RO i0 GP.fit N) fun w N a J=>?_)
 refine zH J (by intro c h;cases h) (yX J rfl) rfl fun a J=>?_
 generalize U:(vG T E)=q0 at J
 cases q0
 refine sO J rfl rfl rfl rfl rfl rfl fun a J=>
   sO J rfl rfl rfl rfl rfl rfl fun a J=>
   sO J rfl rfl rfl rfl rfl rfl fun a J=>
   sO J rfl rfl rfl rfl rfl rfl fun a J=>
   sO J rfl rfl rfl rfl rfl rfl fun a J=>
   zH J (by intro c h;cases h) (z4p J rfl rfl) rfl fun a J=>?_
 refine zY ?_
 refine go fun a J=>?_
 refine c0 _ _ _ (by subst Z;omega) ⟨(u),(E+1),(sj),(zj),rfl,J.pk,N,?_⟩
 refine ⟨m,?_⟩
 exact ⟨q5w z.1 R U,M⟩
 refine mK J rfl rfl rfl rfl rfl (by intro c h;cases h) (dD (yH 0 J N.toSees rfl rfl rfl isAgg110) fun a J=>?_)
 refine mK J rfl rfl rfl rfl rfl (by intro c h;cases h) (dD (yX J rfl) fun a J=>?_)
 refine mK J rfl rfl rfl rfl rfl (by intro c h;cases h) (dD (jP (vs:=[(0,.int .i64 ((7:Nat):Int)),(1,.int .i64 E)]) (cs:=[.int .i64 ((7:Nat):Int),.int .i64 E,.slice none 0 0,.int .i64 ((0:Nat):Int)]) J rfl (by kernel_rfl)) fun a J=>?_)
 refine mK J rfl rfl rfl rfl rfl (by intro c h;cases h) (hM J rfl rfl (D.go u sj zj _ (⟨7,(E:Int),[],0⟩) (.blk o (ob [.func s q r] 110)::yA ds) w ((k).trans m) (q7v R U) ⟨_,rfl,Nat.le_refl 0,(show I64 7 from by unfold I64;omega),RO.i64 R,(show I64 0 from by unfold I64;omega),SliceOf.nil _⟩ M N) fun w j0 a J=>?_)
 obtain ⟨Y,a0,t,S,N⟩:=j0
 replace l:=D.mono _ _ _ _ _ t l
 replace d:=d.mono t
 replace g:=RTrc.mono _ _ _ _ t g
 replace e:=e.mono t
 replace f:=D.mono _ _ _ _ _ t f
 replace M:=D.mono _ _ _ _ _ t M
 replace N:=N.nf
 refine mK J rfl rfl rfl rfl rfl (by intro c h;cases h) (dD (z5v J rfl) fun a J=>?_)
 refine zH J (by intro c h;cases h) (z4p J rfl rfl) rfl fun a J=>?_
 refine zY ?_
 refine go fun a J=>?_
 generalize e0:(!(step sj (⟨7,(E:Int),[],0⟩)).2)=r0 at J
 cases r0
 refine go fun a J=>?_
 have K:(step sj (⟨7,(E:Int),[],0⟩)).2=true:=by have h_:=e0;revert h_;cases ((step sj (⟨7,(E:Int),[],0⟩)).2) <;> simp
 rw [K] at S N
 refine c0 _ _ _ (by subst Z;omega) ⟨(Y),(E+1),((step sj (⟨7,(E:Int),[],0⟩)).1),(a0),rfl,J.pk,N,?_⟩
 refine ⟨(m).trans t,?_⟩
 exact ⟨q5v z.1 R U K,S⟩
 refine go fun a J=>?_
 replace N:=N.dl [0]
 replace N:Mem Y (yA ds++(KV ((step sj (⟨7,(E:Int),[],0⟩)).1) ((step sj (⟨7,(E:Int),[],0⟩)).2) a0)) w:=Mem.mid (A:=[]) (B:=yA ds) (C:=KV ((step sj (⟨7,(E:Int),[],0⟩)).1) ((step sj (⟨7,(E:Int),[],0⟩)).2) a0) N
 refine hQ _ _ _ (retX0 (ds:=ds) J results48 N fun w N=>?_)
 have K:(step sj (⟨7,(E:Int),[],0⟩)).2=false:=by have h_:=e0;revert h_;cases ((step sj (⟨7,(E:Int),[],0⟩)).2) <;> simp
 rw [K] at S N
 rw [show zK step s0 (qS T)=_ from q5x z.1 R U K]
 exact ⟨_,Y,a0,rfl,((k).trans m).trans t,S,N⟩
 refine go fun a J=>?_
 replace N:=N.dl [0]
 replace N:Mem u (yA ds++(KV sj true zj)) w:=Mem.mid (A:=[]) (B:=yA ds) (C:=KV sj true zj) N
 refine hQ _ _ _ (retX0N (ds:=ds) J results48 N fun w N=>?_)
 rw [show zK step s0 (qS T)=_ from j3f z.1 R]
 exact ⟨_,u,zj,rfl,(k).trans m,M,N⟩
 all_goals (exact ⟨by rw [K];rfl,h0,B0,(n),b0,(Mem.unrotM (A:=[.blk l_ m0,.blk o (ob [.func s q r] 110)]) N)⟩)
theorem uG {Φ:Fz} {K:List Res} {w:World} {tc:List Value} {T:Trc} (i0:RTrc Φ tc T) (G:Glob Φ) (N:Mem Φ K w) :
  Calls prog 9 #[.agg tc.toArray] w (fun ee w'=>Out (dem (zL T)) (fun _=>∃q:Fz×Value,ee=.returned (.tuple #[q.2,.int .i64 0])/\(Φ.Le q.1/\SliceOf RRw q.1 4 q.2 (qH T)/\z0c q.2)/\Mem q.1 K w') (fun _=>ee=.returned (.tuple #[.slice none 0 0,.int .i64 120])/\Mem Φ K w')):=by
 have b:=i0
 obtain ⟨p3,c4,p9,v,H,y,I,c22,rfl,x0,h2,h8,S0,U0,X0,Y0,C0,G0,D0,H0,E0,I0⟩:=RTrc.fm i0
 have Gl:=G
 refine sL func9 rfl ntmps9 rfl (fun Q hQ a J=>?_)
 refine Bx fun t w N a J=>?_
 refine cY call25 (fun t0 d1 w n w0 N a J=>?_) (fun t0 w n N a J=>?_) (c:=pZ b Gl N)
 replace N:=N.nf
 refine Qq (fun a J=>?_) (o:=by exact fun J O=>jG false J rfl rfl rfl)
 have f0:=zD n
 have GP:=kP f0
 refine Alc fun u w N a J=>?_
 refine yF call26 (fun e1 w k N a J=>?_) (c:=z2b b N)
 replace b:=RTrc.mono _ _ _ _ k.1 b
 replace Gl:=Gl.mono k.1
 have ROP41:=k.2
 replace N:=N.nf
 refine yF call27 (fun f1 w g N a J=>?_) (c:=q3w N)
 replace b:=RTrc.mono _ _ _ _ g.1 b
 replace Gl:=Gl.mono g.1
 replace ROP41:=ROP41.mono g.1
 have b0:=g.2
 replace N:=N.nf
 refine go fun a J=>?_
 replace N:=N.nilRow 36 4
 replace N:=N.nf
 refine gS (p:=15) RRw (qS T) (.exit 0) (z7y 500) (fun Ψ_ s_ b_ Z=>capG Ψ_ s_ b_ Z) (fun s_ b_ Z=>.gs (Z.1) 36 4 Z.2::.blk u (ob [Z.1] 27)::.blk t (ob [.slice p3 T.cons.length c4,.slice p9 T.inputs.length v,.slice H T.funs.length y,.slice I T.outputs.length c22] 26)::K) ([]:List Rw) ((.slice none 0 0,[]):Value×List Value) J capG.zero N rfl call48 rfl (fun _ _ _ _ _ o0 h_=>capG.mono h_ o0) (fun Ψr_ s_ Z R0 r l_ Z0 a1 N0 a w e M0 z d J N=>?_) (z5n b0 ROP41 GP Gl) (fun hr_ Dk Ψr_ d0 a w e d J N=>?_) (fun hr_ Dk Ψr_ d0 a w e d J N=>?_)
 replace b:=RTrc.mono _ _ _ _ e b
 replace N:=N.nf
 have V:=z
 obtain ⟨b1,rfl,y0,z0,A0,B0,n0⟩:=id z
 obtain ⟨Y,c48,rfl,F0,J0⟩:=n0.fm
 refine xG ?_
 refine vS J rfl rfl rfl (by intro c h;cases h) (qP (cs:=[.int .i64 ((0:Nat):Int),.int .i64 ((0:Nat):Int),.slice none 0 0,.int .i64 ((0:Nat):Int)]) N zeroValue36 rfl fun Q0 w N a J=>?_)
 refine jY J rfl rfl (by intro c h;cases h) (zQ 0 (cs:=[.int .i64 ((0:Nat):Int),.int .i64 ((0:Nat):Int),.slice none 0 0,.int .i64 ((0:Nat):Int)]) (vs:=[.int .i64 (r.rule),.int .i64 (r.fn),.slice Y r.path.length c48,.int .i64 (r.num)]) J N rfl rfl rfl rfl sizeOf36 rfl rfl rfl fun w N a J=>?_)
 replace N:=N.nf
 refine zY ?_
 replace N:=N.pl 1
 refine ⟨_,N,fun w N=>?_⟩
 replace N:=N.nf
 refine gA ?_
 refine sqI fun O0 e0=>?_
 refine sqI fun P0 a0=>?_
 refine xG ?_
 refine zH J (by intro c h;cases h) (yH 3 J N.toSees rfl rfl rfl isAgg27) rfl fun a J=>?_
 refine zH J (by intro c h;cases h) (mR 2 (s_.length) J N.toSees rfl rfl (by rw [d.1.length]) (by decide) runUnderlying27) rfl fun a J=>?_
 by_cases R:s_.length=500
 refine zH J (by intro c h;cases h) (xY true J rfl rfl (decide_eq_true (congrArg Int.ofNat R))) rfl fun a J=>?_
 refine zY ?_
 apply a0
 refine pT J rfl ?_
 refine z8j ?_
 replace N:=N.dl [1]
 rw [j6w R]
 exact ⟨rfl,Ψr_,Z,(Fz.Le.refl _),d,N⟩
 refine zH J (by intro c h;cases h) (xY false J rfl rfl (decide_eq_false (fun hh=>R (Int.ofNat.inj hh)))) rfl fun a J=>?_
 refine zY ?_
 apply a0
 refine wE J rfl ?_
 refine wS ?_
 apply e0
 refine xG ?_
 refine zH J (by intro c h;cases h) (yH 3 J N.toSees rfl rfl rfl isAgg27) rfl fun a J=>
   zH J (by intro c h;cases h) (qA 1 (vs:=[.int .i64 (r.rule),.int .i64 (r.fn),.slice Y r.path.length c48,.int .i64 (r.num)]) J N.toSees rfl rfl isAgg36 sizeOf36 rfl rfl) rfl fun a J=>?_
 refine vS J rfl rfl rfl (by intro c h;cases h) (yY (sz:=4) (cs:=[.int .i64 (r.rule),.int .i64 (r.fn),.slice Y r.path.length c48,.int .i64 (r.num)]) J N rfl (pG runUnderlying27 sizeOf36 zeroValue36 rfl (by decide) rfl) rfl (by decide) fun c1 w N _ a J=>?_)
 refine vS J rfl rfl rfl (by intro c h;cases h) (wM 3 (xs:=Z.2) (news:=[.int .i64 (r.rule),.int .i64 (r.fn),.slice Y r.path.length c48,.int .i64 (r.num)]) rt_27 J N rfl rfl rfl (N.toSees.rowIn (i:=0) rfl) rfl (by rw [d.1.length];have:=d.2;simp only [lcQ,lnQ];omega) fun k0 w N a J=>?_)
 replace N:=N.nf
 refine jY J rfl rfl (by intro c h;cases h) (zQ 4 (cs:=[Z.1]) (vs:=[k0]) J N rfl rfl rfl (N.toSees.gsCells (i:=3) rfl) sizeOf27 rfl (N.toSees.gsOne (i:=3) rfl) rfl fun w N a J=>?_)
 replace N:=N.nf
 refine zY ?_
 replace N:=N.dl [2,0]
 rw [j6x R]
 exact ⟨rfl,Ψr_,((k0,_):Value×List Value),(Fz.Le.refl _),⟨d.1.append (yQ rfl V),by have:=d.2;rw [laQ,List.length_singleton];omega⟩,N⟩
 obtain ⟨j,L⟩:=d0
 try dsimp only [Jmp.ex]
 replace b:=RTrc.mono _ _ _ _ e b
 replace N:Mem Ψr_ (.gs (j) 36 4 L::.blk u (ob [j] 27)::.blk t (ob [.slice p3 T.cons.length c4,.slice p9 T.inputs.length v,.slice H T.funs.length y,.slice I T.outputs.length c22] 26)::yA (Dk::[])++K) w:=Mem.mid (A:=[.blk Dk (.deferred (some []))]) (B:=[.gs (j) 36 4 L,.blk u (ob [j] 27),.blk t (ob [.slice p3 T.cons.length c4,.slice p9 T.inputs.length v,.slice H T.funs.length y,.slice I T.outputs.length c22] 26)]) (C:=yA []++K) N
 replace N:=N.nm
 replace N:=N.nf
 refine go fun a J=>?_
 have f:=d.1
 rw [oZ] at f
 have l:=N
 clear N
 obtain ⟨M,s,N,W,S⟩:=l.freezeRowC (i:=0) rfl
 clear l
 replace b:=RTrc.mono _ _ _ _ s b
 replace d:=d.mono s
 replace f:=f.mono fun _ _ h=>RRw.mono _ _ _ _ s h
 replace N:=N.nf
 have D:SliceOf RRw M 4 _ ((qH T)):=⟨_,W,f⟩
 obtain ⟨r0,l0,c0,p0,K0⟩:=D.form (by decide)
 have m:=N
 clear N
 subst c0
 have N:=m
 clear m
 refine go fun a J=>?_
 replace N:=N.dl [1,0]
 replace N:Mem M (yA (Dk::[])++(K)) w:=Mem.mid (A:=[]) (B:=yA (Dk::[])) (C:=K) N
 refine hQ _ _ _ (retX2 (ds:=(Dk::[])) J results9 rfl rfl N fun w N=>?_)
 rw [n];exact ⟨(M,.slice r0 ((qH T)).length l0),rfl,⟨(((k.1).trans g.1).trans e).trans s,D,S⟩,N⟩
 obtain ⟨j,L⟩:=d0
 try dsimp only [Jmp.ex]
 replace b:=RTrc.mono _ _ _ _ e b
 replace N:Mem Ψr_ (.gs (j) 36 4 L::.blk u (ob [j] 27)::.blk t (ob [.slice p3 T.cons.length c4,.slice p9 T.inputs.length v,.slice H T.funs.length y,.slice I T.outputs.length c22] 26)::yA (Dk::[])++K) w:=Mem.mid (A:=[.blk Dk (.deferred (some []))]) (B:=[.gs (j) 36 4 L,.blk u (ob [j] 27),.blk t (ob [.slice p3 T.cons.length c4,.slice p9 T.inputs.length v,.slice H T.funs.length y,.slice I T.outputs.length c22] 26)]) (C:=yA []++K) N
 replace N:=N.nm
 replace N:=N.nf
 refine go fun a J=>?_
 have f:=d.1
 rw [oZ] at f
 have l:=N
 clear N
 obtain ⟨P,F,N,X,U⟩:=l.freezeRowC (i:=0) rfl
 clear l
 replace b:=RTrc.mono _ _ _ _ F b
 replace f:=f.mono fun _ _ h=>RRw.mono _ _ _ _ F h
 replace N:=N.nf
 have E:SliceOf RRw P 4 _ ((qH T)):=⟨_,X,f⟩
 obtain ⟨s0,m0,c0,q0,L0⟩:=E.form (by decide)
 have m:=N
 clear N
 subst c0
 have N:=m
 clear m
 refine go fun a J=>?_
 replace N:=N.dl [1,0]
 replace N:Mem P (yA (Dk::[])++(K)) w:=Mem.mid (A:=[]) (B:=yA (Dk::[])) (C:=K) N
 refine hQ _ _ _ (retX2 (ds:=(Dk::[])) J results9 rfl rfl N fun w N=>?_)
 rw [n];exact ⟨(P,.slice s0 ((qH T)).length m0),rfl,⟨(((k.1).trans g.1).trans e).trans F,E,U⟩,N⟩
 replace N:=N.nf
 refine Qq (fun a J=>?_) (o:=by exact fun J O=>jG true J rfl rfl rfl)
 refine go fun a J=>?_
 replace N:=N.dl [0]
 replace N:Mem Φ (yA []++(K)) w:=Mem.mid (A:=[]) (B:=yA []) (C:=K) N
 refine hQ _ _ _ (retX2 (ds:=[]) J results9 rfl rfl N fun w N=>?_)
 rw [n];exact ⟨rfl,N⟩
theorem z7f {Φ:Fz} {K:List Res} {w:World} {p:Addr} {d:List Value} {e:TE} {vp:Value} {path:List Int} (ha:At Φ p d) (re:RTE Φ d e) (hf:zC e<=20000) (hp:SliceOf RInt Φ 1 vp path) (N:Mem Φ K w) :
  Calls prog 40 #[.agg #[.slice none 0 0,.slice none 0 0,.pointer (some p)],vp] w (fun ee w'=>Out (xL (yJ [] e path)) (fun z=>∃q:Fz×List Value,ee=.returned (.tuple #[.agg q.2.toArray,.bool true])/\(Φ.Le q.1/\RFnd q.1 q.2 ⟨path,z.1,z.2⟩)/\Mem q.1 K w') (fun _=>∃y:AlgN,ee=.returned (.tuple #[.agg #[y.1.1,y.1.2.1,.pointer (some y.1.2.2)],.bool false])/\Mem Φ K w')):=by
 obtain ⟨p1,c2,rfl,l4,h3⟩:=hp.fm
 replace N:=N.nilRow 3 1
 replace N:=N.nilRow 88 1
 refine zJ func40 ntmps40 fun Q hQ a J=>?_
 refine Bx fun b6 w N a J=>?_
 refine Alc fun b7 w N a J=>?_
 refine go fun a J=>?_
 refine qD (J.ks [2,4,9,10]) N (fun R mm a w=>∃(i:Nat) (v:List TE) (c:TE) (g:Addr) (F1:List Value) (av:Value) (bv:Value) (B:List Value),mm=path.length - i/\R Φ [(11,.int .i64 i)] [(1,.blk b6 (ob [av,bv,.pointer (some g)] 90)),(2,.gs (bv) 88 1 B),(3,.gs (av) 3 1 (aF (path.take i)))] a w/\(yJ [] e path=yJ v c (path.drop i)/\v.length=i/\v.length+zC c<=20000/\At Φ g F1/\RTE Φ F1 c/\Chunks (RPtE Φ) 1 B v)) (path.length - 0) ⟨0,[],e,p,d,.slice none 0 0,.slice none 0 0,[],rfl,⟨J.pk,N⟩,⟨rfl,rfl,by rw [lnQ];omega,ha,re,rfl⟩⟩ ?_
 clear N J
 rintro mm a w ⟨i,v,c,g,F1,av,bv,B,M1,⟨J,N⟩,w1⟩ O5 Y
 replace N:=N.nf
 by_cases G1:i < path.length
 refine go fun a J=>?_
 obtain ⟨j,G,F,n,u,b⟩:=w1
 have T:=u
 obtain ⟨Y5,c20,Z5,c26,a6,Q5,rfl,X3,Y3,S5,J2,l2,e4,m4,f4,s2,g4,z1⟩:=RTE.fm u
 obtain ⟨l3,rfl,m,r,j2,b4,W3,t2⟩:=hp.el h3 G1
 obtain rfl:j2=[.int .i64 m]:=t2
 refine goJ 6 fun a J=>?_
 refine sq fun E2 o2=>?_
 have c0:=N.toSees.gsOne (i:=3) rfl
 have d0:=N.toSees.gsOne (i:=2) rfl
 have f:∀a w,(∃(l:Value) (k:Value) (W:Nat),EnvR 78 [(2,.pointer (some ⟨b6,0,none⟩)),(4,.pointer (some ⟨b7,0,none⟩)),(7,.int .i64 (m)),(8,.pointer (some ⟨W,0,none⟩)),(9,.slice (some l3) path.length c2),(10,.int .i64 path.length),(11,.int .i64 i)] [] a/\Mem Φ (.blk W (ob [l,k,.pointer none] 90)::.blk b7 (ob [.slice none 0 0,.slice none 0 0,.pointer none] 90)::.blk b6 (ob [av,bv,.pointer (some g)] 90)::.gs (k) 88 1 (B++[.pointer (some g)])::.gs (l) 3 1 (aF (path.take i)++[.int .i64 m])::K) w/\(True))->E2 a w:=by
  clear N J
  rintro a w ⟨l,k,W,J,N,V3⟩
  apply o2
  by_cases H1:m < 0
  refine aN 1 fun w N a J=>?_
  refine go fun a J=>?_
  have S:=N
  replace N:=N.dl [4,3,2,1,0]
  refine hQ _ _ _ (qO (i:=1) (cs:=[av,bv,.pointer (some g)]) J S.toSees results40 rfl rfl isAgg90 sizeOf90 rfl rfl ?_)
  rw [show yJ [] e path=none from j1o j r H1]
  rotate_left
  by_cases I1:c.kind=7
  by_cases m2:m < ((c.arms.length:Nat):Int)
  refine go fun a J=>?_
  obtain ⟨q1,x1⟩:∃j_:Nat,m=(j_:Int):=⟨m.toNat,by omega⟩
  rw [x1] at J
  refine go fun a J=>?_
  have q2:q1 < c.arms.length:=by omega
  obtain ⟨O1,rfl,I,A1,O3,d4,p2,u2⟩:=J2.el s2 q2
  obtain ⟨c6,R5,P5,rfl,T5,n2,h4,n4⟩:=RTA.fm u2
  obtain ⟨i3,c75,j3,F2,k3,G2,rfl,Z3,a4,U5,V5,W5,i4,o4,j4,p4,k4,q4⟩:=RTE.fm n2
  refine Sto 0 fun w N a J=>?_
  refine aN 2 fun w N a J=>?_
  refine go fun a J=>?_
  replace N:Mem Φ (.blk W (ob [l,k,.pointer (some ((O1.add (q1 * 10)).add 2))] 90)::.blk b7 (ob [.slice none 0 0,.slice none 0 0,.pointer none] 90)::.blk b6 (ob [l,k,.pointer (some ((O1.add (q1 * 10)).add 2))] 90)::.gs (k) 88 1 (B++[.pointer (some g)])::.gs (l) 3 1 (aF (path.take (i+1)))::K) w:=by rw [jA r,tT];exact N
  replace N:=N.dl [0]
  refine Y _ _ _ (by subst M1;omega) ⟨(i+1),(v++[c]),(I.body),(((O1.add (q1 * 10)).add 2)),([.int .i64 (I.body.kind),.string I.body.name,.string I.body.op,.int .i64 (I.body.num),.int .i64 (I.body.site),.slice i3 I.body.args.length c75,.slice j3 I.body.arms.length F2,.slice k3 I.body.body.length G2]),(l),(k),((B++[.pointer (some g)])),rfl,⟨J.pk,by exact N⟩,?_⟩
  exact ⟨j1m j r x1 I1 A1,by rw [laQ,G];rfl,j7k F A1,(At.part2 p2),n2,b.append (yQ rfl ⟨_,_,rfl,n,T⟩)⟩
  refine go fun a J=>?_
  by_cases K2:m < ((c.body.length:Nat):Int)
  refine go fun a J=>?_
  obtain ⟨r1,y1⟩:∃j_:Nat,m=(j_:Int):=⟨m.toNat,by omega⟩
  rw [y1] at J
  refine go fun a J=>?_
  have r2:r1 < c.body.length:=by omega
  obtain ⟨P1,rfl,L,B1,H2,P2,J1,e0⟩:=l2.el z1 r2
  obtain ⟨w2,b2,x2,d2,y2,f2,rfl,L2,M2,P3,Q3,R3,R2,X2,S2,Y2,T2,Z2⟩:=RTE.fm e0
  refine Sto 0 fun w N a J=>?_
  refine aN 2 fun w N a J=>?_
  refine go fun a J=>?_
  replace N:Mem Φ (.blk W (ob [l,k,.pointer (some (P1.add (r1 * 8)))] 90)::.blk b7 (ob [.slice none 0 0,.slice none 0 0,.pointer none] 90)::.blk b6 (ob [l,k,.pointer (some (P1.add (r1 * 8)))] 90)::.gs (k) 88 1 (B++[.pointer (some g)])::.gs (l) 3 1 (aF (path.take (i+1)))::K) w:=by rw [jA r,tT];exact N
  replace N:=N.dl [0]
  refine Y _ _ _ (by subst M1;omega) ⟨(i+1),(v++[c]),(L),((P1.add (r1 * 8))),([.int .i64 (L.kind),.string L.name,.string L.op,.int .i64 (L.num),.int .i64 (L.site),.slice w2 L.args.length b2,.slice x2 L.arms.length d2,.slice y2 L.body.length f2]),(l),(k),((B++[.pointer (some g)])),rfl,⟨J.pk,by exact N⟩,?_⟩
  exact ⟨z7e j r y1 (fun h_=>m2 h_.2) B1,by rw [laQ,G];rfl,y3b F B1,J1,e0,b.append (yQ rfl ⟨_,_,rfl,n,T⟩)⟩
  refine aN 1 fun w N a J=>?_
  refine go fun a J=>?_
  have S:=N
  replace N:=N.dl [4,3,2,1,0]
  refine hQ _ _ _ (qO (i:=1) (cs:=[av,bv,.pointer (some g)]) J S.toSees results40 rfl rfl isAgg90 sizeOf90 rfl rfl ?_)
  rw [show yJ [] e path=none from y2k j r H1 (fun h_=>m2 h_.2) K2]
  rotate_left
  by_cases k2:m < ((c.body.length:Nat):Int)
  refine go fun a J=>?_
  obtain ⟨V,b0⟩:∃j_:Nat,m=(j_:Int):=⟨m.toNat,by omega⟩
  rw [b0] at J
  refine go fun a J=>?_
  have L1:V < c.body.length:=by omega
  obtain ⟨j0,rfl,t,i0,I2,Q2,K1,f0⟩:=l2.el z1 L1
  obtain ⟨z2,g2,A2,h2,B2,i2,rfl,N2,O2,S3,T3,U3,U2,a3,V2,b3,W2,d3⟩:=RTE.fm f0
  refine Sto 0 fun w N a J=>?_
  refine aN 2 fun w N a J=>?_
  refine go fun a J=>?_
  replace N:Mem Φ (.blk W (ob [l,k,.pointer (some (j0.add (V * 8)))] 90)::.blk b7 (ob [.slice none 0 0,.slice none 0 0,.pointer none] 90)::.blk b6 (ob [l,k,.pointer (some (j0.add (V * 8)))] 90)::.gs (k) 88 1 (B++[.pointer (some g)])::.gs (l) 3 1 (aF (path.take (i+1)))::K) w:=by rw [jA r,tT];exact N
  replace N:=N.dl [0]
  refine Y _ _ _ (by subst M1;omega) ⟨(i+1),(v++[c]),(t),((j0.add (V * 8))),([.int .i64 (t.kind),.string t.name,.string t.op,.int .i64 (t.num),.int .i64 (t.site),.slice z2 t.args.length g2,.slice A2 t.arms.length h2,.slice B2 t.body.length i2]),(l),(k),((B++[.pointer (some g)])),rfl,⟨J.pk,by exact N⟩,?_⟩
  exact ⟨z7e j r b0 (fun h_=>I1 h_.1) i0,by rw [laQ,G];rfl,y3b F i0,K1,f0,b.append (yQ rfl ⟨_,_,rfl,n,T⟩)⟩
  refine aN 1 fun w N a J=>?_
  refine go fun a J=>?_
  have S:=N
  replace N:=N.dl [4,3,2,1,0]
  refine hQ _ _ _ (qO (i:=1) (cs:=[av,bv,.pointer (some g)]) J S.toSees results40 rfl rfl isAgg90 sizeOf90 rfl rfl ?_)
  rw [show yJ [] e path=none from y2k j r H1 (fun h_=>I1 h_.1) k2]
  rotate_left
  all_goals (exact ⟨⟨(av,bv,g),c0,d0⟩,rfl,N⟩)
 refine y8s [1,2,1,0,0,1,2,1,2,0,0,1,0,0] (.q 0 (.q 1 (.q 2 (.q 5 (.q 6 (.q 7 (.q 8 (.e3 3 9 12 (.e3 4 9 12 (.pl (.e2 9 12 (.e2 10 12 (.q 11 (.e 12 (.e 13 (.done)))) (.e 10 (.q 11 (.e 13 (.done))))) (.e 9 (.e 10 (.q 11 (.e 13 (.done))))))) (.pl (.e2 4 12 (.e2 10 12 (.q 11 (.e 12 (.e 13 (.done)))) (.e 10 (.q 11 (.e 13 (.done))))) (.e 4 (.e 10 (.q 11 (.e 13 (.done))))))) (.pl (.e2 4 9 (.e 9 (.e 10 (.q 11 (.e 13 (.done))))) (.e 4 (.e 10 (.q 11 (.e 13 (.done)))))))) (.pl (.e2 3 12 (.e2 4 12 (.e2 10 12 (.q 11 (.e 12 (.e 13 (.done)))) (.e 10 (.q 11 (.e 13 (.done))))) (.e 4 (.e 10 (.q 11 (.e 13 (.done)))))) (.e 3 (.e 4 (.e 10 (.q 11 (.e 13 (.done)))))))) (.pl (.e2 3 9 (.e2 4 9 (.e 9 (.e 10 (.q 11 (.e 13 (.done))))) (.e 4 (.e 10 (.q 11 (.e 13 (.done)))))) (.e 3 (.e 4 (.e 10 (.q 11 (.e 13 (.done)))))))))))))))) [.blk b7 (ob [.slice none 0 0,.slice none 0 0,.pointer none] 90),.blk b6 (ob [av,bv,.pointer (some g)] 90)] J N mixed (by kernel_rfl) (by simp) fun w N=>?_
 refine t_q (z6n J rfl rfl (fun w=>qK J rfl q9m rfl) rfl fun a J=>?_)
 refine t_q (q5t J rfl rfl (fun w O=>yH 1 J O rfl rfl rfl isAgg34) rfl fun a J=>?_)
 refine t_q (z6n J rfl rfl (fun w=>yX J rfl) rfl fun a J=>?_)
 refine t_q (z6n J rfl rfl (fun w=>qK J rfl q9n rfl) rfl fun a J=>?_)
 refine t_q (q5t J rfl rfl (fun w O=>yH 1 J O rfl rfl rfl isAgg87) rfl fun a J=>?_)
 refine t_q (z6n J rfl rfl (fun w=>qK J rfl z6r rfl) rfl fun a J=>?_)
 refine t_q (q5t J rfl rfl (fun w O=>yH 1 J O rfl rfl rfl isAgg88) rfl fun a J=>?_)
 refine t_e3 ?_ ?_ ?_
 refine z0g J rfl rfl rfl (yY (sz:=1) (cs:=[.int .i64 (m)]) J N rfl (pG runUnderlying34 sizeOf3 zeroValue3 rfl (by decide) rfl) rfl (by decide) fun A5 w N _=>⟨fun _=>N.sn (Fz.Le.refl _),fun a J=>?_⟩)
 refine t_e3 ?_ ?_ ?_
 refine z0g J rfl rfl rfl (wM 4 (xs:=(aF (path.take i))) (news:=[.int .i64 (m)]) cP J N rfl rfl rfl (N.toSees.rowIn (i:=0) rfl) rfl (by rw [jR];simp only [List.length_take,lcQ,lnQ];omega) fun s w N=>⟨fun _=>N.sn (Fz.Le.refl _),fun a J=>?_⟩)
 replace N:=N.nf
 refine t_pl ?_
 refine kY ?_ ?_
 refine qG fun B5 w N a J=>?_
 refine kY ?_ ?_
 refine vL 4 aM (fun k0 w N a J=>?_) (hb:=by have h_:=b.length;simp only [lcQ,lnQ];omega)
 obtain ⟨W4,s4,m3,J0,_⟩:=N.toSees.gsForm (i:=5) rfl
 obtain ⟨X4,t4,n3,K0,_⟩:=N.toSees.gsForm (i:=4) rfl
 refine Qq (fun a J=>?_) (o:=by exact fun J O=>jP (vs:=[(0,s),(1,k0)]) (cs:=[s,k0,.pointer none]) J rfl (by rw [J0,K0];kernel_rfl))
 refine Alc fun R1 w N a J=>?_
 refine aN 0 fun w N a J=>?_
 refine go fun a J=>?_
 replace N:=N.dl [2,1]
 exact f _ _ ⟨s,k0,R1,J.pk,N,trivial⟩
 refine Alc fun S1 w N a J=>?_
 refine vL 5 aM (fun l0 w N a J=>?_) (hb:=by have h_:=b.length;simp only [lcQ,lnQ];omega)
 obtain ⟨Y4,u4,o3,L0,_⟩:=N.toSees.gsForm (i:=6) rfl
 obtain ⟨Z4,v4,p3,M0,_⟩:=N.toSees.gsForm (i:=5) rfl
 refine Qq (fun a J=>?_) (o:=by exact fun J O=>jP (vs:=[(0,s),(1,l0)]) (cs:=[s,l0,.pointer none]) J rfl (by rw [L0,M0];kernel_rfl))
 refine aN 0 fun w N a J=>?_
 refine go fun a J=>?_
 replace N:=N.dl [2,1]
 exact f _ _ ⟨s,l0,S1,J.pk,N,trivial⟩
 refine Alc fun T1 w N a J=>?_
 refine qG fun C5 w N a J=>?_
 refine vL 5 aM (fun m0 w N a J=>?_) (hb:=by have h_:=b.length;simp only [lcQ,lnQ];omega)
 obtain ⟨a5,w4,q3,N0,_⟩:=N.toSees.gsForm (i:=6) rfl
 obtain ⟨b5,x4,r3,O0,_⟩:=N.toSees.gsForm (i:=5) rfl
 refine Qq (fun a J=>?_) (o:=by exact fun J O=>jP (vs:=[(0,s),(1,m0)]) (cs:=[s,m0,.pointer none]) J rfl (by rw [N0,O0];kernel_rfl))
 refine aN 1 fun w N a J=>?_
 refine go fun a J=>?_
 replace N:=N.dl [2,0]
 exact f _ _ ⟨s,m0,T1,J.pk,N,trivial⟩
 refine z0g J rfl rfl rfl (yY (sz:=1) (cs:=[.pointer (some g)]) J N rfl (pG runUnderlying87 sizeOf88 zeroValue88 rfl (by decide) rfl) rfl (by decide) fun D5 w N _=>⟨fun _=>N.sn (Fz.Le.refl _),fun a J=>?_⟩)
 refine t_pl ?_
 refine kY ?_ ?_
 refine vL 5 cP (fun D w N a J=>?_) (hb:=by rw [jR];simp only [List.length_take,lcQ,lnQ];omega)
 refine kY ?_ ?_
 refine vL 4 aM (fun n0 w N a J=>?_) (hb:=by have h_:=b.length;simp only [lcQ,lnQ];omega)
 obtain ⟨c5,y4,s3,P0,_⟩:=N.toSees.gsForm (i:=5) rfl
 obtain ⟨d5,z4,t3,Q0,_⟩:=N.toSees.gsForm (i:=4) rfl
 refine Qq (fun a J=>?_) (o:=by exact fun J O=>jP (vs:=[(0,D),(1,n0)]) (cs:=[D,n0,.pointer none]) J rfl (by rw [P0,Q0];kernel_rfl))
 refine Alc fun U1 w N a J=>?_
 refine aN 0 fun w N a J=>?_
 refine go fun a J=>?_
 replace N:=N.dl [2,1]
 exact f _ _ ⟨D,n0,U1,J.pk,N,trivial⟩
 refine Alc fun V1 w N a J=>?_
 refine vL 5 aM (fun o0 w N a J=>?_) (hb:=by have h_:=b.length;simp only [lcQ,lnQ];omega)
 obtain ⟨e5,A4,u3,R0,_⟩:=N.toSees.gsForm (i:=6) rfl
 obtain ⟨f5,B4,c213,S0,_⟩:=N.toSees.gsForm (i:=5) rfl
 refine Qq (fun a J=>?_) (o:=by exact fun J O=>jP (vs:=[(0,D),(1,o0)]) (cs:=[D,o0,.pointer none]) J rfl (by rw [R0,S0];kernel_rfl))
 refine aN 0 fun w N a J=>?_
 refine go fun a J=>?_
 replace N:=N.dl [2,1]
 exact f _ _ ⟨D,o0,V1,J.pk,N,trivial⟩
 refine Alc fun W1 w N a J=>?_
 refine vL 6 cP (fun p0 w N a J=>?_) (hb:=by rw [jR];simp only [List.length_take,lcQ,lnQ];omega)
 refine vL 5 aM (fun q0 w N a J=>?_) (hb:=by have h_:=b.length;simp only [lcQ,lnQ];omega)
 obtain ⟨g5,C4,v3,U0,_⟩:=N.toSees.gsForm (i:=6) rfl
 obtain ⟨h5,D4,w3,V0,_⟩:=N.toSees.gsForm (i:=5) rfl
 refine Qq (fun a J=>?_) (o:=by exact fun J O=>jP (vs:=[(0,p0),(1,q0)]) (cs:=[p0,q0,.pointer none]) J rfl (by rw [U0,V0];kernel_rfl))
 refine aN 0 fun w N a J=>?_
 refine go fun a J=>?_
 replace N:=N.dl [2,1]
 exact f _ _ ⟨p0,q0,W1,J.pk,N,trivial⟩
 refine z0g J rfl rfl rfl (qP (cs:=[.slice none 0 0,.slice none 0 0,.pointer none]) N zeroValue90 rfl fun s1 w N=>⟨fun _=>N.sn (Fz.Le.refl _),fun a J=>?_⟩)
 refine t_pl ?_
 refine kY ?_ ?_
 refine vL 5 cP (fun r0 w N a J=>?_) (hb:=by rw [jR];simp only [List.length_take,lcQ,lnQ];omega)
 refine qG fun E5 w N a J=>?_
 refine vL 5 aM (fun s0 w N a J=>?_) (hb:=by have h_:=b.length;simp only [lcQ,lnQ];omega)
 obtain ⟨i5,E4,c232,X0,_⟩:=N.toSees.gsForm (i:=6) rfl
 obtain ⟨j5,F4,x3,Y0,_⟩:=N.toSees.gsForm (i:=5) rfl
 refine Qq (fun a J=>?_) (o:=by exact fun J O=>jP (vs:=[(0,r0),(1,s0)]) (cs:=[r0,s0,.pointer none]) J rfl (by rw [X0,Y0];kernel_rfl))
 refine aN 1 fun w N a J=>?_
 refine go fun a J=>?_
 replace N:=N.dl [2,0]
 exact f _ _ ⟨r0,s0,s1,J.pk,N,trivial⟩
 refine qG fun F5 w N a J=>?_
 refine vL 6 cP (fun t0 w N a J=>?_) (hb:=by rw [jR];simp only [List.length_take,lcQ,lnQ];omega)
 refine vL 5 aM (fun u0 w N a J=>?_) (hb:=by have h_:=b.length;simp only [lcQ,lnQ];omega)
 obtain ⟨k5,G4,y3,Z0,_⟩:=N.toSees.gsForm (i:=6) rfl
 obtain ⟨l5,H4,z3,a1,_⟩:=N.toSees.gsForm (i:=5) rfl
 refine Qq (fun a J=>?_) (o:=by exact fun J O=>jP (vs:=[(0,t0),(1,u0)]) (cs:=[t0,u0,.pointer none]) J rfl (by rw [Z0,a1];kernel_rfl))
 refine aN 1 fun w N a J=>?_
 refine go fun a J=>?_
 replace N:=N.dl [2,0]
 exact f _ _ ⟨t0,u0,s1,J.pk,N,trivial⟩
 refine z0g J rfl rfl rfl (yY (sz:=1) (cs:=[.pointer (some g)]) J N rfl (pG runUnderlying87 sizeOf88 zeroValue88 rfl (by decide) rfl) rfl (by decide) fun G5 w N _=>⟨fun _=>N.sn (Fz.Le.refl _),fun a J=>?_⟩)
 refine t_pl ?_
 refine kY ?_ ?_
 refine qG fun H5 w N a J=>?_
 refine kY ?_ ?_
 refine vL 5 cP (fun E w N a J=>?_) (hb:=by rw [jR];simp only [List.length_take,lcQ,lnQ];omega)
 refine kY ?_ ?_
 refine vL 4 aM (fun w0 w N a J=>?_) (hb:=by have h_:=b.length;simp only [lcQ,lnQ];omega)
 obtain ⟨m5,I4,A3,b1,_⟩:=N.toSees.gsForm (i:=5) rfl
 obtain ⟨n5,J4,B3,c1,_⟩:=N.toSees.gsForm (i:=4) rfl
 refine Qq (fun a J=>?_) (o:=by exact fun J O=>jP (vs:=[(0,E),(1,w0)]) (cs:=[E,w0,.pointer none]) J rfl (by rw [b1,c1];kernel_rfl))
 refine Alc fun X1 w N a J=>?_
 refine aN 0 fun w N a J=>?_
 refine go fun a J=>?_
 replace N:=N.dl [2,1]
 exact f _ _ ⟨E,w0,X1,J.pk,N,trivial⟩
 refine Alc fun Y1 w N a J=>?_
 refine vL 5 aM (fun x0 w N a J=>?_) (hb:=by have h_:=b.length;simp only [lcQ,lnQ];omega)
 obtain ⟨o5,K4,C3,d1,_⟩:=N.toSees.gsForm (i:=6) rfl
 obtain ⟨p5,L4,D3,e1,_⟩:=N.toSees.gsForm (i:=5) rfl
 refine Qq (fun a J=>?_) (o:=by exact fun J O=>jP (vs:=[(0,E),(1,x0)]) (cs:=[E,x0,.pointer none]) J rfl (by rw [d1,e1];kernel_rfl))
 refine aN 0 fun w N a J=>?_
 refine go fun a J=>?_
 replace N:=N.dl [2,1]
 exact f _ _ ⟨E,x0,Y1,J.pk,N,trivial⟩
 refine Alc fun Z1 w N a J=>?_
 refine vL 6 cP (fun y0 w N a J=>?_) (hb:=by rw [jR];simp only [List.length_take,lcQ,lnQ];omega)
 refine vL 5 aM (fun z0 w N a J=>?_) (hb:=by have h_:=b.length;simp only [lcQ,lnQ];omega)
 obtain ⟨q5,M4,E3,f1,_⟩:=N.toSees.gsForm (i:=6) rfl
 obtain ⟨r5,N4,F3,g1,_⟩:=N.toSees.gsForm (i:=5) rfl
 refine Qq (fun a J=>?_) (o:=by exact fun J O=>jP (vs:=[(0,y0),(1,z0)]) (cs:=[y0,z0,.pointer none]) J rfl (by rw [f1,g1];kernel_rfl))
 refine aN 0 fun w N a J=>?_
 refine go fun a J=>?_
 replace N:=N.dl [2,1]
 exact f _ _ ⟨y0,z0,Z1,J.pk,N,trivial⟩
 refine Alc fun a2 w N a J=>?_
 refine qG fun I5 w N a J=>?_
 refine vL 6 cP (fun A0 w N a J=>?_) (hb:=by rw [jR];simp only [List.length_take,lcQ,lnQ];omega)
 refine vL 5 aM (fun B0 w N a J=>?_) (hb:=by have h_:=b.length;simp only [lcQ,lnQ];omega)
 obtain ⟨s5,O4,G3,h1,_⟩:=N.toSees.gsForm (i:=6) rfl
 obtain ⟨t5,P4,H3,i1,_⟩:=N.toSees.gsForm (i:=5) rfl
 refine Qq (fun a J=>?_) (o:=by exact fun J O=>jP (vs:=[(0,A0),(1,B0)]) (cs:=[A0,B0,.pointer none]) J rfl (by rw [h1,i1];kernel_rfl))
 refine aN 1 fun w N a J=>?_
 refine go fun a J=>?_
 replace N:=N.dl [2,0]
 exact f _ _ ⟨A0,B0,a2,J.pk,N,trivial⟩
 refine z0g J rfl rfl rfl (qP (cs:=[.slice none 0 0,.slice none 0 0,.pointer none]) N zeroValue90 rfl fun X w N=>⟨fun _=>N.sn (Fz.Le.refl _),fun a J=>?_⟩)
 refine t_pl ?_
 refine kY ?_ ?_
 refine qG fun J5 w N a J=>?_
 refine kY ?_ ?_
 refine vL 5 cP (fun C0 w N a J=>?_) (hb:=by rw [jR];simp only [List.length_take,lcQ,lnQ];omega)
 refine qG fun K5 w N a J=>?_
 refine vL 5 aM (fun D0 w N a J=>?_) (hb:=by have h_:=b.length;simp only [lcQ,lnQ];omega)
 obtain ⟨u5,Q4,I3,j1,_⟩:=N.toSees.gsForm (i:=6) rfl
 obtain ⟨v5,R4,J3,k1,_⟩:=N.toSees.gsForm (i:=5) rfl
 refine Qq (fun a J=>?_) (o:=by exact fun J O=>jP (vs:=[(0,C0),(1,D0)]) (cs:=[C0,D0,.pointer none]) J rfl (by rw [j1,k1];kernel_rfl))
 refine aN 2 fun w N a J=>?_
 refine go fun a J=>?_
 replace N:=N.dl [1,0]
 exact f _ _ ⟨C0,D0,X,J.pk,N,trivial⟩
 refine qG fun L5 w N a J=>?_
 refine vL 6 cP (fun E0 w N a J=>?_) (hb:=by rw [jR];simp only [List.length_take,lcQ,lnQ];omega)
 refine vL 5 aM (fun F0 w N a J=>?_) (hb:=by have h_:=b.length;simp only [lcQ,lnQ];omega)
 obtain ⟨w5,S4,K3,l1,_⟩:=N.toSees.gsForm (i:=6) rfl
 obtain ⟨x5,T4,L3,m1,_⟩:=N.toSees.gsForm (i:=5) rfl
 refine Qq (fun a J=>?_) (o:=by exact fun J O=>jP (vs:=[(0,E0),(1,F0)]) (cs:=[E0,F0,.pointer none]) J rfl (by rw [l1,m1];kernel_rfl))
 refine aN 2 fun w N a J=>?_
 refine go fun a J=>?_
 replace N:=N.dl [1,0]
 exact f _ _ ⟨E0,F0,X,J.pk,N,trivial⟩
 refine qG fun M5 w N a J=>?_
 refine qG fun N5 w N a J=>?_
 refine vL 6 cP (fun G0 w N a J=>?_) (hb:=by rw [jR];simp only [List.length_take,lcQ,lnQ];omega)
 refine vL 5 aM (fun H0 w N a J=>?_) (hb:=by have h_:=b.length;simp only [lcQ,lnQ];omega)
 obtain ⟨y5,U4,M3,n1,_⟩:=N.toSees.gsForm (i:=6) rfl
 obtain ⟨z5,V4,N3,o1,_⟩:=N.toSees.gsForm (i:=5) rfl
 refine Qq (fun a J=>?_) (o:=by exact fun J O=>jP (vs:=[(0,G0),(1,H0)]) (cs:=[G0,H0,.pointer none]) J rfl (by rw [n1,o1];kernel_rfl))
 refine aN 2 fun w N a J=>?_
 refine go fun a J=>?_
 replace N:=N.dl [1,0]
 exact f _ _ ⟨G0,H0,X,J.pk,N,trivial⟩
 refine go fun a J=>?_
 obtain ⟨j,G,F,n,u,b⟩:=w1
 replace N:Mem Φ (.blk b7 (ob [.slice none 0 0,.slice none 0 0,.pointer none] 90)::.blk b6 (ob [av,bv,.pointer (some g)] 90)::.gs (bv) 88 1 B::.gs (av) 3 1 (aF path)::K) w:=by rw [List.take_of_length_le (Nat.le_of_not_lt G1)] at N;exact N
 have M:=N
 clear N
 obtain ⟨Q1,H,N,g0,Z⟩:=M.freezeRowC (i:=3) rfl
 clear M
 replace n:=n.mono H
 replace u:=RTE.mono _ _ _ _ H u
 replace b:=b.mono fun _ _ h=>RPtE.mono _ _ _ _ H h
 replace N:=N.nf
 have A:SliceOf RInt Q1 1 _ (path):=⟨_,g0,dG _⟩
 obtain ⟨C1,u1,N1,C2,f3⟩:=A.form (by decide)
 have P:=N
 clear N
 subst N1
 have N:=P
 clear P
 have M:=N
 clear N
 obtain ⟨I0,C,N,h0,a0⟩:=M.freezeRowC (i:=2) rfl
 clear M
 replace n:=n.mono C
 replace u:=RTE.mono _ _ _ _ C u
 replace b:=b.mono fun _ _ h=>RPtE.mono _ _ _ _ C h
 replace A:=A.mono RInt.mono C
 replace N:=N.nf
 have U:SliceOf RPtE I0 1 _ (v):=⟨_,h0,b⟩
 obtain ⟨D1,v1,N1,D2,g3⟩:=U.form (by decide)
 have P:=N
 clear N
 subst N1
 have N:=P
 clear P
 refine Sto 0 fun w N a J=>?_
 refine go fun a J=>?_
 have S:=N
 replace N:=N.dl [1,0]
 refine hQ _ _ _ (qO (i:=0) (cs:=[.slice C1 (path).length u1,.slice D1 (v).length v1,.pointer (some g)]) J S.toSees results40 rfl rfl isAgg90 sizeOf90 rfl rfl ?_)
 rw [show yJ [] e path=some (v,c) from j1n j G1]
 exact ⟨(I0,[.slice C1 (path).length u1,.slice D1 (v).length v1,.pointer (some g)]),rfl,⟨(H).trans C,⟨_,_,_,_,rfl,Z,a0,A,U,n,u⟩⟩,N⟩
def ReplC (path:List Int) (e:TE):Prop:=∀{Φ:Fz} {K:List Res} {w:World} {d dy:List Value} {vp:Value} {y:TE} {up:List TE} {r:List TE×TE},RTE Φ d e->SliceOf RInt Φ 1 vp path->z0c vp->RTE Φ dy y->gdT e->zC e<=20000->yJ up e path=some r->Mem Φ K w ->
  Calls prog 70 #[.agg d.toArray,vp,.agg dy.toArray] w (fun ee w'=>∃q:Fz×List Value,ee=.returned (.agg q.2.toArray)/\(Φ.Le q.1/\RTE q.1 q.2 (yO e path y))/\Mem q.1 K w')
theorem y4g {path:List Int} (ih:∀e,0 < path.length->ReplC (path.drop 1) e) (e:TE):ReplC path e:=by
 intro Φ K w d dy vp y up r re hp V rey hg Z0 y1 N
 have p:=re
 have g:=rey
 have M0:=nR hg
 have Y0:=(z0x e).1 (q9v hg (by omega))
 obtain ⟨p3,c4,p9,s1,e1,H0,rfl,t0,u0,h2,h8,S,v3,w3,F2,N2,G2,S0⟩:=RTE.fm re
 obtain ⟨x3,c22,rfl,T1,U0⟩:=hp.fm
 obtain ⟨g1,J0,h1,c34,i1,K0,rfl,C2,D2,m3,n3,o3,H2,O2,I2,P2,J2,Q2⟩:=RTE.fm rey
 refine zJ func70 ntmps70 fun Q hQ a J=>?_
 refine Bx fun p1 w N a J=>?_
 refine Bx fun q1 w N a J=>?_
 refine Alc fun r1 w N a J=>?_
 by_cases x1:path.length=0
 refine Sto 0 fun w N a J=>?_
 refine go fun a J=>?_
 have Z:=N
 replace N:=N.dl [2,1,0]
 refine kE (N:=Z) ?_
 rw [show yO e path y=y from by rw [List.eq_nil_of_length_eq_zero x1,yO]]
 exact ⟨(Φ,[.int .i64 (y.kind),.string y.name,.string y.op,.int .i64 (y.num),.int .i64 (y.site),.slice g1 y.args.length J0,.slice h1 y.arms.length c34,.slice i1 y.body.length K0]),rfl,⟨Fz.Le.refl _,g⟩,N⟩
 have s:0 < path.length:=by omega
 obtain ⟨v_,q0⟩:=zW s
 have a0:path=v_::path.drop 1:=j4s q0
 obtain ⟨z_,a1,W⟩:=q4q (show yJ up e (v_::path.drop 1)=some r from by rw [<- a0];exact y1)
 by_cases k0:e.kind=7
 refine go fun a J=>?_
 obtain ⟨j_,C,x0,U,N0⟩:=x0l M0 a1 k0
 subst N0
 have Q0:j_ < e.arms.length:=(List.getElem?_eq_some_iff.1 U).1
 refine yF call79 (fun k2 w t N a J=>?_) (c:=q0l h8 (by have:=Y0.2.1;omega) N)
 obtain ⟨D3,r0⟩:=k2
 simp only at t N J
 obtain ⟨j1,j0,rfl,U1,V0⟩:=N.toSees.gsLen (i:=0) rfl t (by decide)
 replace N:=N.nf
 refine Sto 3 fun w N a J=>?_
 refine go fun a J=>?_
 refine jF [1,2,1,1,2,1,2,1,1,2,1,1,2,1,1,2,0,1,1,0] (.q 0 (.q 1 (.q 2 (.q 3 (.q 4 (.q 5 (.q 6 (.q 7 (.q 8 (.q 9 (.q 10 (.q 11 (.q 12 (.q 13 (.q 14 (.q 15 (.e 16 (.q 17 (.q 18 (.e 19 (.done))))))))))))))))))))) [.gs (.slice j1 e.arms.length j0) 79 10 r0,.blk r1 (ob [.int .i64 ((0:Nat):Int),.string ⟨#[]⟩,.string ⟨#[]⟩,.int .i64 ((0:Nat):Int),.int .i64 ((0:Nat):Int),.slice none 0 0,.slice none 0 0,.slice none 0 0] 48),.blk q1 (ob [.int .i64 (y.kind),.string y.name,.string y.op,.int .i64 (y.num),.int .i64 (y.site),.slice g1 y.args.length J0,.slice h1 y.arms.length c34,.slice i1 y.body.length K0] 48),.blk p1 (ob [.int .i64 (e.kind),.string e.name,.string e.op,.int .i64 (e.num),.int .i64 (e.site),.slice p3 e.args.length c4,.slice j1 e.arms.length j0,.slice e1 e.body.length H0] 48)] J N mixed (by kernel_rfl) (by simp) fun w N=>?_
 refine go fun a J=>?_
 have k:=N
 have n:=J
 clear N J
 obtain ⟨C3,rfl⟩:=U0 (zO s)
 have N:=k
 have J:=n
 clear k n
 obtain ⟨l1,y0⟩:=zW s
 obtain ⟨L0,E2,L,X0⟩:=hp.elem y0
 obtain rfl:L0=[.int .i64 l1]:=X0
 refine go fun a J=>?_
 rw [show l1=(j_:Int) from (Option.some.inj (y0.symm.trans q0)).trans x0] at J
 obtain ⟨k1,rfl⟩:=V0 (zO Q0)
 refine go fun a J=>?_
 obtain ⟨b0,R0⟩:=t.at U
 generalize A0:(r0.drop (j_ * 10)).take 10=s2 at b0 R0
 have A:=b0
 obtain ⟨y3,i3,h3,rfl,q3,T,K2,R2⟩:=RTA.fm b0
 obtain ⟨z3,j3,B3,k3,V2,l2,rfl,z1,A1,r3,s3,t3,L2,S2,M2,T2,J1,V1⟩:=RTE.fm T
 refine Qq (fun a J=>?_) (o:=by exact fun J O=>mC 0 j_ 2 J O rfl rfl A0 isAgg48 sizeOf48 rfl rfl)
 have D:1<=path.length:=by omega
 have B0:=SliceOf.from hp (by decide) V 1 D
 have l0:=y2u V D
 refine Qq (fun a J=>?_) (o:=by exact fun J O=>oQ J rfl rfl runUnderlying34 sizeOf3 D V)
 refine yF call70 (fun z0 w b N a J=>?_) (c:=ih C.body s T B0 l0 g (gd_armI hg U) (Nat.le_trans (Nat.le_of_lt (wG (mgQ U))) Z0) W N)
 replace h2:=h2.mono RAtom.mono b.1
 replace h8:=h8.mono RTA.mono b.1
 replace S:=S.mono RTE.mono b.1
 replace p:=RTE.mono _ _ _ _ b.1 p
 replace hp:=hp.mono RInt.mono b.1
 replace g:=RTE.mono _ _ _ _ b.1 g
 replace t:=t.mono fun _ _ h=>RTA.mono _ _ _ _ b.1 h
 replace L:=L.mono b.1
 replace T:=RTE.mono _ _ _ _ b.1 T
 replace A:=RTA.mono _ _ _ _ b.1 A
 have F:=b.2
 obtain ⟨t1,n0⟩:∃x_,x_=z0.2:=⟨_,rfl⟩
 rw [<- n0] at F J
 have G:=F
 obtain ⟨b1,E0,c1,F0,d1,G0,rfl,B1,C1,t2,u2,v2,K1,W1,L1,X1,M1,Y1⟩:=RTE.fm F
 replace N:=N.nf
 refine go fun a J=>?_
 refine aE J rfl rfl (qU (R:=RTA z0.1) (vs:=[.int .i64 ((yO C.body (path.drop 1) y).kind),.string (yO C.body (path.drop 1) y).name,.string (yO C.body (path.drop 1) y).op,.int .i64 ((yO C.body (path.drop 1) y).num),.int .i64 ((yO C.body (path.drop 1) y).site),.slice b1 (yO C.body (path.drop 1) y).args.length E0,.slice c1 (yO C.body (path.drop 1) y).arms.length F0,.slice d1 (yO C.body (path.drop 1) y).body.length G0]) (u:=C) (u':=(TA.mk C.con C.vars (yO C.body (path.drop 1) y))) 0 j_ 2 J N rfl (pB (N.toSees.rowCell (i:=0) rfl).1) rfl rfl t U rfl sizeOf48 rfl rfl (by decide) (fun l3 u3 hr_=>z2q hr_ G) fun u1 w z N=>⟨jM (by kernel_rfl),fun a J=>?_⟩)
 replace N:=N.nf
 refine go fun a J=>?_
 have B:=N
 clear N
 obtain ⟨f0,f,N,c0,O0⟩:=B.freezeRowC (i:=0) rfl
 clear B
 replace h2:=h2.mono RAtom.mono f
 replace h8:=h8.mono RTA.mono f
 replace S:=S.mono RTE.mono f
 replace p:=RTE.mono _ _ _ _ f p
 replace hp:=hp.mono RInt.mono f
 replace g:=RTE.mono _ _ _ _ f g
 replace L:=L.mono f
 replace T:=RTE.mono _ _ _ _ f T
 replace A:=RTA.mono _ _ _ _ f A
 replace G:=RTE.mono _ _ _ _ f G
 replace z:=z.mono fun _ _ h=>RTA.mono _ _ _ _ f h
 replace N:=N.nf
 have p0:SliceOf RTA f0 10 (.slice (some k1) e.arms.length j0) ((e.arms.set j_ (TA.mk C.con C.vars (yO C.body (path.drop 1) y)))):=⟨_,c0,z⟩
 refine Sto 0 fun w N a J=>?_
 refine go fun a J=>?_
 have Z:=N
 replace N:=N.dl [2,1,0]
 refine kE (N:=Z) ?_
 rw [show yO e path y=_ from (congrArg (fun p_=>yO e p_ y) a0).trans (x1g k0 x0 U)]
 exact ⟨(f0,[.int .i64 (e.kind),.string e.name,.string e.op,.int .i64 (e.num),.int .i64 (e.site),.slice p3 e.args.length c4,.slice (some k1) e.arms.length j0,.slice e1 e.body.length H0]),rfl,⟨(b.1).trans f,RTE.iff.2 ⟨_,_,_,rfl,t0,u0,h2,p0,S⟩⟩,N⟩
 refine Reg [1,2,1,2,1,1,2,0,0,1,0] [0,1,2] fun w N a J=>?_
 have X:=j4k M0 a1 k0
 have Y:e.body[0]? = some z_:=by rw [X];rfl
 have s0:0 < e.body.length:=by rw [X];exact Nat.one_pos
 refine go fun a J=>?_
 have k:=N
 have n:=J
 clear N J
 obtain ⟨d3,rfl⟩:=S0 (zO s0)
 have N:=k
 have J:=n
 clear k n
 obtain ⟨P,e0⟩:=zW s0
 obtain ⟨v1,H1,v,m⟩:=S.elem e0
 obtain ⟨W2,m2,X2,n2,Y2,o2,rfl,D1,E1,w2,x2,y2,N1,Z1,O1,a2,P1,b2⟩:=RTE.fm m
 refine go fun a J=>?_
 have k:=N
 have n:=J
 clear N J
 obtain rfl:P=z_:=Option.some.inj (e0.symm.trans Y)
 have N:=k
 have J:=n
 clear k n
 have E:1<=path.length:=by omega
 have C0:=SliceOf.from hp (by decide) V 1 E
 have m0:=y2u V E
 refine Qq (fun a J=>?_) (o:=by exact fun J O=>oQ J rfl rfl runUnderlying34 sizeOf3 E V)
 refine yF call70 (fun m1 w j N a J=>?_) (c:=ih P s m C0 m0 g (j9u hg Y) (Nat.le_trans (Nat.le_of_lt (kD (mgQ Y))) Z0) W N)
 replace h2:=h2.mono RAtom.mono j.1
 replace h8:=h8.mono RTA.mono j.1
 replace p:=RTE.mono _ _ _ _ j.1 p
 replace g:=RTE.mono _ _ _ _ j.1 g
 replace v:=v.mono j.1
 replace m:=RTE.mono _ _ _ _ j.1 m
 have H:=j.2
 obtain ⟨w1,o0⟩:∃x_,x_=m1.2:=⟨_,rfl⟩
 rw [<- o0] at H J
 have I:=H
 obtain ⟨Z2,p2,a3,q2,b3,r2,rfl,F1,G1,z2,A2,B2,Q1,c2,R1,d2,S1,e2⟩:=RTE.fm H
 replace N:=N.nf
 have I1:=(Fz.Le.refl _).trans j.1
 refine qG fun e3 w N a J=>?_
 refine Sto 3 fun w N a J=>?_
 refine go fun a J=>?_
 have B:=N
 clear N
 obtain ⟨g0,l,N,d0,P0⟩:=B.freezeRowC (i:=0) rfl
 clear B
 replace h2:=h2.mono RAtom.mono l
 replace h8:=h8.mono RTA.mono l
 replace p:=RTE.mono _ _ _ _ l p
 replace g:=RTE.mono _ _ _ _ l g
 replace v:=v.mono l
 replace m:=RTE.mono _ _ _ _ l m
 replace I:=RTE.mono _ _ _ _ l I
 replace N:=N.nf
 have M:SliceOf RTE g0 8 _ ([yO P (path.drop 1) y]):=⟨_,d0,yQ rfl I⟩
 obtain ⟨f1,I0,q0,o1,f2⟩:=M.form (by decide)
 have k:=N
 clear N
 subst q0
 have N:=k
 clear k
 refine Sto 0 fun w N a J=>?_
 refine go fun a J=>?_
 have Z:=N
 replace N:=N.dl [2,1,0]
 refine kE (N:=Z) ?_
 rw [show yO e path y=_ from (congrArg (fun p_=>yO e p_ y) a0).trans (j4v k0 X)]
 exact ⟨(g0,[.int .i64 (e.kind),.string e.name,.string e.op,.int .i64 (e.num),.int .i64 (e.site),.slice p3 e.args.length c4,.slice p9 e.arms.length s1,.slice f1 ([yO P (path.drop 1) y]).length I0]),rfl,⟨(j.1).trans l,RTE.iff.2 ⟨_,_,_,rfl,t0,u0,h2,h8,M⟩⟩,N⟩
theorem z9z:∀(path:List Int) (e:TE),ReplC path e
 | [],e=>y4g (path:=[]) (fun _ h=>absurd h (Nat.lt_irrefl _)) e
 | v::p,e=>y4g (path:=v::p) (fun z _=>z9z p z) e
theorem j3c {Φ:Fz} {K:List Res} {w:World} {v:Value} {cs:List Value} {l:List TFn} {i:Nat} (hch:Chunks (RTFn Φ) 11 cs l) (hi:i < l.length) (N:Mem Φ (.gs v 50 11 cs::K) w) :
  Calls prog 67 #[v,.int .i64 i,.int .i64 ((i+1:Nat):Int)] w (fun ee w'=>∃y:Value×List Value,ee=.returned y.1/\Chunks (RTFn Φ) 11 y.2 (l.eraseIdx i)/\Mem Φ (.gs y.1 50 11 y.2::K) w'):=by
 obtain ⟨e,d,rfl,b,f⟩:=N.toSees.gsOwn (i:=0) rfl hch.length (by decide) (Nat.lt_of_le_of_lt (Nat.zero_le _) hi)
 have c:=hch.ones RTFn.ones
 refine zJ func67 ntmps67 fun Q hQ a J=>?_
 refine Qq (fun a J=>?_) (o:=by exact fun J O=>j5o J rfl rfl rfl rfl runUnderlying24 sizeOf50 (Nat.le_succ i) hi b)
 by_cases g:i=(i+1)
 refine yK ?_
 omega
 refine Reg [1,1,1,1,1,1,0,1] [0] fun w N a J=>?_
 refine Qq (fun a J=>?_) (o:=by exact fun J O=>q4m J rfl rfl runUnderlying24 sizeOf50 (by omega))
 refine Qq (fun a J=>?_) (o:=by exact fun J O=>oQ J rfl rfl runUnderlying24 sizeOf50 hi b)
 refine d_e J rfl rfl rfl (z8f 0 i (i+1) (cs:=cs) q3i J N rfl rfl rfl c (Nat.le_succ i) hi fun w N=>⟨jM (by kernel_rfl),fun a J=>?_⟩)
 replace N:=N.nf
 refine Qq (fun a J=>?_) (o:=by exact fun J O=>Ok.cast (oP J rfl rfl rfl runUnderlying24 sizeOf50 (by omega) b) (show Value.slice (kA (some ⟨e,0,none⟩) d (i+(l.length - (i+1))) 11) (l.length - (i+(l.length - (i+1)))) (d - (i+(l.length - (i+1))))=.slice (kA (some ⟨e,0,none⟩) d (i+(l.length - (i+1))) 11) 1 (d - (i+(l.length - (i+1)))) from by rw [show l.length - (i+(l.length - (i+1)))=1 from by omega]))
 refine st0 J rfl rfl (z5z 0 (m:=(i+(l.length - (i+1)))) q3i runUnderlying24 J N rfl rfl (by omega) zeroValue50 (by kernel_rfl) (by kernel_rfl) fun w N a J=>?_)
 refine yK ?_
 exact ⟨(.slice (some ⟨e,0,none⟩) (i+(l.length - (i+1))) d,cs.take (i * 11)++cs.drop ((i+1) * 11)),rfl,by rw [List.eraseIdx_eq_take_drop_succ];exact (hch.take i).append (hch.drop (i+1)),N⟩
theorem j6q {Φ:Fz} {K:List Res} {w:World} {ms:Nat} {pa fa:Addr} {T:Trc} (RP:RProg Φ pa T ms) {fd:List Value} {F:TFn} (a:At Φ fa fd) (rf:RTFn Φ fd F) {z:BS} (b:dQ T F []=some z) (G:Glob Φ) (N:Mem Φ (.imp ms (xN [])::K) w) :
  Calls prog 86 #[.pointer (some pa),.pointer (some fa)] w (fun ee w'=>∃y:Value×BS,ee=.returned y.1/\y.2.Eqv z/\Mem Φ (.gs y.1 125 2 (xX y.2.list)::.imp ms (xN y.2.sites)::K) w'):=by
 have h:=q8t (m:=[]) RP a rf G N
 rw [b] at h;exact h
theorem j4c {T:Trc} {n:Bs} (h:zL T=false):nA T n=none:=by rw [nA,h];rfl
theorem q6p {T:Trc} {n:Bs} (a:zL T=true) (h:T.funs.findIdx? (fun c=>decide (c.name=n))=none):nA T n=none:=by rw [nA,a,if_pos rfl,show funIx T n=none from h];rfl
theorem q6q {T:Trc} {n:Bs} {j:Nat} {f:TFn} {z:BS} (a:zL T=true) (h:T.funs.findIdx? (fun c=>decide (c.name=n))=some j) (b:T.funs[j]? = some f) (d:dQ T f []=some z):nA T n=some z.list:=by
 rw [nA,a,if_pos rfl,show funIx T n=some j from h,Option.bind_some,b,Option.bind_some,d];rfl
abbrev ErrN:={y:Int // y≠0}
theorem x0f {Φ:Fz} {K:List Res} {w:World} {tc:List Value} {T:Trc} {n:Bs} (E:RTrc Φ tc T) (G:Glob Φ) (N:Mem Φ K w) :
  Calls prog 191 #[.agg tc.toArray,.string n] w (fun ee w'=>Out (xL (nA T n)) (fun l=>∃v:Value,ee=.returned (.tuple #[v,.int .i64 0])/\True/\Mem Φ (.gs v 125 2 (xX l)::K) w') (fun _=>∃y:ErrN,ee=.returned (.tuple #[.slice none 0 0,.int .i64 y.1])/\Mem Φ K w')):=by
 have g:=E
 obtain ⟨p3,c4,p9,N0,b1,O0,c1,c22,rfl,o0,h2,h8,Q0,R0,Z0,a1,r0,A0,s0,B0,t0,C0⟩:=RTrc.fm E
 refine zJ func191 ntmps191 fun Q hQ a J=>?_
 refine Bx fun L0 w N a J=>?_
 refine go fun a J=>?_
 refine st J rfl rfl rfl (mZ J rfl call47 (y8q g G N) (fun f0 j w d b N a J=>?_) (fun f0 j w d N a J=>?_))
 replace g:=RTrc.mono _ _ _ _ b.1 g
 replace G:=G.mono b.1
 have RP33:=b.2.1
 replace N:=N.nf
 obtain ⟨k0,C,D,e,q,W,i⟩:=RP33.ex
 obtain ⟨b0,c44,c0,c50,d0,H,e0,I,rfl,p0,S0,U0,L,V0,u0,D0,w0,E0,x0,u,y0,F0⟩:=RTrc.fm q
 replace e:At j.1.1 ⟨j.2.1,0,none⟩ [.slice b0 T.cons.length c44,.slice c0 T.inputs.length c50,.slice d0 T.funs.length H,.slice e0 T.outputs.length I,.map (some C),.map (some D),.map (some j.2.2)]:=e
 generalize z:(⟨j.2.1,0,none⟩:Addr)=e1 at J e
 refine go fun a J=>?_
 rcases h:jJ ((zN (nQ T))) n with _ | K0
 have f:=congrArg (zZ true (.int .i64 ((0:Nat):Int))) h
 refine Qq (fun a J=>?_) (o:=by exact fun J O=>Ok.cast (yT runUnderlying98 runUnderlying9 zeroValue3 J O rfl rfl i) (show zZ true (.int .i64 ((0:Nat):Int)) (jJ ((zN (nQ T))) n)=.tuple #[.int .i64 ((0:Nat):Int),.bool false] from f))
 refine z3k ?_
 replace N:=N.le (b.1)
 replace N:=N.dl [1,0]
 rw [show nA T n=none from q6p (zD d) (gG (vQ h))];exact ⟨⟨3,by decide⟩,rfl,N⟩
 obtain ⟨g1,A,rfl⟩:=pW h
 obtain ⟨a0,rfl,s,t⟩:=gH A
 have f:=congrArg (zZ true (.int .i64 ((0:Nat):Int))) h
 refine Qq (fun a J=>?_) (o:=by exact fun J O=>Ok.cast (yT runUnderlying98 runUnderlying9 zeroValue3 J O rfl rfl i) (show zZ true (.int .i64 ((0:Nat):Int)) (jJ ((zN (nQ T))) n)=.tuple #[.int .i64 a0,.bool true] from f))
 refine go fun a J=>?_
 refine st0 J rfl rfl (q6b 0 runUnderlying158 J N rfl rfl fun w N a J=>?_)
 replace N:=N.nf
 refine go fun a J=>?_
 obtain ⟨f1,rfl,g0,m,l0,q0,r,k⟩:=L.el u t
 obtain ⟨d1,P0,M0,rfl,X0,M,z0,G0⟩:=RTFn.fm k
 obtain ⟨H0,h0,I0,i0,J0,j0,rfl,P,R,Y0,m0,n0,S,X,U,Y,V,Z⟩:=RTE.fm M
 obtain ⟨z_,B⟩:=q5m (zD d) g0 (mgQ m)
 subst z
 refine yF call86 (fun F w p N a J=>?_) (c:=j6q RP33 r k B G N)
 refine z3k ?_
 replace N:=N.le (b.1)
 replace N:=N.dl [2,1]
 rw [show nA T n=some z_.list from q6q (zD d) s m B]
 exact ⟨F.1,rfl,trivial,by rw [<- p.1];exact N⟩
 refine z3k ?_
 replace N:=N.dl [0]
 rw [show nA T n=none from j4c (zP d)];exact ⟨⟨120,by decide⟩,rfl,N⟩
end Go.Sw
