import Derived.Test.YtghdfphedgcpdaaGreatDoorX13
set_option linter.unusedVariables false
set_option linter.unusedSimpArgs false
namespace Go.Sw
open Go.Proofs Go.Proofs.Tryz
set_option maxRecDepth 20000
set_option maxHeartbeats 4000000
theorem pC {b:Bool} (h:(!b)=false):b=true:=by cases b;cases h;rfl
theorem x8i {α:Type} {o:Option α} (h:o.isSome=false):o=none:=by cases o;rfl;cases h
theorem pB {b:Bool} (h:(!b)=true):b=false:=by cases b;rfl;cases h
theorem j1w {Φ:Fz} {K:List Res} {w:World} {d0:List Value} {c:Core} {v1:Value} {vars:List Param} {d2:List Value} {e:Ex} (t:RCore Φ d0 c) (m:SliceOf RParam Φ 2 v1 vars) (S:REx Φ d2 e) (hL:Lim c) (O:dV e) (hb:vars.length+(zN e).length<=1000000) (ih:∀x:Ex,x.sz < e.sz->∀{Φ:Fz} {K:List Res} {w:World} {d0:List Value} {v1:Value} {vars:List Param} {d2:List Value},RCore Φ d0 c->SliceOf RParam Φ 2 v1 vars->REx Φ d2 x->dV x->vars.length+(zN x).length<=1000000->Mem Φ K w->Calls prog 80 #[.agg d0.toArray,v1,.agg d2.toArray] w (fun ee w'=>ee=.returned (.tuple #[.string (zS c x vars).1,.bool (zS c x vars).2])/\Mem Φ K w')) (N:Mem Φ K w) :
  Calls prog 112 #[.agg d0.toArray,v1,.agg d2.toArray] w (fun ee w'=>ee=.returned (.tuple #[.string (nD c e vars).1,.bool (nD c e vars).2])/\Mem Φ K w'):=by
 obtain ⟨p3,c4,p9,i2,F2,j2,G2,c22,rfl,h2,h8,p2,q2,A2,C2,C1,K1,D1,L1,E1,M1⟩:=RCore.fm t
 obtain ⟨p1,c1,rfl,z2,B2⟩:=m.fm
 obtain ⟨H2,k2,I2,l2,rfl,z1,O0,h0,F1,E0,G1,F0⟩:=REx.fm S
 refine zL func112 ntmps112 fun Q hQ a J=>?_
 refine Bx fun c2 w N a J=>?_
 refine Bx fun e2 w N a J=>?_
 by_cases t2:e.args.length=1
 by_cases u2:e.name=(⟨#[]⟩:Bs)
 refine Reg [2,1,1,2,1,2,0,1,1,1,1,1] [0,1] fun w N a J=>?_
 have W:¬(e.args.length≠1∨e.name≠sNo):=by simp [sNo, *]
 refine go fun a J=>?_
 have C0:0 < e.args.length:=by omega
 obtain ⟨M2,rfl,V,q,r1,B1,A,r⟩:=O0.el E0 C0
 obtain ⟨J2,m2,K2,c63,rfl,A1,v2,w2,H1,N1,I1,O1⟩:=REx.fm r
 refine zO call80 (fun w N a J=>?_) (c:=ih _ (Ex.lt_args (mgQ q)) t m r ((aF O).2.1 _ (mgQ q)) (by have h_:=sZ (mgQ q);omega) N)
 refine yU call110 (fun h1 w B0 N a J=>?_) (c:=z4o t N)
 obtain ⟨E,o2⟩:=h1
 obtain ⟨h,C⟩:=B0
 simp only at h C N J
 replace t:=RCore.mono _ _ _ _ h t
 replace m:=m.up h
 replace h0:=h0.up h
 replace S:=REx.mono _ _ _ _ h S
 replace A:=A.mono h
 replace r:=REx.mono _ _ _ _ h r
 replace N:=N.nf
 obtain ⟨O2,rfl,z0⟩:=id C
 obtain ⟨L2,n2,rfl,J1,G0⟩:=z0.fm
 refine Alc fun f2 w N a J=>?_
 refine Sto 0 fun w N a J=>?_
 refine go fun a J=>?_
 generalize x1:(!((zS c V vars).2))=t0 at J
 cases t0
 refine go fun a J=>?_
 generalize y1:(!(qQ c.datas ((zS c V vars).1)).isSome)=u0 at J
 cases u0
 by_cases x2:((qQ c.datas ((zS c V vars).1)).getD uY).cons.length=e.arms.length
 refine go fun a J=>?_
 have D0:=x3w (c:=c) (vars:=vars) W q (by first | assumption | exact pC (by assumption) | exact pB (by assumption)) (by first | assumption | exact pC (by assumption) | exact pB (by assumption)) (by omega)
 refine go fun a J=>?_
 refine zT (J.ks [1,3,5,10]) N (fun R mm a w=>∃(i:Nat) (o:Bs),mm=e.arms.length - i/\R E [(12,.string o),(13,.int .i64 i)] [] a w/\(nD c e vars=armsR c (e.arms.drop i) (((qQ c.datas ((zS c V vars).1)).getD uY).cons.drop i) (decide (i=0)) o vars)) (e.arms.length - 0) ⟨0,sNo,rfl,⟨J.pk,N⟩,D0⟩ ?_
 clear N J
 rintro mm a w ⟨i,o,X,⟨J,N⟩,p⟩ b2 a0
 by_cases A0:i < e.arms.length
 refine go fun a J=>?_
 obtain ⟨N2,rfl,d,j,L0,T0,G,v⟩:=h0.el F0 A0
 obtain ⟨Y1,j1,rfl,Y,z⟩:=RArm.iff.1 v
 obtain ⟨Q1,l1,rfl,X0,m0⟩:=Y.fm
 obtain ⟨R1,m1,S1,n1,rfl,S0,s1,t1,Y0,d1,Z0,e1⟩:=REx.fm z
 refine Alc fun k1 w N a J=>?_
 refine Sto 0 fun w N a J=>?_
 refine Reg [1,2,1,2,1,1,1,2,1,1,1,2,1,1,2,1,1,1,2,1,1,1] [0,1,2,3] fun w N a J=>?_
 refine go fun a J=>?_
 have k0:i < ((qQ c.datas ((zS c V vars).1)).getD uY).cons.length:=by omega
 obtain ⟨V1,rfl,f,n,M0,U0,H,y⟩:=z0.el G0 k0
 obtain ⟨Z1,rfl,Z⟩:=id y
 obtain ⟨T1,o1,rfl,a1,n0⟩:=Z.fm
 by_cases w0:d.con=f.name
 by_cases x0:d.vars.length=f.fields.length
 refine go fun a J=>?_
 have B:¬(d.con≠f.name∨d.vars.length≠f.fields.length):=fun g=>g.elim (fun g=>g w0) (fun g=>g x0)
 refine st J rfl rfl rfl (kL (sz:=2) (cs:=[]) J N rfl (z7v runUnderlying23 sizeOf36) rfl (by decide) fun v146 w N _ a J=>?_)
 refine go fun a J=>?_
 obtain ⟨F,M,s⟩:=id m
 refine st J rfl rfl rfl (kK 0 (xs:=[]) (news:=F) z4c J N rfl rfl rfl (M.rowIn N.toSees) (s.ones RParam.ones) (by intro n_ m_ H0 I0;have h_:=s.length;simp only [lnQ] at H0;omega) fun K0 w N a J=>?_)
 replace N:=N.nf
 refine go fun a J=>?_
 refine zT (J.ks [1,3,5,10,12,13,14]) N (fun R mm a w=>∃(k:Nat) (u:Value) (cs:List Value),mm=d.vars.length - k/\R E [(15,u),(16,.int .i64 k)] [(0,.gs (u) 36 2 cs)] a w/\(k<=d.vars.length/\Chunks (RParam E) 2 cs (vars++jP (d.vars.take k) (f.fields.take k)))) (d.vars.length - 0) ⟨0,K0,F,rfl,⟨J.pk,N⟩,⟨Nat.zero_le _,by simpa [jP] using s⟩⟩ ?_
 clear N J
 rintro mm a w ⟨k,u,cs,X,⟨J,N⟩,i0⟩ i1 j0
 replace N:=N.nf
 obtain ⟨y2,L⟩:=i0
 by_cases y0:k < d.vars.length
 refine Reg [1,1,2,1,1,2,1,2,1,1,1,2,1,1,2,1,0,0,1] [1,2,3,4] fun w N a J=>?_
 refine go fun a J=>?_
 obtain ⟨W1,rfl,T,q0,f0,V0,P0,o0⟩:=Y.el m0 y0
 obtain rfl:f0=[.string T]:=o0
 refine go fun a J=>?_
 have l0:k < f.fields.length:=by omega
 obtain ⟨X1,rfl,U,r0,g0,W0,Q0,p0⟩:=Z.el n0 l0
 obtain rfl:g0=[.string U]:=p0
 refine qM fun a J=>?_
 refine jQ fun a2 w N a J=>?_
 refine d_e J rfl rfl rfl (kK 1 (xs:=cs) (news:=[.string T,.string U]) z4c J N rfl rfl rfl (N.toSees.rowIn (i:=0) rfl) rfl (by intro n_ m_ H0 I0;have h_:=L.length;have s2:=q6m (mgQ j);rw [laQ] at h_;have r2:(jP (d.vars.take k) (f.fields.take k)).length<=k:=(by unfold jP;rw [List.length_map,List.length_zip,List.length_take];omega);simp only [lcQ,lnQ] at I0;omega) fun v175 w N=>⟨fun _=>N.sn (Fz.Le.refl _),fun a J=>?_⟩)
 replace N:=N.nf
 refine go fun a J=>?_
 replace N:=N.dl [0]
 refine j0 _ _ _ (by subst X;omega) ⟨(k+1),(v175),((cs++[.string T,.string U])),rfl,⟨J.pk,by exact N⟩,?_⟩
 exact ⟨by omega,by rw [j1b q0 r0,<- List.append_assoc];exact Chunks.snoc (R:=RParam E) (k:=2) (x:=(⟨_,_⟩:Param)) rfl rfl L⟩
 refine go fun a J=>?_
 have I:=L
 rw [List.take_of_length_le (l:=d.vars) (by omega),List.take_of_length_le (l:=f.fields) (by omega)] at I
 have b0:=N
 clear N
 obtain ⟨s0,b,N,P⟩:=b0.freezeRow (i:=0) rfl
 clear b0
 replace t:=RCore.mono _ _ _ _ b t
 replace S:=REx.mono _ _ _ _ b S
 replace A:=A.mono b
 replace r:=REx.mono _ _ _ _ b r
 replace C:=RData.mono _ _ _ _ b C
 replace G:=G.mono b
 replace v:=RArm.mono _ _ _ _ b v
 replace z:=REx.mono _ _ _ _ b z
 replace H:=H.mono b
 replace y:=RCon.mono _ _ _ _ b y
 replace N:=N.nf
 have D:SliceOf RParam s0 2 _ ((vars++jP d.vars f.fields)):=⟨_,P,I⟩
 obtain ⟨U1,q1,g1,b1,f1⟩:=D.form (by decide)
 have c0:=N
 clear N
 subst g1
 have N:=c0
 clear c0
 refine zO call80 (fun w N a J=>?_) (c:=ih _ (Ex.lt_arms (mgQ j)) t D z ((aF O).2.2 _ (mgQ j)).1 (by have h_:=q6m (mgQ j);rw [laQ,show (jP d.vars f.fields).length=d.vars.length by unfold jP;rw [List.length_map,List.length_zip];omega];omega) N)
 refine go fun a J=>?_
 generalize R0:(!((zS c d.body (vars++jP d.vars f.fields)).2))=e0 at J
 cases e0
 by_cases u1:0 < i
 by_cases w1:(zS c d.body (vars++jP d.vars f.fields)).1=o
 refine go fun a J=>?_
 replace N:=N.le (b)
 replace N:=N.dl [0]
 refine a0 _ _ _ (by subst X;omega) ⟨(i+1),((zS c d.body (vars++jP d.vars f.fields)).1),rfl,⟨J.pk,by exact N⟩,?_⟩
 rw [p,zA j,zA n,nN,if_neg B,if_neg (by rintro (g | ⟨g,g2⟩);exact absurd (g.symm.trans ((by first | assumption | exact pC (by assumption) | exact pB (by assumption)):(zS c d.body (vars++jP d.vars f.fields)).2=true)) (by decide);first | exact g2 (by assumption) | (have:=of_decide_eq_false g;omega))];rfl
 refine jE ?_
 replace N:=N.le ((h).trans b)
 replace N:=N.dl [3,2,1,0]
 have hr_:nD c e vars=((⟨#[]⟩:Bs),false):=by rw [p,zA j,zA n,nN,if_neg B];exact if_pos (by first | exact .inl (by first | assumption | exact pC (by assumption) | exact pB (by assumption)) | exact .inr ⟨decide_eq_false (by omega),by assumption⟩)
 show _/\_;rw [hr_];exact ⟨rfl,N⟩
 refine go fun a J=>?_
 replace N:=N.le (b)
 replace N:=N.dl [0]
 refine a0 _ _ _ (by subst X;omega) ⟨(i+1),((zS c d.body (vars++jP d.vars f.fields)).1),rfl,⟨J.pk,by exact N⟩,?_⟩
 rw [p,zA j,zA n,nN,if_neg B,if_neg (by rintro (g | ⟨g,g2⟩);exact absurd (g.symm.trans ((by first | assumption | exact pC (by assumption) | exact pB (by assumption)):(zS c d.body (vars++jP d.vars f.fields)).2=true)) (by decide);first | exact g2 (by assumption) | (have:=of_decide_eq_false g;omega))];rfl
 refine jE ?_
 replace N:=N.le ((h).trans b)
 replace N:=N.dl [3,2,1,0]
 have hr_:nD c e vars=((⟨#[]⟩:Bs),false):=by rw [p,zA j,zA n,nN,if_neg B];exact if_pos (by first | exact .inl (by first | assumption | exact pC (by assumption) | exact pB (by assumption)) | exact .inr ⟨decide_eq_false (by omega),by assumption⟩)
 show _/\_;rw [hr_];exact ⟨rfl,N⟩
 refine jE ?_
 replace N:=N.le (h)
 replace N:=N.dl [3,2,1,0]
 have hr_:nD c e vars=((⟨#[]⟩:Bs),false):=by rw [p,zA j,zA n,nN];exact if_pos (by first | exact .inl (by assumption) | exact .inr (by assumption))
 show _/\_;rw [hr_];exact ⟨rfl,N⟩
 refine jE ?_
 replace N:=N.le (h)
 replace N:=N.dl [3,2,1,0]
 have hr_:nD c e vars=((⟨#[]⟩:Bs),false):=by rw [p,zA j,zA n,nN];exact if_pos (by first | exact .inl (by assumption) | exact .inr (by assumption))
 show _/\_;rw [hr_];exact ⟨rfl,N⟩
 refine jE ?_
 replace N:=N.le (h)
 replace N:=N.dl [2,1,0]
 have hr_:nD c e vars=(o,true):=by rw [p,zB A0];rfl
 show _/\_;rw [hr_];exact ⟨rfl,N⟩
 refine jE ?_
 replace N:=N.le (h)
 replace N:=N.dl [2,1,0]
 have hr_:nD c e vars=((⟨#[]⟩:Bs),false):=by exact z7x W q (by first | exact .inl (by first | assumption | exact pC (by assumption) | exact pB (by assumption)) | exact .inr (.inl (by first | assumption | exact pC (by assumption) | exact pB (by assumption))) | exact .inr (.inr (by omega)))
 show _/\_;rw [hr_];exact ⟨rfl,N⟩
 refine jE ?_
 replace N:=N.le (h)
 replace N:=N.dl [2,1,0]
 have hr_:nD c e vars=((⟨#[]⟩:Bs),false):=by exact z7x W q (by first | exact .inl (by first | assumption | exact pC (by assumption) | exact pB (by assumption)) | exact .inr (.inl (by first | assumption | exact pC (by assumption) | exact pB (by assumption))) | exact .inr (.inr (by omega)))
 show _/\_;rw [hr_];exact ⟨rfl,N⟩
 refine jE ?_
 replace N:=N.le (h)
 replace N:=N.dl [2,1,0]
 have hr_:nD c e vars=((⟨#[]⟩:Bs),false):=by exact z7x W q (by first | exact .inl (by first | assumption | exact pC (by assumption) | exact pB (by assumption)) | exact .inr (.inl (by first | assumption | exact pC (by assumption) | exact pB (by assumption))) | exact .inr (.inr (by omega)))
 show _/\_;rw [hr_];exact ⟨rfl,N⟩
 refine jE ?_
 replace N:=N.dl [1,0]
 have hr_:nD c e vars=((⟨#[]⟩:Bs),false):=by exact q6s (by simp [sNo, *])
 show _/\_;rw [hr_];exact ⟨rfl,N⟩
 refine jE ?_
 replace N:=N.dl [1,0]
 have hr_:nD c e vars=((⟨#[]⟩:Bs),false):=by exact q6s (by simp [sNo, *])
 show _/\_;rw [hr_];exact ⟨rfl,N⟩
theorem j5g {Φ:Fz} {K:List Res} {w:World} {d0:List Value} {c:Core} {v1:Value} {vars:List Param} {d2:List Value} {e:Ex} (m:RCore Φ d0 c) (b:SliceOf RParam Φ 2 v1 vars) (z:REx Φ d2 e) (hL:Lim c) (O:dV e) (hb:vars.length+(zN e).length<=1000000) (ih:∀x:Ex,x.sz < e.sz->∀{Φ:Fz} {K:List Res} {w:World} {d0:List Value} {v1:Value} {vars:List Param} {d2:List Value},RCore Φ d0 c->SliceOf RParam Φ 2 v1 vars->REx Φ d2 x->dV x->vars.length+(zN x).length<=1000000->Mem Φ K w->Calls prog 80 #[.agg d0.toArray,v1,.agg d2.toArray] w (fun ee w'=>ee=.returned (.tuple #[.string (zS c x vars).1,.bool (zS c x vars).2])/\Mem Φ K w')) (N:Mem Φ K w) :
  Calls prog 80 #[.agg d0.toArray,v1,.agg d2.toArray] w (fun ee w'=>ee=.returned (.tuple #[.string (zS c e vars).1,.bool (zS c e vars).2])/\Mem Φ K w'):=by
 obtain ⟨p3,c4,p9,y1,H2,z1,W1,c22,rfl,h2,h8,H,O5,X5,Y5,X4,C2,Y4,D2,Z4,c5⟩:=RCore.fm m
 obtain ⟨p1,c1,rfl,W5,P3⟩:=b.fm
 obtain ⟨X1,A1,Y1,B1,rfl,U4,f0,P5,a5,m1,b5,d5⟩:=REx.fm z
 refine zL func80 ntmps80 fun Q hQ a J=>?_
 refine Bx fun b1 w N a J=>?_
 refine Bx fun d1 w N a J=>?_
 refine goJ 3 fun a J=>?_
 refine sq fun S2 w2=>?_
 have u0:∀a w,(EnvR 268 [(1,.slice p1 vars.length c1),(3,.pointer (some ⟨b1,0,none⟩)),(5,.pointer (some ⟨d1,0,none⟩))] [] a/\Mem Φ (.blk d1 (ob [.int .i64 (e.kind),.int .i64 (e.num),.string e.name,.slice X1 e.args.length A1,.slice Y1 e.arms.length B1] 110)::.blk b1 (ob [.slice p3 c.datas.length c4,.slice p9 c.inputs.length y1,.slice H2 c.funs.length z1,.slice W1 c.outputs.length c22] 27)::K) w/\(¬cI e))->S2 a w:=by
  clear N J
  rintro a w ⟨J,N,u2⟩
  apply w2
  have y:=u2
  by_cases j0:e.kind=1
  refine Reg [1,2,1,1,1,2,1,1,1,1,1] [0,1] fun w N a J=>?_
  by_cases Q5:e.name=(⟨#[]⟩:Bs)
  refine Qq (fun a J=>?_) (o:=by exact fun J O=>mW (i:=e.args.length) (j:=0) J rfl rfl)
  refine jE ?_
  replace N:=N.dl [1,0]
  have hr_:zS c e vars=((⟨#[73,110,116]⟩:Bs),(decide (e.args.length=0))):=by rw [j8d y (by assumption)];simp [sNo,yT, *]
  show _/\_;rw [hr_];exact ⟨rfl,N⟩
  refine jE ?_
  replace N:=N.dl [1,0]
  have hr_:zS c e vars=((⟨#[73,110,116]⟩:Bs),false):=by rw [j8d y (by assumption)];simp [sNo,yT, *]
  show _/\_;rw [hr_];exact ⟨rfl,N⟩
  by_cases k0:e.kind=2
  refine Qq (fun a J=>?_) (o:=by exact fun J O=>pY (((vars.length:Nat):Int) - 1) J rfl rfl (jW (by omega)))
  refine go fun a J=>?_
  refine zT (J.ks [1,5]) N (fun R mm a w=>∃(k:Nat),mm=k/\R Φ [(8,.int .i64 (((k:Nat):Int) - 1))] [] a w/\(k<=vars.length/\dR vars e.name=dR (vars.take k) e.name)) (vars.length) ⟨vars.length,rfl,⟨J.pk,N⟩,⟨Nat.le_refl _,by rw [List.take_length]⟩⟩ ?_
  clear N J
  rintro mm a w ⟨k,g0,⟨J,N⟩,v2⟩ L5 x2
  obtain ⟨V5,N1⟩:=v2
  by_cases R5:0<=((k:Nat):Int) - 1
  refine Reg [1,1,1,1,2,1,2,1] [0,1] fun w N a J=>?_
  rw [show ((k:Nat):Int) - 1=((k - 1:Nat):Int) by omega] at J
  refine go fun a J=>?_
  have z2:(k - 1) < vars.length:=by omega
  obtain ⟨a6,rfl,P2,o1,z4,V4,S4,E2⟩:=b.el P3 z2
  obtain rfl:=id E2
  refine go fun a J=>?_
  by_cases r2:P2.name=e.name
  refine Reg [1,1,1,1,2,1,2,1,1,1,1] [0,1] fun w N a J=>?_
  refine go fun a J=>?_
  refine Qq (fun a J=>?_) (o:=by exact fun J O=>mW (i:=e.args.length) (j:=0) J rfl rfl)
  refine jE ?_
  replace N:=N.dl [1,0]
  have hr_:zS c e vars=(P2.type,(decide (e.args.length=0))):=by rw [j8e y (by assumption),N1,show k=(k - 1)+1 by omega,jB o1,z1v,if_pos r2]
  show _/\_;rw [hr_];exact ⟨rfl,N⟩
  refine Qq (fun a J=>?_) (o:=by exact fun J O=>pY (((k - 1:Nat):Int) - 1) J rfl rfl (jW (by omega)))
  refine go fun a J=>?_
  refine x2 _ _ _ (by subst g0;omega) ⟨(k - 1),rfl,⟨J.pk,N⟩,?_⟩
  exact ⟨by omega,by rw [N1,show k=(k - 1)+1 by omega,jB o1,z1v,if_neg r2];rfl⟩
  refine jE ?_
  replace N:=N.dl [1,0]
  have hr_:zS c e vars=((⟨#[]⟩:Bs),false):=by rw [j8e y (by assumption),N1,show k=0 by omega];rfl
  show _/\_;rw [hr_];exact ⟨rfl,N⟩
  by_cases l0:e.kind=3
  refine go fun a J=>?_
  refine zT (J.ks [3,5]) N (fun R mm a w=>∃(i:Nat),mm=c.inputs.length - i/\R Φ [(9,.int .i64 i)] [] a w/\(z8s c.inputs e.name=z8s (c.inputs.drop i) e.name)) (c.inputs.length - 0) ⟨0,rfl,⟨J.pk,N⟩,rfl⟩ ?_
  clear N J
  rintro mm a w ⟨i,g0,⟨J,N⟩,F0⟩ M5 y2
  by_cases s2:i < c.inputs.length
  refine Reg [1,2,1,1,1,2,1,2,1] [0,1] fun w N a J=>?_
  refine go fun a J=>?_
  obtain ⟨b6,rfl,Q2,q1,A4,W4,T4,F2⟩:=h8.el C2 s2
  obtain rfl:=id F2
  by_cases t2:Q2.name=e.name
  refine Reg [1,2,1,1,1,2,1,2,1,1,1,1] [0,1] fun w N a J=>?_
  refine Qq (fun a J=>?_) (o:=by exact fun J O=>mW (i:=e.args.length) (j:=0) J rfl rfl)
  refine jE ?_
  replace N:=N.dl [1,0]
  have hr_:zS c e vars=(Q2.type,(decide (e.args.length=0))):=by rw [j8f y (by assumption),F0,zA q1,z8s,if_pos t2]
  show _/\_;rw [hr_];exact ⟨rfl,N⟩
  refine go fun a J=>?_
  refine y2 _ _ _ (by subst g0;omega) ⟨(i+1),rfl,⟨J.pk,N⟩,?_⟩
  rw [F0,zA q1,z8s,if_neg t2]
  refine jE ?_
  replace N:=N.dl [1,0]
  have hr_:zS c e vars=((⟨#[]⟩:Bs),false):=by rw [j8f y (by assumption),F0,zB s2];rfl
  show _/\_;rw [hr_];exact ⟨rfl,N⟩
  refine go fun a J=>?_
  by_cases Y:e.kind=6
  by_cases T5:e.args.length=2
  refine Reg [2,1,1,2,1,2,0,1,1,1,1,1] [0,1] fun w N a J=>?_
  refine go fun a J=>?_
  have A2:0 < e.args.length:=by omega
  obtain ⟨s5,rfl,d,E,T2,o3,I,A⟩:=f0.el m1 A2
  obtain ⟨e5,n4,f5,o4,rfl,j3,C4,D4,w3,Q3,x3,R3⟩:=REx.fm A
  refine zO call80 (fun w N a J=>?_) (c:=ih _ (Ex.lt_args (mgQ E)) m b A ((aF O).2.1 _ (mgQ E)) (by have h_:=sZ (mgQ E);omega) N)
  refine go fun a J=>?_
  generalize f3:(!((zS c d vars).2))=u1 at J
  cases u1
  refine go fun a J=>?_
  refine yN [2,0,1,0,1,2,1,1,0,0,1,2,1,2,0,1,1,1,1] (.q 0 (.q 2 (.q 4 (.q 5 (.q 6 (.q 7 (.q 10 (.q 11 (.q 12 (.q 13 (.e2 1 8 (.e2 3 8 (.e 8 (.e 9 (.e 14 (.q 15 (.q 16 (.q 17 (.q 18 (.done)))))))) (.e 3 (.e 9 (.e 14 (.q 15 (.q 16 (.q 17 (.q 18 (.done))))))))) (.e 1 (.e 3 (.e 9 (.e 14 (.q 15 (.q 16 (.q 17 (.q 18 (.done)))))))))))))))))))) [0,1] J N fun w N=>?_
  refine qM fun a J=>?_
  refine go fun a J=>?_
  have K1:1 < e.args.length:=by omega
  obtain ⟨e0,h⟩:=yG K1
  obtain ⟨U2,q3,L,n⟩:=f0.elem h
  obtain ⟨g5,c135,h5,p4,rfl,k3,E4,F4,y3,S3,z3,T3⟩:=REx.fm n
  refine go fun a J=>?_
  refine gT ?_ ?_
  refine d_e J rfl rfl rfl (kL (sz:=2) (cs:=[]) J N rfl (z7v runUnderlying23 sizeOf36) rfl (by decide) fun v145 w N _=>⟨fun _=>N.sn (Fz.Le.refl _),fun a J=>?_⟩)
  refine gT ?_ ?_
  obtain ⟨o0,J0,U⟩:=id b
  refine d_e J rfl rfl rfl (kK 0 (xs:=[]) (news:=o0) z4c J N rfl rfl rfl (J0.rowIn N.toSees) (U.ones RParam.ones) (by intro n_ m_ m0 n0;have h_:=U.length;simp only [lnQ] at m0;omega) fun v146 w N=>⟨fun _=>N.sn (Fz.Le.refl _),fun a J=>?_⟩)
  replace N:=N.nf
  refine jQ fun z5 w N a J=>?_
  refine d_e J rfl rfl rfl (kK 1 (xs:=o0) (news:=[.string e.name,.string (zS c d vars).1]) z4c J N rfl rfl rfl (N.toSees.rowIn (i:=0) rfl) rfl (by intro n_ m_ m0 n0;have h_:=U.length;simp only [lcQ,lnQ] at n0;omega) fun A5 w N=>⟨fun _=>N.sn (Fz.Le.refl _),fun a J=>?_⟩)
  replace N:=N.nf
  have e1:Chunks (RParam Φ) 2 (o0++[.string e.name,.string (zS c d vars).1]) (vars++[⟨e.name,(zS c d vars).1⟩]):=Chunks.snoc (R:=RParam Φ) (k:=2) (x:=(⟨e.name,(zS c d vars).1⟩:Param)) rfl rfl U
  have f:=N
  clear N
  obtain ⟨Z1,p,N,K0⟩:=f.freezeRow (i:=1) rfl
  clear f
  replace H:=H.up p
  replace m:=RCore.mono _ _ _ _ p m
  replace b:=b.up p
  replace f0:=f0.up p
  replace z:=REx.mono _ _ _ _ p z
  replace I:=I.mono p
  replace A:=REx.mono _ _ _ _ p A
  replace L:=L.mono p
  replace n:=REx.mono _ _ _ _ p n
  replace N:=N.nf
  have w0:SliceOf RParam Z1 2 _ ((vars++[⟨e.name,(zS c d vars).1⟩])):=⟨_,K0,e1⟩
  obtain ⟨i5,q4,D,A3,U3⟩:=w0.form (by decide)
  have g:=N
  clear N
  subst D
  have N:=g
  clear g
  refine zO call80 (fun w N a J=>?_) (c:=ih _ (Ex.lt_args (mgQ h)) m w0 n ((aF O).2.1 _ (mgQ h)) (by have h_:=sZ (mgQ h);rw [if_pos Y] at h_;rw [laQ,lcQ,lnQ];omega) N)
  refine jE ?_
  replace N:=N.le (p)
  replace N:=N.dl [2,1,0]
  have hr_:zS c e vars=((zS c e0 (vars++[⟨e.name,(zS c d vars).1⟩])).1,((zS c e0 (vars++[⟨e.name,(zS c d vars).1⟩])).2)):=by rw [z7m y (by assumption)];exact y5s (by assumption) E h (by first | assumption | exact pC (by assumption) | exact pB (by assumption))
  show _/\_;rw [hr_];exact ⟨rfl,N⟩
  refine jQ fun B5 w N a J=>?_
  obtain ⟨p0,L0,V⟩:=id b
  refine d_e J rfl rfl rfl (kK 1 (xs:=[]) (news:=p0) z4c J N rfl rfl rfl (L0.rowIn N.toSees) (V.ones RParam.ones) (by intro n_ m_ m0 n0;have h_:=V.length;simp only [lnQ] at m0;omega) fun C5 w N=>⟨fun _=>N.sn (Fz.Le.refl _),fun a J=>?_⟩)
  replace N:=N.nf
  refine d_e J rfl rfl rfl (kK 1 (xs:=p0) (news:=[.string e.name,.string (zS c d vars).1]) z4c J N rfl rfl rfl (N.toSees.rowIn (i:=0) rfl) rfl (by intro n_ m_ m0 n0;have h_:=V.length;simp only [lcQ,lnQ] at n0;omega) fun D5 w N=>⟨fun _=>N.sn (Fz.Le.refl _),fun a J=>?_⟩)
  replace N:=N.nf
  have f1:Chunks (RParam Φ) 2 (p0++[.string e.name,.string (zS c d vars).1]) (vars++[⟨e.name,(zS c d vars).1⟩]):=Chunks.snoc (R:=RParam Φ) (k:=2) (x:=(⟨e.name,(zS c d vars).1⟩:Param)) rfl rfl V
  have f:=N
  clear N
  obtain ⟨a2,r,N,M0⟩:=f.freezeRow (i:=1) rfl
  clear f
  replace H:=H.up r
  replace m:=RCore.mono _ _ _ _ r m
  replace b:=b.up r
  replace f0:=f0.up r
  replace z:=REx.mono _ _ _ _ r z
  replace I:=I.mono r
  replace A:=REx.mono _ _ _ _ r A
  replace L:=L.mono r
  replace n:=REx.mono _ _ _ _ r n
  replace N:=N.nf
  have x0:SliceOf RParam a2 2 _ ((vars++[⟨e.name,(zS c d vars).1⟩])):=⟨_,M0,f1⟩
  obtain ⟨j5,c173,D,B3,V3⟩:=x0.form (by decide)
  have g:=N
  clear N
  subst D
  have N:=g
  clear g
  refine zO call80 (fun w N a J=>?_) (c:=ih _ (Ex.lt_args (mgQ h)) m x0 n ((aF O).2.1 _ (mgQ h)) (by have h_:=sZ (mgQ h);rw [if_pos Y] at h_;rw [laQ,lcQ,lnQ];omega) N)
  refine jE ?_
  replace N:=N.le (r)
  replace N:=N.dl [2,1,0]
  have hr_:zS c e vars=((zS c e0 (vars++[⟨e.name,(zS c d vars).1⟩])).1,((zS c e0 (vars++[⟨e.name,(zS c d vars).1⟩])).2)):=by rw [z7m y (by assumption)];exact y5s (by assumption) E h (by first | assumption | exact pC (by assumption) | exact pB (by assumption))
  show _/\_;rw [hr_];exact ⟨rfl,N⟩
  refine jQ fun E5 w N a J=>?_
  refine d_e J rfl rfl rfl (kL (sz:=2) (cs:=[]) J N rfl (z7v runUnderlying23 sizeOf36) rfl (by decide) fun F5 w N _=>⟨fun _=>N.sn (Fz.Le.refl _),fun a J=>?_⟩)
  obtain ⟨q0,N0,W⟩:=id b
  refine d_e J rfl rfl rfl (kK 0 (xs:=[]) (news:=q0) z4c J N rfl rfl rfl (N0.rowIn N.toSees) (W.ones RParam.ones) (by intro n_ m_ m0 n0;have h_:=W.length;simp only [lnQ] at m0;omega) fun G5 w N=>⟨fun _=>N.sn (Fz.Le.refl _),fun a J=>?_⟩)
  replace N:=N.nf
  refine d_e J rfl rfl rfl (kK 0 (xs:=q0) (news:=[.string e.name,.string (zS c d vars).1]) z4c J N rfl rfl rfl (N.toSees.rowIn (i:=1) rfl) rfl (by intro n_ m_ m0 n0;have h_:=W.length;simp only [lcQ,lnQ] at n0;omega) fun H5 w N=>⟨fun _=>N.sn (Fz.Le.refl _),fun a J=>?_⟩)
  replace N:=N.nf
  have g1:Chunks (RParam Φ) 2 (q0++[.string e.name,.string (zS c d vars).1]) (vars++[⟨e.name,(zS c d vars).1⟩]):=Chunks.snoc (R:=RParam Φ) (k:=2) (x:=(⟨e.name,(zS c d vars).1⟩:Param)) rfl rfl W
  have f:=N
  clear N
  obtain ⟨b2,s,N,O0⟩:=f.freezeRow (i:=0) rfl
  clear f
  replace H:=H.up s
  replace m:=RCore.mono _ _ _ _ s m
  replace b:=b.up s
  replace f0:=f0.up s
  replace z:=REx.mono _ _ _ _ s z
  replace I:=I.mono s
  replace A:=REx.mono _ _ _ _ s A
  replace L:=L.mono s
  replace n:=REx.mono _ _ _ _ s n
  replace N:=N.nf
  have y0:SliceOf RParam b2 2 _ ((vars++[⟨e.name,(zS c d vars).1⟩])):=⟨_,O0,g1⟩
  obtain ⟨k5,r4,D,C3,W3⟩:=y0.form (by decide)
  have g:=N
  clear N
  subst D
  have N:=g
  clear g
  refine zO call80 (fun w N a J=>?_) (c:=ih _ (Ex.lt_args (mgQ h)) m y0 n ((aF O).2.1 _ (mgQ h)) (by have h_:=sZ (mgQ h);rw [if_pos Y] at h_;rw [laQ,lcQ,lnQ];omega) N)
  refine jE ?_
  replace N:=N.le (s)
  replace N:=N.dl [2,1,0]
  have hr_:zS c e vars=((zS c e0 (vars++[⟨e.name,(zS c d vars).1⟩])).1,((zS c e0 (vars++[⟨e.name,(zS c d vars).1⟩])).2)):=by rw [z7m y (by assumption)];exact y5s (by assumption) E h (by first | assumption | exact pC (by assumption) | exact pB (by assumption))
  show _/\_;rw [hr_];exact ⟨rfl,N⟩
  refine jE ?_
  replace N:=N.dl [1,0]
  have hr_:zS c e vars=((⟨#[]⟩:Bs),false):=by rw [z7m y (by assumption)];exact j3b E (by first | assumption | exact pC (by assumption) | exact pB (by assumption))
  show _/\_;rw [hr_];exact ⟨rfl,N⟩
  refine jE ?_
  replace N:=N.dl [1,0]
  have hr_:zS c e vars=((⟨#[]⟩:Bs),false):=by rw [z7m y (by assumption)];exact letR_no (by assumption)
  show _/\_;rw [hr_];exact ⟨rfl,N⟩
  by_cases T:e.kind=7
  refine zO call112 (fun w N a J=>?_) (c:=j1w m b z hL O hb ih N)
  refine jE ?_
  replace N:=N.dl [1,0]
  have hr_:zS c e vars=((nD c e vars).1,((nD c e vars).2)):=by exact typeR_7 y (by assumption)
  show _/\_;rw [hr_];exact ⟨rfl,N⟩
  refine go fun a J=>?_
  replace N:=N.nilRow 9 1
  replace N:=N.nf
  refine zT (J.ks [1,3,5]) N (fun R mm a w=>∃(i:Nat) (u:Value) (ts:List Bs),mm=e.args.length - i/\R Φ [(12,u),(13,.int .i64 i)] [(0,.gs (u) 9 1 (strs ts))] a w/\(ts.length=i/\typesR c e.args vars=(ts++(typesR c (e.args.drop i) vars).1,(typesR c (e.args.drop i) vars).2))) (e.args.length - 0) ⟨0,.slice none 0 0,[],rfl,⟨J.pk,N⟩,⟨rfl,rfl⟩⟩ ?_
  clear N J
  rintro mm a w ⟨i,u,ts,g0,⟨J,N⟩,F1⟩ i4 G1
  replace N:=N.nf
  obtain ⟨B2,U1⟩:=F1
  by_cases h1:i < e.args.length
  refine Reg [2,1,1,2,1,1,2,0,1,1,1,1,1] [0,1,2] fun w N a J=>?_
  refine go fun a J=>?_
  obtain ⟨t5,rfl,Z0,b0,V2,r3,a3,I0⟩:=f0.el m1 h1
  obtain ⟨l5,s4,m5,t4,rfl,l3,G4,H4,D3,X3,E3,Y3⟩:=REx.fm I0
  refine zO call80 (fun w N a J=>?_) (c:=ih _ (Ex.lt_args (mgQ b0)) m b I0 ((aF O).2.1 _ (mgQ b0)) (by have h_:=sZ (mgQ b0);omega) N)
  refine go fun a J=>?_
  generalize g3:(!((zS c Z0 vars).2))=w1 at J
  cases w1
  refine jQ fun I5 w N a J=>?_
  refine vH 1 xP (fun v232 w N a J=>?_) (hb:=by rw [zR,B2];have h_:=(aF O).1;simp only [lcQ,lnQ];omega)
  first | rw [qC] at N | rw [<- yK] at N
  refine go fun a J=>?_
  replace N:=N.dl [0]
  refine G1 _ _ _ (by subst g0;omega) ⟨(i+1),(v232),(ts++[(zS c Z0 vars).1]),rfl,⟨J.pk,N⟩,?_⟩
  exact ⟨by simp [B2],by rw [U1,zA b0,y1h,if_neg (by rw [show (zS c Z0 vars).2=true from (by first | assumption | exact pC (by assumption) | exact pB (by assumption))];decide)];simp⟩
  refine jE ?_
  replace N:=N.dl [2,1,0]
  have hr_:zS c e vars=((⟨#[]⟩:Bs),false):=by exact x3b y j0 k0 l0 Y T (by rw [U1,zA b0,y1h,if_pos (by first | assumption | exact pC (by assumption) | exact pB (by assumption))])
  show _/\_;rw [hr_];exact ⟨rfl,N⟩
  refine goR 37 fun a J=>?_
  have T0:typesR c e.args vars=(ts,true):=by rw [U1,zB h1];simp [typesR]
  have f:=N
  clear N
  obtain ⟨h0,t,N,P0⟩:=f.freezeRow (i:=0) rfl
  clear f
  replace H:=H.up t
  replace m:=RCore.mono _ _ _ _ t m
  replace z:=REx.mono _ _ _ _ t z
  replace N:=N.nf
  have X:SliceOf RStr h0 1 _ (ts):=SliceOf.strs.2 P0
  obtain ⟨I2,k2,D,F3,O1⟩:=X.form (by decide)
  have g:=N
  clear N
  subst D
  have N:=g
  clear g
  refine goJ 63 fun a J=>?_
  refine sq fun j2 H1=>?_
  have a0:∀a w,(∃(c0:Fz) (v:Value) (wl:List Bs) (o:Bs),EnvR 268 [(12,.slice I2 (ts).length k2),(16,v),(17,.string o)] [] a/\Mem c0 (.blk d1 (ob [.int .i64 (e.kind),.int .i64 (e.num),.string e.name,.slice X1 e.args.length A1,.slice Y1 e.arms.length B1] 110)::.blk b1 (ob [.slice p3 c.datas.length c4,.slice p9 c.inputs.length y1,.slice H2 c.funs.length z1,.slice W1 c.outputs.length c22] 27)::K) w/\(h0.Le c0/\(SliceOf RStr c0 1 v wl/\wV c e.kind e.name=some (wl,o))))->j2 a w:=by
   clear N J
   rintro a w ⟨c0,v,wl,o,J,N,r0⟩
   obtain ⟨F,r0⟩:=r0
   replace H:=H.up F
   replace m:=RCore.mono _ _ _ _ F m
   replace z:=REx.mono _ _ _ _ F z
   replace X:=X.up F
   apply H1
   obtain ⟨n1,U0⟩:=r0
   refine go fun a J=>?_
   obtain ⟨n5,u4,D,G3,P1⟩:=n1.form (by decide)
   subst D
   by_cases i1:wl.length=(ts).length
   refine go fun a J=>?_
   refine zT (J.ks [12,16,17]) N (fun R mm a w=>∃(i:Nat),mm=wl.length - i/\R c0 [(23,.int .i64 i)] [] a w/\(wl.take i=ts.take i)) (wl.length - 0) ⟨0,rfl,⟨J.pk,N⟩,rfl⟩ ?_
   clear N J
   rintro mm a w ⟨i,g0,⟨J,N⟩,E0⟩ j4 I1
   by_cases n2:i < wl.length
   refine Reg [1,1,1,2,1,1,1,2,1] [0,1] fun w N a J=>?_
   refine go fun a J=>?_
   obtain ⟨u5,rfl,s1,V0,C1,s3,b3,R1⟩:=n1.el P1 n2
   obtain rfl:C1=[.string s1]:=R1
   refine go fun a J=>?_
   have L1:i < (ts).length:=by omega
   obtain ⟨v5,rfl,t1,W0,D1,t3,d3,S1⟩:=X.el O1 L1
   obtain rfl:D1=[.string t1]:=S1
   by_cases j1:s1=t1
   refine go fun a J=>?_
   refine I1 _ _ _ (by subst g0;omega) ⟨(i+1),rfl,⟨J.pk,N⟩,?_⟩
   rw [jB V0,jB W0,E0,j1]
   refine jE ?_
   replace N:=N.le ((t).trans F)
   replace N:=N.dl [1,0]
   have hr_:zS c e vars=((⟨#[]⟩:Bs),false):=by rw [z5n y j0 k0 l0 Y T U0 T0,if_neg (fun e=>j1 (Option.some.inj (by rw [<- V0,e];exact W0)))];rfl
   show _/\_;rw [hr_];exact ⟨rfl,N⟩
   refine jE ?_
   replace N:=N.le ((t).trans F)
   replace N:=N.dl [1,0]
   have hr_:zS c e vars=(o,true):=by rw [z5n y j0 k0 l0 Y T U0 T0,if_pos (by have h_:=E0;rw [List.take_of_length_le (by omega),List.take_of_length_le (by omega)] at h_;exact h_)]
   show _/\_;rw [hr_];exact ⟨rfl,N⟩
   refine jE ?_
   replace N:=N.le ((t).trans F)
   replace N:=N.dl [1,0]
   have hr_:zS c e vars=((⟨#[]⟩:Bs),false):=by rw [z5n y j0 k0 l0 Y T U0 T0,if_neg (fun e=>by rw [e] at i1;exact i1 rfl)];rfl
   show _/\_;rw [hr_];exact ⟨rfl,N⟩
  by_cases o2:e.kind=4
  refine yU call113 (fun R2 w E1 N a J=>?_) (c:=j8x m hL.1 N)
  obtain ⟨c2,B4⟩:=R2
  obtain ⟨M,H0⟩:=E1
  simp only at M H0 N J
  replace H:=H.up M
  replace m:=RCore.mono _ _ _ _ M m
  replace z:=REx.mono _ _ _ _ M z
  replace N:=N.nf
  obtain ⟨x5,rfl,k1⟩:=id H0
  obtain ⟨J2,l2,rfl,H3,Z3⟩:=k1.fm
  refine Alc fun l4 w N a J=>?_
  refine Sto 0 fun w N a J=>?_
  refine go fun a J=>?_
  generalize h3:(!(nO c.datas e.name).isSome)=x1 at J
  cases x1
  refine go fun a J=>?_
  replace N:=N.dl [0]
  exact a0 _ _ ⟨c2,.slice J2 (((nO c.datas e.name).map Maker.con).getD y0u).fields.length l2,(((nO c.datas e.name).map Maker.con).getD y0u).fields,(((nO c.datas e.name).map Maker.data).getD sNo),J.pk,N,⟨M,⟨k1,by rw [want_4 o2];obtain ⟨m_,O3⟩:=Option.isSome_iff_exists.1 (show (nO c.datas e.name).isSome=true from (by first | assumption | exact pC (by assumption) | exact pB (by assumption)));rw [O3];rfl⟩⟩⟩
  refine jE ?_
  replace N:=N.le ((t).trans M)
  replace N:=N.dl [2,1,0]
  have hr_:zS c e vars=((⟨#[]⟩:Bs),false):=by exact z0n y j0 k0 l0 Y T (by rw [want_4 (by assumption),x8i (o:=nO c.datas e.name) (by first | assumption | exact pC (by assumption) | exact pB (by assumption))];rfl)
  show _/\_;rw [hr_];exact ⟨rfl,N⟩
  by_cases p2:e.kind=5
  refine zO call81 (fun w N a J=>?_) (c:=z8k m N)
  by_cases t0:mZ c.funs e.name < 0
  refine jE ?_
  replace N:=N.le (t)
  replace N:=N.dl [1,0]
  have hr_:zS c e vars=((⟨#[]⟩:Bs),false):=by exact z0n y j0 k0 l0 Y T (by rw [want_5 (by assumption)];unfold mZ at t0;cases i3:nE c.funs e.name with | none=>rfl | some j=>rw [i3] at t0;simp only at t0;omega)
  show _/\_;rw [hr_];exact ⟨rfl,N⟩
  refine go fun a J=>?_
  obtain ⟨j,hj⟩:=y0j t0
  have U5:=q7y hj
  rw [show mZ c.funs e.name=((j:Nat):Int) by rw [mZ,hj]] at J
  have M1:j < c.funs.length:=by omega
  obtain ⟨L2,rfl,C,X0,W2,u3,G0,s0⟩:=H.el D2 M1
  obtain ⟨y5,m4,rfl,l1,C0⟩:=id s0
  obtain ⟨o5,v4,rfl,I3,Q1⟩:=l1.fm
  obtain ⟨p5,w4,q5,x4,rfl,m3,I4,J4,J3,a4,K3,b4⟩:=REx.fm C0
  refine go fun a J=>?_
  replace N:=N.nilRow 9 1
  replace N:=N.nf
  refine zT (J.ks [3,12,21]) N (fun R mm a w=>∃(k:Nat) (u:Value),mm=C.params.length - k/\R h0 [(16,u),(22,.int .i64 k)] [(0,.gs (u) 9 1 (strs ((C.params.take k).map Param.type)))] a w/\(True)) (C.params.length - 0) ⟨0,.slice none 0 0,rfl,⟨J.pk,N⟩,trivial⟩ ?_
  clear N J
  rintro mm a w ⟨k,u,g0,⟨J,N⟩,Y2⟩ k4 J1
  replace N:=N.nf
  by_cases q2:k < C.params.length
  refine go fun a J=>?_
  obtain ⟨w5,rfl,O2,V1,X2,v3,e3,T1⟩:=l1.el Q1 q2
  obtain rfl:=id T1
  refine jQ fun N2 w N a J=>?_
  refine vH 1 xP (fun r1 w N a J=>?_) (hb:=by rw [zR,List.length_map,List.length_take];have h_:=hL.2 _ (mgQ X0);simp only [lcQ,lnQ];omega)
  replace N:Mem h0 (.gs (N2) 9 1 [.string O2.type]::.gs (r1) 9 1 (strs ((C.params.take (k+1)).map Param.type))::.blk d1 (ob [.int .i64 (e.kind),.int .i64 (e.num),.string e.name,.slice X1 e.args.length A1,.slice Y1 e.arms.length B1] 110)::.blk b1 (ob [.slice p3 c.datas.length c4,.slice p9 c.inputs.length y1,.slice (some L2) c.funs.length z1,.slice W1 c.outputs.length c22] 27)::K) w:=by rw [jB V1,List.map_append,yK];exact N
  refine go fun a J=>?_
  replace N:=N.dl [0]
  refine J1 _ _ _ (by subst g0;omega) ⟨(k+1),(r1),rfl,⟨J.pk,N⟩,?_⟩
  trivial
  refine go fun a J=>?_
  rw [List.take_of_length_le (l:=C.params) (by omega)] at N
  have f:=N
  clear N
  obtain ⟨a1,P,N,Q0⟩:=f.freezeRow (i:=0) rfl
  clear f
  replace m:=RCore.mono _ _ _ _ P m
  replace z:=REx.mono _ _ _ _ P z
  replace G0:=G0.mono P
  replace s0:=RFun.mono _ _ _ _ P s0
  replace C0:=REx.mono _ _ _ _ P C0
  replace N:=N.nf
  have z0:SliceOf RStr a1 1 _ ((C.params.map Param.type)):=SliceOf.strs.2 Q0
  obtain ⟨K2,m2,D,L3,d4⟩:=z0.form (by decide)
  have g:=N
  clear N
  subst D
  have N:=g
  clear g
  refine go fun a J=>?_
  exact a0 _ _ ⟨a1,.slice K2 ((C.params.map Param.type)).length m2,(C.params.map Param.type),C.result,J.pk,N,⟨P,⟨z0,by rw [want_5 p2,hj];simp only;rw [X0];rfl⟩⟩⟩
  by_cases D0:e.kind=8
  refine jQ fun J5 w N a J=>?_
  refine go fun a J=>?_
  have f:=N
  clear N
  obtain ⟨f2,S,N,R0⟩:=f.freezeRow (i:=0) rfl
  clear f
  replace m:=RCore.mono _ _ _ _ S m
  replace z:=REx.mono _ _ _ _ S z
  replace N:=N.nf
  have B:SliceOf RStr f2 1 _ ([yT,yT]):=SliceOf.strs.2 R0
  obtain ⟨Y0,B0,D,M3,e4⟩:=B.form (by decide)
  have g:=N
  clear N
  subst D
  have N:=g
  clear g
  refine jQ fun K5 w N a J=>?_
  refine go fun a J=>?_
  have f:=N
  clear N
  obtain ⟨i0,G,N,S0⟩:=f.freezeRow (i:=0) rfl
  clear f
  replace m:=RCore.mono _ _ _ _ G m
  replace z:=REx.mono _ _ _ _ G z
  replace B:=B.up G
  replace N:=N.nf
  have A0:SliceOf RStr i0 1 _ ([⟨#[43]⟩,⟨#[45]⟩,⟨#[42]⟩,⟨#[47]⟩,⟨#[37]⟩]):=SliceOf.strs.2 S0
  obtain ⟨r5,y4,D,N3,f4⟩:=A0.form (by decide)
  have g:=N
  clear N
  subst D
  have N:=g
  clear g
  refine yH call18 (fun Z w N a J=>?_) (fun Z w N a J=>?_) (c:=y2y A0 N)
  refine go fun a J=>?_
  exact a0 _ _ ⟨i0,.slice Y0 ([yT,yT]).length B0,[yT,yT],(⟨#[73,110,116]⟩:Bs),J.pk,N,⟨(S).trans G,⟨B,by rw [q5v D0,opR,if_pos Z];rfl⟩⟩⟩
  by_cases K4:e.name=(⟨#[60]⟩:Bs)
  rotate_left
  by_cases L4:e.name=(⟨#[61]⟩:Bs)
  rotate_left
  refine jE ?_
  replace N:=N.le (((t).trans S).trans G)
  replace N:=N.dl [1,0]
  have hr_:zS c e vars=((⟨#[]⟩:Bs),false):=by exact z0n y j0 k0 l0 Y T (by rw [q5v (by assumption),opR,if_neg (by rw [Z];decide),if_neg (by rintro (h_ | h_) <;> contradiction)];rfl)
  show _/\_;rw [hr_];exact ⟨rfl,N⟩
  refine jE ?_
  replace N:=N.le (t)
  replace N:=N.dl [1,0]
  have hr_:zS c e vars=((⟨#[]⟩:Bs),false):=by exact z0n y j0 k0 l0 Y T (want_no (by assumption) (by assumption) (by assumption))
  show _/\_;rw [hr_];exact ⟨rfl,N⟩
  all_goals (refine go fun a J=>?_;exact a0 _ _ ⟨i0,.slice Y0 ([yT,yT]).length B0,[yT,yT],(⟨#[66,111,111,108]⟩:Bs),J.pk,N,⟨(S).trans G,⟨B,by rw [q5v D0,opR,if_neg (by rw [Z];decide),if_pos (by first | exact .inl (by assumption) | exact .inr (by assumption))];rfl⟩⟩⟩)
 by_cases M4:e.kind=7
 by_cases N4:e.kind=1
 rotate_left
 by_cases O4:e.num=0
 rotate_left
 refine jE ?_
 replace N:=N.dl [1,0]
 have hr_:zS c e vars=((⟨#[]⟩:Bs),false):=by exact y8m (by unfold cI;omega)
 show _/\_;rw [hr_];exact ⟨rfl,N⟩
 by_cases P4:0 < e.arms.length
 refine jE ?_
 replace N:=N.dl [1,0]
 have hr_:zS c e vars=((⟨#[]⟩:Bs),false):=by exact y8m (by unfold cI;omega)
 show _/\_;rw [hr_];exact ⟨rfl,N⟩
 by_cases Q4:e.kind=1
 rotate_left
 refine go fun a J=>?_
 by_cases R4:e.num=0
 rotate_left
 refine jE ?_
 replace N:=N.dl [1,0]
 have hr_:zS c e vars=((⟨#[]⟩:Bs),false):=by exact y8m (by unfold cI;omega)
 show _/\_;rw [hr_];exact ⟨rfl,N⟩
 all_goals (refine go fun a J=>?_;exact u0 _ _ ⟨J.pk,N,by unfold cI;omega⟩)
section
variable {Φ:Fz} {K:List Res} {w:World}
theorem x3a {d0:List Value} {c:Core} {b:Value} {vars:List Param} {d2:List Value} {e:Ex} (d:RCore Φ d0 c) (a:SliceOf RParam Φ 2 b vars) (f:REx Φ d2 e) (i:Lim c) (O:dV e) (hb:vars.length+(zN e).length<=1000000) (N:Mem Φ K w) :
  Calls prog 80 #[.agg d0.toArray,b,.agg d2.toArray] w (fun ee w'=>ee=.returned (.tuple #[.string (zS c e vars).1,.bool (zS c e vars).2])/\Mem Φ K w'):=by
 suffices H:∀n (e:Ex),e.sz < n->∀{Φ:Fz} {K:List Res} {w:World} {d0:List Value} {b:Value} {vars:List Param} {d2:List Value},RCore Φ d0 c->SliceOf RParam Φ 2 b vars->REx Φ d2 e->dV e->vars.length+(zN e).length<=1000000->Mem Φ K w->Calls prog 80 #[.agg d0.toArray,b,.agg d2.toArray] w (fun ee w'=>ee=.returned (.tuple #[.string (zS c e vars).1,.bool (zS c e vars).2])/\Mem Φ K w') from H _ e (Nat.lt_succ_self _) d a f O hb N
 intro n
 induction n with
 | zero=>intro e h;omega
 | succ n j=>intro e h Φ K w d0 b vars d2 g g1 r O hb m;exact j5g g g1 r i O hb (fun x l _ _ _ _ _ _ _ q0 k r O hb m=>j x (by omega) q0 k r O hb m) m
theorem q4d {v:Value} {l:List Bs} {s:Bs} (N:Mem Φ (.gs v 9 1 (strs l)::K) w) :
  Calls prog 18 #[v,.string s] w (fun ee w'=>ee=.returned (.bool (gB l s))/\Mem Φ (.gs v 9 1 (strs l)::K) w'):=by
 obtain ⟨Ψ,_,a,b,c⟩:=N.freezeRowT (i:=0) rfl
 exact (y2y (SliceOf.strs.2 b) a).mono fun ee w' h=>⟨h.1,c _ _ h.2⟩
theorem q3j {d0:List Value} {c:Core} (c0:RCore Φ d0 c) (w0:c.datas.length<=60) (P:∀d∈c.datas,d.cons.length<=16) (N:Mem Φ K w) :
  Calls prog 75 #[.agg d0.toArray] w (fun ee w'=>ee=.returned (.bool (z2v c.datas))/\Mem Φ K w'):=by
 obtain ⟨p3,c4,p9,L0,W0,M0,X0,c22,rfl,h2,h8,P0,R0,V0,k0,x0,C0,y0,D0,z0,E0⟩:=RCore.fm c0
 refine zL func75 ntmps75 fun Q hQ a J=>?_
 refine Bx fun J0 w N a J=>?_
 refine jQ fun l0 w N a J=>?_
 refine jQ fun m0 w N a J=>?_
 refine go fun a J=>?_
 replace N:=N.nf
 refine zT (J.ks [1]) N (fun R mm a w=>∃(i:Nat) (u:Value) (nl:List Bs) (u2:Value) (cl:List Bs),mm=c.datas.length - i/\R Φ [(3,u),(4,u2),(5,.int .i64 i)] [(0,.gs (u2) 9 1 (strs cl)),(1,.gs (u) 9 1 (strs nl))] a w/\(i<=c.datas.length/\nl.length=2+i/\cl.length<=2+16 * i/\z2v c.datas=cL c.datas (c.datas.drop i) nl cl)) (c.datas.length - 0) ⟨0,l0,[yT,kV],m0,[y7o,j0j],rfl,⟨J.pk,N⟩,⟨Nat.zero_le _,rfl,by decide,rfl⟩⟩ ?_
 clear N J
 rintro mm a w ⟨i,u,nl,u2,cl,p,⟨J,N⟩,G⟩ G0 I
 replace N:=N.nf
 obtain ⟨T0,i0,U0,g⟩:=G
 by_cases v:i < c.datas.length
 refine go fun a J=>?_
 obtain ⟨a1,rfl,e,b,p0,t0,r0,a0⟩:=h2.el k0 v
 obtain ⟨c1,rfl,y⟩:=id a0
 obtain ⟨Y0,N0,rfl,A0,W⟩:=y.fm
 refine Alc fun K0 w N a J=>?_
 refine Sto 0 fun w N a J=>?_
 refine yH call108 (fun C w N a J=>?_) (fun C w N a J=>?_) (c:=q1c N)
 replace N:=N.pl 2
 refine yH call18 (fun D w N a J=>?_) (fun D w N a J=>?_) (c:=q4d (l:=nl) N)
 refine zC ?_
 replace N:=N.dl [3,2,1,0]
 rotate_left
 by_cases S0:e.cons.length=0
 refine zC ?_
 replace N:=N.dl [3,2,1,0]
 rotate_left
 have T:conR e.name=true:=by assumption
 have U:(!gB nl e.name)=true:=by simp [*]
 have V:decide (e.cons.length≠0)=true:=by simp only [decide_eq_true_eq];omega
 refine jQ fun e1 w N a J=>?_
 refine vH 1 xP (fun n0 w N a J=>?_) (hb:=by rw [zR];simp only [lcQ,lnQ];omega)
 first | rw [qC] at N | rw [<- yK] at N
 refine go fun a J=>?_
 refine zT (J.ks [1,3,5,6]) N (fun R mm a w=>∃(k:Nat) (u3:Value) (cm:List Bs),mm=e.cons.length - k/\R Φ [(4,u3),(7,.int .i64 k)] [(3,.gs (u3) 9 1 (strs cm))] a w/\(cl++(e.cons.take k).map Con.name=cm/\z0t c.datas e.cons cl=z0t c.datas (e.cons.drop k) cm)) (e.cons.length - 0) ⟨0,u2,cl,rfl,⟨J.pk,N⟩,⟨by simp,rfl⟩⟩ ?_
 clear N J
 rintro mm a w ⟨k,u3,cm,p,⟨J,N⟩,H⟩ H0 L
 replace N:=N.nf
 obtain ⟨s,o⟩:=H
 by_cases z:k < e.cons.length
 refine go fun a J=>?_
 obtain ⟨b1,rfl,f,h,q0,u0,s0,b0⟩:=y.el W z
 obtain ⟨d1,rfl,A⟩:=id b0
 obtain ⟨Z0,O0,rfl,B0,X⟩:=A.fm
 refine yH call108 (fun E w N a J=>?_) (fun E w N a J=>?_) (c:=q1c N)
 replace N:=N.pl 3
 refine yH call18 (fun F w N a J=>?_) (fun F w N a J=>?_) (c:=q4d (l:=cm) N)
 refine zC ?_
 replace N:=N.dl [4,3,2,1,0]
 exact zQ N (by rw [g,zA b,cL,o,zA h,z0t];simp [*])
 have Y:conR f.name=true:=by assumption
 have Z:(!gB cm f.name)=true:=by simp [*]
 refine jQ fun f1 w N a J=>?_
 refine vH 1 xP (fun o0 w N a J=>?_) (hb:=by have h_:=P _ (mgQ b);rw [zR,<- s,laQ,List.length_map,List.length_take];simp only [lcQ,lnQ];omega)
 first | rw [qC] at N | rw [<- yK] at N
 refine go fun a J=>?_
 refine zT (J.ks [1,3,4,5,6,7]) N (fun R mm a w=>∃(j:Nat),mm=f.fields.length - j/\R Φ [(8,.int .i64 j)] [] a w/\(f.fields.all (jY c.datas)=(f.fields.drop j).all (jY c.datas))) (f.fields.length - 0) ⟨0,rfl,⟨J.pk,N⟩,rfl⟩ ?_
 clear N J
 rintro mm a w ⟨j,p,⟨J,N⟩,n⟩ I0 M
 by_cases B:j < f.fields.length
 refine Reg [2,1,2,1,1,1,2,1,1,2,0,1] [0,1,2,3,4,5] fun w N a J=>?_
 refine go fun a J=>?_
 obtain ⟨F0,rfl,e0,q,r,j0,h0,t⟩:=A.el X B
 obtain rfl:r=[.string e0]:=t
 refine yH call78 (fun m w N a J=>?_) (fun m w N a J=>?_) (c:=z4v c0 N)
 refine go fun a J=>?_
 refine M _ _ _ (by subst p;omega) ⟨(j+1),rfl,⟨J.pk,N⟩,?_⟩
 rw [n,zA q,List.all_cons,m,Bool.true_and]
 refine zC ?_
 replace N:=N.dl [5,4,3,2,1,0]
 exact zQ N (by rw [g,zA b,cL,o,zA h,z0t,show f.fields.all (jY c.datas)=false by rw [n,zA q,List.all_cons,m];rfl];simp)
 refine go fun a J=>?_
 replace N:=N.ar [0] [4,1,4,4,4]
 refine L _ _ _ (by subst p;omega) ⟨(k+1),(o0),(cm++[f.name]),rfl,⟨J.pk,N⟩,?_⟩
 exact ⟨by rw [jB h,<- s];simp,by rw [o,zA h,z0t,Y,Z,show f.fields.all (jY c.datas)=true by rw [n,zB B];rfl];rfl⟩
 refine zC ?_
 replace N:=N.dl [4,3,2,1,0]
 exact zQ N (by rw [g,zA b,cL,o,zA h,z0t];simp [*])
 refine go fun a J=>?_
 have S:cm=cl++e.cons.map Con.name:=by rw [<- s,List.take_of_length_le (by omega)]
 rw [S] at N
 refine go fun a J=>?_
 replace N:=N.ar [2,0] [2,1,2]
 refine I _ _ _ (by subst p;omega) ⟨(i+1),(n0),(nl++[e.name]),(u3),(cl++e.cons.map Con.name),rfl,⟨J.pk,N⟩,?_⟩
 exact ⟨by omega,by simp [i0];omega,by have h_:=P _ (mgQ b);rw [laQ,List.length_map];omega,by rw [g,zA b,cL,T,U,V,show z0t c.datas e.cons cl=true by rw [o,zB z];rfl];rfl⟩
 refine zC ?_
 replace N:=N.dl [3,2,1,0]
 rotate_left
 refine zC ?_
 replace N:=N.dl [2,1,0]
 exact zQ N (by rw [g,zB v];rfl)
 all_goals (exact zQ N (by rw [g,zA b,cL];simp [*]))
end
theorem y0m (f:Fun) (fs:List Fun) (n:Nat):dS (f::fs) n=if 16 < f.params.length then true else dS fs (if n<=6000 then n+xE f.body (6000 - n) else n):=rfl
theorem z6x:∀{fs:List Fun} {l:Int},dX fs l=false->∀f∈fs,f.params.length<=16
 | f::fs,l,h,g,a=>by
  simp only [dX,Bool.or_eq_false_iff,decide_eq_false_iff_not] at h
  rcases List.mem_cons.1 a with rfl | a
  omega
  exact z6x h.2 g a
theorem j4q {e:Ex} (h:dV e):(zN e).length<=102000:=by
 obtain ⟨l,h1,a⟩:=h
 have b:=z3i e l a
 have:=(wI e l a).1
 omega
theorem x0x {c:Core} (h:sG c=false):c.datas.length<=60/\c.inputs.length<=6/\c.funs.length<=300/\c.outputs.length<=6/\(∀d∈c.datas,d.cons.length<=16)/\(∀f∈c.funs,f.params.length<=16/\dV f.body/\(zN f.body).length<=102000)/\Lim c:=by
 rw [q8u] at h
 have e:=fun f a=>z5c h (f:=f) a
 simp only [xL,Bool.or_eq_false_iff,decide_eq_false_iff_not,List.any_eq_false] at h
 obtain ⟨⟨⟨⟨⟨h1,k⟩,l⟩,m⟩,g⟩,i⟩:=h
 have b:∀f∈c.funs,f.params.length<=16/\dV f.body/\(zN f.body).length<=102000:=fun f a=>⟨z6x i f a,e f a,j4q (e f a)⟩
 refine ⟨by omega,by omega,by omega,by omega,fun d j=>?_,b,by omega,fun f a=>by have:=(b f a).1;omega⟩
 have:=g d j
 simp only [dD,Bool.or_eq_true,decide_eq_true_eq,not_or] at this
 omega
theorem vV {c:Core} (h1:c.funs.any (fun f=>xT 250 f.body)=false) (a:sG c=false) (b:kB c=false):uJ c=80:=by rw [uJ,h1,a,b];rfl
theorem x3y {c:Core} (h1:c.funs.any (fun f=>xT 250 f.body)=false) (a:sG c=false) (b:kB c=true):uJ c=0:=by rw [uJ,h1,a,b];rfl
theorem outR_no {fs:List Fun} {o:Bs} (h:mZ fs o < 0):y2n fs o=false:=by
 unfold mZ at h;unfold y2n
 cases a:nE fs o with
 | none=>rfl
 | some j=>rw [a] at h;simp only at h;omega
theorem j7p {fs:List Fun} {o:Bs} {j:Nat} {f:Fun} (h:nE fs o=some j) (a:fs[j]? = some f):y2n fs o=decide (f.params.length=0):=by unfold y2n;rw [h];simp only;rw [a]
theorem j2s {Φ:Fz} {K:List Res} {w:World} {d0:List Value} {c:Core} (u0:RCore Φ d0 c) (N:Mem Φ K w) :
  Calls prog 74 #[.agg d0.toArray] w (fun ee w'=>ee=.returned (.bool (sG c))/\Mem Φ K w'):=by
 obtain ⟨p3,c4,p9,f0,f1,g0,s0,c22,rfl,h2,h8,h0,Y0,d1,r0,J0,O0,K0,X,L0,P0⟩:=RCore.fm u0
 refine zL func74 ntmps74 fun Q hQ a J=>?_
 refine Bx fun A w N a J=>?_
 by_cases Z0:60 < c.datas.length
 refine zC ?_
 replace N:=N.dl [0]
 exact zQ N (by simp [sG, *])
 by_cases a1:6 < c.inputs.length
 refine zC ?_
 replace N:=N.dl [0]
 exact zQ N (by simp [sG, *])
 by_cases b1:300 < c.funs.length
 refine zC ?_
 replace N:=N.dl [0]
 exact zQ N (by simp [sG, *])
 refine go fun a J=>?_
 by_cases c1:6 < c.outputs.length
 refine zC ?_
 replace N:=N.dl [0]
 exact zQ N (by simp [sG, *])
 refine go fun a J=>?_
 refine zT (J.ks [1]) N (fun R mm a w=>∃(i:Nat),mm=c.datas.length - i/\R Φ [(3,.int .i64 i)] [] a w/\(sG c=((c.datas.drop i).any dD || dS c.funs 0))) (c.datas.length - 0) ⟨0,rfl,⟨J.pk,N⟩,by simp [sG, *]⟩ ?_
 clear N J
 rintro mm a w ⟨i,h,⟨J,N⟩,e⟩ T0 P
 by_cases E:i < c.datas.length
 refine go fun a J=>?_
 obtain ⟨k1,rfl,d,l,z0,G0,E0,Z⟩:=h2.el r0 E
 obtain ⟨m1,rfl,F⟩:=id Z
 obtain ⟨h1,W0,rfl,M0,Y⟩:=F.fm
 by_cases G:16 < d.cons.length
 refine zC ?_
 replace N:=N.dl [0]
 exact zQ N (by rw [e,zA l,List.any_cons,show dD d=true by unfold dD;rw [decide_eq_true G];rfl];rfl)
 have k0:=G
 refine go fun a J=>?_
 refine zT (J.ks [1,3]) N (fun R mm a w=>∃(k:Nat),mm=d.cons.length - k/\R Φ [(4,.int .i64 k)] [] a w/\(d.cons.any (fun x=>decide (16 < x.fields.length))=(d.cons.drop k).any (fun x=>decide (16 < x.fields.length)))) (d.cons.length - 0) ⟨0,rfl,⟨J.pk,N⟩,rfl⟩ ?_
 clear N J
 rintro mm a w ⟨k,h,⟨J,N⟩,f⟩ U0 S
 by_cases H:k < d.cons.length
 refine go fun a J=>?_
 obtain ⟨l1,rfl,w0,s,A0,H0,F0,a0⟩:=F.el Y H
 obtain ⟨n1,rfl,i0⟩:=id a0
 obtain ⟨i1,c80,rfl,N0,Q0⟩:=i0.fm
 by_cases I:16 < w0.fields.length
 refine zC ?_
 replace N:=N.dl [0]
 exact zQ N (by rw [e,zA l,List.any_cons,show dD d=true by unfold dD;rw [f,zA s,List.any_cons,decide_eq_true I,Bool.true_or,Bool.or_true]];rfl)
 refine go fun a J=>?_
 refine S _ _ _ (by subst h;omega) ⟨(k+1),rfl,⟨J.pk,N⟩,?_⟩
 rw [f,zA s,List.any_cons,decide_eq_false I];rfl
 refine go fun a J=>?_
 refine P _ _ _ (by subst h;omega) ⟨(i+1),rfl,⟨J.pk,N⟩,?_⟩
 rw [e,zA l,List.any_cons,show dD d=false by unfold dD;rw [f,zB H,decide_eq_false k0];rfl];rfl
 refine go fun a J=>?_
 refine zT (J.ks [1]) N (fun R mm a w=>∃(i:Nat) (n:Nat),mm=c.funs.length - i/\R Φ [(5,.int .i64 n),(6,.int .i64 i)] [] a w/\(n<=6001/\sG c=dS (c.funs.drop i) n)) (c.funs.length - 0) ⟨0,0,rfl,⟨J.pk,N⟩,⟨by omega,by rw [e,zB E];rfl⟩⟩ ?_
 clear N J
 rintro mm a w ⟨i,n,h,⟨J,N⟩,M⟩ V0 T
 obtain ⟨e1,y⟩:=M
 refine go fun a J=>?_
 by_cases L:i < c.funs.length
 refine goJ 19 fun a J=>?_
 refine sq fun e0 U=>?_
 obtain ⟨t0,rfl,b,t,B0,I0,v,z⟩:=h0.el X L
 obtain ⟨S0,x0,rfl,D,p⟩:=id z
 obtain ⟨R0,y0,rfl,l0,o0⟩:=D.fm
 obtain ⟨b0,B,c0,C,rfl,j0,C0,D0,m0,p0,n0,q0⟩:=REx.fm p
 have g:∀a w,(∃(m:Nat),EnvR 97 [(1,.pointer (some ⟨A,0,none⟩)),(5,.int .i64 m),(6,.int .i64 i)] [] a/\Mem Φ (.blk A (ob [.slice p3 c.datas.length c4,.slice p9 c.inputs.length f0,.slice (some t0) c.funs.length g0,.slice s0 c.outputs.length c22] 27)::K) w/\(m=(if n<=6000 then n+xE b.body (6000 - n) else n)/\m<=6001))->e0 a w:=by
  clear N J
  rintro a w ⟨m,J,N,u⟩
  apply U
  obtain ⟨V,W⟩:=u
  by_cases q:16 < b.params.length
  refine zC ?_
  replace N:=N.dl [0]
  exact zQ N (by rw [y,zA t,y0m];exact (if_pos q).symm)
  refine go fun a J=>?_
  refine T _ _ _ (by subst h;omega) ⟨(i+1),(m),rfl,⟨J.pk,N⟩,?_⟩
  exact ⟨W,by rw [y,zA t,y0m,if_neg q,<- V]⟩
 by_cases r:n<=6000
 refine Qq (fun a J=>?_) (o:=by exact fun J O=>vL 3 (vs:=[.int .i64 (b.body.kind),.int .i64 (b.body.num),.string b.body.name,.slice b0 b.body.args.length B,.slice c0 b.body.arms.length C]) J O rfl v isAgg110 sizeOf110 rfl rfl)
 refine Qq (fun a J=>?_) (o:=by exact fun J O=>pY ((6000 - n:Nat):Int) J rfl rfl (by rw [jW (by omega)];omega))
 refine zO call107 (fun w N a J=>?_) (c:=x9c (by omega) p N)
 refine Qq (fun a J=>?_) (o:=by exact fun J O=>y1j ((n+(xE b.body (6000 - n)):Nat):Int) J rfl rfl (by have h_:=mK b.body (6000 - n);rw [jW (by omega)];omega))
 refine go fun a J=>?_
 exact g _ _ ⟨n+(xE b.body (6000 - n)),J.pk,N,⟨(if_pos r).symm,by have h_:=mK b.body (6000 - n);omega⟩⟩
 refine go fun a J=>?_
 exact g _ _ ⟨n,J.pk,N,⟨(if_neg r).symm,by omega⟩⟩
 refine Qq (fun a J=>?_) (o:=by exact fun J O=>j5o (i:=n) (j:=6000) J rfl rfl)
 refine zC ?_
 replace N:=N.dl [0]
 exact zQ N (by rw [y,zB L];rfl)
theorem z4l {Φ:Fz} {K:List Res} {w:World} {d0:List Value} {c:Core} (s:RCore Φ d0 c) (a2:∀v,d0[3]? = some v->Cap v) (N:Mem Φ K w) :
  Calls prog 44 #[.agg d0.toArray] w (fun ee w'=>ee=.returned (.int .i64 (uJ c))/\Mem Φ K w'):=by
 obtain ⟨p3,c4,p9,b1,L2,e1,y1,c22,rfl,h2,h8,D,I,f4,g4,v3,r1,w3,U,x3,s1⟩:=RCore.fm s
 refine zL func44 ntmps44 fun Q hQ a J=>?_
 refine Bx fun a1 w N a J=>?_
 refine go fun a J=>?_
 refine zT (J.ks [1]) N (fun R mm a w=>∃(i:Nat),mm=c.funs.length - i/\R Φ [(3,.int .i64 i)] [] a w/\(c.funs.any (fun f=>xT 250 f.body)=(c.funs.drop i).any (fun f=>xT 250 f.body))) (c.funs.length - 0) ⟨0,rfl,⟨J.pk,N⟩,rfl⟩ ?_
 clear N J
 rintro mm a w ⟨i,B,⟨J,N⟩,i0⟩ U3 o1
 by_cases l1:i < c.funs.length
 refine go fun a J=>?_
 obtain ⟨k4,rfl,w0,G0,g3,t3,q1,t1⟩:=D.el U l1
 obtain ⟨l4,W3,rfl,M1,m1⟩:=id t1
 obtain ⟨h4,c46,rfl,y3,B3⟩:=M1.fm
 obtain ⟨M2,G1,N2,H1,rfl,s3,X3,Y3,z3,C3,A3,D3⟩:=REx.fm m1
 refine Qq (fun a J=>?_) (o:=by exact fun J O=>vL 3 (vs:=[.int .i64 (w0.body.kind),.int .i64 (w0.body.num),.string w0.body.name,.slice M2 w0.body.args.length G1,.slice N2 w0.body.arms.length H1]) J O rfl q1 isAgg110 sizeOf110 rfl rfl)
 refine yH call73 (fun e0 w N a J=>?_) (fun e0 w N a J=>?_) (c:=x8v (m:=250) (by omega) m1 N)
 refine zC ?_
 replace N:=N.dl [0]
 exact pX N (by rw [uJ,i0,zA G0,List.any_cons,e0];rfl)
 refine go fun a J=>?_
 refine o1 _ _ _ (by subst B;omega) ⟨(i+1),rfl,⟨J.pk,N⟩,?_⟩
 rw [i0,zA G0,List.any_cons,e0];rfl
 have q:c.funs.any (fun f=>xT 250 f.body)=false:=by rw [i0,zB l1];rfl
 refine yH call74 (fun f0 w N a J=>?_) (fun f0 w N a J=>?_) (c:=j2s s N)
 refine zC ?_
 replace N:=N.dl [0]
 exact pX N (by rw [uJ,q,f0];rfl)
 have r:=f0
 obtain ⟨e2,b4,d4,e4,m2,R0,n2⟩:=x0x r
 refine yH call75 (fun g0 w N a J=>?_) (fun g0 w N a J=>?_) (c:=q3j s e2 m2 N)
 by_cases N1:c.outputs.length=0
 refine zC ?_
 replace N:=N.dl [0]
 exact pX N (by exact (vV q r (by unfold kB;simp only [show decide (c.outputs.length≠0)=false from decide_eq_false (fun g=>g N1),Bool.false_and,Bool.and_false])).symm)
 have O1:=g0
 have T1:decide (c.outputs.length≠0)=true:=decide_eq_true (by omega)
 refine go fun a J=>?_
 replace N:=N.nilRow 9 1
 replace N:=N.nf
 refine zT (J.ks [1]) N (fun R mm a w=>∃(i1:Nat) (u:Value),mm=c.inputs.length - i1/\R Φ [(4,u),(5,.int .i64 i1)] [(0,.gs (u) 9 1 (strs ((c.inputs.take i1).map Param.name)))] a w/\(c.inputs.all (fun p=>xK c.datas p.type)=(c.inputs.drop i1).all (fun p=>xK c.datas p.type))) (c.inputs.length - 0) ⟨0,.slice none 0 0,rfl,⟨J.pk,N⟩,rfl⟩ ?_
 clear N J
 rintro mm a w ⟨i1,u,B,⟨J,N⟩,j0⟩ V3 p1
 replace N:=N.nf
 by_cases n1:i1 < c.inputs.length
 refine go fun a J=>?_
 obtain ⟨O2,rfl,Q2,t0,h3,u3,r3,u1⟩:=h8.el r1 n1
 obtain rfl:=id u1
 refine jQ fun P2 w N a J=>?_
 refine vH 1 xP (fun D1 w N a J=>?_) (hb:=by rw [zR,List.length_map,List.length_take];simp only [lcQ,lnQ];omega)
 replace N:Mem Φ (.gs (P2) 9 1 [.string Q2.name]::.gs (D1) 9 1 (strs ((c.inputs.take (i1+1)).map Param.name))::.blk a1 (ob [.slice p3 c.datas.length c4,.slice (some O2) c.inputs.length b1,.slice L2 c.funs.length e1,.slice y1 c.outputs.length c22] 27)::K) w:=by rw [jB t0,List.map_append,yK];exact N
 refine Reg [2,1,2,1,1,1,2,0,1] [0,1,2] fun w N a J=>?_
 refine yH call76 (fun h0 w N a J=>?_) (fun h0 w N a J=>?_) (c:=y1p s N)
 refine go fun a J=>?_
 replace N:=N.dl [0]
 refine p1 _ _ _ (by subst B;omega) ⟨(i1+1),(D1),rfl,⟨J.pk,N⟩,?_⟩
 rw [j0,zA t0,List.all_cons,h0];rfl
 refine zC ?_
 replace N:=N.dl [2,1,0]
 exact pX N (by exact (vV q r (by unfold kB;simp only [show c.inputs.all (fun p=>xK c.datas p.type)=false by rw [j0,zA t0,List.all_cons,h0];rfl,Bool.false_and,Bool.and_false])).symm)
 refine go fun a J=>?_
 have Q1:c.inputs.all (fun p=>xK c.datas p.type)=true:=by rw [j0,zB n1];rfl
 rw [List.take_of_length_le (l:=c.inputs) (by omega)] at N
 replace N:=N.nf
 refine go fun a J=>?_
 have x0:=Cap.own N (i:=0) rfl
 have y:=N
 clear N
 obtain ⟨H,d,N,n0⟩:=y.freezeRow (i:=0) rfl
 clear y
 replace D:=D.up d
 replace I:=I.up d
 replace s:=RCore.mono _ _ _ _ d s
 replace N:=N.nf
 have V:SliceOf RStr H 1 _ ((c.inputs.map Param.name)):=SliceOf.strs.2 n0
 obtain ⟨E3,Y2,q0,o2,A2⟩:=V.form (by decide)
 have z:=N
 clear N
 subst q0
 have N:=z
 clear z
 refine yH call77 (fun L w N a J=>?_) (fun L w N a J=>?_) (c:=gA V x0 N)
 have S1:=L
 refine go fun a J=>?_
 replace N:=N.nilRow 9 1
 replace N:=N.nf
 refine zT (J.ks [1]) N (fun R mm a w=>∃(i2:Nat) (u:Value),mm=c.funs.length - i2/\R H [(4,u),(6,.int .i64 i2)] [(0,.gs (u) 9 1 (strs ((c.funs.take i2).map Fun.name)))] a w/\(c.funs.all (kP c.datas)=(c.funs.drop i2).all (kP c.datas))) (c.funs.length - 0) ⟨0,.slice none 0 0,rfl,⟨J.pk,N⟩,rfl⟩ ?_
 clear N J
 rintro mm a w ⟨i2,u,B,⟨J,N⟩,A⟩ R2 L0
 replace N:=N.nf
 by_cases y0:i2 < c.funs.length
 refine go fun a J=>?_
 obtain ⟨B1,rfl,b,t,I1,f2,k0,G⟩:=D.el U y0
 obtain ⟨Q3,V2,rfl,z0,Y⟩:=id G
 obtain ⟨v1,c1,rfl,p2,S0⟩:=z0.fm
 obtain ⟨w1,d1,x1,c143,rfl,b2,j3,k3,q2,B2,r2,C2⟩:=REx.fm Y
 refine Alc fun Z0 w N a J=>?_
 refine Sto 0 fun w N a J=>?_
 refine jQ fun C1 w N a J=>?_
 refine vH 2 xP (fun I0 w N a J=>?_) (hb:=by rw [zR,List.length_map,List.length_take];simp only [lcQ,lnQ];omega)
 replace N:Mem H (.gs (C1) 9 1 [.string b.name]::.blk Z0 (ob [.string b.name,.slice v1 b.params.length c1,.string b.result,.int .i64 (b.body.kind),.int .i64 (b.body.num),.string b.body.name,.slice w1 b.body.args.length d1,.slice x1 b.body.arms.length c143] 112)::.gs (I0) 9 1 (strs ((c.funs.take (i2+1)).map Fun.name))::.blk a1 (ob [.slice p3 c.datas.length c4,.slice p9 c.inputs.length b1,.slice (some B1) c.funs.length e1,.slice y1 c.outputs.length c22] 27)::K) w:=by rw [jB t,List.map_append,yK];exact N
 refine go fun a J=>?_
 refine zT (J.ks [1,4,6,7]) N (fun R mm a w=>∃(k:Nat),mm=b.params.length - k/\R H [(8,.int .i64 k)] [] a w/\(b.params.all (fun p=>jY c.datas p.type)=(b.params.drop k).all (fun p=>jY c.datas p.type))) (b.params.length - 0) ⟨0,rfl,⟨J.pk,N⟩,rfl⟩ ?_
 clear N J
 rintro mm a w ⟨k,B,⟨J,N⟩,P⟩ S2 M0
 by_cases A0:k < b.params.length
 refine Reg [2,1,2,1,1,1,2,0,1] [0,1,2,3] fun w N a J=>?_
 refine go fun a J=>?_
 obtain ⟨M3,rfl,T3,r0,J1,g2,W1,U0⟩:=z0.el S0 A0
 obtain rfl:=id U0
 refine yH call78 (fun M w N a J=>?_) (fun M w N a J=>?_) (c:=z4v s N)
 refine go fun a J=>?_
 refine M0 _ _ _ (by subst B;omega) ⟨(k+1),rfl,⟨J.pk,N⟩,?_⟩
 rw [P,zA r0,List.all_cons,M];rfl
 refine zC ?_
 replace N:=N.le (d)
 replace N:=N.dl [3,2,1,0]
 exact pX N (by exact (vV q r (by unfold kB;simp only [show c.funs.all (kP c.datas)=false by rw [A,zA t,List.all_cons];unfold kP;rw [P,zA r0,List.all_cons,M];rfl,Bool.false_and,Bool.and_false])).symm)
 have T0:b.params.all (fun p=>jY c.datas p.type)=true:=by rw [P,zB A0];rfl
 refine yH call78 (fun Z w N a J=>?_) (fun Z w N a J=>?_) (c:=z4v s N)
 refine go fun a J=>?_
 refine j6z J rfl rfl rfl rfl rfl (jH J rfl call79 (q6q (f:=b) G (by have h_:=R0 b (mgQ t);omega) N) fun v171 w N a J=>?_)
 replace N:=N.nf
 have l0:=Cap.own N (i:=0) rfl
 have y:=N
 clear N
 obtain ⟨Y0,n,N,o0⟩:=y.freezeRow (i:=0) rfl
 clear y
 replace D:=D.up n
 replace I:=I.up n
 replace s:=RCore.mono _ _ _ _ n s
 replace k0:=k0.mono n
 replace G:=RFun.mono _ _ _ _ n G
 replace Y:=REx.mono _ _ _ _ n Y
 replace N:=N.nf
 have W:SliceOf RStr Y0 1 _ ((b.params.map Param.name++zN b.body)):=SliceOf.strs.2 o0
 obtain ⟨F3,Z2,q0,s2,D2⟩:=W.form (by decide)
 have z:=N
 clear N
 subst q0
 have N:=z
 clear z
 refine yH call77 (fun a0 w N a J=>?_) (fun a0 w N a J=>?_) (c:=gA W l0 N)
 refine go fun a J=>?_
 replace N:=N.le (n)
 replace N:=N.dl [1,0]
 refine L0 _ _ _ (by subst B;omega) ⟨(i2+1),(I0),rfl,⟨J.pk,N⟩,?_⟩
 rw [A,zA t,List.all_cons,show kP c.datas b=true by unfold kP;rw [T0,show jY c.datas b.result=true from (by first | assumption | exact pC (by assumption) | exact pB (by assumption)),show cJ (b.params.map Param.name++zN b.body)=true from (by first | assumption | exact pC (by assumption) | exact pB (by assumption))];rfl];rfl
 refine zC ?_
 replace N:=N.le ((d).trans n)
 replace N:=N.dl [3,2,1,0]
 exact pX N (by exact (vV q r (by unfold kB;simp only [show c.funs.all (kP c.datas)=false by rw [A,zA t,List.all_cons];unfold kP;simp only [a0,Bool.and_false,Bool.false_and],Bool.false_and,Bool.and_false])).symm)
 refine zC ?_
 replace N:=N.le (d)
 replace N:=N.dl [3,2,1,0]
 exact pX N (by exact (vV q r (by unfold kB;simp only [show c.funs.all (kP c.datas)=false by rw [A,zA t,List.all_cons];unfold kP;simp only [Z,Bool.and_false,Bool.false_and],Bool.false_and,Bool.and_false])).symm)
 refine go fun a J=>?_
 have P1:c.funs.all (kP c.datas)=true:=by rw [A,zB y0];rfl
 rw [List.take_of_length_le (l:=c.funs) (by omega)] at N
 replace N:=N.nf
 refine go fun a J=>?_
 have m0:=Cap.own N (i:=0) rfl
 have y:=N
 clear N
 obtain ⟨T,h,N,p0⟩:=y.freezeRow (i:=0) rfl
 clear y
 replace D:=D.up h
 replace I:=I.up h
 replace s:=RCore.mono _ _ _ _ h s
 replace N:=N.nf
 have X:SliceOf RStr T 1 _ ((c.funs.map Fun.name)):=SliceOf.strs.2 p0
 obtain ⟨G3,a3,q0,t2,E2⟩:=X.form (by decide)
 have z:=N
 clear N
 subst q0
 have N:=z
 clear z
 refine yH call77 (fun b0 w N a J=>?_) (fun b0 w N a J=>?_) (c:=gA X m0 N)
 refine yH call77 (fun c0 w N a J=>?_) (fun c0 w N a J=>?_) (c:=gA I (a2 _ rfl) N)
 refine go fun a J=>?_
 have R1:cJ (c.funs.map Fun.name)=true:=(by first | assumption | exact pC (by assumption) | exact pB (by assumption))
 have U1:cJ c.outputs=true:=(by first | assumption | exact pC (by assumption) | exact pB (by assumption))
 refine go fun a J=>?_
 refine zT (J.ks [1]) N (fun R mm a w=>∃(i3:Nat),mm=c.funs.length - i3/\R T [(9,.int .i64 i3)] [] a w/\(c.funs.all (mG c)=(c.funs.drop i3).all (mG c))) (c.funs.length - 0) ⟨0,rfl,⟨J.pk,N⟩,rfl⟩ ?_
 clear N J
 rintro mm a w ⟨i3,B,⟨J,N⟩,E⟩ T2 N0
 by_cases B0:i3 < c.funs.length
 refine Reg [2,1,2,1,1,1,2,1,2,1,1,1,2,0,1,1,1,1,1] [0] fun w N a J=>?_
 refine go fun a J=>?_
 obtain ⟨N3,rfl,e,C,K1,j2,P0,V0⟩:=D.el U B0
 obtain ⟨R3,W2,rfl,C0,D0⟩:=id V0
 obtain ⟨H3,b3,rfl,u2,F2⟩:=C0.fm
 obtain ⟨z1,f1,A1,g1,rfl,c2,l3,m3,v2,G2,w2,H2⟩:=REx.fm D0
 refine Qq (fun a J=>?_) (o:=by exact fun J O=>vL 3 (vs:=[.int .i64 (e.body.kind),.int .i64 (e.body.num),.string e.body.name,.slice z1 e.body.args.length f1,.slice A1 e.body.arms.length g1]) J O rfl P0 isAgg110 sizeOf110 rfl rfl)
 refine zO call80 (fun w N a J=>?_) (c:=x3a s C0 D0 n2 (R0 e (mgQ C)).2.1 (by have h_:=(R0 e (mgQ C));omega) N)
 refine go fun a J=>?_
 generalize Z1:(!((zS c e.body e.params).2))=J0 at J
 cases J0
 by_cases h1:(zS c e.body e.params).1=e.result
 refine go fun a J=>?_
 refine N0 _ _ _ (by subst B;omega) ⟨(i3+1),rfl,⟨J.pk,N⟩,?_⟩
 rw [E,zA C,List.all_cons,show mG c e=true by unfold mG;rw [show (zS c e.body e.params).2=true from (by first | assumption | exact pC (by assumption) | exact pB (by assumption)),decide_eq_true (by assumption)];rfl];rfl
 refine zC ?_
 replace N:=N.le ((d).trans h)
 replace N:=N.dl [0]
 exact pX N (by exact (vV q r (by unfold kB;simp only [show c.funs.all (mG c)=false by rw [E,zA C,List.all_cons];unfold mG;simp only [decide_eq_false h1,Bool.and_false,Bool.false_and],Bool.false_and,Bool.and_false])).symm)
 refine zC ?_
 replace N:=N.le ((d).trans h)
 replace N:=N.dl [0]
 exact pX N (by exact (vV q r (by unfold kB;simp only [show c.funs.all (mG c)=false by rw [E,zA C,List.all_cons];unfold mG;simp only [show (zS c e.body e.params).2=false from (by first | assumption | exact pC (by assumption) | exact pB (by assumption)),Bool.and_false,Bool.false_and],Bool.false_and,Bool.and_false])).symm)
 have V1:c.funs.all (mG c)=true:=by rw [E,zB B0];rfl
 refine go fun a J=>?_
 refine zT (J.ks [1]) N (fun R mm a w=>∃(i4:Nat),mm=c.outputs.length - i4/\R T [(12,.int .i64 i4)] [] a w/\(c.outputs.all (y2n c.funs)=(c.outputs.drop i4).all (y2n c.funs))) (c.outputs.length - 0) ⟨0,rfl,⟨J.pk,N⟩,rfl⟩ ?_
 clear N J
 rintro mm a w ⟨i4,B,⟨J,N⟩,F⟩ U2 O0
 by_cases E0:i4 < c.outputs.length
 refine Reg [2,1,2,1,1,2,0,1] [0] fun w N a J=>?_
 refine go fun a J=>?_
 obtain ⟨O3,rfl,u0,S,K0,k2,X1,W0⟩:=I.el s1 E0
 obtain rfl:K0=[.string u0]:=W0
 refine zO call81 (fun w N a J=>?_) (c:=z8k s N)
 by_cases F0:mZ c.funs u0 < 0
 refine zC ?_
 replace N:=N.le ((d).trans h)
 replace N:=N.dl [0]
 exact pX N (by exact (vV q r (by unfold kB;simp only [show c.outputs.all (y2n c.funs)=false by rw [F,zA S,List.all_cons,outR_no F0];rfl,Bool.false_and,Bool.and_false])).symm)
 refine go fun a J=>?_
 obtain ⟨j,hj⟩:=y0j F0
 have a4:=q7y hj
 rw [show mZ c.funs u0=((j:Nat):Int) by rw [mZ,hj]] at J
 refine go fun a J=>?_
 have Q0:j < c.funs.length:=by omega
 obtain ⟨P3,rfl,E1,s0,L1,l2,Y1,X0⟩:=D.el U Q0
 obtain ⟨S3,X2,rfl,j1,k1⟩:=id X0
 obtain ⟨I3,d3,rfl,x2,I2⟩:=j1.fm
 obtain ⟨J3,e3,K3,f3,rfl,d2,n3,o3,y2,J2,z2,K2⟩:=REx.fm k1
 by_cases q3:0 < E1.params.length
 refine zC ?_
 replace N:=N.le ((d).trans h)
 replace N:=N.dl [0]
 exact pX N (by exact (vV q r (by unfold kB;simp only [show c.outputs.all (y2n c.funs)=false by rw [F,zA S,List.all_cons,j7p hj s0,decide_eq_false (by omega)];rfl,Bool.false_and,Bool.and_false])).symm)
 refine go fun a J=>?_
 refine O0 _ _ _ (by subst B;omega) ⟨(i4+1),rfl,⟨J.pk,N⟩,?_⟩
 rw [F,zA S,List.all_cons,j7p hj s0,decide_eq_true (by omega)];rfl
 refine zC ?_
 replace N:=N.le ((d).trans h)
 replace N:=N.dl [0]
 exact pX N (by exact (x3y q r (by unfold kB;rw [O1,T1,Q1,S1,P1,R1,U1,V1,show c.outputs.all (y2n c.funs)=true by rw [F,zB E0];rfl];rfl)).symm)
 refine zC ?_
 replace N:=N.le ((d).trans h)
 replace N:=N.dl [0]
 exact pX N (by exact (vV q r (by unfold kB;simp only [c0,Bool.false_and,Bool.and_false])).symm)
 refine zC ?_
 replace N:=N.le ((d).trans h)
 replace N:=N.dl [0]
 exact pX N (by exact (vV q r (by unfold kB;simp only [b0,Bool.false_and,Bool.and_false])).symm)
 refine zC ?_
 replace N:=N.le (d)
 replace N:=N.dl [0]
 exact pX N (by exact (vV q r (by unfold kB;simp only [L,Bool.false_and,Bool.and_false])).symm)
 refine zC ?_
 replace N:=N.dl [0]
 exact pX N (by exact (vV q r (by unfold kB;simp only [g0,Bool.false_and,Bool.and_false])).symm)
theorem z8d {m:Nat} (h:m<=9223372036854775808):(cZ m).length<=19:=by unfold cZ;rw [List.length_reverse];exact q0e 18 _ _ (by omega)
theorem j8v {n:Nat} (h:n < 10):IntKind.u8.wrap (48+((n:Nat):Int))=((((48+n).toUInt8).toNat:Nat):Int):=by
 have h1:((48+n).toUInt8).toNat=48+n:=by simp [Nat.toUInt8];omega
 rw [h1];simp only [IntKind.wrap,IntKind.signed,IntKind.bits];simp;omega
theorem v0x {n:Nat} (h:n < 256):IntKind.u8.wrap ((n:Nat):Int)=((n:Nat):Int):=by simp only [IntKind.wrap,IntKind.signed,IntKind.bits];simp;omega
theorem x3c {n:Nat} (h:n < 18446744073709551616):IntKind.u64.wrap ((n:Nat):Int)=((n:Nat):Int):=by simp only [IntKind.wrap,IntKind.signed,IntKind.bits];simp;omega
theorem u64_neg {n:Int} (h:n < 0) (h1:I64 n):IntKind.u64.wrap n=(((n+18446744073709551616).toNat:Nat):Int):=by
 have:=h1.1;simp only [IntKind.wrap,IntKind.signed,IntKind.bits];simp;omega
theorem u64_pos {n:Int} (h:¬n < 0) (h1:I64 n):IntKind.u64.wrap n=((n.toNat:Nat):Int):=by
 have:=h1.2;simp only [IntKind.wrap,IntKind.signed,IntKind.bits];simp;omega
theorem v0w {n:Int} (h:n < 0) (h1:I64 n):IntKind.u64.wrap (0 - (((n+18446744073709551616).toNat:Nat):Int))=(((-n).toNat:Nat):Int):=by
 have:=h1.1;simp only [IntKind.wrap,IntKind.signed,IntKind.bits];simp;omega
theorem v0l {n:Int} (h:n < 0):(⟨#[45]⟩:Bs)++z0z (cZ (-n).toNat)=aQ n:=by rw [z1r,z6m,if_pos h];exact (y0w [45] _).symm
theorem v0m {n:Int} (h:¬n < 0):z0z (cZ n.toNat)=aQ n:=by rw [z1r,z6m,if_neg h]
theorem q3r {Φ:Fz} {K:List Res} {w:World} {n:Nat}  (h:n<=9223372036854775808) (e:∀m:Nat,m < n->∀{Φ:Fz} {K:List Res} {w:World},Mem Φ K w->Calls prog 153 #[.int .u64 m] w (fun ee w'=>ee=.returned (.string (z0z (cZ m)))/\Mem Φ K w')) (N:Mem Φ K w) :
  Calls prog 153 #[.int .u64 n] w (fun ee w'=>ee=.returned (.string ((z0z (cZ n))))/\Mem Φ K w'):=by
 refine zL func153 ntmps153 fun Q hQ a J=>?_
 by_cases d:n < 10
 refine Qq (fun a J=>?_) (o:=by exact fun J O=>z5q ((n:Nat):Int) J rfl underlying219 underlying5 (v0x (by omega)))
 refine Qq (fun a J=>?_) (o:=by exact fun J O=>y1j ((((48+n).toUInt8).toNat:Nat):Int) J rfl rfl (j8v (by omega)))
 refine jQ fun i w N a J=>?_
 refine Qq (fun a J=>?_) (o:=by exact fun J O=>j1i (b:=((48+n).toUInt8)) 0 J O rfl rfl underlying237 underlying5 underlying9)
 refine zC ?_
 replace N:=N.dl [0]
 exact tT N (by rw [q0d d])
 refine Qq (fun a J=>?_) (o:=by exact fun J O=>y_quo ((n / 10:Nat):Int) J rfl rfl (by decide) (by rw [show ((n:Nat):Int).tdiv 10=((n / 10:Nat):Int) from rfl];exact x3c (by omega)))
 refine zO call153 (fun w N a J=>?_) (c:=e (n / 10) (by omega) N)
 refine Qq (fun a J=>?_) (o:=by exact fun J O=>y_rem ((n % 10:Nat):Int) J rfl rfl (by decide) (rfl))
 refine zO call153 (fun w N a J=>?_) (c:=e (n % 10) (by omega) N)
 refine Qq (fun a J=>?_) (o:=by exact fun J O=>vQ J rfl rfl (by rw [z9g,z9g];have f:=z8d (m:=n / 10) (by omega);have g:=z8d (m:=n % 10) (by omega);omega))
 refine zC ?_
 exact tT N (by rw [j2f d,y0w])
theorem y3y {n:Nat} (b:n<=9223372036854775808):∀{Φ:Fz} {K:List Res} {w:World},Mem Φ K w->Calls prog 153 #[.int .u64 n] w (fun ee w'=>ee=.returned (.string (z0z (cZ n)))/\Mem Φ K w'):=by
 induction n using Nat.strongRecOn with
 | ind n c=>intro Φ K w N;exact q3r b (fun m a _ _ _ N=>c m a (by omega) N) N
theorem v0k {Φ:Fz} {K:List Res} {w:World} {n:Int}  (b:I64 n) (N:Mem Φ K w) :
  Calls prog 117 #[.int .i64 n] w (fun ee w'=>ee=.returned (.string ((aQ n)))/\Mem Φ K w'):=by
 refine zL func117 ntmps117 fun Q hQ a J=>?_
 by_cases f:n < 0
 refine Qq (fun a J=>?_) (o:=by exact fun J O=>z5q (((n+18446744073709551616).toNat:Nat):Int) J rfl underlying3 underlying219 (u64_neg (by omega) b))
 refine Qq (fun a J=>?_) (o:=by exact fun J O=>y_neg (((-n).toNat:Nat):Int) J rfl (v0w (by omega) b))
 refine zO call153 (fun w N a J=>?_) (c:=y3y (n:=(-n).toNat) (by have d:=b.1;have e:=b.2;omega) N)
 refine Qq (fun a J=>?_) (o:=by exact fun J O=>vQ J rfl rfl (by rw [z9g];have d:=z8d (m:=(-n).toNat) (by have:=b.1;omega);have e:(⟨#[45]⟩:Bs).size=1:=rfl;omega))
 refine zC ?_
 exact tT N (by exact v0l f)
 refine Qq (fun a J=>?_) (o:=by exact fun J O=>z5q ((n.toNat:Nat):Int) J rfl underlying3 underlying219 (u64_pos (by omega) b))
 refine zO call153 (fun w N a J=>?_) (c:=y3y (n:=n.toNat) (by have d:=b.1;have e:=b.2;omega) N)
 refine zC ?_
 exact tT N (by exact v0m f)
section
variable {Φ:Fz} {K:List Res} {w:World}
theorem z6h {s:Bs} {k:Nat} (O:s.size<=1000000) (e:k<=1000000) (N:Mem Φ K w) :
  Calls prog 84 #[.string s,.int .i64 k] w (fun ee w'=>ee=.returned (.string (kA s k))/\Mem Φ K w'):=by
 refine zL func84 ntmps84 fun Q hQ a J=>?_
 have b:I64 ((k:Nat):Int):=⟨by omega,by omega⟩
 have d:=z4w b
 refine Qq (fun a J=>?_) (o:=by exact fun J O=>vQ J rfl rfl (by show s.size+1<=_;omega))
 refine zO call117 (fun w N a J=>?_) (c:=v0k b N)
 refine Qq (fun a J=>?_) (o:=by exact fun J O=>vQ J rfl rfl (by rw [ByteArray.size_append];show s.size+1+_<=_;omega))
 refine zC ?_
 exact ⟨rfl,N⟩
theorem put_in {l:List Bs} {s:Bs} (h:gB l s=true):z4i l s=l:=j5w (hasB_mem.1 h)
theorem put_new {l:List Bs} {s:Bs} (h:gB l s=false):z4i l s=l++[s]:=q6c fun a=>by rw [hasB_mem.2 a] at h;cases h
theorem j3u {l:List Bs} {v:Value} {s:Bs}  (hb:l.length<=1000000)  (N:Mem Φ (.gs v 9 1 (strs l)::K) w) :
  Calls prog 152 #[v,.string s] w (fun ee w'=>∃v,ee=.returned v/\Mem Φ (.gs v 9 1 (strs (z4i l s))::K) w'):=by
 refine zL func152 ntmps152 fun Q hQ a J=>?_
 refine yH call18 (fun b w N a J=>?_) (fun b w N a J=>?_) (c:=q4d (l:=l) N)
 refine zC ?_
 refine ⟨_,rfl,?_⟩
 rw [show (strs (z4i l s))=(strs l) by rw [put_in b]];exact N
 refine jQ fun d w N a J=>?_
 refine vH 1 xP (fun e w N a J=>?_) (hb:=by rw [zR];simp only [lcQ,lnQ];omega)
 first | rw [qC] at N | rw [<- yK] at N
 refine zC ?_
 replace N:=N.dl [0]
 refine ⟨_,rfl,?_⟩
 rw [show (strs (z4i l s))=(strs (l++[s])) by rw [put_new b]];exact N
theorem z9j {f:Bs} {e:Ex} {i:Nat} (h:¬i < e.args.length∨(¬i=0/\¬e.kind=8)):oJ f e i=srcPa f e.arms:=by
 rcases h with h | ⟨h,a⟩
 exact x2e h
 exact j4a h a
theorem z3k {a l m:List Bs} {n:Nat} (h:a.length+(l++m).length<=n):(yL a l).length+m.length<=n:=by
 have:=z0a (l:=l) (a:=a)
 rw [laQ] at h;omega
theorem j4y {f:Bs} {e:Ex} (a:¬e.kind=2) (b:¬e.kind=3) (c:¬e.kind=5) (d:¬e.kind=6) (h:¬e.kind=8) (g:¬e.kind=7):qY f e=[]:=by
 cases e;simp only [Ex.kind] at a b c d g h;simp [qY,a,b,c,d,g,h]
theorem y9e {l:List Bs} {T:Table}  {v:Value} {f:Bs} {d2:List Value} {e:Ex} (O1:REx Φ d2 e) (hb:l.length+(qY f e).length<=1000000) (hf:f.size<=1000) (ht:wU e) (ho:okR T e) (ih:∀x:Ex,x.sz < e.sz->∀{Φ:Fz} {K:List Res} {w:World} {d:List Value} {v:Value} {l:List Bs},l.length+(qY f x).length<=1000000->wU x->okR T x->REx Φ d x->Mem Φ (.gs v 9 1 (strs l)::K) w->Calls prog 115 #[v,.string f,.agg d.toArray] w (fun ee w'=>∃v,ee=.returned v/\Mem Φ (.gs v 9 1 (strs (yL l (qY f x)))::K) w'))  (N:Mem Φ (.gs v 9 1 (strs l)::K) w) :
  Calls prog 115 #[v,.string f,.agg d2.toArray] w (fun ee w'=>∃v,ee=.returned v/\Mem Φ (.gs v 9 1 (strs (yL l (qY f e)))::K) w'):=by
 obtain ⟨p3,c4,p9,E,rfl,B2,h2,h8,q3,I,H2,F⟩:=REx.fm O1
 obtain ⟨z3,A3,M,s0⟩:=(kZ e).1 ht
 have L:=((nB e).1 ho).2.2.2.1
 have r0:=((nB e).1 ho).2.2.2.2
 refine zL func115 ntmps115 fun Q hQ a J=>?_
 refine Bx fun n w N a J=>?_
 by_cases Z0:e.kind=2
 refine Qq (fun a J=>?_) (o:=by exact fun J O=>vQ J rfl rfl (by show f.size+1<=_;omega))
 refine Qq (fun a J=>?_) (o:=by exact fun J O=>vQ J rfl rfl (by rw [ByteArray.size_append];show f.size+1+_<=_;omega))
 replace N:=N.pl 1
 refine st J rfl rfl rfl (jH J rfl call152 (j3u (l:=l) (s:=((f++(⟨#[46]⟩:Bs))++e.name)) (by omega) N) fun v21 w N a J=>?_)
 replace N:=N.nf
 refine zC ?_
 replace N:=N.dl [1]
 refine ⟨_,rfl,?_⟩
 rw [show (strs (yL l (qY f e)))=(strs (z4i l ((f++(⟨#[46]⟩:Bs))++e.name))) by rw [z7i Z0];rfl];exact N
 by_cases a1:e.kind=3
 refine Qq (fun a J=>?_) (o:=by exact fun J O=>vQ J rfl rfl (by show 3+e.name.size<=_;omega))
 replace N:=N.pl 1
 refine st J rfl rfl rfl (jH J rfl call152 (j3u (l:=l) (s:=((⟨#[105,110,46]⟩:Bs)++e.name)) (by omega) N) fun B3 w N a J=>?_)
 replace N:=N.nf
 refine zC ?_
 replace N:=N.dl [1]
 refine ⟨_,rfl,?_⟩
 rw [show (strs (yL l (qY f e)))=(strs (z4i l ((⟨#[105,110,46]⟩:Bs)++e.name))) by rw [z7h a1];rfl];exact N
 by_cases b1:e.kind=5
 refine go fun a J=>?_
 replace N:=N.pl 1
 refine st J rfl rfl rfl (jH J rfl call152 (j3u (l:=l) (s:=e.name) (by omega) N) fun C3 w N a J=>?_)
 replace N:=N.nf
 refine zC ?_
 replace N:=N.dl [1]
 refine ⟨_,rfl,?_⟩
 rw [show (strs (yL l (qY f e)))=(strs (z4i l e.name)) by rw [z3o b1];rfl];exact N
 refine go fun a J=>?_
 by_cases b0:e.kind=6
 by_cases c1:1 < e.args.length
 refine go fun a J=>?_
 obtain ⟨w3,rfl,Q1,D,i2,E2,y2,Y⟩:=h2.el I c1
 obtain ⟨s3,g3,t3,c51,rfl,C2,i3,j3,I2,M2,J2,N2⟩:=REx.fm Y
 refine go fun a J=>?_
 replace N:=N.pl 1
 refine st J rfl rfl rfl (jH J rfl call115 (ih _ (Ex.lt_args (mgQ D)) (l:=l) (by rw [oK b0,y3c D] at hb;omega) (M _ (mgQ D)) (okRs_iff.1 L _ (mgQ D)) Y N) fun D3 w N a J=>?_)
 replace N:=N.nf
 refine zC ?_
 replace N:=N.dl [1]
 refine ⟨_,rfl,?_⟩
 rw [show (strs (yL l (qY f e)))=(strs (yL l (qY f Q1))) by rw [oK b0,y3c D]];exact N
 refine zC ?_
 replace N:=N.dl [0]
 refine ⟨_,rfl,?_⟩
 rw [show (strs (yL l (qY f e)))=(strs l) by rw [oK b0,j0q (by omega)];rfl];exact N
 by_cases k3:e.kind=8
 refine go fun a J=>?_
 refine jR (fun mm a w=>∃(i:Nat) (u:Value) (m:List Bs),mm=e.args.length - i/\EnvR 90 [(0,u),(1,.string f),(5,.pointer (some ⟨n,0,none⟩)),(7,.int .i64 i)] [] a/\Mem Φ (.blk n (ob [.int .i64 (e.kind),.int .i64 (e.num),.string e.name,.slice p3 e.args.length c4,.slice p9 e.arms.length E] 110)::.gs (u) 9 1 (strs m)::K) w/\(yL l (qY f e)=yL m (oJ f e i)/\m.length+(oJ f e i).length<=1000000)) (e.args.length - 0) ⟨0,v,l,rfl,J.pk,N,⟨by rw [sK (by omega) ho],by rw [<- sK (by omega) ho];omega⟩⟩ ?_
 clear N J
 rintro mm a w ⟨i,u,m,q,J,N,F0⟩ f3 X
 obtain ⟨p,b⟩:=F0
 by_cases E0:i < e.args.length
 by_cases l3:i=0
 refine go fun a J=>?_
 obtain ⟨x3,rfl,R1,r,j2,F2,z2,Z⟩:=h2.el I E0
 obtain ⟨u3,h3,v3,c85,rfl,D2,m3,n3,K2,O2,L2,P2⟩:=REx.fm Z
 refine go fun a J=>?_
 replace N:=N.pl 1
 refine st J rfl rfl rfl (jH J rfl call115 (ih _ (Ex.lt_args (mgQ r)) (l:=m) (by rw [pH r (by omega),laQ] at b;omega) (M _ (mgQ r)) (okRs_iff.1 L _ (mgQ r)) Z N) fun P1 w N a J=>?_)
 replace N:=N.nf
 refine go fun a J=>?_
 replace N:=N.pl 1
 refine X _ _ _ (by subst q;omega) ⟨(i+1),(P1),((yL m (qY f R1))),rfl,J.pk,N,?_⟩
 exact ⟨by rw [p,pH r (by omega),qS],z3k (by rw [<- pH r (by omega)];exact b)⟩
 refine go fun a J=>?_
 obtain ⟨y3,rfl,S1,t,k2,G2,A2,a0⟩:=h2.el I E0
 obtain ⟨Q2,a2,R2,b2,rfl,f1,o3,l2,o1,B1,p1,C1⟩:=REx.fm a0
 refine go fun a J=>?_
 replace N:=N.pl 1
 refine st J rfl rfl rfl (jH J rfl call115 (ih _ (Ex.lt_args (mgQ t)) (l:=m) (by rw [pH t (by omega),laQ] at b;omega) (M _ (mgQ t)) (okRs_iff.1 L _ (mgQ t)) a0 N) fun O0 w N a J=>?_)
 replace N:=N.nf
 refine go fun a J=>?_
 replace N:=N.pl 1
 refine X _ _ _ (by subst q;omega) ⟨(i+1),(O0),((yL m (qY f S1))),rfl,J.pk,N,?_⟩
 exact ⟨by rw [p,pH t (by omega),qS],z3k (by rw [<- pH t (by omega)];exact b)⟩
 refine go fun a J=>?_
 refine jR (fun mm a w=>∃(j:Nat) (H:Value) (m2:List Bs),mm=e.arms.length - j/\EnvR 90 [(0,H),(1,.string f),(5,.pointer (some ⟨n,0,none⟩)),(8,.int .i64 j)] [] a/\Mem Φ (.blk n (ob [.int .i64 (e.kind),.int .i64 (e.num),.string e.name,.slice p3 e.args.length c4,.slice p9 e.arms.length E] 110)::.gs (H) 9 1 (strs m2)::K) w/\(yL l (qY f e)=yL m2 (srcPa f (e.arms.drop j))/\m2.length+(srcPa f (e.arms.drop j)).length<=1000000)) (e.arms.length - 0) ⟨0,u,m,rfl,J.pk,N,by have h_:=z9j (f:=f) (e:=e) (i:=i) (by omega);rw [h_] at p b;exact ⟨p,b⟩⟩ ?_
 clear N J
 rintro mm a w ⟨j,H,m2,q,J,N,c0⟩ T1 g0
 obtain ⟨B,C⟩:=c0
 by_cases P:j < e.arms.length
 refine go fun a J=>?_
 obtain ⟨X2,rfl,y,c,V0,k1,k0,n0⟩:=h8.el F P
 obtain ⟨b3,X1,rfl,A0,R⟩:=RArm.iff.1 n0
 obtain ⟨S2,c2,rfl,q1,D1⟩:=A0.fm
 obtain ⟨G0,u0,H0,c143,rfl,g1,n2,o2,r1,E1,s1,F1⟩:=REx.fm R
 refine Qq (fun a J=>?_) (o:=by exact fun J O=>vL 2 (vs:=[.int .i64 (y.body.kind),.int .i64 (y.body.num),.string y.body.name,.slice G0 y.body.args.length u0,.slice H0 y.body.arms.length c143]) J O rfl k0 isAgg110 sizeOf110 rfl rfl)
 replace N:=N.pl 1
 refine st J rfl rfl rfl (jH J rfl call115 (ih _ (Ex.lt_arms (mgQ c)) (l:=m2) (by rw [wT c,laQ] at C;omega) ((s0 _ (mgQ c)).2.2.2) (okRa_iff.1 r0 _ (mgQ c)) R N) fun P0 w N a J=>?_)
 replace N:=N.nf
 refine go fun a J=>?_
 replace N:=N.pl 1
 refine g0 _ _ _ (by subst q;omega) ⟨(j+1),(P0),((yL m2 (qY f y.body))),rfl,J.pk,N,?_⟩
 exact ⟨by rw [B,wT c,qS],z3k (by rw [<- wT c];exact C)⟩
 refine zC ?_
 replace N:=N.dl [0]
 refine ⟨_,rfl,?_⟩
 rw [show (strs (yL l (qY f e)))=(strs m2) by rw [B,tZ P];rfl];exact N
 by_cases p2:e.kind=7
 refine go fun a J=>?_
 refine jR (fun mm a w=>∃(i:Nat) (u:Value) (m:List Bs),mm=e.args.length - i/\EnvR 90 [(0,u),(1,.string f),(5,.pointer (some ⟨n,0,none⟩)),(7,.int .i64 i)] [] a/\Mem Φ (.blk n (ob [.int .i64 (e.kind),.int .i64 (e.num),.string e.name,.slice p3 e.args.length c4,.slice p9 e.arms.length E] 110)::.gs (u) 9 1 (strs m)::K) w/\(yL l (qY f e)=yL m (oJ f e i)/\m.length+(oJ f e i).length<=1000000)) (e.args.length - 0) ⟨0,v,l,rfl,J.pk,N,⟨by rw [sK (by omega) ho],by rw [<- sK (by omega) ho];omega⟩⟩ ?_
 clear N J
 rintro mm a w ⟨i,u,m,q,J,N,d0⟩ U1 h0
 obtain ⟨p,b⟩:=d0
 by_cases B0:i < e.args.length
 by_cases q2:i=0
 refine go fun a J=>?_
 obtain ⟨Y2,rfl,T0,g,W0,l1,e1,G⟩:=h2.el I B0
 obtain ⟨T2,e2,U2,c175,rfl,h1,r2,s2,t1,G1,u1,H1⟩:=REx.fm G
 refine go fun a J=>?_
 replace N:=N.pl 1
 refine st J rfl rfl rfl (jH J rfl call115 (ih _ (Ex.lt_args (mgQ g)) (l:=m) (by rw [pH g (by omega),laQ] at b;omega) (M _ (mgQ g)) (okRs_iff.1 L _ (mgQ g)) G N) fun Q0 w N a J=>?_)
 replace N:=N.nf
 refine go fun a J=>?_
 replace N:=N.pl 1
 refine h0 _ _ _ (by subst q;omega) ⟨(i+1),(Q0),((yL m (qY f T0))),rfl,J.pk,N,?_⟩
 exact ⟨by rw [p,pH g (by omega),qS],z3k (by rw [<- pH g (by omega)];exact b)⟩
 refine go fun a J=>?_
 refine jR (fun mm a w=>∃(j:Nat) (H:Value) (m2:List Bs),mm=e.arms.length - j/\EnvR 90 [(0,H),(1,.string f),(5,.pointer (some ⟨n,0,none⟩)),(8,.int .i64 j)] [] a/\Mem Φ (.blk n (ob [.int .i64 (e.kind),.int .i64 (e.num),.string e.name,.slice p3 e.args.length c4,.slice p9 e.arms.length E] 110)::.gs (H) 9 1 (strs m2)::K) w/\(yL l (qY f e)=yL m2 (srcPa f (e.arms.drop j))/\m2.length+(srcPa f (e.arms.drop j)).length<=1000000)) (e.arms.length - 0) ⟨0,u,m,rfl,J.pk,N,by have h_:=z9j (f:=f) (e:=e) (i:=i) (by omega);rw [h_] at p b;exact ⟨p,b⟩⟩ ?_
 clear N J
 rintro mm a w ⟨j,H,m2,q,J,N,e0⟩ V1 i0
 obtain ⟨B,C⟩:=e0
 by_cases S:j < e.arms.length
 refine go fun a J=>?_
 obtain ⟨Z2,rfl,z,h,X0,m1,l0,o0⟩:=h8.el F S
 obtain ⟨d3,Y1,rfl,C0,U⟩:=RArm.iff.1 o0
 obtain ⟨V2,f2,rfl,v1,I1⟩:=C0.fm
 obtain ⟨I0,w0,J0,x0,rfl,i1,t2,v2,w1,J1,x1,K1⟩:=REx.fm U
 refine Qq (fun a J=>?_) (o:=by exact fun J O=>vL 2 (vs:=[.int .i64 (z.body.kind),.int .i64 (z.body.num),.string z.body.name,.slice I0 z.body.args.length w0,.slice J0 z.body.arms.length x0]) J O rfl l0 isAgg110 sizeOf110 rfl rfl)
 replace N:=N.pl 1
 refine st J rfl rfl rfl (jH J rfl call115 (ih _ (Ex.lt_arms (mgQ h)) (l:=m2) (by rw [wT h,laQ] at C;omega) ((s0 _ (mgQ h)).2.2.2) (okRa_iff.1 r0 _ (mgQ h)) U N) fun R0 w N a J=>?_)
 replace N:=N.nf
 refine go fun a J=>?_
 replace N:=N.pl 1
 refine i0 _ _ _ (by subst q;omega) ⟨(j+1),(R0),((yL m2 (qY f z.body))),rfl,J.pk,N,?_⟩
 exact ⟨by rw [B,wT h,qS],z3k (by rw [<- wT h];exact C)⟩
 refine zC ?_
 replace N:=N.dl [0]
 refine ⟨_,rfl,?_⟩
 rw [show (strs (yL l (qY f e)))=(strs m2) by rw [B,tZ S];rfl];exact N
 refine go fun a J=>?_
 refine jR (fun mm a w=>∃(j:Nat) (H:Value) (m2:List Bs),mm=e.arms.length - j/\EnvR 90 [(0,H),(1,.string f),(5,.pointer (some ⟨n,0,none⟩)),(8,.int .i64 j)] [] a/\Mem Φ (.blk n (ob [.int .i64 (e.kind),.int .i64 (e.num),.string e.name,.slice p3 e.args.length c4,.slice p9 e.arms.length E] 110)::.gs (H) 9 1 (strs m2)::K) w/\(yL l (qY f e)=yL m2 (srcPa f (e.arms.drop j))/\m2.length+(srcPa f (e.arms.drop j)).length<=1000000)) (e.arms.length - 0) ⟨0,u,m,rfl,J.pk,N,by have h_:=z9j (f:=f) (e:=e) (i:=i) (by omega);rw [h_] at p b;exact ⟨p,b⟩⟩ ?_
 clear N J
 rintro mm a w ⟨j,H,m2,q,J,N,f0⟩ W1 j0
 obtain ⟨B,C⟩:=f0
 by_cases V:j < e.arms.length
 refine go fun a J=>?_
 obtain ⟨a3,rfl,A,k,Y0,n1,m0,p0⟩:=h8.el F V
 obtain ⟨e3,Z1,rfl,D0,W⟩:=RArm.iff.1 p0
 obtain ⟨W2,g2,rfl,y1,L1⟩:=D0.fm
 obtain ⟨K0,y0,L0,z0,rfl,j1,w2,x2,z1,M1,A1,N1⟩:=REx.fm W
 refine Qq (fun a J=>?_) (o:=by exact fun J O=>vL 2 (vs:=[.int .i64 (A.body.kind),.int .i64 (A.body.num),.string A.body.name,.slice K0 A.body.args.length y0,.slice L0 A.body.arms.length z0]) J O rfl m0 isAgg110 sizeOf110 rfl rfl)
 replace N:=N.pl 1
 refine st J rfl rfl rfl (jH J rfl call115 (ih _ (Ex.lt_arms (mgQ k)) (l:=m2) (by rw [wT k,laQ] at C;omega) ((s0 _ (mgQ k)).2.2.2) (okRa_iff.1 r0 _ (mgQ k)) W N) fun S0 w N a J=>?_)
 replace N:=N.nf
 refine go fun a J=>?_
 replace N:=N.pl 1
 refine j0 _ _ _ (by subst q;omega) ⟨(j+1),(S0),((yL m2 (qY f A.body))),rfl,J.pk,N,?_⟩
 exact ⟨by rw [B,wT k,qS],z3k (by rw [<- wT k];exact C)⟩
 refine zC ?_
 replace N:=N.dl [0]
 refine ⟨_,rfl,?_⟩
 rw [show (strs (yL l (qY f e)))=(strs m2) by rw [B,tZ V];rfl];exact N
 refine zC ?_
 replace N:=N.dl [0]
 refine ⟨_,rfl,?_⟩
 rw [show (strs (yL l (qY f e)))=(strs l) by rw [j4y (by assumption) (by assumption) (by assumption) (by assumption) (by assumption) (by assumption)];rfl];exact N
theorem j0o {T:Table} {f:Bs} (a:f.size<=1000) {e:Ex}:∀{Φ:Fz} {K:List Res} {w:World} {d:List Value} {v:Value} {l:List Bs},l.length+(qY f e).length<=1000000->wU e->okR T e->REx Φ d e->Mem Φ (.gs v 9 1 (strs l)::K) w->Calls prog 115 #[v,.string f,.agg d.toArray] w (fun ee w'=>∃v,ee=.returned v/\Mem Φ (.gs v 9 1 (strs (yL l (qY f e)))::K) w'):=by
 suffices H:∀n (e:Ex),e.sz < n->∀{Φ:Fz} {K:List Res} {w:World} {d:List Value} {v:Value} {l:List Bs},l.length+(qY f e).length<=1000000->wU e->okR T e->REx Φ d e->Mem Φ (.gs v 9 1 (strs l)::K) w->Calls prog 115 #[v,.string f,.agg d.toArray] w (fun ee w'=>∃v,ee=.returned v/\Mem Φ (.gs v 9 1 (strs (yL l (qY f e)))::K) w') from @H _ e (Nat.lt_succ_self _)
 intro n
 induction n with
 | zero=>intro e h;omega
 | succ n g=>intro e h Φ K w d v l hb c b re N;exact y9e re hb a c b (fun x i=>g x (by omega)) N
end
def toF (to:Bs) (l:List Bs):List Flow:=l.map fun s=>(s,to)
theorem toF_at {to:Bs} {l:List Bs} {i:Nat} {x:Bs} (h:l[i]? = some x):toF to (l.drop i)=(x,to)::toF to (l.drop (i+1)):=by rw [zA h];rfl
theorem toF_end {to:Bs} {l:List Bs} {i:Nat} (h:¬i < l.length):toF to (l.drop i)=[]:=by rw [zB h];rfl
theorem q0n {Φ:Fz} {K:List Res} {w:World} {i:Nat} {v:Value} {l:List Flow} (N:Mem Φ K w) (a:qU K i=some (.gs v 95 2 (zU l))):∃p cap,v=.slice p l.length cap :=
 z3d N a (by rw [sU,Nat.mul_comm]) (by decide)
theorem y1n (l:List Flow) (a b:Bs):zU l++[.string a,.string b]=zU (l++[(a,b)]):=z1h l (a,b)
def cB (x:Flow) (l:List Flow) (k:Nat):Bool:=decide (x∈l.take k)
theorem j5b (x:Flow) (l:List Flow):cB x l 0=false:=by simp [cB]
theorem x2w {x y:Flow} {l:List Flow} {k:Nat} (h:l[k]? = some y) (h1:y.1=x.1) (e:y.2=x.2):cB x l (k+1)=true:=by
 rw [cB,jB h];obtain ⟨a,b⟩:=x;obtain ⟨c,d⟩:=y;simp only at h1 e;subst h1;subst e;simp
theorem y8d {x y:Flow} {l:List Flow} {k:Nat} (h:l[k]? = some y) (a:¬(y.1=x.1/\y.2=x.2)):cB x l (k+1)=cB x l k:=by
 rw [cB,cB,jB h]
 have:¬x=y:=fun e=>a ⟨by rw [e],by rw [e]⟩
 simp [this]
theorem v0n {x y:Flow} {l:List Flow} {k:Nat} (h:l[k]? = some y) (a:cB x l k=true):cB x l (k+1)=true:=by
 rw [cB,decide_eq_true_eq] at *
 rw [jB h];exact List.mem_append_left _ a
theorem q2q {x:Flow} {l:List Flow} {k:Nat} (h:¬k < l.length):cB x l k=decide (x∈l):=by rw [cB,oN h]
theorem x4v {Φ:Fz} {K:List Res} {w:World} {p:Option Addr} {cc:Nat} {l:List Flow} {vf:Value} {fr:List Bs} {to:Bs} (rf:SliceOf RStr Φ 1 vf fr) (hb:l.length+fr.length<=2000000000000) (N:Mem Φ (.gs (.slice p l.length cc) 95 2 (zU l)::K) w) :
  Calls prog 114 #[.slice p l.length cc,vf,.string to] w (fun ee w'=>∃v:Value,ee=.returned v/\True/\Mem Φ (.gs v 95 2 (zU (yL l (toF to fr)))::K) w'):=by
 obtain ⟨p1,c2,rfl,Z,D⟩:=rf.fm
 refine zL func114 ntmps114 fun Q hQ a J=>?_
 refine go fun a J=>?_
 refine zT (J.ks [1,2]) N (fun R mm a w=>∃(i:Nat) (pp:Option Addr) (qq:Nat) (acc:List Flow),mm=fr.length - i/\R Φ [(0,.slice pp acc.length qq),(7,.int .i64 i)] [(0,.gs (.slice pp acc.length qq) 95 2 (zU acc))] a w/\(yL l (toF to fr)=yL acc (toF to (fr.drop i))/\acc.length<=l.length+i)) (fr.length - 0) ⟨0,p,cc,l,rfl,⟨J.pk,N⟩,⟨rfl,Nat.le_refl _⟩⟩ ?_
 clear N J
 rintro mm a w ⟨i,pp,qq,acc,e,⟨J,N⟩,M⟩ L8 C
 replace N:=N.nf
 obtain ⟨u,b0⟩:=M
 by_cases t:i < fr.length
 refine go fun a J=>?_
 obtain ⟨q,b⟩:=yG (l:=fr) (i:=i) (by omega)
 refine zT (J.ks [0,1,2,7]) N (fun R mm a w=>∃(k:Nat) (o:Bool),mm=acc.length - k/\R Φ [(8,.bool o),(9,.int .i64 k)] [] a w/\(o=cB (q,to) acc k)) (acc.length - 0) ⟨0,false,rfl,⟨J.pk,N⟩,(j5b _ _).symm⟩ ?_
 clear N J
 rintro mm a w ⟨k,o,e,⟨J,N⟩,c⟩ a0 f
 by_cases n:k < acc.length
 refine Reg [1,1,1,1,1,1,2,1,1,1,2,1,1,1,1,1,1,2,1,1,1,1,1] [0] fun w N a J=>?_
 refine go fun a J=>?_
 cases o
 refine go fun a J=>?_
 obtain ⟨T,r⟩:=N.toSees.gsSome (i:=0) rfl n
 obtain ⟨H,d⟩:=yG (l:=acc) (i:=k) (by omega)
 refine Qq (fun a J=>?_) (o:=by exact fun J O=>qO (p:=T) k J (by rw [<- r];rfl) rfl runUnderlying47 sizeOf95 n)
 refine Qq (fun a J=>?_) (o:=by exact fun J O=>y8r 0 (k * 2) 0 J O rfl (by rw [<- r];rfl) (sT d).1 isAgg9)
 refine go fun a J=>?_
 obtain ⟨c0,rfl,j,h,y,X,V,E⟩:=rf.el D t
 obtain rfl:y=[.string j]:=E
 by_cases A:H.1=j
 refine go fun a J=>?_
 obtain ⟨U,s⟩:=N.toSees.gsSome (i:=0) rfl n
 refine Qq (fun a J=>?_) (o:=by exact fun J O=>qO (p:=U) k J (by rw [<- s];rfl) rfl runUnderlying47 sizeOf95 n)
 refine Qq (fun a J=>?_) (o:=by exact fun J O=>y8r 0 (k * 2) 1 J O rfl (by rw [<- s];rfl) (sT d).2 isAgg9)
 by_cases B:H.2=to
 refine go fun a J=>?_
 refine f _ _ _ (by subst e;omega) ⟨(k+1),(true),rfl,⟨J.pk,N⟩,?_⟩
 have m:j=q:=Option.some.inj (h.symm.trans b)
 exact (x2w d (A.trans m) B).symm
 refine go fun a J=>?_
 refine f _ _ _ (by subst e;omega) ⟨(k+1),(false),rfl,⟨J.pk,N⟩,?_⟩
 have m:j=q:=Option.some.inj (h.symm.trans b)
 rw [y8d d (fun L=>B L.2)];exact c
 refine go fun a J=>?_
 refine f _ _ _ (by subst e;omega) ⟨(k+1),(false),rfl,⟨J.pk,N⟩,?_⟩
 have m:j=q:=Option.some.inj (h.symm.trans b)
 rw [y8d d (fun L=>A (L.1.trans m.symm))];exact c
 refine go fun a J=>?_
 refine f _ _ _ (by subst e;omega) ⟨(k+1),(true),rfl,⟨J.pk,N⟩,?_⟩
 obtain ⟨y_,P⟩:=yG (l:=acc) (i:=k) (by omega)
 exact (v0n P c.symm).symm
 refine go fun a J=>?_
 cases o
 refine go fun a J=>?_
 obtain ⟨d0,rfl,I,G,z,Y,W,F⟩:=rf.el D t
 obtain rfl:z=[.string I]:=F
 refine qM fun a J=>?_
 refine jQ fun e0 w N a J=>?_
 refine vH 1 rt_47 (fun f0 w N a J=>?_) (hb:=by rw [sU];simp only [lcQ,lnQ];omega)
 rw [y1n] at N
 obtain ⟨S,c51,rfl⟩:=q0n N (i:=1) rfl
 replace N:=N.nf
 refine go fun a J=>?_
 replace N:=N.dl [0]
 refine C _ _ _ (by subst e;omega) ⟨(i+1),(S),(c51),((acc++[(I,to)])),rfl,⟨J.pk,N⟩,?_⟩
 have g:=of_decide_eq_false (c.trans (q2q (by omega))).symm
 obtain rfl:=Option.some.inj (b.symm.trans G)
 exact ⟨by rw [u,toF_at b,z5i,q6c g],by rw [laQ];simp only [lcQ,lnQ];omega⟩
 refine go fun a J=>?_
 refine C _ _ _ (by subst e;omega) ⟨(i+1),(pp),(qq),(acc),rfl,⟨J.pk,N⟩,?_⟩
 have g:=of_decide_eq_true (c.trans (q2q (by omega))).symm
 exact ⟨by rw [u,toF_at b,z5i,j5w g],by omega⟩
 refine zC ?_
 rw [u,toF_end t];exact ⟨_,rfl,trivial,N⟩
end Go.Sw
