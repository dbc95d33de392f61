import Derived.Test.YtgkhcfjooiekkaaGreatDoorX13
set_option linter.unusedVariables false
set_option linter.unusedSimpArgs false
namespace Go.Sw
open Go.Proofs Go.Proofs.Tryz
set_option maxRecDepth 20000
set_option maxHeartbeats 4000000
theorem wT {b:Bool} (h:(!b)=false):b=true:=by cases b;cases h;rfl
theorem x6d {α:Type} {o:Option α} (h:o.isSome=false):o=none:=by cases o;rfl;cases h
theorem wS {b:Bool} (h:(!b)=true):b=false:=by cases b;rfl;cases h
theorem j1h {V:Fz} {K:List Res} {w:World} {d0:List Value} {c:Core} {v1:Value} {vars:List Param} {d2:List Value} {e:Ex} (t:RCore V d0 c) (m:SliceOf RParam V 2 v1 vars) (S:REx V d2 e) (hL:Lim c) (O:pT e) (hb:vars.length+(yH e).length<=1000000) (ih:∀x:Ex,x.sz < e.sz->∀{V:Fz} {K:List Res} {w:World} {d0:List Value} {v1:Value} {vars:List Param} {d2:List Value},RCore V d0 c->SliceOf RParam V 2 v1 vars->REx V d2 x->pT x->vars.length+(yH x).length<=1000000->Mem V K w->Calls prog 111 #[.agg d0.toArray,v1,.agg d2.toArray] w (fun ee w'=>ee=.returned (.tuple #[.string (zQ c x vars).1,.bool (zQ c x vars).2])/\Mem V K w')) (N:Mem V K w) :
  Calls prog 162 #[.agg d0.toArray,v1,.agg d2.toArray] w (fun ee w'=>ee=.returned (.tuple #[.string (mR c e vars).1,.bool (mR c e vars).2])/\Mem V K w'):=by
 obtain ⟨p3,c4,p9,k2,H2,l2,I2,c22,rfl,h2,h8,r2,s2,C2,E2,E1,M1,F1,N1,G1,O1⟩:=RCore.fm t
 obtain ⟨p1,c1,rfl,B2,D2⟩:=m.fm
 obtain ⟨J2,m2,K2,n2,rfl,B1,Q0,j0,H1,G0,I1,H0⟩:=REx.fm S
 refine zI func162 ntmps162 fun Q hQ a J=>?_
 refine Bx fun f2 w N a J=>?_
 refine Bx fun i2 w N a J=>?_
 by_cases v2:e.args.length=1
 by_cases w2:e.name=(⟨#[]⟩:Bs)
 refine Reg [2,1,1,2,1,2,0,1,1,1,1,1] [0,1] fun w N a J=>?_
 have X:¬(e.args.length≠1∨e.name≠sNo):=by simp [sNo, *]
 refine go fun a J=>?_
 have E0:0 < e.args.length:=by omega
 obtain ⟨O2,rfl,W,q,t1,D1,A,r⟩:=Q0.el G0 E0
 obtain ⟨L2,o2,M2,c63,rfl,C1,x2,y2,J1,P1,K1,Q1⟩:=REx.fm r
 refine zO call111 (fun w N a J=>?_) (c:=ih _ (Ex.lt_args (mgQ q)) t m r ((qZ O).2.1 _ (mgQ q)) (by have h_:=sX (mgQ q);omega) N)
 refine zV call118 (fun j1 w D0 N a J=>?_) (c:=y3o t N)
 obtain ⟨E,q2⟩:=j1
 obtain ⟨h,C⟩:=D0
 simp only at h C N J
 replace t:=t.up h
 replace m:=m.up h
 replace j0:=j0.up h
 replace S:=S.up h
 replace A:=A.mono h
 replace r:=r.up h
 replace N:=N.nf
 obtain ⟨Q2,rfl,B0⟩:=id C
 obtain ⟨N2,p2,rfl,L1,I0⟩:=B0.fm
 refine Alc fun j2 w N a J=>?_
 refine Sto 0 fun w N a J=>?_
 refine go fun a J=>?_
 generalize z1:(!((zQ c W vars).2))=w0 at J
 cases w0
 refine go fun a J=>?_
 generalize A1:(!(qV c.datas ((zQ c W vars).1)).isSome)=x0 at J
 cases x0
 by_cases z2:((qV c.datas ((zQ c W vars).1)).getD z4m).cons.length=e.arms.length
 refine go fun a J=>?_
 have F0:=x2s (c:=c) (vars:=vars) X q (by first | assumption | exact wT (by assumption) | exact wS (by assumption)) (by first | assumption | exact wT (by assumption) | exact wS (by assumption)) (by omega)
 refine go fun a J=>?_
 refine zR (J.ks [1,3,5,10]) N (fun R mm a w=>∃(i:Nat) (o:Bs),mm=e.arms.length - i/\R E [(12,.string o),(13,.int .i64 i)] [] a w/\(mR c e vars=armsR c (e.arms.drop i) (((qV c.datas ((zQ c W vars).1)).getD z4m).cons.drop i) (decide (i=0)) o vars)) (e.arms.length - 0) ⟨0,sNo,rfl,⟨J.pk,N⟩,F0⟩ ?_
 clear N J
 rintro mm a w ⟨i,o,Y,⟨J,N⟩,p⟩ e2 b0
 by_cases C0:i < e.arms.length
 refine go fun a J=>?_
 obtain ⟨P2,rfl,d,j,N0,V0,G,v⟩:=j0.el H0 C0
 obtain ⟨a2,l1,rfl,Z,z⟩:=RArm.iff.1 v
 obtain ⟨S1,n1,rfl,Z0,o0⟩:=Z.fm
 obtain ⟨T1,o1,U1,q1,rfl,U0,u1,w1,a1,f1,b1,g1⟩:=REx.fm z
 refine Alc fun m1 w N a J=>?_
 refine Sto 0 fun w N a J=>?_
 refine Reg [1,2,1,2,1,1,1,2,1,1,1,2,1,1,2,1,1,1,2,1,1,1] [0,1,2,3] fun w N a J=>?_
 refine go fun a J=>?_
 have m0:i < ((qV c.datas ((zQ c W vars).1)).getD z4m).cons.length:=by omega
 obtain ⟨X1,rfl,f,n,O0,W0,H,y⟩:=B0.el I0 m0
 obtain ⟨b2,rfl,a0⟩:=id y
 obtain ⟨V1,r1,rfl,d1,p0⟩:=a0.fm
 by_cases y0:d.con=f.name
 by_cases z0:d.vars.length=f.fields.length
 refine go fun a J=>?_
 have B:¬(d.con≠f.name∨d.vars.length≠f.fields.length):=fun g=>g.elim (fun g=>g y0) (fun g=>g z0)
 refine st J rfl rfl rfl (mK (sz:=2) (cs:=[]) J N rfl (z7n runUnderlying23 sizeOf72) rfl (by decide) fun v146 w N _ a J=>?_)
 refine go fun a J=>?_
 obtain ⟨F,M,s⟩:=id m
 refine st J rfl rfl rfl (kK 0 (xs:=[]) (news:=F) z0o J N rfl rfl rfl (M.rowIn N.toSees) (s.ones RParam.ones) (by intro n_ m_ J0 K0;have h_:=s.length;simp only [lnQ] at J0;omega) fun M0 w N a J=>?_)
 replace N:=N.nf
 refine go fun a J=>?_
 refine zR (J.ks [1,3,5,10,12,13,14]) N (fun R mm a w=>∃(k:Nat) (u:Value) (cs:List Value),mm=d.vars.length - k/\R E [(15,u),(16,.int .i64 k)] [(0,.gs (u) 72 2 cs)] a w/\(k<=d.vars.length/\Chunks (RParam E) 2 cs (vars++jI (d.vars.take k) (f.fields.take k)))) (d.vars.length - 0) ⟨0,M0,F,rfl,⟨J.pk,N⟩,⟨Nat.zero_le _,by simpa [jI] using s⟩⟩ ?_
 clear N J
 rintro mm a w ⟨k,u,cs,Y,⟨J,N⟩,k0⟩ k1 l0
 replace N:=N.nf
 obtain ⟨A2,L⟩:=k0
 by_cases A0:k < d.vars.length
 refine Reg [1,1,2,1,1,2,1,2,1,1,1,2,1,1,2,1,0,0,1] [1,2,3,4] fun w N a J=>?_
 refine go fun a J=>?_
 obtain ⟨Y1,rfl,T,s0,h0,X0,R0,q0⟩:=Z.el o0 A0
 obtain rfl:h0=[.string T]:=q0
 refine go fun a J=>?_
 have n0:k < f.fields.length:=by omega
 obtain ⟨Z1,rfl,U,t0,i0,Y0,S0,r0⟩:=a0.el p0 n0
 obtain rfl:i0=[.string U]:=r0
 refine zU fun a J=>?_
 refine yK fun c2 w N a J=>?_
 refine d_e J rfl rfl rfl (kK 1 (xs:=cs) (news:=[.string T,.string U]) z0o J N rfl rfl rfl (N.toSees.rowIn (i:=0) rfl) rfl (by intro n_ m_ J0 K0;have h_:=L.length;have u2:=q6g (mgQ j);rw [laQ] at h_;have t2:(jI (d.vars.take k) (f.fields.take k)).length<=k:=(by unfold jI;rw [List.length_map,List.length_zip,List.length_take];omega);simp only [lcQ,lnQ] at K0;omega) fun v175 w N=>⟨fun _=>N.sn (Fz.Le.refl _),fun a J=>?_⟩)
 replace N:=N.nf
 refine go fun a J=>?_
 replace N:=N.dl [0]
 refine l0 _ _ _ (by subst Y;omega) ⟨(k+1),(v175),((cs++[.string T,.string U])),rfl,⟨J.pk,by exact N⟩,?_⟩
 exact ⟨by omega,by rw [j0b s0 t0,<- List.append_assoc];exact Chunks.snoc (R:=RParam E) (k:=2) (x:=(⟨_,_⟩:Param)) rfl rfl L⟩
 refine go fun a J=>?_
 have I:=L
 rw [List.take_of_length_le (l:=d.vars) (by omega),List.take_of_length_le (l:=f.fields) (by omega)] at I
 have c0:=N
 clear N
 obtain ⟨u0,b,N,P⟩:=c0.freezeRow (i:=0) rfl
 clear c0
 replace t:=t.up b
 replace S:=S.up b
 replace A:=A.mono b
 replace r:=r.up b
 replace C:=C.up b
 replace G:=G.mono b
 replace v:=v.up b
 replace z:=z.up b
 replace H:=H.mono b
 replace y:=RCon.mono _ _ _ _ b y
 replace N:=N.nf
 have D:SliceOf RParam u0 2 _ ((vars++jI d.vars f.fields)):=⟨_,P,I⟩
 obtain ⟨W1,s1,i1,e1,h1⟩:=D.form (by decide)
 have f0:=N
 clear N
 subst i1
 have N:=f0
 clear f0
 refine zO call111 (fun w N a J=>?_) (c:=ih _ (Ex.lt_arms (mgQ j)) t D z ((qZ O).2.2 _ (mgQ j)).1 (by have h_:=q6g (mgQ j);rw [laQ,show (jI d.vars f.fields).length=d.vars.length by unfold jI;rw [List.length_map,List.length_zip];omega];omega) N)
 refine go fun a J=>?_
 generalize T0:(!((zQ c d.body (vars++jI d.vars f.fields)).2))=g0 at J
 cases g0
 by_cases x1:0 < i
 by_cases y1:(zQ c d.body (vars++jI d.vars f.fields)).1=o
 refine go fun a J=>?_
 replace N:=N.le (b)
 replace N:=N.dl [0]
 refine b0 _ _ _ (by subst Y;omega) ⟨(i+1),((zQ c d.body (vars++jI d.vars f.fields)).1),rfl,⟨J.pk,by exact N⟩,?_⟩
 rw [p,zA j,zA n,nA,if_neg B,if_neg (by rintro (g | ⟨g,g2⟩);exact absurd (g.symm.trans ((by first | assumption | exact wT (by assumption) | exact wS (by assumption)):(zQ c d.body (vars++jI d.vars f.fields)).2=true)) (by decide);first | exact g2 (by assumption) | (have:=of_decide_eq_false g;omega))];rfl
 refine jO ?_
 replace N:=N.le ((h).trans b)
 replace N:=N.dl [3,2,1,0]
 have hr_:mR c e vars=((⟨#[]⟩:Bs),false):=by rw [p,zA j,zA n,nA,if_neg B];exact if_pos (by first | exact .inl (by first | assumption | exact wT (by assumption) | exact wS (by assumption)) | exact .inr ⟨decide_eq_false (by omega),by assumption⟩)
 show _/\_;rw [hr_];exact ⟨rfl,N⟩
 refine go fun a J=>?_
 replace N:=N.le (b)
 replace N:=N.dl [0]
 refine b0 _ _ _ (by subst Y;omega) ⟨(i+1),((zQ c d.body (vars++jI d.vars f.fields)).1),rfl,⟨J.pk,by exact N⟩,?_⟩
 rw [p,zA j,zA n,nA,if_neg B,if_neg (by rintro (g | ⟨g,g2⟩);exact absurd (g.symm.trans ((by first | assumption | exact wT (by assumption) | exact wS (by assumption)):(zQ c d.body (vars++jI d.vars f.fields)).2=true)) (by decide);first | exact g2 (by assumption) | (have:=of_decide_eq_false g;omega))];rfl
 refine jO ?_
 replace N:=N.le ((h).trans b)
 replace N:=N.dl [3,2,1,0]
 have hr_:mR c e vars=((⟨#[]⟩:Bs),false):=by rw [p,zA j,zA n,nA,if_neg B];exact if_pos (by first | exact .inl (by first | assumption | exact wT (by assumption) | exact wS (by assumption)) | exact .inr ⟨decide_eq_false (by omega),by assumption⟩)
 show _/\_;rw [hr_];exact ⟨rfl,N⟩
 refine jO ?_
 replace N:=N.le (h)
 replace N:=N.dl [3,2,1,0]
 have hr_:mR c e vars=((⟨#[]⟩:Bs),false):=by rw [p,zA j,zA n,nA];exact if_pos (by first | exact .inl (by assumption) | exact .inr (by assumption))
 show _/\_;rw [hr_];exact ⟨rfl,N⟩
 refine jO ?_
 replace N:=N.le (h)
 replace N:=N.dl [3,2,1,0]
 have hr_:mR c e vars=((⟨#[]⟩:Bs),false):=by rw [p,zA j,zA n,nA];exact if_pos (by first | exact .inl (by assumption) | exact .inr (by assumption))
 show _/\_;rw [hr_];exact ⟨rfl,N⟩
 refine jO ?_
 replace N:=N.le (h)
 replace N:=N.dl [2,1,0]
 have hr_:mR c e vars=(o,true):=by rw [p,zE C0];rfl
 show _/\_;rw [hr_];exact ⟨rfl,N⟩
 refine jO ?_
 replace N:=N.le (h)
 replace N:=N.dl [2,1,0]
 have hr_:mR c e vars=((⟨#[]⟩:Bs),false):=by exact z7o X q (by first | exact .inl (by first | assumption | exact wT (by assumption) | exact wS (by assumption)) | exact .inr (.inl (by first | assumption | exact wT (by assumption) | exact wS (by assumption))) | exact .inr (.inr (by omega)))
 show _/\_;rw [hr_];exact ⟨rfl,N⟩
 refine jO ?_
 replace N:=N.le (h)
 replace N:=N.dl [2,1,0]
 have hr_:mR c e vars=((⟨#[]⟩:Bs),false):=by exact z7o X q (by first | exact .inl (by first | assumption | exact wT (by assumption) | exact wS (by assumption)) | exact .inr (.inl (by first | assumption | exact wT (by assumption) | exact wS (by assumption))) | exact .inr (.inr (by omega)))
 show _/\_;rw [hr_];exact ⟨rfl,N⟩
 refine jO ?_
 replace N:=N.le (h)
 replace N:=N.dl [2,1,0]
 have hr_:mR c e vars=((⟨#[]⟩:Bs),false):=by exact z7o X q (by first | exact .inl (by first | assumption | exact wT (by assumption) | exact wS (by assumption)) | exact .inr (.inl (by first | assumption | exact wT (by assumption) | exact wS (by assumption))) | exact .inr (.inr (by omega)))
 show _/\_;rw [hr_];exact ⟨rfl,N⟩
 refine jO ?_
 replace N:=N.dl [1,0]
 have hr_:mR c e vars=((⟨#[]⟩:Bs),false):=by exact q6k (by simp [sNo, *])
 show _/\_;rw [hr_];exact ⟨rfl,N⟩
 refine jO ?_
 replace N:=N.dl [1,0]
 have hr_:mR c e vars=((⟨#[]⟩:Bs),false):=by exact q6k (by simp [sNo, *])
 show _/\_;rw [hr_];exact ⟨rfl,N⟩
theorem j4s {V:Fz} {K:List Res} {w:World} {d0:List Value} {c:Core} {v1:Value} {vars:List Param} {d2:List Value} {e:Ex} (m:RCore V d0 c) (b:SliceOf RParam V 2 v1 vars) (z:REx V d2 e) (hL:Lim c) (O:pT e) (hb:vars.length+(yH e).length<=1000000) (ih:∀x:Ex,x.sz < e.sz->∀{V:Fz} {K:List Res} {w:World} {d0:List Value} {v1:Value} {vars:List Param} {d2:List Value},RCore V d0 c->SliceOf RParam V 2 v1 vars->REx V d2 x->pT x->vars.length+(yH x).length<=1000000->Mem V K w->Calls prog 111 #[.agg d0.toArray,v1,.agg d2.toArray] w (fun ee w'=>ee=.returned (.tuple #[.string (zQ c x vars).1,.bool (zQ c x vars).2])/\Mem V K w')) (N:Mem V K w) :
  Calls prog 111 #[.agg d0.toArray,v1,.agg d2.toArray] w (fun ee w'=>ee=.returned (.tuple #[.string (zQ c e vars).1,.bool (zQ c e vars).2])/\Mem V K w'):=by
 obtain ⟨p3,c4,p9,A1,J2,B1,Y1,c22,rfl,h2,h8,H,Q5,Z5,a6,Z4,E2,a5,F2,b5,e5⟩:=RCore.fm m
 obtain ⟨p1,c1,rfl,Y5,R3⟩:=b.fm
 obtain ⟨Z1,C1,a2,D1,rfl,W4,h0,R5,c5,o1,d5,f5⟩:=REx.fm z
 refine zI func111 ntmps111 fun Q hQ a J=>?_
 refine Bx fun e1 w N a J=>?_
 refine Bx fun f1 w N a J=>?_
 refine goJ 3 fun a J=>?_
 refine sq fun U2 y2=>?_
 have x0:∀a w,(EnvR 268 [(1,.slice p1 vars.length c1),(3,.pointer (some ⟨e1,0,none⟩)),(5,.pointer (some ⟨f1,0,none⟩))] [] a/\Mem V (.blk f1 (ob [.int .i64 (e.kind),.int .i64 (e.num),.string e.name,.slice Z1 e.args.length C1,.slice a2 e.arms.length D1] 66)::.blk e1 (ob [.slice p3 c.datas.length c4,.slice p9 c.inputs.length A1,.slice J2 c.funs.length B1,.slice Y1 c.outputs.length c22] 27)::K) w/\(¬aZ e))->U2 a w:=by
  clear N J
  rintro a w ⟨J,N,w2⟩
  apply y2
  have y:=w2
  by_cases l0:e.kind=1
  refine Reg [1,2,1,1,1,2,1,1,1,1,1] [0,1] fun w N a J=>?_
  by_cases S5:e.name=(⟨#[]⟩:Bs)
  refine Qq (fun a J=>?_) (o:=by exact fun J O=>pR (i:=e.args.length) (j:=0) J rfl rfl)
  refine jO ?_
  replace N:=N.dl [1,0]
  have hr_:zQ c e vars=((⟨#[73,110,116]⟩:Bs),(decide (e.args.length=0))):=by rw [j7t y (by assumption)];simp [sNo,yL, *]
  show _/\_;rw [hr_];exact ⟨rfl,N⟩
  refine jO ?_
  replace N:=N.dl [1,0]
  have hr_:zQ c e vars=((⟨#[73,110,116]⟩:Bs),false):=by rw [j7t y (by assumption)];simp [sNo,yL, *]
  show _/\_;rw [hr_];exact ⟨rfl,N⟩
  by_cases m0:e.kind=2
  refine Qq (fun a J=>?_) (o:=by exact fun J O=>jT (((vars.length:Nat):Int) - 1) J rfl rfl (yB (by omega)))
  refine go fun a J=>?_
  refine zR (J.ks [1,5]) N (fun R mm a w=>∃(k:Nat),mm=k/\R V [(8,.int .i64 (((k:Nat):Int) - 1))] [] a w/\(k<=vars.length/\gA vars e.name=gA (vars.take k) e.name)) (vars.length) ⟨vars.length,rfl,⟨J.pk,N⟩,⟨Nat.le_refl _,by rw [List.take_length]⟩⟩ ?_
  clear N J
  rintro mm a w ⟨k,i0,⟨J,N⟩,x2⟩ N5 z2
  obtain ⟨X5,P1⟩:=x2
  by_cases T5:0<=((k:Nat):Int) - 1
  refine Reg [1,1,1,1,2,1,2,1] [0,1] fun w N a J=>?_
  rw [show ((k:Nat):Int) - 1=((k - 1:Nat):Int) by omega] at J
  refine go fun a J=>?_
  have B2:(k - 1) < vars.length:=by omega
  obtain ⟨c6,rfl,R2,r1,B4,X4,U4,G2⟩:=b.el R3 B2
  obtain rfl:=id G2
  refine go fun a J=>?_
  by_cases t2:R2.name=e.name
  refine Reg [1,1,1,1,2,1,2,1,1,1,1] [0,1] fun w N a J=>?_
  refine go fun a J=>?_
  refine Qq (fun a J=>?_) (o:=by exact fun J O=>pR (i:=e.args.length) (j:=0) J rfl rfl)
  refine jO ?_
  replace N:=N.dl [1,0]
  have hr_:zQ c e vars=(R2.type,(decide (e.args.length=0))):=by rw [j7u y (by assumption),P1,show k=(k - 1)+1 by omega,xK r1,z1h,if_pos t2]
  show _/\_;rw [hr_];exact ⟨rfl,N⟩
  refine Qq (fun a J=>?_) (o:=by exact fun J O=>jT (((k - 1:Nat):Int) - 1) J rfl rfl (yB (by omega)))
  refine go fun a J=>?_
  refine z2 _ _ _ (by subst i0;omega) ⟨(k - 1),rfl,⟨J.pk,N⟩,?_⟩
  exact ⟨by omega,by rw [P1,show k=(k - 1)+1 by omega,xK r1,z1h,if_neg t2];rfl⟩
  refine jO ?_
  replace N:=N.dl [1,0]
  have hr_:zQ c e vars=((⟨#[]⟩:Bs),false):=by rw [j7u y (by assumption),P1,show k=0 by omega];rfl
  show _/\_;rw [hr_];exact ⟨rfl,N⟩
  by_cases n0:e.kind=3
  refine go fun a J=>?_
  refine zR (J.ks [3,5]) N (fun R mm a w=>∃(i:Nat),mm=c.inputs.length - i/\R V [(9,.int .i64 i)] [] a w/\(z8k c.inputs e.name=z8k (c.inputs.drop i) e.name)) (c.inputs.length - 0) ⟨0,rfl,⟨J.pk,N⟩,rfl⟩ ?_
  clear N J
  rintro mm a w ⟨i,i0,⟨J,N⟩,H0⟩ O5 A2
  by_cases u2:i < c.inputs.length
  refine Reg [1,2,1,1,1,2,1,2,1] [0,1] fun w N a J=>?_
  refine go fun a J=>?_
  obtain ⟨d6,rfl,S2,s1,C4,Y4,V4,H2⟩:=h8.el E2 u2
  obtain rfl:=id H2
  by_cases v2:S2.name=e.name
  refine Reg [1,2,1,1,1,2,1,2,1,1,1,1] [0,1] fun w N a J=>?_
  refine Qq (fun a J=>?_) (o:=by exact fun J O=>pR (i:=e.args.length) (j:=0) J rfl rfl)
  refine jO ?_
  replace N:=N.dl [1,0]
  have hr_:zQ c e vars=(S2.type,(decide (e.args.length=0))):=by rw [j7v y (by assumption),H0,zA s1,z8k,if_pos v2]
  show _/\_;rw [hr_];exact ⟨rfl,N⟩
  refine go fun a J=>?_
  refine A2 _ _ _ (by subst i0;omega) ⟨(i+1),rfl,⟨J.pk,N⟩,?_⟩
  rw [H0,zA s1,z8k,if_neg v2]
  refine jO ?_
  replace N:=N.dl [1,0]
  have hr_:zQ c e vars=((⟨#[]⟩:Bs),false):=by rw [j7v y (by assumption),H0,zE u2];rfl
  show _/\_;rw [hr_];exact ⟨rfl,N⟩
  refine go fun a J=>?_
  by_cases Z:e.kind=6
  by_cases V5:e.args.length=2
  refine Reg [2,1,1,2,1,2,0,1,1,1,1,1] [0,1] fun w N a J=>?_
  refine go fun a J=>?_
  have C2:0 < e.args.length:=by omega
  obtain ⟨u5,rfl,d,E,V2,r3,I,A⟩:=h0.el o1 C2
  obtain ⟨g5,p4,h5,q4,rfl,l3,E4,F4,y3,S3,z3,T3⟩:=REx.fm A
  refine zO call111 (fun w N a J=>?_) (c:=ih _ (Ex.lt_args (mgQ E)) m b A ((qZ O).2.1 _ (mgQ E)) (by have h_:=sX (mgQ E);omega) N)
  refine go fun a J=>?_
  generalize h3:(!((zQ c d vars).2))=x1 at J
  cases x1
  refine go fun a J=>?_
  refine qP [2,0,1,0,1,2,1,1,0,0,1,2,1,2,0,1,1,1,1] (.q 0 (.q 2 (.q 4 (.q 5 (.q 6 (.q 7 (.q 10 (.q 11 (.q 12 (.q 13 (.e2 1 8 (.e2 3 8 (.e 8 (.e 9 (.e 14 (.q 15 (.q 16 (.q 17 (.q 18 (.done)))))))) (.e 3 (.e 9 (.e 14 (.q 15 (.q 16 (.q 17 (.q 18 (.done))))))))) (.e 1 (.e 3 (.e 9 (.e 14 (.q 15 (.q 16 (.q 17 (.q 18 (.done)))))))))))))))))))) [0,1] J N fun w N=>?_
  refine zU fun a J=>?_
  refine go fun a J=>?_
  have M1:1 < e.args.length:=by omega
  obtain ⟨g0,h⟩:=jC M1
  obtain ⟨W2,s3,L,n⟩:=h0.elem h
  obtain ⟨i5,c135,j5,r4,rfl,m3,G4,H4,A3,U3,B3,V3⟩:=REx.fm n
  refine go fun a J=>?_
  refine aT ?_ ?_
  refine d_e J rfl rfl rfl (mK (sz:=2) (cs:=[]) J N rfl (z7n runUnderlying23 sizeOf72) rfl (by decide) fun v145 w N _=>⟨fun _=>N.sn (Fz.Le.refl _),fun a J=>?_⟩)
  refine aT ?_ ?_
  obtain ⟨q0,L0,U⟩:=id b
  refine d_e J rfl rfl rfl (kK 0 (xs:=[]) (news:=q0) z0o J N rfl rfl rfl (L0.rowIn N.toSees) (U.ones RParam.ones) (by intro n_ m_ o0 p0;have h_:=U.length;simp only [lnQ] at o0;omega) fun v146 w N=>⟨fun _=>N.sn (Fz.Le.refl _),fun a J=>?_⟩)
  replace N:=N.nf
  refine yK fun B5 w N a J=>?_
  refine d_e J rfl rfl rfl (kK 1 (xs:=q0) (news:=[.string e.name,.string (zQ c d vars).1]) z0o J N rfl rfl rfl (N.toSees.rowIn (i:=0) rfl) rfl (by intro n_ m_ o0 p0;have h_:=U.length;simp only [lcQ,lnQ] at p0;omega) fun C5 w N=>⟨fun _=>N.sn (Fz.Le.refl _),fun a J=>?_⟩)
  replace N:=N.nf
  have g1:Chunks (RParam V) 2 (q0++[.string e.name,.string (zQ c d vars).1]) (vars++[⟨e.name,(zQ c d vars).1⟩]):=Chunks.snoc (R:=RParam V) (k:=2) (x:=(⟨e.name,(zQ c d vars).1⟩:Param)) rfl rfl U
  have f:=N
  clear N
  obtain ⟨b2,p,N,M0⟩:=f.freezeRow (i:=1) rfl
  clear f
  replace H:=H.up p
  replace m:=m.up p
  replace b:=b.up p
  replace h0:=h0.up p
  replace z:=z.up p
  replace I:=I.mono p
  replace A:=A.up p
  replace L:=L.mono p
  replace n:=n.up p
  replace N:=N.nf
  have y0:SliceOf RParam b2 2 _ ((vars++[⟨e.name,(zQ c d vars).1⟩])):=⟨_,M0,g1⟩
  obtain ⟨k5,s4,D,C3,W3⟩:=y0.form (by decide)
  have g:=N
  clear N
  subst D
  have N:=g
  clear g
  refine zO call111 (fun w N a J=>?_) (c:=ih _ (Ex.lt_args (mgQ h)) m y0 n ((qZ O).2.1 _ (mgQ h)) (by have h_:=sX (mgQ h);rw [if_pos Z] at h_;rw [laQ,lcQ,lnQ];omega) N)
  refine jO ?_
  replace N:=N.le (p)
  replace N:=N.dl [2,1,0]
  have hr_:zQ c e vars=((zQ c g0 (vars++[⟨e.name,(zQ c d vars).1⟩])).1,((zQ c g0 (vars++[⟨e.name,(zQ c d vars).1⟩])).2)):=by rw [z7c y (by assumption)];exact y5k (by assumption) E h (by first | assumption | exact wT (by assumption) | exact wS (by assumption))
  show _/\_;rw [hr_];exact ⟨rfl,N⟩
  refine yK fun D5 w N a J=>?_
  obtain ⟨r0,N0,W⟩:=id b
  refine d_e J rfl rfl rfl (kK 1 (xs:=[]) (news:=r0) z0o J N rfl rfl rfl (N0.rowIn N.toSees) (W.ones RParam.ones) (by intro n_ m_ o0 p0;have h_:=W.length;simp only [lnQ] at o0;omega) fun E5 w N=>⟨fun _=>N.sn (Fz.Le.refl _),fun a J=>?_⟩)
  replace N:=N.nf
  refine d_e J rfl rfl rfl (kK 1 (xs:=r0) (news:=[.string e.name,.string (zQ c d vars).1]) z0o J N rfl rfl rfl (N.toSees.rowIn (i:=0) rfl) rfl (by intro n_ m_ o0 p0;have h_:=W.length;simp only [lcQ,lnQ] at p0;omega) fun F5 w N=>⟨fun _=>N.sn (Fz.Le.refl _),fun a J=>?_⟩)
  replace N:=N.nf
  have h1:Chunks (RParam V) 2 (r0++[.string e.name,.string (zQ c d vars).1]) (vars++[⟨e.name,(zQ c d vars).1⟩]):=Chunks.snoc (R:=RParam V) (k:=2) (x:=(⟨e.name,(zQ c d vars).1⟩:Param)) rfl rfl W
  have f:=N
  clear N
  obtain ⟨c2,r,N,O0⟩:=f.freezeRow (i:=1) rfl
  clear f
  replace H:=H.up r
  replace m:=m.up r
  replace b:=b.up r
  replace h0:=h0.up r
  replace z:=z.up r
  replace I:=I.mono r
  replace A:=A.up r
  replace L:=L.mono r
  replace n:=n.up r
  replace N:=N.nf
  have z0:SliceOf RParam c2 2 _ ((vars++[⟨e.name,(zQ c d vars).1⟩])):=⟨_,O0,h1⟩
  obtain ⟨l5,c173,D,D3,X3⟩:=z0.form (by decide)
  have g:=N
  clear N
  subst D
  have N:=g
  clear g
  refine zO call111 (fun w N a J=>?_) (c:=ih _ (Ex.lt_args (mgQ h)) m z0 n ((qZ O).2.1 _ (mgQ h)) (by have h_:=sX (mgQ h);rw [if_pos Z] at h_;rw [laQ,lcQ,lnQ];omega) N)
  refine jO ?_
  replace N:=N.le (r)
  replace N:=N.dl [2,1,0]
  have hr_:zQ c e vars=((zQ c g0 (vars++[⟨e.name,(zQ c d vars).1⟩])).1,((zQ c g0 (vars++[⟨e.name,(zQ c d vars).1⟩])).2)):=by rw [z7c y (by assumption)];exact y5k (by assumption) E h (by first | assumption | exact wT (by assumption) | exact wS (by assumption))
  show _/\_;rw [hr_];exact ⟨rfl,N⟩
  refine yK fun G5 w N a J=>?_
  refine d_e J rfl rfl rfl (mK (sz:=2) (cs:=[]) J N rfl (z7n runUnderlying23 sizeOf72) rfl (by decide) fun H5 w N _=>⟨fun _=>N.sn (Fz.Le.refl _),fun a J=>?_⟩)
  obtain ⟨s0,P0,X⟩:=id b
  refine d_e J rfl rfl rfl (kK 0 (xs:=[]) (news:=s0) z0o J N rfl rfl rfl (P0.rowIn N.toSees) (X.ones RParam.ones) (by intro n_ m_ o0 p0;have h_:=X.length;simp only [lnQ] at o0;omega) fun I5 w N=>⟨fun _=>N.sn (Fz.Le.refl _),fun a J=>?_⟩)
  replace N:=N.nf
  refine d_e J rfl rfl rfl (kK 0 (xs:=s0) (news:=[.string e.name,.string (zQ c d vars).1]) z0o J N rfl rfl rfl (N.toSees.rowIn (i:=1) rfl) rfl (by intro n_ m_ o0 p0;have h_:=X.length;simp only [lcQ,lnQ] at p0;omega) fun J5 w N=>⟨fun _=>N.sn (Fz.Le.refl _),fun a J=>?_⟩)
  replace N:=N.nf
  have i1:Chunks (RParam V) 2 (s0++[.string e.name,.string (zQ c d vars).1]) (vars++[⟨e.name,(zQ c d vars).1⟩]):=Chunks.snoc (R:=RParam V) (k:=2) (x:=(⟨e.name,(zQ c d vars).1⟩:Param)) rfl rfl X
  have f:=N
  clear N
  obtain ⟨f2,s,N,Q0⟩:=f.freezeRow (i:=0) rfl
  clear f
  replace H:=H.up s
  replace m:=m.up s
  replace b:=b.up s
  replace h0:=h0.up s
  replace z:=z.up s
  replace I:=I.mono s
  replace A:=A.up s
  replace L:=L.mono s
  replace n:=n.up s
  replace N:=N.nf
  have A0:SliceOf RParam f2 2 _ ((vars++[⟨e.name,(zQ c d vars).1⟩])):=⟨_,Q0,i1⟩
  obtain ⟨m5,t4,D,E3,Y3⟩:=A0.form (by decide)
  have g:=N
  clear N
  subst D
  have N:=g
  clear g
  refine zO call111 (fun w N a J=>?_) (c:=ih _ (Ex.lt_args (mgQ h)) m A0 n ((qZ O).2.1 _ (mgQ h)) (by have h_:=sX (mgQ h);rw [if_pos Z] at h_;rw [laQ,lcQ,lnQ];omega) N)
  refine jO ?_
  replace N:=N.le (s)
  replace N:=N.dl [2,1,0]
  have hr_:zQ c e vars=((zQ c g0 (vars++[⟨e.name,(zQ c d vars).1⟩])).1,((zQ c g0 (vars++[⟨e.name,(zQ c d vars).1⟩])).2)):=by rw [z7c y (by assumption)];exact y5k (by assumption) E h (by first | assumption | exact wT (by assumption) | exact wS (by assumption))
  show _/\_;rw [hr_];exact ⟨rfl,N⟩
  refine jO ?_
  replace N:=N.dl [1,0]
  have hr_:zQ c e vars=((⟨#[]⟩:Bs),false):=by rw [z7c y (by assumption)];exact j2n E (by first | assumption | exact wT (by assumption) | exact wS (by assumption))
  show _/\_;rw [hr_];exact ⟨rfl,N⟩
  refine jO ?_
  replace N:=N.dl [1,0]
  have hr_:zQ c e vars=((⟨#[]⟩:Bs),false):=by rw [z7c y (by assumption)];exact letR_no (by assumption)
  show _/\_;rw [hr_];exact ⟨rfl,N⟩
  by_cases T:e.kind=7
  refine zO call162 (fun w N a J=>?_) (c:=j1h m b z hL O hb ih N)
  refine jO ?_
  replace N:=N.dl [1,0]
  have hr_:zQ c e vars=((mR c e vars).1,((mR c e vars).2)):=by exact typeR_7 y (by assumption)
  show _/\_;rw [hr_];exact ⟨rfl,N⟩
  refine go fun a J=>?_
  replace N:=N.nilRow 9 1
  replace N:=N.nf
  refine zR (J.ks [1,3,5]) N (fun R mm a w=>∃(i:Nat) (u:Value) (ts:List Bs),mm=e.args.length - i/\R V [(12,u),(13,.int .i64 i)] [(0,.gs (u) 9 1 (strs ts))] a w/\(ts.length=i/\typesR c e.args vars=(ts++(typesR c (e.args.drop i) vars).1,(typesR c (e.args.drop i) vars).2))) (e.args.length - 0) ⟨0,.slice none 0 0,[],rfl,⟨J.pk,N⟩,⟨rfl,rfl⟩⟩ ?_
  clear N J
  rintro mm a w ⟨i,u,ts,i0,⟨J,N⟩,H1⟩ k4 I1
  replace N:=N.nf
  obtain ⟨D2,W1⟩:=H1
  by_cases j1:i < e.args.length
  refine Reg [2,1,1,2,1,1,2,0,1,1,1,1,1] [0,1,2] fun w N a J=>?_
  refine go fun a J=>?_
  obtain ⟨v5,rfl,b1,c0,X2,t3,d3,K0⟩:=h0.el o1 j1
  obtain ⟨n5,u4,o5,v4,rfl,n3,I4,J4,F3,Z3,G3,a4⟩:=REx.fm K0
  refine zO call111 (fun w N a J=>?_) (c:=ih _ (Ex.lt_args (mgQ c0)) m b K0 ((qZ O).2.1 _ (mgQ c0)) (by have h_:=sX (mgQ c0);omega) N)
  refine go fun a J=>?_
  generalize i3:(!((zQ c b1 vars).2))=y1 at J
  cases y1
  refine yK fun K5 w N a J=>?_
  refine yU 1 vA (fun v232 w N a J=>?_) (hb:=by rw [zZ,D2];have h_:=(qZ O).1;simp only [lcQ,lnQ];omega)
  first | rw [qM] at N | rw [<- yE] at N
  refine go fun a J=>?_
  replace N:=N.dl [0]
  refine I1 _ _ _ (by subst i0;omega) ⟨(i+1),(v232),(ts++[(zQ c b1 vars).1]),rfl,⟨J.pk,N⟩,?_⟩
  exact ⟨by simp [D2],by rw [W1,zA c0,y0v,if_neg (by rw [show (zQ c b1 vars).2=true from (by first | assumption | exact wT (by assumption) | exact wS (by assumption))];decide)];simp⟩
  refine jO ?_
  replace N:=N.dl [2,1,0]
  have hr_:zQ c e vars=((⟨#[]⟩:Bs),false):=by exact x1v y l0 m0 n0 Z T (by rw [W1,zA c0,y0v,if_pos (by first | assumption | exact wT (by assumption) | exact wS (by assumption))])
  show _/\_;rw [hr_];exact ⟨rfl,N⟩
  refine goR 37 fun a J=>?_
  have V0:typesR c e.args vars=(ts,true):=by rw [W1,zE j1];simp [typesR]
  have f:=N
  clear N
  obtain ⟨j0,t,N,R0⟩:=f.freezeRow (i:=0) rfl
  clear f
  replace H:=H.up t
  replace m:=m.up t
  replace z:=z.up t
  replace N:=N.nf
  have Y:SliceOf RStr j0 1 _ (ts):=SliceOf.strs.2 R0
  obtain ⟨K2,m2,D,H3,Q1⟩:=Y.form (by decide)
  have g:=N
  clear N
  subst D
  have N:=g
  clear g
  refine goJ 63 fun a J=>?_
  refine sq fun l2 J1=>?_
  have b0:∀a w,(∃(f0:Fz) (v:Value) (wl:List Bs) (o:Bs),EnvR 268 [(12,.slice K2 (ts).length m2),(16,v),(17,.string o)] [] a/\Mem f0 (.blk f1 (ob [.int .i64 (e.kind),.int .i64 (e.num),.string e.name,.slice Z1 e.args.length C1,.slice a2 e.arms.length D1] 66)::.blk e1 (ob [.slice p3 c.datas.length c4,.slice p9 c.inputs.length A1,.slice J2 c.funs.length B1,.slice Y1 c.outputs.length c22] 27)::K) w/\(j0.Le f0/\(SliceOf RStr f0 1 v wl/\wP c e.kind e.name=some (wl,o))))->l2 a w:=by
   clear N J
   rintro a w ⟨f0,v,wl,o,J,N,t0⟩
   obtain ⟨F,t0⟩:=t0
   replace H:=H.up F
   replace m:=m.up F
   replace z:=z.up F
   replace Y:=Y.up F
   apply J1
   obtain ⟨q1,W0⟩:=t0
   refine go fun a J=>?_
   obtain ⟨p5,w4,D,I3,R1⟩:=q1.form (by decide)
   subst D
   by_cases k1:wl.length=(ts).length
   refine go fun a J=>?_
   refine zR (J.ks [12,16,17]) N (fun R mm a w=>∃(i:Nat),mm=wl.length - i/\R f0 [(23,.int .i64 i)] [] a w/\(wl.take i=ts.take i)) (wl.length - 0) ⟨0,rfl,⟨J.pk,N⟩,rfl⟩ ?_
   clear N J
   rintro mm a w ⟨i,i0,⟨J,N⟩,G0⟩ l4 K1
   by_cases p2:i < wl.length
   refine Reg [1,1,1,2,1,1,1,2,1] [0,1] fun w N a J=>?_
   refine go fun a J=>?_
   obtain ⟨w5,rfl,u1,X0,E1,u3,e3,T1⟩:=q1.el R1 p2
   obtain rfl:E1=[.string u1]:=T1
   refine go fun a J=>?_
   have N1:i < (ts).length:=by omega
   obtain ⟨x5,rfl,w1,Y0,F1,v3,f3,U1⟩:=Y.el Q1 N1
   obtain rfl:F1=[.string w1]:=U1
   by_cases l1:u1=w1
   refine go fun a J=>?_
   refine K1 _ _ _ (by subst i0;omega) ⟨(i+1),rfl,⟨J.pk,N⟩,?_⟩
   rw [xK X0,xK Y0,G0,l1]
   refine jO ?_
   replace N:=N.le ((t).trans F)
   replace N:=N.dl [1,0]
   have hr_:zQ c e vars=((⟨#[]⟩:Bs),false):=by rw [z4z y l0 m0 n0 Z T W0 V0,if_neg (fun e=>l1 (Option.some.inj (by rw [<- X0,e];exact Y0)))];rfl
   show _/\_;rw [hr_];exact ⟨rfl,N⟩
   refine jO ?_
   replace N:=N.le ((t).trans F)
   replace N:=N.dl [1,0]
   have hr_:zQ c e vars=(o,true):=by rw [z4z y l0 m0 n0 Z T W0 V0,if_pos (by have h_:=G0;rw [List.take_of_length_le (by omega),List.take_of_length_le (by omega)] at h_;exact h_)]
   show _/\_;rw [hr_];exact ⟨rfl,N⟩
   refine jO ?_
   replace N:=N.le ((t).trans F)
   replace N:=N.dl [1,0]
   have hr_:zQ c e vars=((⟨#[]⟩:Bs),false):=by rw [z4z y l0 m0 n0 Z T W0 V0,if_neg (fun e=>by rw [e] at k1;exact k1 rfl)];rfl
   show _/\_;rw [hr_];exact ⟨rfl,N⟩
  by_cases q2:e.kind=4
  refine zV call163 (fun T2 w G1 N a J=>?_) (c:=j8l m hL.1 N)
  obtain ⟨g2,D4⟩:=T2
  obtain ⟨M,J0⟩:=G1
  simp only at M J0 N J
  replace H:=H.up M
  replace m:=m.up M
  replace z:=z.up M
  replace N:=N.nf
  obtain ⟨z5,rfl,m1⟩:=id J0
  obtain ⟨L2,n2,rfl,J3,b4⟩:=m1.fm
  refine Alc fun n4 w N a J=>?_
  refine Sto 0 fun w N a J=>?_
  refine go fun a J=>?_
  generalize j3:(!(nC c.datas e.name).isSome)=z1 at J
  cases z1
  refine go fun a J=>?_
  replace N:=N.dl [0]
  exact b0 _ _ ⟨g2,.slice L2 (((nC c.datas e.name).map Maker.con).getD y0h).fields.length n2,(((nC c.datas e.name).map Maker.con).getD y0h).fields,(((nC c.datas e.name).map Maker.data).getD sNo),J.pk,N,⟨M,⟨m1,by rw [want_4 q2];obtain ⟨m_,Q3⟩:=Option.isSome_iff_exists.1 (show (nC c.datas e.name).isSome=true from (by first | assumption | exact wT (by assumption) | exact wS (by assumption)));rw [Q3];rfl⟩⟩⟩
  refine jO ?_
  replace N:=N.le ((t).trans M)
  replace N:=N.dl [2,1,0]
  have hr_:zQ c e vars=((⟨#[]⟩:Bs),false):=by exact z0c y l0 m0 n0 Z T (by rw [want_4 (by assumption),x6d (o:=nC c.datas e.name) (by first | assumption | exact wT (by assumption) | exact wS (by assumption))];rfl)
  show _/\_;rw [hr_];exact ⟨rfl,N⟩
  by_cases r2:e.kind=5
  refine zO call55 (fun w N a J=>?_) (c:=q0y m N)
  by_cases w0:aE c.funs e.name < 0
  refine jO ?_
  replace N:=N.le (t)
  replace N:=N.dl [1,0]
  have hr_:zQ c e vars=((⟨#[]⟩:Bs),false):=by exact z0c y l0 m0 n0 Z T (by rw [want_5 (by assumption)];unfold aE at w0;cases k3:gK c.funs e.name with | none=>rfl | some j=>rw [k3] at w0;simp only at w0;omega)
  show _/\_;rw [hr_];exact ⟨rfl,N⟩
  refine go fun a J=>?_
  obtain ⟨j,hj⟩:=z9w w0
  have W5:=q7m hj
  rw [show aE c.funs e.name=((j:Nat):Int) by rw [aE,hj]] at J
  have O1:j < c.funs.length:=by omega
  obtain ⟨N2,rfl,C,Z0,Y2,w3,I0,u0⟩:=H.el F2 O1
  obtain ⟨A5,o4,rfl,n1,E0⟩:=id u0
  obtain ⟨q5,x4,rfl,K3,S1⟩:=n1.fm
  obtain ⟨r5,y4,s5,z4,rfl,o3,K4,L4,L3,d4,M3,e4⟩:=REx.fm E0
  refine go fun a J=>?_
  replace N:=N.nilRow 9 1
  replace N:=N.nf
  refine zR (J.ks [3,12,21]) N (fun R mm a w=>∃(k:Nat) (u:Value),mm=C.params.length - k/\R j0 [(16,u),(22,.int .i64 k)] [(0,.gs (u) 9 1 (strs ((C.params.take k).map Param.type)))] a w/\(True)) (C.params.length - 0) ⟨0,.slice none 0 0,rfl,⟨J.pk,N⟩,trivial⟩ ?_
  clear N J
  rintro mm a w ⟨k,u,i0,⟨J,N⟩,a3⟩ m4 L1
  replace N:=N.nf
  by_cases s2:k < C.params.length
  refine go fun a J=>?_
  obtain ⟨y5,rfl,Q2,X1,Z2,x3,g3,V1⟩:=n1.el S1 s2
  obtain rfl:=id V1
  refine yK fun P2 w N a J=>?_
  refine yU 1 vA (fun t1 w N a J=>?_) (hb:=by rw [zZ,List.length_map,List.length_take];have h_:=hL.2 _ (mgQ Z0);simp only [lcQ,lnQ];omega)
  replace N:Mem j0 (.gs (P2) 9 1 [.string Q2.type]::.gs (t1) 9 1 (strs ((C.params.take (k+1)).map Param.type))::.blk f1 (ob [.int .i64 (e.kind),.int .i64 (e.num),.string e.name,.slice Z1 e.args.length C1,.slice a2 e.arms.length D1] 66)::.blk e1 (ob [.slice p3 c.datas.length c4,.slice p9 c.inputs.length A1,.slice (some N2) c.funs.length B1,.slice Y1 c.outputs.length c22] 27)::K) w:=by rw [xK X1,List.map_append,yE];exact N
  refine go fun a J=>?_
  replace N:=N.dl [0]
  refine L1 _ _ _ (by subst i0;omega) ⟨(k+1),(t1),rfl,⟨J.pk,N⟩,?_⟩
  trivial
  refine go fun a J=>?_
  rw [List.take_of_length_le (l:=C.params) (by omega)] at N
  have f:=N
  clear N
  obtain ⟨d1,P,N,S0⟩:=f.freezeRow (i:=0) rfl
  clear f
  replace m:=m.up P
  replace z:=z.up P
  replace I0:=I0.mono P
  replace u0:=u0.up P
  replace E0:=E0.up P
  replace N:=N.nf
  have B0:SliceOf RStr d1 1 _ ((C.params.map Param.type)):=SliceOf.strs.2 S0
  obtain ⟨M2,o2,D,N3,f4⟩:=B0.form (by decide)
  have g:=N
  clear N
  subst D
  have N:=g
  clear g
  refine go fun a J=>?_
  exact b0 _ _ ⟨d1,.slice M2 ((C.params.map Param.type)).length o2,(C.params.map Param.type),C.result,J.pk,N,⟨P,⟨B0,by rw [want_5 r2,hj];simp only;rw [Z0];rfl⟩⟩⟩
  by_cases F0:e.kind=8
  refine yK fun L5 w N a J=>?_
  refine go fun a J=>?_
  have f:=N
  clear N
  obtain ⟨i2,S,N,T0⟩:=f.freezeRow (i:=0) rfl
  clear f
  replace m:=m.up S
  replace z:=z.up S
  replace N:=N.nf
  have B:SliceOf RStr i2 1 _ ([yL,yL]):=SliceOf.strs.2 T0
  obtain ⟨a1,D0,D,O3,g4⟩:=B.form (by decide)
  have g:=N
  clear N
  subst D
  have N:=g
  clear g
  refine yK fun M5 w N a J=>?_
  refine go fun a J=>?_
  have f:=N
  clear N
  obtain ⟨k0,G,N,U0⟩:=f.freezeRow (i:=0) rfl
  clear f
  replace m:=m.up G
  replace z:=z.up G
  replace B:=B.up G
  replace N:=N.nf
  have C0:SliceOf RStr k0 1 _ ([⟨#[43]⟩,⟨#[45]⟩,⟨#[42]⟩,⟨#[47]⟩,⟨#[37]⟩]):=SliceOf.strs.2 U0
  obtain ⟨t5,A4,D,P3,h4⟩:=C0.form (by decide)
  have g:=N
  clear N
  subst D
  have N:=g
  clear g
  refine zX call87 (fun a0 w N a J=>?_) (fun a0 w N a J=>?_) (c:=y1m C0 N)
  refine go fun a J=>?_
  exact b0 _ _ ⟨k0,.slice a1 ([yL,yL]).length D0,[yL,yL],(⟨#[73,110,116]⟩:Bs),J.pk,N,⟨(S).trans G,⟨B,by rw [q5l F0,opR,if_pos a0];rfl⟩⟩⟩
  by_cases M4:e.name=(⟨#[60]⟩:Bs)
  rotate_left
  by_cases N4:e.name=(⟨#[61]⟩:Bs)
  rotate_left
  refine jO ?_
  replace N:=N.le (((t).trans S).trans G)
  replace N:=N.dl [1,0]
  have hr_:zQ c e vars=((⟨#[]⟩:Bs),false):=by exact z0c y l0 m0 n0 Z T (by rw [q5l (by assumption),opR,if_neg (by rw [a0];decide),if_neg (by rintro (h_ | h_) <;> contradiction)];rfl)
  show _/\_;rw [hr_];exact ⟨rfl,N⟩
  refine jO ?_
  replace N:=N.le (t)
  replace N:=N.dl [1,0]
  have hr_:zQ c e vars=((⟨#[]⟩:Bs),false):=by exact z0c y l0 m0 n0 Z T (want_no (by assumption) (by assumption) (by assumption))
  show _/\_;rw [hr_];exact ⟨rfl,N⟩
  all_goals (refine go fun a J=>?_;exact b0 _ _ ⟨k0,.slice a1 ([yL,yL]).length D0,[yL,yL],(⟨#[66,111,111,108]⟩:Bs),J.pk,N,⟨(S).trans G,⟨B,by rw [q5l F0,opR,if_neg (by rw [a0];decide),if_pos (by first | exact .inl (by assumption) | exact .inr (by assumption))];rfl⟩⟩⟩)
 by_cases O4:e.kind=7
 by_cases P4:e.kind=1
 rotate_left
 by_cases Q4:e.num=0
 rotate_left
 refine jO ?_
 replace N:=N.dl [1,0]
 have hr_:zQ c e vars=((⟨#[]⟩:Bs),false):=by exact y7o (by unfold aZ;omega)
 show _/\_;rw [hr_];exact ⟨rfl,N⟩
 by_cases R4:0 < e.arms.length
 refine jO ?_
 replace N:=N.dl [1,0]
 have hr_:zQ c e vars=((⟨#[]⟩:Bs),false):=by exact y7o (by unfold aZ;omega)
 show _/\_;rw [hr_];exact ⟨rfl,N⟩
 by_cases S4:e.kind=1
 rotate_left
 refine go fun a J=>?_
 by_cases T4:e.num=0
 rotate_left
 refine jO ?_
 replace N:=N.dl [1,0]
 have hr_:zQ c e vars=((⟨#[]⟩:Bs),false):=by exact y7o (by unfold aZ;omega)
 show _/\_;rw [hr_];exact ⟨rfl,N⟩
 all_goals (refine go fun a J=>?_;exact x0 _ _ ⟨J.pk,N,by unfold aZ;omega⟩)
section
variable {V:Fz} {K:List Res} {w:World}
theorem x1u {d0:List Value} {c:Core} {b:Value} {vars:List Param} {d2:List Value} {e:Ex} (d:RCore V d0 c) (a:SliceOf RParam V 2 b vars) (f:REx V d2 e) (i:Lim c) (O:pT e) (hb:vars.length+(yH e).length<=1000000) (N:Mem V K w) :
  Calls prog 111 #[.agg d0.toArray,b,.agg d2.toArray] w (fun ee w'=>ee=.returned (.tuple #[.string (zQ c e vars).1,.bool (zQ c e vars).2])/\Mem V K w'):=by
 suffices H:∀n (e:Ex),e.sz < n->∀{V:Fz} {K:List Res} {w:World} {d0:List Value} {b:Value} {vars:List Param} {d2:List Value},RCore V d0 c->SliceOf RParam V 2 b vars->REx V d2 e->pT e->vars.length+(yH e).length<=1000000->Mem V K w->Calls prog 111 #[.agg d0.toArray,b,.agg d2.toArray] w (fun ee w'=>ee=.returned (.tuple #[.string (zQ c e vars).1,.bool (zQ c e vars).2])/\Mem V K w') from H _ e (Nat.lt_succ_self _) d a f O hb N
 intro n
 induction n with
 | zero=>intro e h;omega
 | succ n j=>intro e h V K w d0 b vars d2 g g1 r O hb m;exact j4s g g1 r i O hb (fun x o _ _ _ _ _ _ _ k l r O hb m=>j x (by omega) k l r O hb m) m
theorem q4d {v:Value} {l:List Bs} {s:Bs} (N:Mem V (.gs v 9 1 (strs l)::K) w) :
  Calls prog 87 #[v,.string s] w (fun ee w'=>ee=.returned (.bool (gS l s))/\Mem V (.gs v 9 1 (strs l)::K) w'):=by
 obtain ⟨Ψ,_,h2,a,b⟩:=N.freezeRowT (i:=0) rfl
 exact (y1m (SliceOf.strs.2 a) h2).mono fun ee w' h=>⟨h.1,b _ _ h.2⟩
theorem q3f {d0:List Value} {c:Core} (f0:RCore V d0 c) (y0:c.datas.length<=60) (P:∀d∈c.datas,d.cons.length<=16) (N:Mem V K w) :
  Calls prog 108 #[.agg d0.toArray] w (fun ee w'=>ee=.returned (.bool (z2j c.datas))/\Mem V K w'):=by
 obtain ⟨p3,c4,p9,N0,X0,O0,Y0,c22,rfl,h2,h8,R0,S0,W0,m0,z0,E0,A0,F0,B0,G0⟩:=RCore.fm f0
 refine zI func108 ntmps108 fun Q hQ a J=>?_
 refine Bx fun L0 w N a J=>?_
 refine yK fun n0 w N a J=>?_
 refine yK fun o0 w N a J=>?_
 refine go fun a J=>?_
 replace N:=N.nf
 refine zR (J.ks [1]) N (fun R mm a w=>∃(i:Nat) (u:Value) (nl:List Bs) (u2:Value) (cl:List Bs),mm=c.datas.length - i/\R V [(3,u),(4,u2),(5,.int .i64 i)] [(0,.gs (u2) 9 1 (strs cl)),(1,.gs (u) 9 1 (strs nl))] a w/\(i<=c.datas.length/\nl.length=2+i/\cl.length<=2+16 * i/\z2j c.datas=cH c.datas (c.datas.drop i) nl cl)) (c.datas.length - 0) ⟨0,n0,[yL,wG],o0,[z8w,q2f],rfl,⟨J.pk,N⟩,⟨Nat.zero_le _,rfl,by decide,rfl⟩⟩ ?_
 clear N J
 rintro mm a w ⟨i,u,nl,u2,cl,p,⟨J,N⟩,G⟩ I0 I
 replace N:=N.nf
 obtain ⟨U0,k0,V0,g⟩:=G
 by_cases v:i < c.datas.length
 refine go fun a J=>?_
 obtain ⟨b1,rfl,e,b,r0,w0,t0,b0⟩:=h2.el m0 v
 obtain ⟨d1,rfl,y⟩:=id b0
 obtain ⟨Z0,P0,rfl,C0,X⟩:=y.fm
 refine Alc fun M0 w N a J=>?_
 refine Sto 0 fun w N a J=>?_
 refine zX call134 (fun C w N a J=>?_) (fun C w N a J=>?_) (c:=hY N)
 replace N:=N.pl 2
 refine zX call87 (fun D w N a J=>?_) (fun D w N a J=>?_) (c:=q4d (l:=nl) N)
 refine zF ?_
 replace N:=N.dl [3,2,1,0]
 rotate_left
 by_cases T0:e.cons.length=0
 refine zF ?_
 replace N:=N.dl [3,2,1,0]
 rotate_left
 have T:nV e.name=true:=by assumption
 have U:(!gS nl e.name)=true:=by simp [*]
 have W:decide (e.cons.length≠0)=true:=by simp only [decide_eq_true_eq];omega
 refine yK fun f1 w N a J=>?_
 refine yU 1 vA (fun p0 w N a J=>?_) (hb:=by rw [zZ];simp only [lcQ,lnQ];omega)
 first | rw [qM] at N | rw [<- yE] at N
 refine go fun a J=>?_
 refine zR (J.ks [1,3,5,6]) N (fun R mm a w=>∃(k:Nat) (u3:Value) (cm:List Bs),mm=e.cons.length - k/\R V [(4,u3),(7,.int .i64 k)] [(3,.gs (u3) 9 1 (strs cm))] a w/\(cl++(e.cons.take k).map Con.name=cm/\z0l c.datas e.cons cl=z0l c.datas (e.cons.drop k) cm)) (e.cons.length - 0) ⟨0,u2,cl,rfl,⟨J.pk,N⟩,⟨by simp,rfl⟩⟩ ?_
 clear N J
 rintro mm a w ⟨k,u3,cm,p,⟨J,N⟩,H⟩ J0 L
 replace N:=N.nf
 obtain ⟨s,o⟩:=H
 by_cases z:k < e.cons.length
 refine go fun a J=>?_
 obtain ⟨c1,rfl,f,h,s0,x0,u0,c0⟩:=y.el X z
 obtain ⟨e1,rfl,A⟩:=id c0
 obtain ⟨a1,Q0,rfl,D0,Y⟩:=A.fm
 refine zX call134 (fun E w N a J=>?_) (fun E w N a J=>?_) (c:=hY N)
 replace N:=N.pl 3
 refine zX call87 (fun F w N a J=>?_) (fun F w N a J=>?_) (c:=q4d (l:=cm) N)
 refine zF ?_
 replace N:=N.dl [4,3,2,1,0]
 exact zJ N (by rw [g,zA b,cH,o,zA h,z0l];simp [*])
 have Z:nV f.name=true:=by assumption
 have a0:(!gS cm f.name)=true:=by simp [*]
 refine yK fun g1 w N a J=>?_
 refine yU 1 vA (fun q0 w N a J=>?_) (hb:=by have h_:=P _ (mgQ b);rw [zZ,<- s,laQ,List.length_map,List.length_take];simp only [lcQ,lnQ];omega)
 first | rw [qM] at N | rw [<- yE] at N
 refine go fun a J=>?_
 refine zR (J.ks [1,3,4,5,6,7]) N (fun R mm a w=>∃(j:Nat),mm=f.fields.length - j/\R V [(8,.int .i64 j)] [] a w/\(f.fields.all (jP c.datas)=(f.fields.drop j).all (jP c.datas))) (f.fields.length - 0) ⟨0,rfl,⟨J.pk,N⟩,rfl⟩ ?_
 clear N J
 rintro mm a w ⟨j,p,⟨J,N⟩,n⟩ K0 M
 by_cases B:j < f.fields.length
 refine Reg [2,1,2,1,1,1,2,1,1,2,0,1] [0,1,2,3,4,5] fun w N a J=>?_
 refine go fun a J=>?_
 obtain ⟨H0,rfl,g0,q,r,l0,j0,t⟩:=A.el Y B
 obtain rfl:r=[.string g0]:=t
 refine zX call81 (fun m w N a J=>?_) (fun m w N a J=>?_) (c:=z4i f0 N)
 refine go fun a J=>?_
 refine M _ _ _ (by subst p;omega) ⟨(j+1),rfl,⟨J.pk,N⟩,?_⟩
 rw [n,zA q,List.all_cons,m,Bool.true_and]
 refine zF ?_
 replace N:=N.dl [5,4,3,2,1,0]
 exact zJ N (by rw [g,zA b,cH,o,zA h,z0l,show f.fields.all (jP c.datas)=false by rw [n,zA q,List.all_cons,m];rfl];simp)
 refine go fun a J=>?_
 replace N:=N.ar [0] [4,1,4,4,4]
 refine L _ _ _ (by subst p;omega) ⟨(k+1),(q0),(cm++[f.name]),rfl,⟨J.pk,N⟩,?_⟩
 exact ⟨by rw [xK h,<- s];simp,by rw [o,zA h,z0l,Z,a0,show f.fields.all (jP c.datas)=true by rw [n,zE B];rfl];rfl⟩
 refine zF ?_
 replace N:=N.dl [4,3,2,1,0]
 exact zJ N (by rw [g,zA b,cH,o,zA h,z0l];simp [*])
 refine go fun a J=>?_
 have S:cm=cl++e.cons.map Con.name:=by rw [<- s,List.take_of_length_le (by omega)]
 rw [S] at N
 refine go fun a J=>?_
 replace N:=N.ar [2,0] [2,1,2]
 refine I _ _ _ (by subst p;omega) ⟨(i+1),(p0),(nl++[e.name]),(u3),(cl++e.cons.map Con.name),rfl,⟨J.pk,N⟩,?_⟩
 exact ⟨by omega,by simp [k0];omega,by have h_:=P _ (mgQ b);rw [laQ,List.length_map];omega,by rw [g,zA b,cH,T,U,W,show z0l c.datas e.cons cl=true by rw [o,zE z];rfl];rfl⟩
 refine zF ?_
 replace N:=N.dl [3,2,1,0]
 rotate_left
 refine zF ?_
 replace N:=N.dl [2,1,0]
 exact zJ N (by rw [g,zE v];rfl)
 all_goals (exact zJ N (by rw [g,zA b,cH];simp [*]))
end
theorem x2o {V:Fz} {K:List Res} {w:World} {d0:List Value} {f:Fun} (n:RFun V d0 f) (hb:f.params.length+(yH f.body).length<=8796093000000) (N:Mem V K w) :
  Calls Tryz.prog 88 #[.agg d0.toArray] w (fun ee w'=>∃v,ee=.returned v/\Mem V (.gs v 9 1 (strs (f.params.map Param.name++yH f.body))::K) w'):=by
 obtain ⟨s1,W,rfl,h2,r⟩:=id n
 obtain ⟨X,c4,rfl,L,k⟩:=h2.fm
 obtain ⟨M,F,P,G,rfl,t,H,I,z,B,A,C⟩:=REx.fm r
 refine zI Tryz.func88 Tryz.ntmps88 fun Q hQ a J=>?_
 refine Bx fun E w N a J=>?_
 refine go fun a J=>?_
 replace N:=N.nilRow 9 1
 replace N:=N.nf
 refine go fun a J=>?_
 refine zR (J.ks [1]) N (fun R mm a w=>∃(i:Nat) (u:Value) (nl:List Bs),mm=f.params.length - i/\R V [(3,u),(4,.int .i64 i)] [(0,.gs (u) 9 1 (strs nl))] a w/\(f.params.map Param.name=nl++(f.params.drop i).map Param.name)) (f.params.length - 0) ⟨0,.slice none 0 0,[],rfl,⟨J.pk,N⟩,rfl⟩ ?_
 clear N J
 rintro mm a w ⟨i,u,nl,j,⟨J,N⟩,b⟩ D e
 replace N:=N.nf
 by_cases d:i < f.params.length
 refine go fun a J=>?_
 obtain ⟨S,rfl,p,h,q,y,s,g⟩:=h2.el k d
 obtain rfl:=id g
 refine yK fun T w N a J=>?_
 refine yU 1 vA (fun o w N a J=>?_) (hb:=by have m:=congrArg List.length (b);simp only [List.length_map,laQ,zZ,lcQ,lnQ] at m ⊢;omega)
 first | rw [qM] at N | rw [<- yE] at N
 refine go fun a J=>?_
 replace N:=N.dl [0]
 refine e _ _ _ (by subst j;omega) ⟨(i+1),(o),(nl++[p.name]),rfl,⟨J.pk,N⟩,?_⟩
 rw [b,zA h];simp
 refine go fun a J=>?_
 have c:=b
 rw [zE d] at c
 simp only [List.map_nil,List.append_nil] at c
 rw [<- c] at N
 refine go fun a J=>?_
 refine st J rfl rfl rfl (kG J rfl Tryz.call147 (q9d (l:=(f.params.map Param.name)) (by simp only [List.length_map];omega) r N) fun U w N a J=>?_)
 replace N:=N.nf
 refine zF ?_
 replace N:=N.dl [1]
 refine ⟨_,rfl,?_⟩
 rw [show (strs (f.params.map Param.name++yH f.body))=(strs ((f.params.map Param.name)++yH f.body)) by rfl];exact N
theorem y0a (f:Fun) (fs:List Fun) (n:Nat):gB (f::fs) n=if 16 < f.params.length then true else gB fs (if n<=6000 then n+jZ f.body (6000 - n) else n):=rfl
theorem z6g:∀{fs:List Fun} {l:Int},gL fs l=false->∀f∈fs,f.params.length<=16
 | f::fs,l,h,g,a=>by
  simp only [gL,Bool.or_eq_false_iff,decide_eq_false_iff_not] at h
  rcases List.mem_cons.1 a with rfl | a
  omega
  exact z6g h.2 g a
theorem j4l {e:Ex} (h:pT e):(yH e).length<=102000:=by
 obtain ⟨l,h1,h2⟩:=h
 have a:=z2v e l h2
 have:=(aI e l h2).1
 omega
theorem x0h {c:Core} (h:sI c=false):c.datas.length<=60/\c.inputs.length<=6/\c.funs.length<=300/\c.outputs.length<=6/\(∀d∈c.datas,d.cons.length<=16)/\(∀f∈c.funs,f.params.length<=16/\pT f.body/\(yH f.body).length<=102000)/\Lim c:=by
 rw [q8d] at h
 have e:=fun f a=>oP h (f:=f) a
 simp only [kO,Bool.or_eq_false_iff,decide_eq_false_iff_not,List.any_eq_false] at h
 obtain ⟨⟨⟨⟨⟨h1,h2⟩,k⟩,l⟩,g⟩,i⟩:=h
 have b:∀f∈c.funs,f.params.length<=16/\pT f.body/\(yH f.body).length<=102000:=fun f a=>⟨z6g i f a,e f a,j4l (e f a)⟩
 refine ⟨by omega,by omega,by omega,by omega,fun d j=>?_,b,by omega,fun f a=>by have:=(b f a).1;omega⟩
 have:=g d j
 simp only [sH,Bool.or_eq_true,decide_eq_true_eq,not_or] at this
 omega
theorem vJ {c:Core} (h1:c.funs.any (fun f=>xN 250 f.body)=false) (h2:sI c=false) (a:vT c=false):mO c=80:=by rw [mO,h1,h2,a];rfl
theorem x2u {c:Core} (h1:c.funs.any (fun f=>xN 250 f.body)=false) (h2:sI c=false) (a:vT c=true):mO c=0:=by rw [mO,h1,h2,a];rfl
theorem outR_no {fs:List Fun} {o:Bs} (h:aE fs o < 0):y1e fs o=false:=by
 unfold aE at h;unfold y1e
 cases a:gK fs o with
 | none=>rfl
 | some j=>rw [a] at h;simp only at h;omega
theorem j7b {fs:List Fun} {o:Bs} {j:Nat} {f:Fun} (h:gK fs o=some j) (a:fs[j]? = some f):y1e fs o=decide (f.params.length=0):=by unfold y1e;rw [h];simp only;rw [a]
theorem j2e {V:Fz} {K:List Res} {w:World} {d0:List Value} {c:Core} (x0:RCore V d0 c) (N:Mem V K w) :
  Calls prog 107 #[.agg d0.toArray] w (fun ee w'=>ee=.returned (.bool (sI c))/\Mem V K w'):=by
 obtain ⟨p3,c4,p9,h0,g1,i0,u0,c22,rfl,h2,h8,j0,Z0,e1,t0,L0,Q0,M0,Y,N0,R0⟩:=RCore.fm x0
 refine zI func107 ntmps107 fun Q hQ a J=>?_
 refine Bx fun A w N a J=>?_
 by_cases a1:60 < c.datas.length
 refine zF ?_
 replace N:=N.dl [0]
 exact zJ N (by simp [sI, *])
 by_cases b1:6 < c.inputs.length
 refine zF ?_
 replace N:=N.dl [0]
 exact zJ N (by simp [sI, *])
 by_cases c1:300 < c.funs.length
 refine zF ?_
 replace N:=N.dl [0]
 exact zJ N (by simp [sI, *])
 refine go fun a J=>?_
 by_cases d1:6 < c.outputs.length
 refine zF ?_
 replace N:=N.dl [0]
 exact zJ N (by simp [sI, *])
 refine go fun a J=>?_
 refine zR (J.ks [1]) N (fun R mm a w=>∃(i:Nat),mm=c.datas.length - i/\R V [(3,.int .i64 i)] [] a w/\(sI c=((c.datas.drop i).any sH || gB c.funs 0))) (c.datas.length - 0) ⟨0,rfl,⟨J.pk,N⟩,by simp [sI, *]⟩ ?_
 clear N J
 rintro mm a w ⟨i,h,⟨J,N⟩,e⟩ V0 P
 by_cases E:i < c.datas.length
 refine go fun a J=>?_
 obtain ⟨l1,rfl,d,l,B0,I0,G0,a0⟩:=h2.el t0 E
 obtain ⟨n1,rfl,F⟩:=id a0
 obtain ⟨i1,Y0,rfl,O0,Z⟩:=F.fm
 by_cases G:16 < d.cons.length
 refine zF ?_
 replace N:=N.dl [0]
 exact zJ N (by rw [e,zA l,List.any_cons,show sH d=true by unfold sH;rw [decide_eq_true G];rfl];rfl)
 have m0:=G
 refine go fun a J=>?_
 refine zR (J.ks [1,3]) N (fun R mm a w=>∃(k:Nat),mm=d.cons.length - k/\R V [(4,.int .i64 k)] [] a w/\(d.cons.any (fun x=>decide (16 < x.fields.length))=(d.cons.drop k).any (fun x=>decide (16 < x.fields.length)))) (d.cons.length - 0) ⟨0,rfl,⟨J.pk,N⟩,rfl⟩ ?_
 clear N J
 rintro mm a w ⟨k,h,⟨J,N⟩,f⟩ W0 S
 by_cases H:k < d.cons.length
 refine go fun a J=>?_
 obtain ⟨m1,rfl,y0,s,C0,J0,H0,b0⟩:=F.el Z H
 obtain ⟨o1,rfl,k0⟩:=id b0
 obtain ⟨j1,c80,rfl,P0,S0⟩:=k0.fm
 by_cases I:16 < y0.fields.length
 refine zF ?_
 replace N:=N.dl [0]
 exact zJ N (by rw [e,zA l,List.any_cons,show sH d=true by unfold sH;rw [f,zA s,List.any_cons,decide_eq_true I,Bool.true_or,Bool.or_true]];rfl)
 refine go fun a J=>?_
 refine S _ _ _ (by subst h;omega) ⟨(k+1),rfl,⟨J.pk,N⟩,?_⟩
 rw [f,zA s,List.any_cons,decide_eq_false I];rfl
 refine go fun a J=>?_
 refine P _ _ _ (by subst h;omega) ⟨(i+1),rfl,⟨J.pk,N⟩,?_⟩
 rw [e,zA l,List.any_cons,show sH d=false by unfold sH;rw [f,zE H,decide_eq_false m0];rfl];rfl
 refine go fun a J=>?_
 refine zR (J.ks [1]) N (fun R mm a w=>∃(i:Nat) (n:Nat),mm=c.funs.length - i/\R V [(5,.int .i64 n),(6,.int .i64 i)] [] a w/\(n<=6001/\sI c=gB (c.funs.drop i) n)) (c.funs.length - 0) ⟨0,0,rfl,⟨J.pk,N⟩,⟨by omega,by rw [e,zE E];rfl⟩⟩ ?_
 clear N J
 rintro mm a w ⟨i,n,h,⟨J,N⟩,M⟩ X0 T
 obtain ⟨f1,y⟩:=M
 refine go fun a J=>?_
 by_cases L:i < c.funs.length
 refine goJ 19 fun a J=>?_
 refine sq fun g0 U=>?_
 obtain ⟨w0,rfl,b,t,D0,K0,v,z⟩:=j0.el Y L
 obtain ⟨U0,z0,rfl,D,p⟩:=id z
 obtain ⟨T0,A0,rfl,n0,q0⟩:=D.fm
 obtain ⟨c0,B,f0,C,rfl,l0,E0,F0,o0,r0,p0,s0⟩:=REx.fm p
 have g:∀a w,(∃(m:Nat),EnvR 97 [(1,.pointer (some ⟨A,0,none⟩)),(5,.int .i64 m),(6,.int .i64 i)] [] a/\Mem V (.blk A (ob [.slice p3 c.datas.length c4,.slice p9 c.inputs.length h0,.slice (some w0) c.funs.length i0,.slice u0 c.outputs.length c22] 27)::K) w/\(m=(if n<=6000 then n+jZ b.body (6000 - n) else n)/\m<=6001))->g0 a w:=by
  clear N J
  rintro a w ⟨m,J,N,u⟩
  apply U
  obtain ⟨W,X⟩:=u
  by_cases q:16 < b.params.length
  refine zF ?_
  replace N:=N.dl [0]
  exact zJ N (by rw [y,zA t,y0a];exact (if_pos q).symm)
  refine go fun a J=>?_
  refine T _ _ _ (by subst h;omega) ⟨(i+1),(m),rfl,⟨J.pk,N⟩,?_⟩
  exact ⟨X,by rw [y,zA t,y0a,if_neg q,<- W]⟩
 by_cases r:n<=6000
 refine Qq (fun a J=>?_) (o:=by exact fun J O=>vY 3 (vs:=[.int .i64 (b.body.kind),.int .i64 (b.body.num),.string b.body.name,.slice c0 b.body.args.length B,.slice f0 b.body.arms.length C]) J O rfl v isAgg66 sizeOf66 rfl rfl)
 refine Qq (fun a J=>?_) (o:=by exact fun J O=>jT ((6000 - n:Nat):Int) J rfl rfl (by rw [yB (by omega)];omega))
 refine zO call160 (fun w N a J=>?_) (c:=x6q (by omega) p N)
 refine Qq (fun a J=>?_) (o:=by exact fun J O=>z0p ((n+(jZ b.body (6000 - n)):Nat):Int) J rfl rfl (by have h_:=mG b.body (6000 - n);rw [yB (by omega)];omega))
 refine go fun a J=>?_
 exact g _ _ ⟨n+(jZ b.body (6000 - n)),J.pk,N,⟨(if_pos r).symm,by have h_:=mG b.body (6000 - n);omega⟩⟩
 refine go fun a J=>?_
 exact g _ _ ⟨n,J.pk,N,⟨(if_neg r).symm,by omega⟩⟩
 refine Qq (fun a J=>?_) (o:=by exact fun J O=>j5c (i:=n) (j:=6000) J rfl rfl)
 refine zF ?_
 replace N:=N.dl [0]
 exact zJ N (by rw [y,zE L];rfl)
theorem j1i {V:Fz} {K:List Res} {w:World} {d0:List Value} {c:Core} (s:RCore V d0 c) (c2:∀v,d0[3]? = some v->Cap v) (N:Mem V K w) :
  Calls prog 52 #[.agg d0.toArray] w (fun ee w'=>ee=.returned (.int .i64 (mO c))/\Mem V K w'):=by
 obtain ⟨p3,c4,p9,d1,N2,g1,A1,c22,rfl,h2,h8,D,I,h4,j4,x3,t1,y3,U,z3,u1⟩:=RCore.fm s
 refine zI func52 ntmps52 fun Q hQ a J=>?_
 refine Bx fun c1 w N a J=>?_
 refine go fun a J=>?_
 refine zR (J.ks [1]) N (fun R mm a w=>∃(i:Nat),mm=c.funs.length - i/\R V [(3,.int .i64 i)] [] a w/\(c.funs.any (fun f=>xN 250 f.body)=(c.funs.drop i).any (fun f=>xN 250 f.body))) (c.funs.length - 0) ⟨0,rfl,⟨J.pk,N⟩,rfl⟩ ?_
 clear N J
 rintro mm a w ⟨i,B,⟨J,N⟩,k0⟩ W3 q1
 by_cases n1:i < c.funs.length
 refine go fun a J=>?_
 obtain ⟨m4,rfl,y0,I0,j3,v3,s1,v1⟩:=D.el U n1
 obtain ⟨n4,Y3,rfl,O1,o1⟩:=id v1
 obtain ⟨k4,c46,rfl,A3,D3⟩:=O1.fm
 obtain ⟨O2,I1,P2,J1,rfl,u3,Z3,a4,B3,E3,C3,F3⟩:=REx.fm o1
 refine Qq (fun a J=>?_) (o:=by exact fun J O=>vY 3 (vs:=[.int .i64 (y0.body.kind),.int .i64 (y0.body.num),.string y0.body.name,.slice O2 y0.body.args.length I1,.slice P2 y0.body.arms.length J1]) J O rfl s1 isAgg66 sizeOf66 rfl rfl)
 refine zX call106 (fun g0 w N a J=>?_) (fun g0 w N a J=>?_) (c:=x6l (m:=250) (by omega) o1 N)
 refine zF ?_
 replace N:=N.dl [0]
 exact pF N (by rw [mO,k0,zA I0,List.any_cons,g0];rfl)
 refine go fun a J=>?_
 refine q1 _ _ _ (by subst B;omega) ⟨(i+1),rfl,⟨J.pk,N⟩,?_⟩
 rw [k0,zA I0,List.any_cons,g0];rfl
 have q:c.funs.any (fun f=>xN 250 f.body)=false:=by rw [k0,zE n1];rfl
 refine zX call107 (fun h0 w N a J=>?_) (fun h0 w N a J=>?_) (c:=j2e s N)
 refine zF ?_
 replace N:=N.dl [0]
 exact pF N (by rw [mO,q,h0];rfl)
 have r:=h0
 obtain ⟨g2,e4,f4,g4,o2,T0,p2⟩:=x0h r
 refine zX call108 (fun i0 w N a J=>?_) (fun i0 w N a J=>?_) (c:=q3f s g2 o2 N)
 by_cases P1:c.outputs.length=0
 refine zF ?_
 replace N:=N.dl [0]
 exact pF N (by exact (vJ q r (by unfold vT;simp only [show decide (c.outputs.length≠0)=false from decide_eq_false (fun g=>g P1),Bool.false_and,Bool.and_false])).symm)
 have Q1:=i0
 have V1:decide (c.outputs.length≠0)=true:=decide_eq_true (by omega)
 refine go fun a J=>?_
 replace N:=N.nilRow 9 1
 replace N:=N.nf
 refine zR (J.ks [1]) N (fun R mm a w=>∃(i1:Nat) (u:Value),mm=c.inputs.length - i1/\R V [(4,u),(5,.int .i64 i1)] [(0,.gs (u) 9 1 (strs ((c.inputs.take i1).map Param.name)))] a w/\(c.inputs.all (fun p=>xE c.datas p.type)=(c.inputs.drop i1).all (fun p=>xE c.datas p.type))) (c.inputs.length - 0) ⟨0,.slice none 0 0,rfl,⟨J.pk,N⟩,rfl⟩ ?_
 clear N J
 rintro mm a w ⟨i1,u,B,⟨J,N⟩,l0⟩ X3 r1
 replace N:=N.nf
 by_cases p1:i1 < c.inputs.length
 refine go fun a J=>?_
 obtain ⟨Q2,rfl,S2,w0,k3,w3,t3,w1⟩:=h8.el t1 p1
 obtain rfl:=id w1
 refine yK fun R2 w N a J=>?_
 refine yU 1 vA (fun F1 w N a J=>?_) (hb:=by rw [zZ,List.length_map,List.length_take];simp only [lcQ,lnQ];omega)
 replace N:Mem V (.gs (R2) 9 1 [.string S2.name]::.gs (F1) 9 1 (strs ((c.inputs.take (i1+1)).map Param.name))::.blk c1 (ob [.slice p3 c.datas.length c4,.slice (some Q2) c.inputs.length d1,.slice N2 c.funs.length g1,.slice A1 c.outputs.length c22] 27)::K) w:=by rw [xK w0,List.map_append,yE];exact N
 refine Reg [2,1,2,1,1,1,2,0,1] [0,1,2] fun w N a J=>?_
 refine zX call109 (fun j0 w N a J=>?_) (fun j0 w N a J=>?_) (c:=y1c s N)
 refine go fun a J=>?_
 replace N:=N.dl [0]
 refine r1 _ _ _ (by subst B;omega) ⟨(i1+1),(F1),rfl,⟨J.pk,N⟩,?_⟩
 rw [l0,zA w0,List.all_cons,j0];rfl
 refine zF ?_
 replace N:=N.dl [2,1,0]
 exact pF N (by exact (vJ q r (by unfold vT;simp only [show c.inputs.all (fun p=>xE c.datas p.type)=false by rw [l0,zA w0,List.all_cons,j0];rfl,Bool.false_and,Bool.and_false])).symm)
 refine go fun a J=>?_
 have S1:c.inputs.all (fun p=>xE c.datas p.type)=true:=by rw [l0,zE p1];rfl
 rw [List.take_of_length_le (l:=c.inputs) (by omega)] at N
 replace N:=N.nf
 refine go fun a J=>?_
 have z0:=Cap.own N (i:=0) rfl
 have y:=N
 clear N
 obtain ⟨H,d,N,p0⟩:=y.freezeRow (i:=0) rfl
 clear y
 replace D:=D.up d
 replace I:=I.up d
 replace s:=s.up d
 replace N:=N.nf
 have W:SliceOf RStr H 1 _ ((c.inputs.map Param.name)):=SliceOf.strs.2 p0
 obtain ⟨G3,a3,s0,q2,C2⟩:=W.form (by decide)
 have z:=N
 clear N
 subst s0
 have N:=z
 clear z
 refine zX call110 (fun L w N a J=>?_) (fun L w N a J=>?_) (c:=gQ W z0 N)
 have U1:=L
 refine go fun a J=>?_
 replace N:=N.nilRow 9 1
 replace N:=N.nf
 refine zR (J.ks [1]) N (fun R mm a w=>∃(i2:Nat) (u:Value),mm=c.funs.length - i2/\R H [(4,u),(6,.int .i64 i2)] [(0,.gs (u) 9 1 (strs ((c.funs.take i2).map Fun.name)))] a w/\(c.funs.all (kN c.datas)=(c.funs.drop i2).all (kN c.datas))) (c.funs.length - 0) ⟨0,.slice none 0 0,rfl,⟨J.pk,N⟩,rfl⟩ ?_
 clear N J
 rintro mm a w ⟨i2,u,B,⟨J,N⟩,A⟩ T2 N0
 replace N:=N.nf
 by_cases A0:i2 < c.funs.length
 refine go fun a J=>?_
 obtain ⟨D1,rfl,b,t,K1,j2,m0,G⟩:=D.el U A0
 obtain ⟨S3,X2,rfl,B0,Z⟩:=id G
 obtain ⟨x1,e1,rfl,r2,U0⟩:=B0.fm
 obtain ⟨y1,f1,z1,c143,rfl,d2,l3,m3,s2,D2,t2,E2⟩:=REx.fm Z
 refine Alc fun b1 w N a J=>?_
 refine Sto 0 fun w N a J=>?_
 refine yK fun E1 w N a J=>?_
 refine yU 2 vA (fun K0 w N a J=>?_) (hb:=by rw [zZ,List.length_map,List.length_take];simp only [lcQ,lnQ];omega)
 replace N:Mem H (.gs (E1) 9 1 [.string b.name]::.blk b1 (ob [.string b.name,.slice x1 b.params.length e1,.string b.result,.int .i64 (b.body.kind),.int .i64 (b.body.num),.string b.body.name,.slice y1 b.body.args.length f1,.slice z1 b.body.arms.length c143] 68)::.gs (K0) 9 1 (strs ((c.funs.take (i2+1)).map Fun.name))::.blk c1 (ob [.slice p3 c.datas.length c4,.slice p9 c.inputs.length d1,.slice (some D1) c.funs.length g1,.slice A1 c.outputs.length c22] 27)::K) w:=by rw [xK t,List.map_append,yE];exact N
 refine go fun a J=>?_
 refine zR (J.ks [1,4,6,7]) N (fun R mm a w=>∃(k:Nat),mm=b.params.length - k/\R H [(8,.int .i64 k)] [] a w/\(b.params.all (fun p=>jP c.datas p.type)=(b.params.drop k).all (fun p=>jP c.datas p.type))) (b.params.length - 0) ⟨0,rfl,⟨J.pk,N⟩,rfl⟩ ?_
 clear N J
 rintro mm a w ⟨k,B,⟨J,N⟩,P⟩ U2 O0
 by_cases C0:k < b.params.length
 refine Reg [2,1,2,1,1,1,2,0,1] [0,1,2,3] fun w N a J=>?_
 refine go fun a J=>?_
 obtain ⟨O3,rfl,V3,t0,L1,k2,Y1,W0⟩:=B0.el U0 C0
 obtain rfl:=id W0
 refine zX call81 (fun M w N a J=>?_) (fun M w N a J=>?_) (c:=z4i s N)
 refine go fun a J=>?_
 refine O0 _ _ _ (by subst B;omega) ⟨(k+1),rfl,⟨J.pk,N⟩,?_⟩
 rw [P,zA t0,List.all_cons,M];rfl
 refine zF ?_
 replace N:=N.le (d)
 replace N:=N.dl [3,2,1,0]
 exact pF N (by exact (vJ q r (by unfold vT;simp only [show c.funs.all (kN c.datas)=false by rw [A,zA t,List.all_cons];unfold kN;rw [P,zA t0,List.all_cons,M];rfl,Bool.false_and,Bool.and_false])).symm)
 have V0:b.params.all (fun p=>jP c.datas p.type)=true:=by rw [P,zE C0];rfl
 refine zX call81 (fun a0 w N a J=>?_) (fun a0 w N a J=>?_) (c:=z4i s N)
 refine go fun a J=>?_
 refine j6q J rfl rfl rfl rfl rfl (kG J rfl call88 (x2o (f:=b) G (by have h_:=T0 b (mgQ t);omega) N) fun v171 w N a J=>?_)
 replace N:=N.nf
 have n0:=Cap.own N (i:=0) rfl
 have y:=N
 clear N
 obtain ⟨a1,n,N,q0⟩:=y.freezeRow (i:=0) rfl
 clear y
 replace D:=D.up n
 replace I:=I.up n
 replace s:=s.up n
 replace m0:=m0.mono n
 replace G:=G.up n
 replace Z:=Z.up n
 replace N:=N.nf
 have X:SliceOf RStr a1 1 _ ((b.params.map Param.name++yH b.body)):=SliceOf.strs.2 q0
 obtain ⟨H3,b3,s0,u2,F2⟩:=X.form (by decide)
 have z:=N
 clear N
 subst s0
 have N:=z
 clear z
 refine zX call110 (fun b0 w N a J=>?_) (fun b0 w N a J=>?_) (c:=gQ X n0 N)
 refine go fun a J=>?_
 replace N:=N.le (n)
 replace N:=N.dl [1,0]
 refine N0 _ _ _ (by subst B;omega) ⟨(i2+1),(K0),rfl,⟨J.pk,N⟩,?_⟩
 rw [A,zA t,List.all_cons,show kN c.datas b=true by unfold kN;rw [V0,show jP c.datas b.result=true from (by first | assumption | exact wT (by assumption) | exact wS (by assumption)),show cB (b.params.map Param.name++yH b.body)=true from (by first | assumption | exact wT (by assumption) | exact wS (by assumption))];rfl];rfl
 refine zF ?_
 replace N:=N.le ((d).trans n)
 replace N:=N.dl [3,2,1,0]
 exact pF N (by exact (vJ q r (by unfold vT;simp only [show c.funs.all (kN c.datas)=false by rw [A,zA t,List.all_cons];unfold kN;simp only [b0,Bool.and_false,Bool.false_and],Bool.false_and,Bool.and_false])).symm)
 refine zF ?_
 replace N:=N.le (d)
 replace N:=N.dl [3,2,1,0]
 exact pF N (by exact (vJ q r (by unfold vT;simp only [show c.funs.all (kN c.datas)=false by rw [A,zA t,List.all_cons];unfold kN;simp only [a0,Bool.and_false,Bool.false_and],Bool.false_and,Bool.and_false])).symm)
 refine go fun a J=>?_
 have R1:c.funs.all (kN c.datas)=true:=by rw [A,zE A0];rfl
 rw [List.take_of_length_le (l:=c.funs) (by omega)] at N
 replace N:=N.nf
 refine go fun a J=>?_
 have o0:=Cap.own N (i:=0) rfl
 have y:=N
 clear N
 obtain ⟨T,h,N,r0⟩:=y.freezeRow (i:=0) rfl
 clear y
 replace D:=D.up h
 replace I:=I.up h
 replace s:=s.up h
 replace N:=N.nf
 have Y:SliceOf RStr T 1 _ ((c.funs.map Fun.name)):=SliceOf.strs.2 r0
 obtain ⟨I3,d3,s0,v2,G2⟩:=Y.form (by decide)
 have z:=N
 clear N
 subst s0
 have N:=z
 clear z
 refine zX call110 (fun c0 w N a J=>?_) (fun c0 w N a J=>?_) (c:=gQ Y o0 N)
 refine zX call110 (fun f0 w N a J=>?_) (fun f0 w N a J=>?_) (c:=gQ I (c2 _ rfl) N)
 refine go fun a J=>?_
 have T1:cB (c.funs.map Fun.name)=true:=(by first | assumption | exact wT (by assumption) | exact wS (by assumption))
 have W1:cB c.outputs=true:=(by first | assumption | exact wT (by assumption) | exact wS (by assumption))
 refine go fun a J=>?_
 refine zR (J.ks [1]) N (fun R mm a w=>∃(i3:Nat),mm=c.funs.length - i3/\R T [(9,.int .i64 i3)] [] a w/\(c.funs.all (mA c)=(c.funs.drop i3).all (mA c))) (c.funs.length - 0) ⟨0,rfl,⟨J.pk,N⟩,rfl⟩ ?_
 clear N J
 rintro mm a w ⟨i3,B,⟨J,N⟩,E⟩ V2 P0
 by_cases D0:i3 < c.funs.length
 refine Reg [2,1,2,1,1,1,2,1,2,1,1,1,2,0,1,1,1,1,1] [0] fun w N a J=>?_
 refine go fun a J=>?_
 obtain ⟨P3,rfl,e,C,M1,l2,R0,X0⟩:=D.el U D0
 obtain ⟨T3,Y2,rfl,E0,F0⟩:=id X0
 obtain ⟨J3,e3,rfl,w2,H2⟩:=E0.fm
 obtain ⟨B1,h1,C1,j1,rfl,e2,n3,o3,x2,I2,y2,J2⟩:=REx.fm F0
 refine Qq (fun a J=>?_) (o:=by exact fun J O=>vY 3 (vs:=[.int .i64 (e.body.kind),.int .i64 (e.body.num),.string e.body.name,.slice B1 e.body.args.length h1,.slice C1 e.body.arms.length j1]) J O rfl R0 isAgg66 sizeOf66 rfl rfl)
 refine zO call111 (fun w N a J=>?_) (c:=x1u s E0 F0 p2 (T0 e (mgQ C)).2.1 (by have h_:=(T0 e (mgQ C));omega) N)
 refine go fun a J=>?_
 generalize b2:(!((zQ c e.body e.params).2))=L0 at J
 cases L0
 by_cases k1:(zQ c e.body e.params).1=e.result
 refine go fun a J=>?_
 refine P0 _ _ _ (by subst B;omega) ⟨(i3+1),rfl,⟨J.pk,N⟩,?_⟩
 rw [E,zA C,List.all_cons,show mA c e=true by unfold mA;rw [show (zQ c e.body e.params).2=true from (by first | assumption | exact wT (by assumption) | exact wS (by assumption)),decide_eq_true (by assumption)];rfl];rfl
 refine zF ?_
 replace N:=N.le ((d).trans h)
 replace N:=N.dl [0]
 exact pF N (by exact (vJ q r (by unfold vT;simp only [show c.funs.all (mA c)=false by rw [E,zA C,List.all_cons];unfold mA;simp only [decide_eq_false k1,Bool.and_false,Bool.false_and],Bool.false_and,Bool.and_false])).symm)
 refine zF ?_
 replace N:=N.le ((d).trans h)
 replace N:=N.dl [0]
 exact pF N (by exact (vJ q r (by unfold vT;simp only [show c.funs.all (mA c)=false by rw [E,zA C,List.all_cons];unfold mA;simp only [show (zQ c e.body e.params).2=false from (by first | assumption | exact wT (by assumption) | exact wS (by assumption)),Bool.and_false,Bool.false_and],Bool.false_and,Bool.and_false])).symm)
 have X1:c.funs.all (mA c)=true:=by rw [E,zE D0];rfl
 refine go fun a J=>?_
 refine zR (J.ks [1]) N (fun R mm a w=>∃(i4:Nat),mm=c.outputs.length - i4/\R T [(12,.int .i64 i4)] [] a w/\(c.outputs.all (y1e c.funs)=(c.outputs.drop i4).all (y1e c.funs))) (c.outputs.length - 0) ⟨0,rfl,⟨J.pk,N⟩,rfl⟩ ?_
 clear N J
 rintro mm a w ⟨i4,B,⟨J,N⟩,F⟩ W2 Q0
 by_cases G0:i4 < c.outputs.length
 refine Reg [2,1,2,1,1,2,0,1] [0] fun w N a J=>?_
 refine go fun a J=>?_
 obtain ⟨Q3,rfl,x0,S,M0,m2,Z1,Y0⟩:=I.el u1 G0
 obtain rfl:M0=[.string x0]:=Y0
 refine zO call55 (fun w N a J=>?_) (c:=q0y s N)
 by_cases H0:aE c.funs x0 < 0
 refine zF ?_
 replace N:=N.le ((d).trans h)
 replace N:=N.dl [0]
 exact pF N (by exact (vJ q r (by unfold vT;simp only [show c.outputs.all (y1e c.funs)=false by rw [F,zA S,List.all_cons,outR_no H0];rfl,Bool.false_and,Bool.and_false])).symm)
 refine go fun a J=>?_
 obtain ⟨j,hj⟩:=z9w H0
 have d4:=q7m hj
 rw [show aE c.funs x0=((j:Nat):Int) by rw [aE,hj]] at J
 refine go fun a J=>?_
 have S0:j < c.funs.length:=by omega
 obtain ⟨R3,rfl,G1,u0,N1,n2,a2,Z0⟩:=D.el U S0
 obtain ⟨U3,Z2,rfl,l1,m1⟩:=id Z0
 obtain ⟨K3,f3,rfl,z2,K2⟩:=l1.fm
 obtain ⟨L3,g3,M3,h3,rfl,f2,q3,r3,A2,L2,B2,M2⟩:=REx.fm m1
 by_cases s3:0 < G1.params.length
 refine zF ?_
 replace N:=N.le ((d).trans h)
 replace N:=N.dl [0]
 exact pF N (by exact (vJ q r (by unfold vT;simp only [show c.outputs.all (y1e c.funs)=false by rw [F,zA S,List.all_cons,j7b hj u0,decide_eq_false (by omega)];rfl,Bool.false_and,Bool.and_false])).symm)
 refine go fun a J=>?_
 refine Q0 _ _ _ (by subst B;omega) ⟨(i4+1),rfl,⟨J.pk,N⟩,?_⟩
 rw [F,zA S,List.all_cons,j7b hj u0,decide_eq_true (by omega)];rfl
 refine zF ?_
 replace N:=N.le ((d).trans h)
 replace N:=N.dl [0]
 exact pF N (by exact (x2u q r (by unfold vT;rw [Q1,V1,S1,U1,R1,T1,W1,X1,show c.outputs.all (y1e c.funs)=true by rw [F,zE G0];rfl];rfl)).symm)
 refine zF ?_
 replace N:=N.le ((d).trans h)
 replace N:=N.dl [0]
 exact pF N (by exact (vJ q r (by unfold vT;simp only [f0,Bool.false_and,Bool.and_false])).symm)
 refine zF ?_
 replace N:=N.le ((d).trans h)
 replace N:=N.dl [0]
 exact pF N (by exact (vJ q r (by unfold vT;simp only [c0,Bool.false_and,Bool.and_false])).symm)
 refine zF ?_
 replace N:=N.le (d)
 replace N:=N.dl [0]
 exact pF N (by exact (vJ q r (by unfold vT;simp only [L,Bool.false_and,Bool.and_false])).symm)
 refine zF ?_
 replace N:=N.dl [0]
 exact pF N (by exact (vJ q r (by unfold vT;simp only [i0,Bool.false_and,Bool.and_false])).symm)
theorem z7v {m:Nat} (h:m<=9223372036854775808):(vP m).length<=19:=by unfold vP;rw [List.length_reverse];exact z7w 18 _ _ (by omega)
theorem j8i {n:Nat} (h:n < 10):IntKind.u8.wrap (48+((n:Nat):Int))=((((48+n).toUInt8).toNat:Nat):Int):=by
 have h1:((48+n).toUInt8).toNat=48+n:=by simp [Nat.toUInt8];omega
 rw [h1];simp only [IntKind.wrap,IntKind.signed,IntKind.bits];simp;omega
theorem x7y {n:Nat} (h:n < 256):IntKind.u8.wrap ((n:Nat):Int)=((n:Nat):Int):=by simp only [IntKind.wrap,IntKind.signed,IntKind.bits];simp;omega
theorem q2p {n:Nat} (h:n < 18446744073709551616):IntKind.u64.wrap ((n:Nat):Int)=((n:Nat):Int):=by simp only [IntKind.wrap,IntKind.signed,IntKind.bits];simp;omega
theorem u64_neg {n:Int} (h:n < 0) (h1:I64 n):IntKind.u64.wrap n=(((n+18446744073709551616).toNat:Nat):Int):=by
 have:=h1.1;simp only [IntKind.wrap,IntKind.signed,IntKind.bits];simp;omega
theorem u64_pos {n:Int} (h:¬n < 0) (h1:I64 n):IntKind.u64.wrap n=((n.toNat:Nat):Int):=by
 have:=h1.2;simp only [IntKind.wrap,IntKind.signed,IntKind.bits];simp;omega
theorem x7x {n:Int} (h:n < 0) (h1:I64 n):IntKind.u64.wrap (0 - (((n+18446744073709551616).toNat:Nat):Int))=(((-n).toNat:Nat):Int):=by
 have:=h1.1;simp only [IntKind.wrap,IntKind.signed,IntKind.bits];simp;omega
theorem x7p {n:Int} (h:n < 0):(⟨#[45]⟩:Bs)++xO (vP (-n).toNat)=mC n:=by rw [z6a,z0n,if_pos h];exact (nM [45] _).symm
theorem x7q {n:Int} (h:¬n < 0):xO (vP n.toNat)=mC n:=by rw [z6a,z0n,if_neg h]
theorem q3p {V:Fz} {K:List Res} {w:World} {n:Nat}  (h:n<=9223372036854775808) (e:∀m:Nat,m < n->∀{V:Fz} {K:List Res} {w:World},Mem V K w->Calls prog 173 #[.int .u64 m] w (fun ee w'=>ee=.returned (.string (xO (vP m)))/\Mem V K w')) (N:Mem V K w) :
  Calls prog 173 #[.int .u64 n] w (fun ee w'=>ee=.returned (.string ((xO (vP n))))/\Mem V K w'):=by
 refine zI func173 ntmps173 fun Q hQ a J=>?_
 by_cases d:n < 10
 refine Qq (fun a J=>?_) (o:=by exact fun J O=>cT ((n:Nat):Int) J rfl underlying241 underlying5 (x7y (by omega)))
 refine Qq (fun a J=>?_) (o:=by exact fun J O=>z0p ((((48+n).toUInt8).toNat:Nat):Int) J rfl rfl (j8i (by omega)))
 refine yK fun i w N a J=>?_
 refine Qq (fun a J=>?_) (o:=by exact fun J O=>j0s (b:=((48+n).toUInt8)) 0 J O rfl rfl underlying128 underlying5 underlying9)
 refine zF ?_
 replace N:=N.dl [0]
 exact tO N (by rw [z2l d])
 refine Qq (fun a J=>?_) (o:=by exact fun J O=>y_quo ((n / 10:Nat):Int) J rfl rfl (by decide) (by rw [show ((n:Nat):Int).tdiv 10=((n / 10:Nat):Int) from rfl];exact q2p (by omega)))
 refine zO call173 (fun w N a J=>?_) (c:=e (n / 10) (by omega) N)
 refine Qq (fun a J=>?_) (o:=by exact fun J O=>y_rem ((n % 10:Nat):Int) J rfl rfl (by decide) (rfl))
 refine zO call173 (fun w N a J=>?_) (c:=e (n % 10) (by omega) N)
 refine Qq (fun a J=>?_) (o:=by exact fun J O=>vF J rfl rfl (by rw [kI,kI];have f:=z7v (m:=n / 10) (by omega);have g:=z7v (m:=n % 10) (by omega);omega))
 refine zF ?_
 exact tO N (by rw [y3u d,nM])
theorem y3t {n:Nat} (b:n<=9223372036854775808):∀{V:Fz} {K:List Res} {w:World},Mem V K w->Calls prog 173 #[.int .u64 n] w (fun ee w'=>ee=.returned (.string (xO (vP n)))/\Mem V K w'):=by
 induction n using Nat.strongRecOn with
 | ind n c=>intro V K w N;exact q3p b (fun m a _ _ _ N=>c m a (by omega) N) N
theorem x7n {V:Fz} {K:List Res} {w:World} {n:Int}  (b:I64 n) (N:Mem V K w) :
  Calls prog 123 #[.int .i64 n] w (fun ee w'=>ee=.returned (.string ((mC n)))/\Mem V K w'):=by
 refine zI func123 ntmps123 fun Q hQ a J=>?_
 by_cases f:n < 0
 refine Qq (fun a J=>?_) (o:=by exact fun J O=>cT (((n+18446744073709551616).toNat:Nat):Int) J rfl underlying3 underlying241 (u64_neg (by omega) b))
 refine Qq (fun a J=>?_) (o:=by exact fun J O=>y_neg (((-n).toNat:Nat):Int) J rfl (x7x (by omega) b))
 refine zO call173 (fun w N a J=>?_) (c:=y3t (n:=(-n).toNat) (by have d:=b.1;have e:=b.2;omega) N)
 refine Qq (fun a J=>?_) (o:=by exact fun J O=>vF J rfl rfl (by rw [kI];have d:=z7v (m:=(-n).toNat) (by have:=b.1;omega);have e:(⟨#[45]⟩:Bs).size=1:=rfl;omega))
 refine zF ?_
 exact tO N (by exact x7p f)
 refine Qq (fun a J=>?_) (o:=by exact fun J O=>cT ((n.toNat:Nat):Int) J rfl underlying3 underlying241 (u64_pos (by omega) b))
 refine zO call173 (fun w N a J=>?_) (c:=y3t (n:=n.toNat) (by have d:=b.1;have e:=b.2;omega) N)
 refine zF ?_
 exact tO N (by exact x7q f)
theorem j7w {n:Nat}:IntKind.u64.wrap ((n:Nat):Int)=((n % 18446744073709551616:Nat):Int):=by simp only [IntKind.wrap,IntKind.signed,IntKind.bits];simp
theorem x7z {c:UInt8} (h:¬c.toNat < 48):IntKind.u8.wrap (((c.toNat:Nat):Int) - 48)=((c.toNat - 48:Nat):Int):=by
 have:=c.toNat_lt;simp only [IntKind.wrap,IntKind.signed,IntKind.bits];simp;omega
theorem y5t {V:Fz} {K:List Res} {w:World} {s:Bs} (O:s.size<=1000000) (N:Mem V K w) :
  Calls prog 183 #[.string s] w (fun ee w'=>∃y:Int,ee=.returned (.tuple #[.int .i64 y,.bool (wH s).isSome])/\(∀v,wH s=some v->y=v)/\Mem V K w'):=by
 refine zI func183 ntmps183 fun Q hQ a J=>?_
 refine goJ 2 fun a J=>?_
 refine sq fun L2 c0=>?_
 have B:∀a w,(∃(W:Bool),EnvR 64 [(0,.string s),(4,.bool W)] [] a/\Mem V (K) w/\(sR s=W))->L2 a w:=by
  clear N J
  rintro a w ⟨W,J,N,Z⟩
  apply c0
  have d:=Z
  refine goJ 5 fun a J=>?_
  refine sq fun L6 d0=>?_
  have I:∀a w,(∃(t:Bs) (b:Bool),EnvR 64 [(0,.string s),(4,.bool b),(5,.string t)] [] a/\Mem V (K) w/\(t=nY s/\b=sR s))->L6 a w:=by
   clear N J
   rintro a w ⟨t,b,J,N,a0⟩
   apply d0
   obtain ⟨e,P⟩:=a0
   have j0:t.size<=1000000:=by rw [e];unfold nY;split <;> (try rw [ByteArray.size_extract]) <;> omega
   by_cases n0:t.size < 1
   refine jO ?_
   rw [y1p (by rw [<- e];omega)];exact ⟨_,rfl,(fun v h=>by cases h),N⟩
   by_cases o0:19 < t.size
   refine jO ?_
   rw [y1p (by rw [<- e];omega)];exact ⟨_,rfl,(fun v h=>by cases h),N⟩
   refine go fun a J=>?_
   refine zR (J.ks [0,4,5]) N (fun R mm a w=>∃(i:Nat),mm=t.size - i/\R V [(6,.int .u64 (((tZ t i):Nat):Int)),(7,.int .i64 i)] [] a w/\(i<=t.size/\∀j,j < i->z3n (zC t j)=true)) (t.size - 0) ⟨0,rfl,⟨J.pk,N⟩,⟨Nat.zero_le _,fun j h=>absurd h (Nat.not_lt_zero j)⟩⟩ ?_
   clear N J
   rintro mm a w ⟨i,g0,⟨J,N⟩,G⟩ k0 L
   obtain ⟨h0,S⟩:=G
   by_cases A:i < t.size
   obtain ⟨D,k⟩:=qJ A
   refine Qq (fun a J=>?_) (o:=by exact fun J O=>yZ i D J rfl rfl runUnderlying9 k)
   have f:=zT k
   by_cases p0:D.toNat < 48
   have p:=zT k
   refine jO ?_
   rw [y1p (.inr (.inr ⟨i,by rw [<- e];omega,by rw [<- e,f];simp [z3n];omega⟩))];exact ⟨_,rfl,(fun v h=>by cases h),N⟩
   obtain ⟨E,u⟩:=qJ A
   refine Qq (fun a J=>?_) (o:=by exact fun J O=>yZ i E J rfl rfl runUnderlying9 u)
   have p:=zT u
   by_cases q0:57 < E.toNat
   refine jO ?_
   rw [y1p (.inr (.inr ⟨i,by rw [<- e];omega,by rw [<- e,f];simp [z3n];omega⟩))];exact ⟨_,rfl,(fun v h=>by cases h),N⟩
   refine Qq (fun a J=>?_) (o:=by exact fun J O=>j8a (((10 * tZ t i) % 18446744073709551616:Nat):Int) J rfl rfl (j7w))
   obtain ⟨n,l⟩:=qJ A
   refine Qq (fun a J=>?_) (o:=by exact fun J O=>yZ i n J rfl rfl runUnderlying9 l)
   have f0:=zT l
   refine Qq (fun a J=>?_) (o:=by exact fun J O=>jT ((n.toNat - 48:Nat):Int) J rfl rfl (x7z (by omega)))
   refine Qq (fun a J=>?_) (o:=by exact fun J O=>cT ((n.toNat - 48:Nat):Int) J rfl underlying5 underlying241 (q2p (by have:=n.toNat_lt;omega)))
   refine Qq (fun a J=>?_) (o:=by exact fun J O=>z0p ((tZ t (i+1):Nat):Int) J rfl rfl (by rw [tZ,zT l,<- Int.natCast_add,j7w];congr 1;omega))
   refine go fun a J=>?_
   refine L _ _ _ (by subst g0;omega) ⟨(i+1),rfl,⟨J.pk,N⟩,?_⟩
   refine ⟨by omega,fun j hj=>?_⟩
   by_cases U:j=i
   rw [U,f];simp [z3n];omega
   exact S j (by omega)
   have m:tZ t i=tZ (nY s) (nY s).size:=by rw [<- e];congr 1;omega
   refine Qq (fun a J=>?_) (o:=by exact fun J O=>cT (IntKind.i64.wrap ((tZ t i:Nat):Int)) J rfl underlying241 underlying3 (rfl))
   refine goJ 17 fun a J=>?_
   refine sq fun X M=>?_
   have q:∀a w,(∃(o:Int),EnvR 64 [(0,.string s),(8,.int .i64 (o))] [] a/\Mem V (K) w/\(o=y0s (sR s) (tZ (nY s) (nY s).size)))->X a w:=by
    clear N J
    rintro a w ⟨o,J,N,H⟩
    apply M
    have C:=H
    have T:I64 o:=by rw [C];exact q9q _ _
    refine zO call123 (fun w N a J=>?_) (c:=x7n T N)
    refine Qq (fun a J=>?_) (o:=by exact fun J O=>z3f J rfl rfl)
    refine jO ?_
    by_cases g:mC o=s
    rw [C] at g ⊢;rw [x6a g,decide_eq_true g];exact ⟨_,rfl,(fun v h=>by injection h),N⟩
    rw [decide_eq_false g];rw [C] at g;rw [numR_ne g];exact ⟨_,rfl,(fun v h=>by cases h),N⟩
   refine go fun a J=>?_
   cases b
   refine go fun a J=>?_
   exact q _ _ ⟨IntKind.i64.wrap ((tZ t i:Nat):Int),J.pk,N,by rw [<- P,<- m];rfl⟩
   refine Qq (fun a J=>?_) (o:=by exact fun J O=>y_neg _ J rfl rfl)
   refine Qq (fun a J=>?_) (o:=by exact fun J O=>cT (IntKind.i64.wrap (IntKind.u64.wrap (0 - ((tZ t i:Nat):Int)))) J rfl underlying241 underlying3 (rfl))
   refine go fun a J=>?_
   exact q _ _ ⟨IntKind.i64.wrap (IntKind.u64.wrap (0 - ((tZ t i:Nat):Int))),J.pk,N,by rw [<- P,<- m];rfl⟩
  refine go fun a J=>?_
  cases W
  refine go fun a J=>?_
  exact I _ _ ⟨s,false,J.pk,N,⟨by simp [nY,d],d.symm⟩⟩
  have i0:0 < s.size:=by have h_:=d;simp only [sR,baQ,decide_eq_true_eq] at h_;exact h_.1
  refine Qq (fun a J=>?_) (o:=by exact fun J O=>qS 1 (s.size) J rfl runUnderlying9 ⟨_,rfl⟩ rfl (by omega) (by exact Nat.le_refl _))
  refine go fun a J=>?_
  exact I _ _ ⟨(s.extract 1 s.size),true,J.pk,N,⟨by simp [nY,d],d.symm⟩⟩
 by_cases Y:0 < s.size
 obtain ⟨F,z⟩:=qJ Y
 refine Qq (fun a J=>?_) (o:=by exact fun J O=>yZ 0 F J rfl rfl runUnderlying9 z)
 have r:=zT z
 by_cases r0:F.toNat=45
 refine go fun a J=>?_
 have d:sR s=true:=by simp [sR,r, *]
 exact B _ _ ⟨true,J.pk,N,d⟩
 refine go fun a J=>?_
 have d:sR s=false:=by simp [sR,r, *]
 exact B _ _ ⟨false,J.pk,N,d⟩
 refine go fun a J=>?_
 have d:sR s=false:=by simp [sR, *]
 exact B _ _ ⟨false,J.pk,N,d⟩
theorem x1y {V:Fz} {K:List Res} {w:World} {s:Bs} (O:s.size<=1000000) (N:Mem V K w) :
  Calls prog 75 #[.string s] w (fun ee w'=>∃v,ee=.returned v/\Mem V (.gs v 9 1 (strs (vE s))::K) w'):=by
 refine zI func75 ntmps75 fun Q hQ a J=>?_
 refine go fun a J=>?_
 replace N:=N.nilRow 9 1
 replace N:=N.nf
 refine zR (J.ks [0]) N (fun R mm a w=>∃(i:Nat) (u:Value) (out:List Bs) (fr:Nat),mm=s.size+1 - i/\R V [(3,u),(4,.int .i64 fr),(5,.int .i64 i)] [(0,.gs (u) 9 1 (strs out))] a w/\(WordsI s out fr i)) (s.size+1 - 0) ⟨0,.slice none 0 0,[],0,rfl,⟨J.pk,N⟩,WordsI.start s⟩ ?_
 clear N J
 rintro mm a w ⟨i,u,out,fr,z,⟨J,N⟩,i0⟩ L6 y
 replace N:=N.nf
 have n:=i0
 have p0:=n.le
 have q0:=n.len
 refine go fun a J=>?_
 by_cases S:i<=s.size
 refine goJ 7 fun a J=>?_
 refine sq fun f0 X=>?_
 have k:∀a w,(∃(e1:Bool),EnvR 76 [(0,.string s),(3,u),(4,.int .i64 fr),(5,.int .i64 i),(6,.bool e1)] [] a/\Mem V (.gs (u) 9 1 (strs out)::K) w/\((e1=true↔i=s.size∨zC s i=32∨zC s i=10)))->f0 a w:=by
  clear N J
  rintro a w ⟨e1,J,N,T⟩
  apply X
  have d:=T
  refine sq fun g0 Y=>?_
  have l:∀a w,(∃(e2:Bool) (I:Bool),EnvR 76 [(0,.string s),(3,u),(4,.int .i64 fr),(5,.int .i64 i),(6,.bool e2),(7,.bool I)] [] a/\Mem V (.gs (u) 9 1 (strs out)::K) w/\((e2=true↔i=s.size∨zC s i=32∨zC s i=10)/\(I=true↔e2=false/\(zC s i=40∨zC s i=41))))->g0 a w:=by
   clear N J
   rintro a w ⟨e2,I,J,N,U⟩
   apply Y
   obtain ⟨e,h⟩:=U
   refine sq fun h0 Z=>?_
   have g:∀a w,(∃(H:Bool) (L:Bool) (u1:Value) (b:List Bs),EnvR 76 [(0,.string s),(3,u1),(4,.int .i64 fr),(5,.int .i64 i),(6,.bool H),(7,.bool L)] [] a/\Mem V (.gs (u1) 9 1 (strs b)::K) w/\(b=(if H=true∨L=true then (if fr < i then out++[s.extract fr i] else out) else out)/\(H=true↔i=s.size∨zC s i=32∨zC s i=10)/\(L=true↔H=false/\(zC s i=40∨zC s i=41))))->h0 a w:=by
    clear N J
    rintro a w ⟨H,L,u1,b,J,N,W⟩
    apply Z
    obtain ⟨j,f,m⟩:=W
    refine go fun a J=>?_
    cases H
    refine go fun a J=>?_
    cases L
    have b0:¬i=s.size:=fun h_=>(by cases f.2 (.inl h_))
    have t:¬(zC s i=32∨zC s i=10):=fun h_=>(by cases f.2 (.inr h_))
    refine go fun a J=>?_
    refine y _ _ _ (by subst z;omega) ⟨(i+1),(u1),(b),(fr),rfl,⟨J.pk,N⟩,?_⟩
    have r:i < s.size:=by omega
    rw [show b=out from j.trans (if_neg (by decide))]
    exact n.on r (by cases k0:oY (zC s i) with | false=>rfl | true=>exact absurd ((q5e _).1 k0) (by rintro (h_ | h_);exact t h_;cases m.2 ⟨rfl,h_⟩))
    have b0:¬i=s.size:=fun h_=>(by cases f.2 (.inl h_))
    have t:¬(zC s i=32∨zC s i=10):=fun h_=>(by cases f.2 (.inr h_))
    have E:i < s.size:=by omega
    have a0:b.length<=out.length+1:=by rw [j];split <;> (try split) <;> simp
    refine Qq (fun a J=>?_) (o:=by exact fun J O=>qS i ((i+1)) J rfl runUnderlying9 ⟨_,rfl⟩ ⟨_,rfl⟩ (by omega) (by omega))
    refine yK fun B0 w N a J=>?_
    refine yU 1 vA (fun l0 w N a J=>?_) (hb:=by rw [zZ];simp only [lcQ,lnQ];omega)
    first | rw [qM] at N | rw [<- yE] at N
    refine go fun a J=>?_
    replace N:=N.dl [0]
    refine y _ _ _ (by subst z;omega) ⟨(i+1),(l0),(b++[s.extract i (i+1)]),(i+1),rfl,⟨J.pk,N⟩,?_⟩
    have r:i < s.size:=by omega
    have h_:=n.par r t (m.1 rfl).2
    rw [<- show b=_ from (j.trans (if_pos (.inr rfl)))] at h_;exact h_
    refine go fun a J=>?_
    cases L
    refine go fun a J=>?_
    refine y _ _ _ (by subst z;omega) ⟨(i+1),(u1),(b),(i+1),rfl,⟨J.pk,N⟩,?_⟩
    have h_:=n.sep S (f.1 rfl)
    rw [<- show b=_ from (j.trans (if_pos (.inl rfl)))] at h_;exact h_
    have E:i < s.size:=absurd (m.1 rfl).1 (by decide)
    have a0:b.length<=out.length+1:=by rw [j];split <;> (try split) <;> simp
    refine Qq (fun a J=>?_) (o:=by exact fun J O=>qS i ((i+1)) J rfl runUnderlying9 ⟨_,rfl⟩ ⟨_,rfl⟩ (by omega) (by omega))
    refine yK fun C0 w N a J=>?_
    refine yU 1 vA (fun m0 w N a J=>?_) (hb:=by rw [zZ];simp only [lcQ,lnQ];omega)
    first | rw [qM] at N | rw [<- yE] at N
    refine go fun a J=>?_
    replace N:=N.dl [0]
    refine y _ _ _ (by subst z;omega) ⟨(i+1),(m0),(b++[s.extract i (i+1)]),(i+1),rfl,⟨J.pk,N⟩,?_⟩
    exact absurd (m.1 rfl).1 (by decide)
   refine go fun a J=>?_
   cases e2
   refine go fun a J=>?_
   cases I
   refine go fun a J=>?_
   exact g _ _ ⟨false,false,u,out,J.pk,N,⟨(by first | rfl | (rw [if_pos (by simp)];first | rw [if_pos (by omega)] | rw [if_neg (by omega)]) | rw [if_neg (by simp)]),e,h⟩⟩
   by_cases t0:fr < i
   refine Qq (fun a J=>?_) (o:=by exact fun J O=>qS fr (i) J rfl runUnderlying9 ⟨_,rfl⟩ ⟨_,rfl⟩ (by omega) (by omega))
   refine yK fun D0 w N a J=>?_
   refine yU 1 vA (fun n0 w N a J=>?_) (hb:=by rw [zZ];simp only [lcQ,lnQ];omega)
   first | rw [qM] at N | rw [<- yE] at N
   refine go fun a J=>?_
   replace N:=N.dl [0]
   exact g _ _ ⟨false,true,n0,out++[s.extract fr i],J.pk,N,⟨(by first | rfl | (rw [if_pos (by simp)];first | rw [if_pos (by omega)] | rw [if_neg (by omega)]) | rw [if_neg (by simp)]),e,h⟩⟩
   refine go fun a J=>?_
   exact g _ _ ⟨false,true,u,out,J.pk,N,⟨(by first | rfl | (rw [if_pos (by simp)];first | rw [if_pos (by omega)] | rw [if_neg (by omega)]) | rw [if_neg (by simp)]),e,h⟩⟩
   by_cases u0:fr < i
   refine Qq (fun a J=>?_) (o:=by exact fun J O=>qS fr (i) J rfl runUnderlying9 ⟨_,rfl⟩ ⟨_,rfl⟩ (by omega) (by omega))
   refine yK fun E0 w N a J=>?_
   refine yU 1 vA (fun o0 w N a J=>?_) (hb:=by rw [zZ];simp only [lcQ,lnQ];omega)
   first | rw [qM] at N | rw [<- yE] at N
   refine go fun a J=>?_
   replace N:=N.dl [0]
   exact g _ _ ⟨true,I,o0,out++[s.extract fr i],J.pk,N,⟨(by first | rfl | (rw [if_pos (by simp)];first | rw [if_pos (by omega)] | rw [if_neg (by omega)]) | rw [if_neg (by simp)]),e,h⟩⟩
   refine go fun a J=>?_
   exact g _ _ ⟨true,I,u,out,J.pk,N,⟨(by first | rfl | (rw [if_pos (by simp)];first | rw [if_pos (by omega)] | rw [if_neg (by omega)]) | rw [if_neg (by simp)]),e,h⟩⟩
  refine go fun a J=>?_
  cases e1
  have j0:¬i=s.size:=fun h_=>(by cases d.2 (.inl h_))
  have A:i < s.size:=by omega
  obtain ⟨c38,p⟩:=qJ A
  refine Qq (fun a J=>?_) (o:=by exact fun J O=>yZ i c38 J rfl rfl runUnderlying9 p)
  have s0:=zT p
  by_cases w0:c38.toNat=40
  have G:=zT p
  rotate_left
  obtain ⟨M,C⟩:=qJ A
  refine Qq (fun a J=>?_) (o:=by exact fun J O=>yZ i M J rfl rfl runUnderlying9 C)
  have G:=zT C
  by_cases x0:M.toNat=41
  rotate_left
  refine go fun a J=>?_
  exact l _ _ ⟨false,false,J.pk,N,⟨d,fun h_=>(by first | exact ⟨rfl,by omega⟩ | cases h_),fun h_=>(by first | rfl | (exfalso;have c:=h_.2;omega) | (have c:=h_.1;cases c))⟩⟩
  refine go fun a J=>?_
  exact l _ _ ⟨true,false,J.pk,N,⟨d,fun h_=>(by first | exact ⟨rfl,by omega⟩ | cases h_),fun h_=>(by first | rfl | (exfalso;have c:=h_.2;omega) | (have c:=h_.1;cases c))⟩⟩
  all_goals (refine go fun a J=>?_;exact l _ _ ⟨false,true,J.pk,N,⟨d,fun h_=>(by first | exact ⟨rfl,by omega⟩ | cases h_),fun h_=>(by first | rfl | (exfalso;have c:=h_.2;omega) | (have c:=h_.1;cases c))⟩⟩)
 by_cases y0:i=s.size
 rotate_left
 have B:i < s.size:=by omega
 obtain ⟨c46,q⟩:=qJ B
 refine Qq (fun a J=>?_) (o:=by exact fun J O=>yZ i c46 J rfl rfl runUnderlying9 q)
 have r0:=zT q
 by_cases z0:c46.toNat=32
 have F:=zT q
 rotate_left
 obtain ⟨P,D⟩:=qJ B
 refine Qq (fun a J=>?_) (o:=by exact fun J O=>yZ i P J rfl rfl runUnderlying9 D)
 have F:=zT D
 by_cases A0:P.toNat=10
 rotate_left
 refine go fun a J=>?_
 exact k _ _ ⟨false,J.pk,N,⟨fun h_=>(by first | omega | cases h_),fun h_=>(by first | rfl | (exfalso;omega))⟩⟩
 refine zF ?_
 refine ⟨_,rfl,?_⟩
 rw [show (strs (vE s))=(strs out) by rw [(n.fin S).1]];exact N
 all_goals (refine go fun a J=>?_;exact k _ _ ⟨true,J.pk,N,⟨fun h_=>(by first | omega | cases h_),fun h_=>(by first | rfl | (exfalso;omega))⟩⟩)
end Go.Sw
