import Derived.Test.YtgkhcfjooiekkaaGreatDoorX11
set_option linter.unusedVariables false
set_option linter.unusedSimpArgs false
namespace Go.Sw
open Go.Proofs Go.Proofs.Tryz
set_option maxRecDepth 20000
set_option maxHeartbeats 4000000
theorem q9n {V:Fz} {K:List Res} {w:World} {d0:List Value} {v:Data} {d1:List Value} {u:Data} (P:RData V d0 v) (M:RData V d1 u) (N:Mem V K w) :
  Calls prog 78 #[.agg d0.toArray,.agg d1.toArray] w (fun ee w'=>ee=.returned (.bool (y6v v u))/\Mem V K w'):=by
 obtain ⟨s1,rfl,h2⟩:=id P
 obtain ⟨p3,c4,rfl,k0,L⟩:=h2.fm
 obtain ⟨s7,rfl,U⟩:=id M
 obtain ⟨p9,I,rfl,a0,E⟩:=U.fm
 refine zI func78 ntmps78 fun Q hQ a J=>?_
 refine Bx fun r w N a J=>?_
 refine Bx fun s w N a J=>?_
 refine goJ 2 fun a J=>?_
 refine sq fun H C=>?_
 have e:∀a w,(∃(o:Bool),EnvR 60 [(2,.pointer (some ⟨r,0,none⟩)),(3,.pointer (some ⟨s,0,none⟩)),(5,.bool o)] [] a/\Mem V (.blk s (ob [.string u.name,.slice p9 u.cons.length I] 133)::.blk r (ob [.string v.name,.slice p3 v.cons.length c4] 133)::K) w/\(o=(decide (v.name=u.name)&&decide (v.cons.length=u.cons.length))))->H a w:=by
  clear N J
  rintro a w ⟨o,J,N,l⟩
  apply C
  refine go fun a J=>?_
  refine zR (J.ks [2,3]) N (fun R mm a w=>∃(i:Nat) (o:Bool),mm=v.cons.length - i/\R V [(5,.bool o),(6,.int .i64 i)] [] a w/\(y6v v u=(o&&z4s (v.cons.drop i) (u.cons.drop i))/\(o=true->v.cons.length=u.cons.length))) (v.cons.length - 0) ⟨0,o,rfl,⟨J.pk,N⟩,⟨by rw [l];rfl,fun h=>by rw [l] at h;simp only [baQ,decide_eq_true_eq] at h;exact h.2⟩⟩ ?_
  clear N J
  rintro mm a w ⟨i,o,D,⟨J,N⟩,B⟩ h0 m
  obtain ⟨g,f⟩:=B
  by_cases n:i < v.cons.length
  refine go fun a J=>?_
  cases o
  refine zF ?_
  replace N:=N.dl [1,0]
  exact zJ N (by rw [g,Bool.false_and])
  refine Reg [1,2,1,1,1,2,1,2,1,1,1,2,1,1,1,2,1,1,1,2,1,2,1,1,1,2,0,1,1] [0,1] fun w N a J=>?_
  have q:i < u.cons.length:=by rw [<- f rfl];exact n
  refine go fun a J=>?_
  obtain ⟨p0,rfl,j,b,S,Y,W,F⟩:=h2.el L n
  obtain ⟨r0,rfl,t⟩:=id F
  obtain ⟨m0,i0,rfl,b0,f0⟩:=t.fm
  refine go fun a J=>?_
  obtain ⟨q0,rfl,k,d,T,Z,X,G⟩:=U.el E q
  obtain ⟨s0,rfl,y⟩:=id G
  obtain ⟨n0,j0,rfl,c0,g0⟩:=y.fm
  by_cases z:j.name=k.name
  refine zO call42 (fun w N a J=>?_) (c:=uS t y N)
  refine go fun a J=>?_
  refine m _ _ _ (by subst D;omega) ⟨(i+1),((tQ j.fields k.fields)),rfl,⟨J.pk,N⟩,?_⟩
  exact ⟨by rw [show j=j from Option.some.inj (b.symm.trans b),show k=k from Option.some.inj (d.symm.trans d)];rw [g,zA b,zA d,z1t,Bool.true_and];simp [z],fun _=>f rfl⟩
  refine go fun a J=>?_
  refine m _ _ _ (by subst D;omega) ⟨(i+1),(false),rfl,⟨J.pk,N⟩,?_⟩
  exact ⟨by rw [g,zA b,zA d,z1t,Bool.true_and];simp [z],fun _=>f rfl⟩
  refine zF ?_
  replace N:=N.dl [1,0]
  exact zJ N (by rw [g,zE n,j4e,Bool.and_true])
 by_cases p:v.name=u.name
 by_cases A:v.cons.length=u.cons.length
 refine go fun a J=>?_
 exact e _ _ ⟨true,J.pk,N,by simp [p,A]⟩
 refine go fun a J=>?_
 exact e _ _ ⟨false,J.pk,N,by simp [p,A]⟩
 refine go fun a J=>?_
 exact e _ _ ⟨false,J.pk,N,by simp [p]⟩
theorem y9k {V:Fz} {K:List Res} {w:World} {d0:List Value} {v:Ex} {d1:List Value} {u:Ex} (c1:REx V d0 v) (b1:REx V d1 u) (ih:∀x:Ex,x.sz < v.sz->∀{V:Fz} {K:List Res} {w:World} {d e:List Value} {u:Ex},REx V d x->REx V e u->Mem V K w->Calls prog 79 #[.agg d.toArray,.agg e.toArray] w (fun ee w'=>ee=.returned (.bool (aO x u))/\Mem V K w')) (N:Mem V K w) :
  Calls prog 79 #[.agg d0.toArray,.agg d1.toArray] w (fun ee w'=>ee=.returned (.bool (aO v u))/\Mem V K w'):=by
 obtain ⟨p3,c4,p9,X,rfl,r1,h2,h8,d2,W0,w1,k0⟩:=REx.fm c1
 obtain ⟨r0,Y,s0,c23,rfl,s1,D0,E0,x1,l0,y1,m0⟩:=REx.fm b1
 refine zI func79 ntmps79 fun Q hQ a J=>?_
 refine Bx fun D w N a J=>?_
 refine Bx fun E w N a J=>?_
 refine goJ 2 fun a J=>?_
 refine sq fun w0 g0=>?_
 have g:∀a w,(∃(o:Bool),EnvR 120 [(2,.pointer (some ⟨D,0,none⟩)),(3,.pointer (some ⟨E,0,none⟩)),(5,.bool o)] [] a/\Mem V (.blk E (ob [.int .i64 (u.kind),.int .i64 (u.num),.string u.name,.slice r0 u.args.length Y,.slice s0 u.arms.length c23] 66)::.blk D (ob [.int .i64 (v.kind),.int .i64 (v.num),.string v.name,.slice p3 v.args.length c4,.slice p9 v.arms.length X] 66)::K) w/\(o=((((decide (v.kind=u.kind)&&decide (v.num=u.num))&&decide (v.name=u.name))&&decide (v.args.length=u.args.length))&&decide (v.arms.length=u.arms.length))))->w0 a w:=by
  clear N J
  rintro a w ⟨o,J,N,H⟩
  apply g0
  refine sq fun x0 h0=>?_
  have L:∀a w,(∃(o1:Bool),EnvR 120 [(2,.pointer (some ⟨D,0,none⟩)),(3,.pointer (some ⟨E,0,none⟩)),(5,.bool o1)] [] a/\Mem V (.blk E (ob [.int .i64 (u.kind),.int .i64 (u.num),.string u.name,.slice r0 u.args.length Y,.slice s0 u.arms.length c23] 66)::.blk D (ob [.int .i64 (v.kind),.int .i64 (v.num),.string v.name,.slice p3 v.args.length c4,.slice p9 v.arms.length X] 66)::K) w/\(aO v u=(o1&&sameAs v.arms u.arms)/\(o1=true->v.arms.length=u.arms.length)))->x0 a w:=by
   clear N J
   rintro a w ⟨o1,J,N,I⟩
   apply h0
   refine go fun a J=>?_
   refine zR (J.ks [2,3]) N (fun R mm a w=>∃(k:Nat) (o2:Bool),mm=v.arms.length - k/\R V [(5,.bool o2),(7,.int .i64 k)] [] a w/\(aO v u=(o2&&sameAs (v.arms.drop k) (u.arms.drop k))/\(o2=true->v.arms.length=u.arms.length))) (v.arms.length - 0) ⟨0,o1,rfl,⟨J.pk,N⟩,⟨I.1,I.2⟩⟩ ?_
   clear N J
   rintro mm a w ⟨k,o2,y,⟨J,N⟩,f0⟩ T1 t
   obtain ⟨j,b⟩:=f0
   by_cases P:k < v.arms.length
   refine go fun a J=>?_
   cases o2
   refine zF ?_
   replace N:=N.dl [1,0]
   exact zJ N (by rw [j,Bool.false_and])
   refine Reg [1,2,1,1,1,2,1,2,1,1,1,2,1,1,1,2,1,1,1,2,1,2,1,1,1,2,0,1,1,1,2,1,1,1,2,1,2,1,1,1,2,0,1,1] [0,1] fun w N a J=>?_
   have U:k < u.arms.length:=by rw [<- b rfl];exact P
   refine go fun a J=>?_
   obtain ⟨g2,rfl,m,q,j1,u1,i0,n0⟩:=h8.el k0 P
   obtain ⟨j2,U1,rfl,Z,a0⟩:=RArm.iff.1 n0
   obtain ⟨e2,W1,rfl,z1,F1⟩:=Z.fm
   obtain ⟨X0,c64,Y0,y0,rfl,t1,Y1,Z1,A1,G1,B1,H1⟩:=REx.fm a0
   refine go fun a J=>?_
   obtain ⟨i2,rfl,n,C,k1,v1,j0,o0⟩:=E0.el m0 U
   obtain ⟨k2,V1,rfl,b0,c0⟩:=RArm.iff.1 o0
   obtain ⟨f2,X1,rfl,C1,I1⟩:=b0.fm
   obtain ⟨Z0,z0,a1,A0,rfl,I0,b2,c2,D1,J1,E1,R0⟩:=REx.fm c0
   by_cases l1:m.con=n.con
   refine zO call42 (fun w N a J=>?_) (c:=uS Z b0 N)
   refine go fun a J=>?_
   generalize H0:(tQ m.vars n.vars)=M at J
   cases M
   refine go fun a J=>?_
   refine t _ _ _ (by subst y;omega) ⟨(k+1),(false),rfl,⟨J.pk,N⟩,?_⟩
   rotate_left
   refine Qq (fun a J=>?_) (o:=by exact fun J O=>vY 2 (vs:=[.int .i64 (m.body.kind),.int .i64 (m.body.num),.string m.body.name,.slice X0 m.body.args.length c64,.slice Y0 m.body.arms.length y0]) J O rfl i0 isAgg66 sizeOf66 rfl rfl)
   refine Qq (fun a J=>?_) (o:=by exact fun J O=>vY 2 (vs:=[.int .i64 (n.body.kind),.int .i64 (n.body.num),.string n.body.name,.slice Z0 n.body.args.length z0,.slice a1 n.body.arms.length A0]) J O rfl j0 isAgg66 sizeOf66 rfl rfl)
   refine zO call79 (fun w N a J=>?_) (c:=ih _ (Ex.lt_arms (mgQ q)) a0 c0 N)
   refine go fun a J=>?_
   refine t _ _ _ (by subst y;omega) ⟨(k+1),((aO m.body n.body)),rfl,⟨J.pk,N⟩,?_⟩
   rotate_left
   refine go fun a J=>?_
   refine t _ _ _ (by subst y;omega) ⟨(k+1),(false),rfl,⟨J.pk,N⟩,?_⟩
   rotate_left
   refine zF ?_
   replace N:=N.dl [1,0]
   exact zJ N (by rw [j,zE P,j3z,Bool.and_true])
   all_goals (exact ⟨by rw [j,zA q,zA C,z1s,Bool.true_and];simp [*],fun _=>b rfl⟩)
  refine go fun a J=>?_
  refine zR (J.ks [2,3]) N (fun R mm a w=>∃(i:Nat) (o:Bool),mm=v.args.length - i/\R V [(5,.bool o),(6,.int .i64 i)] [] a w/\(aO v u=(o&&(sameXs (v.args.drop i) (u.args.drop i)&&sameAs v.arms u.arms))/\(o=true->v.args.length=u.args.length/\v.arms.length=u.arms.length))) (v.args.length - 0) ⟨0,o,rfl,⟨J.pk,N⟩,⟨by rw [H];exact x7c v u,fun h=>by rw [H] at h;simp only [baQ,decide_eq_true_eq] at h;exact ⟨h.1.2,h.2⟩⟩⟩ ?_
  clear N J
  rintro mm a w ⟨i,o,y,⟨J,N⟩,S⟩ e1 T
  obtain ⟨j,b⟩:=S
  by_cases r:i < v.args.length
  refine go fun a J=>?_
  cases o
  refine go fun a J=>?_
  exact L _ _ ⟨false,J.pk,N,⟨by rw [j,Bool.false_and,Bool.false_and],fun h=>by cases h⟩⟩
  refine Reg [1,2,1,1,2,1,2,1,1,2,0,1] [0,1] fun w N a J=>?_
  have F:i < u.args.length:=by rw [<- (b rfl).1];exact r
  refine go fun a J=>?_
  obtain ⟨R1,rfl,t0,B,B0,L0,F0,z⟩:=h2.el W0 r
  obtain ⟨L1,f1,M1,g1,rfl,J0,m1,n1,N0,S0,O0,T0⟩:=REx.fm z
  refine go fun a J=>?_
  obtain ⟨S1,rfl,u0,W,C0,M0,G0,A⟩:=D0.el l0 F
  obtain ⟨N1,h1,O1,i1,rfl,K0,p1,q1,P0,U0,Q0,V0⟩:=REx.fm A
  refine zO call79 (fun w N a J=>?_) (c:=ih _ (Ex.lt_args (mgQ B)) z A N)
  refine go fun a J=>?_
  refine T _ _ _ (by subst y;omega) ⟨(i+1),((aO t0 u0)),rfl,⟨J.pk,N⟩,?_⟩
  exact ⟨by rw [j,zA B,zA W,y0r,Bool.true_and,Bool.and_assoc],fun _=>b rfl⟩
  refine go fun a J=>?_
  exact L _ _ ⟨o,J.pk,N,⟨by rw [j,zE r,j4i,Bool.true_and],fun h=>(b h).2⟩⟩
 by_cases f:v.kind=u.kind
 by_cases l:v.num=u.num
 by_cases p:v.name=u.name
 refine go fun a J=>?_
 by_cases s:v.args.length=u.args.length
 by_cases G:v.arms.length=u.arms.length
 refine go fun a J=>?_
 exact g _ _ ⟨true,J.pk,N,by simp [f,l,p,s,G]⟩
 refine go fun a J=>?_
 exact g _ _ ⟨false,J.pk,N,by simp [f,l,p,s,G]⟩
 refine go fun a J=>?_
 exact g _ _ ⟨false,J.pk,N,by simp [f,l,p,s]⟩
 refine go fun a J=>?_
 exact g _ _ ⟨false,J.pk,N,by simp [f,l,p]⟩
 refine go fun a J=>?_
 exact g _ _ ⟨false,J.pk,N,by simp [f,l]⟩
 refine go fun a J=>?_
 exact g _ _ ⟨false,J.pk,N,by simp [f]⟩
theorem q9p {v u:Ex} {V:Fz} {K:List Res} {w:World} {d e:List Value} (b:REx V d v) (a:REx V e u) (N:Mem V K w):Calls prog 79 #[.agg d.toArray,.agg e.toArray] w (fun ee w'=>ee=.returned (.bool (aO v u))/\Mem V K w'):=by
 have:∀n,∀v:Ex,v.sz < n->∀{V:Fz} {K:List Res} {w:World} {d e:List Value} {u:Ex},REx V d v->REx V e u->Mem V K w->Calls prog 79 #[.agg d.toArray,.agg e.toArray] w (fun ee w'=>ee=.returned (.bool (aO v u))/\Mem V K w'):=by
  intro n
  induction n with
  | zero=>intro v h;omega
  | succ n f=>
   intro v O V K w d e u b a N
   exact y9k b a (fun x g {V K w d e u} h1 h2 c=>f x (by omega) h1 h2 c) N
 exact this (v.sz+1) v (Nat.lt_succ_self _) b a N
theorem same_ok {V:Fz} {K:List Res} {w:World} {d0:List Value} {v:Core} {d1:List Value} {u:Core} (c1:RCore V d0 v) (b1:RCore V d1 u) (N:Mem V K w) :
  Calls prog 27 #[.agg d0.toArray,.agg d1.toArray] w (fun ee w'=>ee=.returned (.bool (q2g v u))/\Mem V K w'):=by
 obtain ⟨p3,c4,p9,T,n0,U,o0,c22,rfl,h2,h8,B0,C0,k2,a1,x1,H1,y1,h0,z1,I1⟩:=RCore.fm c1
 obtain ⟨p0,W,q0,X,r0,c40,s0,c46,rfl,D0,E0,F0,G0,A1,i0,B1,J1,C1,j0,D1,K1⟩:=RCore.fm b1
 refine zI func27 ntmps27 fun Q hQ a J=>?_
 refine Bx fun r w N a J=>?_
 refine Bx fun s w N a J=>?_
 refine goJ 2 fun a J=>?_
 refine sq fun w0 f0=>?_
 have f:∀a w,(∃(o:Bool),EnvR 108 [(2,.pointer (some ⟨r,0,none⟩)),(3,.pointer (some ⟨s,0,none⟩)),(5,.bool o)] [] a/\Mem V (.blk s (ob [.slice p0 u.datas.length W,.slice q0 u.inputs.length X,.slice r0 u.funs.length c40,.slice s0 u.outputs.length c46] 27)::.blk r (ob [.slice p3 v.datas.length c4,.slice p9 v.inputs.length T,.slice n0 v.funs.length U,.slice o0 v.outputs.length c22] 27)::K) w/\(o=(((decide (v.datas.length=u.datas.length)&&z6t v.inputs u.inputs)&&decide (v.funs.length=u.funs.length))&&tQ v.outputs u.outputs)))->w0 a w:=by
  clear N J
  rintro a w ⟨o,J,N,B⟩
  apply f0
  refine sq fun x0 g0=>?_
  have D:∀a w,(∃(o1:Bool),EnvR 108 [(2,.pointer (some ⟨r,0,none⟩)),(3,.pointer (some ⟨s,0,none⟩)),(5,.bool o1)] [] a/\Mem V (.blk s (ob [.slice p0 u.datas.length W,.slice q0 u.inputs.length X,.slice r0 u.funs.length c40,.slice s0 u.outputs.length c46] 27)::.blk r (ob [.slice p3 v.datas.length c4,.slice p9 v.inputs.length T,.slice n0 v.funs.length U,.slice o0 v.outputs.length c22] 27)::K) w/\(q2g v u=(o1&&uR v.funs u.funs)/\(o1=true->v.funs.length=u.funs.length)))->x0 a w:=by
   clear N J
   rintro a w ⟨o1,J,N,C⟩
   apply g0
   refine go fun a J=>?_
   refine zR (J.ks [2,3]) N (fun R mm a w=>∃(k:Nat) (o2:Bool),mm=v.funs.length - k/\R V [(5,.bool o2),(7,.int .i64 k)] [] a w/\(q2g v u=(o2&&uR (v.funs.drop k) (u.funs.drop k))/\(o2=true->v.funs.length=u.funs.length))) (v.funs.length - 0) ⟨0,o1,rfl,⟨J.pk,N⟩,⟨C.1,C.2⟩⟩ ?_
   clear N J
   rintro mm a w ⟨k,o2,m,⟨J,N⟩,c0⟩ a2 g
   obtain ⟨d,b⟩:=c0
   by_cases G:k < v.funs.length
   refine go fun a J=>?_
   cases o2
   refine zF ?_
   replace N:=N.dl [1,0]
   exact zJ N (by rw [d,Bool.false_and])
   refine go fun a J=>?_
   obtain ⟨p2,rfl,y,j,m1,w1,u1,k0⟩:=B0.el h0 G
   obtain ⟨r2,b2,rfl,a0,b0⟩:=id k0
   obtain ⟨l2,d2,rfl,E1,L1⟩:=a0.fm
   obtain ⟨m2,e2,n2,f2,rfl,v1,i2,j2,F1,M1,G1,N1⟩:=REx.fm b0
   refine Alc fun c2 w N a J=>?_
   refine Sto 0 fun w N a J=>?_
   have L:k < u.funs.length:=by rw [<- b rfl];exact G
   refine go fun a J=>?_
   obtain ⟨q2,rfl,l,e,y0,N0,H0,M⟩:=F0.el j0 L
   obtain ⟨X1,f1,rfl,z,A⟩:=id M
   obtain ⟨O1,h1,rfl,Q0,V0⟩:=z.fm
   obtain ⟨P1,i1,Q1,j1,rfl,M0,n1,p1,R0,W0,S0,X0⟩:=REx.fm A
   refine Alc fun g1 w N a J=>?_
   refine Sto 0 fun w N a J=>?_
   by_cases q1:y.name=l.name
   by_cases r1:y.result=l.result
   refine zO call77 (fun w N a J=>?_) (c:=z3t a0 z N)
   refine go fun a J=>?_
   generalize K0:(z6t y.params l.params)=E at J
   cases E
   refine go fun a J=>?_
   replace N:=N.dl [1,0]
   refine g _ _ _ (by subst m;omega) ⟨(k+1),(false),rfl,⟨J.pk,N⟩,?_⟩
   rotate_left
   refine zO call79 (fun w N a J=>?_) (c:=q9p b0 A N)
   refine go fun a J=>?_
   replace N:=N.dl [1,0]
   refine g _ _ _ (by subst m;omega) ⟨(k+1),((aO y.body l.body)),rfl,⟨J.pk,N⟩,?_⟩
   rotate_left
   refine go fun a J=>?_
   replace N:=N.dl [1,0]
   refine g _ _ _ (by subst m;omega) ⟨(k+1),(false),rfl,⟨J.pk,N⟩,?_⟩
   rotate_left
   refine go fun a J=>?_
   replace N:=N.dl [1,0]
   refine g _ _ _ (by subst m;omega) ⟨(k+1),(false),rfl,⟨J.pk,N⟩,?_⟩
   rotate_left
   refine zF ?_
   replace N:=N.dl [1,0]
   exact zJ N (by rw [d,zE G,j4d,Bool.and_true])
   all_goals (exact ⟨by rw [d,zA j,zA e,dM,Bool.true_and];simp [z4r, *],fun _=>b rfl⟩)
  refine go fun a J=>?_
  refine zR (J.ks [2,3]) N (fun R mm a w=>∃(i:Nat) (o:Bool),mm=v.datas.length - i/\R V [(5,.bool o),(6,.int .i64 i)] [] a w/\(q2g v u=(o&&(z4q (v.datas.drop i) (u.datas.drop i)&&uR v.funs u.funs))/\(o=true->v.datas.length=u.datas.length/\v.funs.length=u.funs.length))) (v.datas.length - 0) ⟨0,o,rfl,⟨J.pk,N⟩,⟨by rw [B];rfl,fun h=>by rw [B] at h;simp only [baQ,decide_eq_true_eq] at h;exact ⟨h.1.1.1,h.1.2⟩⟩⟩ ?_
  clear N J
  rintro mm a w ⟨i,o,m,⟨J,N⟩,H⟩ e1 I
  obtain ⟨d,b⟩:=H
  by_cases n:i < v.datas.length
  refine go fun a J=>?_
  cases o
  refine go fun a J=>?_
  exact D _ _ ⟨false,J.pk,N,⟨by rw [d,Bool.false_and,Bool.false_and],fun h=>by cases h⟩⟩
  refine Reg [1,2,1,1,2,1,2,1,1,2,0,1] [0,1] fun w N a J=>?_
  have t:i < u.datas.length:=by rw [<- (b rfl).1];exact n
  refine go fun a J=>?_
  obtain ⟨V1,rfl,t0,P,z0,O0,I0,p⟩:=h2.el a1 n
  obtain ⟨Y1,rfl,Y⟩:=id p
  obtain ⟨R1,k1,rfl,T0,Y0⟩:=Y.fm
  refine go fun a J=>?_
  obtain ⟨W1,rfl,u0,S,A0,P0,J0,q⟩:=D0.el i0 t
  obtain ⟨Z1,rfl,Z⟩:=id q
  obtain ⟨S1,l1,rfl,U0,Z0⟩:=Z.fm
  refine zO call78 (fun w N a J=>?_) (c:=q9n p q N)
  refine go fun a J=>?_
  refine I _ _ _ (by subst m;omega) ⟨(i+1),((y6v t0 u0)),rfl,⟨J.pk,N⟩,?_⟩
  exact ⟨by rw [d,zA P,zA S,y0k,Bool.true_and,Bool.and_assoc],fun _=>b rfl⟩
  refine go fun a J=>?_
  exact D _ _ ⟨o,J.pk,N,⟨by rw [d,zE n,j4c,Bool.true_and],fun h=>(b h).2⟩⟩
 by_cases s1:v.datas.length=u.datas.length
 refine zO call77 (fun w N a J=>?_) (c:=z3t h8 E0 N)
 refine go fun a J=>?_
 generalize L0:(z6t v.inputs u.inputs)=F at J
 cases F
 rotate_left
 by_cases t1:v.funs.length=u.funs.length
 refine zO call42 (fun w N a J=>?_) (c:=uS C0 G0 N)
 refine go fun a J=>?_
 exact f _ _ ⟨(tQ v.outputs u.outputs),J.pk,N,by simp [*]⟩
 rotate_left
 rotate_left
 all_goals (refine go fun a J=>?_;exact f _ _ ⟨false,J.pk,N,by simp [*]⟩)
theorem z9g {V:Fz} {K:List Res} {w:World} {b bb:Nat} {v va:Value} {bp:Option Addr} {t op:Bs} {l:List Ex} (Z:∀x:Ex,x∈l->∀{V:Fz} {K:List Res} {w:World} {d:List Value} {b:Nat} {v:Value} {bp:Option Addr} {t:Bs},REx V d x->(bp=none∨bp=some ⟨b,0,none⟩)->Tabs V->t.size+(vX x).length<=8796093022208->Mem V (.blk b (ob [.pointer bp,v] 130)::.gs v 5 1 (Lib.strCells t)::K) w->Calls prog 69 #[.pointer (some ⟨b,0,none⟩),.agg d.toArray] w (fun ee w'=>∃v2,ee=.returned (.tuple #[])/\True/\Mem V (.blk b (ob [.pointer (some ⟨b,0,none⟩),v2] 130)::.gs v2 5 1 (Lib.strCells (t++wB x))::K) w')) (rl:SliceOf REx V 5 va l) (Y:bp=none∨bp=some ⟨b,0,none⟩) (G:Tabs V) (hb:t.size+(kM op l).size<=8796093022208) (N:Mem V (.blk bb (ob [.pointer (some ⟨b,0,none⟩)] 127)::.blk b (ob [.pointer bp,v] 130)::.gs v 5 1 (Lib.strCells t)::K) w) :
  Calls prog 121 #[.string op,va,.pointer (some ⟨bb,0,none⟩)] w (fun ee w'=>∃v2,ee=.returned (.tuple #[])/\True/\Mem V (.blk bb (ob [.pointer (some ⟨b,0,none⟩)] 127)::.blk b (ob [.pointer (some ⟨b,0,none⟩),v2] 130)::.gs v2 5 1 (Lib.strCells (t++kM op l))::K) w'):=by
 obtain ⟨p1,c1,rfl,X,p⟩:=rl.fm
 refine zI func121 ntmps121 fun Q hQ a J=>?_
 refine Qq (fun a J=>?_) (o:=by exact fun J O=>vF J rfl rfl (by have e:=pB (y7r t op l);rw [zL,zL] at e;have k:(⟨#[40]⟩:Bs).size=1:=rfl;have h:(t++kM op l).size=t.size+(kM op l).size:=zL _ _;omega))
 replace N:=N.ar [] [2,2]
 refine zV call68 (fun y2 w W N a J=>?_) (c:=yM (t:=t) (s:=((⟨#[40]⟩:Bs)++op)) Y (by have h:(t++kM op l).size=t.size+(kM op l).size:=zL _ _;have e:=pB (y7r t op l);rw [zL,zL] at e;have k:(⟨#[40]⟩:Bs).size=1:=rfl;rw [zL];omega) N)
 replace N:=N.nf
 refine go fun a J=>?_
 refine zR (J.ks [2,11,12]) N (fun R mm a w=>∃(i:Nat) (bv:Value) (acc:Bs),mm=l.length - i/\R V [(13,.int .i64 i)] [(0,.blk b (ob [.pointer (some ⟨b,0,none⟩),bv] 130)),(1,.gs (bv) 5 1 (Lib.strCells acc))] a w/\(acc++xO (writePs (l.drop i)++[41])=t++kM op l)) (l.length - 0) ⟨0,y2,(t++((⟨#[40]⟩:Bs)++op)),rfl,⟨J.pk,N⟩,y7r t op l⟩ ?_
 clear N J
 rintro mm a w ⟨i,bv,acc,n,⟨J,N⟩,f⟩ L6 m
 replace N:=N.nf
 refine go fun a J=>?_
 by_cases z:i < l.length
 refine go fun a J=>?_
 obtain ⟨c0,rfl,q,g,y,F,D,j⟩:=rl.el p z
 obtain ⟨a0,c23,b0,S,rfl,E,T,U,H,L,I,M⟩:=REx.fm j
 refine Alc fun P w N a J=>?_
 refine Sto 0 fun w N a J=>?_
 replace N:=N.ar [] [2,2]
 refine zV call70 (fun f0 w A N a J=>?_) (c:=aQ (t:=acc) (c:=32) (.inr rfl) (by have h:(t++kM op l).size=t.size+(kM op l).size:=zL _ _;have e:=pB f;simp only [laQ,lcQ,lnQ] at e;omega) N)
 replace N:=N.nf
 replace N:=N.ar [] [1,1]
 refine zV call69 (fun r w B N a J=>?_) (c:=Z _ (mgQ g) (t:=(acc++⟨#[32]⟩)) j (.inr rfl) G (by have h:(t++kM op l).size=t.size+(kM op l).size:=zL _ _;have e:=pB f;rw [z7g g] at e;simp only [laQ,lcQ,lnQ] at e;have k:(⟨#[32]⟩:Bs).size=1:=rfl;rw [zL];omega) N)
 replace N:=N.nf
 refine go fun a J=>?_
 replace N:=N.dl [2]
 refine m _ _ _ (by subst n;omega) ⟨(i+1),(r),(((acc++⟨#[32]⟩)++wB q)),rfl,⟨J.pk,by exact N⟩,?_⟩
 exact w1_step g f
 replace N:=N.ar [] [1,1]
 refine zV call70 (fun u w C N a J=>?_) (c:=aQ (t:=acc) (c:=41) (.inr rfl) (by have h:(t++kM op l).size=t.size+(kM op l).size:=zL _ _;have e:=pB f;simp only [laQ,lcQ,lnQ] at e;omega) N)
 replace N:=N.nf
 refine go fun a J=>?_
 replace N:=N.ar [] [1,1,2]
 refine hQ _ _ _ (aM J results121 ?_)
 refine ⟨u,rfl,trivial,?_⟩
 rw [<- w1_end z f];exact N
theorem j5a {V:Fz} {K:List Res} {w:World} {d:List Value} {e:Ex} {b:Nat} {v:Value} {bp:Option Addr} {t:Bs} (ih:∀x:Ex,x.sz < e.sz->wfE x=true->∀{V:Fz} {K:List Res} {w:World} {d:List Value} {b:Nat} {v:Value} {bp:Option Addr} {t:Bs},REx V d x->(bp=none∨bp=some ⟨b,0,none⟩)->Tabs V->t.size+(vX x).length<=8796093022208->Mem V (.blk b (ob [.pointer bp,v] 130)::.gs v 5 1 (Lib.strCells t)::K) w->Calls prog 69 #[.pointer (some ⟨b,0,none⟩),.agg d.toArray] w (fun ee w'=>∃v2,ee=.returned (.tuple #[])/\True/\Mem V (.blk b (ob [.pointer (some ⟨b,0,none⟩),v2] 130)::.gs v2 5 1 (Lib.strCells (t++wB x))::K) w')) (u:wfE e=true) (re:REx V d e) (L:bp=none∨bp=some ⟨b,0,none⟩) (G:Tabs V) (hb:t.size+(vX e).length<=8796093022208) (N:Mem V (.blk b (ob [.pointer bp,v] 130)::.gs v 5 1 (Lib.strCells t)::K) w) :
  Calls prog 69 #[.pointer (some ⟨b,0,none⟩),.agg d.toArray] w (fun ee w'=>∃v2,ee=.returned (.tuple #[])/\True/\Mem V (.blk b (ob [.pointer (some ⟨b,0,none⟩),v2] 130)::.gs v2 5 1 (Lib.strCells (t++wB e))::K) w'):=by
 obtain ⟨p3,c4,p9,u1,rfl,Y0,h2,h8,C1,A0,c1,a0⟩:=REx.fm re
 refine zI func69 ntmps69 fun Q hQ a J=>?_
 refine Bx fun q1 w N a J=>?_
 refine Bx fun s1 w N a J=>?_
 by_cases B:e.kind=1
 refine Reg [2,1,2,0,0] [0,1] fun w N a J=>?_
 have n:=congrArg ByteArray.size (wB_num B)
 have y:=xF e
 refine zO call122 (fun w N a J=>?_) (c:=q4k (by obtain ⟨_,_,_,h_,_⟩:=REx.iff.1 re;exact h_) G N)
 replace N:=N.ar [] [3,3]
 refine zV call68 (fun B0 w O0 N a J=>?_) (c:=yM (t:=t) (s:=(mC e.num)) L (by omega) N)
 replace N:=N.nf
 refine go fun a J=>?_
 replace N:=N.dl [3,2]
 refine hQ _ _ _ (aM J results69 ?_)
 refine ⟨B0,rfl,trivial,?_⟩
 rw [<- wB_num B];exact N
 by_cases C:e.kind=2
 refine go fun a J=>?_
 have n:=congrArg ByteArray.size (wB_var C)
 have y:=xF e
 replace N:=N.ar [] [3,3]
 refine zV call68 (fun C0 w P0 N a J=>?_) (c:=yM (t:=t) (s:=e.name) L (by omega) N)
 replace N:=N.nf
 refine go fun a J=>?_
 replace N:=N.dl [3,2]
 refine hQ _ _ _ (aM J results69 ?_)
 refine ⟨C0,rfl,trivial,?_⟩
 rw [<- wB_var C];exact N
 by_cases D:e.kind=3
 have n:=congrArg ByteArray.size (wB_inp D)
 have y:=xF e
 refine Qq (fun a J=>?_) (o:=by exact fun J O=>vF J rfl rfl (by rw [zL] at n;omega))
 replace N:=N.ar [] [3,3]
 refine zV call68 (fun D0 w Q0 N a J=>?_) (c:=yM (t:=t) (s:=((⟨#[33]⟩:Bs)++e.name)) L (by omega) N)
 replace N:=N.nf
 refine go fun a J=>?_
 replace N:=N.dl [3,2]
 refine hQ _ _ _ (aM J results69 ?_)
 refine ⟨D0,rfl,trivial,?_⟩
 rw [<- wB_inp D];exact N
 refine go fun a J=>?_
 by_cases p:e.kind=4
 by_cases E:e.args.length=0
 refine go fun a J=>?_
 have n:=congrArg ByteArray.size (j7y p E)
 have y:=xF e
 replace N:=N.ar [] [3,3]
 refine zV call68 (fun E0 w R0 N a J=>?_) (c:=yM (t:=t) (s:=e.name) L (by omega) N)
 replace N:=N.nf
 refine go fun a J=>?_
 replace N:=N.dl [3,2]
 refine hQ _ _ _ (ret0 J results69 ?_)
 refine ⟨E0,rfl,trivial,?_⟩
 rw [<- j7y p E];exact N
 have n:=congrArg ByteArray.size (wB_con p E)
 have y:=xF e
 refine go fun a J=>?_
 replace N:=N.ar [] [3,3,3]
 refine st J rfl rfl rfl (oJ J rfl rfl call121 (z9g (t:=t) (op:=e.name) (fun x S _ _ _ _ _ _ _ _ r1 r2 r3 r4 r5=>ih x (Ex.lt_args S) ((z3c u).2.1 x S) r1 r2 r3 r4 r5) h2 L G (by omega) N) (fun F0 w S0 N a J=>?_))
 replace N:=N.nf
 refine go fun a J=>?_
 replace N:=N.dl [3,0]
 refine hQ _ _ _ (aM J results69 ?_)
 refine ⟨F0,rfl,trivial,?_⟩
 rw [<- wB_con p E];exact N
 by_cases F:e.kind=6
 have n:=congrArg ByteArray.size (wB_let F)
 have y:=xF e
 refine Qq (fun a J=>?_) (o:=by exact fun J O=>vF J rfl rfl (by rw [j1y,zL] at n;omega))
 refine go fun a J=>?_
 replace N:=N.ar [] [3,3,3]
 refine st J rfl rfl rfl (oJ J rfl rfl call121 (z9g (t:=t) (op:=((⟨#[108,101,116,32]⟩:Bs)++e.name)) (fun x S _ _ _ _ _ _ _ _ r1 r2 r3 r4 r5=>ih x (Ex.lt_args S) ((z3c u).2.1 x S) r1 r2 r3 r4 r5) h2 L G (by omega) N) (fun G0 w T0 N a J=>?_))
 replace N:=N.nf
 refine go fun a J=>?_
 replace N:=N.dl [3,0]
 refine hQ _ _ _ (aM J results69 ?_)
 refine ⟨G0,rfl,trivial,?_⟩
 rw [<- wB_let F];exact N
 by_cases H:e.kind=7
 refine go fun a J=>?_
 have M:0 < e.args.length:=(z3c u).1 H
 obtain ⟨n0,I⟩:=jC M
 have z:=x8i (t:=t) H I
 replace N:=N.ar [] [3,3]
 refine zV call68 (fun K1 w U0 N a J=>?_) (c:=yM (t:=t) (s:=(⟨#[40,99,97,115,101,32]⟩:Bs)) L (by have g:=pB z;rw [zL,zL,zL t (wB e),xF e] at g;omega) N)
 replace N:=N.nf
 refine Reg [2,1,2,1,2,0] [2,3] fun w N a J=>?_
 refine go fun a J=>?_
 obtain ⟨H1,rfl,j0,A,L0,a1,W0,P⟩:=h2.el A0 M
 obtain ⟨D1,v1,E1,w1,rfl,Z0,y1,z1,d1,g1,e1,i1⟩:=REx.fm P
 refine go fun a J=>?_
 obtain rfl:j0=n0:=Option.some.inj (A.symm.trans I)
 replace N:=N.ar [] [1,1]
 refine zV call69 (fun H0 w V0 N a J=>?_) (c:=ih _ (Ex.lt_args (mgQ A)) ((z3c u).2.1 _ (mgQ A)) (t:=(t++(⟨#[40,99,97,115,101,32]⟩:Bs))) P (.inr rfl) G (by have g:=pB z;rw [zL,zL,zL t (wB e),xF e,xF] at g;rw [zL];omega) N)
 replace N:=N.nf
 refine go fun a J=>?_
 refine zR (J.ks [2,72,73]) N (fun R mm a w=>∃(i:Nat) (bv:Value) (acc:Bs),mm=e.arms.length - i/\R V [(74,.int .i64 i)] [(0,.blk b (ob [.pointer (some ⟨b,0,none⟩),bv] 130)),(1,.gs (bv) 5 1 (Lib.strCells acc))] a w/\(acc++xO (writePa (e.arms.drop i)++[41])=t++wB e)) (e.arms.length - 0) ⟨0,H0,((t++(⟨#[40,99,97,115,101,32]⟩:Bs))++wB j0),rfl,⟨J.pk,N⟩,z⟩ ?_
 clear N J
 rintro mm a w ⟨i,bv,acc,x0,⟨J,N⟩,h⟩ p1 Z
 replace N:=N.nf
 refine go fun a J=>?_
 by_cases W:i < e.arms.length
 refine go fun a J=>?_
 obtain ⟨I1,rfl,f,j,M0,b1,X0,b0⟩:=h8.el a0 W
 obtain ⟨J1,t1,rfl,X,Y⟩:=RArm.iff.1 b0
 obtain ⟨F1,x1,rfl,f1,j1⟩:=X.fm
 obtain ⟨G1,J0,k1,K0,rfl,t0,B1,N0,u0,y0,w0,z0⟩:=REx.fm Y
 refine Alc fun I0 w N a J=>?_
 refine Sto 0 fun w N a J=>?_
 refine go fun a J=>?_
 refine qP [2,1,2,0,1,2,0,0,1,1,0] (.q 0 (.q 1 (.q 2 (.q 4 (.q 5 (.e 3 (.e 6 (.e 7 (.q 8 (.q 9 (.e 10 (.done)))))))))))) [0,3,4] J N fun w N=>?_
 refine yK fun l1 w N a J=>?_
 refine yU 0 vA (fun m1 w N a J=>?_) (hr:=(SliceOf.strs.1 X).rowIn N.toSees) (h1:=cR _) (hb:=by have g:=pB h;rw [laQ,zL t (wB e),xF e] at g;have k:=tW j;rw [cC] at k;have m:=uE f.con f.vars;have r:(⟨#[32]⟩:Bs).size=1:=rfl;rw [r] at m;simp only [lcQ,lnQ,zZ] at m ⊢;omega)
 refine zO call67 (fun w N a J=>?_) (c:=y5e (l:=f.con::f.vars) (sep:=⟨#[32]⟩) (by have g:=pB h;rw [laQ,zL t (wB e),xF e] at g;have k:=tW j;rw [cC] at k;have m:=uE f.con f.vars;omega) N)
 replace N:=N.nf
 refine Qq (fun a J=>?_) (o:=by exact fun J O=>vF J rfl rfl (by have g:=pB h;rw [laQ,zL t (wB e),xF e] at g;have k:=tW j;rw [cC] at k;have m:=uE f.con f.vars;have r:(⟨#[32,40]⟩:Bs).size=2:=rfl;omega))
 refine Qq (fun a J=>?_) (o:=by exact fun J O=>vF J rfl rfl (by have g:=pB h;rw [laQ,zL t (wB e),xF e] at g;have k:=tW j;rw [cC] at k;have m:=uE f.con f.vars;have r:(⟨#[32,40]⟩:Bs).size=2:=rfl;have T:(⟨#[32,45,62,32]⟩:Bs).size=4:=rfl;rw [zL];omega))
 replace N:=N.ar [] [2,2]
 refine zV call68 (fun n1 w o0 N a J=>?_) (c:=yM (t:=acc) (s:=(((⟨#[32,40]⟩:Bs)++(mU (⟨#[32]⟩:Bs) (f.con::f.vars)))++(⟨#[32,45,62,32]⟩:Bs))) (.inr rfl) (by have g:=pB h;rw [laQ,zL t (wB e),xF e] at g;have k:=tW j;rw [cC,xF] at k;have m:([41]:List UInt8).length=1:=rfl;have r:(⟨#[32,40]⟩:Bs).size=2:=rfl;have T:(⟨#[32,45,62,32]⟩:Bs).size=4:=rfl;have U:(⟨#[41]⟩:Bs).size=1:=rfl;rw [zL,zL];omega) N)
 replace N:=N.nf
 replace N:=N.ar [] [1,1]
 refine zV call69 (fun o1 w p0 N a J=>?_) (c:=ih _ (Ex.lt_arms (mgQ j)) ((z3c u).2.2 _ (mgQ j)) (t:=(acc++(((⟨#[32,40]⟩:Bs)++(mU (⟨#[32]⟩:Bs) (f.con::f.vars)))++(⟨#[32,45,62,32]⟩:Bs)))) Y (.inr rfl) G (by have g:=pB h;rw [laQ,zL t (wB e),xF e] at g;have k:=tW j;rw [cC,xF] at k;have m:([41]:List UInt8).length=1:=rfl;have r:(⟨#[32,40]⟩:Bs).size=2:=rfl;have T:(⟨#[32,45,62,32]⟩:Bs).size=4:=rfl;have U:(⟨#[41]⟩:Bs).size=1:=rfl;rw [zL,zL,zL];omega) N)
 replace N:=N.nf
 replace N:=N.ar [] [1,1]
 refine zV call70 (fun k0 w q0 N a J=>?_) (c:=aQ (t:=((acc++(((⟨#[32,40]⟩:Bs)++(mU (⟨#[32]⟩:Bs) (f.con::f.vars)))++(⟨#[32,45,62,32]⟩:Bs)))++wB f.body)) (c:=41) (.inr rfl) (by have g:=pB h;rw [laQ,zL t (wB e),xF e] at g;have k:=tW j;rw [cC,xF] at k;have m:([41]:List UInt8).length=1:=rfl;have r:(⟨#[32,40]⟩:Bs).size=2:=rfl;have T:(⟨#[32,45,62,32]⟩:Bs).size=4:=rfl;have U:(⟨#[41]⟩:Bs).size=1:=rfl;rw [zL,zL,zL,zL,xF];omega) N)
 replace N:=N.nf
 refine go fun a J=>?_
 replace N:=N.dl [2]
 refine Z _ _ _ (by subst x0;omega) ⟨(i+1),(k0),((((acc++(((⟨#[32,40]⟩:Bs)++(mU (⟨#[32]⟩:Bs) (f.con::f.vars)))++(⟨#[32,45,62,32]⟩:Bs)))++wB f.body)++⟨#[41]⟩)),rfl,⟨J.pk,by exact N⟩,?_⟩
 exact wc_step j h
 replace N:=N.ar [] [1,1]
 refine zV call70 (fun l0 w r0 N a J=>?_) (c:=aQ (t:=acc) (c:=41) (.inr rfl) (by have g:=pB h;rw [laQ,zL t (wB e),xF e] at g;have m:([41]:List UInt8).length=1:=rfl;omega) N)
 replace N:=N.nf
 refine go fun a J=>?_
 replace N:=N.dl [3,2]
 refine hQ _ _ _ (aM J results69 ?_)
 refine ⟨l0,rfl,trivial,?_⟩
 rw [<- wc_end W h];exact N
 have n:=congrArg ByteArray.size (j0f B C D p F H)
 have y:=xF e
 refine go fun a J=>?_
 replace N:=N.ar [] [3,3,3]
 refine st J rfl rfl rfl (oJ J rfl rfl call121 (z9g (t:=t) (op:=e.name) (fun x S _ _ _ _ _ _ _ _ r1 r2 r3 r4 r5=>ih x (Ex.lt_args S) ((z3c u).2.1 x S) r1 r2 r3 r4 r5) h2 L G (by omega) N) (fun m0 w s0 N a J=>?_))
 replace N:=N.nf
 refine go fun a J=>?_
 replace N:=N.dl [3,0]
 refine hQ _ _ _ (aM J results69 ?_)
 refine ⟨m0,rfl,trivial,?_⟩
 rw [<- j0f B C D p F H];exact N
theorem x8m {V:Fz} {K:List Res} {w:World} {d:List Value} {e:Ex} {b:Nat} {v:Value} {bp:Option Addr} {t:Bs} (a:wfE e=true) (re:REx V d e) (c:bp=none∨bp=some ⟨b,0,none⟩) (G:Tabs V) (hb:t.size+(vX e).length<=8796093022208) (N:Mem V (.blk b (ob [.pointer bp,v] 130)::.gs v 5 1 (Lib.strCells t)::K) w) :
  Calls prog 69 #[.pointer (some ⟨b,0,none⟩),.agg d.toArray] w (fun ee w'=>∃v2,ee=.returned (.tuple #[])/\True/\Mem V (.blk b (ob [.pointer (some ⟨b,0,none⟩),v2] 130)::.gs v2 5 1 (Lib.strCells (t++wB e))::K) w'):=by
 suffices H:∀n (e:Ex),e.sz < n->wfE e=true->∀{V:Fz} {K:List Res} {w:World} {d:List Value} {b:Nat} {v:Value} {bp:Option Addr} {t:Bs},REx V d e->(bp=none∨bp=some ⟨b,0,none⟩)->Tabs V->t.size+(vX e).length<=8796093022208->Mem V (.blk b (ob [.pointer bp,v] 130)::.gs v 5 1 (Lib.strCells t)::K) w ->
   Calls prog 69 #[.pointer (some ⟨b,0,none⟩),.agg d.toArray] w (fun ee w'=>∃v2,ee=.returned (.tuple #[])/\True/\Mem V (.blk b (ob [.pointer (some ⟨b,0,none⟩),v2] 130)::.gs v2 5 1 (Lib.strCells (t++wB e))::K) w') from H _ e (Nat.lt_succ_self _) a re c G hb N
 intro n
 induction n with
 | zero=>intro e h;omega
 | succ n g=>intro e h a V K w d b v bp t re c G hb N;exact j5a (fun x o f _ _ _ _ _ _ _ _ i j k l m=>g x (by omega) f i j k l m) a re c G hb N
def aB:List Bs->Bs
 | []=>⟨#[]⟩
 | x::l=>x++aB l
def z9u (c:Con):Bs:=mU ⟨#[32]⟩ (c.name::c.fields)
def dataB (d:Data):Bs:=((((⟨#[100,97,116,97,32]⟩:Bs)++d.name)++⟨#[32,61,32]⟩)++mU ⟨#[32,124,32]⟩ (d.cons.map z9u))++⟨#[10]⟩
def q4j (p:Param):Bs:=((((⟨#[105,110,112,117,116,32]⟩:Bs)++p.name)++⟨#[32,58,32]⟩)++p.type)++⟨#[10]⟩
def q4w (p:Param):Bs:=((((⟨#[32,40]⟩:Bs)++p.name)++⟨#[32,58,32]⟩)++p.type)++⟨#[41]⟩
def funB (f:Fun):Bs:=((((⟨#[102,117,110,32]⟩:Bs)++f.name)++aB (f.params.map q4w))++(((⟨#[32,58,32]⟩:Bs)++f.result)++⟨#[32,61,32]⟩))++(wB f.body++⟨#[10]⟩)
def outB (o:Bs):Bs:=((⟨#[111,117,116,112,117,116,32]⟩:Bs)++o)++⟨#[10]⟩
def gF (c:Core):Bs:=aB (c.datas.map dataB)++(aB (c.inputs.map q4j)++(aB (c.funs.map funB)++aB (c.outputs.map outB)))
def uO (c:Core):Bs×Int:=if qL c≠0 then (sNo,qL c) else if 60000 < (gF c).size then (sNo,2) else (gF c,0)
theorem y9r (x:Bs):x++(⟨#[]⟩:Bs)=x:=by apply ByteArray.ext;simp [ByteArray.data_append]
theorem z7j (a b c:Bs):(a++b)++c=a++(b++c):=ByteArray.append_assoc
theorem y2m {α:Type} {f:α->Bs} {l:List α} {i:Nat} {x:α} (h:l[i]? = some x):aB ((l.drop i).map f)=f x++aB ((l.drop (i+1)).map f):=by
 rw [zA h];rfl
theorem cat_end {α:Type} {f:α->Bs} {l:List α} {i:Nat} (h:¬i < l.length):aB ((l.drop i).map f)=⟨#[]⟩:=by
 rw [zE h];rfl
theorem z5l {α:Type} {f:α->Bs} {l:List α} {i:Nat} {x:α} {acc rest F:Bs} (a:l[i]? = some x) (h:acc++(aB ((l.drop i).map f)++rest)=F):(acc++f x)++(aB ((l.drop (i+1)).map f)++rest)=F:=by
 rw [<- h,y2m a];simp only [z7j]
theorem z0y {α:Type} {f:α->Bs} {l:List α} {i:Nat} {acc rest F:Bs} (a:¬i < l.length) (h:acc++(aB ((l.drop i).map f)++rest)=F):acc++rest=F:=by
 rw [<- h,cat_end a,z8f]
theorem z5k {α:Type} {f:α->Bs} {l:List α} {i:Nat} {x:α} {acc rest F:Bs} (a:l[i]? = some x) (h:acc++(aB ((l.drop i).map f)++rest)=F):acc.size+(f x).size<=F.size:=by
 rw [<- h,y2m a];simp only [zL];omega
theorem y9e {α β:Type} {f:α->β} {l:List α} {j:Nat} {x:α} (a:l[j]? = some x):(l.map f).take (j+1)=(l.map f).take j++[f x] :=
 xK (by rw [List.getElem?_map,a];rfl)
theorem q4n {α β:Type} {f:α->β} {l:List α} {j:Nat} (h:¬j < l.length):(l.map f).take j=l.map f:=y7h (by rw [List.length_map];exact h)
theorem j9s {l:List Fun} {i:Nat} {f:Fun} {acc rest F:Bs} (a:l[i]? = some f) (h:acc++(aB ((l.drop i).map funB)++rest)=F) :
  (acc++((⟨#[102,117,110,32]⟩:Bs)++f.name))++(aB ((f.params.drop 0).map q4w)++((((⟨#[32,58,32]⟩:Bs)++f.result)++⟨#[32,61,32]⟩)++((wB f.body++⟨#[10]⟩)++(aB ((l.drop (i+1)).map funB)++rest))))=F:=by
 rw [<- h,y2m a];simp only [funB,z7j,List.drop_zero]
theorem x4y {acc m w n R F:Bs} (h:acc++(m++((w++n)++R))=F):(((acc++m)++w)++n)++R=F:=by
 rw [<- h];simp only [z7j]
theorem q9c {c:Core} (h:¬qL c=0):uO c=(⟨#[]⟩,qL c):=by unfold uO;rw [if_pos h];rfl
theorem q9b {c:Core} (h:qL c=0) (hl:60000 < (gF c).size):uO c=(⟨#[]⟩,2):=by unfold uO;rw [if_neg (not_not_intro h),if_pos hl];rfl
theorem x0z {c:Core} (h:qL c=0) (hl:¬60000 < (gF c).size):uO c=(gF c,0):=by unfold uO;rw [if_neg (not_not_intro h),if_neg hl]
theorem z7w:∀(d f n:Nat),n < 10 ^ (d+1)->(gJ f n).length<=d+1
 | _,0,_,_=>by simp [gJ]
 | d,f+1,n,h=>by
  simp only [gJ]
  split
  ·simp
  ·rename_i a
   cases d with
   | zero=>omega
   | succ d=>
    have:=z7w d f (n / 10) (by rw [Nat.pow_succ] at h;omega)
    simp only [lcQ];omega
theorem j2s {t:Bs} {pos:Nat}:∀j,j < qA t pos->yN (zC t (pos+j))=true∨zC t (pos+j)=39:=by
 intro j a
 unfold qA at a
 split at a
 ·rename_i b
  split at a
  ·by_cases h1:j < yR yN t t.size pos
   ·exact .inl (oT _ _ _ _ _ h1).2
   ·by_cases h2:j=yR yN t t.size pos
    ·exact .inr (by rw [h2];exact b)
    ·have c:=(oT yD t t.size (pos+(yR yN t t.size pos+1)) (j - (yR yN t t.size pos+1)) (by omega)).2
     rw [show pos+(yR yN t t.size pos+1)+(j - (yR yN t t.size pos+1))=pos+j by omega] at c
     exact .inl (by simp [yN,c])
  ·exact .inl (oT _ _ _ _ _ a).2
 ·exact .inl (oT _ _ _ _ _ a).2
theorem q1s {t:Bs} {pos:Nat} {kd:Int} {k:Tok} (h:kP t pos kd=.ok k):(k.kind=5∨k.kind=kd)/\k.text=t.extract pos (pos+qA t pos):=by
 unfold kP at h
 split at h
 ·cases h
 ·simp only [Except.ok.injEq] at h
  subst h
  refine ⟨?_,rfl⟩
  simp only
  split
  ·exact .inl rfl
  ·exact .inr rfl
theorem q9z {t:Bs} {pos:Nat} {k:Tok} (h:zY t pos=.ok k) (a:k.kind=2∨k.kind=3):((k.kind=2/\qK (zC t pos)=true)∨(k.kind=3/\qT (zC t pos)=true))/\k.text=t.extract pos (pos+qA t pos):=by
 unfold zY at h
 split at h
 ·unfold z1o at h
  split at h
  ·cases h
  ·split at h
   ·cases h
   ·simp only [Except.ok.injEq] at h;subst h;simp only at a;omega
 split at h
 ·rename_i O
  obtain ⟨h1,h2⟩:=q1s h
  exact ⟨.inl ⟨by omega,O⟩,h2⟩
 split at h
 ·rename_i O
  obtain ⟨h1,h2⟩:=q1s h
  exact ⟨.inr ⟨by omega,O⟩,h2⟩
 split at h
 ·obtain ⟨_,rfl⟩:=tJ h;simp only at a;omega
 split at h
 ·obtain ⟨_,rfl⟩:=tJ h;simp only at a;omega
 split at h
 ·obtain ⟨_,rfl⟩:=tJ h;simp only at a;omega
 ·cases h
theorem j9v {s:Bs} {κ:Int} (d:wR s=κ) (h:κ=2∨κ=3):0 < s.size/\((κ=2/\qK (zC s 0)=true)∨(κ=3/\qT (zC s 0)=true))/\∀j,j < s.size->yN (zC s j)=true∨zC s j=39:=by
 unfold wR at d
 split at d
 ·omega
 split at d
 ·rename_i k c
  split at d
  ·rename_i e
   unfold nR at c
   rw [gM] at c
   split at c
   ·cases c
   rename_i q hq
   split at c
   ·rename_i f
    split at c
    ·cases c
    rename_i k' hk'
    split at c
    ·cases c
    simp only [Except.ok.injEq,List.cons.injEq] at c
    obtain ⟨rfl,_⟩:=c
    obtain ⟨h1,h2⟩:=q9z hk' (by omega)
    have g:(s.extract q (q+qA s q)).size=s.size:=by rw [<- h2,e]
    rw [ByteArray.size_extract] at g
    have i:q=0:=by omega
    subst i
    refine ⟨f,?_,fun j l=>?_⟩
    ·rcases h1 with ⟨a,b⟩ | ⟨a,b⟩
     ·exact .inl ⟨by omega,b⟩
     ·exact .inr ⟨by omega,b⟩
    ·have:=j2s (t:=s) (pos:=0) j (by omega)
     rwa [Nat.zero_add] at this
   ·cases c
  ·omega
 ·omega
theorem q7q {s:Bs} (h:wR s=2∨wR s=3):0 < s.size/\((wR s=2/\qK (zC s 0)=true)∨(wR s=3/\qT (zC s 0)=true))/\∀j,j < s.size->yN (zC s j)=true∨zC s j=39:=j9v rfl h
theorem x0m {s:Bs} (h:yT s=true):wR s=2:=by simpa [yT] using h
theorem x2v {s:Bs} (h:yO s=true):wR s=3:=by simpa [yO] using h
theorem x0c (n:Int):∃b r,z0n n=b::r/\(b=45∨(48<=b.toNat/\b.toNat<=57)):=by
 unfold z0n
 split
 ·exact ⟨_,_,rfl,.inl rfl⟩
 ·have h:∀u,vP u=Lib.decDigits u:=fun u=>z2n (u+1) u (Nat.lt_succ_self _)
  rw [h]
  have:∀f u,u < f->∃b r,Lib.decDigits u=b::r/\(48<=b.toNat/\b.toNat<=57):=by
   intro f
   induction f with
   | zero=>intro u c;omega
   | succ f d=>
    intro u c
    rw [Lib.decDigits]
    by_cases a:u < 10
    ·rw [dif_pos a]
     refine ⟨_,_,rfl,?_⟩
     simp [Nat.toUInt8,UInt8.toNat_ofNat'];omega
    ·rw [dif_neg a]
     obtain ⟨b,r,e,hb⟩:=d (u / 10) (by omega)
     exact ⟨b,r++_,by rw [e];rfl,hb⟩
  obtain ⟨b,r,e,hb⟩:=this (n.toNat+1) n.toNat (Nat.lt_succ_self _)
  exact ⟨b,r,e,.inr hb⟩
theorem y3w:∀(f n:Nat),∀b∈gJ f n,48<=b.toNat/\b.toNat<=57
 | 0,_,_,h=>by cases h
 | f+1,n,b,h=>by
  simp only [gJ] at h
  split at h
  ·simp only [List.mem_singleton] at h;subst h;simp [Nat.toUInt8,UInt8.toNat_ofNat'];omega
  ·rcases List.mem_cons.1 h with rfl | h
   ·simp [Nat.toUInt8,UInt8.toNat_ofNat'];omega
   ·exact y3w f _ b h
theorem q9a {s:Bs} (h:kS (s.extract 0 s.size) ⟨#[40,42]⟩=true):zC s 0=40:=by
 simp only [kS,baQ,decide_eq_true_eq] at h
 obtain ⟨h1,h2⟩:=h
 have h1:2<=s.size:=by
  have c:(⟨#[40,42]⟩:Bs).size=2:=rfl
  rw [ByteArray.size_extract] at h1;omega
 have a:=congrArg (fun b:Bs=>zC b 0) h2
 have d:zC (⟨#[40,42]⟩:Bs) 0=40:=by decide
 rw [d] at a
 rw [<- a]
 rw [pI (by omega),pI (by rw [ByteArray.size_extract,ByteArray.size_extract];have c:(⟨#[40,42]⟩:Bs).size=2:=rfl;omega)]
 simp [ByteArray.getElem_extract]
theorem q8w {s:Bs} (hb:xM (zC s 0)=false) (a:zC s 0≠40):aY s 0=.ok 0:=by
 have hr:yR xM s s.size 0=0:=by rw [xP,if_neg (by simp [hb])]
 unfold aY
 rw [z1q,hr,if_neg (fun h=>a (q9a h))]
theorem x6i (s:Bs):∃q,aY s s.size=.ok q/\s.size<=q:=by
 have hr:yR xM s s.size s.size=0:=by rw [xP,if_neg (by omega)]
 refine ⟨s.size,?_,Nat.le_refl _⟩
 unfold aY
 rw [z1q,hr,if_neg]
 ·rfl
 ·intro h
  have:=jM h
  have a:(⟨#[40,42]⟩:Bs).size=2:=rfl
  omega
theorem q9v {c:Nat} (h:qK c=true∨qT c=true):xM c=false/\c≠40/\yD c=false/\c≠126:=by
 simp only [qK,qT,baQ,decide_eq_true_eq] at h
 refine ⟨?_,by omega,?_,by omega⟩
 ·simp only [xM,Bool.or_eq_false_iff,decide_eq_false_iff_not];omega
 ·simp only [yD,Bool.and_eq_false_iff,decide_eq_false_iff_not];omega
def y5g (c:Nat):Int:=if qK c then 2 else 3
theorem q5i {s:Bs} (h:qK (zC s 0)=true∨qT (zC s 0)=true):zY s 0=kP s 0 (y5g (zC s 0)):=by
 obtain ⟨_,_,a,b⟩:=q9v h
 unfold zY y5g
 rw [if_neg (by simp [a,b])]
 by_cases O:qK (zC s 0)=true
 ·rw [if_pos O,if_pos O]
 ·rw [if_neg O,if_neg O,if_pos (h.resolve_left O)]
theorem gU {s:Bs} (d:s.size<=24) (b:0 < s.size) (h:qK (zC s 0)=true∨qT (zC s 0)=true) :
  wR s=if qA s 0=s.size then (if z1g s then 5 else y5g (zC s 0)) else 0:=by
 have hl:=y5o s 0 (by omega)
 obtain ⟨h1,h2,_,_⟩:=q9v h
 have g:kP s 0 (y5g (zC s 0))=.ok ⟨if z1g (s.extract 0 (0+qA s 0)) then 5 else y5g (zC s 0),0,s.extract 0 (0+qA s 0),0⟩:=by
  unfold kP;rw [if_neg (by omega)]
 unfold wR
 rw [if_neg (by omega)]
 unfold nR
 rw [gM,q8w h1 h2]
 simp only [if_pos b,q5i h,g]
 by_cases O:qA s 0=s.size
 ·have i:s.extract 0 (0+qA s 0)=s:=by rw [O,Nat.zero_add];simp
  rw [i,if_pos O]
  obtain ⟨q,hq,f⟩:=x6i s
  have:gM s s.size (0+s.size)=.ok []:=by
   rw [Nat.zero_add,show s.size=(s.size - 1)+1 by omega,gM,show s.size - 1+1=s.size by omega,hq]
   simp only [if_neg (show ¬q < s.size by omega)]
  rw [this]
  simp
 ·rw [if_neg O]
  have a:s.extract 0 (0+qA s 0)≠s:=fun e=>by
   have:=congrArg ByteArray.size e
   rw [ByteArray.size_extract] at this;omega
  cases gM s s.size (0+(s.extract 0 (0+qA s 0)).size) with
  | error c=>rfl
  | ok l=>
   cases l with
   | nil=>simp only [if_neg a]
   | cons k l=>rfl
theorem y6d {c:Nat} (h:qK c=true∨qT c=true):yN c=true:=by
 unfold yN;rcases h with h | h <;> simp [h]
theorem j0i {s:Bs} (a:0 < s.size) (h:qK (zC s 0)=true∨qT (zC s 0)=true):yR yN s s.size 0=xG s:=by
 rw [xP,if_pos ⟨a,y6d h⟩];unfold xG;rw [Nat.zero_add];omega
theorem q4q {s:Bs} (b:0 < s.size) (h:qK (zC s 0)=true∨qT (zC s 0)=true) :
  qA s 0=s.size↔(xG s=s.size∨(zC s (xG s)=39/\xG s+1≠s.size/\xG s+1+yR yD s s.size (xG s+1)=s.size)):=by
 unfold qA
 rw [j0i b h,Nat.zero_add,Nat.zero_add]
 by_cases a:zC s (xG s)=39
 ·rw [if_pos a]
  have c:=sY (t:=s) (i:=xG s) (by omega)
  have hr:=kU yD s s.size (xG s+1) (by omega)
  split <;> omega
 ·rw [if_neg a];omega
theorem q2u {s:Bs} {lo e:Nat} (h:∀c,lo<=c->c<=e->qK c=true∨qT c=true) :
  tS s lo e=true↔(0 < s.size/\s.size<=24/\lo<=zC s 0/\zC s 0<=e/\qA s 0=s.size):=by
 unfold tS
 by_cases f:s.size < 1∨24 < s.size∨zC s 0 < lo∨e < zC s 0
 ·rw [if_pos f]
  refine ⟨fun g=>(by cases g),fun ⟨a,b,c,d,_⟩=>?_⟩
  omega
 ·rw [if_neg f]
  have hb:=h (zC s 0) (by omega) (by omega)
  rw [q4q (by omega) hb]
  by_cases h1:xG s=s.size
  ·rw [if_pos h1]
   exact ⟨fun _=>⟨by omega,by omega,by omega,by omega,.inl h1⟩,fun _=>rfl⟩
  ·rw [if_neg h1]
   by_cases h2:zC s (xG s)≠39∨xG s+1=s.size
   ·rw [if_pos h2]
    refine ⟨fun g=>(by cases g),fun ⟨_,_,_,_,g⟩=>?_⟩
    rcases g with g | ⟨g1,i,_⟩
    ·exact absurd g h1
    ·rcases h2 with h2 | h2
     ·exact absurd g1 h2
     ·exact absurd h2 i
   ·rw [if_neg h2,decide_eq_true_eq]
    simp only [not_or,Decidable.not_not] at h2
    exact ⟨fun g=>⟨by omega,by omega,by omega,by omega,.inr ⟨h2.1,h2.2,g⟩⟩,fun ⟨_,_,_,_,g⟩=>by rcases g with g | ⟨_,_,g⟩;exact absurd g h1;exact g⟩
theorem y5d (s:Bs):z1g s=gS wordsL s:=by
 unfold z1g wordsM
 have:∀l:List Bs,(yV (l.map (fun s=>(s,Value.int .i64 5))) s).isSome=gS l s:=by
  intro l
  induction l with
  | nil=>rfl
  | cons x l c=>
   simp only [List.map_cons,yV,z8j]
   by_cases a:s=x
   ·rw [if_pos a];simp [a]
   ·rw [if_neg a,c];have b:¬x=s:=fun e=>a e.symm
    simp [b]
 exact this wordsL
theorem q7z {s:Bs} (h:wR s=2∨wR s=3):s.size<=24:=by
 unfold wR at h
 by_cases a:24 < s.size
 ·rw [if_pos a] at h;omega
 ·omega
theorem kQ (s:Bs):xT s=yT s:=by
 apply Bool.eq_iff_iff.2
 unfold xT
 rw [baQ,q2u (fun c h1 h2=>.inl (by simp [qK,h1,h2])),<- y5d]
 constructor
 ·rintro ⟨⟨h1,h2,d,e,f⟩,g⟩
  have O:qK (zC s 0)=true:=by simp [qK,d,e]
  simp only [yT,decide_eq_true_eq]
  rw [gU h2 h1 (.inl O),if_pos f,if_neg (by simpa using g),y5g,if_pos O]
 ·intro h
  have a:=x0m h
  obtain ⟨h1,h2,_⟩:=q7q (.inl a)
  have b:=q7z (.inl a)
  have O:qK (zC s 0)=true:=by
   rcases h2 with ⟨_,h2⟩ | ⟨h2,_⟩
   ·exact h2
   ·omega
  rw [gU b h1 (.inl O)] at a
  have hs':=O
  simp only [qK,baQ,decide_eq_true_eq] at hs'
  split at a
  ·rename_i hl
   refine ⟨⟨h1,b,hs'.1,hs'.2,hl⟩,?_⟩
   split at a
   ·cases a
   ·rename_i i;simpa using i
  ·cases a
theorem j4u {s:Bs} (h:z1g s=true):qK (zC s 0)=true:=by
 rw [y5d] at h
 have:=(z5y (l:=wordsL)).1 h
 simp only [wordsL,List.mem_cons,List.not_mem_nil,or_false] at this
 rcases this with rfl | rfl | rfl | rfl | rfl | rfl | rfl | rfl | rfl | rfl | rfl | rfl | rfl | rfl | rfl <;> decide
theorem mJ (s:Bs):nV s=yO s:=by
 apply Bool.eq_iff_iff.2
 unfold nV
 rw [q2u (fun c h1 h2=>.inr (by simp [qT,h1,h2]))]
 have d:∀c,qT c=true->qK c=false:=fun c h=>by
  simp only [qT,baQ,decide_eq_true_eq] at h
  simp only [qK,Bool.and_eq_false_iff,decide_eq_false_iff_not];omega
 constructor
 ·rintro ⟨h1,h2,e,f,i⟩
  have O:qT (zC s 0)=true:=by simp [qT,e,f]
  simp only [yO,decide_eq_true_eq]
  rw [gU h2 h1 (.inr O),if_pos i,if_neg (fun g=>by have:=j4u g;rw [d _ O] at this;cases this),y5g,if_neg (by rw [d _ O];decide)]
 ·intro h
  have b:=x2v h
  obtain ⟨h1,h2,_⟩:=q7q (.inr b)
  have a:=q7z (.inr b)
  have O:qT (zC s 0)=true:=by
   rcases h2 with ⟨h2,_⟩ | ⟨_,h2⟩
   ·omega
   ·exact h2
  rw [gU a h1 (.inr O)] at b
  have hs':=O
  simp only [qT,baQ,decide_eq_true_eq] at hs'
  split at b
  ·rename_i hl;exact ⟨h1,a,hs'.1,hs'.2,hl⟩
  ·cases b
mutual
theorem z8s:∀(e:Ex) (most:Nat),(jZ e most<=most->jJ e (most:Int)=(false,(most:Int) - (jZ e most:Int)))/\(¬jZ e most<=most->(jJ e (most:Int)).1=true)
 | .mk k nm s args arms,most=>by
  simp only [jZ,jJ]
  by_cases d:most=0
  ·subst d
   rw [z1x (by omega),sL (by omega)]
   exact ⟨fun h=>by omega,fun _=>by rw [if_pos (by omega)]⟩
  ·rw [if_neg (by omega)]
   have h1:=meass_size args most 1 (by omega)
   have h2:=sizeRs_le args most 1 (by omega) (by omega)
   rw [show ((most:Int) - 1)=(most:Int) - ((1:Nat):Int) by omega]
   by_cases O:sizeRs args most 1<=most
   ·rw [h1.1 O]
    exact measa_size arms most _ O
   ·rw [sL O]
    refine ⟨fun g=>absurd g O,fun _=>?_⟩
    have:=h1.2 O
    cases N:meass args ((most:Int) - ((1:Nat):Int)) with
    | mk b q=>rw [N] at this;simp only at this;subst this;rfl
theorem meass_size:∀(es:List Ex) (most n:Nat),n<=most->(sizeRs es most n<=most->meass es ((most:Int) - (n:Int))=(false,(most:Int) - (sizeRs es most n:Int)))/\(¬sizeRs es most n<=most->(meass es ((most:Int) - (n:Int))).1=true)
 | [],most,n,h=>⟨fun _=>rfl,fun g=>absurd h g⟩
 | e::es,most,n,h=>by
  simp only [sizeRs,meass,if_pos h]
  have h1:=z8s e (most - n)
  have hl:=mG e (most - n)
  rw [show ((most:Int) - (n:Int))=((most - n:Nat):Int) by omega]
  by_cases O:jZ e (most - n)<=most - n
  ·rw [h1.1 O]
   have h2:=meass_size es most (n+jZ e (most - n)) (by omega)
   rw [show ((most:Int) - ((n+jZ e (most - n):Nat):Int))=((most - n:Nat):Int) - (jZ e (most - n):Int) by omega] at h2
   exact h2
  ·rw [z1x (by omega)]
   refine ⟨fun g=>by omega,fun _=>?_⟩
   have:=h1.2 O
   cases N:jJ e ((most - n:Nat):Int) with
   | mk b q=>rw [N] at this;simp only at this;subst this;rfl
theorem measa_size:∀(es:List Arm) (most n:Nat),n<=most->(sizeAr es most n<=most->measa es ((most:Int) - (n:Int))=(false,(most:Int) - (sizeAr es most n:Int)))/\(¬sizeAr es most n<=most->(measa es ((most:Int) - (n:Int))).1=true)
 | [],most,n,h=>⟨fun _=>rfl,fun g=>absurd h g⟩
 | .mk c vs e::es,most,n,h=>by
  simp only [sizeAr,measa,if_pos h]
  by_cases a:16 < vs.length
  ·rw [if_pos a,if_pos a]
   exact ⟨fun g=>by omega,fun _=>rfl⟩
  rw [if_neg a,if_neg a]
  have h1:=z8s e (most - n)
  have hl:=mG e (most - n)
  rw [show ((most:Int) - (n:Int))=((most - n:Nat):Int) by omega]
  by_cases O:jZ e (most - n)<=most - n
  ·rw [h1.1 O]
   have h2:=measa_size es most (n+jZ e (most - n)) (by omega)
   rw [show ((most:Int) - ((n+jZ e (most - n):Nat):Int))=((most - n:Nat):Int) - (jZ e (most - n):Int) by omega] at h2
   exact h2
  ·rw [sL (by omega)]
   refine ⟨fun g=>by omega,fun _=>?_⟩
   have:=h1.2 O
   cases N:jJ e ((most - n:Nat):Int) with
   | mk b q=>rw [N] at this;simp only at this;subst this;rfl
end
theorem y0b:∀(fs:List Fun) (n:Nat),6000 < n->gB fs n=true
 | [],n,h=>by simpa [gB] using h
 | f::fs,n,h=>by
  simp only [gB,if_neg (show ¬n<=6000 by omega)]
  split
  ·rfl
  ·exact y0b fs n h
theorem q8g:∀(fs:List Fun) (n:Nat),n<=6000->gL fs ((6000:Int) - (n:Int))=gB fs n
 | [],n,h=>by simp only [gL,gB];exact (decide_eq_false (by omega)).symm
 | f::fs,n,h=>by
  simp only [gL,gB,if_pos h]
  have h1:=z8s f.body (6000 - n)
  have hl:=mG f.body (6000 - n)
  rw [show ((6000:Int) - (n:Int))=((6000 - n:Nat):Int) by omega]
  by_cases a:16 < f.params.length
  ·rw [if_pos a];simp [a]
  ·rw [if_neg a]
   by_cases O:jZ f.body (6000 - n)<=6000 - n
   ·rw [h1.1 O]
    have h2:=q8g fs (n+jZ f.body (6000 - n)) (by omega)
    rw [show ((6000:Int) - ((n+jZ f.body (6000 - n):Nat):Int))=((6000 - n:Nat):Int) - (jZ f.body (6000 - n):Int) by omega] at h2
    rw [h2];simp [a]
   ·rw [y0b fs _ (by omega),h1.2 O];simp
theorem q8d (c:Core):sI c=kO c:=by
 unfold sI kO
 have:=q8g c.funs 0 (by omega)
 rw [<- this];rfl
theorem z9z {α:Type}:∀(a b:List (Bs×α)) (n:Bs),zW (a++b) n=match zW a n with | some v=>some v | none=>zW b n
 | [],b,n=>rfl
 | (k,x)::a,b,n=>by
  simp only [List.cons_append,zW]
  by_cases h:n=k
  ·rw [if_pos h,if_pos h]
  ·rw [if_neg h,if_neg h];exact z9z a b n
theorem z3y:∀(l:List Data) (n:Bs),zW (pS Data.name id l) n=wA l n
 | [],n=>rfl
 | d::l,n=>by
  simp only [pS,List.map_cons,zW,wA]
  by_cases h:n=d.name
  ·rw [if_pos h,if_pos h.symm];rfl
  ·rw [if_neg h,if_neg (fun e=>h e.symm)];exact z3y l n
theorem z3z (ds:List Data) (n:Bs):zW (pS Data.name id (truthsD::ds)) n=qV ds n:=by
 have h:truthsD.name=wG:=rfl
 rw [z3y,wA,qV,h]
 by_cases a:n=wG
 ·rw [if_pos a.symm,if_pos a]
 ·rw [if_neg (fun e=>a e.symm),if_neg a]
theorem q0c {β:Type} (f:Con->β):∀(l:List Con) (n:Bs),zW (pS Con.name f l) n=(sC l n).map f
 | [],n=>rfl
 | x::l,n=>by
  simp only [pS,List.map_cons,zW,sC]
  by_cases h:n=x.name
  ·rw [if_pos h,if_pos h.symm];rfl
  ·rw [if_neg h,if_neg (fun e=>h e.symm)];exact q0c f l n
theorem y0c:∀(l:List Data) (n:Bs),zW (q0d l) n=mM l n
 | [],n=>rfl
 | d::l,n=>by
  simp only [q0d,List.map_cons,List.flatten_cons,mM]
  rw [z9z,q0c]
  cases sC d.cons n with
  | some x=>rfl
  | none=>exact y0c l n
theorem q7s:∀(l:List Param) (n:Bs),zW (pS Param.name Param.type l) n=z8k l n
 | [],n=>rfl
 | d::l,n=>by
  simp only [pS,List.map_cons,zW,z8k]
  by_cases h:n=d.name
  ·rw [if_pos h,if_pos h.symm]
  ·rw [if_neg h,if_neg (fun e=>h e.symm)];exact q7s l n
theorem q0x:∀(l:List Fun) (n:Bs) (k:Nat),(match z0m l n k with | some j=>k<=j/\l[j - k]? = zW (pS Fun.name id l) n/\j - k < l.length | none=>zW (pS Fun.name id l) n=none)
 | [],n,k=>rfl
 | f::l,n,k=>by
  simp only [pS,List.map_cons,zW,z0m]
  by_cases h:n=f.name
  ·rw [if_pos h,if_pos h.symm]
   simp
  ·rw [if_neg h,if_neg (fun e=>h e.symm)]
   have a:=q0x l n (k+1)
   cases b:z0m l n (k+1) with
   | none=>rw [b] at a;exact a
   | some j=>
    rw [b] at a
    simp only at a ⊢
    obtain ⟨h1,h2,c⟩:=a
    refine ⟨by omega,?_,by simp only [lcQ];omega⟩
    rw [show j - k=(j - (k+1))+1 by omega,List.getElem?_cons_succ];exact h2
theorem j9r (l:List Fun) (n:Bs):(match gK l n with | some j=>l[j]? | none=>none)=zW (pS Fun.name id l) n:=by
 have:=q0x l n 0
 unfold gK
 cases a:z0m l n 0 with
 | none=>rw [a] at this;exact this.symm
 | some j=>rw [a] at this;exact this.2.1
theorem j7l (dn:Bs):∀{l:List Con} {m:List (Bs×Maker)},(∀x∈l,yO x.name=true/\zW m x.name=none)->(l.map Con.name).Nodup->(xQ dn true m l).1=true
 | [],m,_,_=>rfl
 | x::l,m,h,a=>by
  have b:=h x msQ
  simp only [xQ,b.1,Bool.and_self,if_true,b.2,Option.isNone_none,nN b.2]
  simp only [List.map_cons,List.nodup_cons] at a
  refine j7l dn (fun y c=>⟨(h y (mcQ _ c)).1,?_⟩) a.2
  rw [oO (h y (mcQ _ c)).2]
  exact lget_single.2 (fun e=>a.1 (by rw [<- e];exact List.mem_map_of_mem c))
theorem j7o:∀{l:List Param} {m:List (Bs×Bs)},(∀f∈l,yT f.name=true/\zW m f.name=none)->(l.map Param.name).Nodup->(uY true m l).1=true
 | [],m,_,_=>rfl
 | x::l,m,h,a=>by
  have b:=h x msQ
  simp only [uY,b.1,Bool.and_self,if_true,b.2,Option.isNone_none,nN b.2]
  simp only [List.map_cons,List.nodup_cons] at a
  refine j7o (fun y c=>⟨(h y (mcQ _ c)).1,?_⟩) a.2
  rw [oO (h y (mcQ _ c)).2]
  exact lget_single.2 (fun e=>a.1 (by rw [<- e];exact List.mem_map_of_mem c))
theorem j9e {β α:Type} {key:β->Bs} {val:β->α} {l:List β} {n:Bs} (h:n∉l.map key):zW (pS key val l) n=none:=by
 cases a:zW (pS key val l) n with
 | none=>rfl
 | some v=>obtain ⟨x,b,e,_⟩:=tB a;exact absurd (e▸List.mem_map_of_mem b) h
theorem j7m:∀{l:List Data} {ds:List (Bs×Data)} {m:List (Bs×Maker)},
  (∀d∈l,yO d.name=true/\d.name≠yL/\zW ds d.name=none/\0 < d.cons.length/\∀x∈d.cons,yO x.name=true/\zW m x.name=none)->(l.map Data.name).Nodup ->
  ((l.map fun d=>d.cons.map Con.name).flatten).Nodup->(uW true ds m l).1=true
 | [],ds,m,_,_,_=>rfl
 | d::l,ds,m,h,a,j=>by
  obtain ⟨h1,h2,g,o,p⟩:=h d msQ
  simp only [List.map_cons,List.nodup_cons] at a
  simp only [List.map_cons,List.flatten_cons] at j
  have hc':=jH j
  have b:nQ true ds d=true:=by simp [nQ,h1,h2,g,o]
  have q:pL true ds d=ds++[(d.name,d)]:=by
   unfold pL
   rw [if_pos (by simp [h1,h2])]
   exact nN g
  simp only [uW,b,q]
  have i:=j7l d.name p hc'.1
  obtain ⟨_,n,_,_⟩:=z2a d.name i
  rw [i,n]
  refine j7m (fun e J=>?_) a.2 hc'.2.1
  obtain ⟨r,s,t,u,k⟩:=h e (mcQ _ J)
  refine ⟨r,s,?_,u,fun x c=>⟨(k x c).1,?_⟩⟩
  ·rw [oO t]
   exact lget_single.2 (fun e'=>a.1 (by rw [<- e'];exact List.mem_map_of_mem J))
  ·rw [oO (k x c).2]
   refine j9e (fun N=>hc'.2.2 _ N ?_)
   exact List.mem_flatten.2 ⟨_,List.mem_map_of_mem (f:=fun d:Data=>d.cons.map Con.name) J,List.mem_map_of_mem c⟩
structure Tabled (c:Core):Prop where
 dN:∀d∈c.datas,yO d.name=true/\d.name≠yL/\d.name≠wG/\0 < d.cons.length/\∀x∈d.cons,yO x.name=true/\x.name≠z8w/\x.name≠q2f
 dU:(c.datas.map Data.name).Nodup
 cU:((c.datas.map fun d=>d.cons.map Con.name).flatten).Nodup
 fN:∀f∈c.funs,yT f.name=true
 fU:(c.funs.map Fun.name).Nodup
 iN:∀p∈c.inputs,yT p.name=true
 iU:(c.inputs.map Param.name).Nodup
theorem z0b:truthsD.cons.map Con.name=[z8w,q2f]:=rfl
theorem z8y {c:Core} (h:Tabled c):pA c=true:=by
 unfold pA isP
 have a:(dsP c).1=true:=by
  unfold dsP
  refine j7m (fun d a=>?_) ?_ ?_
  ·rcases List.mem_cons.1 a with rfl | a
   ·refine ⟨by decide,by decide,rfl,by decide,fun x g=>⟨?_,rfl⟩⟩
    simp only [truthsD,List.mem_cons,List.not_mem_nil,or_false] at g
    rcases g with rfl | rfl <;> decide
   ·obtain ⟨h1,h2,r,k,l⟩:=h.dN d a
    exact ⟨h1,h2,rfl,k,fun x g=>⟨(l x g).1,rfl⟩⟩
  ·simp only [List.map_cons,List.nodup_cons]
   refine ⟨fun N=>?_,h.dU⟩
   obtain ⟨d,a,e⟩:=List.mem_map.1 N
   exact (h.dN d a).2.2.1 e
  ·simp only [List.map_cons,List.flatten_cons]
   rw [List.nodup_append]
   refine ⟨by rw [z0b];decide,h.cU,fun n b m N e=>?_⟩
   subst e
   obtain ⟨ns,j,g⟩:=List.mem_flatten.1 N
   obtain ⟨d,a,rfl⟩:=List.mem_map.1 j
   obtain ⟨y,q,rfl⟩:=List.mem_map.1 g
   have:=((h.dN d a).2.2.2.2 y q).2
   rw [z0b] at b
   simp only [List.mem_cons,List.not_mem_nil,or_false] at b
   rcases b with b | b
   ·exact this.1 b
   ·exact this.2 b
 have i:(fsP c).1=true:=by unfold fsP;rw [a];exact j7n (fun f i=>⟨h.fN f i,rfl⟩) h.fU
 rw [i]
 exact j7o (fun p o=>⟨h.iN p o,rfl⟩) h.iU
theorem q9x:∀{l:List Data} {ok:Bool} {ds:List (Bs×Data)} {m:List (Bs×Maker)},(uW ok ds m l).1=true->∀d∈l,0 < d.cons.length
 | [],_,_,_,_,_,a=>by cases a
 | e::l,ok,ds,m,h,d,a=>by
  simp only [uW] at h
  rcases List.mem_cons.1 a with rfl | a
  ·have g1:=(z2a _ (y7f h).1).1
   simp only [nQ,baQ,decide_eq_true_eq] at g1
   exact g1.2
  ·exact q9x h d a
theorem uZ {c:Core} (h:pA c=true):Tabled c/\(zN c).datas=pS Data.name id (truthsD::c.datas)/\(zN c).cons=q0d (truthsD::c.datas)/\(zN c).funs=pS Fun.name id c.funs/\(zN c).inputs=pS Param.name Param.type c.inputs:=by
 obtain ⟨s,i2,i3,i4⟩:=z6z (show (uY (fsP c).1 [] c.inputs).1=true from h)
 obtain ⟨l,m,n,o⟩:=z6y (show (uX (dsP c).1 [] c.funs).1=true from s)
 have k:=(show (uW true [] [] (truthsD::c.datas)).1=true from l)
 obtain ⟨_,d2,d3,d4,i,j⟩:=y7f k
 have a:=q9x k
 simp only [List.map_cons,List.nodup_cons] at i
 simp only [List.map_cons,List.flatten_cons] at j
 have d6':=jH j
 refine ⟨{ dN:=fun d b=>?_,dU:=i.2,cU:=d6'.2.1,fN:=fun f q=>(n f q).1,fU:=o,iN:=fun p r=>(i3 p r).1,iU:=i4 },d2,d3,m,i2⟩
 obtain ⟨t,u,_,_,v⟩:=d4 d (mcQ _ b)
 have g:∀x∈d.cons,x.name∉[z8w,q2f]:=fun x g N=>d6'.2.2 x.name (by rw [z0b];exact N)
  (List.mem_flatten.2 ⟨_,List.mem_map_of_mem (f:=fun d:Data=>d.cons.map Con.name) b,List.mem_map_of_mem g⟩)
 refine ⟨t,u,fun e=>i.1 (by rw [show truthsD.name=d.name from e.symm];exact List.mem_map_of_mem b),a d (mcQ _ b),fun x N=>⟨(v x N).1,fun e=>?_,fun e=>?_⟩⟩
 ·exact g x N (by rw [e];simp)
 ·exact g x N (by rw [e];simp)
theorem q0e (ds:List Data):∀{l:List Con} {seen:List Bs},z0l ds l seen=true↔(∀x∈l,yO x.name=true/\x.name∉seen/\x.fields.all (jP ds)=true)/\(l.map Con.name).Nodup
 | [],seen=>by simp [z0l]
 | x::l,seen=>by
  simp only [z0l,baQ,q0e ds (l:=l),mJ,Bool.not_eq_true',List.map_cons,List.nodup_cons,List.mem_cons]
  have O:gS seen x.name=false↔x.name∉seen:=by rw [<- z5y (l:=seen)];simp
  rw [O]
  constructor
  ·rintro ⟨⟨⟨h1,h2⟩,f⟩,h,i⟩
   refine ⟨fun y d=>?_,fun N=>?_,i⟩
   ·rcases d with rfl | d
    ·exact ⟨h1,h2,f⟩
    ·obtain ⟨a,b,c⟩:=h y d
     exact ⟨a,fun g=>b (by simp [g]),c⟩
   ·obtain ⟨y,d,e⟩:=List.mem_map.1 N
    exact (h y d).2.1 (by simp [e])
  ·rintro ⟨h1,h2,f⟩
   obtain ⟨a,b,c⟩:=h1 x (.inl rfl)
   refine ⟨⟨⟨a,b⟩,c⟩,fun y d=>?_,f⟩
   obtain ⟨a',b',c'⟩:=h1 y (.inr d)
   refine ⟨a',fun g=>?_,c'⟩
   rcases List.mem_append.1 g with g | g
   ·exact b' g
   ·simp only [List.mem_cons,List.not_mem_nil,or_false] at g
    exact h2 (by rw [<- g];exact List.mem_map_of_mem d)
theorem z4a (ds:List Data):∀{l:List Data} {names cons:List Bs},cH ds l names cons=true ↔
  (∀d∈l,yO d.name=true/\d.name∉names/\0 < d.cons.length/\∀x∈d.cons,yO x.name=true/\x.name∉cons/\x.fields.all (jP ds)=true)/\(l.map Data.name).Nodup/\((l.map fun d=>d.cons.map Con.name).flatten).Nodup
 | [],names,cons=>by simp [cH]
 | d::l,names,cons=>by
  simp only [cH,baQ,z4a ds (l:=l),q0e,mJ,Bool.not_eq_true',List.map_cons,List.nodup_cons,List.mem_cons,List.flatten_cons,decide_eq_true_eq]
  have O:gS names d.name=false↔d.name∉names:=by rw [<- z5y (l:=names)];simp
  rw [O,List.nodup_append]
  constructor
  ·rintro ⟨⟨⟨⟨h1,h2⟩,q⟩,j,o⟩,i,r,s⟩
   refine ⟨fun e J=>?_,⟨fun N=>?_,r⟩,o,s,fun n t m N e=>?_⟩
   ·rcases J with rfl | J
    ·exact ⟨h1,h2,by omega,j⟩
    ·obtain ⟨a,b,c,k⟩:=i e J
     exact ⟨a,fun g=>b (by simp [g]),c,fun x h=>⟨(k x h).1,fun g=>(k x h).2.1 (by simp [g]),(k x h).2.2⟩⟩
   ·obtain ⟨e,J,ee⟩:=List.mem_map.1 N
    exact (i e J).2.1 (by simp [ee])
   ·subst e
    obtain ⟨ns,p,h⟩:=List.mem_flatten.1 N
    obtain ⟨e,J,rfl⟩:=List.mem_map.1 p
    obtain ⟨y,u,rfl⟩:=List.mem_map.1 h
    exact ((i e J).2.2.2 y u).2.1 (List.mem_append.2 (.inr t))
  ·rintro ⟨h1,⟨h2,q⟩,j,o,i⟩
   obtain ⟨a,b,c,k⟩:=h1 d (.inl rfl)
   refine ⟨⟨⟨⟨a,b⟩,by omega⟩,k,j⟩,fun e J=>?_,q,o⟩
   obtain ⟨a',b',c',k'⟩:=h1 e (.inr J)
   refine ⟨a',fun g=>?_,c',fun x h=>⟨(k' x h).1,fun g=>?_,(k' x h).2.2⟩⟩
   ·rcases List.mem_append.1 g with g | g
    ·exact b' g
    ·simp only [List.mem_cons,List.not_mem_nil,or_false] at g
     exact h2 (by rw [<- g];exact List.mem_map_of_mem J)
   ·rcases List.mem_append.1 g with g | g
    ·exact (k' x h).2.1 g
    ·exact i _ g _ (List.mem_flatten.2 ⟨_,List.mem_map_of_mem (f:=fun d:Data=>d.cons.map Con.name) J,List.mem_map_of_mem h⟩) rfl
structure Fit (T:Table) (c:Core):Prop where
 ds:∀n,zW T.datas n=qV c.datas n
 cs:∀n,zW T.cons n=nC c.datas n
 fs:∀n,zW T.funs n=(match gK c.funs n with | some j=>c.funs[j]? | none=>none)
 is:∀n,zW T.inputs n=z8k c.inputs n
 no:zW T.datas sNo=none
 pos:∀n d,zW T.datas n=some d->0 < d.cons.length/\∀x∈d.cons,∀f∈x.fields,f≠sNo
 mks:∀n m,zW T.cons n=some m->m.data≠sNo
 rs:∀n f,zW T.funs n=some f->f.result≠sNo
 it:∀n t,zW T.inputs n=some t->t≠sNo
structure Rel (s:Scope) (vars:List Param):Prop where
 get:∀n,zW s n=gA vars n
 nz:∀p∈vars,p.type≠sNo
theorem Rel.put {s:Scope} {vars:List Param} (h:Rel s vars) {v f:Bs} (a:f≠sNo):Rel (nW s v f) (vars++[⟨v,f⟩]) where
 get n:=by
  rw [z2t,z1h,h.get]
  by_cases e:n=v
  ·rw [if_pos e,if_pos e.symm]
  ·rw [if_neg e,if_neg (fun g=>e g.symm)]
 nz p b:=by
  rcases List.mem_append.1 b with g | g
  ·exact h.nz p g
  ·simp only [List.mem_cons,List.not_mem_nil,or_false] at g;subst g;exact a
theorem Rel.putAll:∀{vs fs:List Bs} {s:Scope} {vars:List Param},Rel s vars->(∀f∈fs,f≠sNo)->Rel (putAll s vs fs) (vars++jI vs fs)
 | [],fs,_,_,h,_=>by rw [vS];simpa [jI] using h
 | _::_,[],_,_,h,_=>by simpa [jI,Go.Sw.putAll] using h
 | v::vs,f::fs,_,vars,h,a=>by
  rw [sJ,show vars++jI (v::vs) (f::fs)=(vars++[⟨v,f⟩])++jI vs fs by simp [jI]]
  exact (h.put (a f msQ)).putAll (fun g b=>a g (mcQ _ b))
theorem j2m {ps:List Param} {n t:Bs}:∀(r:Option Bs),(ps.foldl (fun r p=>if p.name=n then some p.type else r) r)=some t->(∃p∈ps,p.type=t)∨r=some t:=by
 induction ps with
 | nil=>intro r h;exact .inr h
 | cons p ps a=>
  intro r h
  rcases a _ h with ⟨q,hq,e⟩ | h
  ·exact .inl ⟨q,mcQ _ hq,e⟩
  ·change (if p.name=n then some p.type else r)=some t at h
   split at h
   ·cases h;exact .inl ⟨p,msQ,rfl⟩
   ·exact .inr h
theorem Rel.ne {s:Scope} {vars:List Param} (h:Rel s vars) {n t:Bs} (g:gA vars n=some t):t≠sNo:=by
 rcases j2m none g with ⟨p,a,rfl⟩ | g
 ·exact h.nz p a
 ·cases g
def Alk (x:Bs) (r:Bs×Bool):Prop:=(r.2=true->x=r.1/\r.1≠sNo)/\(r.2=false->x=sNo)
theorem Alk.no {x:Bs} (h:x=sNo):Alk x noT:=⟨fun g=>(by cases g),fun _=>h⟩
theorem Alk.iff {x:Bs} {r:Bs×Bool} (h:Alk x r):x=sNo↔r.2=false:=by
 cases hr:r.2 with
 | true=>have:=h.1 hr;exact ⟨fun e=>absurd (this.1▸e) this.2,fun e=>by cases e⟩
 | false=>exact ⟨fun _=>rfl,fun _=>h.2 hr⟩
def RT (T:Table) (c:Core) (e:Ex):Prop:=∀s vars,Rel s vars->(yH e).Nodup->Fresh s (yH e)->Alk (zH T e s).1 (zQ c e vars)
theorem z3u {c:Core}:∀{xs:List Ex} {vars:List Param},(typesR c xs vars).2=true->(typesR c xs vars).1.length=xs.length
 | [],_,_=>rfl
 | x::xs,vars,h=>by
  simp only [typesR] at h ⊢
  split at h
  ·cases h
  ·rename_i a;rw [if_neg a];simp only [lcQ];rw [z3u h]
theorem y1w {T:Table} {c:Core}:∀{xs:List Ex} {s:Scope} {vars:List Param} {ts:List Bs},(∀x∈xs,sW T x)->(∀x∈xs,RT T c x)->Rel s vars->xs.length=ts.length->(bindPs xs).Nodup->Fresh s (bindPs xs) ->
  ((allQ T xs s ts).1=true↔(typesR c xs vars).2=true/\ts=(typesR c xs vars).1)
 | [],_,_,[],_,_,_,_,_,_=>by simp [allQ,typesR]
 | x::xs,s,vars,t::ts,j,k,hr,hl,p,f=>by
  have hn':=jH (show (yH x++bindPs xs).Nodup from p)
  have fs:=f.sub (m:=yH x) fun n h=>List.mem_append.2 (.inl h)
  have l:=k x msQ s vars hr hn'.1 fs
  have i:=l.iff
  rw [z7i]
  simp only [typesR]
  by_cases h1:(zH T x s).1=sNo
  ·rw [if_pos (.inl h1),if_pos (i.1 h1)];simp
  ·have h2:(zQ c x vars).2=true:=by cases h:(zQ c x vars).2 with | true=>rfl | false=>exact absurd (i.2 h) h1
   have d:=l.1 h2
   rw [if_neg (show ¬(zQ c x vars).2=false by simp [h2])]
   by_cases a:(zH T x s).1=t
   ·rw [if_neg (fun e=>e.elim h1 (fun g=>g a))]
    have o:=j x msQ s hn'.1 fs h1
    rw [o,y1w (fun y b=>j y (mcQ _ b)) (fun y b=>k y (mcQ _ b)) hr (by simpa using hl) hn'.2.1 (f.sub fun n h=>List.mem_append.2 (.inr h))]
    simp only [List.cons.injEq,<- d.1,a,true_and]
   ·rw [if_pos (.inr a)]
    simp only [Bool.false_eq_true,List.cons.injEq,false_iff,<- d.1]
    exact fun g=>a g.2.1.symm
 | [],_,_,_::_,_,_,_,hl,_,_=>by simp at hl
 | _::_,_,_,[],_,_,_,hl,_,_=>by simp at hl
theorem j0z {T:Table} {c:Core} {xs:List Ex} {s:Scope} {vars:List Param} {ts:List Bs} (b:∀x∈xs,sW T x) (e:∀x∈xs,RT T c x) (hr:Rel s vars) (d:(bindPs xs).Nodup) (a:Fresh s (bindPs xs)) :
  (kJ T xs s ts).1=true↔(typesR c xs vars).2=true/\ts=(typesR c xs vars).1:=by
 unfold kJ
 split
 ·rename_i hl;exact y1w b e hr hl d a
 ·rename_i hl
  simp only [Bool.false_eq_true,false_iff]
  rintro ⟨h1,h2⟩
  rw [h2,z3u h1] at hl
  exact hl rfl
theorem y9w {T:Table} {c:Core}:∀{az:List Arm} {cs:List Con} {first:Bool} {out:Bs} {s:Scope} {vars:List Param},(∀a∈az,sW T a.body)->(∀a∈az,RT T c a.body)->Rel s vars->cs.length=az.length ->
  (∀x∈cs,∀f∈x.fields,f≠sNo)->(bindPa az).Nodup->Fresh s (bindPa az)->(az=[]->out≠sNo)->Alk (splitP T az cs first out s).1 (armsR c az cs first out vars)
 | [],[],_,out,_,_,_,_,_,_,_,_,_,h=>⟨fun _=>⟨rfl,h rfl⟩,fun g=>by cases g⟩
 | a::az,x::cs,first,out,s,vars,o,q,hr,hl,r,p,l,_=>by
  rw [qO] at p l
  have hn':=jH p
  have hn'':=jH hn'.1
  rw [jN,nA]
  by_cases d:a.con≠x.name∨a.vars.length≠x.fields.length
  ·rw [if_pos d,if_pos d];exact .no rfl
  ·rw [if_neg d,if_neg d]
   have fs:Fresh s (a.vars++yH a.body):=l.sub fun n h=>List.mem_append.2 (.inl h)
   have hb:Alk (aA T a x s).1 (zQ c a.body (vars++jI a.vars x.fields)) :=
    q _ msQ (putAll s a.vars x.fields) _ (hr.putAll (r x msQ)) hn''.2.1 (fun n hb=>by
     rw [uP (fun N=>hn''.2.2 n N hb)];exact fs n (List.mem_append.2 (.inr hb)))
   have m:=hb.iff
   by_cases h1:(aA T a x s).1=sNo
   ·rw [if_pos (.inl h1),if_pos (.inl (m.1 h1))];exact .no rfl
   ·have h2:(zQ c a.body (vars++jI a.vars x.fields)).2=true:=by cases h:(zQ c a.body (vars++jI a.vars x.fields)).2 with | true=>rfl | false=>exact absurd (m.2 h) h1
    have j:=hb.1 h2
    rw [j.1]
    by_cases i:first=false/\(zQ c a.body (vars++jI a.vars x.fields)).1≠out
    ·rw [if_pos (.inr i),if_pos (.inr i)];exact .no rfl
    ·rw [if_neg (fun e=>e.elim j.2 i),if_neg (fun e=>e.elim (by simp [h2]) i)]
     have k:a.vars.length=x.fields.length:=Classical.byContradiction fun e=>d (.inr e)
     have t:=y9t (o _ msQ) k hn'.1 fs h1
     rw [t]
     exact y9w (fun b hb=>o b (mcQ _ hb)) (fun b hb=>q b (mcQ _ hb)) hr (by simpa using hl) (fun y u=>r y (mcQ _ u)) hn'.2.1 (l.sub fun n h=>List.mem_append.2 (.inr h)) (fun _=>j.2)
 | [],_::_,_,_,_,_,_,_,_,hl,_,_,_,_=>by simp at hl
 | _::_,[],_,_,_,_,_,_,_,hl,_,_,_,_=>by simp at hl
def tyL (T:Table) (e:Ex) (s:Scope):Option (List Bs×Bs)->Bs
 | none=>sNo
 | some p=>if (kJ T e.args s p.1).1=true then p.2 else sNo
theorem opR_eq (n:Bs):(opR n).getD sNo=opT n/\∀t,opR n=some t->t≠sNo:=by
 unfold opR opT
 have:gS [⟨#[43]⟩,⟨#[45]⟩,⟨#[42]⟩,⟨#[47]⟩,⟨#[37]⟩] n=true↔(n=⟨#[43]⟩∨n=⟨#[45]⟩∨n=⟨#[42]⟩∨n=⟨#[47]⟩∨n=⟨#[37]⟩):=by
  rw [z5y];simp
 by_cases h:gS [⟨#[43]⟩,⟨#[45]⟩,⟨#[42]⟩,⟨#[47]⟩,⟨#[37]⟩] n=true
 ·rw [if_pos h,if_pos (this.1 h)];exact ⟨rfl,fun t g=>by cases g;decide⟩
 ·rw [if_neg h,if_neg (fun g=>h (this.2 g))]
  split
  ·exact ⟨rfl,fun t g=>by cases g;decide⟩
  ·exact ⟨rfl,fun t g=>by cases g⟩
theorem bare_iff {e:Ex} {name:Bool} {n:Int} {k:Int}:qX e false name n k=true↔e.num=0/\(name=true∨e.name=sNo)/\(n < 0∨(e.args.length:Int)=n)/\(k < 0∨(e.arms.length:Int)=k):=by
 simp [qX,sNo,and_assoc]
theorem bare1 {e:Ex}:qX e true false 0 0=true↔e.name=sNo/\e.args.length=0/\e.arms.length=0:=by
 simp [qX,sNo,and_assoc]
theorem bare0 {e:Ex} {n:Int}:qX e false true n 0=true↔e.num=0/\(n < 0∨(e.args.length:Int)=n)/\e.arms.length=0:=by
 simp only [qX,baQ,Bool.or_eq_true,decide_eq_true_eq,Bool.false_eq_true,false_or,true_or,and_true]
 omega
theorem z2b {T:Table} {c:Core} {e:Ex} {s:Scope} {vars:List Param} {w:Option (List Bs×Bs)} (b:∀x∈e.args,sW T x) (i:∀x∈e.args,RT T c x) (hr:Rel s vars) (d:(bindPs e.args).Nodup) (a:Fresh s (bindPs e.args)) (j:∀p,w=some p->p.2≠sNo) :
  Alk (tyL T e s w) (if (typesR c e.args vars).2=false then noT else tyR c e vars w):=by
 cases w with
 | none=>
  by_cases h:(typesR c e.args vars).2=false
  ·rw [if_pos h];exact .no rfl
  ·rw [if_neg h];exact .no rfl
 | some p=>
  have h1:=j0z (ts:=p.1) b i hr d a
  simp only [tyL,tyR]
  by_cases h:(typesR c e.args vars).2=false
  ·rw [if_pos h]
   have:¬(kJ T e.args s p.1).1=true:=fun g=>by rw [(h1.1 g).1] at h;cases h
   rw [if_neg this];exact .no rfl
  ·rw [if_neg h]
   have f:(typesR c e.args vars).2=true:=by cases g:(typesR c e.args vars).2 with | true=>rfl | false=>exact absurd g h
   by_cases g:p.1=(typesR c e.args vars).1
   ·rw [if_pos (h1.2 ⟨f,g⟩),if_pos g]
    exact ⟨fun _=>⟨rfl,j p rfl⟩,fun x=>by cases x⟩
   ·have:¬(kJ T e.args s p.1).1=true:=fun x=>g (h1.1 x).2
    rw [if_neg this,if_neg g];exact .no rfl
theorem rt_ok {T:Table} {c:Core} (j:Fit T c):∀(n:Nat) (e:Ex),e.sz < n->RT T c e
 | 0,_,h=>by omega
 | n+1,e,j0=>by
  intro s vars hr W K
  have u:∀x∈e.args,sW T x:=fun x G=>z6c T j.no (n+1) x (by have:=Ex.lt_args G;omega)
  have a0:∀a∈e.arms,sW T a.body:=fun a R=>z6c T j.no (n+1) a.body (by have:=Ex.lt_arms R;omega)
  have q:∀x∈e.args,RT T c x:=fun x G=>rt_ok j n x (by have:=Ex.lt_args G;omega)
  have c0:∀a∈e.arms,RT T c a.body:=fun a R=>rt_ok j n a.body (by have:=Ex.lt_arms R;omega)
  rw [dC] at W K
  have U:=jH W
  have B:=jH U.1
  have fa:Fresh s (bindPs e.args):=K.sub fun m N=>List.mem_append.2 (.inl (List.mem_append.2 (.inr N)))
  have fb:Fresh s (bindPa e.arms):=K.sub fun m N=>List.mem_append.2 (.inr N)
  rw [dQ]
  by_cases E:e.kind=7
  ·rw [z2c T e s E]
   unfold xL
   by_cases hb:qX e false false 1 (-1)=true
   ·rw [if_pos hb]
    obtain ⟨X,Y,b3,_⟩:=bare_iff.1 hb
    obtain ⟨x,b⟩:=one_arg (cE (n:=1) hb)
    have G:e.args[0]? = some x:=by rw [b];rfl
    rw [jU G]
    simp only [E,X,b,firstR]
    simp only [show ¬((7:Int)=1) by decide,show ¬((7:Int)=2) by decide,show ¬((7:Int)=3) by decide,show ¬((7:Int)=6) by decide,ne_eq,not_true,not_false_eq_true,false_and,and_false,or_self,if_false,if_true,lcQ,lnQ,Y.resolve_left (by decide)]
    have na:=B.2.1
    rw [b] at fa na
    simp only [bindPs,List.append_nil] at fa na
    have mx:x∈e.args:=by rw [b];simp
    have Q:=q x mx s vars hr na fa
    by_cases r:(zQ c x vars).2=false
    ·rw [if_pos r,Q.2 r,j.no];exact .no rfl
    ·rw [if_neg r]
     have h1:(zQ c x vars).2=true:=by cases g:(zQ c x vars).2 with | true=>rfl | false=>exact absurd g r
     obtain ⟨v,e2⟩:=Q.1 h1
     have Z:=u x mx s na fa (v▸e2)
     rw [v,Z,j.ds]
     cases hd:qV c.datas (zQ c x vars).1 with
     | none=>exact .no rfl
     | some d=>
      have i:=j.pos _ d ((j.ds _).trans hd)
      simp only
      by_cases k:d.cons.length=e.arms.length
      ·rw [if_pos k,if_neg (fun g=>g k)]
       exact y9w a0 c0 hr k i.2 U.2.1 fb (fun g=>by rw [g] at k;have:=i.1;simp only [lnQ] at k;omega)
      ·rw [if_neg k,if_pos k];exact .no rfl
   ·rw [if_neg hb]
    have hq:¬(e.num=0/\e.name=sNo/\e.args.length=1):=fun g=>hb (bare_iff.2 ⟨g.1,.inr g.2.1,.inr (by rw [g.2.2];rfl),.inl (by decide)⟩)
    by_cases M:(e.kind≠7/\0 < e.arms.length)∨(e.kind≠1/\e.num≠0)
    ·rw [if_pos M];exact .no rfl
    ·rw [if_neg M]
     have r:e.num=0:=Classical.byContradiction fun g=>M (.inr ⟨by rw [E];decide,g⟩)
     simp only [E]
     simp only [show ¬((7:Int)=1) by decide,show ¬((7:Int)=2) by decide,show ¬((7:Int)=3) by decide,show ¬((7:Int)=6) by decide,if_false,if_true]
     rw [if_pos]
     ·exact .no rfl
     ·by_cases hl:e.args.length=1
      ·exact .inr fun g=>hq ⟨r,g,hl⟩
      ·exact .inl hl
  have P:((e.kind≠7/\0 < e.arms.length)∨(e.kind≠1/\e.num≠0))↔¬(e.arms.length=0/\(e.kind=1∨e.num=0)):=by
   constructor
   ·rintro (⟨_,g⟩ | ⟨g,g'⟩) ⟨x,y⟩
    ·omega
    ·exact y.elim g g'
   ·intro g
    by_cases x:e.arms.length=0
    ·exact .inr ⟨fun y=>g ⟨x,.inl y⟩,fun y=>g ⟨x,.inr y⟩⟩
    ·exact .inl ⟨E,by omega⟩
  by_cases h1:e.kind=1
  ·rw [z5a T e s h1]
   unfold uL
   by_cases hb:qX e true false 0 0=true
   ·obtain ⟨X,Y,b3⟩:=bare1.1 hb
    rw [if_pos hb,if_neg (fun g=>P.1 g ⟨b3,.inl h1⟩),if_pos h1]
    exact ⟨fun _=>⟨rfl,show yL≠sNo by decide⟩,fun g=>by simp [X,Y] at g⟩
   ·rw [if_neg hb]
    by_cases O:e.arms.length=0
    ·rw [if_neg (fun g=>P.1 g ⟨O,.inl h1⟩),if_pos h1]
     refine ⟨fun g=>?_,fun _=>rfl⟩
     simp only [baQ,decide_eq_true_eq] at g
     exact absurd (bare1.2 ⟨g.1,g.2,O⟩) hb
    ·rw [if_pos (P.2 fun g=>O g.1)];exact .no rfl
  by_cases hq:e.num=0/\e.arms.length=0
  ·rw [if_neg (fun g=>P.1 g ⟨hq.2,.inr hq.1⟩),if_neg h1]
   have o:∀{n:Int},(n < 0∨(e.args.length:Int)=n)->qX e false true n 0=true:=fun h=>bare0.2 ⟨hq.1,h,hq.2⟩
   have A:∀{n:Int},¬(n < 0∨(e.args.length:Int)=n)->¬qX e false true n 0=true:=fun h g=>h (bare0.1 g).2.1
   by_cases h2:e.kind=2
   ·rw [if_pos h2,z0g T e s h2]
    unfold nS
    by_cases hl:e.args.length=0
    ·rw [if_pos (o (.inr (by rw [hl];rfl))),hr.get]
     cases V:gA vars e.name with
     | none=>exact .no rfl
     | some t=>exact ⟨fun _=>⟨rfl,hr.ne V⟩,fun g=>by simp [hl] at g⟩
    ·rw [if_neg (A (by omega))]
     cases V:gA vars e.name with
     | none=>exact .no rfl
     | some t=>exact ⟨fun g=>by simp only [decide_eq_true_eq] at g;exact absurd g hl,fun _=>rfl⟩
   by_cases H:e.kind=3
   ·rw [if_neg h2,if_pos H,z0e T e s H]
    unfold z1e
    by_cases hl:e.args.length=0
    ·rw [if_pos (o (.inr (by rw [hl];rfl))),j.is]
     cases V:z8k c.inputs e.name with
     | none=>exact .no rfl
     | some t=>exact ⟨fun _=>⟨rfl,j.it _ _ ((j.is _).trans V)⟩,fun g=>by simp [hl] at g⟩
    ·rw [if_neg (A (by omega))]
     cases V:z8k c.inputs e.name with
     | none=>exact .no rfl
     | some t=>exact ⟨fun g=>by simp only [decide_eq_true_eq] at g;exact absurd g hl,fun _=>rfl⟩
   rw [if_neg h2,if_neg H]
   by_cases D:e.kind=6
   ·rw [if_pos D,z0f T e s D]
    unfold z4k
    by_cases hl:e.args.length=2
    ·rw [if_pos (o (.inr (by rw [hl];rfl)))]
     obtain ⟨x,y,b⟩:=x7t hl
     have G:e.args[0]? = some x:=by rw [b];rfl
     have hy:e.args[1]? = some y:=by rw [b];rfl
     simp only [if_pos D,b,bindPs,List.append_nil] at W K
     have b0:=jH W
     have S:=jH b0.1
     have L:=jH S.2.1
     have mx:x∈e.args:=by rw [b];simp
     have my:y∈e.args:=by rw [b];simp
     have Q:=q x mx s vars hr L.1 (K.sub fun m N=>by simp [N])
     have hi:=Q.iff
     simp only [b,letR,firstR,lcQ,lnQ]
     by_cases r:(zH T x s).1=sNo
     ·rw [<- b,q4l G r,if_pos (.inl (hi.1 r))];exact .no rfl
     ·have g1:(zQ c x vars).2=true:=by cases g:(zQ c x vars).2 with | true=>rfl | false=>exact absurd (hi.2 g) r
      obtain ⟨v,e2⟩:=Q.1 g1
      have Z:=u x mx s L.1 (K.sub fun m N=>by simp [N]) r
      rw [<- b,y5j G hy r,if_neg (by simp [g1])]
      simp only [Z,v]
      refine q y my _ _ (hr.put e2) L.2.1 (fun m N=>?_)
      rw [z2t,if_neg]
      ·exact K m (by simp [N])
      ·rintro rfl
       exact S.2.2 e.name (by simp) (by simp [N])
    ·rw [if_neg (A (by omega))]
     cases R:e.args with
     | nil=>exact .no rfl
     | cons a l=>
      simp only [letR]
      rw [R] at hl
      rw [if_pos (.inr (by simp only [lcQ] at hl;omega))];exact .no rfl
   rw [if_neg D,if_neg E]
   by_cases z:e.kind=4
   ·rw [z0d T e s z]
    have F:wP c e.kind e.name=(zW T.cons e.name).map fun m=>(m.con.fields,m.data):=by rw [wP,if_pos z,j.cs]
    have:=z2b (w:=wP c e.kind e.name) u q hr B.2.1 fa (fun p i=>by
     rw [F] at i
     cases N:zW T.cons e.name with
     | none=>rw [N] at i;cases i
     | some m=>rw [N] at i;cases i;exact j.mks _ _ N)
    have v:(z0r T e s).1=tyL T e s (wP c e.kind e.name):=by
     rw [F]
     unfold z0r
     cases N:zW T.cons e.name with
     | none=>rfl
     | some m=>simp only [if_pos (o (n:=-1) (.inl (by decide))),Option.map_some,tyL]
    rw [v];exact this
   by_cases C:e.kind=5
   ·rw [sM T e s C]
    have F:wP c e.kind e.name=(zW T.funs e.name).map fun f=>(f.params.map Param.type,f.result):=by
     rw [wP,if_neg z,if_pos C,j.fs]
     cases gK c.funs e.name <;> rfl
    have:=z2b (w:=wP c e.kind e.name) u q hr B.2.1 fa (fun p i=>by
     rw [F] at i
     cases N:zW T.funs e.name with
     | none=>rw [N] at i;cases i
     | some m=>rw [N] at i;cases i;exact j.rs _ _ N)
    have v:(aV T e s).1=tyL T e s (wP c e.kind e.name):=by
     rw [F]
     unfold aV
     cases N:zW T.funs e.name with
     | none=>rfl
     | some m=>simp only [if_pos (o (n:=-1) (.inl (by decide))),Option.map_some,tyL]
    rw [v];exact this
   by_cases I:e.kind=8
   ·rw [z3b T e s I]
    have F:wP c e.kind e.name=(opR e.name).map fun t=>([yL,yL],t):=by rw [wP,if_neg z,if_neg C,if_pos I]
    obtain ⟨o1,o2⟩:=opR_eq e.name
    have:=z2b (w:=wP c e.kind e.name) u q hr B.2.1 fa (fun p i=>by
     rw [F] at i
     cases N:opR e.name with
     | none=>rw [N] at i;cases i
     | some m=>rw [N] at i;cases i;exact o2 _ N)
    have v:(nZ T e s).1=tyL T e s (wP c e.kind e.name):=by
     rw [F]
     unfold nZ
     rw [<- o1]
     by_cases hl:e.args.length=2
     ·rw [if_pos (o (.inr (by rw [hl];rfl)))]
      cases N:opR e.name with
      | none=>simp [tyL]
      | some t=>rfl
     ·rw [if_neg (A (by omega))]
      have:¬(kJ T e.args s [yL,yL]).1=true:=by unfold kJ;rw [if_neg (by simpa using hl)];simp
      cases N:opR e.name with
      | none=>rfl
      | some t=>simp only [Option.map_some,tyL,if_neg this]
    rw [v];exact this
   ·by_cases i0:e.kind=1∨e.kind=2∨e.kind=3
    ·omega
    ·rw [sN T e s h1 h2 H z C D E I,wP,if_neg z,if_neg C,if_neg I]
     by_cases h:(typesR c e.args vars).2=false
     ·rw [if_pos h];exact .no rfl
     ·rw [if_neg h];exact .no rfl
  ·rw [if_pos (P.2 fun g=>hq ⟨g.2.resolve_left h1,g.1⟩)]
   apply Alk.no
   have hb:∀n,¬qX e false true n 0=true:=fun n g=>hq ⟨(bare0.1 g).1,(bare0.1 g).2.2⟩
   by_cases h2:e.kind=2
   ·rw [z0g T e s h2];exact if_neg (hb 0)
   by_cases H:e.kind=3
   ·rw [z0e T e s H];exact if_neg (hb 0)
   by_cases z:e.kind=4
   ·rw [z0d T e s z];unfold z0r
    split
    ·rfl
    ·rw [if_neg (hb _)]
   by_cases C:e.kind=5
   ·rw [sM T e s C];unfold aV
    split
    ·rfl
    ·rw [if_neg (hb _)]
   by_cases D:e.kind=6
   ·rw [z0f T e s D];unfold z4k;rw [if_neg (hb _)]
   by_cases I:e.kind=8
   ·rw [z3b T e s I];unfold nZ;rw [if_neg (hb _)]
   rw [sN T e s h1 h2 H z C D E I]
end Go.Sw
