import Derived.Test.YtgkhcfjooiekkaaGreatDoorX15
set_option linter.unusedVariables false
set_option linter.unusedSimpArgs false
namespace Go.Sw
open Go.Proofs.Tryz
open Go.Proofs
set_option maxRecDepth 20000
set_option maxHeartbeats 4000000
variable {V:Fz} {K:List Res} {w:World}
theorem j0z {d0:List Value} {e:Ex} (b:REx V d0 e) (N:Mem V K w) :
  Calls prog 106 #[.agg d0.toArray,.int .i64 ((0:Nat):Int)] w (fun ee w'=>ee=.returned (.bool (xG 0 e))/\Mem V K w'):=by
 obtain ⟨n,c4,p,h,rfl,c,l,m,j,k,d,f⟩:=REx.fm b
 refine zM func106 ntmps106 fun Q i a J=>?_
 refine Bx J N fun g w N a J=>?_
 refine Qq J N (fun a J=>?_) (o:=by exact fun _ _ _ J O=>xK true J rfl rfl rfl)
 refine go J N fun a J=>?_
 replace N:=N.dl [0]
 refine zD i J N ?_
 exact zL N (by rw [y1w])
theorem j0y {d0:List Value} {e:Ex} {m:Nat} (L:REx V d0 e) (C0:m < 100000) (ih:∀{V:Fz} {K:List Res} {w:World} {d:List Value} {e:Ex},REx V d e->Mem V K w->Calls prog 106 #[.agg d.toArray,.int .i64 ((m:Nat):Int)] w (fun ee w'=>ee=.returned (.bool (xG m e))/\Mem V K w')) (N:Mem V K w) :
  Calls prog 106 #[.agg d0.toArray,.int .i64 ((m+1:Nat):Int)] w (fun ee w'=>ee=.returned (.bool (xG (m+1) e))/\Mem V K w'):=by
 obtain ⟨p3,c4,p9,q0,rfl,T,h2,h8,B0,G,Z,z⟩:=REx.fm L
 refine zM func106 ntmps106 fun Q B a J=>?_
 refine Bx J N fun o0 w N a J=>?_
 refine go J N fun a J=>?_
 by_cases E:m+1=0
 refine go J N fun a J=>?_
 replace N:=N.dl [0]
 refine zD B J N ?_
 exact zL N (by exact absurd E (by omega))
 refine go J N fun a J=>?_
 refine zV (J.ks [1,2]) N (fun R mm a w=>∃(i:Nat),mm=e.args.length - i/\R V [(5,.int .i64 ((i:Nat):Int))] [] a w/\(xG (m+1) e=((e.args.drop i).any (xG m) || e.arms.any fun a=>xG m a.body))) (e.args.length - 0) ⟨0,rfl,⟨J.pk,N⟩,by rw [z3p];rfl⟩ ?_
 clear N J
 rintro mm a w ⟨i,q,⟨J,N⟩,g⟩ m0 u
 refine go J N fun a J=>?_
 by_cases r:i < e.args.length
 refine go J N fun a J=>?_
 obtain ⟨G0,rfl,J0,n,M,X,S,l⟩:=h2.el G r
 obtain ⟨D0,r0,E0,s0,rfl,U,w0,x0,a0,g0,b0,h0⟩:=REx.fm l
 refine Qq J N (fun a J=>?_) (o:=by exact fun _ _ _ J O=>vT ((m:Nat):Int) J rfl rfl (by rw [yC (by omega)];omega))
 refine zW call106 J N (fun b w N a J=>?_) (fun b w N a J=>?_) (c:=ih l N)
 refine go J N fun a J=>?_
 replace N:=N.dl [0]
 refine zD B J N ?_
 exact zL N (by rw [g,zA n,List.any_cons,b];rfl)
 refine go J N fun a J=>?_
 refine u _ _ _ (by subst q;omega) ⟨(i+1),rfl,⟨J.pk,N⟩,?_⟩
 rw [g,zA n,List.any_cons,b,Bool.false_or]
 refine go J N fun a J=>?_
 refine zV (J.ks [1,2]) N (fun R mm a w=>∃(j:Nat),mm=e.arms.length - j/\R V [(6,.int .i64 ((j:Nat):Int))] [] a w/\(xG (m+1) e=(e.arms.drop j).any fun a=>xG m a.body)) (e.arms.length - 0) ⟨0,rfl,⟨J.pk,N⟩,by rw [g,zE r];rfl⟩ ?_
 clear N J
 rintro mm a w ⟨j,q,⟨J,N⟩,h⟩ n0 v
 refine go J N fun a J=>?_
 by_cases s:j < e.arms.length
 refine go J N fun a J=>?_
 obtain ⟨H0,rfl,k,p,P,Y,y,A⟩:=h8.el z s
 obtain ⟨I0,p0,rfl,F,t⟩:=RArm.iff.1 A
 obtain ⟨F0,t0,rfl,c0,i0⟩:=F.fm
 obtain ⟨H,C,I,D,rfl,W,y0,A0,e0,j0,f0,k0⟩:=REx.fm t
 refine Qq J N (fun a J=>?_) (o:=by exact fun _ _ _ J O=>xW 2 (vs:=[.int .i64 (k.body.kind),.int .i64 (k.body.num),.string k.body.name,.slice H k.body.args.length C,.slice I k.body.arms.length D]) J O rfl y isAgg66 sizeOf66 rfl rfl)
 refine Qq J N (fun a J=>?_) (o:=by exact fun _ _ _ J O=>vT ((m:Nat):Int) J rfl rfl (by rw [yC (by omega)];omega))
 refine zW call106 J N (fun f w N a J=>?_) (fun f w N a J=>?_) (c:=ih t N)
 refine go J N fun a J=>?_
 replace N:=N.dl [0]
 refine zD B J N ?_
 exact zL N (by rw [h,zA p,List.any_cons,f];rfl)
 refine go J N fun a J=>?_
 refine v _ _ _ (by subst q;omega) ⟨(j+1),rfl,⟨J.pk,N⟩,?_⟩
 rw [h,zA p,List.any_cons,f,Bool.false_or]
 refine go J N fun a J=>?_
 replace N:=N.dl [0]
 refine zD B J N ?_
 exact zL N (by rw [h,zE s];rfl)
theorem x3m {m:Nat} (a:m < 100000):∀{V:Fz} {K:List Res} {w:World} {d:List Value} {e:Ex},REx V d e->Mem V K w->Calls prog 106 #[.agg d.toArray,.int .i64 ((m:Nat):Int)] w (fun ee w'=>ee=.returned (.bool (xG m e))/\Mem V K w'):=by
 induction m with
 | zero=>intro V K w d e re N;exact j0z re N
 | succ m b=>intro V K w d e re N;exact j0y re (by omega) (fun r h=>b (by omega) r h) N
theorem j1j {d0:List Value} {e:Ex} {most:Nat} (o0:REx V d0 e) (h1:most<=1000000) (ih:∀x:Ex,x.sz < e.sz->∀{V:Fz} {K:List Res} {w:World} {d:List Value} {most:Nat},most<=1000000->REx V d x->Mem V K w->Calls prog 160 #[.agg d.toArray,.int .i64 (most:Int)] w (fun ee w'=>ee=.returned (.int .i64 ((jU x most:Nat):Int))/\Mem V K w')) (N:Mem V K w) :
  Calls prog 160 #[.agg d0.toArray,.int .i64 (most:Int)] w (fun ee w'=>ee=.returned (.int .i64 (((jU e most:Nat):Int)))/\Mem V K w'):=by
 obtain ⟨p3,c4,p9,z,rfl,t0,h2,h8,r1,l0,z0,c0⟩:=REx.fm o0
 refine zM func160 ntmps160 fun Q hQ a J=>?_
 refine sq fun N0 F=>?_
 refine go0 J N fun a J=>?_
 refine Bx J N fun v w N a J=>?_
 refine go0 J N fun a J=>?_
 apply F
 refine sq fun O0 G=>?_
 refine go0 J N fun a J=>?_
 apply G
 refine sq fun f0 H=>?_
 have r:∀a w,(∃(n:Nat),EnvR 66 [(1,.int .i64 ((most:Nat):Int)),(2,.pointer (some ⟨v,0,none⟩)),(5,.int .i64 ((n:Nat):Int))] [] a/\Mem V (.blk v (ob [.int .i64 (e.kind),.int .i64 (e.num),.string e.name,.slice p3 e.args.length c4,.slice p9 e.arms.length z] 66)::K) w/\(1<=n/\n<=most+1/\jU e most=sizeAr e.arms most n))->f0 a w:=by
  clear N J
  rintro a w ⟨n,J,N,B⟩
  apply H
  obtain ⟨h,k,b⟩:=B
  refine sq fun g0 I=>?_
  have s:∀a w,(∃(n:Nat),EnvR 66 [(5,.int .i64 ((n:Nat):Int))] [] a/\Mem V (.blk v (ob [.int .i64 (e.kind),.int .i64 (e.num),.string e.name,.slice p3 e.args.length c4,.slice p9 e.arms.length z] 66)::K) w/\(jU e most=n))->g0 a w:=by
   clear N J
   rintro a w ⟨n,J,N,C⟩
   apply I
   refine sq fun P0 L=>?_
   refine go0 J N fun a J=>?_
   apply L
   refine go0 J N fun a J=>?_
   replace N:=N.dl [0]
   refine zD hQ J N ?_
   exact jG N (by rw [C])
  refine sq fun Q0 M=>?_
  refine go0 J N fun a J=>?_
  apply M
  refine go0 J N fun a J=>?_
  refine zV (J.ks [1,2]) N (fun R mm a w=>∃(j:Nat) (n:Nat),mm=e.arms.length - j/\R V [(5,.int .i64 ((n:Nat):Int)),(7,.int .i64 ((j:Nat):Int))] [] a w/\(1<=n/\n<=most+1/\jU e most=sizeAr (e.arms.drop j) most n)) (e.arms.length - 0) ⟨0,n,rfl,⟨J.pk,N⟩,⟨h,k,b⟩⟩ ?_
  clear N J
  rintro mm a w ⟨j,n,y,⟨J,N⟩,D⟩ R0 P
  clear h k b
  obtain ⟨h,k,b⟩:=D
  refine sq fun S0 S=>?_
  refine sq fun T0 l=>?_
  refine go0 J N fun a J=>?_
  by_cases i0:j < e.arms.length
  refine go0 J N fun a J=>?_
  by_cases j1:n<=most
  refine go0 J N fun a J=>?_
  apply l
  refine go0 J N fun a J=>?_
  apply S
  refine sq fun U0 T=>?_
  refine go0 J N fun a J=>?_
  refine sq fun V0 U=>?_
  refine sq fun W0 t=>?_
  refine go0 J N fun a J=>?_
  obtain ⟨v1,rfl,f,g,p0,x0,b0,e0⟩:=h8.el c0 i0
  obtain ⟨x1,d1,rfl,j0,A⟩:=RArm.iff.1 e0
  obtain ⟨s1,e1,rfl,A0,F0⟩:=j0.fm
  obtain ⟨m0,h0,n0,c58,rfl,u0,k1,l1,B0,G0,C0,H0⟩:=REx.fm A
  refine go0 J N fun a J=>?_
  by_cases m1:16 < f.vars.length
  refine go0 J N fun a J=>?_
  apply t
  refine go0 J N fun a J=>?_
  refine sq fun X0 W=>?_
  refine go0 J N fun a J=>?_
  apply W
  refine go0 J N fun a J=>?_
  replace N:=N.dl [0]
  refine zD hQ J N ?_
  exact jG N (by rw [b,zA g,z1m,if_pos (by omega),if_pos (by omega)])
  refine go0 J N fun a J=>?_
  apply t
  refine go0 J N fun a J=>?_
  apply U
  refine go0 J N fun a J=>?_
  refine Qq J N (fun a J=>?_) (o:=by exact fun _ _ _ J O=>xW 2 (vs:=[.int .i64 (f.body.kind),.int .i64 (f.body.num),.string f.body.name,.slice m0 f.body.args.length h0,.slice n0 f.body.arms.length c58]) J O rfl b0 isAgg66 sizeOf66 rfl rfl)
  refine go0 J N fun a J=>?_
  refine Qq J N (fun a J=>?_) (o:=by exact fun _ _ _ J O=>vT ((most - n:Nat):Int) J rfl rfl (by rw [yC (by omega)];omega))
  refine zS call160 J N (fun w N a J=>?_) (c:=ih _ (by first | exact Ex.lt_args (mgQ g) | exact Ex.lt_arms (mgQ g)) (by omega) A N)
  refine Qq J N (fun a J=>?_) (o:=by exact fun _ _ _ J O=>z1w ((n+(jU f.body (most - n)):Nat):Int) J rfl rfl (by have h_:=mG f.body (most - n);rw [yC (by omega)];omega))
  refine go0 J N fun a J=>?_
  apply T
  refine go0 J N fun a J=>?_
  refine P _ _ _ (by subst y;omega) ⟨(j+1),(n+(jU f.body (most - n))),rfl,⟨J.pk,N⟩,?_⟩
  have h_:=mG f.body (most - n);exact ⟨by omega,by omega,by rw [b,zA g,z1m,if_pos (by omega),if_neg (by omega)]⟩
  refine go0 J N fun a J=>?_
  apply l
  refine go0 J N fun a J=>?_
  exact s _ _ ⟨n,J.pk,N,by rw [b,y4v (by omega)]⟩
  refine go0 J N fun a J=>?_
  apply l
  refine go0 J N fun a J=>?_
  exact s _ _ ⟨n,J.pk,N,by rw [b,y4v (by omega)]⟩
 refine sq fun Y0 X=>?_
 refine go0 J N fun a J=>?_
 apply X
 refine go0 J N fun a J=>?_
 refine zV (J.ks [1,2]) N (fun R mm a w=>∃(i:Nat) (n:Nat),mm=e.args.length - i/\R V [(5,.int .i64 ((n:Nat):Int)),(6,.int .i64 ((i:Nat):Int))] [] a w/\(1<=n/\n<=most+1/\jU e most=sizeAr e.arms most (sizeRs (e.args.drop i) most n))) (e.args.length - 0) ⟨0,1,rfl,⟨J.pk,N⟩,⟨by omega,by omega,x4f e most⟩⟩ ?_
 clear N J
 rintro mm a w ⟨i,n,y,⟨J,N⟩,E⟩ Z0 Y
 obtain ⟨h,k,b⟩:=E
 refine sq fun a1 Z=>?_
 refine sq fun b1 m=>?_
 refine go0 J N fun a J=>?_
 by_cases k0:i < e.args.length
 refine go0 J N fun a J=>?_
 by_cases n1:n<=most
 refine go0 J N fun a J=>?_
 apply m
 refine go0 J N fun a J=>?_
 apply Z
 refine sq fun c1 a0=>?_
 refine go0 J N fun a J=>?_
 obtain ⟨w1,rfl,q,p,q0,y0,s0,u⟩:=h2.el l0 k0
 obtain ⟨t1,f1,u1,g1,rfl,w0,p1,q1,D0,I0,E0,J0⟩:=REx.fm u
 refine go0 J N fun a J=>?_
 refine Qq J N (fun a J=>?_) (o:=by exact fun _ _ _ J O=>vT ((most - n:Nat):Int) J rfl rfl (by rw [yC (by omega)];omega))
 refine zS call160 J N (fun w N a J=>?_) (c:=ih _ (by first | exact Ex.lt_args (mgQ p) | exact Ex.lt_arms (mgQ p)) (by omega) u N)
 refine Qq J N (fun a J=>?_) (o:=by exact fun _ _ _ J O=>z1w ((n+(jU q (most - n)):Nat):Int) J rfl rfl (by have h_:=mG q (most - n);rw [yC (by omega)];omega))
 refine go0 J N fun a J=>?_
 apply a0
 refine go0 J N fun a J=>?_
 refine Y _ _ _ (by subst y;omega) ⟨(i+1),(n+(jU q (most - n))),rfl,⟨J.pk,N⟩,?_⟩
 have h_:=mG q (most - n);exact ⟨by omega,by omega,by rw [b,zA p,q7e,if_pos (by omega)]⟩
 refine go0 J N fun a J=>?_
 apply m
 refine go0 J N fun a J=>?_
 exact r _ _ ⟨n,J.pk,N,⟨h,k,by rw [b,y4w (by omega)]⟩⟩
 refine go0 J N fun a J=>?_
 apply m
 refine go0 J N fun a J=>?_
 exact r _ _ ⟨n,J.pk,N,⟨h,k,by rw [b,y4w (by omega)]⟩⟩
theorem x3r {d:List Value} {e:Ex} {most:Nat} (h1:most<=1000000) (re:REx V d e) (N:Mem V K w) :
  Calls prog 160 #[.agg d.toArray,.int .i64 (most:Int)] w (fun ee w'=>ee=.returned (.int .i64 ((jU e most:Nat):Int))/\Mem V K w'):=by
 suffices H:∀n (e:Ex),e.sz < n->∀{V:Fz} {K:List Res} {w:World} {d:List Value} {most:Nat},most<=1000000->REx V d e->Mem V K w->Calls prog 160 #[.agg d.toArray,.int .i64 (most:Int)] w (fun ee w'=>ee=.returned (.int .i64 ((jU e most:Nat):Int))/\Mem V K w') from H _ e (Nat.lt_succ_self _) h1 re N
 intro n
 induction n with
 | zero=>intro e h;omega
 | succ n b=>intro e h V K w d most h1 re N;exact j1j re h1 (fun x c _ _ _ _ _ a r m=>b x (by omega) a r m) N
theorem y2t (l:List Bs) (s:Bs):has l s=oR l s:=rfl
theorem gG {v0:Value} {l:List Bs} (e:SliceOf RStr V 1 v0 l) (k:Cap v0) (N:Mem V K w) :
  Calls prog 110 #[v0] w (fun ee w'=>ee=.returned (.bool (aW l))/\Mem V K w'):=by
 obtain ⟨C,c0,rfl,z,u⟩:=e.fm
 have s:=k _ _ _ rfl
 refine zM func110 ntmps110 fun Q r a J=>?_
 refine go J N fun a J=>?_
 refine zV (J.ks [0]) N (fun R mm a w=>∃(i:Nat),mm=l.length - i/\R V [(3,.int .i64 ((i:Nat):Int))] [] a w/\(aW l=pH z3d (l.take i) (l.drop i))) (l.length - 0) ⟨0,rfl,⟨J.pk,N⟩,by rfl⟩ ?_
 clear N J
 rintro mm a w ⟨i,t,⟨J,N⟩,d⟩ B q
 refine go J N fun a J=>?_
 by_cases p:i < l.length
 refine Reg [1,1,1,2,0,1,1,1,1,1,1,1,1,1,2,0,1] [] J N fun w N a J=>?_
 refine go J N fun a J=>?_
 obtain ⟨A,rfl,f,b,g,y,v,m⟩:=e.el u p
 obtain rfl:g=[.string f]:=m
 refine zW call161 J N (fun h w N a J=>?_) (fun h w N a J=>?_) (c:=j6n N)
 refine go J N fun a J=>?_
 have n:=q7f e p
 refine Qq J N (fun a J=>?_) (o:=by exact fun _ _ _ J O=>q3i J rfl rfl rfl runUnderlying25 sizeOf9 (by omega))
 refine zW call87 J N (fun j w N a J=>?_) (fun j w N a J=>?_) (c:=z9x n N)
 refine zD r J N ?_
 exact zL N (by rw [d,zA b,pH];simp [y2t, *])
 refine go J N fun a J=>?_
 refine q _ _ _ (by subst t;omega) ⟨(i+1),rfl,⟨J.pk,N⟩,?_⟩
 rw [d,zA b,pH,xD b,show (z3d f && !has (l.take i) f)=true by simp [y2t, *]];rfl
 refine zD r J N ?_
 exact zL N (by rw [d,zA b,pH];simp [y2t, *])
 refine zD r J N ?_
 exact zL N (by rw [d,zE p];rfl)
end Go.Sw

namespace Go.Sw
open Go.Proofs.Tryz
open Go.Proofs
set_option maxRecDepth 20000
set_option maxHeartbeats 4000000
theorem kJ {b:Bool} (h:(!b)=false):b=true:=by cases b;cases h;rfl
theorem x3c {α:Type} {o:Option α} (h:o.isSome=false):o=none:=by cases o;rfl;cases h
theorem vQ {b:Bool} (h:(!b)=true):b=false:=by cases b;rfl;cases h
theorem q8t {V:Fz} {K:List Res} {w:World} {d0:List Value} {c:Core} {v1:Value} {vars:List Param} {d2:List Value} {e:Ex} (v:RCore V d0 c) (n:SliceOf RParam V 2 v1 vars) (T:REx V d2 e) (hL:Lim c) (O:pT e) (hb:vars.length+(zP e).length<=1000000) (ih:∀x:Ex,x.sz < e.sz->∀{V:Fz} {K:List Res} {w:World} {d0:List Value} {v1:Value} {vars:List Param} {d2:List Value},RCore V d0 c->SliceOf RParam V 2 v1 vars->REx V d2 x->pT x->vars.length+(zP x).length<=1000000->Mem V K w->Calls prog 111 #[.agg d0.toArray,v1,.agg d2.toArray] w (fun ee w'=>ee=.returned (.tuple #[.string (zQ c x vars).1,.bool (zQ c x vars).2])/\Mem V K w')) (N:Mem V K w) :
  Calls prog 162 #[.agg d0.toArray,v1,.agg d2.toArray] w (fun ee w'=>ee=.returned (.tuple #[.string (mW c e vars).1,.bool (mW c e vars).2])/\Mem V K w'):=by
 obtain ⟨p3,c4,p9,l2,I2,m2,J2,c22,rfl,h2,h8,s2,t2,D2,F2,F1,N1,G1,O1,H1,P1⟩:=RCore.fm v
 obtain ⟨p1,c1,rfl,C2,E2⟩:=n.fm
 obtain ⟨K2,n2,L2,o2,rfl,C1,R0,k0,I1,H0,J1,I0⟩:=REx.fm T
 refine zM func162 ntmps162 fun Q Y a J=>?_
 refine Bx J N fun i2 w N a J=>?_
 refine Bx J N fun j2 w N a J=>?_
 refine go J N fun a J=>?_
 by_cases w2:e.args.length=1
 refine go J N fun a J=>?_
 by_cases x2:e.name=(⟨#[]⟩:Bs)
 refine Reg [2,1,1,2,1,2,0,1,1,1,1,1] [0,1] J N fun w N a J=>?_
 have Z:¬(e.args.length≠1∨e.name≠sNo):=by simp [sNo, *]
 refine go J N fun a J=>?_
 have F0:0 < e.args.length:=by omega
 obtain ⟨P2,rfl,X,r,u1,E1,B,s⟩:=R0.el H0 F0
 obtain ⟨M2,p2,N2,c63,rfl,D1,y2,z2,K1,Q1,L1,R1⟩:=REx.fm s
 refine zS call111 J N (fun w N a J=>?_) (c:=ih _ (Ex.lt_args (mgQ r)) v n s ((qV O).2.1 _ (mgQ r)) (by have h_:=sS (mgQ r);omega) N)
 refine qH call118 J N (fun k1 w E0 N a J=>?_) (c:=z3m v N)
 obtain ⟨F,r2⟩:=k1
 obtain ⟨h,D⟩:=E0
 simp only at h D N J
 replace v:=RCore.mono _ _ _ _ h v
 replace n:=n.up h
 replace k0:=k0.up h
 replace T:=REx.mono _ _ _ _ h T
 replace B:=B.mono h
 replace s:=REx.mono _ _ _ _ h s
 replace N:=N.nf
 obtain ⟨R2,rfl,C0⟩:=id D
 obtain ⟨O2,q2,rfl,M1,J0⟩:=C0.fm
 refine Alc J N fun k2 w N a J=>?_
 refine Sto 0 J N fun w N a J=>?_
 refine go J N fun a J=>?_
 generalize A1:(!((zQ c X vars).2))=x0 at J
 cases x0
 refine go J N fun a J=>?_
 generalize B1:(!(yD c.datas ((zQ c X vars).1)).isSome)=y0 at J
 cases y0
 refine go J N fun a J=>?_
 by_cases A2:((yD c.datas ((zQ c X vars).1)).getD nL).cons.length=e.arms.length
 refine go J N fun a J=>?_
 have G0:=j9p (c:=c) (vars:=vars) Z r (by first | assumption | exact kJ (by assumption) | exact vQ (by assumption)) (by first | assumption | exact kJ (by assumption) | exact vQ (by assumption)) (by omega)
 refine go J N fun a J=>?_
 refine zV (J.ks [1,3,5,10]) N (fun R mm a w=>∃(i:Nat) (o:Bs),mm=e.arms.length - i/\R F [(12,.string o),(13,.int .i64 ((i:Nat):Int))] [] a w/\(mW c e vars=armsR c (e.arms.drop i) (((yD c.datas ((zQ c X vars).1)).getD nL).cons.drop i) (decide (i=0)) o vars)) (e.arms.length - 0) ⟨0,sNo,rfl,⟨J.pk,N⟩,G0⟩ ?_
 clear N J
 rintro mm a w ⟨i,o,a0,⟨J,N⟩,q⟩ f2 e0
 refine go J N fun a J=>?_
 by_cases D0:i < e.arms.length
 refine go J N fun a J=>?_
 obtain ⟨Q2,rfl,d,j,O0,W0,H,y⟩:=k0.el I0 D0
 obtain ⟨b2,m1,rfl,b0,A⟩:=RArm.iff.1 y
 obtain ⟨T1,o1,rfl,a1,p0⟩:=b0.fm
 obtain ⟨U1,q1,V1,r1,rfl,V0,w1,x1,b1,g1,d1,h1⟩:=REx.fm A
 refine Alc J N fun n1 w N a J=>?_
 refine Sto 0 J N fun w N a J=>?_
 refine Reg [1,2,1,2,1,1,1,2,1,1,1,2,1,1,2,1,1,1,2,1,1,1] [0,1,2,3] J N fun w N a J=>?_
 refine go J N fun a J=>?_
 have n0:i < ((yD c.datas ((zQ c X vars).1)).getD nL).cons.length:=by omega
 obtain ⟨Y1,rfl,f,p,P0,X0,I,z⟩:=C0.el J0 n0
 obtain ⟨c2,rfl,c0⟩:=id z
 obtain ⟨W1,s1,rfl,e1,q0⟩:=c0.fm
 refine go J N fun a J=>?_
 by_cases z0:d.con=f.name
 refine go J N fun a J=>?_
 by_cases A0:d.vars.length=f.fields.length
 refine go J N fun a J=>?_
 have C:¬(d.con≠f.name∨d.vars.length≠f.fields.length):=fun g=>g.elim (fun g=>g z0) (fun g=>g A0)
 refine st J rfl rfl rfl (mQ (sz:=2) (cs:=[]) J N rfl (z6n runUnderlying23 sizeOf72) rfl (by decide) fun v146 w N _ a J=>?_)
 refine go J N fun a J=>?_
 obtain ⟨G,P,t⟩:=id n
 refine st J rfl rfl rfl (kB 0 (xs:=[]) (news:=G) z3e J N rfl rfl rfl (P.rowIn N.toSees) (t.ones RParam.ones) (by intro n_ m_ K0 L0;have h_:=t.length;simp only [lnQ] at K0;omega) fun N0 w N a J=>?_)
 replace N:=N.nf
 refine go J N fun a J=>?_
 refine zV (J.ks [1,3,5,10,12,13,14]) N (fun R mm a w=>∃(k:Nat) (u:Value) (cs:List Value),mm=d.vars.length - k/\R F [(15,u),(16,.int .i64 ((k:Nat):Int))] [(0,.gs (u) 72 2 cs)] a w/\(k<=d.vars.length/\Chunks (RParam F) 2 cs (vars++jF (d.vars.take k) (f.fields.take k)))) (d.vars.length - 0) ⟨0,N0,G,rfl,⟨J.pk,N⟩,⟨Nat.zero_le _,by simpa [jF] using t⟩⟩ ?_
 clear N J
 rintro mm a w ⟨k,u,cs,a0,⟨J,N⟩,l0⟩ l1 m0
 replace N:=N.nf
 obtain ⟨B2,M⟩:=l0
 refine go J N fun a J=>?_
 by_cases B0:k < d.vars.length
 refine Reg [1,1,2,1,1,2,1,2,1,1,1,2,1,1,2,1,0,0,1] [1,2,3,4] J N fun w N a J=>?_
 refine go J N fun a J=>?_
 obtain ⟨Z1,rfl,U,t0,i0,Y0,S0,r0⟩:=b0.el p0 B0
 obtain rfl:i0=[.string U]:=r0
 refine go J N fun a J=>?_
 have o0:k < f.fields.length:=by omega
 obtain ⟨a2,rfl,W,u0,j0,Z0,T0,s0⟩:=c0.el q0 o0
 obtain rfl:j0=[.string W]:=s0
 refine yE J N fun a J=>?_
 refine qG J N fun e2 w N a J=>?_
 refine d_e J rfl rfl rfl (kB 1 (xs:=cs) (news:=[.string U,.string W]) z3e J N rfl rfl rfl (N.toSees.rowIn (i:=0) rfl) rfl (by intro n_ m_ K0 L0;have h_:=M.length;have v2:=q3u (mgQ j);rw [laQ] at h_;have u2:(jF (d.vars.take k) (f.fields.take k)).length<=k:=(by unfold jF;rw [List.length_map,List.length_zip,List.length_take];omega);simp only [lcQ,lnQ] at L0;omega) fun v175 w N=>⟨fun _=>N.sn (Fz.Le.refl _),fun a J=>?_⟩)
 replace N:=N.nf
 refine go J N fun a J=>?_
 replace N:=N.dl [0]
 refine m0 _ _ _ (by subst a0;omega) ⟨(k+1),(v175),((cs++[.string U,.string W])),rfl,⟨J.pk,by exact N⟩,?_⟩
 exact ⟨by omega,by rw [q7p t0 u0,<- List.append_assoc];exact Chunks.snoc (R:=RParam F) (k:=2) (x:=(⟨_,_⟩:Param)) rfl rfl M⟩
 refine go J N fun a J=>?_
 have L:=M
 rw [List.take_of_length_le (l:=d.vars) (by omega),List.take_of_length_le (l:=f.fields) (by omega)] at L
 have f0:=N
 clear N
 obtain ⟨w0,b,N,S⟩:=f0.freezeRow (i:=0) rfl
 clear f0
 replace v:=RCore.mono _ _ _ _ b v
 replace T:=REx.mono _ _ _ _ b T
 replace B:=B.mono b
 replace s:=REx.mono _ _ _ _ b s
 replace D:=RData.mono _ _ _ _ b D
 replace H:=H.mono b
 replace y:=RArm.mono _ _ _ _ b y
 replace A:=REx.mono _ _ _ _ b A
 replace I:=I.mono b
 replace z:=RCon.mono _ _ _ _ b z
 replace N:=N.nf
 have E:SliceOf RParam w0 2 _ ((vars++jF d.vars f.fields)):=⟨_,S,L⟩
 obtain ⟨X1,t1,j1,f1,i1⟩:=E.form (by decide)
 have g0:=N
 clear N
 subst j1
 have N:=g0
 clear g0
 refine zS call111 J N (fun w N a J=>?_) (c:=ih _ (Ex.lt_arms (mgQ j)) v E A ((qV O).2.2 _ (mgQ j)).1 (by have h_:=q3u (mgQ j);rw [laQ,show (jF d.vars f.fields).length=d.vars.length by unfold jF;rw [List.length_map,List.length_zip];omega];omega) N)
 refine go J N fun a J=>?_
 generalize U0:(!((zQ c d.body (vars++jF d.vars f.fields)).2))=h0 at J
 cases h0
 refine go J N fun a J=>?_
 by_cases y1:0 < i
 refine go J N fun a J=>?_
 by_cases z1:(zQ c d.body (vars++jF d.vars f.fields)).1=o
 refine go J N fun a J=>?_
 replace N:=N.le (b)
 replace N:=N.dl [0]
 refine e0 _ _ _ (by subst a0;omega) ⟨(i+1),((zQ c d.body (vars++jF d.vars f.fields)).1),rfl,⟨J.pk,by exact N⟩,?_⟩
 rw [q,zA j,zA p,nD,if_neg C,if_neg (by rintro (g | ⟨g,g2⟩);exact absurd (g.symm.trans ((by first | assumption | exact kJ (by assumption) | exact vQ (by assumption)):(zQ c d.body (vars++jF d.vars f.fields)).2=true)) (by decide);first | exact g2 (by assumption) | (have:=of_decide_eq_false g;omega))];rfl
 refine go J N fun a J=>?_
 replace N:=N.le ((h).trans b)
 replace N:=N.dl [3,2,1,0]
 refine jV Y J N ?_
 have m:mW c e vars=((⟨#[]⟩:Bs),false):=by rw [q,zA j,zA p,nD,if_neg C];exact if_pos (by first | exact .inl (by first | assumption | exact kJ (by assumption) | exact vQ (by assumption)) | exact .inr ⟨decide_eq_false (by omega),by assumption⟩)
 show _/\_;rw [m];exact ⟨rfl,N⟩
 refine go J N fun a J=>?_
 replace N:=N.le (b)
 replace N:=N.dl [0]
 refine e0 _ _ _ (by subst a0;omega) ⟨(i+1),((zQ c d.body (vars++jF d.vars f.fields)).1),rfl,⟨J.pk,by exact N⟩,?_⟩
 rw [q,zA j,zA p,nD,if_neg C,if_neg (by rintro (g | ⟨g,g2⟩);exact absurd (g.symm.trans ((by first | assumption | exact kJ (by assumption) | exact vQ (by assumption)):(zQ c d.body (vars++jF d.vars f.fields)).2=true)) (by decide);first | exact g2 (by assumption) | (have:=of_decide_eq_false g;omega))];rfl
 refine go J N fun a J=>?_
 replace N:=N.le ((h).trans b)
 replace N:=N.dl [3,2,1,0]
 refine jV Y J N ?_
 have m:mW c e vars=((⟨#[]⟩:Bs),false):=by rw [q,zA j,zA p,nD,if_neg C];exact if_pos (by first | exact .inl (by first | assumption | exact kJ (by assumption) | exact vQ (by assumption)) | exact .inr ⟨decide_eq_false (by omega),by assumption⟩)
 show _/\_;rw [m];exact ⟨rfl,N⟩
 refine go J N fun a J=>?_
 replace N:=N.le (h)
 replace N:=N.dl [3,2,1,0]
 refine jV Y J N ?_
 have m:mW c e vars=((⟨#[]⟩:Bs),false):=by rw [q,zA j,zA p,nD];exact if_pos (by first | exact .inl (by assumption) | exact .inr (by assumption))
 show _/\_;rw [m];exact ⟨rfl,N⟩
 refine go J N fun a J=>?_
 replace N:=N.le (h)
 replace N:=N.dl [3,2,1,0]
 refine jV Y J N ?_
 have m:mW c e vars=((⟨#[]⟩:Bs),false):=by rw [q,zA j,zA p,nD];exact if_pos (by first | exact .inl (by assumption) | exact .inr (by assumption))
 show _/\_;rw [m];exact ⟨rfl,N⟩
 refine go J N fun a J=>?_
 replace N:=N.le (h)
 replace N:=N.dl [2,1,0]
 refine jV Y J N ?_
 have m:mW c e vars=(o,true):=by rw [q,zE D0];rfl
 show _/\_;rw [m];exact ⟨rfl,N⟩
 refine go J N fun a J=>?_
 replace N:=N.le (h)
 replace N:=N.dl [2,1,0]
 refine jV Y J N ?_
 have m:mW c e vars=((⟨#[]⟩:Bs),false):=by exact z6o Z r (by first | exact .inl (by first | assumption | exact kJ (by assumption) | exact vQ (by assumption)) | exact .inr (.inl (by first | assumption | exact kJ (by assumption) | exact vQ (by assumption))) | exact .inr (.inr (by omega)))
 show _/\_;rw [m];exact ⟨rfl,N⟩
 refine go J N fun a J=>?_
 replace N:=N.le (h)
 replace N:=N.dl [2,1,0]
 refine jV Y J N ?_
 have m:mW c e vars=((⟨#[]⟩:Bs),false):=by exact z6o Z r (by first | exact .inl (by first | assumption | exact kJ (by assumption) | exact vQ (by assumption)) | exact .inr (.inl (by first | assumption | exact kJ (by assumption) | exact vQ (by assumption))) | exact .inr (.inr (by omega)))
 show _/\_;rw [m];exact ⟨rfl,N⟩
 refine go J N fun a J=>?_
 replace N:=N.le (h)
 replace N:=N.dl [2,1,0]
 refine jV Y J N ?_
 have m:mW c e vars=((⟨#[]⟩:Bs),false):=by exact z6o Z r (by first | exact .inl (by first | assumption | exact kJ (by assumption) | exact vQ (by assumption)) | exact .inr (.inl (by first | assumption | exact kJ (by assumption) | exact vQ (by assumption))) | exact .inr (.inr (by omega)))
 show _/\_;rw [m];exact ⟨rfl,N⟩
 refine go J N fun a J=>?_
 replace N:=N.dl [1,0]
 refine jV Y J N ?_
 have m:mW c e vars=((⟨#[]⟩:Bs),false):=by exact q4a (by simp [sNo, *])
 show _/\_;rw [m];exact ⟨rfl,N⟩
 refine go J N fun a J=>?_
 replace N:=N.dl [1,0]
 refine jV Y J N ?_
 have m:mW c e vars=((⟨#[]⟩:Bs),false):=by exact q4a (by simp [sNo, *])
 show _/\_;rw [m];exact ⟨rfl,N⟩
theorem j1z {V:Fz} {K:List Res} {w:World} {d0:List Value} {c:Core} {v1:Value} {vars:List Param} {d2:List Value} {e:Ex} (n:RCore V d0 c) (d:SliceOf RParam V 2 v1 vars) (A:REx V d2 e) (hL:Lim c) (O:pT e) (hb:vars.length+(zP e).length<=1000000) (ih:∀x:Ex,x.sz < e.sz->∀{V:Fz} {K:List Res} {w:World} {d0:List Value} {v1:Value} {vars:List Param} {d2:List Value},RCore V d0 c->SliceOf RParam V 2 v1 vars->REx V d2 x->pT x->vars.length+(zP x).length<=1000000->Mem V K w->Calls prog 111 #[.agg d0.toArray,v1,.agg d2.toArray] w (fun ee w'=>ee=.returned (.tuple #[.string (zQ c x vars).1,.bool (zQ c x vars).2])/\Mem V K w')) (N:Mem V K w) :
  Calls prog 111 #[.agg d0.toArray,v1,.agg d2.toArray] w (fun ee w'=>ee=.returned (.tuple #[.string (zQ c e vars).1,.bool (zQ c e vars).2])/\Mem V K w'):=by
 obtain ⟨p3,c4,p9,Z1,t4,a2,t3,c22,rfl,h2,h8,L,f9,o9,q9,L7,o4,M7,p4,N7,Q7⟩:=RCore.fm n
 obtain ⟨p1,c1,rfl,n9,z5⟩:=d.fm
 obtain ⟨u3,b2,v3,c2,rfl,I7,j0,g9,O7,P1,P7,R7⟩:=REx.fm A
 refine zM func111 ntmps111 fun Q hQ a J=>?_
 refine sq fun A8 Q3=>?_
 refine go0 J N fun a J=>?_
 refine Bx J N fun u1 w N a J=>?_
 refine Bx J N fun w1 w N a J=>?_
 refine go0 J N fun a J=>?_
 apply Q3
 refine sq fun E4 R3=>?_
 have B0:∀a w,(EnvR 268 [(1,.slice p1 vars.length c1),(3,.pointer (some ⟨u1,0,none⟩)),(5,.pointer (some ⟨w1,0,none⟩))] [] a/\Mem V (.blk w1 (ob [.int .i64 (e.kind),.int .i64 (e.num),.string e.name,.slice u3 e.args.length b2,.slice v3 e.arms.length c2] 66)::.blk u1 (ob [.slice p3 c.datas.length c4,.slice p9 c.inputs.length Z1,.slice t4 c.funs.length a2,.slice t3 c.outputs.length c22] 27)::K) w/\(¬aV e))->E4 a w:=by
  clear N J
  rintro a w ⟨J,N,O3⟩
  apply R3
  have z:=O3
  refine sq fun B8 S3=>?_
  refine sq fun C8 T3=>?_
  refine go0 J N fun a J=>?_
  apply T3
  refine go0 J N fun a J=>?_
  refine sq fun D8 F1=>?_
  refine go0 J N fun a J=>?_
  by_cases n0:e.kind=1
  refine go0 J N fun a J=>?_
  apply F1
  refine go0 J N fun a J=>?_
  refine sq fun E8 G1=>?_
  refine Reg [1,2,1,1,1,2,1,1,1,1,1] [0,1] J N fun w N a J=>?_
  refine go0 J N fun a J=>?_
  by_cases h9:e.name=(⟨#[]⟩:Bs)
  refine go0 J N fun a J=>?_
  refine Qq J N (fun a J=>?_) (o:=by exact fun _ _ _ J O=>wX (i:=e.args.length) (j:=0) J rfl rfl)
  refine go0 J N fun a J=>?_
  apply G1
  refine go0 J N fun a J=>?_
  replace N:=N.dl [1,0]
  refine jV hQ J N ?_
  have b:zQ c e vars=((⟨#[73,110,116]⟩:Bs),(decide (e.args.length=0))):=by rw [j4l z (by assumption)];simp [sNo,yA, *]
  show _/\_;rw [b];exact ⟨rfl,N⟩
  refine go0 J N fun a J=>?_
  apply G1
  refine go0 J N fun a J=>?_
  replace N:=N.dl [1,0]
  refine jV hQ J N ?_
  have b:zQ c e vars=((⟨#[73,110,116]⟩:Bs),false):=by rw [j4l z (by assumption)];simp [sNo,yA, *]
  show _/\_;rw [b];exact ⟨rfl,N⟩
  refine go0 J N fun a J=>?_
  apply F1
  refine go0 J N fun a J=>?_
  refine sq fun F8 H1=>?_
  refine go0 J N fun a J=>?_
  by_cases o0:e.kind=2
  refine go0 J N fun a J=>?_
  apply H1
  refine go0 J N fun a J=>?_
  refine sq fun G8 U3=>?_
  refine sq fun H8 V3=>?_
  refine go0 J N fun a J=>?_
  refine Qq J N (fun a J=>?_) (o:=by exact fun _ _ _ J O=>vT (((vars.length:Nat):Int) - 1) J rfl rfl (yC (by omega)))
  refine go0 J N fun a J=>?_
  apply V3
  refine go0 J N fun a J=>?_
  refine zV (J.ks [1,5]) N (fun R mm a w=>∃(k:Nat),mm=k/\R V [(8,.int .i64 (((k:Nat):Int) - 1))] [] a w/\(k<=vars.length/\dQ vars e.name=dQ (vars.take k) e.name)) (vars.length) ⟨vars.length,rfl,⟨J.pk,N⟩,⟨Nat.le_refl _,by rw [List.take_length]⟩⟩ ?_
  clear N J
  rintro mm a w ⟨k,k0,⟨J,N⟩,P3⟩ I8 W3
  obtain ⟨m9,j3⟩:=P3
  refine sq fun J8 X3=>?_
  refine sq fun K8 I1=>?_
  refine go0 J N fun a J=>?_
  by_cases i9:0<=((k:Nat):Int) - 1
  refine go0 J N fun a J=>?_
  apply I1
  refine go0 J N fun a J=>?_
  apply X3
  refine sq fun L8 Y3=>?_
  refine go0 J N fun a J=>?_
  refine sq fun M8 J1=>?_
  refine Reg [1,1,1,1,2,1,2,1] [0,1] J N fun w N a J=>?_
  rw [show ((k:Nat):Int) - 1=((k - 1:Nat):Int) by omega] at J
  refine go0 J N fun a J=>?_
  have l4:(k - 1) < vars.length:=by omega
  obtain ⟨s9,rfl,B4,R1,n7,J7,G7,q4⟩:=d.el z5 l4
  obtain rfl:=id q4
  by_cases L3:B4.name=e.name
  refine go0 J N fun a J=>?_
  apply J1
  refine go0 J N fun a J=>?_
  refine sq fun N8 Z3=>?_
  refine Reg [1,1,1,1,2,1,2,1,1,1,1] [0,1] J N fun w N a J=>?_
  refine go0 J N fun a J=>?_
  refine Qq J N (fun a J=>?_) (o:=by exact fun _ _ _ J O=>wX (i:=e.args.length) (j:=0) J rfl rfl)
  refine go0 J N fun a J=>?_
  apply Z3
  refine go0 J N fun a J=>?_
  replace N:=N.dl [1,0]
  refine jV hQ J N ?_
  have b:zQ c e vars=(B4.type,(decide (e.args.length=0))):=by rw [j4m z (by assumption),j3,show k=(k - 1)+1 by omega,xD R1,z1a,if_pos L3]
  show _/\_;rw [b];exact ⟨rfl,N⟩
  refine go0 J N fun a J=>?_
  apply J1
  refine go0 J N fun a J=>?_
  apply Y3
  refine go0 J N fun a J=>?_
  refine Qq J N (fun a J=>?_) (o:=by exact fun _ _ _ J O=>vT (((k - 1:Nat):Int) - 1) J rfl rfl (yC (by omega)))
  refine go0 J N fun a J=>?_
  refine W3 _ _ _ (by subst k0;omega) ⟨(k - 1),rfl,⟨J.pk,N⟩,?_⟩
  exact ⟨by omega,by rw [j3,show k=(k - 1)+1 by omega,xD R1,z1a,if_neg L3];rfl⟩
  refine go0 J N fun a J=>?_
  apply I1
  refine go0 J N fun a J=>?_
  apply U3
  refine sq fun O8 a4=>?_
  refine go0 J N fun a J=>?_
  apply a4
  refine go0 J N fun a J=>?_
  replace N:=N.dl [1,0]
  refine jV hQ J N ?_
  have b:zQ c e vars=((⟨#[]⟩:Bs),false):=by rw [j4m z (by assumption),j3,show k=0 by omega];rfl
  show _/\_;rw [b];exact ⟨rfl,N⟩
  refine go0 J N fun a J=>?_
  apply H1
  refine go0 J N fun a J=>?_
  refine sq fun P8 K1=>?_
  refine go0 J N fun a J=>?_
  by_cases p0:e.kind=3
  refine go0 J N fun a J=>?_
  apply K1
  refine go0 J N fun a J=>?_
  refine sq fun Q8 b4=>?_
  refine sq fun R8 d4=>?_
  refine go0 J N fun a J=>?_
  apply d4
  refine go0 J N fun a J=>?_
  refine zV (J.ks [3,5]) N (fun R mm a w=>∃(i:Nat),mm=c.inputs.length - i/\R V [(9,.int .i64 ((i:Nat):Int))] [] a w/\(z7j c.inputs e.name=z7j (c.inputs.drop i) e.name)) (c.inputs.length - 0) ⟨0,rfl,⟨J.pk,N⟩,rfl⟩ ?_
  clear N J
  rintro mm a w ⟨i,k0,⟨J,N⟩,L0⟩ S8 e4
  refine sq fun T8 f4=>?_
  refine sq fun U8 L1=>?_
  refine go0 J N fun a J=>?_
  by_cases M3:i < c.inputs.length
  refine go0 J N fun a J=>?_
  apply L1
  refine go0 J N fun a J=>?_
  apply f4
  refine sq fun V8 g4=>?_
  refine go0 J N fun a J=>?_
  refine sq fun W8 M1=>?_
  refine Reg [1,2,1,1,1,2,1,2,1] [0,1] J N fun w N a J=>?_
  refine go0 J N fun a J=>?_
  obtain ⟨t9,rfl,C4,S1,o7,K7,H7,r4⟩:=h8.el o4 M3
  obtain rfl:=id r4
  refine go0 J N fun a J=>?_
  by_cases N3:C4.name=e.name
  refine go0 J N fun a J=>?_
  apply M1
  refine go0 J N fun a J=>?_
  refine sq fun X8 h4=>?_
  refine Reg [1,2,1,1,1,2,1,2,1,1,1,1] [0,1] J N fun w N a J=>?_
  refine go0 J N fun a J=>?_
  refine Qq J N (fun a J=>?_) (o:=by exact fun _ _ _ J O=>wX (i:=e.args.length) (j:=0) J rfl rfl)
  refine go0 J N fun a J=>?_
  apply h4
  refine go0 J N fun a J=>?_
  replace N:=N.dl [1,0]
  refine jV hQ J N ?_
  have b:zQ c e vars=(C4.type,(decide (e.args.length=0))):=by rw [j4n z (by assumption),L0,zA S1,z7j,if_pos N3]
  show _/\_;rw [b];exact ⟨rfl,N⟩
  refine go0 J N fun a J=>?_
  apply M1
  refine go0 J N fun a J=>?_
  apply g4
  refine go0 J N fun a J=>?_
  refine e4 _ _ _ (by subst k0;omega) ⟨(i+1),rfl,⟨J.pk,N⟩,?_⟩
  rw [L0,zA S1,z7j,if_neg N3]
  refine go0 J N fun a J=>?_
  apply L1
  refine go0 J N fun a J=>?_
  apply b4
  refine sq fun Y8 i4=>?_
  refine go0 J N fun a J=>?_
  apply i4
  refine go0 J N fun a J=>?_
  replace N:=N.dl [1,0]
  refine jV hQ J N ?_
  have b:zQ c e vars=((⟨#[]⟩:Bs),false):=by rw [j4n z (by assumption),L0,zE M3];rfl
  show _/\_;rw [b];exact ⟨rfl,N⟩
  refine go0 J N fun a J=>?_
  apply K1
  refine go0 J N fun a J=>?_
  refine sq fun Z8 N1=>?_
  refine go0 J N fun a J=>?_
  by_cases b0:e.kind=6
  refine go0 J N fun a J=>?_
  apply N1
  refine go0 J N fun a J=>?_
  refine sq fun a9 j4=>?_
  refine sq fun b9 O1=>?_
  refine go0 J N fun a J=>?_
  by_cases k9:e.args.length=2
  refine go0 J N fun a J=>?_
  apply O1
  refine go0 J N fun a J=>?_
  apply j4
  refine sq fun d9 k4=>?_
  refine Reg [2,1,1,2,1,2,0,1,1,1,1,1] [0,1] J N fun w N a J=>?_
  refine go0 J N fun a J=>?_
  have m4:0 < e.args.length:=by omega
  obtain ⟨g8,rfl,f,G,F4,Z4,M,B⟩:=j0.el P1 m4
  obtain ⟨S7,b7,T7,c7,rfl,U4,q7,r7,g5,A5,h5,B5⟩:=REx.fm B
  refine go0 J N fun a J=>?_
  refine zS call111 J N (fun w N a J=>?_) (c:=ih _ (Ex.lt_args (mgQ G)) n d B ((qV O).2.1 _ (mgQ G)) (by have h_:=sS (mgQ G);omega) N)
  refine go0 J N fun a J=>?_
  apply k4
  refine sq fun R5 k2=>?_
  refine sq fun S5 l2=>?_
  refine go0 J N fun a J=>?_
  apply l2
  generalize Q4:(!((zQ c f vars).2))=W1 at J
  cases W1
  refine go0 J N fun a J=>?_
  apply k2
  refine sq fun T5 x0=>?_
  refine yZ [2,0,1,0,1,2,1,1,0,0,1,2,1,2,0,1,1,1,1] (.q 0 (.q 2 (.q 4 (.q 5 (.q 6 (.q 7 (.q 10 (.q 11 (.q 12 (.q 13 (.e2 1 8 (.e2 3 8 (.e 8 (.e 9 (.e 14 (.q 15 (.q 16 (.q 17 (.q 18 (.done)))))))) (.e 3 (.e 9 (.e 14 (.q 15 (.q 16 (.q 17 (.q 18 (.done))))))))) (.e 1 (.e 3 (.e 9 (.e 14 (.q 15 (.q 16 (.q 17 (.q 18 (.done)))))))))))))))))))) [0,1] J N fun w N=>?_
  refine go0 J N fun a J=>?_
  refine yE J N fun a J=>?_
  refine go0 J N fun a J=>?_
  have g3:1 < e.args.length:=by omega
  obtain ⟨i0,m⟩:=qX g3
  obtain ⟨G4,a5,P,p⟩:=j0.elem m
  obtain ⟨U7,c135,V7,d7,rfl,V4,s7,t7,i5,C5,j5,D5⟩:=REx.fm p
  refine go0 J N fun a J=>?_
  refine aR ?_ ?_
  refine d_e J rfl rfl rfl (mQ (sz:=2) (cs:=[]) J N rfl (z6n runUnderlying23 sizeOf72) rfl (by decide) fun v145 w N _=>⟨fun _=>N.sn (Fz.Le.refl _),fun a J=>?_⟩)
  refine aR ?_ ?_
  obtain ⟨s0,a1,X⟩:=id d
  refine d_e J rfl rfl rfl (kB 0 (xs:=[]) (news:=s0) z3e J N rfl rfl rfl (a1.rowIn N.toSees) (X.ones RParam.ones) (by intro n_ m_ q0 r0;have h_:=X.length;simp only [lnQ] at q0;omega) fun v146 w N=>⟨fun _=>N.sn (Fz.Le.refl _),fun a J=>?_⟩)
  replace N:=N.nf
  refine qG J N fun o8 w N a J=>?_
  refine d_e J rfl rfl rfl (kB 1 (xs:=s0) (news:=[.string e.name,.string (zQ c f vars).1]) z3e J N rfl rfl rfl (N.toSees.rowIn (i:=0) rfl) rfl (by intro n_ m_ q0 r0;have h_:=X.length;simp only [lcQ,lnQ] at r0;omega) fun p8 w N=>⟨fun _=>N.sn (Fz.Le.refl _),fun a J=>?_⟩)
  replace N:=N.nf
  have x1:Chunks (RParam V) 2 (s0++[.string e.name,.string (zQ c f vars).1]) (vars++[⟨e.name,(zQ c f vars).1⟩]):=Chunks.snoc (R:=RParam V) (k:=2) (x:=(⟨e.name,(zQ c f vars).1⟩:Param)) rfl rfl X
  have g:=N
  clear N
  obtain ⟨w3,r,N,b1⟩:=g.freezeRow (i:=1) rfl
  clear g
  replace L:=L.up r
  replace n:=RCore.mono _ _ _ _ r n
  replace d:=d.up r
  replace j0:=j0.up r
  replace A:=REx.mono _ _ _ _ r A
  replace M:=M.mono r
  replace B:=REx.mono _ _ _ _ r B
  replace P:=P.mono r
  replace p:=REx.mono _ _ _ _ r p
  replace N:=N.nf
  have C0:SliceOf RParam w3 2 _ ((vars++[⟨e.name,(zQ c f vars).1⟩])):=⟨_,b1,x1⟩
  obtain ⟨W7,e7,F,k5,E5⟩:=C0.form (by decide)
  have h:=N
  clear N
  subst F
  have N:=h
  clear h
  refine zS call111 J N (fun w N a J=>?_) (c:=ih _ (Ex.lt_args (mgQ m)) n C0 p ((qV O).2.1 _ (mgQ m)) (by have h_:=sS (mgQ m);rw [if_pos b0] at h_;rw [laQ,lcQ,lnQ];omega) N)
  refine go0 J N fun a J=>?_
  apply x0
  refine go0 J N fun a J=>?_
  replace N:=N.le (r)
  replace N:=N.dl [2,1,0]
  refine jV hQ J N ?_
  have b:zQ c e vars=((zQ c i0 (vars++[⟨e.name,(zQ c f vars).1⟩])).1,((zQ c i0 (vars++[⟨e.name,(zQ c f vars).1⟩])).2)):=by rw [z6d z (by assumption)];exact y3i (by assumption) G m (by first | assumption | exact kJ (by assumption) | exact vQ (by assumption))
  show _/\_;rw [b];exact ⟨rfl,N⟩
  refine qG J N fun q8 w N a J=>?_
  obtain ⟨t0,d1,Y⟩:=id d
  refine d_e J rfl rfl rfl (kB 1 (xs:=[]) (news:=t0) z3e J N rfl rfl rfl (d1.rowIn N.toSees) (Y.ones RParam.ones) (by intro n_ m_ q0 r0;have h_:=Y.length;simp only [lnQ] at q0;omega) fun r8 w N=>⟨fun _=>N.sn (Fz.Le.refl _),fun a J=>?_⟩)
  replace N:=N.nf
  refine d_e J rfl rfl rfl (kB 1 (xs:=t0) (news:=[.string e.name,.string (zQ c f vars).1]) z3e J N rfl rfl rfl (N.toSees.rowIn (i:=0) rfl) rfl (by intro n_ m_ q0 r0;have h_:=Y.length;simp only [lcQ,lnQ] at r0;omega) fun s8 w N=>⟨fun _=>N.sn (Fz.Le.refl _),fun a J=>?_⟩)
  replace N:=N.nf
  have y1:Chunks (RParam V) 2 (t0++[.string e.name,.string (zQ c f vars).1]) (vars++[⟨e.name,(zQ c f vars).1⟩]):=Chunks.snoc (R:=RParam V) (k:=2) (x:=(⟨e.name,(zQ c f vars).1⟩:Param)) rfl rfl Y
  have g:=N
  clear N
  obtain ⟨x3,s,N,e1⟩:=g.freezeRow (i:=1) rfl
  clear g
  replace L:=L.up s
  replace n:=RCore.mono _ _ _ _ s n
  replace d:=d.up s
  replace j0:=j0.up s
  replace A:=REx.mono _ _ _ _ s A
  replace M:=M.mono s
  replace B:=REx.mono _ _ _ _ s B
  replace P:=P.mono s
  replace p:=REx.mono _ _ _ _ s p
  replace N:=N.nf
  have D0:SliceOf RParam x3 2 _ ((vars++[⟨e.name,(zQ c f vars).1⟩])):=⟨_,e1,y1⟩
  obtain ⟨X7,c173,F,l5,F5⟩:=D0.form (by decide)
  have h:=N
  clear N
  subst F
  have N:=h
  clear h
  refine zS call111 J N (fun w N a J=>?_) (c:=ih _ (Ex.lt_args (mgQ m)) n D0 p ((qV O).2.1 _ (mgQ m)) (by have h_:=sS (mgQ m);rw [if_pos b0] at h_;rw [laQ,lcQ,lnQ];omega) N)
  refine go0 J N fun a J=>?_
  apply x0
  refine go0 J N fun a J=>?_
  replace N:=N.le (s)
  replace N:=N.dl [2,1,0]
  refine jV hQ J N ?_
  have b:zQ c e vars=((zQ c i0 (vars++[⟨e.name,(zQ c f vars).1⟩])).1,((zQ c i0 (vars++[⟨e.name,(zQ c f vars).1⟩])).2)):=by rw [z6d z (by assumption)];exact y3i (by assumption) G m (by first | assumption | exact kJ (by assumption) | exact vQ (by assumption))
  show _/\_;rw [b];exact ⟨rfl,N⟩
  refine qG J N fun t8 w N a J=>?_
  refine d_e J rfl rfl rfl (mQ (sz:=2) (cs:=[]) J N rfl (z6n runUnderlying23 sizeOf72) rfl (by decide) fun u8 w N _=>⟨fun _=>N.sn (Fz.Le.refl _),fun a J=>?_⟩)
  obtain ⟨u0,f1,Z⟩:=id d
  refine d_e J rfl rfl rfl (kB 0 (xs:=[]) (news:=u0) z3e J N rfl rfl rfl (f1.rowIn N.toSees) (Z.ones RParam.ones) (by intro n_ m_ q0 r0;have h_:=Z.length;simp only [lnQ] at q0;omega) fun v8 w N=>⟨fun _=>N.sn (Fz.Le.refl _),fun a J=>?_⟩)
  replace N:=N.nf
  refine d_e J rfl rfl rfl (kB 0 (xs:=u0) (news:=[.string e.name,.string (zQ c f vars).1]) z3e J N rfl rfl rfl (N.toSees.rowIn (i:=1) rfl) rfl (by intro n_ m_ q0 r0;have h_:=Z.length;simp only [lcQ,lnQ] at r0;omega) fun w8 w N=>⟨fun _=>N.sn (Fz.Le.refl _),fun a J=>?_⟩)
  replace N:=N.nf
  have z1:Chunks (RParam V) 2 (u0++[.string e.name,.string (zQ c f vars).1]) (vars++[⟨e.name,(zQ c f vars).1⟩]):=Chunks.snoc (R:=RParam V) (k:=2) (x:=(⟨e.name,(zQ c f vars).1⟩:Param)) rfl rfl Z
  have g:=N
  clear N
  obtain ⟨y3,t,N,g1⟩:=g.freezeRow (i:=0) rfl
  clear g
  replace L:=L.up t
  replace n:=RCore.mono _ _ _ _ t n
  replace d:=d.up t
  replace j0:=j0.up t
  replace A:=REx.mono _ _ _ _ t A
  replace M:=M.mono t
  replace B:=REx.mono _ _ _ _ t B
  replace P:=P.mono t
  replace p:=REx.mono _ _ _ _ t p
  replace N:=N.nf
  have E0:SliceOf RParam y3 2 _ ((vars++[⟨e.name,(zQ c f vars).1⟩])):=⟨_,g1,z1⟩
  obtain ⟨Y7,f7,F,m5,G5⟩:=E0.form (by decide)
  have h:=N
  clear N
  subst F
  have N:=h
  clear h
  refine zS call111 J N (fun w N a J=>?_) (c:=ih _ (Ex.lt_args (mgQ m)) n E0 p ((qV O).2.1 _ (mgQ m)) (by have h_:=sS (mgQ m);rw [if_pos b0] at h_;rw [laQ,lcQ,lnQ];omega) N)
  refine go0 J N fun a J=>?_
  apply x0
  refine go0 J N fun a J=>?_
  replace N:=N.le (t)
  replace N:=N.dl [2,1,0]
  refine jV hQ J N ?_
  have b:zQ c e vars=((zQ c i0 (vars++[⟨e.name,(zQ c f vars).1⟩])).1,((zQ c i0 (vars++[⟨e.name,(zQ c f vars).1⟩])).2)):=by rw [z6d z (by assumption)];exact y3i (by assumption) G m (by first | assumption | exact kJ (by assumption) | exact vQ (by assumption))
  show _/\_;rw [b];exact ⟨rfl,N⟩
  refine go0 J N fun a J=>?_
  refine sq fun U5 m2=>?_
  refine go0 J N fun a J=>?_
  apply m2
  refine go0 J N fun a J=>?_
  replace N:=N.dl [1,0]
  refine jV hQ J N ?_
  have b:zQ c e vars=((⟨#[]⟩:Bs),false):=by rw [z6d z (by assumption)];exact j0b G (by first | assumption | exact kJ (by assumption) | exact vQ (by assumption))
  show _/\_;rw [b];exact ⟨rfl,N⟩
  refine go0 J N fun a J=>?_
  apply O1
  refine go0 J N fun a J=>?_
  refine sq fun V5 n2=>?_
  refine go0 J N fun a J=>?_
  apply n2
  refine go0 J N fun a J=>?_
  replace N:=N.dl [1,0]
  refine jV hQ J N ?_
  have b:zQ c e vars=((⟨#[]⟩:Bs),false):=by rw [z6d z (by assumption)];exact letR_no (by assumption)
  show _/\_;rw [b];exact ⟨rfl,N⟩
  refine go0 J N fun a J=>?_
  apply N1
  refine go0 J N fun a J=>?_
  refine sq fun W5 M0=>?_
  refine go0 J N fun a J=>?_
  by_cases W:e.kind=7
  refine go0 J N fun a J=>?_
  apply M0
  refine go0 J N fun a J=>?_
  refine sq fun X5 o2=>?_
  refine go0 J N fun a J=>?_
  refine zS call162 J N (fun w N a J=>?_) (c:=q8t n d A hL O hb ih N)
  refine go0 J N fun a J=>?_
  apply o2
  refine go0 J N fun a J=>?_
  replace N:=N.dl [1,0]
  refine jV hQ J N ?_
  have b:zQ c e vars=((mW c e vars).1,((mW c e vars).2)):=by exact typeR_7 z (by assumption)
  show _/\_;rw [b];exact ⟨rfl,N⟩
  refine go0 J N fun a J=>?_
  apply M0
  refine go0 J N fun a J=>?_
  apply S3
  refine sq fun Y5 p2=>?_
  refine go0 J N fun a J=>?_
  apply p2
  refine sq fun Z5 q2=>?_
  refine sq fun a6 r2=>?_
  refine go0 J N fun a J=>?_
  apply r2
  refine go0 J N fun a J=>?_
  replace N:=N.nilRow 9 1
  replace N:=N.nf
  refine zV (J.ks [1,3,5]) N (fun R mm a w=>∃(i:Nat) (u:Value) (ts:List Bs),mm=e.args.length - i/\R V [(12,u),(13,.int .i64 ((i:Nat):Int))] [(0,.gs (u) 9 1 (strs ts))] a w/\(ts.length=i/\typesR c e.args vars=(ts++(typesR c (e.args.drop i) vars).1,(typesR c (e.args.drop i) vars).2))) (e.args.length - 0) ⟨0,.slice none 0 0,[],rfl,⟨J.pk,N⟩,⟨rfl,rfl⟩⟩ ?_
  clear N J
  rintro mm a w ⟨i,u,ts,k0,⟨J,N⟩,j2⟩ b6 s2
  replace N:=N.nf
  obtain ⟨n4,r3⟩:=j2
  refine sq fun c6 t2=>?_
  refine sq fun d6 N0=>?_
  refine go0 J N fun a J=>?_
  by_cases A1:i < e.args.length
  refine go0 J N fun a J=>?_
  apply N0
  refine go0 J N fun a J=>?_
  apply t2
  refine sq fun e6 u2=>?_
  refine go0 J N fun a J=>?_
  refine sq fun f6 v2=>?_
  refine Reg [2,1,1,2,1,1,2,0,1,1,1,1,1] [0,1,2] J N fun w N a J=>?_
  refine go0 J N fun a J=>?_
  obtain ⟨i8,rfl,s1,g0,H4,b5,M4,Z0⟩:=j0.el P1 A1
  obtain ⟨Z7,g7,a8,h7,rfl,W4,u7,v7,n5,H5,o5,I5⟩:=REx.fm Z0
  refine go0 J N fun a J=>?_
  refine zS call111 J N (fun w N a J=>?_) (c:=ih _ (Ex.lt_args (mgQ g0)) n d Z0 ((qV O).2.1 _ (mgQ g0)) (by have h_:=sS (mgQ g0);omega) N)
  refine go0 J N fun a J=>?_
  apply v2
  refine sq fun g6 w2=>?_
  refine sq fun h6 x2=>?_
  refine go0 J N fun a J=>?_
  apply x2
  generalize R4:(!((zQ c s1 vars).2))=X1 at J
  cases X1
  refine go0 J N fun a J=>?_
  apply w2
  refine go0 J N fun a J=>?_
  refine qG J N fun x8 w N a J=>?_
  refine qN 1 wM J N (fun v232 w N a J=>?_) (hb:=by rw [yF,n4];have h_:=(qV O).1;simp only [lcQ,lnQ];omega)
  first | rw [jJ] at N | rw [<- yQ] at N
  refine go0 J N fun a J=>?_
  apply u2
  refine go0 J N fun a J=>?_
  replace N:=N.dl [0]
  refine s2 _ _ _ (by subst k0;omega) ⟨(i+1),(v232),(ts++[(zQ c s1 vars).1]),rfl,⟨J.pk,N⟩,?_⟩
  exact ⟨by simp [n4],by rw [r3,zA g0,z9k,if_neg (by rw [show (zQ c s1 vars).2=true from (by first | assumption | exact kJ (by assumption) | exact vQ (by assumption))];decide)];simp⟩
  refine go0 J N fun a J=>?_
  refine sq fun i6 y2=>?_
  refine go0 J N fun a J=>?_
  apply y2
  refine go0 J N fun a J=>?_
  replace N:=N.dl [2,1,0]
  refine jV hQ J N ?_
  have b:zQ c e vars=((⟨#[]⟩:Bs),false):=by exact j8j z n0 o0 p0 b0 W (by rw [r3,zA g0,z9k,if_pos (by first | assumption | exact kJ (by assumption) | exact vQ (by assumption))])
  show _/\_;rw [b];exact ⟨rfl,N⟩
  refine go0 J N fun a J=>?_
  apply N0
  refine go0 J N fun a J=>?_
  apply q2
  refine sq fun j6 z2=>?_
  refine go0 J N fun a J=>?_
  have l1:typesR c e.args vars=(ts,true):=by rw [r3,zE A1];simp [typesR]
  have g:=N
  clear N
  obtain ⟨l0,y,N,h1⟩:=g.freezeRow (i:=0) rfl
  clear g
  replace L:=L.up y
  replace n:=RCore.mono _ _ _ _ y n
  replace A:=REx.mono _ _ _ _ y A
  replace N:=N.nf
  have a0:SliceOf RStr l0 1 _ (ts):=SliceOf.strs.2 h1
  obtain ⟨u4,E3,F,p5,k3⟩:=a0.form (by decide)
  have h:=N
  clear N
  subst F
  have N:=h
  clear h
  refine go0 J N fun a J=>?_
  apply z2
  refine sq fun k6 A2=>?_
  refine go0 J N fun a J=>?_
  apply A2
  refine sq fun D3 B2=>?_
  have e0:∀a w,(∃(h0:Fz) (v:Value) (wl:List Bs) (o:Bs),EnvR 268 [(12,.slice u4 (ts).length E3),(16,v),(17,.string o)] [] a/\Mem h0 (.blk w1 (ob [.int .i64 (e.kind),.int .i64 (e.num),.string e.name,.slice u3 e.args.length b2,.slice v3 e.arms.length c2] 66)::.blk u1 (ob [.slice p3 c.datas.length c4,.slice p9 c.inputs.length Z1,.slice t4 c.funs.length a2,.slice t3 c.outputs.length c22] 27)::K) w/\(l0.Le h0/\(SliceOf RStr h0 1 v wl/\wG c e.kind e.name=some (wl,o))))->D3 a w:=by
   clear N J
   rintro a w ⟨h0,v,wl,o,J,N,w0⟩
   obtain ⟨H,w0⟩:=w0
   replace L:=L.up H
   replace n:=RCore.mono _ _ _ _ H n
   replace A:=REx.mono _ _ _ _ H A
   replace a0:=a0.up H
   apply B2
   obtain ⟨Q1,m1⟩:=w0
   refine sq fun l6 C2=>?_
   refine sq fun m6 O0=>?_
   refine go0 J N fun a J=>?_
   obtain ⟨b8,i7,F,q5,l3⟩:=Q1.form (by decide)
   subst F
   refine go0 J N fun a J=>?_
   by_cases B1:wl.length=(ts).length
   refine go0 J N fun a J=>?_
   apply O0
   refine go0 J N fun a J=>?_
   apply C2
   refine sq fun n6 D2=>?_
   refine sq fun o6 E2=>?_
   refine go0 J N fun a J=>?_
   apply E2
   refine go0 J N fun a J=>?_
   refine zV (J.ks [12,16,17]) N (fun R mm a w=>∃(i:Nat),mm=wl.length - i/\R h0 [(23,.int .i64 ((i:Nat):Int))] [] a w/\(wl.take i=ts.take i)) (wl.length - 0) ⟨0,rfl,⟨J.pk,N⟩,rfl⟩ ?_
   clear N J
   rintro mm a w ⟨i,k0,⟨J,N⟩,K0⟩ p6 F2
   refine sq fun q6 G2=>?_
   refine sq fun r6 P0=>?_
   refine go0 J N fun a J=>?_
   by_cases H3:i < wl.length
   refine go0 J N fun a J=>?_
   apply P0
   refine go0 J N fun a J=>?_
   apply G2
   refine sq fun s6 H2=>?_
   refine go0 J N fun a J=>?_
   refine sq fun t6 Q0=>?_
   refine Reg [1,1,1,2,1,1,1,2,1] [0,1] J N fun w N a J=>?_
   refine go0 J N fun a J=>?_
   obtain ⟨j8,rfl,U1,n1,f2,c5,N4,n3⟩:=Q1.el l3 H3
   obtain rfl:f2=[.string U1]:=n3
   refine go0 J N fun a J=>?_
   have h3:i < (ts).length:=by omega
   obtain ⟨k8,rfl,V1,o1,g2,d5,O4,o3⟩:=a0.el k3 h3
   obtain rfl:g2=[.string V1]:=o3
   refine go0 J N fun a J=>?_
   by_cases C1:U1=V1
   refine go0 J N fun a J=>?_
   apply Q0
   refine go0 J N fun a J=>?_
   apply H2
   refine go0 J N fun a J=>?_
   refine F2 _ _ _ (by subst k0;omega) ⟨(i+1),rfl,⟨J.pk,N⟩,?_⟩
   rw [xD n1,xD o1,K0,C1]
   refine go0 J N fun a J=>?_
   apply Q0
   refine go0 J N fun a J=>?_
   refine sq fun u6 I2=>?_
   refine go0 J N fun a J=>?_
   apply I2
   refine go0 J N fun a J=>?_
   replace N:=N.le ((y).trans H)
   replace N:=N.dl [1,0]
   refine jV hQ J N ?_
   have b:zQ c e vars=((⟨#[]⟩:Bs),false):=by rw [z4a z n0 o0 p0 b0 W m1 l1,if_neg (fun e=>C1 (Option.some.inj (by rw [<- n1,e];exact o1)))];rfl
   show _/\_;rw [b];exact ⟨rfl,N⟩
   refine go0 J N fun a J=>?_
   apply P0
   refine go0 J N fun a J=>?_
   apply D2
   refine sq fun v6 J2=>?_
   refine go0 J N fun a J=>?_
   apply J2
   refine go0 J N fun a J=>?_
   replace N:=N.le ((y).trans H)
   replace N:=N.dl [1,0]
   refine jV hQ J N ?_
   have b:zQ c e vars=(o,true):=by rw [z4a z n0 o0 p0 b0 W m1 l1,if_pos (by have h_:=K0;rw [List.take_of_length_le (by omega),List.take_of_length_le (by omega)] at h_;exact h_)]
   show _/\_;rw [b];exact ⟨rfl,N⟩
   refine go0 J N fun a J=>?_
   apply O0
   refine go0 J N fun a J=>?_
   refine sq fun w6 K2=>?_
   refine go0 J N fun a J=>?_
   apply K2
   refine go0 J N fun a J=>?_
   replace N:=N.le ((y).trans H)
   replace N:=N.dl [1,0]
   refine jV hQ J N ?_
   have b:zQ c e vars=((⟨#[]⟩:Bs),false):=by rw [z4a z n0 o0 p0 b0 W m1 l1,if_neg (fun e=>by rw [e] at B1;exact B1 rfl)];rfl
   show _/\_;rw [b];exact ⟨rfl,N⟩
  refine sq fun x6 L2=>?_
  refine go0 J N fun a J=>?_
  apply L2
  refine go0 J N fun a J=>?_
  refine sq fun y6 R0=>?_
  refine go0 J N fun a J=>?_
  by_cases I3:e.kind=4
  refine go0 J N fun a J=>?_
  apply R0
  refine go0 J N fun a J=>?_
  refine sq fun z6 M2=>?_
  refine go0 J N fun a J=>?_
  refine qH call163 J N (fun D4 w i2 N a J=>?_) (c:=j5f n hL.1 N)
  obtain ⟨z3,p7⟩:=D4
  obtain ⟨S,Y0⟩:=i2
  simp only at S Y0 N J
  replace L:=L.up S
  replace n:=RCore.mono _ _ _ _ S n
  replace A:=REx.mono _ _ _ _ S A
  replace N:=N.nf
  obtain ⟨m8,rfl,D1⟩:=id Y0
  obtain ⟨v4,F3,rfl,r5,J5⟩:=D1.fm
  refine go0 J N fun a J=>?_
  refine Alc J N fun Z6 w N a J=>?_
  refine Sto 0 J N fun w N a J=>?_
  refine go0 J N fun a J=>?_
  apply M2
  refine sq fun A6 N2=>?_
  refine sq fun B6 O2=>?_
  refine go0 J N fun a J=>?_
  apply O2
  generalize S4:(!(nH c.datas e.name).isSome)=Y1 at J
  cases Y1
  refine go0 J N fun a J=>?_
  apply N2
  refine sq fun C6 P2=>?_
  refine go0 J N fun a J=>?_
  apply P2
  refine go0 J N fun a J=>?_
  replace N:=N.dl [0]
  exact e0 _ _ ⟨z3,.slice v4 (((nH c.datas e.name).map Maker.con).getD z9e).fields.length F3,(((nH c.datas e.name).map Maker.con).getD z9e).fields,(((nH c.datas e.name).map Maker.data).getD sNo),J.pk,N,⟨S,⟨D1,by rw [want_4 I3];obtain ⟨m_,y5⟩:=Option.isSome_iff_exists.1 (show (nH c.datas e.name).isSome=true from (by first | assumption | exact kJ (by assumption) | exact vQ (by assumption)));rw [y5];rfl⟩⟩⟩
  refine go0 J N fun a J=>?_
  refine sq fun D6 Q2=>?_
  refine go0 J N fun a J=>?_
  apply Q2
  refine go0 J N fun a J=>?_
  replace N:=N.le ((y).trans S)
  replace N:=N.dl [2,1,0]
  refine jV hQ J N ?_
  have b:zQ c e vars=((⟨#[]⟩:Bs),false):=by exact uO z n0 o0 p0 b0 W (by rw [want_4 (by assumption),x3c (o:=nH c.datas e.name) (by first | assumption | exact kJ (by assumption) | exact vQ (by assumption))];rfl)
  show _/\_;rw [b];exact ⟨rfl,N⟩
  refine go0 J N fun a J=>?_
  apply R0
  refine go0 J N fun a J=>?_
  refine sq fun E6 S0=>?_
  refine go0 J N fun a J=>?_
  by_cases J3:e.kind=5
  refine go0 J N fun a J=>?_
  apply S0
  refine go0 J N fun a J=>?_
  refine sq fun F6 R2=>?_
  refine go0 J N fun a J=>?_
  refine zS call55 J N (fun w N a J=>?_) (c:=y8w n N)
  refine go0 J N fun a J=>?_
  apply R2
  refine sq fun G6 S2=>?_
  refine sq fun H6 T0=>?_
  refine go0 J N fun a J=>?_
  by_cases A0:aF c.funs e.name < 0
  refine go0 J N fun a J=>?_
  apply T0
  refine go0 J N fun a J=>?_
  refine sq fun I6 T2=>?_
  refine go0 J N fun a J=>?_
  apply T2
  refine go0 J N fun a J=>?_
  replace N:=N.le (y)
  replace N:=N.dl [1,0]
  refine jV hQ J N ?_
  have b:zQ c e vars=((⟨#[]⟩:Bs),false):=by exact uO z n0 o0 p0 b0 W (by rw [want_5 (by assumption)];unfold aF at A0;cases T4:dZ c.funs e.name with | none=>rfl | some j=>rw [T4] at A0;simp only at A0;omega)
  show _/\_;rw [b];exact ⟨rfl,N⟩
  refine go0 J N fun a J=>?_
  apply T0
  refine go0 J N fun a J=>?_
  apply S2
  refine sq fun J6 U2=>?_
  refine sq fun K6 V2=>?_
  refine go0 J N fun a J=>?_
  obtain ⟨j,hj⟩:=z8u A0
  have l9:=q4v hj
  rw [show aF c.funs e.name=((j:Nat):Int) by rw [aF,hj]] at J
  have i3:j < c.funs.length:=by omega
  obtain ⟨x4,rfl,D,q1,I4,e5,X0,z0⟩:=L.el p4 i3
  obtain ⟨n8,a7,rfl,E1,I0⟩:=id z0
  obtain ⟨c8,j7,rfl,s5,m3⟩:=E1.fm
  obtain ⟨d8,k7,e8,l7,rfl,X4,w7,x7,t5,K5,u5,L5⟩:=REx.fm I0
  refine go0 J N fun a J=>?_
  apply V2
  refine go0 J N fun a J=>?_
  replace N:=N.nilRow 9 1
  replace N:=N.nf
  refine zV (J.ks [3,12,21]) N (fun R mm a w=>∃(k:Nat) (u:Value),mm=D.params.length - k/\R l0 [(16,u),(22,.int .i64 ((k:Nat):Int))] [(0,.gs (u) 9 1 (strs ((D.params.take k).map Param.type)))] a w/\(True)) (D.params.length - 0) ⟨0,.slice none 0 0,rfl,⟨J.pk,N⟩,trivial⟩ ?_
  clear N J
  rintro mm a w ⟨k,u,k0,⟨J,N⟩,K4⟩ L6 W2
  replace N:=N.nf
  refine sq fun M6 X2=>?_
  refine sq fun N6 U0=>?_
  refine go0 J N fun a J=>?_
  by_cases K3:k < D.params.length
  refine go0 J N fun a J=>?_
  apply U0
  refine go0 J N fun a J=>?_
  apply X2
  refine sq fun O6 Y2=>?_
  refine go0 J N fun a J=>?_
  obtain ⟨l8,rfl,A4,s3,J4,f5,P4,q3⟩:=E1.el m3 K3
  obtain rfl:=id q3
  refine go0 J N fun a J=>?_
  refine qG J N fun z4 w N a J=>?_
  refine qN 1 wM J N (fun T1 w N a J=>?_) (hb:=by rw [yF,List.length_map,List.length_take];have h_:=hL.2 _ (mgQ q1);simp only [lcQ,lnQ];omega)
  replace N:Mem l0 (.gs (z4) 9 1 [.string A4.type]::.gs (T1) 9 1 (strs ((D.params.take (k+1)).map Param.type))::.blk w1 (ob [.int .i64 (e.kind),.int .i64 (e.num),.string e.name,.slice u3 e.args.length b2,.slice v3 e.arms.length c2] 66)::.blk u1 (ob [.slice p3 c.datas.length c4,.slice p9 c.inputs.length Z1,.slice (some x4) c.funs.length a2,.slice t3 c.outputs.length c22] 27)::K) w:=by rw [xD s3,List.map_append,yQ];exact N
  refine go0 J N fun a J=>?_
  apply Y2
  refine go0 J N fun a J=>?_
  replace N:=N.dl [0]
  refine W2 _ _ _ (by subst k0;omega) ⟨(k+1),(T1),rfl,⟨J.pk,N⟩,?_⟩
  trivial
  refine go0 J N fun a J=>?_
  apply U0
  refine go0 J N fun a J=>?_
  apply U2
  refine go0 J N fun a J=>?_
  rw [List.take_of_length_le (l:=D.params) (by omega)] at N
  have g:=N
  clear N
  obtain ⟨t1,T,N,i1⟩:=g.freezeRow (i:=0) rfl
  clear g
  replace n:=RCore.mono _ _ _ _ T n
  replace A:=REx.mono _ _ _ _ T A
  replace X0:=X0.mono T
  replace z0:=RFun.mono _ _ _ _ T z0
  replace I0:=REx.mono _ _ _ _ T I0
  replace N:=N.nf
  have F0:SliceOf RStr t1 1 _ ((D.params.map Param.type)):=SliceOf.strs.2 i1
  obtain ⟨w4,G3,F,v5,M5⟩:=F0.form (by decide)
  have h:=N
  clear N
  subst F
  have N:=h
  clear h
  refine go0 J N fun a J=>?_
  exact e0 _ _ ⟨t1,.slice w4 ((D.params.map Param.type)).length G3,(D.params.map Param.type),D.result,J.pk,N,⟨T,⟨F0,by rw [want_5 J3,hj];simp only;rw [q1];rfl⟩⟩⟩
  refine go0 J N fun a J=>?_
  apply S0
  refine go0 J N fun a J=>?_
  refine sq fun P6 V0=>?_
  refine go0 J N fun a J=>?_
  by_cases J0:e.kind=8
  refine go0 J N fun a J=>?_
  apply V0
  refine go0 J N fun a J=>?_
  refine sq fun Q6 Z2=>?_
  refine go0 J N fun a J=>?_
  refine qG J N fun y8 w N a J=>?_
  refine go0 J N fun a J=>?_
  apply Z2
  refine sq fun R6 W0=>?_
  refine go0 J N fun a J=>?_
  have g:=N
  clear N
  obtain ⟨A3,U,N,j1⟩:=g.freezeRow (i:=0) rfl
  clear g
  replace n:=RCore.mono _ _ _ _ U n
  replace A:=REx.mono _ _ _ _ U A
  replace N:=N.nf
  have C:SliceOf RStr A3 1 _ ([yA,yA]):=SliceOf.strs.2 j1
  obtain ⟨r1,H0,F,w5,N5⟩:=C.form (by decide)
  have h:=N
  clear N
  subst F
  have N:=h
  clear h
  refine qG J N fun z8 w N a J=>?_
  refine go0 J N fun a J=>?_
  have g:=N
  clear N
  obtain ⟨m0,I,N,k1⟩:=g.freezeRow (i:=0) rfl
  clear g
  replace n:=RCore.mono _ _ _ _ I n
  replace A:=REx.mono _ _ _ _ I A
  replace C:=C.up I
  replace N:=N.nf
  have G0:SliceOf RStr m0 1 _ ([⟨#[43]⟩,⟨#[45]⟩,⟨#[42]⟩,⟨#[47]⟩,⟨#[37]⟩]):=SliceOf.strs.2 k1
  obtain ⟨f8,m7,F,x5,O5⟩:=G0.form (by decide)
  have h:=N
  clear N
  subst F
  have N:=h
  clear h
  refine zW call87 J N (fun c0 w N a J=>?_) (fun c0 w N a J=>?_) (c:=z9x G0 N)
  refine go0 J N fun a J=>?_
  apply W0
  refine go0 J N fun a J=>?_
  exact e0 _ _ ⟨m0,.slice r1 ([yA,yA]).length H0,[yA,yA],(⟨#[73,110,116]⟩:Bs),J.pk,N,⟨(U).trans I,⟨C,by rw [q2z J0,opR,if_pos c0];rfl⟩⟩⟩
  refine go0 J N fun a J=>?_
  apply W0
  refine go0 J N fun a J=>?_
  refine sq fun S6 y0=>?_
  refine go0 J N fun a J=>?_
  by_cases y7:e.name=(⟨#[60]⟩:Bs)
  refine go0 J N fun a J=>?_
  apply y0
  refine go0 J N fun a J=>?_
  exact e0 _ _ ⟨m0,.slice r1 ([yA,yA]).length H0,[yA,yA],(⟨#[66,111,111,108]⟩:Bs),J.pk,N,⟨(U).trans I,⟨C,by rw [q2z J0,opR,if_neg (by rw [c0];decide),if_pos (by first | exact .inl (by assumption) | exact .inr (by assumption))];rfl⟩⟩⟩
  refine go0 J N fun a J=>?_
  by_cases z7:e.name=(⟨#[61]⟩:Bs)
  refine go0 J N fun a J=>?_
  apply y0
  refine go0 J N fun a J=>?_
  exact e0 _ _ ⟨m0,.slice r1 ([yA,yA]).length H0,[yA,yA],(⟨#[66,111,111,108]⟩:Bs),J.pk,N,⟨(U).trans I,⟨C,by rw [q2z J0,opR,if_neg (by rw [c0];decide),if_pos (by first | exact .inl (by assumption) | exact .inr (by assumption))];rfl⟩⟩⟩
  refine go0 J N fun a J=>?_
  apply y0
  refine go0 J N fun a J=>?_
  refine sq fun T6 a3=>?_
  refine go0 J N fun a J=>?_
  apply a3
  refine go0 J N fun a J=>?_
  replace N:=N.le (((y).trans U).trans I)
  replace N:=N.dl [1,0]
  refine jV hQ J N ?_
  have b:zQ c e vars=((⟨#[]⟩:Bs),false):=by exact uO z n0 o0 p0 b0 W (by rw [q2z (by assumption),opR,if_neg (by rw [c0];decide),if_neg (by rintro (h_ | h_) <;> contradiction)];rfl)
  show _/\_;rw [b];exact ⟨rfl,N⟩
  refine go0 J N fun a J=>?_
  apply V0
  refine go0 J N fun a J=>?_
  refine sq fun U6 b3=>?_
  refine go0 J N fun a J=>?_
  apply b3
  refine go0 J N fun a J=>?_
  replace N:=N.le (y)
  replace N:=N.dl [1,0]
  refine jV hQ J N ?_
  have b:zQ c e vars=((⟨#[]⟩:Bs),false):=by exact uO z n0 o0 p0 b0 W (want_no (by assumption) (by assumption) (by assumption))
  show _/\_;rw [b];exact ⟨rfl,N⟩
 refine sq fun V6 E=>?_
 refine go0 J N fun a J=>?_
 by_cases A7:e.kind=7
 refine go0 J N fun a J=>?_
 by_cases B7:e.kind=1
 refine go0 J N fun a J=>?_
 apply E
 refine go0 J N fun a J=>?_
 exact B0 _ _ ⟨J.pk,N,by unfold aV;omega⟩
 refine go0 J N fun a J=>?_
 by_cases C7:e.num=0
 refine go0 J N fun a J=>?_
 apply E
 refine go0 J N fun a J=>?_
 exact B0 _ _ ⟨J.pk,N,by unfold aV;omega⟩
 refine go0 J N fun a J=>?_
 apply E
 refine go0 J N fun a J=>?_
 refine sq fun W6 d3=>?_
 refine go0 J N fun a J=>?_
 apply d3
 refine go0 J N fun a J=>?_
 replace N:=N.dl [1,0]
 refine jV hQ J N ?_
 have b:zQ c e vars=((⟨#[]⟩:Bs),false):=by exact y5k (by unfold aV;omega)
 show _/\_;rw [b];exact ⟨rfl,N⟩
 refine go0 J N fun a J=>?_
 by_cases D7:0 < e.arms.length
 refine go0 J N fun a J=>?_
 apply E
 refine go0 J N fun a J=>?_
 refine sq fun X6 e3=>?_
 refine go0 J N fun a J=>?_
 apply e3
 refine go0 J N fun a J=>?_
 replace N:=N.dl [1,0]
 refine jV hQ J N ?_
 have b:zQ c e vars=((⟨#[]⟩:Bs),false):=by exact y5k (by unfold aV;omega)
 show _/\_;rw [b];exact ⟨rfl,N⟩
 refine go0 J N fun a J=>?_
 by_cases E7:e.kind=1
 refine go0 J N fun a J=>?_
 apply E
 refine go0 J N fun a J=>?_
 exact B0 _ _ ⟨J.pk,N,by unfold aV;omega⟩
 refine go0 J N fun a J=>?_
 by_cases F7:e.num=0
 refine go0 J N fun a J=>?_
 apply E
 refine go0 J N fun a J=>?_
 exact B0 _ _ ⟨J.pk,N,by unfold aV;omega⟩
 refine go0 J N fun a J=>?_
 apply E
 refine go0 J N fun a J=>?_
 refine sq fun Y6 f3=>?_
 refine go0 J N fun a J=>?_
 apply f3
 refine go0 J N fun a J=>?_
 replace N:=N.dl [1,0]
 refine jV hQ J N ?_
 have b:zQ c e vars=((⟨#[]⟩:Bs),false):=by exact y5k (by unfold aV;omega)
 show _/\_;rw [b];exact ⟨rfl,N⟩
end Go.Sw

namespace Go.Sw
open Go.Proofs.Tryz
open Go.Proofs
set_option maxRecDepth 20000
set_option maxHeartbeats 4000000
variable {V:Fz} {K:List Res} {w:World}
theorem j8i {d0:List Value} {c:Core} {b:Value} {vars:List Param} {d2:List Value} {e:Ex} (d:RCore V d0 c) (a:SliceOf RParam V 2 b vars) (f:REx V d2 e) (i:Lim c) (O:pT e) (hb:vars.length+(zP e).length<=1000000) (N:Mem V K w) :
  Calls prog 111 #[.agg d0.toArray,b,.agg d2.toArray] w (fun ee w'=>ee=.returned (.tuple #[.string (zQ c e vars).1,.bool (zQ c e vars).2])/\Mem V K w'):=by
 suffices H:∀n (e:Ex),e.sz < n->∀{V:Fz} {K:List Res} {w:World} {d0:List Value} {b:Value} {vars:List Param} {d2:List Value},RCore V d0 c->SliceOf RParam V 2 b vars->REx V d2 e->pT e->vars.length+(zP e).length<=1000000->Mem V K w->Calls prog 111 #[.agg d0.toArray,b,.agg d2.toArray] w (fun ee w'=>ee=.returned (.tuple #[.string (zQ c e vars).1,.bool (zQ c e vars).2])/\Mem V K w') from H _ e (Nat.lt_succ_self _) d a f O hb N
 intro n
 induction n with
 | zero=>intro e h;omega
 | succ n j=>intro e h V K w d0 b vars d2 g g1 r O hb m;exact j1z g g1 r i O hb (fun x o _ _ _ _ _ _ _ k l r O hb m=>j x (by omega) k l r O hb m) m
theorem j3j {v:Value} {l:List Bs} {s:Bs} (N:Mem V (.gs v 9 1 (strs l)::K) w) :
  Calls prog 87 #[v,.string s] w (fun ee w'=>ee=.returned (.bool (oR l s))/\Mem V (.gs v 9 1 (strs l)::K) w'):=by
 obtain ⟨Ψ,_,a,b,c⟩:=N.freezeRowT (i:=0) rfl
 exact (z9x (SliceOf.strs.2 b) a).mono fun ee w' h=>⟨h.1,c _ _ h.2⟩
theorem q1c {d0:List Value} {c:Core} (f0:RCore V d0 c) (y0:c.datas.length<=60) (S:∀d∈c.datas,d.cons.length<=16) (N:Mem V K w) :
  Calls prog 108 #[.agg d0.toArray] w (fun ee w'=>ee=.returned (.bool (z2c c.datas))/\Mem V K w'):=by
 obtain ⟨p3,c4,p9,N0,Y0,O0,Z0,c22,rfl,h2,h8,R0,T0,X0,m0,z0,E0,A0,F0,B0,G0⟩:=RCore.fm f0
 refine zM func108 ntmps108 fun Q s a J=>?_
 refine Bx J N fun L0 w N a J=>?_
 refine qG J N fun n0 w N a J=>?_
 refine qG J N fun o0 w N a J=>?_
 refine go J N fun a J=>?_
 replace N:=N.nf
 refine zV (J.ks [1]) N (fun R mm a w=>∃(i:Nat) (u:Value) (nl:List Bs) (u2:Value) (cl:List Bs),mm=c.datas.length - i/\R V [(3,u),(4,u2),(5,.int .i64 ((i:Nat):Int))] [(0,.gs (u2) 9 1 (strs cl)),(1,.gs (u) 9 1 (strs nl))] a w/\(i<=c.datas.length/\nl.length=2+i/\cl.length<=2+16 * i/\z2c c.datas=cB c.datas (c.datas.drop i) nl cl)) (c.datas.length - 0) ⟨0,n0,[yA,vS],o0,[oN,z1l],rfl,⟨J.pk,N⟩,⟨Nat.zero_le _,rfl,by decide,rfl⟩⟩ ?_
 clear N J
 rintro mm a w ⟨i,u,nl,u2,cl,p,⟨J,N⟩,H⟩ I0 L
 replace N:=N.nf
 obtain ⟨V0,k0,W0,g⟩:=H
 refine go J N fun a J=>?_
 by_cases y:i < c.datas.length
 refine go J N fun a J=>?_
 obtain ⟨c1,rfl,e,b,r0,w0,t0,c0⟩:=h2.el m0 y
 obtain ⟨e1,rfl,z⟩:=id c0
 obtain ⟨a1,P0,rfl,C0,Y⟩:=z.fm
 refine Alc J N fun M0 w N a J=>?_
 refine Sto 0 J N fun w N a J=>?_
 refine zW call134 J N (fun D w N a J=>?_) (fun D w N a J=>?_) (c:=y9f N)
 replace N:=N.pl 2
 refine zW call87 J N (fun E w N a J=>?_) (fun E w N a J=>?_) (c:=j3j (l:=nl) N)
 refine go J N fun a J=>?_
 replace N:=N.dl [3,2,1,0]
 refine zD s J N ?_
 exact zL N (by rw [g,zA b,cB];simp [*])
 refine go J N fun a J=>?_
 by_cases U0:e.cons.length=0
 refine go J N fun a J=>?_
 replace N:=N.dl [3,2,1,0]
 refine zD s J N ?_
 exact zL N (by rw [g,zA b,cB];simp [*])
 refine go J N fun a J=>?_
 have U:conR e.name=true:=by assumption
 have W:(!oR nl e.name)=true:=by simp [*]
 have X:decide (e.cons.length≠0)=true:=by simp only [decide_eq_true_eq];omega
 refine qG J N fun g1 w N a J=>?_
 refine qN 1 wM J N (fun p0 w N a J=>?_) (hb:=by rw [yF];simp only [lcQ,lnQ];omega)
 first | rw [jJ] at N | rw [<- yQ] at N
 refine go J N fun a J=>?_
 refine zV (J.ks [1,3,5,6]) N (fun R mm a w=>∃(k:Nat) (u3:Value) (cm:List Bs),mm=e.cons.length - k/\R V [(4,u3),(7,.int .i64 ((k:Nat):Int))] [(3,.gs (u3) 9 1 (strs cm))] a w/\(cl++(e.cons.take k).map Con.name=cm/\uX c.datas e.cons cl=uX c.datas (e.cons.drop k) cm)) (e.cons.length - 0) ⟨0,u2,cl,rfl,⟨J.pk,N⟩,⟨by simp,rfl⟩⟩ ?_
 clear N J
 rintro mm a w ⟨k,u3,cm,p,⟨J,N⟩,I⟩ J0 M
 replace N:=N.nf
 obtain ⟨t,o⟩:=I
 refine go J N fun a J=>?_
 by_cases A:k < e.cons.length
 refine go J N fun a J=>?_
 obtain ⟨d1,rfl,f,h,s0,x0,u0,e0⟩:=z.el Y A
 obtain ⟨f1,rfl,B⟩:=id e0
 obtain ⟨b1,Q0,rfl,D0,Z⟩:=B.fm
 refine zW call134 J N (fun F w N a J=>?_) (fun F w N a J=>?_) (c:=y9f N)
 replace N:=N.pl 3
 refine zW call87 J N (fun G w N a J=>?_) (fun G w N a J=>?_) (c:=j3j (l:=cm) N)
 refine go J N fun a J=>?_
 replace N:=N.dl [4,3,2,1,0]
 refine zD s J N ?_
 exact zL N (by rw [g,zA b,cB,o,zA h,uX];simp [*])
 refine go J N fun a J=>?_
 have a0:conR f.name=true:=by assumption
 have b0:(!oR cm f.name)=true:=by simp [*]
 refine qG J N fun h1 w N a J=>?_
 refine qN 1 wM J N (fun q0 w N a J=>?_) (hb:=by have h_:=S _ (mgQ b);rw [yF,<- t,laQ,List.length_map,List.length_take];simp only [lcQ,lnQ];omega)
 first | rw [jJ] at N | rw [<- yQ] at N
 refine go J N fun a J=>?_
 refine zV (J.ks [1,3,4,5,6,7]) N (fun R mm a w=>∃(j:Nat),mm=f.fields.length - j/\R V [(8,.int .i64 ((j:Nat):Int))] [] a w/\(f.fields.all (jH c.datas)=(f.fields.drop j).all (jH c.datas))) (f.fields.length - 0) ⟨0,rfl,⟨J.pk,N⟩,rfl⟩ ?_
 clear N J
 rintro mm a w ⟨j,p,⟨J,N⟩,n⟩ K0 P
 refine go J N fun a J=>?_
 by_cases C:j < f.fields.length
 refine Reg [2,1,2,1,1,1,2,1,1,2,0,1] [0,1,2,3,4,5] J N fun w N a J=>?_
 refine go J N fun a J=>?_
 obtain ⟨H0,rfl,g0,q,r,l0,j0,v⟩:=B.el Z C
 obtain rfl:r=[.string g0]:=v
 refine zW call81 J N (fun m w N a J=>?_) (fun m w N a J=>?_) (c:=tV f0 N)
 refine go J N fun a J=>?_
 refine P _ _ _ (by subst p;omega) ⟨(j+1),rfl,⟨J.pk,N⟩,?_⟩
 rw [n,zA q,List.all_cons,m,Bool.true_and]
 refine go J N fun a J=>?_
 replace N:=N.dl [5,4,3,2,1,0]
 refine zD s J N ?_
 exact zL N (by rw [g,zA b,cB,o,zA h,uX,show f.fields.all (jH c.datas)=false by rw [n,zA q,List.all_cons,m];rfl];simp)
 refine go J N fun a J=>?_
 replace N:=N.ar [0] [4,1,4,4,4]
 refine M _ _ _ (by subst p;omega) ⟨(k+1),(q0),(cm++[f.name]),rfl,⟨J.pk,N⟩,?_⟩
 exact ⟨by rw [xD h,<- t];simp,by rw [o,zA h,uX,a0,b0,show f.fields.all (jH c.datas)=true by rw [n,zE C];rfl];rfl⟩
 refine go J N fun a J=>?_
 replace N:=N.dl [4,3,2,1,0]
 refine zD s J N ?_
 exact zL N (by rw [g,zA b,cB,o,zA h,uX];simp [*])
 refine go J N fun a J=>?_
 have T:cm=cl++e.cons.map Con.name:=by rw [<- t,List.take_of_length_le (by omega)]
 rw [T] at N
 refine go J N fun a J=>?_
 replace N:=N.ar [2,0] [2,1,2]
 refine L _ _ _ (by subst p;omega) ⟨(i+1),(p0),(nl++[e.name]),(u3),(cl++e.cons.map Con.name),rfl,⟨J.pk,N⟩,?_⟩
 exact ⟨by omega,by simp [k0];omega,by have h_:=S _ (mgQ b);rw [laQ,List.length_map];omega,by rw [g,zA b,cB,U,W,X,show uX c.datas e.cons cl=true by rw [o,zE A];rfl];rfl⟩
 refine go J N fun a J=>?_
 replace N:=N.dl [3,2,1,0]
 refine zD s J N ?_
 exact zL N (by rw [g,zA b,cB];simp [*])
 refine go J N fun a J=>?_
 replace N:=N.dl [2,1,0]
 refine zD s J N ?_
 exact zL N (by rw [g,zE y];rfl)
end Go.Sw

namespace Go.Sw
open Go.Proofs.Tryz
open Go.Proofs
set_option maxRecDepth 20000
set_option maxHeartbeats 4000000
theorem z8z (f:Fun) (fs:List Fun) (n:Nat):dR (f::fs) n=if 16 < f.params.length then true else dR fs (if n<=6000 then n+jU f.body (6000 - n) else n):=rfl
theorem z5j:∀{fs:List Fun} {l:Int},aI fs l=false->∀f∈fs,f.params.length<=16
 | f::fs,l,h,g,a=>by
  simp only [aI,Bool.or_eq_false_iff,decide_eq_false_iff_not] at h
  rcases List.mem_cons.1 a with rfl | a
  omega
  exact z5j h.2 g a
theorem j1s {e:Ex} (h:pT e):(zP e).length<=102000:=by
 obtain ⟨l,h1,a⟩:=h
 have b:=z2p e l a
 have:=(kH e l a).1
 omega
theorem j6u {c:Core} (h:oX c=false):c.datas.length<=60/\c.inputs.length<=6/\c.funs.length<=300/\c.outputs.length<=6/\(∀d∈c.datas,d.cons.length<=16)/\(∀f∈c.funs,f.params.length<=16/\pT f.body/\(zP f.body).length<=102000)/\Lim c:=by
 rw [q5s] at h
 have e:=fun f a=>cH h (f:=f) a
 simp only [xS,Bool.or_eq_false_iff,decide_eq_false_iff_not,List.any_eq_false] at h
 obtain ⟨⟨⟨⟨⟨h1,k⟩,l⟩,m⟩,g⟩,i⟩:=h
 have b:∀f∈c.funs,f.params.length<=16/\pT f.body/\(zP f.body).length<=102000:=fun f a=>⟨z5j i f a,e f a,j1s (e f a)⟩
 refine ⟨by omega,by omega,by omega,by omega,fun d j=>?_,b,by omega,fun f a=>by have:=(b f a).1;omega⟩
 have:=g d j
 simp only [gA,Bool.or_eq_true,decide_eq_true_eq,not_or] at this
 omega
theorem vJ {c:Core} (h1:c.funs.any (fun f=>xG 250 f.body)=false) (a:oX c=false) (b:vR c=false):nG c=80:=by rw [nG,h1,a,b];rfl
theorem j9r {c:Core} (h1:c.funs.any (fun f=>xG 250 f.body)=false) (a:oX c=false) (b:vR c=true):nG c=0:=by rw [nG,h1,a,b];rfl
theorem outR_no {fs:List Fun} {o:Bs} (h:aF fs o < 0):z9v fs o=false:=by
 unfold aF at h;unfold z9v
 cases a:dZ fs o with
 | none=>rfl
 | some j=>rw [a] at h;simp only at h;omega
theorem j3s {fs:List Fun} {o:Bs} {j:Nat} {f:Fun} (h:dZ fs o=some j) (a:fs[j]? = some f):z9v fs o=decide (f.params.length=0):=by unfold z9v;rw [h];simp only;rw [a]
theorem q9t {V:Fz} {K:List Res} {w:World} {d0:List Value} {c:Core} (c1:RCore V d0 c) (N:Mem V K w) :
  Calls prog 107 #[.agg d0.toArray] w (fun ee w'=>ee=.returned (.bool (oX c))/\Mem V K w'):=by
 obtain ⟨p3,c4,p9,N0,s2,O0,a1,c22,rfl,h2,h8,P0,l2,q2,Z0,u1,z1,v1,G0,w1,A1⟩:=RCore.fm c1
 refine zM func107 ntmps107 fun Q C a J=>?_
 refine sq fun E1 e0=>?_
 refine go0 J N fun a J=>?_
 refine Bx J N fun P w N a J=>?_
 refine go0 J N fun a J=>?_
 apply e0
 refine sq fun F1 f0=>?_
 refine sq fun G1 e=>?_
 refine go0 J N fun a J=>?_
 by_cases m2:60 < c.datas.length
 refine go0 J N fun a J=>?_
 apply e
 refine go0 J N fun a J=>?_
 refine sq fun H1 g0=>?_
 refine go0 J N fun a J=>?_
 apply g0
 refine go0 J N fun a J=>?_
 replace N:=N.dl [0]
 refine zD C J N ?_
 exact zL N (by simp [oX, *])
 refine go0 J N fun a J=>?_
 by_cases n2:6 < c.inputs.length
 refine go0 J N fun a J=>?_
 apply e
 refine go0 J N fun a J=>?_
 refine sq fun I1 h0=>?_
 refine go0 J N fun a J=>?_
 apply h0
 refine go0 J N fun a J=>?_
 replace N:=N.dl [0]
 refine zD C J N ?_
 exact zL N (by simp [oX, *])
 refine go0 J N fun a J=>?_
 by_cases o2:300 < c.funs.length
 refine go0 J N fun a J=>?_
 apply e
 refine go0 J N fun a J=>?_
 refine sq fun J1 i0=>?_
 refine go0 J N fun a J=>?_
 apply i0
 refine go0 J N fun a J=>?_
 replace N:=N.dl [0]
 refine zD C J N ?_
 exact zL N (by simp [oX, *])
 refine go0 J N fun a J=>?_
 by_cases p2:6 < c.outputs.length
 refine go0 J N fun a J=>?_
 apply e
 refine go0 J N fun a J=>?_
 refine sq fun K1 j0=>?_
 refine go0 J N fun a J=>?_
 apply j0
 refine go0 J N fun a J=>?_
 replace N:=N.dl [0]
 refine zD C J N ?_
 exact zL N (by simp [oX, *])
 refine go0 J N fun a J=>?_
 apply e
 refine go0 J N fun a J=>?_
 apply f0
 refine sq fun L1 k0=>?_
 refine sq fun M1 l0=>?_
 refine go0 J N fun a J=>?_
 apply l0
 refine go0 J N fun a J=>?_
 refine zV (J.ks [1]) N (fun R mm a w=>∃(i:Nat),mm=c.datas.length - i/\R V [(3,.int .i64 ((i:Nat):Int))] [] a w/\(oX c=((c.datas.drop i).any gA || dR c.funs 0))) (c.datas.length - 0) ⟨0,rfl,⟨J.pk,N⟩,by simp [oX, *]⟩ ?_
 clear N J
 rintro mm a w ⟨i,q,⟨J,N⟩,f⟩ N1 m0
 refine sq fun O1 n0=>?_
 refine sq fun P1 v=>?_
 refine go0 J N fun a J=>?_
 by_cases W:i < c.datas.length
 refine go0 J N fun a J=>?_
 apply v
 refine go0 J N fun a J=>?_
 apply n0
 refine sq fun Q1 o0=>?_
 refine go0 J N fun a J=>?_
 refine sq fun R1 p0=>?_
 refine sq fun S1 y=>?_
 refine go0 J N fun a J=>?_
 obtain ⟨x2,rfl,d,r,k1,r1,p1,I0⟩:=h2.el Z0 W
 obtain ⟨z2,rfl,X⟩:=id I0
 obtain ⟨u2,j2,rfl,x1,H0⟩:=X.fm
 refine go0 J N fun a J=>?_
 by_cases Y:16 < d.cons.length
 refine go0 J N fun a J=>?_
 apply y
 refine go0 J N fun a J=>?_
 refine sq fun T1 q0=>?_
 refine go0 J N fun a J=>?_
 apply q0
 refine go0 J N fun a J=>?_
 replace N:=N.dl [0]
 refine zD C J N ?_
 exact zL N (by rw [f,zA r,List.any_cons,show gA d=true by unfold gA;rw [decide_eq_true Y];rfl];rfl)
 refine go0 J N fun a J=>?_
 apply y
 refine go0 J N fun a J=>?_
 apply p0
 refine sq fun U1 r0=>?_
 refine go0 J N fun a J=>?_
 have S0:=Y
 refine go0 J N fun a J=>?_
 apply r0
 refine go0 J N fun a J=>?_
 refine zV (J.ks [1,3]) N (fun R mm a w=>∃(k:Nat),mm=d.cons.length - k/\R V [(4,.int .i64 ((k:Nat):Int))] [] a w/\(d.cons.any (fun x=>decide (16 < x.fields.length))=(d.cons.drop k).any (fun x=>decide (16 < x.fields.length)))) (d.cons.length - 0) ⟨0,rfl,⟨J.pk,N⟩,rfl⟩ ?_
 clear N J
 rintro mm a w ⟨k,q,⟨J,N⟩,g⟩ V1 s0
 refine sq fun W1 t0=>?_
 refine sq fun X1 z=>?_
 refine go0 J N fun a J=>?_
 by_cases Z:k < d.cons.length
 refine go0 J N fun a J=>?_
 apply z
 refine go0 J N fun a J=>?_
 apply t0
 refine sq fun Y1 u0=>?_
 refine go0 J N fun a J=>?_
 refine sq fun Z1 A=>?_
 refine go0 J N fun a J=>?_
 obtain ⟨y2,rfl,d1,D,l1,s1,q1,J0⟩:=X.el H0 Z
 obtain ⟨A2,rfl,Q0⟩:=id J0
 obtain ⟨v2,c80,rfl,y1,B1⟩:=Q0.fm
 refine go0 J N fun a J=>?_
 by_cases a0:16 < d1.fields.length
 refine go0 J N fun a J=>?_
 apply A
 refine go0 J N fun a J=>?_
 refine sq fun a2 w0=>?_
 refine go0 J N fun a J=>?_
 apply w0
 refine go0 J N fun a J=>?_
 replace N:=N.dl [0]
 refine zD C J N ?_
 exact zL N (by rw [f,zA r,List.any_cons,show gA d=true by unfold gA;rw [g,zA D,List.any_cons,decide_eq_true a0,Bool.true_or,Bool.or_true]];rfl)
 refine go0 J N fun a J=>?_
 apply A
 refine go0 J N fun a J=>?_
 apply u0
 refine go0 J N fun a J=>?_
 refine s0 _ _ _ (by subst q;omega) ⟨(k+1),rfl,⟨J.pk,N⟩,?_⟩
 rw [g,zA D,List.any_cons,decide_eq_false a0];rfl
 refine go0 J N fun a J=>?_
 apply z
 refine go0 J N fun a J=>?_
 apply o0
 refine go0 J N fun a J=>?_
 refine m0 _ _ _ (by subst q;omega) ⟨(i+1),rfl,⟨J.pk,N⟩,?_⟩
 rw [f,zA r,List.any_cons,show gA d=false by unfold gA;rw [g,zE Z,decide_eq_false S0];rfl];rfl
 refine go0 J N fun a J=>?_
 apply v
 refine go0 J N fun a J=>?_
 apply k0
 refine sq fun b2 x0=>?_
 refine go0 J N fun a J=>?_
 apply x0
 refine sq fun c2 y0=>?_
 refine sq fun d2 z0=>?_
 refine go0 J N fun a J=>?_
 apply z0
 refine go0 J N fun a J=>?_
 refine zV (J.ks [1]) N (fun R mm a w=>∃(i:Nat) (n:Nat),mm=c.funs.length - i/\R V [(5,.int .i64 ((n:Nat):Int)),(6,.int .i64 ((i:Nat):Int))] [] a w/\(n<=6001/\oX c=dR (c.funs.drop i) n)) (c.funs.length - 0) ⟨0,0,rfl,⟨J.pk,N⟩,⟨by omega,by rw [f,zE W];rfl⟩⟩ ?_
 clear N J
 rintro mm a w ⟨i,n,q,⟨J,N⟩,c0⟩ e2 A0
 obtain ⟨r2,L⟩:=c0
 refine sq fun f2 B0=>?_
 refine sq fun g2 B=>?_
 refine go0 J N fun a J=>?_
 by_cases b0:i < c.funs.length
 refine go0 J N fun a J=>?_
 apply B
 refine go0 J N fun a J=>?_
 apply B0
 refine sq fun i2 C0=>?_
 refine go0 J N fun a J=>?_
 refine sq fun M0 D0=>?_
 obtain ⟨b1,rfl,b,E,m1,t1,I,M⟩:=P0.el G0 b0
 obtain ⟨D1,i1,rfl,U,s⟩:=id M
 obtain ⟨C1,j1,rfl,T0,W0⟩:=U.fm
 obtain ⟨K0,S,L0,T,rfl,R0,n1,o1,U0,X0,V0,Y0⟩:=REx.fm s
 have h:∀a w,(∃(m:Nat),EnvR 97 [(1,.pointer (some ⟨P,0,none⟩)),(5,.int .i64 ((m:Nat):Int)),(6,.int .i64 ((i:Nat):Int))] [] a/\Mem V (.blk P (ob [.slice p3 c.datas.length c4,.slice p9 c.inputs.length N0,.slice (some b1) c.funs.length O0,.slice a1 c.outputs.length c22] 27)::K) w/\(m=(if n<=6000 then n+jU b.body (6000 - n) else n)/\m<=6001))->M0 a w:=by
  clear N J
  rintro a w ⟨m,J,N,F⟩
  apply D0
  obtain ⟨E0,F0⟩:=F
  refine sq fun e1 l=>?_
  refine go0 J N fun a J=>?_
  by_cases t:16 < b.params.length
  refine go0 J N fun a J=>?_
  apply l
  refine go0 J N fun a J=>?_
  refine sq fun f1 G=>?_
  refine go0 J N fun a J=>?_
  apply G
  refine go0 J N fun a J=>?_
  replace N:=N.dl [0]
  refine zD C J N ?_
  exact zL N (by rw [L,zA E,z8z];exact (if_pos t).symm)
  refine go0 J N fun a J=>?_
  apply l
  refine go0 J N fun a J=>?_
  apply C0
  refine go0 J N fun a J=>?_
  refine A0 _ _ _ (by subst q;omega) ⟨(i+1),(m),rfl,⟨J.pk,N⟩,?_⟩
  exact ⟨F0,by rw [L,zA E,z8z,if_neg t,<- E0]⟩
 refine sq fun g1 p=>?_
 refine go0 J N fun a J=>?_
 by_cases u:n<=6000
 refine go0 J N fun a J=>?_
 apply p
 refine go0 J N fun a J=>?_
 refine Qq J N (fun a J=>?_) (o:=by exact fun _ _ _ J O=>xW 3 (vs:=[.int .i64 (b.body.kind),.int .i64 (b.body.num),.string b.body.name,.slice K0 b.body.args.length S,.slice L0 b.body.arms.length T]) J O rfl I isAgg66 sizeOf66 rfl rfl)
 refine go0 J N fun a J=>?_
 refine Qq J N (fun a J=>?_) (o:=by exact fun _ _ _ J O=>vT ((6000 - n:Nat):Int) J rfl rfl (by rw [yC (by omega)];omega))
 refine zS call160 J N (fun w N a J=>?_) (c:=x3r (by omega) s N)
 refine Qq J N (fun a J=>?_) (o:=by exact fun _ _ _ J O=>z1w ((n+(jU b.body (6000 - n)):Nat):Int) J rfl rfl (by have h_:=mG b.body (6000 - n);rw [yC (by omega)];omega))
 refine go0 J N fun a J=>?_
 exact h _ _ ⟨n+(jU b.body (6000 - n)),J.pk,N,⟨(if_pos u).symm,by have h_:=mG b.body (6000 - n);omega⟩⟩
 refine go0 J N fun a J=>?_
 apply p
 refine go0 J N fun a J=>?_
 exact h _ _ ⟨n,J.pk,N,⟨(if_neg u).symm,by omega⟩⟩
 refine go0 J N fun a J=>?_
 apply B
 refine go0 J N fun a J=>?_
 apply y0
 refine sq fun h1 H=>?_
 refine go0 J N fun a J=>?_
 refine Qq J N (fun a J=>?_) (o:=by exact fun _ _ _ J O=>j2l (i:=n) (j:=6000) J rfl rfl)
 refine go0 J N fun a J=>?_
 apply H
 refine go0 J N fun a J=>?_
 replace N:=N.dl [0]
 refine zD C J N ?_
 exact zL N (by rw [L,zE b0];rfl)
end Go.Sw
