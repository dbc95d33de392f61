import Derived.Test.YtghdfphedgcpdaaGreatDoorY14
set_option linter.unusedVariables false
set_option linter.unusedSimpArgs false
namespace Go.Sw
open Go.Proofs Go.Proofs.Tryz
set_option maxRecDepth 20000
set_option maxHeartbeats 4000000
theorem z8c {m:Nat} (h:m<=9223372036854775808):(cX m).length<=19:=by unfold cX;rw [List.length_reverse];exact y9z 18 _ _ (by omega)
theorem j8g {n:Nat} (h:n < 10):IntKind.u8.wrap (48+((n:Nat):Int))=((((48+n).toUInt8).toNat:Nat):Int):=by
 have h1:((48+n).toUInt8).toNat=48+n:=by simp [Nat.toUInt8];omega
 rw [h1];simp only [IntKind.wrap,IntKind.signed,IntKind.bits];simp;omega
theorem x9y {n:Nat} (h:n < 256):IntKind.u8.wrap ((n:Nat):Int)=((n:Nat):Int):=by simp only [IntKind.wrap,IntKind.signed,IntKind.bits];simp;omega
theorem x2m {n:Nat} (h:n < 18446744073709551616):IntKind.u64.wrap ((n:Nat):Int)=((n:Nat):Int):=by simp only [IntKind.wrap,IntKind.signed,IntKind.bits];simp;omega
theorem u64_neg {n:Int} (h:n < 0) (h1:I64 n):IntKind.u64.wrap n=(((n+18446744073709551616).toNat:Nat):Int):=by
 have:=h1.1;simp only [IntKind.wrap,IntKind.signed,IntKind.bits];simp;omega
theorem u64_pos {n:Int} (h:¬n < 0) (h1:I64 n):IntKind.u64.wrap n=((n.toNat:Nat):Int):=by
 have:=h1.2;simp only [IntKind.wrap,IntKind.signed,IntKind.bits];simp;omega
theorem x9x {n:Int} (h:n < 0) (h1:I64 n):IntKind.u64.wrap (0 - (((n+18446744073709551616).toNat:Nat):Int))=(((-n).toNat:Nat):Int):=by
 have:=h1.1;simp only [IntKind.wrap,IntKind.signed,IntKind.bits];simp;omega
theorem x9n {n:Int} (h:n < 0):(⟨#[45]⟩:Bs)++z1b (cX (-n).toNat)=aU n:=by rw [z1u,z6i,if_pos h];exact (y0u [45] _).symm
theorem x9o {n:Int} (h:¬n < 0):z1b (cX n.toNat)=aU n:=by rw [z1u,z6i,if_neg h]
theorem q3n {Φ:Fz} {K:List Res} {w:World} {n:Nat}  (h:n<=9223372036854775808) (e:∀m:Nat,m < n->∀{Φ:Fz} {K:List Res} {w:World},Mem Φ K w->Calls prog 153 #[.int .u64 m] w (fun ee w'=>ee=.returned (.string (z1b (cX m)))/\Mem Φ K w')) (N:Mem Φ K w) :
  Calls prog 153 #[.int .u64 n] w (fun ee w'=>ee=.returned (.string ((z1b (cX n))))/\Mem Φ K w'):=by
 refine zL func153 ntmps153 fun Q hQ a J=>?_
 by_cases d:n < 10
 refine Qq (fun a J=>?_) (o:=by exact fun J O=>z5l ((n:Nat):Int) J rfl underlying219 underlying5 (x9y (by omega)))
 refine Qq (fun a J=>?_) (o:=by exact fun J O=>z7r ((((48+n).toUInt8).toNat:Nat):Int) J rfl rfl (j8g (by omega)))
 refine jQ fun i w N a J=>?_
 refine Qq (fun a J=>?_) (o:=by exact fun J O=>j0t (b:=((48+n).toUInt8)) 0 J O rfl rfl underlying237 underlying5 underlying9)
 refine zD ?_
 replace N:=N.dl [0]
 exact tT N (by rw [y9y d])
 refine Qq (fun a J=>?_) (o:=by exact fun J O=>y_quo ((n / 10:Nat):Int) J rfl rfl (by decide) (by rw [show ((n:Nat):Int).tdiv 10=((n / 10:Nat):Int) from rfl];exact x2m (by omega)))
 refine zT call153 (fun w N a J=>?_) (c:=e (n / 10) (by omega) N)
 refine Qq (fun a J=>?_) (o:=by exact fun J O=>y_rem ((n % 10:Nat):Int) J rfl rfl (by decide) (rfl))
 refine zT call153 (fun w N a J=>?_) (c:=e (n % 10) (by omega) N)
 refine Qq (fun a J=>?_) (o:=by exact fun J O=>vP J rfl rfl (by rw [z9f,z9f];have f:=z8c (m:=n / 10) (by omega);have g:=z8c (m:=n % 10) (by omega);omega))
 refine zD ?_
 exact tT N (by rw [j1s d,y0u])
theorem y3y {n:Nat} (b:n<=9223372036854775808):∀{Φ:Fz} {K:List Res} {w:World},Mem Φ K w->Calls prog 153 #[.int .u64 n] w (fun ee w'=>ee=.returned (.string (z1b (cX n)))/\Mem Φ K w'):=by
 induction n using Nat.strongRecOn with
 | ind n c=>intro Φ K w N;exact q3n b (fun m a _ _ _ N=>c m a (by omega) N) N
theorem x9m {Φ:Fz} {K:List Res} {w:World} {n:Int}  (b:I64 n) (N:Mem Φ K w) :
  Calls prog 117 #[.int .i64 n] w (fun ee w'=>ee=.returned (.string ((aU n)))/\Mem Φ K w'):=by
 refine zL func117 ntmps117 fun Q hQ a J=>?_
 by_cases f:n < 0
 refine Qq (fun a J=>?_) (o:=by exact fun J O=>z5l (((n+18446744073709551616).toNat:Nat):Int) J rfl underlying3 underlying219 (u64_neg (by omega) b))
 refine Qq (fun a J=>?_) (o:=by exact fun J O=>y_neg (((-n).toNat:Nat):Int) J rfl (x9x (by omega) b))
 refine zT call153 (fun w N a J=>?_) (c:=y3y (n:=(-n).toNat) (by have d:=b.1;have e:=b.2;omega) N)
 refine Qq (fun a J=>?_) (o:=by exact fun J O=>vP J rfl rfl (by rw [z9f];have d:=z8c (m:=(-n).toNat) (by have:=b.1;omega);have e:(⟨#[45]⟩:Bs).size=1:=rfl;omega))
 refine zD ?_
 exact tT N (by exact x9n f)
 refine Qq (fun a J=>?_) (o:=by exact fun J O=>z5l ((n.toNat:Nat):Int) J rfl underlying3 underlying219 (u64_pos (by omega) b))
 refine zT call153 (fun w N a J=>?_) (c:=y3y (n:=n.toNat) (by have d:=b.1;have e:=b.2;omega) N)
 refine zD ?_
 exact tT N (by exact x9o f)
section
variable {Φ:Fz} {K:List Res} {w:World}
theorem z6c {s:Bs} {k:Nat} (O:s.size<=1000000) (e:k<=1000000) (N:Mem Φ K w) :
  Calls prog 84 #[.string s,.int .i64 k] w (fun ee w'=>ee=.returned (.string (vZ s k))/\Mem Φ K w'):=by
 refine zL func84 ntmps84 fun Q hQ a J=>?_
 have b:I64 ((k:Nat):Int):=⟨by omega,by omega⟩
 have d:=z4p b
 refine Qq (fun a J=>?_) (o:=by exact fun J O=>vP J rfl rfl (by show s.size+1<=_;omega))
 refine zT call117 (fun w N a J=>?_) (c:=x9m b N)
 refine Qq (fun a J=>?_) (o:=by exact fun J O=>vP J rfl rfl (by rw [ByteArray.size_append];show s.size+1+_<=_;omega))
 refine zD ?_
 exact ⟨rfl,N⟩
theorem put_in {l:List Bs} {s:Bs} (h:dA l s=true):z4e l s=l:=j5h (hasB_mem.1 h)
theorem put_new {l:List Bs} {s:Bs} (h:dA l s=false):z4e l s=l++[s]:=q5q fun a=>by rw [hasB_mem.2 a] at h;cases h
theorem j3d {l:List Bs} {v:Value} {s:Bs}  (hb:l.length<=1000000)  (N:Mem Φ (.gs v 9 1 (strs l)::K) w) :
  Calls prog 152 #[v,.string s] w (fun ee w'=>∃v,ee=.returned v/\Mem Φ (.gs v 9 1 (strs (z4e l s))::K) w'):=by
 refine zL func152 ntmps152 fun Q hQ a J=>?_
 refine yH call18 (fun b w N a J=>?_) (fun b w N a J=>?_) (c:=y2t (l:=l) N)
 refine zD ?_
 refine ⟨_,rfl,?_⟩
 rw [show (strs (z4e l s))=(strs l) by rw [put_in b]];exact N
 refine jQ fun d w N a J=>?_
 refine vH 1 xQ (fun e w N a J=>?_) (hb:=by rw [zR];simp only [lcQ,lnQ];omega)
 first | rw [qI] at N | rw [<- yN] at N
 refine zD ?_
 replace N:=N.dl [0]
 refine ⟨_,rfl,?_⟩
 rw [show (strs (z4e l s))=(strs (l++[s])) by rw [put_new b]];exact N
theorem z9i {f:Bs} {e:Ex} {i:Nat} (h:¬i < e.args.length∨(¬i=0/\¬e.kind=8)):oK f e i=srcPa f e.arms:=by
 rcases h with h | ⟨h,a⟩
 exact x1o h
 exact j3k h a
theorem z3i {a l m:List Bs} {n:Nat} (h:a.length+(l++m).length<=n):(yL a l).length+m.length<=n:=by
 have:=z0a (l:=l) (a:=a)
 rw [laQ] at h;omega
theorem j4i {f:Bs} {e:Ex} (a:¬e.kind=2) (b:¬e.kind=3) (c:¬e.kind=5) (d:¬e.kind=6) (h:¬e.kind=8) (g:¬e.kind=7):qY f e=[]:=by
 cases e;simp only [Ex.kind] at a b c d g h;simp [qY,a,b,c,d,g,h]
theorem y9d {l:List Bs} {T:Table}  {v:Value} {f:Bs} {d2:List Value} {e:Ex} (O1:REx Φ d2 e) (hb:l.length+(qY f e).length<=1000000) (hf:f.size<=1000) (ht:wT e) (ho:okR T e) (ih:∀x:Ex,x.sz < e.sz->∀{Φ:Fz} {K:List Res} {w:World} {d:List Value} {v:Value} {l:List Bs},l.length+(qY f x).length<=1000000->wT x->okR T x->REx Φ d x->Mem Φ (.gs v 9 1 (strs l)::K) w->Calls prog 115 #[v,.string f,.agg d.toArray] w (fun ee w'=>∃v,ee=.returned v/\Mem Φ (.gs v 9 1 (strs (yL l (qY f x)))::K) w'))  (N:Mem Φ (.gs v 9 1 (strs l)::K) w) :
  Calls prog 115 #[v,.string f,.agg d2.toArray] w (fun ee w'=>∃v,ee=.returned v/\Mem Φ (.gs v 9 1 (strs (yL l (qY f e)))::K) w'):=by
 obtain ⟨p3,c4,p9,E,rfl,B2,h2,h8,q3,I,H2,F⟩:=REx.fm O1
 obtain ⟨z3,A3,M,s0⟩:=(kY e).1 ht
 have L:=((nD e).1 ho).2.2.2.1
 have r0:=((nD e).1 ho).2.2.2.2
 refine zL func115 ntmps115 fun Q hQ a J=>?_
 refine Bx fun n w N a J=>?_
 by_cases Z0:e.kind=2
 refine Qq (fun a J=>?_) (o:=by exact fun J O=>vP J rfl rfl (by show f.size+1<=_;omega))
 refine Qq (fun a J=>?_) (o:=by exact fun J O=>vP J rfl rfl (by rw [ByteArray.size_append];show f.size+1+_<=_;omega))
 replace N:=N.pl 1
 refine st J rfl rfl rfl (jF J rfl call152 (j3d (l:=l) (s:=((f++(⟨#[46]⟩:Bs))++e.name)) (by omega) N) fun v21 w N a J=>?_)
 replace N:=N.nf
 refine zD ?_
 replace N:=N.dl [1]
 refine ⟨_,rfl,?_⟩
 rw [show (strs (yL l (qY f e)))=(strs (z4e l ((f++(⟨#[46]⟩:Bs))++e.name))) by rw [z7h Z0];rfl];exact N
 by_cases a1:e.kind=3
 refine Qq (fun a J=>?_) (o:=by exact fun J O=>vP J rfl rfl (by show 3+e.name.size<=_;omega))
 replace N:=N.pl 1
 refine st J rfl rfl rfl (jF J rfl call152 (j3d (l:=l) (s:=((⟨#[105,110,46]⟩:Bs)++e.name)) (by omega) N) fun B3 w N a J=>?_)
 replace N:=N.nf
 refine zD ?_
 replace N:=N.dl [1]
 refine ⟨_,rfl,?_⟩
 rw [show (strs (yL l (qY f e)))=(strs (z4e l ((⟨#[105,110,46]⟩:Bs)++e.name))) by rw [z7g a1];rfl];exact N
 by_cases b1:e.kind=5
 refine go fun a J=>?_
 replace N:=N.pl 1
 refine st J rfl rfl rfl (jF J rfl call152 (j3d (l:=l) (s:=e.name) (by omega) N) fun C3 w N a J=>?_)
 replace N:=N.nf
 refine zD ?_
 replace N:=N.dl [1]
 refine ⟨_,rfl,?_⟩
 rw [show (strs (yL l (qY f e)))=(strs (z4e l e.name)) by rw [z3m b1];rfl];exact N
 refine go fun a J=>?_
 by_cases b0:e.kind=6
 by_cases c1:1 < e.args.length
 refine go fun a J=>?_
 obtain ⟨w3,rfl,Q1,D,i2,E2,y2,Y⟩:=h2.el I c1
 obtain ⟨s3,g3,t3,c51,rfl,C2,i3,j3,I2,M2,J2,N2⟩:=REx.fm Y
 refine go fun a J=>?_
 replace N:=N.pl 1
 refine st J rfl rfl rfl (jF J rfl call115 (ih _ (Ex.lt_args (mgQ D)) (l:=l) (by rw [oL b0,y2y D] at hb;omega) (M _ (mgQ D)) (okRs_iff.1 L _ (mgQ D)) Y N) fun D3 w N a J=>?_)
 replace N:=N.nf
 refine zD ?_
 replace N:=N.dl [1]
 refine ⟨_,rfl,?_⟩
 rw [show (strs (yL l (qY f e)))=(strs (yL l (qY f Q1))) by rw [oL b0,y2y D]];exact N
 refine zD ?_
 replace N:=N.dl [0]
 refine ⟨_,rfl,?_⟩
 rw [show (strs (yL l (qY f e)))=(strs l) by rw [oL b0,q9z (by omega)];rfl];exact N
 by_cases k3:e.kind=8
 refine go fun a J=>?_
 refine jS (fun mm a w=>∃(i:Nat) (u:Value) (m:List Bs),mm=e.args.length - i/\EnvR 90 [(0,u),(1,.string f),(5,.pointer (some ⟨n,0,none⟩)),(7,.int .i64 i)] [] a/\Mem Φ (.blk n (ob [.int .i64 (e.kind),.int .i64 (e.num),.string e.name,.slice p3 e.args.length c4,.slice p9 e.arms.length E] 110)::.gs (u) 9 1 (strs m)::K) w/\(yL l (qY f e)=yL m (oK f e i)/\m.length+(oK f e i).length<=1000000)) (e.args.length - 0) ⟨0,v,l,rfl,J.pk,N,⟨by rw [sK (by omega) ho],by rw [<- sK (by omega) ho];omega⟩⟩ ?_
 clear N J
 rintro mm a w ⟨i,u,m,q,J,N,F0⟩ f3 X
 obtain ⟨p,b⟩:=F0
 by_cases E0:i < e.args.length
 by_cases l3:i=0
 refine go fun a J=>?_
 obtain ⟨x3,rfl,R1,r,j2,F2,z2,Z⟩:=h2.el I E0
 obtain ⟨u3,h3,v3,c85,rfl,D2,m3,n3,K2,O2,L2,P2⟩:=REx.fm Z
 refine go fun a J=>?_
 replace N:=N.pl 1
 refine st J rfl rfl rfl (jF J rfl call115 (ih _ (Ex.lt_args (mgQ r)) (l:=m) (by rw [pH r (by omega),laQ] at b;omega) (M _ (mgQ r)) (okRs_iff.1 L _ (mgQ r)) Z N) fun P1 w N a J=>?_)
 replace N:=N.nf
 refine go fun a J=>?_
 replace N:=N.pl 1
 refine X _ _ _ (by subst q;omega) ⟨(i+1),(P1),((yL m (qY f R1))),rfl,J.pk,N,?_⟩
 exact ⟨by rw [p,pH r (by omega),qS],z3i (by rw [<- pH r (by omega)];exact b)⟩
 refine go fun a J=>?_
 obtain ⟨y3,rfl,S1,t,k2,G2,A2,a0⟩:=h2.el I E0
 obtain ⟨Q2,a2,R2,b2,rfl,f1,o3,l2,o1,B1,p1,C1⟩:=REx.fm a0
 refine go fun a J=>?_
 replace N:=N.pl 1
 refine st J rfl rfl rfl (jF J rfl call115 (ih _ (Ex.lt_args (mgQ t)) (l:=m) (by rw [pH t (by omega),laQ] at b;omega) (M _ (mgQ t)) (okRs_iff.1 L _ (mgQ t)) a0 N) fun O0 w N a J=>?_)
 replace N:=N.nf
 refine go fun a J=>?_
 replace N:=N.pl 1
 refine X _ _ _ (by subst q;omega) ⟨(i+1),(O0),((yL m (qY f S1))),rfl,J.pk,N,?_⟩
 exact ⟨by rw [p,pH t (by omega),qS],z3i (by rw [<- pH t (by omega)];exact b)⟩
 refine go fun a J=>?_
 refine jS (fun mm a w=>∃(j:Nat) (H:Value) (m2:List Bs),mm=e.arms.length - j/\EnvR 90 [(0,H),(1,.string f),(5,.pointer (some ⟨n,0,none⟩)),(8,.int .i64 j)] [] a/\Mem Φ (.blk n (ob [.int .i64 (e.kind),.int .i64 (e.num),.string e.name,.slice p3 e.args.length c4,.slice p9 e.arms.length E] 110)::.gs (H) 9 1 (strs m2)::K) w/\(yL l (qY f e)=yL m2 (srcPa f (e.arms.drop j))/\m2.length+(srcPa f (e.arms.drop j)).length<=1000000)) (e.arms.length - 0) ⟨0,u,m,rfl,J.pk,N,by have h_:=z9i (f:=f) (e:=e) (i:=i) (by omega);rw [h_] at p b;exact ⟨p,b⟩⟩ ?_
 clear N J
 rintro mm a w ⟨j,H,m2,q,J,N,c0⟩ T1 g0
 obtain ⟨B,C⟩:=c0
 by_cases P:j < e.arms.length
 refine go fun a J=>?_
 obtain ⟨X2,rfl,y,c,V0,k1,k0,n0⟩:=h8.el F P
 obtain ⟨b3,X1,rfl,A0,R⟩:=RArm.iff.1 n0
 obtain ⟨S2,c2,rfl,q1,D1⟩:=A0.fm
 obtain ⟨G0,u0,H0,c143,rfl,g1,n2,o2,r1,E1,s1,F1⟩:=REx.fm R
 refine Qq (fun a J=>?_) (o:=by exact fun J O=>vK 2 (vs:=[.int .i64 (y.body.kind),.int .i64 (y.body.num),.string y.body.name,.slice G0 y.body.args.length u0,.slice H0 y.body.arms.length c143]) J O rfl k0 isAgg110 sizeOf110 rfl rfl)
 replace N:=N.pl 1
 refine st J rfl rfl rfl (jF J rfl call115 (ih _ (Ex.lt_arms (mgQ c)) (l:=m2) (by rw [wS c,laQ] at C;omega) ((s0 _ (mgQ c)).2.2.2) (okRa_iff.1 r0 _ (mgQ c)) R N) fun P0 w N a J=>?_)
 replace N:=N.nf
 refine go fun a J=>?_
 replace N:=N.pl 1
 refine g0 _ _ _ (by subst q;omega) ⟨(j+1),(P0),((yL m2 (qY f y.body))),rfl,J.pk,N,?_⟩
 exact ⟨by rw [B,wS c,qS],z3i (by rw [<- wS c];exact C)⟩
 refine zD ?_
 replace N:=N.dl [0]
 refine ⟨_,rfl,?_⟩
 rw [show (strs (yL l (qY f e)))=(strs m2) by rw [B,uA P];rfl];exact N
 by_cases p2:e.kind=7
 refine go fun a J=>?_
 refine jS (fun mm a w=>∃(i:Nat) (u:Value) (m:List Bs),mm=e.args.length - i/\EnvR 90 [(0,u),(1,.string f),(5,.pointer (some ⟨n,0,none⟩)),(7,.int .i64 i)] [] a/\Mem Φ (.blk n (ob [.int .i64 (e.kind),.int .i64 (e.num),.string e.name,.slice p3 e.args.length c4,.slice p9 e.arms.length E] 110)::.gs (u) 9 1 (strs m)::K) w/\(yL l (qY f e)=yL m (oK f e i)/\m.length+(oK f e i).length<=1000000)) (e.args.length - 0) ⟨0,v,l,rfl,J.pk,N,⟨by rw [sK (by omega) ho],by rw [<- sK (by omega) ho];omega⟩⟩ ?_
 clear N J
 rintro mm a w ⟨i,u,m,q,J,N,d0⟩ U1 h0
 obtain ⟨p,b⟩:=d0
 by_cases B0:i < e.args.length
 by_cases q2:i=0
 refine go fun a J=>?_
 obtain ⟨Y2,rfl,T0,g,W0,l1,e1,G⟩:=h2.el I B0
 obtain ⟨T2,e2,U2,c175,rfl,h1,r2,s2,t1,G1,u1,H1⟩:=REx.fm G
 refine go fun a J=>?_
 replace N:=N.pl 1
 refine st J rfl rfl rfl (jF J rfl call115 (ih _ (Ex.lt_args (mgQ g)) (l:=m) (by rw [pH g (by omega),laQ] at b;omega) (M _ (mgQ g)) (okRs_iff.1 L _ (mgQ g)) G N) fun Q0 w N a J=>?_)
 replace N:=N.nf
 refine go fun a J=>?_
 replace N:=N.pl 1
 refine h0 _ _ _ (by subst q;omega) ⟨(i+1),(Q0),((yL m (qY f T0))),rfl,J.pk,N,?_⟩
 exact ⟨by rw [p,pH g (by omega),qS],z3i (by rw [<- pH g (by omega)];exact b)⟩
 refine go fun a J=>?_
 refine jS (fun mm a w=>∃(j:Nat) (H:Value) (m2:List Bs),mm=e.arms.length - j/\EnvR 90 [(0,H),(1,.string f),(5,.pointer (some ⟨n,0,none⟩)),(8,.int .i64 j)] [] a/\Mem Φ (.blk n (ob [.int .i64 (e.kind),.int .i64 (e.num),.string e.name,.slice p3 e.args.length c4,.slice p9 e.arms.length E] 110)::.gs (H) 9 1 (strs m2)::K) w/\(yL l (qY f e)=yL m2 (srcPa f (e.arms.drop j))/\m2.length+(srcPa f (e.arms.drop j)).length<=1000000)) (e.arms.length - 0) ⟨0,u,m,rfl,J.pk,N,by have h_:=z9i (f:=f) (e:=e) (i:=i) (by omega);rw [h_] at p b;exact ⟨p,b⟩⟩ ?_
 clear N J
 rintro mm a w ⟨j,H,m2,q,J,N,e0⟩ V1 i0
 obtain ⟨B,C⟩:=e0
 by_cases S:j < e.arms.length
 refine go fun a J=>?_
 obtain ⟨Z2,rfl,z,h,X0,m1,l0,o0⟩:=h8.el F S
 obtain ⟨d3,Y1,rfl,C0,U⟩:=RArm.iff.1 o0
 obtain ⟨V2,f2,rfl,v1,I1⟩:=C0.fm
 obtain ⟨I0,w0,J0,x0,rfl,i1,t2,v2,w1,J1,x1,K1⟩:=REx.fm U
 refine Qq (fun a J=>?_) (o:=by exact fun J O=>vK 2 (vs:=[.int .i64 (z.body.kind),.int .i64 (z.body.num),.string z.body.name,.slice I0 z.body.args.length w0,.slice J0 z.body.arms.length x0]) J O rfl l0 isAgg110 sizeOf110 rfl rfl)
 replace N:=N.pl 1
 refine st J rfl rfl rfl (jF J rfl call115 (ih _ (Ex.lt_arms (mgQ h)) (l:=m2) (by rw [wS h,laQ] at C;omega) ((s0 _ (mgQ h)).2.2.2) (okRa_iff.1 r0 _ (mgQ h)) U N) fun R0 w N a J=>?_)
 replace N:=N.nf
 refine go fun a J=>?_
 replace N:=N.pl 1
 refine i0 _ _ _ (by subst q;omega) ⟨(j+1),(R0),((yL m2 (qY f z.body))),rfl,J.pk,N,?_⟩
 exact ⟨by rw [B,wS h,qS],z3i (by rw [<- wS h];exact C)⟩
 refine zD ?_
 replace N:=N.dl [0]
 refine ⟨_,rfl,?_⟩
 rw [show (strs (yL l (qY f e)))=(strs m2) by rw [B,uA S];rfl];exact N
 refine go fun a J=>?_
 refine jS (fun mm a w=>∃(j:Nat) (H:Value) (m2:List Bs),mm=e.arms.length - j/\EnvR 90 [(0,H),(1,.string f),(5,.pointer (some ⟨n,0,none⟩)),(8,.int .i64 j)] [] a/\Mem Φ (.blk n (ob [.int .i64 (e.kind),.int .i64 (e.num),.string e.name,.slice p3 e.args.length c4,.slice p9 e.arms.length E] 110)::.gs (H) 9 1 (strs m2)::K) w/\(yL l (qY f e)=yL m2 (srcPa f (e.arms.drop j))/\m2.length+(srcPa f (e.arms.drop j)).length<=1000000)) (e.arms.length - 0) ⟨0,u,m,rfl,J.pk,N,by have h_:=z9i (f:=f) (e:=e) (i:=i) (by omega);rw [h_] at p b;exact ⟨p,b⟩⟩ ?_
 clear N J
 rintro mm a w ⟨j,H,m2,q,J,N,f0⟩ W1 j0
 obtain ⟨B,C⟩:=f0
 by_cases V:j < e.arms.length
 refine go fun a J=>?_
 obtain ⟨a3,rfl,A,k,Y0,n1,m0,p0⟩:=h8.el F V
 obtain ⟨e3,Z1,rfl,D0,W⟩:=RArm.iff.1 p0
 obtain ⟨W2,g2,rfl,y1,L1⟩:=D0.fm
 obtain ⟨K0,y0,L0,z0,rfl,j1,w2,x2,z1,M1,A1,N1⟩:=REx.fm W
 refine Qq (fun a J=>?_) (o:=by exact fun J O=>vK 2 (vs:=[.int .i64 (A.body.kind),.int .i64 (A.body.num),.string A.body.name,.slice K0 A.body.args.length y0,.slice L0 A.body.arms.length z0]) J O rfl m0 isAgg110 sizeOf110 rfl rfl)
 replace N:=N.pl 1
 refine st J rfl rfl rfl (jF J rfl call115 (ih _ (Ex.lt_arms (mgQ k)) (l:=m2) (by rw [wS k,laQ] at C;omega) ((s0 _ (mgQ k)).2.2.2) (okRa_iff.1 r0 _ (mgQ k)) W N) fun S0 w N a J=>?_)
 replace N:=N.nf
 refine go fun a J=>?_
 replace N:=N.pl 1
 refine j0 _ _ _ (by subst q;omega) ⟨(j+1),(S0),((yL m2 (qY f A.body))),rfl,J.pk,N,?_⟩
 exact ⟨by rw [B,wS k,qS],z3i (by rw [<- wS k];exact C)⟩
 refine zD ?_
 replace N:=N.dl [0]
 refine ⟨_,rfl,?_⟩
 rw [show (strs (yL l (qY f e)))=(strs m2) by rw [B,uA V];rfl];exact N
 refine zD ?_
 replace N:=N.dl [0]
 refine ⟨_,rfl,?_⟩
 rw [show (strs (yL l (qY f e)))=(strs l) by rw [j4i (by assumption) (by assumption) (by assumption) (by assumption) (by assumption) (by assumption)];rfl];exact N
theorem q9x {T:Table} {f:Bs} (a:f.size<=1000) {e:Ex}:∀{Φ:Fz} {K:List Res} {w:World} {d:List Value} {v:Value} {l:List Bs},l.length+(qY f e).length<=1000000->wT e->okR T e->REx Φ d e->Mem Φ (.gs v 9 1 (strs l)::K) w->Calls prog 115 #[v,.string f,.agg d.toArray] w (fun ee w'=>∃v,ee=.returned v/\Mem Φ (.gs v 9 1 (strs (yL l (qY f e)))::K) w'):=by
 suffices H:∀n (e:Ex),e.sz < n->∀{Φ:Fz} {K:List Res} {w:World} {d:List Value} {v:Value} {l:List Bs},l.length+(qY f e).length<=1000000->wT e->okR T e->REx Φ d e->Mem Φ (.gs v 9 1 (strs l)::K) w->Calls prog 115 #[v,.string f,.agg d.toArray] w (fun ee w'=>∃v,ee=.returned v/\Mem Φ (.gs v 9 1 (strs (yL l (qY f e)))::K) w') from @H _ e (Nat.lt_succ_self _)
 intro n
 induction n with
 | zero=>intro e h;omega
 | succ n g=>intro e h Φ K w d v l hb c b re N;exact y9d re hb a c b (fun x i=>g x (by omega)) N
end
def toF (to:Bs) (l:List Bs):List Flow:=l.map fun s=>(s,to)
theorem toF_at {to:Bs} {l:List Bs} {i:Nat} {x:Bs} (h:l[i]? = some x):toF to (l.drop i)=(x,to)::toF to (l.drop (i+1)):=by rw [zA h];rfl
theorem toF_end {to:Bs} {l:List Bs} {i:Nat} (h:¬i < l.length):toF to (l.drop i)=[]:=by rw [zB h];rfl
theorem q0h {Φ:Fz} {K:List Res} {w:World} {i:Nat} {v:Value} {l:List Flow} (N:Mem Φ K w) (a:qU K i=some (.gs v 95 2 (zX l))):∃p cap,v=.slice p l.length cap :=
 tF N a (by rw [sU,Nat.mul_comm]) (by decide)
theorem y1h (l:List Flow) (a b:Bs):zX l++[.string a,.string b]=zX (l++[(a,b)]):=z1k l (a,b)
def mO (x:Flow) (l:List Flow) (k:Nat):Bool:=decide (x∈l.take k)
theorem y7z (x:Flow) (l:List Flow):mO x l 0=false:=by simp [mO]
theorem q2l {x y:Flow} {l:List Flow} {k:Nat} (h:l[k]? = some y) (h1:y.1=x.1) (e:y.2=x.2):mO x l (k+1)=true:=by
 rw [mO,jM h];obtain ⟨a,b⟩:=x;obtain ⟨c,d⟩:=y;simp only at h1 e;subst h1;subst e;simp
theorem z0l {x y:Flow} {l:List Flow} {k:Nat} (h:l[k]? = some y) (a:¬(y.1=x.1/\y.2=x.2)):mO x l (k+1)=mO x l k:=by
 rw [mO,mO,jM h]
 have:¬x=y:=fun e=>a ⟨by rw [e],by rw [e]⟩
 simp [this]
theorem j0d {x y:Flow} {l:List Flow} {k:Nat} (h:l[k]? = some y) (a:mO x l k=true):mO x l (k+1)=true:=by
 rw [mO,decide_eq_true_eq] at *
 rw [jM h];exact List.mem_append_left _ a
theorem z9n {x:Flow} {l:List Flow} {k:Nat} (h:¬k < l.length):mO x l k=decide (x∈l):=by rw [mO,z7j h]
theorem x4h {Φ:Fz} {K:List Res} {w:World} {p:Option Addr} {cc:Nat} {l:List Flow} {vf:Value} {fr:List Bs} {to:Bs} (rf:SliceOf RStr Φ 1 vf fr) (hb:l.length+fr.length<=2000000000000) (N:Mem Φ (.gs (.slice p l.length cc) 95 2 (zX l)::K) w) :
  Calls prog 114 #[.slice p l.length cc,vf,.string to] w (fun ee w'=>∃v:Value,ee=.returned v/\True/\Mem Φ (.gs v 95 2 (zX (yL l (toF to fr)))::K) w'):=by
 obtain ⟨p1,c2,rfl,Z,D⟩:=rf.fm
 refine zL func114 ntmps114 fun Q hQ a J=>?_
 refine go fun a J=>?_
 refine zU (J.ks [1,2]) N (fun R mm a w=>∃(i:Nat) (pp:Option Addr) (qq:Nat) (acc:List Flow),mm=fr.length - i/\R Φ [(0,.slice pp acc.length qq),(7,.int .i64 i)] [(0,.gs (.slice pp acc.length qq) 95 2 (zX acc))] a w/\(yL l (toF to fr)=yL acc (toF to (fr.drop i))/\acc.length<=l.length+i)) (fr.length - 0) ⟨0,p,cc,l,rfl,⟨J.pk,N⟩,⟨rfl,Nat.le_refl _⟩⟩ ?_
 clear N J
 rintro mm a w ⟨i,pp,qq,acc,e,⟨J,N⟩,M⟩ L8 C
 replace N:=N.nf
 obtain ⟨u,b0⟩:=M
 by_cases t:i < fr.length
 refine go fun a J=>?_
 obtain ⟨q,b⟩:=zZ (l:=fr) (i:=i) (by omega)
 refine zU (J.ks [0,1,2,7]) N (fun R mm a w=>∃(k:Nat) (o:Bool),mm=acc.length - k/\R Φ [(8,.bool o),(9,.int .i64 k)] [] a w/\(o=mO (q,to) acc k)) (acc.length - 0) ⟨0,false,rfl,⟨J.pk,N⟩,(y7z _ _).symm⟩ ?_
 clear N J
 rintro mm a w ⟨k,o,e,⟨J,N⟩,c⟩ a0 f
 by_cases n:k < acc.length
 refine Reg [1,1,1,1,1,1,2,1,1,1,2,1,1,1,1,1,1,2,1,1,1,1,1] [0] fun w N a J=>?_
 refine go fun a J=>?_
 cases o
 refine go fun a J=>?_
 obtain ⟨T,r⟩:=N.toSees.gsSome (i:=0) rfl n
 obtain ⟨H,d⟩:=zZ (l:=acc) (i:=k) (by omega)
 refine Qq (fun a J=>?_) (o:=by exact fun J O=>qX (p:=T) k J (by rw [<- r];rfl) rfl runUnderlying47 sizeOf95 n)
 refine Qq (fun a J=>?_) (o:=by exact fun J O=>y8p 0 (k * 2) 0 J O rfl (by rw [<- r];rfl) (sT d).1 isAgg9)
 refine go fun a J=>?_
 obtain ⟨c0,rfl,j,h,y,X,V,E⟩:=rf.el D t
 obtain rfl:y=[.string j]:=E
 by_cases A:H.1=j
 refine go fun a J=>?_
 obtain ⟨U,s⟩:=N.toSees.gsSome (i:=0) rfl n
 refine Qq (fun a J=>?_) (o:=by exact fun J O=>qX (p:=U) k J (by rw [<- s];rfl) rfl runUnderlying47 sizeOf95 n)
 refine Qq (fun a J=>?_) (o:=by exact fun J O=>y8p 0 (k * 2) 1 J O rfl (by rw [<- s];rfl) (sT d).2 isAgg9)
 by_cases B:H.2=to
 refine go fun a J=>?_
 refine f _ _ _ (by subst e;omega) ⟨(k+1),(true),rfl,⟨J.pk,N⟩,?_⟩
 have m:j=q:=Option.some.inj (h.symm.trans b)
 exact (q2l d (A.trans m) B).symm
 refine go fun a J=>?_
 refine f _ _ _ (by subst e;omega) ⟨(k+1),(false),rfl,⟨J.pk,N⟩,?_⟩
 have m:j=q:=Option.some.inj (h.symm.trans b)
 rw [z0l d (fun L=>B L.2)];exact c
 refine go fun a J=>?_
 refine f _ _ _ (by subst e;omega) ⟨(k+1),(false),rfl,⟨J.pk,N⟩,?_⟩
 have m:j=q:=Option.some.inj (h.symm.trans b)
 rw [z0l d (fun L=>A (L.1.trans m.symm))];exact c
 refine go fun a J=>?_
 refine f _ _ _ (by subst e;omega) ⟨(k+1),(true),rfl,⟨J.pk,N⟩,?_⟩
 obtain ⟨y_,P⟩:=zZ (l:=acc) (i:=k) (by omega)
 exact (j0d P c.symm).symm
 refine go fun a J=>?_
 cases o
 refine go fun a J=>?_
 obtain ⟨d0,rfl,I,G,z,Y,W,F⟩:=rf.el D t
 obtain rfl:z=[.string I]:=F
 refine qO fun a J=>?_
 refine jQ fun e0 w N a J=>?_
 refine vH 1 rt_47 (fun f0 w N a J=>?_) (hb:=by rw [sU];simp only [lcQ,lnQ];omega)
 rw [y1h] at N
 obtain ⟨S,c51,rfl⟩:=q0h N (i:=1) rfl
 replace N:=N.nf
 refine go fun a J=>?_
 replace N:=N.dl [0]
 refine C _ _ _ (by subst e;omega) ⟨(i+1),(S),(c51),((acc++[(I,to)])),rfl,⟨J.pk,N⟩,?_⟩
 have g:=of_decide_eq_false (c.trans (z9n (by omega))).symm
 obtain rfl:=Option.some.inj (b.symm.trans G)
 exact ⟨by rw [u,toF_at b,z5c,q5q g],by rw [laQ];simp only [lcQ,lnQ];omega⟩
 refine go fun a J=>?_
 refine C _ _ _ (by subst e;omega) ⟨(i+1),(pp),(qq),(acc),rfl,⟨J.pk,N⟩,?_⟩
 have g:=of_decide_eq_true (c.trans (z9n (by omega))).symm
 exact ⟨by rw [u,toF_at b,z5c,j5h g],by omega⟩
 refine zD ?_
 rw [u,toF_end t];exact ⟨_,rfl,trivial,N⟩
theorem cZ {Φ:Fz} {K:List Res} {w:World} {v vf:Value} {l:List Flow} {fr:List Bs} {to:Bs} (hb:l.length+fr.length<=2000000000000) (N:Mem Φ (.gs v 95 2 (zX l)::.gs vf 9 1 (strs fr)::K) w) :
  Calls prog 114 #[v,vf,.string to] w (fun ee w'=>∃v:Value,ee=.returned v/\True/\Mem Φ (.gs v 95 2 (zX (yL l (toF to fr)))::K) w'):=by
 obtain ⟨p,cc,rfl⟩:=q0h N (i:=0) rfl
 obtain ⟨Ψ,_,a,b,c⟩:=N.freezeRowT (i:=1) rfl
 exact (x4h (SliceOf.strs.2 b) hb a).mono fun ee w' h=>by
  obtain ⟨v,d,_,e⟩:=h
  exact ⟨v,d,trivial,(c _ _ e).tail⟩
theorem dI {T:Table} {Φ:Fz} {K:List Res} {w:World} {d:List Value} {f:Bs} {e:Ex} (b:f.size<=1000) (hl:(qY f e).length<=1000000) (g:wT e) (c:okR T e) (re:REx Φ d e) (N:Mem Φ K w) :
  Calls prog 115 #[.slice none 0 0,.string f,.agg d.toArray] w (fun ee w'=>∃v:Value,ee=.returned v/\True/\Mem Φ (.gs v 9 1 (strs (wW f e))::K) w') :=
 (q9x b (l:=[]) (by simpa using hl) g c re (N.nilRow 9 1)).mono fun ee w' h=>let ⟨v,h1,a⟩:=h;⟨v,h1,trivial,a⟩
theorem j0e (f node:Bs) (e:Ex):toF node (wW f e)=toP f node e:=rfl
theorem pK {a l m:List Flow} {n:Nat} (h:a.length+(l++m).length<=n):(yL a l).length+m.length<=n:=by
 have:=z0a (l:=l) (a:=a)
 rw [laQ] at h;omega
def hrF (pm:Pars) (f:Bs) (e:Ex) (n:Int):List Flow:=if 4<=e.kind/\e.kind<=n then [] else wX pm f e
section
variable {pm:Pars} {f:Bs} {e:Ex} {n:Int}
theorem j9l (h:n < 4):hrF pm f e n=wX pm f e:=if_neg (by omega)
theorem y4x {m:Int} (h:¬(n < e.kind/\e.kind<=m)) (N:n<=m):hrF pm f e m=hrF pm f e n:=by
 unfold hrF
 by_cases h1:4<=e.kind/\e.kind<=n
 rw [if_pos h1,if_pos (by omega)]
 rw [if_neg h1,if_neg (by omega)]
theorem z1o (h:4<=e.kind) (a:e.kind<=n):hrF pm f e n=[]:=if_pos ⟨h,a⟩
theorem z3d (h:n < e.kind):hrF pm f e n=wX pm f e:=if_neg (by omega)
theorem q7m (b:¬e.kind=7->e.arms=[]):hrF pm f e 6=uI f (e.arms.drop 0):=by
 rw [List.drop_zero]
 by_cases a:e.kind=7
 rw [z3d (by omega),y4v a]
 rw [b a]
 by_cases h:4<=e.kind/\e.kind<=6
 rw [z1o h.1 h.2];rfl
 rw [hrF,if_neg h,y4w (by omega) (by omega) (by omega) a];rfl
end
theorem q0n {Φ:Fz} {K:List Res} {w:World} {d0:List Value} {c:Core} {name:Bs} {j:Nat} (b:nH c.funs name=some j) (a:RCore Φ d0 c) (N:Mem Φ K w) :
  Calls prog 81 #[.agg d0.toArray,.string name] w (fun ee w'=>ee=.returned (.int .i64 j)/\Mem Φ K w'):=j9k b▸z8l a N
theorem varF_to {f s v:Bs} {k:Nat} {l:List Bs} (h:l[k]? = some v):z3t f s k (l.drop k)=toF (vrN f v) [vZ s k]++z3t f s (k+1) (l.drop (k+1)):=q5j h
theorem q3r {Φ:Fz} {c:Core} {d0:List Value} {f:Bs} {K:List Res} {w:World} {d:List Value} {v:Value} {l:List Flow} {e:Ex} (T1:RCore Φ d0 c) (hR:Right c) (hT:TidyC c) (hf:f.size<=1000)
  (ih:∀x:Ex,x.sz < e.sz->∀{K:List Res} {w:World} {d:List Value} {v:Value} {l:List Flow},l.length+(jK (yC c) f x).length<=1000000000000->okF c x->REx Φ d x->Mem Φ (.gs v 95 2 (zX l)::K) w->Calls prog 116 #[v,.agg d0.toArray,.string f,.agg d.toArray] w (fun ee w'=>∃v:Value,ee=.returned v/\True/\Mem Φ (.gs v 95 2 (zX (yL l (jK (yC c) f x)))::K) w')) (hb:l.length+(jK (yC c) f e).length<=1000000000000) (s:okF c e) (re:REx Φ d e) (N:Mem Φ (.gs v 95 2 (zX l)::K) w) :
  Calls prog 116 #[v,.agg d0.toArray,.string f,.agg d.toArray] w (fun ee w'=>∃v:Value,ee=.returned v/\True/\Mem Φ (.gs v 95 2 (zX (yL l (jK (yC c) f e)))::K) w'):=by
 have h0:=T1
 have L5:=re
 obtain ⟨p3,c4,p9,F0,i1,G0,j1,c22,rfl,h2,h8,s1,a6,f6,g6,X4,f5,Y4,z0,Z4,g5⟩:=RCore.fm T1
 obtain ⟨k1,H0,l1,I0,rfl,T4,V,z1,a5,P,b5,A0⟩:=REx.fm re
 obtain ⟨m0,o6,p6,W3⟩:=(kY e).1 s.2.1
 have t0:yL l (jK (yC c) f e)=yL l (wX (yC c) f e++(flowPs (yC c) f e.args++flowPa (yC c) f e.arms)):=by rw [mH,List.append_assoc]
 rw [mH,List.append_assoc] at hb
 refine zL func116 ntmps116 fun Q hQ a J=>?_
 refine Bx fun T w N a J=>?_
 refine Bx fun U w N a J=>?_
 refine goJ 6 fun a J=>?_
 refine sq fun d2 H1=>?_
 have r0:∀a w,(∃(u:Value) (m:List Flow),EnvR 167 [(0,u),(2,.string f),(5,.pointer (some ⟨T,0,none⟩)),(7,.pointer (some ⟨U,0,none⟩))] [] a/\Mem Φ (.blk U (ob [.int .i64 (e.kind),.int .i64 (e.num),.string e.name,.slice k1 e.args.length H0,.slice l1 e.arms.length I0] 110)::.blk T (ob [.slice p3 c.datas.length c4,.slice p9 c.inputs.length F0,.slice i1 c.funs.length G0,.slice j1 c.outputs.length c22] 27)::.gs (u) 95 2 (zX m)::K) w/\(yL l (jK (yC c) f e)=yL m (hrF (yC c) f e 4++(flowPs (yC c) f e.args++flowPa (yC c) f e.arms))/\m.length+(hrF (yC c) f e 4++(flowPs (yC c) f e.args++flowPa (yC c) f e.arms)).length<=1000000000000))->d2 a w:=by
  clear N J
  rintro a w ⟨u,m,J,N,C1⟩
  apply H1
  obtain ⟨g,b⟩:=C1
  refine sq fun f2 I1=>?_
  have W:∀a w,(∃(u:Value) (m:List Flow),EnvR 167 [(0,u),(2,.string f),(5,.pointer (some ⟨T,0,none⟩)),(7,.pointer (some ⟨U,0,none⟩))] [] a/\Mem Φ (.blk U (ob [.int .i64 (e.kind),.int .i64 (e.num),.string e.name,.slice k1 e.args.length H0,.slice l1 e.arms.length I0] 110)::.blk T (ob [.slice p3 c.datas.length c4,.slice p9 c.inputs.length F0,.slice i1 c.funs.length G0,.slice j1 c.outputs.length c22] 27)::.gs (u) 95 2 (zX m)::K) w/\(yL l (jK (yC c) f e)=yL m (hrF (yC c) f e 5++(flowPs (yC c) f e.args++flowPa (yC c) f e.arms))/\m.length+(hrF (yC c) f e 5++(flowPs (yC c) f e.args++flowPa (yC c) f e.arms)).length<=1000000000000))->f2 a w:=by
   clear N J
   rintro a w ⟨u,m,J,N,D1⟩
   apply I1
   obtain ⟨g,b⟩:=D1
   refine sq fun g2 J1=>?_
   have s0:∀a w,(∃(u:Value) (m:List Flow),EnvR 167 [(0,u),(2,.string f),(5,.pointer (some ⟨T,0,none⟩)),(7,.pointer (some ⟨U,0,none⟩))] [] a/\Mem Φ (.blk U (ob [.int .i64 (e.kind),.int .i64 (e.num),.string e.name,.slice k1 e.args.length H0,.slice l1 e.arms.length I0] 110)::.blk T (ob [.slice p3 c.datas.length c4,.slice p9 c.inputs.length F0,.slice i1 c.funs.length G0,.slice j1 c.outputs.length c22] 27)::.gs (u) 95 2 (zX m)::K) w/\(yL l (jK (yC c) f e)=yL m (hrF (yC c) f e 6++(flowPs (yC c) f e.args++flowPa (yC c) f e.arms))/\m.length+(hrF (yC c) f e 6++(flowPs (yC c) f e.args++flowPa (yC c) f e.arms)).length<=1000000000000))->g2 a w:=by
    clear N J
    rintro a w ⟨u,m,J,N,E1⟩
    apply J1
    obtain ⟨g,b⟩:=E1
    refine go fun a J=>?_
    refine zU (J.ks [2,5,7]) N (fun R mm a w=>∃(j:Nat) (u:Value) (m:List Flow),mm=e.arms.length - j/\R Φ [(0,u),(12,.int .i64 j)] [(2,.gs (u) 95 2 (zX m))] a w/\(yL l (jK (yC c) f e)=yL m (uI f (e.arms.drop j)++(flowPs (yC c) f e.args++flowPa (yC c) f e.arms))/\m.length+(uI f (e.arms.drop j)++(flowPs (yC c) f e.args++flowPa (yC c) f e.arms)).length<=1000000000000)) (e.arms.length - 0) ⟨0,u,m,rfl,⟨J.pk,N⟩,⟨by rw [g,q7m (q8m s)],by rw [q7m (q8m s)] at b;exact b⟩⟩ ?_
    clear N J
    rintro mm a w ⟨j,u,m,r,⟨J,N⟩,F1⟩ U5 K1
    replace N:=N.nf
    obtain ⟨g,b⟩:=F1
    by_cases s2:j < e.arms.length
    refine go fun a J=>?_
    obtain ⟨l6,rfl,L,B0,y4,V4,R4,P1⟩:=z1.el A0 s2
    obtain ⟨n6,W5,rfl,B1,t2⟩:=RArm.iff.1 P1
    obtain ⟨i6,X5,rfl,c5,O1⟩:=B1.fm
    obtain ⟨j6,Y5,k6,Z5,rfl,U4,b6,c6,d5,h5,e5,i5⟩:=REx.fm t2
    refine zU (J.ks [2,5,7,12]) N (fun R mm a w=>∃(i:Nat) (u:Value) (m:List Flow),mm=L.vars.length - i/\R Φ [(0,u),(13,.int .i64 i)] [(2,.gs (u) 95 2 (zX m))] a w/\(yL l (jK (yC c) f e)=yL m (z3t f L.con i (L.vars.drop i)++(uI f (e.arms.drop (j+1))++(flowPs (yC c) f e.args++flowPa (yC c) f e.arms)))/\m.length+(z3t f L.con i (L.vars.drop i)++(uI f (e.arms.drop (j+1))++(flowPs (yC c) f e.args++flowPa (yC c) f e.arms))).length<=1000000000000)) (L.vars.length - 0) ⟨0,u,m,rfl,⟨J.pk,N⟩,by rw [j5i B0,List.append_assoc] at g b;exact ⟨g,b⟩⟩ ?_
    clear N J
    rintro mm a w ⟨i,u,m,r,⟨J,N⟩,G1⟩ V5 L1
    replace N:=N.nf
    obtain ⟨g,b⟩:=G1
    by_cases u2:i < L.vars.length
    refine go fun a J=>?_
    refine yI [1,1,2,1,1,1,2,1,0,0,1,1,1,2,1,1,1,2,1,1,2,1,0,1] (.q 0 (.q 1 (.q 2 (.q 3 (.q 4 (.q 5 (.q 6 (.q 7 (.q 10 (.q 11 (.q 12 (.q 13 (.q 14 (.q 15 (.q 16 (.q 17 (.q 18 (.q 19 (.q 20 (.q 21 (.e 8 (.e 9 (.e 22 (.q 23 (.done))))))))))))))))))))))))) [0,1] J N fun w N=>?_
    obtain ⟨P4,Q4,M1,_⟩:=W3 _ (mgQ B0)
    refine Qq (fun a J=>?_) (o:=by exact fun J O=>vP J rfl rfl (by show f.size+1<=_;omega))
    refine go fun a J=>?_
    obtain ⟨m6,rfl,m1,C0,p1,W4,S4,Q1⟩:=B1.el O1 u2
    obtain rfl:p1=[.string m1]:=Q1
    have h6:=M1 _ (mgQ C0)
    refine Qq (fun a J=>?_) (o:=by exact fun J O=>vP J rfl rfl (by rw [ByteArray.size_append];show f.size+1+_<=_;omega))
    refine zT call84 (fun w N a J=>?_) (c:=z6c (by omega) (by omega) N)
    refine jQ fun P5 w N a J=>?_
    replace N:=N.pl 3
    refine yO call114 (fun V1 w v2 N a J=>?_) (c:=cZ (l:=m) (fr:=[(vZ L.con i)]) (to:=((f++(⟨#[46]⟩:Bs))++m1)) (by simp only [lcQ,lnQ];omega) N)
    refine go fun a J=>?_
    replace N:=N.ar [] [2,2]
    refine L1 _ _ _ (by subst r;omega) ⟨(i+1),(V1),((yL m (toF ((f++(⟨#[46]⟩:Bs))++m1) ([(vZ L.con i)])))),rfl,⟨J.pk,N⟩,?_⟩
    rw [varF_to C0,List.append_assoc] at g b
    exact ⟨by rw [g,qS] <;> rfl,pK b⟩
    refine go fun a J=>?_
    refine K1 _ _ _ (by subst r;omega) ⟨(j+1),(u),(m),rfl,⟨J.pk,N⟩,?_⟩
    rw [j0i (by omega),List.nil_append] at g b
    exact ⟨g,b⟩
    refine go fun a J=>?_
    refine zU (J.ks [2,5,7]) N (fun R mm a w=>∃(B:Nat) (u:Value) (m:List Flow),mm=e.args.length - B/\R Φ [(0,u),(14,.int .i64 B)] [(2,.gs (u) 95 2 (zX m))] a w/\(yL l (jK (yC c) f e)=yL m (flowPs (yC c) f (e.args.drop B)++flowPa (yC c) f e.arms)/\m.length+(flowPs (yC c) f (e.args.drop B)++flowPa (yC c) f e.arms).length<=1000000000000)) (e.args.length - 0) ⟨0,u,m,rfl,⟨J.pk,N⟩,(by rw [q5x (by omega),List.nil_append] at g b;exact ⟨g,b⟩)⟩ ?_
    clear N J
    rintro mm a w ⟨B,u,m,r,⟨J,N⟩,L0⟩ X3 Q0
    replace N:=N.nf
    obtain ⟨g,b⟩:=L0
    by_cases q1:B < e.args.length
    refine Reg [1,2,1,1,2,1,1,2,0,1] [0,1] fun w N a J=>?_
    refine go fun a J=>?_
    obtain ⟨B5,rfl,U1,H,i2,X2,G2,Z⟩:=V.el P q1
    obtain ⟨k5,i4,l5,c127,rfl,P2,z4,A4,i3,C3,j3,D3⟩:=REx.fm Z
    replace N:=N.pl 2
    refine yO call116 (fun W1 w w2 N a J=>?_) (c:=ih _ (Ex.lt_args (mgQ H)) (l:=m) (by rw [z3c H,List.append_assoc,laQ] at b;omega) (kS s (mgQ H)) Z N)
    refine go fun a J=>?_
    replace N:=N.ar [] [2,2]
    refine Q0 _ _ _ (by subst r;omega) ⟨(B+1),(W1),((yL m (jK (yC c) f U1))),rfl,⟨J.pk,N⟩,?_⟩
    rw [z3c H,List.append_assoc] at g b
    exact ⟨by rw [g,qS] <;> rfl,pK b⟩
    refine go fun a J=>?_
    refine zU (J.ks [2,5,7]) N (fun R mm a w=>∃(C:Nat) (u:Value) (m:List Flow),mm=e.arms.length - C/\R Φ [(0,u),(15,.int .i64 C)] [(2,.gs (u) 95 2 (zX m))] a w/\(yL l (jK (yC c) f e)=yL m (flowPa (yC c) f (e.arms.drop C))/\m.length+(flowPa (yC c) f (e.arms.drop C)).length<=1000000000000)) (e.arms.length - 0) ⟨0,u,m,rfl,⟨J.pk,N⟩,(by rw [y4o (by omega),List.nil_append] at g b;exact ⟨g,b⟩)⟩ ?_
    clear N J
    rintro mm a w ⟨C,u,m,r,⟨J,N⟩,M0⟩ Y3 R0
    replace N:=N.nf
    obtain ⟨g,b⟩:=M0
    by_cases r1:C < e.arms.length
    refine Reg [1,2,1,1,2,1,1,1,2,0,1] [0,1] fun w N a J=>?_
    refine go fun a J=>?_
    obtain ⟨C5,rfl,G,I,j2,Y2,V0,a1⟩:=z1.el A0 r1
    obtain ⟨M5,d4,rfl,t1,n0⟩:=RArm.iff.1 a1
    obtain ⟨m5,j4,rfl,k3,E3⟩:=t1.fm
    obtain ⟨R1,n1,S1,o1,rfl,Q2,B4,C4,l3,F3,m3,G3⟩:=REx.fm n0
    refine Qq (fun a J=>?_) (o:=by exact fun J O=>vK 2 (vs:=[.int .i64 (G.body.kind),.int .i64 (G.body.num),.string G.body.name,.slice R1 G.body.args.length n1,.slice S1 G.body.arms.length o1]) J O rfl V0 isAgg110 sizeOf110 rfl rfl)
    replace N:=N.pl 2
    refine yO call116 (fun X1 w x2 N a J=>?_) (c:=ih _ (Ex.lt_arms (mgQ I)) (l:=m) (by rw [z3b I,laQ] at b;omega) (okF_arm s (mgQ I)) n0 N)
    refine go fun a J=>?_
    replace N:=N.ar [] [2,2]
    refine R0 _ _ _ (by subst r;omega) ⟨(C+1),(X1),((yL m (jK (yC c) f G.body))),rfl,⟨J.pk,N⟩,?_⟩
    rw [z3b I] at g b
    exact ⟨by rw [g,qS],pK b⟩
    refine zD ?_
    replace N:=N.dl [1,0]
    rw [y4n (by omega)] at g
    rw [g];exact ⟨_,rfl,trivial,N⟩
   by_cases u1:e.kind=6
   refine go fun a J=>?_
   refine yI [1,1,1,2,1,2,0,1,1,1,2,1,0,1] (.q 0 (.q 1 (.q 2 (.q 3 (.q 4 (.q 5 (.q 7 (.q 8 (.q 9 (.q 10 (.q 11 (.e 6 (.e 12 (.q 13 (.done))))))))))))))) [0,1] J N fun w N=>?_
   have h1:=m0 (by omega) (by omega)
   have N1:=okF_let s u1
   refine go fun a J=>?_
   obtain ⟨D5,rfl,i0,t,k2,Z2,H2,a0⟩:=V.el P N1
   obtain ⟨n5,k4,o5,l4,rfl,R2,D4,E4,n3,H3,o3,I3⟩:=REx.fm a0
   refine Qq (fun a J=>?_) (o:=by exact fun J O=>vP J rfl rfl (by show f.size+1<=_;omega))
   refine Qq (fun a J=>?_) (o:=by exact fun J O=>vP J rfl rfl (by rw [ByteArray.size_append];show f.size+1+_<=_;omega))
   refine yO call115 (fun Q5 w y2 N a J=>?_) (c:=dI (hf) (Nat.le_trans (wB (kS s (mgQ t)).2.2) (by decide)) (kS s (mgQ t)).2.1 (kS s (mgQ t)).1 a0 N)
   replace N:=N.pl 3
   refine yO call114 (fun Y1 w z2 N a J=>?_) (c:=cZ (l:=m) (fr:=(wW f i0)) (to:=((f++(⟨#[46]⟩:Bs))++e.name)) (by have J0:=z1n f i0;have K0:=wB (f:=f) (kS s (mgQ t)).2.2;omega) N)
   refine go fun a J=>?_
   replace N:=N.ar [] [2,2]
   exact s0 _ _ ⟨Y1,(yL m (toF ((f++(⟨#[46]⟩:Bs))++e.name) (wW f i0))),J.pk,N,by rw [z3d (by omega),z8r (by assumption),q4g t] at g b;rw [z1o (by omega) (by omega),List.nil_append];exact ⟨by rw [g,qS] <;> rfl,pK b⟩⟩
   refine go fun a J=>?_
   exact s0 _ _ ⟨u,m,J.pk,N,by rw [y4x (n:=5) (by omega) (by omega)];exact ⟨g,b⟩⟩
  by_cases M:e.kind=5
  refine go fun a J=>?_
  refine yI [1,2,2,1,2,0,1,2,0,0] (.q 0 (.q 1 (.q 2 (.q 3 (.q 4 (.e2 5 8 (.q 6 (.q 7 (.e 8 (.e 9 (.done))))) (.e 5 (.q 6 (.q 7 (.e 9 (.done))))))))))) [0,1,2] J N fun w N=>?_
  obtain ⟨j_,g_,u0,X,F,E,w0,x0,S⟩:=x7m s M hR hT
  have y0:=(List.getElem?_eq_some_iff.1 X).1
  refine go fun a J=>?_
  refine gW ?_ ?_
  refine zT call81 (fun w N a J=>?_) (c:=q0n u0 h0 N)
  obtain ⟨E5,rfl,k,f1,l2,a3,I2,b1⟩:=s1.el z0 y0
  obtain ⟨N5,e4,rfl,o0,v1⟩:=id b1
  obtain ⟨p5,m4,rfl,q3,Y0⟩:=o0.fm
  obtain ⟨q5,n4,r5,o4,rfl,S2,F4,G4,r3,J3,s3,K3⟩:=REx.fm v1
  refine go fun a J=>?_
  have Y:=Option.some.inj (X.symm.trans f1)
  rw [Y] at F E w0 x0 S
  refine Alc fun f4 w N a J=>?_
  refine Sto 0 fun w N a J=>?_
  refine go fun a J=>?_
  refine zU (J.ks [2,5,7,10]) N (fun R mm a w=>∃(h:Nat) (u:Value) (m:List Flow),mm=e.args.length - h/\R Φ [(0,u),(11,.int .i64 h)] [(3,.gs (u) 95 2 (zX m))] a w/\(yL l (jK (yC c) f e)=yL m (cG f k.name (k.params.drop h) (e.args.drop h)++(flowPs (yC c) f e.args++flowPa (yC c) f e.arms))/\m.length+(cG f k.name (k.params.drop h) (e.args.drop h)++(flowPs (yC c) f e.args++flowPa (yC c) f e.arms)).length<=1000000000000)) (e.args.length - 0) ⟨0,u,m,rfl,⟨J.pk,N⟩,⟨by rw [g,z3d (by omega),hM M,F,<- E];rfl,by rw [z3d (by omega),hM M,F,<- E] at b;exact b⟩⟩ ?_
  clear N J
  rintro mm a w ⟨h,u,m,r,⟨J,N⟩,N0⟩ Z3 S0
  replace N:=N.nf
  obtain ⟨g,b⟩:=N0
  by_cases w1:h < e.args.length
  refine go fun a J=>?_
  refine yI [1,1,1,2,1,1,2,0,1,2,1,1,2,1,1,1,2,1,0,1] (.q 0 (.q 1 (.q 2 (.q 3 (.q 4 (.q 5 (.q 6 (.q 8 (.q 9 (.q 10 (.q 11 (.q 12 (.q 13 (.q 14 (.q 15 (.q 16 (.q 17 (.e 7 (.e 18 (.q 19 (.done))))))))))))))))))))) [0,1,2] J N fun w N=>?_
  have h1:=m0 (by omega) (by omega)
  refine go fun a J=>?_
  obtain ⟨F5,rfl,j0,y,m2,b3,J2,b0⟩:=V.el P w1
  obtain ⟨s5,p4,t5,q4,rfl,T2,H4,I4,t3,L3,u3,M3⟩:=REx.fm b0
  refine Qq (fun a J=>?_) (o:=by exact fun J O=>vP J rfl rfl (by show k.name.size+1<=_;omega))
  refine go fun a J=>?_
  have W0:h < k.params.length:=by omega
  obtain ⟨G5,rfl,D0,f0,n2,d3,K2,c1⟩:=o0.el Y0 W0
  obtain rfl:=id c1
  have T3:=S _ (mgQ f0)
  refine Qq (fun a J=>?_) (o:=by exact fun J O=>vP J rfl rfl (by rw [ByteArray.size_append];show k.name.size+1+_<=_;omega))
  refine yO call115 (fun R5 w A2 N a J=>?_) (c:=dI (hf) (Nat.le_trans (wB (kS s (mgQ y)).2.2) (by decide)) (kS s (mgQ y)).2.1 (kS s (mgQ y)).1 b0 N)
  replace N:=N.pl 4
  refine yO call114 (fun Z1 w B2 N a J=>?_) (c:=cZ (l:=m) (fr:=(wW f j0)) (to:=((k.name++(⟨#[46]⟩:Bs))++D0.name)) (by have J0:=z1n f j0;have K0:=wB (f:=f) (kS s (mgQ y)).2.2;omega) N)
  refine go fun a J=>?_
  replace N:=N.ar [] [3,3,3]
  refine S0 _ _ _ (by subst r;omega) ⟨(h+1),(Z1),((yL m (toF ((k.name++(⟨#[46]⟩:Bs))++D0.name) (wW f j0)))),rfl,⟨J.pk,N⟩,?_⟩
  rw [z5t y f0,List.append_assoc] at g b
  exact ⟨by rw [g,qS] <;> rfl,pK b⟩
  refine go fun a J=>?_
  replace N:=N.dl [0]
  rotate_left
  refine Alc fun g4 w N a J=>?_
  refine zT call81 (fun w N a J=>?_) (c:=q0n u0 h0 N)
  obtain ⟨H5,rfl,p,g1,o2,e3,L2,d1⟩:=s1.el z0 y0
  obtain ⟨O5,h4,rfl,p0,x1⟩:=id d1
  obtain ⟨u5,r4,rfl,v3,Z0⟩:=p0.fm
  obtain ⟨v5,s4,w5,t4,rfl,U2,J4,K4,w3,N3,x3,O3⟩:=REx.fm x1
  refine go fun a J=>?_
  have Y:=Option.some.inj (X.symm.trans g1)
  rw [Y] at F E w0 x0 S
  refine Sto 0 fun w N a J=>?_
  refine go fun a J=>?_
  refine zU (J.ks [2,5,7,10]) N (fun R mm a w=>∃(h:Nat) (u:Value) (m:List Flow),mm=e.args.length - h/\R Φ [(0,u),(11,.int .i64 h)] [(3,.gs (u) 95 2 (zX m))] a w/\(yL l (jK (yC c) f e)=yL m (cG f p.name (p.params.drop h) (e.args.drop h)++(flowPs (yC c) f e.args++flowPa (yC c) f e.arms))/\m.length+(cG f p.name (p.params.drop h) (e.args.drop h)++(flowPs (yC c) f e.args++flowPa (yC c) f e.arms)).length<=1000000000000)) (e.args.length - 0) ⟨0,u,m,rfl,⟨J.pk,N⟩,⟨by rw [g,z3d (by omega),hM M,F,<- E];rfl,by rw [z3d (by omega),hM M,F,<- E] at b;exact b⟩⟩ ?_
  clear N J
  rintro mm a w ⟨h,u,m,r,⟨J,N⟩,O0⟩ a4 T0
  replace N:=N.nf
  obtain ⟨g,b⟩:=O0
  by_cases y1:h < e.args.length
  refine go fun a J=>?_
  refine yI [1,1,1,2,1,1,2,0,1,2,1,1,2,1,1,1,2,1,0,1] (.q 0 (.q 1 (.q 2 (.q 3 (.q 4 (.q 5 (.q 6 (.q 8 (.q 9 (.q 10 (.q 11 (.q 12 (.q 13 (.q 14 (.q 15 (.q 16 (.q 17 (.e 7 (.e 18 (.q 19 (.done))))))))))))))))))))) [0,1,2] J N fun w N=>?_
  have h1:=m0 (by omega) (by omega)
  refine go fun a J=>?_
  obtain ⟨I5,rfl,k0,z,p2,f3,M2,c0⟩:=V.el P y1
  obtain ⟨x5,u4,y5,v4,rfl,V2,L4,M4,y3,P3,z3,Q3⟩:=REx.fm c0
  refine Qq (fun a J=>?_) (o:=by exact fun J O=>vP J rfl rfl (by show p.name.size+1<=_;omega))
  refine go fun a J=>?_
  have X0:h < p.params.length:=by omega
  obtain ⟨J5,rfl,E0,g0,q2,g3,N2,e1⟩:=p0.el Z0 X0
  obtain rfl:=id e1
  have T3:=S _ (mgQ g0)
  refine Qq (fun a J=>?_) (o:=by exact fun J O=>vP J rfl rfl (by rw [ByteArray.size_append];show p.name.size+1+_<=_;omega))
  refine yO call115 (fun S5 w C2 N a J=>?_) (c:=dI (hf) (Nat.le_trans (wB (kS s (mgQ z)).2.2) (by decide)) (kS s (mgQ z)).2.1 (kS s (mgQ z)).1 c0 N)
  replace N:=N.pl 4
  refine yO call114 (fun a2 w D2 N a J=>?_) (c:=cZ (l:=m) (fr:=(wW f k0)) (to:=((p.name++(⟨#[46]⟩:Bs))++E0.name)) (by have J0:=z1n f k0;have K0:=wB (f:=f) (kS s (mgQ z)).2.2;omega) N)
  refine go fun a J=>?_
  replace N:=N.ar [] [3,3,3]
  refine T0 _ _ _ (by subst r;omega) ⟨(h+1),(a2),((yL m (toF ((p.name++(⟨#[46]⟩:Bs))++E0.name) (wW f k0)))),rfl,⟨J.pk,N⟩,?_⟩
  rw [z5t z g0,List.append_assoc] at g b
  exact ⟨by rw [g,qS] <;> rfl,pK b⟩
  refine go fun a J=>?_
  replace N:=N.dl [0]
  rotate_left
  refine go fun a J=>?_
  exact W _ _ ⟨u,m,J.pk,N,by rw [y4x (n:=4) (by omega) (by omega)];exact ⟨g,b⟩⟩
  all_goals (exact W _ _ ⟨u,m,J.pk,N,by rw [z7x (by omega),List.nil_append] at g b;rw [z1o (by omega) (by omega),List.nil_append];exact ⟨g,b⟩⟩)
 by_cases q0:e.kind=4
 refine go fun a J=>?_
 refine zU (J.ks [2,5,7]) N (fun R mm a w=>∃(D:Nat) (u:Value) (m:List Flow),mm=e.args.length - D/\R Φ [(0,u),(9,.int .i64 D)] [(2,.gs (u) 95 2 (zX m))] a w/\(yL l (jK (yC c) f e)=yL m (z5u f e.name D (e.args.drop D)++(flowPs (yC c) f e.args++flowPa (yC c) f e.arms))/\m.length+(z5u f e.name D (e.args.drop D)++(flowPs (yC c) f e.args++flowPa (yC c) f e.arms)).length<=1000000000000)) (e.args.length - 0) ⟨0,v,l,rfl,⟨J.pk,N⟩,⟨by rw [t0,z8q q0];rfl,by rw [z8q q0] at hb;exact hb⟩⟩ ?_
 clear N J
 rintro mm a w ⟨D,u,m,r,⟨J,N⟩,P0⟩ b4 U0
 replace N:=N.nf
 obtain ⟨g,b⟩:=P0
 by_cases A1:D < e.args.length
 refine go fun a J=>?_
 refine yI [1,1,1,2,1,1,2,0,1,2,1,0,0,1] (.q 0 (.q 1 (.q 2 (.q 3 (.q 4 (.q 5 (.q 6 (.q 8 (.q 9 (.q 10 (.e 7 (.e 11 (.e 12 (.q 13 (.done))))))))))))))) [0,1] J N fun w N=>?_
 have h1:=m0 (by omega) (by omega)
 refine go fun a J=>?_
 obtain ⟨K5,rfl,l0,A,r2,h3,O2,e0⟩:=V.el P A1
 obtain ⟨z5,w4,A5,x4,rfl,W2,N4,O4,A3,R3,B3,S3⟩:=REx.fm e0
 refine yO call115 (fun T5 w E2 N a J=>?_) (c:=dI (hf) (Nat.le_trans (wB (kS s (mgQ A)).2.2) (by decide)) (kS s (mgQ A)).2.1 (kS s (mgQ A)).1 e0 N)
 refine zT call84 (fun w N a J=>?_) (c:=z6c (by omega) (by omega) N)
 replace N:=N.pl 3
 refine yO call114 (fun b2 w F2 N a J=>?_) (c:=cZ (l:=m) (fr:=(wW f l0)) (to:=(vZ e.name D)) (by have J0:=z1n f l0;have K0:=wB (f:=f) (kS s (mgQ A)).2.2;omega) N)
 refine go fun a J=>?_
 replace N:=N.ar [] [2,2]
 refine U0 _ _ _ (by subst r;omega) ⟨(D+1),(b2),((yL m (toF (vZ e.name D) (wW f l0)))),rfl,⟨J.pk,N⟩,?_⟩
 rw [q3k A,List.append_assoc] at g b
 exact ⟨by rw [g,qS] <;> rfl,pK b⟩
 refine go fun a J=>?_
 exact r0 _ _ ⟨u,m,J.pk,N,by rw [q6j (by omega),List.nil_append] at g b;rw [z1o (by omega) (by omega),List.nil_append];exact ⟨g,b⟩⟩
 refine go fun a J=>?_
 exact r0 _ _ ⟨v,l,J.pk,N,by rw [y4x (n:=3) (by omega) (by omega),j9l (by decide)];exact ⟨t0,hb⟩⟩
theorem j1x {Φ:Fz} {c:Core} {d0:List Value} {f:Bs} {e:Ex} (a:RCore Φ d0 c) (b:Right c) (g:TidyC c) (i:f.size<=1000):∀{K:List Res} {w:World} {d:List Value} {v:Value} {l:List Flow},l.length+(jK (yC c) f e).length<=1000000000000->okF c e->REx Φ d e->Mem Φ (.gs v 95 2 (zX l)::K) w->Calls prog 116 #[v,.agg d0.toArray,.string f,.agg d.toArray] w (fun ee w'=>∃v:Value,ee=.returned v/\True/\Mem Φ (.gs v 95 2 (zX (yL l (jK (yC c) f e)))::K) w'):=by
 suffices H:∀n (e:Ex),e.sz < n->∀{K:List Res} {w:World} {d:List Value} {v:Value} {l:List Flow},l.length+(jK (yC c) f e).length<=1000000000000->okF c e->REx Φ d e->Mem Φ (.gs v 95 2 (zX l)::K) w->Calls prog 116 #[v,.agg d0.toArray,.string f,.agg d.toArray] w (fun ee w'=>∃v:Value,ee=.returned v/\True/\Mem Φ (.gs v 95 2 (zX (yL l (jK (yC c) f e)))::K) w') from @H _ e (Nat.lt_succ_self _)
 intro n
 induction n with
 | zero=>intro e h;omega
 | succ n k=>intro e h K w d v l hb j re N;exact q3r a b g i (fun x m=>k x (by omega)) hb j re N
section
variable {c:Core}
theorem y0c:∀{l:List Data} {n:Bs} {d:Data},vB l n=some d->d∈l/\d.name=n
 | [],_,_,h=>by cases h
 | x::l,n,d,h=>by
  simp only [vB] at h
  split at h
  cases h;exact ⟨msQ,by assumption⟩
  obtain ⟨h1,a⟩:=y0c h;exact ⟨mcQ _ h1,a⟩
theorem uN {i:Param}:∀{l:List Data},(∀d∈l,d.name≠i.type)->l.flatMap (tG i)=[]
 | [],_=>rfl
 | x::l,h=>by
  rw [List.flatMap_cons,tG,if_neg (h x msQ),uN fun d a=>h d (mcQ _ a)];rfl
theorem q0s {i:Param}:∀{l:List Data},(l.map Data.name).Nodup->l.flatMap (tG i)=((vB l i.type).getD uY).cons.flatMap fun x=>kQ i x.name 0 x.fields
 | [],_=>rfl
 | x::l,h=>by
  obtain ⟨h1,b⟩:=List.nodup_cons.1 (show (x.name::l.map Data.name).Nodup from h)
  rw [List.flatMap_cons,vB]
  by_cases a:x.name=i.type
  rw [if_pos a,tG,if_pos a,uN fun d c e=>h1 (by rw [a,<- e];exact List.mem_map_of_mem c),List.append_nil];rfl
  rw [if_neg a,tG,if_neg a,List.nil_append,q0s b]
theorem x6k (a:Right c) {i:Param} (h:i.type=yU):uO c i=[]:=uN fun d b e=>(a.dN d (mcQ _ b)).2.1 (e.trans h)
def dOf (c:Core) (i:Param):Data:=(qR c.datas i.type).getD uY
theorem j9o (b:Right c) {i:Param}:uO c i=(dOf c i).cons.flatMap fun x=>kQ i x.name 0 x.fields:=by
 have g:(truthsD.name::c.datas.map Data.name).Nodup:=b.dU
 obtain ⟨h1,a⟩:=List.nodup_cons.1 g
 unfold dOf qR uO
 by_cases hb:i.type=kV
 rw [if_pos hb,uN fun d f e=>h1 (by rw [show truthsD.name=kV from rfl,<- hb,<- e];exact List.mem_map_of_mem f)];rfl
 rw [if_neg hb];exact q0s a
theorem x3r (a:TidyC c) (i:Param):∀x∈(dOf c i).cons,x.name.size<=1000/\x.fields.length<=1000:=by
 unfold dOf qR
 by_cases hb:i.type=kV
 rw [if_pos hb];exact z0o
 rw [if_neg hb]
 cases h:vB c.datas i.type with
 | none=>intro x b;cases b
 | some d=>exact a.con d (y0c h).1
end
theorem j5u {i:Param} {s t:Bs} {j:Nat} {l:List Bs} (h:l[j]? = some t) (a:t=i.type):kQ i s j (l.drop j)=toF (vZ s j) [inN i.name]++kQ i s (j+1) (l.drop (j+1)):=by
 rw [zA h,kQ,if_pos a];rfl
theorem x3o {i:Param} {s t:Bs} {j:Nat} {l:List Bs} (h:l[j]? = some t) (a:¬t=i.type):kQ i s j (l.drop j)=kQ i s (j+1) (l.drop (j+1)):=by
 rw [zA h,kQ,if_neg a];rfl
theorem fld_end {i:Param} {s:Bs} {j:Nat} {l:List Bs} (h:¬j < l.length):kQ i s j (l.drop j)=[]:=by rw [zB h];rfl
theorem j9g {Φ:Fz} {K:List Res} {w:World} {d0:List Value} {c:Core} (r0:RCore Φ d0 c) (hR:Right c) (hT:TidyC c) (C:∀f∈c.funs,okF c f.body) (h0:(xW c).length<=1000000000000) (N:Mem Φ K w) :
  Calls prog 82 #[.agg d0.toArray] w (fun ee w'=>∃v:Value,ee=.returned v/\True/\Mem Φ (.gs v 95 2 (zX (zQ c))::K) w'):=by
 have y:=r0
 obtain ⟨p3,c4,p9,B1,O1,C1,P1,c22,rfl,h2,h8,P,F1,L1,M1,h1,j0,i1,k0,j1,m1⟩:=RCore.fm r0
 have n0:zQ c=yL [] (xW c):=rfl
 have I:xW c=c.inputs.flatMap (uO c)++c.funs.flatMap (wO (yC c)):=rfl
 refine zL func82 ntmps82 fun Q hQ a J=>?_
 refine Bx fun y1 w N a J=>?_
 refine go fun a J=>?_
 replace N:=N.nilRow 95 2
 replace N:=N.nf
 refine go fun a J=>?_
 refine zU (J.ks [1]) N (fun R mm a w=>∃(n:Nat) (u:Value) (m:List Flow),mm=c.inputs.length - n/\R Φ [(3,u),(4,.int .i64 n)] [(0,.gs (u) 95 2 (zX m))] a w/\(zQ c=yL m (((c.inputs.drop (n)).flatMap (uO c)++(c.funs).flatMap (wO (yC c))))/\m.length+(((c.inputs.drop (n)).flatMap (uO c)++(c.funs).flatMap (wO (yC c)))).length<=1000000000000)) (c.inputs.length - 0) ⟨0,.slice none 0 0,[],rfl,⟨J.pk,N⟩,⟨by rw [n0,I];rfl,by rw [I] at h0;simpa using h0⟩⟩ ?_
 clear N J
 rintro mm a w ⟨n,u,m,r,⟨J,N⟩,b0⟩ v1 H
 replace N:=N.nf
 obtain ⟨d,i⟩:=b0
 by_cases y0:n < c.inputs.length
 refine go fun a J=>?_
 obtain ⟨S1,rfl,h,E,Y0,e1,L,D⟩:=h8.el j0 y0
 obtain rfl:=id D
 refine Alc fun z1 w N a J=>?_
 refine Sto 0 fun w N a J=>?_
 by_cases H1:h.type=(⟨#[73,110,116]⟩:Bs)
 refine go fun a J=>?_
 replace N:=N.dl [0]
 refine H _ _ _ (by subst r;omega) ⟨(n+1),(u),(m),rfl,⟨J.pk,N⟩,?_⟩
 rw [zA E,List.flatMap_cons,x6k hR (by assumption),List.nil_append] at d i
 exact ⟨d,i⟩
 refine yO call110 (fun R0 w a0 N a J=>?_) (c:=z4i y N)
 obtain ⟨G,x0⟩:=R0
 obtain ⟨t,z⟩:=a0
 simp only at t z N J
 replace P:=P.up t
 replace y:=RCore.mono _ _ _ _ t y
 replace L:=L.mono t
 replace D:=RParam.mono _ _ _ _ t D
 replace N:=N.nf
 replace z:RData G x0 (dOf c h):=z
 obtain ⟨V1,rfl,Y⟩:=id z
 obtain ⟨Q1,D1,rfl,k1,l0⟩:=Y.fm
 refine Alc fun A1 w N a J=>?_
 refine Sto 0 fun w N a J=>?_
 refine go fun a J=>?_
 refine zU (J.ks [1,4,5,6]) N (fun R mm a w=>∃(s:Nat) (u:Value) (m:List Flow),mm=(dOf c h).cons.length - s/\R G [(3,u),(8,.int .i64 s)] [(2,.gs (u) 95 2 (zX m))] a w/\(zQ c=yL m (((dOf c h).cons.drop s).flatMap (fun x=>kQ h x.name 0 x.fields)++((c.inputs.drop (n+1)).flatMap (uO c)++(c.funs).flatMap (wO (yC c))))/\m.length+(((dOf c h).cons.drop s).flatMap (fun x=>kQ h x.name 0 x.fields)++((c.inputs.drop (n+1)).flatMap (uO c)++(c.funs).flatMap (wO (yC c)))).length<=1000000000000)) ((dOf c h).cons.length - 0) ⟨0,u,m,rfl,⟨J.pk,N⟩,(by rw [zA E,List.flatMap_cons,j9o hR,List.append_assoc] at d i;exact ⟨d,i⟩)⟩ ?_
 clear N J
 rintro mm a w ⟨s,u,m,r,⟨J,N⟩,c0⟩ w1 f0
 replace N:=N.nf
 obtain ⟨d,i⟩:=c0
 by_cases z0:s < (dOf c h).cons.length
 refine go fun a J=>?_
 obtain ⟨T1,rfl,p,M,Z0,f1,c1,p0⟩:=Y.el l0 z0
 obtain ⟨W1,rfl,Z⟩:=id p0
 obtain ⟨R1,c80,rfl,l1,m0⟩:=Z.fm
 refine zU (J.ks [1,4,5,6,8]) N (fun R mm a w=>∃(g:Nat) (u:Value) (m:List Flow),mm=p.fields.length - g/\R G [(3,u),(9,.int .i64 g)] [(2,.gs (u) 95 2 (zX m))] a w/\(zQ c=yL m (kQ h p.name g (p.fields.drop g)++(((dOf c h).cons.drop (s+1)).flatMap (fun x=>kQ h x.name 0 x.fields)++((c.inputs.drop (n+1)).flatMap (uO c)++(c.funs).flatMap (wO (yC c)))))/\m.length+(kQ h p.name g (p.fields.drop g)++(((dOf c h).cons.drop (s+1)).flatMap (fun x=>kQ h x.name 0 x.fields)++((c.inputs.drop (n+1)).flatMap (uO c)++(c.funs).flatMap (wO (yC c))))).length<=1000000000000)) (p.fields.length - 0) ⟨0,u,m,rfl,⟨J.pk,N⟩,(by rw [zA M,List.flatMap_cons,List.append_assoc] at d i;exact ⟨d,i⟩)⟩ ?_
 clear N J
 rintro mm a w ⟨g,u,m,r,⟨J,N⟩,e0⟩ x1 B
 replace N:=N.nf
 obtain ⟨d,i⟩:=e0
 by_cases A0:g < p.fields.length
 refine Reg [1,2,1,1,1,2,1,1,2,1,2,1] [0,1,2,3] fun w N a J=>?_
 refine go fun a J=>?_
 obtain ⟨U1,rfl,s0,F,V,g1,d1,q0⟩:=Z.el m0 A0
 obtain rfl:V=[.string s0]:=q0
 by_cases J1:s0=h.type
 refine go fun a J=>?_
 refine yI [1,1,2,1,0,1,2,1,1,1,2,1,0,0,1] (.q 0 (.q 1 (.q 2 (.q 3 (.q 5 (.q 6 (.q 7 (.q 8 (.q 9 (.q 10 (.q 11 (.e2 4 12 (.e 12 (.e 13 (.q 14 (.done)))) (.e 4 (.e 13 (.q 14 (.done)))))))))))))))) [0,1,3] J N fun w N=>?_
 have N1:=x3r hT h _ (mgQ M)
 have K1:=hT.inp _ (mgQ E)
 refine Qq (fun a J=>?_) (o:=by exact fun J O=>vP J rfl rfl (by show 3+h.name.size<=_;omega))
 refine go fun a J=>?_
 refine gW ?_ ?_
 refine jQ fun X1 w N a J=>?_
 refine zT call84 (fun w N a J=>?_) (c:=z6c (by omega) (by omega) N)
 replace N:=N.pl 3
 refine yO call114 (fun S0 w B0 N a J=>?_) (c:=cZ (l:=m) (fr:=[((⟨#[105,110,46]⟩:Bs)++h.name)]) (to:=(vZ p.name g)) (by simp only [lcQ,lnQ];omega) N)
 refine go fun a J=>?_
 replace N:=N.ar [] [3,1,3,3]
 refine B _ _ _ (by subst r;omega) ⟨(g+1),(S0),((yL m (toF (vZ p.name g) ([((⟨#[105,110,46]⟩:Bs)++h.name)])))),rfl,⟨J.pk,N⟩,?_⟩
 rotate_left
 refine zT call84 (fun w N a J=>?_) (c:=z6c (by omega) (by omega) N)
 refine jQ fun s1 w N a J=>?_
 replace N:=N.pl 3
 refine yO call114 (fun t0 w C0 N a J=>?_) (c:=cZ (l:=m) (fr:=[((⟨#[105,110,46]⟩:Bs)++h.name)]) (to:=(vZ p.name g)) (by simp only [lcQ,lnQ];omega) N)
 refine go fun a J=>?_
 replace N:=N.ar [] [3,1,3,3]
 refine B _ _ _ (by subst r;omega) ⟨(g+1),(t0),((yL m (toF (vZ p.name g) ([((⟨#[105,110,46]⟩:Bs)++h.name)])))),rfl,⟨J.pk,N⟩,?_⟩
 rotate_left
 refine go fun a J=>?_
 refine B _ _ _ (by subst r;omega) ⟨(g+1),(u),(m),rfl,⟨J.pk,N⟩,?_⟩
 rw [x3o F (by assumption)] at d i
 exact ⟨d,i⟩
 refine go fun a J=>?_
 refine f0 _ _ _ (by subst r;omega) ⟨(s+1),(u),(m),rfl,⟨J.pk,N⟩,?_⟩
 rw [fld_end (by omega),List.nil_append] at d i
 exact ⟨d,i⟩
 refine go fun a J=>?_
 replace N:=N.le (t)
 replace N:=N.dl [1,0]
 refine H _ _ _ (by subst r;omega) ⟨(n+1),(u),(m),rfl,⟨J.pk,N⟩,?_⟩
 rw [zB (by omega:¬s < (dOf c h).cons.length),List.flatMap_nil,List.nil_append] at d i
 exact ⟨d,i⟩
 refine go fun a J=>?_
 refine zU (J.ks [1]) N (fun R mm a w=>∃(k:Nat) (u:Value) (m:List Flow),mm=c.funs.length - k/\R Φ [(3,u),(10,.int .i64 k)] [(0,.gs (u) 95 2 (zX m))] a w/\(zQ c=yL m ((c.funs.drop k).flatMap (wO (yC c)))/\m.length+((c.funs.drop k).flatMap (wO (yC c))).length<=1000000000000)) (c.funs.length - 0) ⟨0,u,m,rfl,⟨J.pk,N⟩,(by rw [zB (by omega),List.flatMap_nil,List.nil_append] at d i;exact ⟨d,i⟩)⟩ ?_
 clear N J
 rintro mm a w ⟨k,u,m,r,⟨J,N⟩,S⟩ T0 T
 replace N:=N.nf
 obtain ⟨d,i⟩:=S
 by_cases W:k < c.funs.length
 refine go fun a J=>?_
 obtain ⟨q1,rfl,b,j,w0,J0,H0,U⟩:=P.el k0 W
 obtain ⟨r1,U0,rfl,X,A⟩:=id U
 obtain ⟨n1,W0,rfl,K0,N0⟩:=X.fm
 obtain ⟨o1,c131,p1,X0,rfl,I0,a1,b1,L0,O0,M0,P0⟩:=REx.fm A
 refine Alc fun V0 w N a J=>?_
 refine Sto 0 fun w N a J=>?_
 refine go fun a J=>?_
 refine yI [1,1,2,1,2,0,1,2,0,1] (.q 0 (.q 1 (.q 2 (.q 3 (.q 4 (.q 6 (.q 7 (.e 5 (.e 8 (.q 9 (.done))))))))))) [0,2] J N fun w N=>?_
 have Q0:zQ c=yL m (toP b.name b.name b.body++(jK (yC c) b.name b.body++(c.funs.drop (k+1)).flatMap (wO (yC c)))):=by have h_:=d;rw [zA j,List.flatMap_cons,wO,List.append_assoc] at h_;exact h_
 have o0:m.length+(toP b.name b.name b.body++(jK (yC c) b.name b.body++(c.funs.drop (k+1)).flatMap (wO (yC c)))).length<=1000000000000:=by have h_:=i;rw [zA j,List.flatMap_cons,wO,List.append_assoc] at h_;exact h_
 have i0:=hT.fn _ (mgQ j)
 refine yO call115 (fun t1 w D0 N a J=>?_) (c:=dI (i0.1) (Nat.le_trans (wB (C _ (mgQ j)).2.2) (by decide)) (C _ (mgQ j)).2.1 (C _ (mgQ j)).1 A N)
 replace N:=N.pl 2
 refine yO call114 (fun u1 w E0 N a J=>?_) (c:=cZ (l:=m) (fr:=(wW b.name b.body)) (to:=b.name) (by have E1:=z1n b.name b.body;have G1:=wB (f:=b.name) (C _ (mgQ j)).2.2;omega) N)
 refine yO call116 (fun u0 w F0 N a J=>?_) (c:=j1x y hR hT (hT.fn _ (mgQ j)).1 (l:=(yL m (toF b.name (wW b.name b.body)))) (by have h_:=pK o0;rw [laQ] at h_;rw [j0e];omega) (C _ (mgQ j)) A N)
 refine go fun a J=>?_
 replace N:=N.dl [1]
 refine T _ _ _ (by subst r;omega) ⟨(k+1),(u0),((yL (yL m (toF b.name (wW b.name b.body))) (jK (yC c) b.name b.body))),rfl,⟨J.pk,N⟩,?_⟩
 exact ⟨by rw [Q0,qS,qS];rfl,by rw [j0e];exact pK (pK o0)⟩
 refine zD ?_
 replace N:=N.dl [1]
 rw [zB (by omega),List.flatMap_nil] at d
 rw [d];exact ⟨_,rfl,trivial,N⟩
 all_goals (rw [j5u F (by assumption),List.append_assoc] at d i;exact ⟨by rw [d,qS] <;> rfl,pK i⟩)
section
variable {Φ:Fz} {K:List Res} {w:World}
theorem gN {v:Value} {l:List Bs} {s:Bs} (rl:SliceOf RStr Φ 1 v l) (N:Mem Φ K w) :
  Calls prog 49 #[v,.string s] w (fun ee w'=>ee=.returned (.int .i64 (ixG s l 0))/\Mem Φ K w'):=by
 obtain ⟨u,c2,rfl,p,m⟩:=rl.fm
 refine zL func49 ntmps49 fun Q hQ a J=>?_
 refine go fun a J=>?_
 refine zU (J.ks [0,1]) N (fun R mm a w=>∃(i:Nat),mm=l.length - i/\R Φ [(5,.int .i64 i)] [] a w/\(ixG s l 0=ixG s (l.drop i) i)) (l.length - 0) ⟨0,rfl,⟨J.pk,N⟩,rfl⟩ ?_
 clear N J
 rintro mm a w ⟨i,k,⟨J,N⟩,c⟩ t j
 by_cases e:i < l.length
 refine go fun a J=>?_
 obtain ⟨r,rfl,h,b,d,o,n,g⟩:=rl.el m e
 obtain rfl:d=[.string h]:=g
 by_cases f:h=s
 refine zD ?_
 rw [c,zA b,ixG,if_pos f.symm];exact ⟨rfl,N⟩
 refine go fun a J=>?_
 refine j _ _ _ (by subst k;omega) ⟨(i+1),rfl,⟨J.pk,N⟩,?_⟩
 rw [c,zA b,ixG,if_neg (fun q=>f q.symm)]
 refine zD ?_
 rw [c,zB e];exact ⟨rfl,N⟩
theorem uS:∀{l:List Bs} {s:Bs} {i:Nat},s∈l->ixG s l i=((i+qC l s:Nat):Int)
 | x::l,s,i,h=>by
  rw [ixG,qC]
  by_cases e:s=x
  rw [if_pos e,if_pos e.symm];rfl
  rw [if_neg e,if_neg (fun g=>e g.symm),uS ((List.mem_cons.1 h).resolve_left e)];congr 1;omega
theorem y2u {l:List Bs} {s:Bs} {i:Nat} (h:¬s∈l):ixG s l i=-1:=by
 induction l generalizing i with
 | nil=>rfl
 | cons x l c=>
  have b:¬s=x:=fun e=>h (by rw [e];exact msQ)
  rw [ixG,if_neg b,c (fun a=>h (mcQ _ a))]
theorem z3e {v:Value} {l:List Bs} {s:Bs} (O:s∈l) (rl:SliceOf RStr Φ 1 v l) (N:Mem Φ K w) :
  Calls prog 49 #[v,.string s] w (fun ee w'=>ee=.returned (.int .i64 ((qC l s:Nat):Int))/\Mem Φ K w'):=by
 have h:=gN (s:=s) rl N
 rw [uS O,Nat.zero_add] at h;exact h
theorem x7x {m:List Nat} {i:Nat} (h:m=List.range i):m++[i]=List.range (i+1):=by rw [h,List.range_succ]
theorem j1z {d0:List Value} {c:Core} (f:RCore Φ d0 c) (B:c.inputs.length<=1000000000) (N:Mem Φ K w) :
  Calls prog 47 #[.agg d0.toArray] w (fun ee w'=>∃v:Value,ee=.returned v/\True/\Mem Φ (.gs v 3 1 (nats (List.range c.inputs.length))::K) w'):=by
 have h:=f
 obtain ⟨M,c4,P,s,F,t,G,c22,rfl,I,L,y,z,D,E,j,n,k,o,l,p⟩:=RCore.fm f
 refine zL func47 ntmps47 fun Q hQ a J=>?_
 refine Bx fun r w N a J=>?_
 refine go fun a J=>?_
 replace N:=N.nilRow 3 1
 replace N:=N.nf
 refine go fun a J=>?_
 refine zU (J.ks [1]) N (fun R mm a w=>∃(i:Nat) (u:Value) (m:List Nat),mm=c.inputs.length - i/\R Φ [(3,u),(4,.int .i64 i)] [(0,.gs (u) 3 1 (nats m))] a w/\(m=List.range i/\i<=c.inputs.length)) (c.inputs.length - 0) ⟨0,.slice none 0 0,[],rfl,⟨J.pk,N⟩,⟨rfl,Nat.zero_le _⟩⟩ ?_
 clear N J
 rintro mm a w ⟨i,u,m,g,⟨J,N⟩,d⟩ q e
 replace N:=N.nf
 obtain ⟨b,C⟩:=d
 by_cases A:i < c.inputs.length
 refine jQ fun H w N a J=>?_
 refine vH 1 j7f (fun v37 w N a J=>?_) (hb:=by rw [b,z2c,List.length_range];simp only [lcQ,lnQ];omega)
 rw [z9e] at N
 refine go fun a J=>?_
 replace N:=N.dl [0]
 refine e _ _ _ (by subst g;omega) ⟨(i+1),(v37),((m++[i])),rfl,⟨J.pk,N⟩,?_⟩
 exact ⟨x7x b,by omega⟩
 refine zD ?_
 replace N:=N.dl [1]
 rw [b,show i=c.inputs.length by omega] at N;exact ⟨_,rfl,trivial,N⟩
theorem cS (l:List Bs) (x:Bs):strs l++[.string x]=strs (l++[x]):=by rw [yN];rfl
theorem j8f {d0:List Value} {f:Fun} (hb:f.params.length+(zN f.body).length<=8796093000000) (a:RFun Φ d0 f) (N:Mem Φ K w) :
  Calls prog 79 #[.agg d0.toArray] w (fun ee w'=>∃v:Value,ee=.returned v/\True/\Mem Φ (.gs v 9 1 (strs (f.params.map Param.name++zN f.body))::K) w') :=
 (q6e a hb N).mono fun ee w' h=>let ⟨v,h1,b⟩:=h;⟨v,h1,trivial,b⟩
theorem q7i (f:Fun):dP f=[f.name]++(((f.params.map Param.name++zN f.body).drop 0).map (vrN f.name)):=by simp [dP,Function.comp]
theorem x6a (f:Fun):f.params.length+(zN f.body).length<=(dP f).length:=by rw [q7i];simp
theorem x6t {c:Core} {m:List Bs} {i:Nat} {f:Fun} (h:zC c=m++(c.funs.drop i).flatMap dP) (a:c.funs[i]? = some f):f.params.length+(zN f.body).length<=(zC c).length:=by
 have h1:=x6a f
 rw [h,zA a,List.flatMap_cons,laQ,laQ];omega
theorem x3f {f:Fun} {v:Bs} (h:f.name.size<=1000/\(∀p∈f.params,p.name.size<=1000)/\∀b∈zN f.body,b.size<=1000) (c:v∈f.params.map Param.name++zN f.body):v.size<=1000:=by
 rcases List.mem_append.1 c with g | g
 obtain ⟨p,a,rfl⟩:=List.mem_map.1 g;exact h.2.1 p a
 exact h.2.2 v g
theorem q1t {d0:List Value} {c:Core} (x0:RCore Φ d0 c) (hT:TidyC c) (hN:(zC c).length<=1000000000) (N:Mem Φ K w) :
  Calls prog 50 #[.agg d0.toArray] w (fun ee w'=>∃v:Value,ee=.returned v/\True/\Mem Φ (.gs v 9 1 (strs (zC c))::K) w'):=by
 have F:=x0
 obtain ⟨p3,c4,p9,K1,S1,L1,T1,c22,rfl,h2,h8,C0,O1,R1,T0,n1,p0,o1,q0,p1,s1⟩:=RCore.fm x0
 refine zL func50 ntmps50 fun Q hQ a J=>?_
 refine Bx fun J1 w N a J=>?_
 refine go fun a J=>?_
 replace N:=N.nilRow 9 1
 replace N:=N.nf
 refine go fun a J=>?_
 refine zU (J.ks [1]) N (fun R mm a w=>∃(t:Nat) (u:Value) (m:List Bs),mm=c.inputs.length - t/\R Φ [(3,u),(4,.int .i64 t)] [(0,.gs (u) 9 1 (strs m))] a w/\(zC c=m++((c.inputs.drop t).map (fun p=>inN p.name)++((c.datas.drop (0)).flatMap z5x++c.funs.flatMap dP)))) (c.inputs.length - 0) ⟨0,.slice none 0 0,[],rfl,⟨J.pk,N⟩,(by simp [zC])⟩ ?_
 clear N J
 rintro mm a w ⟨t,u,m,d,⟨J,N⟩,A⟩ E1 k0
 replace N:=N.nf
 by_cases h0:t < c.inputs.length
 refine go fun a J=>?_
 obtain ⟨W1,rfl,A0,U,c1,k1,h1,s0⟩:=h8.el p0 h0
 obtain rfl:=id s0
 have U0:=hT.inp _ (mgQ U)
 refine Qq (fun a J=>?_) (o:=by exact fun J O=>vP J rfl rfl (by show 3+A0.name.size<=_;omega))
 refine jQ fun b2 w N a J=>?_
 refine vH 1 xQ (fun V0 w N a J=>?_) (hb:=by have a0:=sD A;simp only [zR,lcQ,lnQ];omega)
 rw [cS] at N
 refine go fun a J=>?_
 replace N:=N.dl [0]
 refine k0 _ _ _ (by subst d;omega) ⟨(t+1),(V0),((m++[inN A0.name])),rfl,⟨J.pk,N⟩,?_⟩
 rw [A,zA U];simp only [List.append_assoc,List.cons_append,List.nil_append,List.map_cons] <;> rfl
 refine go fun a J=>?_
 refine zU (J.ks [1]) N (fun R mm a w=>∃(j:Nat) (u:Value) (m:List Bs),mm=c.datas.length - j/\R Φ [(3,u),(5,.int .i64 j)] [(0,.gs (u) 9 1 (strs m))] a w/\(zC c=m++(((c.datas.drop (j)).flatMap z5x++c.funs.flatMap dP)))) (c.datas.length - 0) ⟨0,u,m,rfl,⟨J.pk,N⟩,(by rw [A,zB h0];rfl)⟩ ?_
 clear N J
 rintro mm a w ⟨j,u,m,d,⟨J,N⟩,M⟩ F1 l0
 replace N:=N.nf
 by_cases i0:j < c.datas.length
 refine go fun a J=>?_
 obtain ⟨X1,rfl,G,V,d1,l1,i1,t0⟩:=h2.el T0 i0
 obtain ⟨Z1,rfl,j0⟩:=id t0
 obtain ⟨U1,c64,rfl,q1,r0⟩:=j0.fm
 refine zU (J.ks [1,5]) N (fun R mm a w=>∃(k_:Nat) (u:Value) (m:List Bs),mm=G.cons.length - k_/\R Φ [(3,u),(6,.int .i64 k_)] [(0,.gs (u) 9 1 (strs m))] a w/\(zC c=m++((G.cons.drop k_).flatMap (fun y=>z6d y.name y.fields.length)++((c.datas.drop (j+1)).flatMap z5x++c.funs.flatMap dP)))) (G.cons.length - 0) ⟨0,u,m,rfl,⟨J.pk,N⟩,(by rw [M,zA V,List.flatMap_cons,List.append_assoc];rfl)⟩ ?_
 clear N J
 rintro mm a w ⟨k_,u,m,d,⟨J,N⟩,P⟩ G1 m0
 replace N:=N.nf
 by_cases D0:k_ < G.cons.length
 refine go fun a J=>?_
 obtain ⟨Y1,rfl,k,W,e1,m1,j1,u0⟩:=j0.el r0 D0
 obtain ⟨a2,rfl,E0⟩:=id u0
 obtain ⟨V1,M1,rfl,r1,t1⟩:=E0.fm
 refine zU (J.ks [1,5,6]) N (fun R mm a w=>∃(I:Nat) (u:Value) (m:List Bs),mm=k.fields.length - I/\R Φ [(3,u),(7,.int .i64 I)] [(0,.gs (u) 9 1 (strs m))] a w/\(zC c=m++((List.range' I (k.fields.length - I)).map (vZ k.name)++((G.cons.drop (k_+1)).flatMap (fun y=>z6d y.name y.fields.length)++((c.datas.drop (j+1)).flatMap z5x++c.funs.flatMap dP))))) (k.fields.length - 0) ⟨0,u,m,rfl,⟨J.pk,N⟩,(by rw [P,zA W,List.flatMap_cons,List.append_assoc,q6z])⟩ ?_
 clear N J
 rintro mm a w ⟨I,u,m,d,⟨J,N⟩,B⟩ H1 n0
 replace N:=N.nf
 by_cases Q1:I < k.fields.length
 have U0:=hT.con _ (mgQ V) _ (mgQ W)
 refine zT call84 (fun w N a J=>?_) (c:=z6c (by omega) (by omega) N)
 refine jQ fun c2 w N a J=>?_
 refine vH 1 xQ (fun W0 w N a J=>?_) (hb:=by have a0:=sD B;simp only [zR,lcQ,lnQ];omega)
 rw [cS] at N
 refine go fun a J=>?_
 replace N:=N.dl [0]
 refine n0 _ _ _ (by subst d;omega) ⟨(I+1),(W0),((m++[vZ k.name I])),rfl,⟨J.pk,N⟩,?_⟩
 rw [B,j5z (s:=k.name) (by omega:I < k.fields.length)];simp only [List.append_assoc,List.cons_append,List.nil_append]
 refine go fun a J=>?_
 refine m0 _ _ _ (by subst d;omega) ⟨(k_+1),(u),(m),rfl,⟨J.pk,N⟩,?_⟩
 have h_:=B
 rw [q7a (by omega)] at h_
 rw [h_];simp only [List.nil_append]
 refine go fun a J=>?_
 refine l0 _ _ _ (by subst d;omega) ⟨(j+1),(u),(m),rfl,⟨J.pk,N⟩,?_⟩
 have h_:=P
 rw [zB (by omega)] at h_
 rw [h_];simp only [List.flatMap_nil,List.nil_append]
 refine go fun a J=>?_
 refine zU (J.ks [1]) N (fun R mm a w=>∃(e:Nat) (u:Value) (m:List Bs),mm=c.funs.length - e/\R Φ [(3,u),(8,.int .i64 e)] [(0,.gs (u) 9 1 (strs m))] a w/\(zC c=m++((c.funs.drop (e)).flatMap dP))) (c.funs.length - 0) ⟨0,u,m,rfl,⟨J.pk,N⟩,(by rw [M,zB i0];rfl)⟩ ?_
 clear N J
 rintro mm a w ⟨e,u,m,d,⟨J,N⟩,q⟩ I1 o0
 replace N:=N.nf
 by_cases L:e < c.funs.length
 refine go fun a J=>?_
 obtain ⟨y1,rfl,b,n,B0,K0,C,h⟩:=C0.el q0 L
 obtain ⟨A1,Y0,rfl,f0,z⟩:=id h
 obtain ⟨u1,Z0,rfl,M0,Q0⟩:=f0.fm
 obtain ⟨v1,a1,w1,b1,rfl,J0,f1,g1,N0,R0,O0,S0⟩:=REx.fm z
 have I0:=hT.fn _ (mgQ n)
 refine jQ fun B1 w N a J=>?_
 refine vH 1 xQ (fun y0 w N a J=>?_) (hb:=by have a0:=sD q;simp only [zR,lcQ,lnQ];omega)
 rw [cS] at N
 refine yO call79 (fun D1 w F0 N a J=>?_) (c:=j8f (by have h_:=x6t q n;omega) h N)
 refine go fun a J=>?_
 have S:=N
 clear N
 obtain ⟨H,f,N,D⟩:=S.freezeRow (i:=0) rfl
 clear S
 replace F:=RCore.mono _ _ _ _ f F
 replace C:=C.mono f
 replace h:=RFun.mono _ _ _ _ f h
 replace z:=REx.mono _ _ _ _ f z
 replace N:=N.nf
 have r:SliceOf RStr H 1 _ ((b.params.map Param.name++zN b.body)):=SliceOf.strs.2 D
 obtain ⟨x1,c143,w0,P0,b0⟩:=r.form (by decide)
 have T:=N
 clear N
 subst w0
 have N:=T
 clear T
 refine go fun a J=>?_
 refine zU (J.ks [1,8,9]) N (fun R mm a w=>∃(g:Nat) (u:Value) (m:List Bs),mm=(b.params.map Param.name++zN b.body).length - g/\R H [(3,u),(10,.int .i64 g)] [(1,.gs (u) 9 1 (strs m))] a w/\(zC c=m++(((b.params.map Param.name++zN b.body).drop g).map (vrN b.name)++(c.funs.drop (e+1)).flatMap dP))) ((b.params.map Param.name++zN b.body).length - 0) ⟨0,y0,(m++[b.name]),rfl,⟨J.pk,N⟩,(by rw [q,zA n,List.flatMap_cons,q7i];simp only [List.append_assoc,List.cons_append,List.nil_append])⟩ ?_
 clear N J
 rintro mm a w ⟨g,u,m,d,⟨J,N⟩,l⟩ X0 Z
 replace N:=N.nf
 by_cases g0:g < ((b.params.map Param.name++zN b.body)).length
 refine Reg [1,1,2,1,1,1,2,1,1,1,1,2,1,0,0,1] [0,2] fun w N a J=>?_
 refine Qq (fun a J=>?_) (o:=by exact fun J O=>vP J rfl rfl (by show b.name.size+1<=_;omega))
 refine go fun a J=>?_
 obtain ⟨z1,rfl,X,E,Y,L0,H0,c0⟩:=r.el b0 g0
 obtain rfl:Y=[.string X]:=c0
 have w0:=x3f I0 (mgQ E)
 refine Qq (fun a J=>?_) (o:=by exact fun J O=>vP J rfl rfl (by rw [ByteArray.size_append];show b.name.size+1+_<=_;omega))
 refine jQ fun C1 w N a J=>?_
 refine vH 2 xQ (fun z0 w N a J=>?_) (hb:=by have a0:=sD l;simp only [zR,lcQ,lnQ];omega)
 rw [cS] at N
 refine go fun a J=>?_
 replace N:=N.dl [0]
 refine Z _ _ _ (by subst d;omega) ⟨(g+1),(z0),((m++[vrN b.name X])),rfl,⟨J.pk,N⟩,?_⟩
 rw [l,zA E];simp only [List.append_assoc,List.cons_append,List.nil_append,List.map_cons] <;> rfl
 refine go fun a J=>?_
 replace N:=N.le (f)
 replace N:=N.dl [0]
 refine o0 _ _ _ (by subst d;omega) ⟨(e+1),(u),(m),rfl,⟨J.pk,N⟩,?_⟩
 have h_:=l
 rw [zB (by omega)] at h_
 rw [h_];simp only [List.map_nil,List.nil_append,List.append_assoc]
 refine zD ?_
 replace N:=N.dl [1]
 have h_:=q
 rw [zB L,List.flatMap_nil,List.append_nil] at h_
 rw [h_];exact ⟨_,rfl,trivial,N⟩
end
section
variable {c:Core} {g:Flow->Bs}
def ixL (c:Core) (g:Flow->Bs) (l:List Flow):List Nat:=l.map fun f=>qC (zC c) (g f)
theorem q7u {i:Nat} {x:Flow} (h:(zQ c)[i]? = some x):ixL c g ((zQ c).take i)++[qC (zC c) (g x)]=ixL c g ((zQ c).take (i+1)):=by
 rw [jM h,ixL,ixL,List.map_append];rfl
theorem j6r (i:Nat):(ixL c g ((zQ c).take i)).length<=(zQ c).length:=by rw [ixL,List.length_map,List.length_take];omega
theorem j6q {i:Nat} (h:¬i < (zQ c).length):ixL c g ((zQ c).take i)=ixL c g (zQ c):=by rw [z7j h]
end
theorem z8o {Φ:Fz} {K:List Res} {w:World} {d0:List Value} {c:Core} (S:RCore Φ d0 c) (hR:Right c) (H:LOk c) (b0:∀f∈c.funs,okF c f.body) (N:Mem Φ K w) :
  Calls prog 46 #[.agg d0.toArray] w (fun ee w'=>∃y:Fz×List Value,ee=.returned (.agg y.2.toArray)/\(Φ.Le y.1/\RGr y.1 y.2 (jH c))/\Mem y.1 K w'):=by
 have d:=S
 have hE:∀f∈zQ c,f.1∈zC c/\f.2∈zC c:=fun f hf=>H.gok.ends f.1 f.2 hf
 have k0:(zQ c).length<=1000000000000:=Nat.le_trans (aG _) H.al
 obtain ⟨p3,c4,p9,D0,N0,E0,O0,c22,rfl,h2,h8,H0,I0,L0,M0,m0,t0,n0,u0,o0,w0⟩:=RCore.fm S
 refine zL func46 ntmps46 fun Q hQ a J=>?_
 refine Bx fun B0 w N a J=>?_
 refine Alc fun C0 w N a J=>?_
 refine yO call50 (fun V0 w h0 N a J=>?_) (c:=q1t d H.tidy H.nl N)
 have e:=N
 clear N
 obtain ⟨U,A,N,r⟩:=e.freezeRow (i:=0) rfl
 clear e
 replace d:=RCore.mono _ _ _ _ A d
 replace N:=N.nf
 have b:SliceOf RStr U 1 _ ((zC c)):=SliceOf.strs.2 r
 obtain ⟨c0,X,k,p0,x0⟩:=b.form (by decide)
 have h:=N
 clear N
 subst k
 have N:=h
 clear h
 refine qO fun a J=>?_
 refine Alc fun W w N a J=>?_
 refine Sto 0 fun w N a J=>?_
 refine yO call82 (fun W0 w i0 N a J=>?_) (c:=j9g d hR H.tidy b0 H.al N)
 refine go fun a J=>?_
 have e:=N
 clear N
 obtain ⟨B,p,N,s⟩:=e.freezeRow (i:=0) rfl
 clear e
 replace d:=RCore.mono _ _ _ _ p d
 replace b:=b.up p
 replace N:=N.nf
 have n:SliceOf RFlow B 2 _ ((zQ c)):=⟨_,s,cN _ _⟩
 obtain ⟨P0,F0,k,q0,M⟩:=n.form (by decide)
 have h:=N
 clear N
 subst k
 have N:=h
 clear h
 replace N:=N.nilRow 3 1
 replace N:=N.nilRow 3 1
 replace N:=N.nf
 refine go fun a J=>?_
 refine zU (J.ks [2,3,4]) N (fun R mm a w=>∃(i:Nat) (F:Value) (G:Value) (v:List Nat) (z:List Nat),mm=(zQ c).length - i/\R B [(5,.int .i64 i)] [(0,.gs (G) 3 1 (nats z)),(1,.gs (F) 3 1 (nats v)),(2,.blk W (ob [.slice c0 ((zC c)).length X,F,G] 86))] a w/\(v=ixL c (fun f=>f.1) ((zQ c).take i)/\z=ixL c (fun f=>f.2) ((zQ c).take i))) ((zQ c).length - 0) ⟨0,.slice none 0 0,.slice none 0 0,[],[],rfl,⟨J.pk,N⟩,⟨rfl,rfl⟩⟩ ?_
 clear N J
 rintro mm a w ⟨i,F,G,v,z,a0,⟨J,N⟩,I⟩ A0 L
 replace N:=N.nf
 obtain ⟨D,E⟩:=I
 by_cases Y:i < ((zQ c)).length
 refine Reg [1,2,1,2,1,1,1,1,2,0,0,0,1,0] [0,2,3,4] fun w N a J=>?_
 refine go fun a J=>?_
 obtain ⟨S0,rfl,T,l,f0,l0,j0,P⟩:=n.el M Y
 obtain rfl:=id P
 refine zT call49 (fun w N a J=>?_) (c:=z3e (hE _ (mgQ l)).1 b N)
 refine jQ fun T0 w N a J=>?_
 refine vH 2 j7f (fun e0 w N a J=>?_) (hb:=by have h_:=j6r (c:=c) (g:=fun f=>f.1) i;rw [z2c,D];simp only [lcQ,lnQ];omega)
 rw [z9e] at N
 refine Sto 3 fun w N a J=>?_
 refine Reg [1,2,1,2,1,1,1,1,2,0,0,0,1,0] [0,2,3,4,5] fun w N a J=>?_
 refine zT call49 (fun w N a J=>?_) (c:=z3e (hE _ (mgQ l)).2 b N)
 refine jQ fun U0 w N a J=>?_
 refine vH 2 j7f (fun v70 w N a J=>?_) (hb:=by have h_:=j6r (c:=c) (g:=fun f=>f.2) i;rw [z2c,E];simp only [lcQ,lnQ];omega)
 rw [z9e] at N
 refine Sto 4 fun w N a J=>?_
 refine go fun a J=>?_
 replace N:=N.dl [1,0]
 refine L _ _ _ (by subst a0;omega) ⟨(i+1),(e0),(v70),((v++[qC (zC c) T.1])),((z++[qC (zC c) T.2])),rfl,⟨J.pk,N⟩,?_⟩
 exact ⟨by rw [D];exact q7u (g:=fun f=>f.1) l,by rw [E];exact q7u (g:=fun f=>f.2) l⟩
 refine go fun a J=>?_
 have e:=N
 clear N
 obtain ⟨V,q,N,t⟩:=e.freezeRow (i:=1) rfl
 clear e
 replace d:=RCore.mono _ _ _ _ q d
 replace b:=b.up q
 replace N:=N.nf
 have j:SliceOf RNat V 1 _ ((ixL c (fun f=>f.1) (zQ c))):=⟨_,t,chunks_nat.2 (by rw [D,j6q (by omega)])⟩
 obtain ⟨Q0,G0,k,r0,y0⟩:=j.form (by decide)
 have h:=N
 clear N
 subst k
 have N:=h
 clear h
 have e:=N
 clear N
 obtain ⟨C,m,N,u⟩:=e.freezeRow (i:=0) rfl
 clear e
 replace d:=RCore.mono _ _ _ _ m d
 replace b:=b.up m
 replace j:=j.mono RNat.mono m
 replace N:=N.nf
 have o:SliceOf RNat C 1 _ ((ixL c (fun f=>f.2) (zQ c))):=⟨_,u,chunks_nat.2 (by rw [E,j6q (by omega)])⟩
 obtain ⟨R0,c85,k,s0,z0⟩:=o.form (by decide)
 have h:=N
 clear N
 subst k
 have N:=h
 clear h
 refine Sto 1 fun w N a J=>?_
 refine go fun a J=>?_
 have Z:=N
 replace N:=N.dl [2,1,0]
 refine pS (N:=Z) ?_
 exact ⟨(C,_),rfl,⟨(((A).trans p).trans q).trans m,_,_,_,rfl,b,j,o⟩,N⟩
section
variable {n r i a b:Nat} {es:Edges} {l fr to:List Nat} {m m0:List Int} {ch:Bool} {x y:Int}
theorem rep_set {i n:Nat} (h:i < n):(List.replicate i (-1:Int)++List.replicate (n - i) 0).set i (-1)=List.replicate (i+1) (-1)++List.replicate (n - (i+1)) 0:=by
 rw [List.set_append_right _ _ (by simp),List.length_replicate,Nat.sub_self,show n - i=(n - (i+1))+1 by omega,List.replicate_succ,List.set_cons_zero,List.replicate_succ' (n:=i),List.append_assoc];rfl
theorem x9h (h:l[i]? = some a):(pV n (l.take i)).set a 0=pV n (l.take (i+1)):=by rw [jM h];simp [pV]
theorem sB {m:List Int} (h:m[a]? = some x):m.getD a 0=x:=by rw [List.getD_eq_getElem?_getD,h];rfl
theorem j5g (c:fr[i]? = some a) (hb:to[i]? = some b):(fr.zip to)[i]? = some (a,b):=by rw [List.getElem?_zip_eq_some];exact ⟨c,hb⟩
theorem x1v (J:es[i]? = some (a,b)) (c:jX r (es.take i) m0=(m,ch)) (d:m[a]? = some x) (e:x=((r:Nat):Int)) (hb:m[b]? = some y) (f:y < 0):jX r (es.take (i+1)) m0=(m.set b ((r+1:Nat):Int),true):=by
 rw [jM J,dG,c,y4c,if_pos ⟨by simp only;rw [sB d,e],by simp only;rw [sB hb];exact f⟩]
theorem x1t (J:es[i]? = some (a,b)) (c:jX r (es.take i) m0=(m,ch)) (d:m[a]? = some x) (e:¬x=((r:Nat):Int)):jX r (es.take (i+1)) m0=(m,ch):=by
 rw [jM J,dG,c,y4c,if_neg]
 rintro ⟨h,_⟩;simp only at h;rw [sB d] at h;exact e h
theorem x1u (J:es[i]? = some (a,b)) (c:jX r (es.take i) m0=(m,ch)) (hb:m[b]? = some y) (d:¬y < 0):jX r (es.take (i+1)) m0=(m,ch):=by
 rw [jM J,dG,c,y4c,if_neg]
 rintro ⟨_,h⟩;simp only at h;rw [sB hb] at h;exact d h
theorem q2b (h:¬i < es.length) (a:jX r (es.take i) m0=(m,ch)):jX r es m0=(m,ch):=by rw [z7j h] at a;exact a
theorem x1w (h:r < n) (a:jX r es m0=(m,true)):nQ es (n - r) r m0=nQ es (n - (r+1)) (r+1) m:=by
 rw [show n - r=(n - (r+1))+1 by omega,nQ,a];rfl
theorem j3r (h:r < n) (a:jX r es m0=(m,false)):nQ es (n - r) r m0=m:=by
 rw [show n - r=(n - (r+1))+1 by omega,nQ,a];rfl
end
theorem q1z {Φ:Fz} {K:List Res} {w:World} {dg:List Value} {b:GrD} {vf:Value} {l:List Nat} (rg:RGr Φ dg b) (rf:SliceOf RNat Φ 1 vf l) (hl:∀x∈l,x < b.nodes.length) (g1:b.fr.length=b.to.length) (B0:∀x∈b.fr,x < b.nodes.length) (E0:∀x∈b.to,x < b.nodes.length) (hN:b.nodes.length<=1000000000) (N:Mem Φ K w) :
  Calls prog 52 #[.agg dg.toArray,vf] w (fun ee w'=>∃v:Value,ee=.returned v/\True/\Mem Φ (.gs v 3 1 (tH (nR b.nodes.length (b.fr.zip b.to) l))::K) w'):=by
 have Z0:=rg
 obtain ⟨s1,s7,n1,rfl,h2,h8,b0⟩:=id rg
 obtain ⟨p3,c4,rfl,i1,j1⟩:=h2.fm
 obtain ⟨p9,U,rfl,T0,m0⟩:=h8.fm
 obtain ⟨t0,V,rfl,U0,n0⟩:=b0.fm
 obtain ⟨l1,c20,rfl,C0,o0⟩:=rf.fm
 refine zL func52 ntmps52 fun Q hQ a J=>?_
 refine Bx fun T w N a J=>?_
 refine go fun a J=>?_
 refine st J rfl rfl rfl (y8u b.nodes.length j7f zeroValue3 rfl J N rfl rfl (by omega) fun o1 w N a J=>?_)
 rw [<- x6o] at N
 obtain ⟨s,k,rfl⟩:=tF (m:=b.nodes.length) N (i:=0) rfl (by rw [wY,List.length_replicate,Nat.mul_one]) (by decide)
 replace N:=N.nf
 refine go fun a J=>?_
 refine zU (J.ks [1,2,5]) N (fun R mm a w=>∃(r:Nat) (c:List Int),mm=b.nodes.length - r/\R Φ [(6,.int .i64 r)] [(0,.gs (.slice s b.nodes.length k) 3 1 (tH c))] a w/\(c=List.replicate r (-1:Int)++List.replicate (b.nodes.length - r) 0/\c.length=b.nodes.length/\r<=b.nodes.length)) (b.nodes.length - 0) ⟨0,(List.replicate b.nodes.length (0:Int)),rfl,⟨J.pk,N⟩,⟨rfl,by rw [List.length_replicate],Nat.zero_le _⟩⟩ ?_
 clear N J
 rintro mm a w ⟨r,c,h,⟨J,N⟩,e0⟩ a1 i0
 replace N:=N.nf
 obtain ⟨d,f,h1⟩:=e0
 by_cases c0:r < b.nodes.length
 refine go fun a J=>?_
 obtain ⟨G0,C⟩:=N.toSees.gsSome (i:=0) rfl c0
 obtain ⟨p1,W0⟩:=zZ (l:=c) (i:=r) (by omega)
 refine Qq (fun a J=>?_) (o:=by exact fun J O=>qX (p:=G0) r J (by rw [<- C];rfl) rfl runUnderlying84 sizeOf3 c0)
 refine st0 J rfl rfl (aS 0 r J N rfl rfl (by rw [<- C];rfl) (by rw [wY];omega) rfl sizeOf3 rfl fun w N a J=>?_)
 replace N:Mem Φ (.gs (.slice s b.nodes.length k) 3 1 (tH (c.set r (-1)))::.blk T (ob [.slice p3 b.nodes.length c4,.slice p9 b.fr.length U,.slice t0 b.to.length V] 86)::K) w:=by rw [C,y5j];exact N
 refine go fun a J=>?_
 refine i0 _ _ _ (by subst h;omega) ⟨(r+1),((c.set r (-1))),rfl,⟨J.pk,N⟩,?_⟩
 exact ⟨by rw [d,rep_set (by omega)],by rw [List.length_set];exact f,by omega⟩
 refine go fun a J=>?_
 refine zU (J.ks [1,2,5]) N (fun R mm a w=>∃(y:Nat) (c:List Int),mm=l.length - y/\R Φ [(7,.int .i64 y)] [(0,.gs (.slice s b.nodes.length k) 3 1 (tH c))] a w/\(c=pV b.nodes.length (l.take y)/\c.length=b.nodes.length)) (l.length - 0) ⟨0,c,rfl,⟨J.pk,N⟩,⟨by rw [d,show b.nodes.length - r=0 by omega,List.replicate_zero,List.append_nil,show r=b.nodes.length by omega];rfl,f⟩⟩ ?_
 clear N J
 rintro mm a w ⟨y,c,h,⟨J,N⟩,f0⟩ b1 j0
 replace N:=N.nf
 obtain ⟨d,f⟩:=f0
 by_cases y0:y < l.length
 refine go fun a J=>?_
 obtain ⟨m1,rfl,t,S,Y,Q0,N0,p0⟩:=rf.el o0 y0
 obtain rfl:Y=[.int .i64 t]:=p0
 refine go fun a J=>?_
 have s0:=hl _ (mgQ S)
 have L:t < b.nodes.length:=by omega
 obtain ⟨H0,D⟩:=N.toSees.gsSome (i:=0) rfl L
 obtain ⟨q1,X0⟩:=zZ (l:=c) (i:=t) (by omega)
 refine Qq (fun a J=>?_) (o:=by exact fun J O=>qX (p:=H0) t J (by rw [<- D];rfl) rfl runUnderlying84 sizeOf3 L)
 refine st0 J rfl rfl (aS 0 t J N rfl rfl (by rw [<- D];rfl) (by rw [wY];omega) rfl sizeOf3 rfl fun w N a J=>?_)
 replace N:Mem Φ (.gs (.slice s b.nodes.length k) 3 1 (tH (c.set t (0)))::.blk T (ob [.slice p3 b.nodes.length c4,.slice p9 b.fr.length U,.slice t0 b.to.length V] 86)::K) w:=by rw [D,y5j];exact N
 refine go fun a J=>?_
 refine j0 _ _ _ (by subst h;omega) ⟨(y+1),((c.set t (0))),rfl,⟨J.pk,N⟩,?_⟩
 exact ⟨by rw [d,x9h S],by rw [List.length_set];exact f⟩
 refine go fun a J=>?_
 refine zU (J.ks [2,5]) N (fun R mm a w=>∃(z:Nat) (c:List Int),mm=b.nodes.length - z/\R Φ [(8,.int .i64 z)] [(0,.gs (.slice s b.nodes.length k) 3 1 (tH c))] a w/\(nR b.nodes.length (b.fr.zip b.to) l=nQ (b.fr.zip b.to) (b.nodes.length - z) z c/\c.length=b.nodes.length/\z<=b.nodes.length)) (b.nodes.length - 0) ⟨0,c,rfl,⟨J.pk,N⟩,⟨by rw [d,z7j (by omega)];rfl,f,Nat.zero_le _⟩⟩ ?_
 clear N J
 rintro mm a w ⟨z,c,h,⟨J,N⟩,g0⟩ c1 k0
 replace N:=N.nf
 obtain ⟨W,D0,k1⟩:=g0
 by_cases f1:z < b.nodes.length
 refine go fun a J=>?_
 refine zU (J.ks [2,5,8]) N (fun R mm a w=>∃(H:Nat) (e:List Int) (X:Bool),mm=b.fr.length - H/\R Φ [(9,.bool X),(10,.int .i64 H)] [(0,.gs (.slice s b.nodes.length k) 3 1 (tH e))] a w/\(jX z ((b.fr.zip b.to).take H) c=(e,X)/\e.length=b.nodes.length)) (b.fr.length - 0) ⟨0,c,false,rfl,⟨J.pk,N⟩,⟨rfl,D0⟩⟩ ?_
 clear N J
 rintro mm a w ⟨H,e,X,h,⟨J,N⟩,h0⟩ d1 A
 replace N:=N.nf
 obtain ⟨d,f⟩:=h0
 by_cases z0:H < b.fr.length
 refine go fun a J=>?_
 obtain ⟨I0,rfl,G,u,Z,R0,O0,q0⟩:=h8.el m0 z0
 obtain rfl:Z=[.int .i64 G]:=q0
 refine go fun a J=>?_
 have s0:=B0 _ (mgQ u)
 have M:G < b.nodes.length:=by omega
 obtain ⟨J0,P⟩:=N.toSees.gsSome (i:=0) rfl M
 obtain ⟨L0,E⟩:=zZ (l:=e) (i:=G) (by omega)
 refine Qq (fun a J=>?_) (o:=by exact fun J O=>qX (p:=J0) G J (by rw [<- P];rfl) rfl runUnderlying84 sizeOf3 M)
 refine Qq (fun a J=>?_) (o:=by exact fun J O=>pR 0 G J O rfl (by rw [<- P];rfl) (z1s E) isAgg3)
 by_cases d0:L0=((z:Nat):Int)
 refine go fun a J=>?_
 have l0:H < b.to.length:=by omega
 obtain ⟨K0,rfl,j,F,a0,S0,P0,r0⟩:=b0.el n0 l0
 obtain rfl:a0=[.int .i64 j]:=r0
 refine go fun a J=>?_
 have V0:=E0 _ (mgQ F)
 have g:j < b.nodes.length:=by omega
 obtain ⟨u0,B⟩:=N.toSees.gsSome (i:=0) rfl g
 obtain ⟨x0,q⟩:=zZ (l:=e) (i:=j) (by omega)
 refine Qq (fun a J=>?_) (o:=by exact fun J O=>qX (p:=u0) j J (by rw [<- B];rfl) rfl runUnderlying84 sizeOf3 g)
 refine Qq (fun a J=>?_) (o:=by exact fun J O=>pR 0 j J O rfl (by rw [<- B];rfl) (z1s q) isAgg3)
 by_cases I:x0 < 0
 refine go fun a J=>?_
 obtain ⟨w0,n⟩:=N.toSees.gsSome (i:=0) rfl g
 refine Qq (fun a J=>?_) (o:=by exact fun J O=>qX (p:=w0) j J (by rw [<- n];rfl) rfl runUnderlying84 sizeOf3 g)
 refine st0 J rfl rfl (aS 0 j J N rfl rfl (by rw [<- n];rfl) (by rw [wY];omega) rfl sizeOf3 rfl fun w N a J=>?_)
 replace N:Mem Φ (.gs (.slice s b.nodes.length k) 3 1 (tH (e.set j (((z+1:Nat):Int))))::.blk T (ob [.slice p3 b.nodes.length c4,.slice (some I0) b.fr.length U,.slice (some K0) b.to.length V] 86)::K) w:=by rw [n,y5j];exact N
 refine go fun a J=>?_
 refine A _ _ _ (by subst h;omega) ⟨(H+1),((e.set j (((z+1:Nat):Int)))),(true),rfl,⟨J.pk,N⟩,?_⟩
 exact ⟨x1v (j5g u F) d E d0 q I,by rw [List.length_set];exact f⟩
 refine go fun a J=>?_
 refine A _ _ _ (by subst h;omega) ⟨(H+1),(e),(X),rfl,⟨J.pk,N⟩,?_⟩
 exact ⟨x1u (j5g u F) d q I,f⟩
 refine go fun a J=>?_
 refine A _ _ _ (by subst h;omega) ⟨(H+1),(e),(X),rfl,⟨J.pk,N⟩,?_⟩
 obtain ⟨b_,A0⟩:=zZ (l:=b.to) (i:=H) (by omega)
 exact ⟨x1t (j5g u A0) d E d0,f⟩
 refine go fun a J=>?_
 cases X
 refine zD ?_
 replace N:=N.dl [1]
 rw [W,j3r (by omega) (q2b (by rw [List.length_zip];omega) d)];exact ⟨_,rfl,trivial,N⟩
 refine go fun a J=>?_
 refine k0 _ _ _ (by subst h;omega) ⟨(z+1),(e),rfl,⟨J.pk,N⟩,?_⟩
 exact ⟨by rw [W,x1w (by omega) (q2b (by rw [List.length_zip];omega) d)],f,by omega⟩
 refine zD ?_
 replace N:=N.dl [1]
 rw [W,show b.nodes.length - z=0 by omega];exact ⟨_,rfl,trivial,N⟩
end Go.Sw
