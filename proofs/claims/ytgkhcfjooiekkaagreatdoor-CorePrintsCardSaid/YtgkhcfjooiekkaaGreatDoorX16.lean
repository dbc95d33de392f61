import Derived.Test.YtgkhcfjooiekkaaGreatDoorX15
set_option linter.unusedVariables false
set_option linter.unusedSimpArgs false
namespace Go.Sw
open Go.Proofs.Tryz
open Go.Proofs
set_option maxRecDepth 20000
set_option maxHeartbeats 4000000
theorem z7f {m:Nat} (h:m<=9223372036854775808):(cB m).length<=19:=by unfold cB;rw [List.length_reverse];exact z7g 18 _ _ (by omega)
theorem j6a {n:Nat} (h:n < 10):IntKind.u8.wrap (48+((n:Nat):Int))=((((48+n).toUInt8).toNat:Nat):Int):=by
 have h1:((48+n).toUInt8).toNat=48+n:=by simp [Nat.toUInt8];omega
 rw [h1];simp only [IntKind.wrap,IntKind.signed,IntKind.bits];simp;omega
theorem x5w {n:Nat} (h:n < 256):IntKind.u8.wrap ((n:Nat):Int)=((n:Nat):Int):=by simp only [IntKind.wrap,IntKind.signed,IntKind.bits];simp;omega
theorem j9m {n:Nat} (h:n < 18446744073709551616):IntKind.u64.wrap ((n:Nat):Int)=((n:Nat):Int):=by simp only [IntKind.wrap,IntKind.signed,IntKind.bits];simp;omega
theorem u64_neg {n:Int} (h:n < 0) (h1:I64 n):IntKind.u64.wrap n=(((n+18446744073709551616).toNat:Nat):Int):=by
 have:=h1.1;simp only [IntKind.wrap,IntKind.signed,IntKind.bits];simp;omega
theorem u64_pos {n:Int} (h:¬n < 0) (h1:I64 n):IntKind.u64.wrap n=((n.toNat:Nat):Int):=by
 have:=h1.2;simp only [IntKind.wrap,IntKind.signed,IntKind.bits];simp;omega
theorem x5v {n:Int} (h:n < 0) (h1:I64 n):IntKind.u64.wrap (0 - (((n+18446744073709551616).toNat:Nat):Int))=(((-n).toNat:Nat):Int):=by
 have:=h1.1;simp only [IntKind.wrap,IntKind.signed,IntKind.bits];simp;omega
theorem x5o {n:Int} (h:n < 0):(⟨#[45]⟩:Bs)++jH (cB (-n).toNat)=sN n:=by rw [y3m,z3k,if_pos h];exact (nV [45] _).symm
theorem x5p {n:Int} (h:¬n < 0):jH (cB n.toNat)=sN n:=by rw [y3m,z3k,if_neg h]
theorem q1x {V:Fz} {K:List Res} {w:World} {n:Nat}  (h:n<=9223372036854775808) (e:∀m:Nat,m < n->∀{V:Fz} {K:List Res} {w:World},Mem V K w->Calls prog 173 #[.int .u64 ((m:Nat):Int)] w (fun ee w'=>ee=.returned (.string (jH (cB m)))/\Mem V K w')) (N:Mem V K w) :
  Calls prog 173 #[.int .u64 ((n:Nat):Int)] w (fun ee w'=>ee=.returned (.string ((jH (cB n))))/\Mem V K w'):=by
 refine zM func173 ntmps173 fun Q hQ a J=>?_
 by_cases d:n < 10
 refine Qq (fun a J=>?_) (o:=by exact fun J O=>z4m ((n:Nat):Int) J rfl underlying241 underlying5 (x5w (by omega)))
 refine Qq (fun a J=>?_) (o:=by exact fun J O=>z2j ((((48+n).toUInt8).toNat:Nat):Int) J rfl rfl (j6a (by omega)))
 refine qH fun i w N a J=>?_
 refine Qq (fun a J=>?_) (o:=by exact fun J O=>q8t (b:=((48+n).toUInt8)) 0 J O rfl rfl underlying128 underlying5 underlying9)
 refine zF ?_
 replace N:=N.dl [0]
 exact cG N (by rw [y8x d])
 refine Qq (fun a J=>?_) (o:=by exact fun J O=>y_quo ((n / 10:Nat):Int) J rfl rfl (by decide) (by rw [show ((n:Nat):Int).tdiv 10=((n / 10:Nat):Int) from rfl];exact j9m (by omega)))
 refine zS call173 (fun w N a J=>?_) (c:=e (n / 10) (by omega) N)
 refine Qq (fun a J=>?_) (o:=by exact fun J O=>y_rem ((n % 10:Nat):Int) J rfl rfl (by decide) (rfl))
 refine zS call173 (fun w N a J=>?_) (c:=e (n % 10) (by omega) N)
 refine Qq (fun a J=>?_) (o:=by exact fun J O=>yE J rfl rfl (by rw [nW,nW];have f:=z7f (m:=n / 10) (by omega);have g:=z7f (m:=n % 10) (by omega);omega))
 refine zF ?_
 exact cG N (by rw [q9t d,nV])
theorem y2j {n:Nat} (b:n<=9223372036854775808):∀{V:Fz} {K:List Res} {w:World},Mem V K w->Calls prog 173 #[.int .u64 ((n:Nat):Int)] w (fun ee w'=>ee=.returned (.string (jH (cB n)))/\Mem V K w'):=by
 induction n using Nat.strongRecOn with
 | ind n c=>intro V K w N;exact q1x b (fun m a _ _ _ N=>c m a (by omega) N) N
theorem x5n {V:Fz} {K:List Res} {w:World} {n:Int}  (b:I64 n) (N:Mem V K w) :
  Calls prog 123 #[.int .i64 n] w (fun ee w'=>ee=.returned (.string ((sN n)))/\Mem V K w'):=by
 refine zM func123 ntmps123 fun Q hQ a J=>?_
 by_cases f:n < 0
 refine Qq (fun a J=>?_) (o:=by exact fun J O=>z4m (((n+18446744073709551616).toNat:Nat):Int) J rfl underlying3 underlying241 (u64_neg (by omega) b))
 refine Qq (fun a J=>?_) (o:=by exact fun J O=>y_neg (((-n).toNat:Nat):Int) J rfl (x5v (by omega) b))
 refine zS call173 (fun w N a J=>?_) (c:=y2j (n:=(-n).toNat) (by have d:=b.1;have e:=b.2;omega) N)
 refine Qq (fun a J=>?_) (o:=by exact fun J O=>yE J rfl rfl (by rw [nW];have d:=z7f (m:=(-n).toNat) (by have:=b.1;omega);have e:(⟨#[45]⟩:Bs).size=1:=rfl;omega))
 refine zF ?_
 exact cG N (by exact x5o f)
 refine Qq (fun a J=>?_) (o:=by exact fun J O=>z4m ((n.toNat:Nat):Int) J rfl underlying3 underlying241 (u64_pos (by omega) b))
 refine zS call173 (fun w N a J=>?_) (c:=y2j (n:=n.toNat) (by have d:=b.1;have e:=b.2;omega) N)
 refine zF ?_
 exact cG N (by exact x5p f)
def y5k (e:Ex):Bs:=if e.kind=7 then ⟨#[40,99,97,115,101]⟩ else if e.kind=6 then (⟨#[40,108,101,116,32]⟩:Bs)++e.name else (⟨#[40]⟩:Bs)++e.name
theorem y5l {e:Ex} (O:shE e=true) (h1:¬e.kind=1) (d:¬e.kind=2) (f:¬e.kind=3) (h:¬(e.kind=4/\e.args.length=0)):y5k e++jH (writePs e.args++(writePa e.arms++[41]))=wB e:=by
 obtain ⟨j,hb,_,_⟩:=y0i O
 unfold y5k
 by_cases a:e.kind=7
 rw [if_pos a]
 obtain ⟨x,k⟩:=q3c (hb a).1
 have i:wB e=jH ([40,99,97,115,101,32]++writeH e.args++writePa e.arms++[41]):=by unfold wB;rw [y6i a]
 rw [i,k]
 simp only [writePs,writeH]
 (apply ByteArray.ext;apply Array.ext';simp [xN,wB,jH,tx,ByteArray.data_append,List.append_assoc])
 rw [if_neg a,List.eq_nil_of_length_eq_zero (j a)]
 simp only [writePa,List.nil_append]
 by_cases b:e.kind=6
 rw [if_pos b,<- j2r b];(apply ByteArray.ext;apply Array.ext';simp [xN,wB,jH,tx,ByteArray.data_append,List.append_assoc])
 rw [if_neg b]
 by_cases c:e.kind=4
 rw [<- j2q c (fun g=>h ⟨c,g⟩)];(apply ByteArray.ext;apply Array.ext';simp [xN,wB,jH,tx,ByteArray.data_append,List.append_assoc])
 rw [<- y6b h1 d f c b a];(apply ByteArray.ext;apply Array.ext';simp [xN,wB,jH,tx,ByteArray.data_append,List.append_assoc])
theorem x0g {s F:Bs} {x:Ex} {l:List Ex} {R:Tx} (h:s++jH (writePs (x::l)++R)=F):((s++(⟨#[32]⟩:Bs))++wB x)++jH (writePs l++R)=F:=by
 rw [<- h];simp only [writePs];(apply ByteArray.ext;apply Array.ext';simp [xN,wB,jH,tx,ByteArray.data_append,List.append_assoc])
theorem x0f {s F:Bs} {x:Ex} {l:List Ex} {R:Tx} (h:s++jH (writePs (x::l)++R)=F):s.size+1+(wB x).size<=F.size:=by
 have:=vX h;simp only [writePs,laQ,lcQ] at this;rw [jL];omega
theorem j5y {s F:Bs} {a:Arm} {l:List Arm} (h:s++jH (writePa (a::l)++[41])=F):((s++(⟨#[32,40]⟩:Bs))++a.con)++jH ((a.vars.map fun v=>32::tx v).flatten++([32,45,62,32]++(xG a.body++(41::(writePa l++[41])))))=F:=by
 rw [<- h];cases a;simp only [writePa,Arm.con,Arm.vars,Arm.body];(apply ByteArray.ext;apply Array.ext';simp [xN,wB,jH,tx,ByteArray.data_append,List.append_assoc])
theorem x5y {s F v:Bs} {l:List Bs} {R:Tx} (h:s++jH (((v::l).map fun v=>32::tx v).flatten++R)=F):((s++(⟨#[32]⟩:Bs))++v)++jH ((l.map fun v=>32::tx v).flatten++R)=F:=by
 rw [<- h];simp only [List.map_cons,List.flatten_cons];(apply ByteArray.ext;apply Array.ext';simp [xN,wB,jH,tx,ByteArray.data_append,List.append_assoc])
theorem arm_end {s F:Bs} {b:Ex} {R:Tx} (h:s++jH ([32,45,62,32]++(xG b++(41::R)))=F):(((s++(⟨#[32,45,62,32]⟩:Bs))++wB b)++(⟨#[41]⟩:Bs))++jH R=F:=by
 rw [<- h];(apply ByteArray.ext;apply Array.ext';simp [xN,wB,jH,tx,ByteArray.data_append,List.append_assoc])
theorem mJ {s F:Bs} {R:Tx} (h:s++jH R=F):s.size<=F.size:=by have:=vX h;omega
theorem j5z {s F:Bs} {b:Ex} {R:Tx} (h:s++jH ([32,45,62,32]++(xG b++(41::R)))=F):s.size+5+(wB b).size<=F.size:=by
 have:=vX h;simp only [laQ,lcQ,lnQ] at this;rw [jL];omega
theorem j0v {e:Ex} (h:shE e=true) (hb:(wB e).size<=8796093022208) (h1:¬e.kind=1) (c:¬e.kind=2) (d:¬e.kind=3):e.name.size<=8796093022208:=by
 by_cases b:e.kind=7
 rw [((y0i h).2.1 b).2];decide
 by_cases a:e.kind=4/\e.args.length=0
 rw [y0l a.1 a.2];exact hb
 have:=mJ (y5l h h1 c d a)
 unfold y5k at this
 rw [if_neg b] at this
 split at this <;> (rw [zB] at this;omega)
theorem vE (a:UInt8):(⟨#[a]⟩:Bs).size=1:=rfl
theorem vF (a b:UInt8):(⟨#[a,b]⟩:Bs).size=2:=rfl
theorem vN (a b c d:UInt8):(⟨#[a,b,c,d]⟩:Bs).size=4:=rfl
theorem vO (a b c d e:UInt8):(⟨#[a,b,c,d,e]⟩:Bs).size=5:=rfl
theorem q7q {V:Fz} {K:List Res} {w:World} {d0:List Value} {e:Ex} (O0:REx V d0 e) (q:shE e=true) (l0:(wB e).size<=8796093022208) (ih:∀x:Ex,x.sz < e.sz->∀{V:Fz} {K:List Res} {w:World} {d:List Value},shE x=true->(wB x).size<=8796093022208->REx V d x->Mem V K w->Calls prog 73 #[.agg d.toArray] w (fun ee w'=>ee=.returned (.string (wB x))/\Mem V K w')) (N:Mem V K w) :
  Calls prog 73 #[.agg d0.toArray] w (fun ee w'=>ee=.returned (.string ((wB e)))/\Mem V K w'):=by
 obtain ⟨p3,c4,p9,F,rfl,V0,h2,h8,x1,H0,Z0,m0⟩:=REx.fm O0
 refine zM func73 ntmps73 fun Q hQ a J=>?_
 refine Bx fun m w N a J=>?_
 by_cases B0:e.kind=1
 refine zS call123 (fun w N a J=>?_) (c:=x5n (by assumption) N)
 refine zF ?_
 replace N:=N.dl [0]
 exact cG N (by exact j2s B0)
 by_cases C0:e.kind=2
 refine zF ?_
 replace N:=N.dl [0]
 exact cG N (by exact j2t C0)
 by_cases U:e.kind=3
 refine go fun a J=>?_
 have o0:=l0
 rw [<- q3s U,zB] at o0
 refine Qq (fun a J=>?_) (o:=by exact fun J O=>yE J rfl rfl (by simp only [zB,vE,vF,vN,vO];omega))
 refine zF ?_
 replace N:=N.dl [0]
 exact cG N (by exact q3s U)
 have y1:=j0v q l0 (by omega) (by omega) (by omega)
 refine Qq (fun a J=>?_) (o:=by exact fun J O=>yE J rfl rfl (by simp only [zB,vE,vF,vN,vO];omega))
 refine goJ 11 fun a J=>?_
 refine sq fun w0 f0=>?_
 have z:∀a w,(EnvR 114 [(1,.pointer (some ⟨m,0,none⟩)),(3,.string ((⟨#[40]⟩:Bs)++e.name))] [] a/\Mem V (.blk m (ob [.int .i64 (e.kind),.int .i64 (e.num),.string e.name,.slice p3 e.args.length c4,.slice p9 e.arms.length F] 66)::K) w/\(¬(e.kind=4/\e.args.length=0)))->w0 a w:=by
  clear N J
  rintro a w ⟨J,N,b0⟩
  apply f0
  have X:=b0
  refine sq fun x0 g0=>?_
  have A:∀a w,(∃(s0:Bs),EnvR 114 [(1,.pointer (some ⟨m,0,none⟩)),(3,.string s0)] [] a/\Mem V (.blk m (ob [.int .i64 (e.kind),.int .i64 (e.num),.string e.name,.slice p3 e.args.length c4,.slice p9 e.arms.length F] 66)::K) w/\(s0=(if e.kind=6 then (⟨#[40,108,101,116,32]⟩:Bs)++e.name else (⟨#[40]⟩:Bs)++e.name)))->x0 a w:=by
   clear N J
   rintro a w ⟨s0,J,N,c0⟩
   apply g0
   have r0:=c0
   refine sq fun y0 h0=>?_
   have B:∀a w,(∃(s:Bs),EnvR 114 [(1,.pointer (some ⟨m,0,none⟩)),(3,.string s)] [] a/\Mem V (.blk m (ob [.int .i64 (e.kind),.int .i64 (e.num),.string e.name,.slice p3 e.args.length c4,.slice p9 e.arms.length F] 66)::K) w/\(s++jH (writePs e.args++(writePa e.arms++[41]))=wB e))->y0 a w:=by
    clear N J
    rintro a w ⟨s,J,N,e0⟩
    apply h0
    have q0:=e0
    refine go fun a J=>?_
    refine zV (J.ks [1]) N (fun R mm a w=>∃(i:Nat) (s2:Bs),mm=e.args.length - i/\R V [(3,.string s2),(4,.int .i64 ((i:Nat):Int))] [] a w/\(s2++jH (writePs (e.args.drop i)++(writePa e.arms++[41]))=wB e)) (e.args.length - 0) ⟨0,s,rfl,⟨J.pk,N⟩,q0⟩ ?_
    clear N J
    rintro mm a w ⟨i,s2,p,⟨J,N⟩,n⟩ k1 i0
    by_cases W:i < e.args.length
    have u:=mJ n
    refine Qq (fun a J=>?_) (o:=by exact fun J O=>yE J rfl rfl (by simp only [zB,vE,vF,vN,vO];omega))
    refine go fun a J=>?_
    obtain ⟨C1,rfl,P0,r,R0,X0,T0,D⟩:=h2.el H0 W
    obtain ⟨z1,n1,A1,o1,rfl,W0,r1,s1,a1,f1,b1,g1⟩:=REx.fm D
    refine go fun a J=>?_
    have f:=n
    rw [zA r] at f
    have w1:=x0f f
    refine zS call73 (fun w N a J=>?_) (c:=ih _ (Ex.lt_args (mgQ r)) ((y0i q).2.2.1 _ (mgQ r)) (by omega) D N)
    refine Qq (fun a J=>?_) (o:=by exact fun J O=>yE J rfl rfl (by simp only [zB,vE,vF,vN,vO];omega))
    refine go fun a J=>?_
    refine i0 _ _ _ (by subst p;omega) ⟨(i+1),(((s2++(⟨#[32]⟩:Bs))++(wB P0))),rfl,⟨J.pk,N⟩,?_⟩
    exact x0g f
    refine go fun a J=>?_
    refine zV (J.ks [1]) N (fun R mm a w=>∃(j:Nat) (s3:Bs),mm=e.arms.length - j/\R V [(3,.string s3),(5,.int .i64 ((j:Nat):Int))] [] a w/\(s3++jH (writePa (e.arms.drop j)++[41])=wB e)) (e.arms.length - 0) ⟨0,s2,rfl,⟨J.pk,N⟩,by have h_:=n;rw [zE W] at h_;exact h_⟩ ?_
    clear N J
    rintro mm a w ⟨j,s3,p,⟨J,N⟩,h⟩ l1 j0
    by_cases Y:j < e.arms.length
    have u:=mJ h
    refine Qq (fun a J=>?_) (o:=by exact fun J O=>yE J rfl rfl (by simp only [zB,vE,vF,vN,vO];omega))
    refine go fun a J=>?_
    obtain ⟨D1,rfl,b,t,S0,Y0,k0,p0⟩:=h8.el m0 Y
    obtain ⟨E1,m1,rfl,Z,a0⟩:=RArm.iff.1 p0
    obtain ⟨B1,p1,rfl,c1,n0⟩:=Z.fm
    obtain ⟨M0,z0,N0,A0,rfl,E0,u1,v1,d1,h1,e1,G0⟩:=REx.fm a0
    refine go fun a J=>?_
    have f:=h
    rw [zA t] at f
    have C:=j5y f
    have J0:=mJ C
    simp only [zB,vF] at J0
    refine Qq (fun a J=>?_) (o:=by exact fun J O=>yE J rfl rfl (by simp only [zB,vE,vF,vN,vO];omega))
    refine go fun a J=>?_
    refine zV (J.ks [1,5]) N (fun R mm a w=>∃(k:Nat) (s4:Bs),mm=b.vars.length - k/\R V [(3,.string s4),(6,.int .i64 ((k:Nat):Int))] [] a w/\(s4++jH (((b.vars.drop k).map fun v=>32::tx v).flatten++([32,45,62,32]++(xG b.body++(41::(writePa (e.arms.drop (j+1))++[41])))))=wB e)) (b.vars.length - 0) ⟨0,((s3++(⟨#[32,40]⟩:Bs))++b.con),rfl,⟨J.pk,N⟩,C⟩ ?_
    clear N J
    rintro mm a w ⟨k,s4,p,⟨J,N⟩,g⟩ Q0 H
    by_cases y:k < b.vars.length
    have u:=mJ g
    refine Qq (fun a J=>?_) (o:=by exact fun J O=>yE J rfl rfl (by simp only [zB,vE,vF,vN,vO];omega))
    refine go fun a J=>?_
    obtain ⟨j1,rfl,E,L,G,F0,D0,I⟩:=Z.el n0 y
    obtain rfl:G=[.string E]:=I
    refine go fun a J=>?_
    have f:=g
    rw [zA L] at f
    have t0:=x5y f
    have I0:=mJ t0
    simp only [zB,vE] at I0
    refine Qq (fun a J=>?_) (o:=by exact fun J O=>yE J rfl rfl (by simp only [zB,vE,vF,vN,vO];omega))
    refine go fun a J=>?_
    refine H _ _ _ (by subst p;omega) ⟨(k+1),(((s4++(⟨#[32]⟩:Bs))++E)),rfl,⟨J.pk,N⟩,?_⟩
    exact t0
    refine go fun a J=>?_
    have l:=g
    rw [zE y] at l
    have U0:=j5z l
    have u:=mJ l
    refine Qq (fun a J=>?_) (o:=by exact fun J O=>yE J rfl rfl (by simp only [zB,vE,vF,vN,vO];omega))
    refine Qq (fun a J=>?_) (o:=by exact fun J O=>kV 2 (vs:=[.int .i64 (b.body.kind),.int .i64 (b.body.num),.string b.body.name,.slice M0 b.body.args.length z0,.slice N0 b.body.arms.length A0]) J O rfl k0 isAgg66 sizeOf66 rfl rfl)
    refine zS call73 (fun w N a J=>?_) (c:=ih _ (Ex.lt_arms (mgQ t)) ((y0i q).2.2.2 _ (mgQ t)) (by omega) a0 N)
    refine Qq (fun a J=>?_) (o:=by exact fun J O=>yE J rfl rfl (by simp only [zB,vE,vF,vN,vO];omega))
    refine Qq (fun a J=>?_) (o:=by exact fun J O=>yE J rfl rfl (by simp only [zB,vE,vF,vN,vO];omega))
    refine go fun a J=>?_
    refine j0 _ _ _ (by subst p;omega) ⟨(j+1),((((s4++(⟨#[32,45,62,32]⟩:Bs))++(wB b.body))++(⟨#[41]⟩:Bs))),rfl,⟨J.pk,N⟩,?_⟩
    exact arm_end l
    have u:=mJ h
    refine Qq (fun a J=>?_) (o:=by exact fun J O=>yE J rfl rfl (by simp only [zB,vE,vF,vN,vO];omega))
    refine zF ?_
    replace N:=N.dl [0]
    exact cG N (by have h_:=h;rw [zE Y] at h_;exact h_)
   by_cases M:e.kind=7
   refine go fun a J=>?_
   exact B _ _ ⟨(⟨#[40,99,97,115,101]⟩:Bs),J.pk,N,(congrArg (·++jH (writePs e.args++(writePa e.arms++[41]))) (show y5k e=(⟨#[40,99,97,115,101]⟩:Bs) from if_pos M)).symm.trans (y5l q (by omega) (by omega) (by omega) X)⟩
   refine go fun a J=>?_
   exact B _ _ ⟨s0,J.pk,N,(congrArg (·++jH (writePs e.args++(writePa e.arms++[41]))) (show y5k e=s0 from (if_neg (by omega)).trans r0.symm)).symm.trans (y5l q (by omega) (by omega) (by omega) X)⟩
  by_cases P:e.kind=6
  refine Qq (fun a J=>?_) (o:=by exact fun J O=>yE J rfl rfl (by simp only [zB,vE,vF,vN,vO];omega))
  refine go fun a J=>?_
  exact A _ _ ⟨((⟨#[40,108,101,116,32]⟩:Bs)++e.name),J.pk,N,(if_pos P).symm⟩
  refine go fun a J=>?_
  exact A _ _ ⟨((⟨#[40]⟩:Bs)++e.name),J.pk,N,(if_neg (by omega)).symm⟩
 by_cases S:e.kind=4
 by_cases T:e.args.length=0
 refine zF ?_
 replace N:=N.dl [0]
 exact cG N (by exact y0l S T)
 refine go fun a J=>?_
 exact z _ _ ⟨J.pk,N,by omega⟩
 refine go fun a J=>?_
 exact z _ _ ⟨J.pk,N,by omega⟩
theorem j8z {V:Fz} {K:List Res} {w:World} {d:List Value} {e:Ex} (a:shE e=true) (hb:(wB e).size<=8796093022208) (re:REx V d e) (N:Mem V K w) :
  Calls prog 73 #[.agg d.toArray] w (fun ee w'=>ee=.returned (.string (wB e))/\Mem V K w'):=by
 suffices H:∀n (e:Ex),e.sz < n->∀{V:Fz} {K:List Res} {w:World} {d:List Value},shE e=true->(wB e).size<=8796093022208->REx V d e->Mem V K w->Calls prog 73 #[.agg d.toArray] w (fun ee w'=>ee=.returned (.string (wB e))/\Mem V K w') from H _ e (Nat.lt_succ_self _) a hb re N
 intro n
 induction n with
 | zero=>intro e h;omega
 | succ n b=>intro e h V K w d O hb re N;exact q7q re O hb (fun x g _ _ _ _ c f r m=>b x (by omega) c f r m) N
end Go.Sw

namespace Go.Sw
open Go.Proofs
set_option maxRecDepth 20000
set_option maxHeartbeats 4000000
theorem y3o (sep:Bs):∀(l:List Bs) (x:Bs),pE sep (x::l)=x++qY (l.map fun y=>sep++y)
 | [],x=>(tI x).symm
 | y::l,x=>by
  have:=y3o sep l (x++sep++y)
  simp only [pE,List.foldl_cons] at this ⊢
  rw [this];simp only [List.map_cons,qY,xO]
def sgnB (b:Bool):Bs:=if b=true then ⟨#[32,61,32]⟩ else ⟨#[32,124,32]⟩
def sJ:Bool->List Con->Bs
 | _,[]=>⟨#[]⟩
 | b,x::l=>sgnB b++(z1e x++sJ false l)
theorem z8z:∀l:List Con,sJ false l=qY (l.map fun x=>(⟨#[32,124,32]⟩:Bs)++z1e x)
 | []=>rfl
 | x::l=>by simp only [sJ,List.map_cons,qY,z8z l,sgnB,xO];rfl
theorem x0v (x:Con):z1e x=x.name++qY (x.fields.map fun v=>(⟨#[32]⟩:Bs)++v):=y3o _ _ _
theorem j6k {d:Data} (h:0 < d.cons.length):tN d=((⟨#[100,97,116,97,32]⟩:Bs)++d.name)++(sJ true d.cons++⟨#[10]⟩):=by
 unfold tN
 cases a:d.cons with
 | nil=>rw [a] at h;simp at h
 | cons x l=>
  rw [List.map_cons,y3o,sJ,z8z,List.map_map]
  simp only [xO,sgnB,if_true];rfl
theorem q9p {l:List Data} {i:Nat} {d:Data} {s R F:Bs} (b:l[i]? = some d) (a:0 < d.cons.length) (h:s++(qY ((l.drop i).map tN)++R)=F) :
  ((s++(⟨#[100,97,116,97,32]⟩:Bs))++d.name)++(sJ true d.cons++((⟨#[10]⟩:Bs)++(qY ((l.drop (i+1)).map tN)++R)))=F:=by
 rw [<- h,dM b,j6k a];simp only [xO]
theorem q9o {b:Bool} {x:Con} {l:List Con} {s R F:Bs} (h:s++(sJ b (x::l)++R)=F):((s++sgnB b)++x.name)++(qY ((x.fields.drop 0).map fun v=>(⟨#[32]⟩:Bs)++v)++(sJ false l++R))=F:=by
 rw [<- h,sJ,x0v];simp only [xO,List.drop_zero]
theorem x1n {l:List Bs} {j:Nat} {v s R F:Bs} (a:l[j]? = some v) (h:s++(qY ((l.drop j).map fun v=>(⟨#[32]⟩:Bs)++v)++R)=F):((s++(⟨#[32]⟩:Bs))++v)++(qY ((l.drop (j+1)).map fun v=>(⟨#[32]⟩:Bs)++v)++R)=F:=by
 rw [xO s];exact z1d a h
theorem x1c {b:Bool} {s R F:Bs} (h:s++(sJ b []++((⟨#[10]⟩:Bs)++R))=F):(s++(⟨#[10]⟩:Bs))++R=F:=by
 rw [<- h,sJ];simp only [xO,oE]
theorem in_step {l:List Param} {i:Nat} {p:Param} {s R F:Bs} (a:l[i]? = some p) (h:s++(qY ((l.drop i).map aK)++R)=F) :
  (((((s++(⟨#[105,110,112,117,116,32]⟩:Bs))++p.name)++(⟨#[32,58,32]⟩:Bs))++p.type)++(⟨#[10]⟩:Bs))++(qY ((l.drop (i+1)).map aK)++R)=F:=by
 rw [<- h,dM a];simp only [aK,xO]
theorem x4h {l:List Param} {i:Nat} {p:Param} {s R F:Bs} (a:l[i]? = some p) (h:s++(qY ((l.drop i).map gE)++R)=F) :
  (((((s++(⟨#[32,40]⟩:Bs))++p.name)++(⟨#[32,58,32]⟩:Bs))++p.type)++(⟨#[41]⟩:Bs))++(qY ((l.drop (i+1)).map gE)++R)=F:=by
 rw [<- h,dM a];simp only [gE,xO]
theorem x1o {l:List Fun} {i:Nat} {f:Fun} {s R F:Bs} (a:l[i]? = some f) (h:s++(qY ((l.drop i).map tR)++R)=F) :
  ((s++(⟨#[102,117,110,32]⟩:Bs))++f.name)++(qY ((f.params.drop 0).map gE)++((⟨#[32,58,32]⟩:Bs)++(f.result++((⟨#[32,61,32]⟩:Bs)++(wB f.body++((⟨#[10]⟩:Bs)++(qY ((l.drop (i+1)).map tR)++R)))))))=F:=by
 rw [<- h,dM a];simp only [tR,xO,List.drop_zero]
theorem fn_end {f:Fun} {s R F:Bs} (h:s++((⟨#[32,58,32]⟩:Bs)++(f.result++((⟨#[32,61,32]⟩:Bs)++(wB f.body++((⟨#[10]⟩:Bs)++R)))))=F) :
  (((((s++(⟨#[32,58,32]⟩:Bs))++f.result)++(⟨#[32,61,32]⟩:Bs))++wB f.body)++(⟨#[10]⟩:Bs))++R=F:=by
 rw [<- h];simp only [xO]
theorem x4e {l:List Bs} {i:Nat} {o s R F:Bs} (a:l[i]? = some o) (h:s++(qY ((l.drop i).map uA)++R)=F) :
  (((s++(⟨#[111,117,116,112,117,116,32]⟩:Bs))++o)++(⟨#[10]⟩:Bs))++(qY ((l.drop (i+1)).map uA)++R)=F:=by
 rw [<- h,dM a];simp only [uA,xO]
theorem xH {s R F:Bs} (h:s++R=F):s.size<=F.size:=by rw [<- h,zB];omega
theorem pZ (a b c:UInt8):(⟨#[a,b,c]⟩:Bs).size=3:=rfl
theorem mA (a b c d e f:UInt8):(⟨#[a,b,c,d,e,f]⟩:Bs).size=6:=rfl
theorem mB (a b c d e f g:UInt8):(⟨#[a,b,c,d,e,f,g]⟩:Bs).size=7:=rfl
theorem yS (b:Bool):(sgnB b).size=3:=by cases b <;> rfl
theorem fun_sh {c:Core} (h:yT c=0) {f:Fun} (a:f∈c.funs):shE f.body=true:=by
 have hr:vA c=true:=by
  rw [q7h];unfold yT at h
  split at h
  cases h
  split at h
  cases h
  split at h
  assumption
  cases h
 simp only [vA,baQ,List.all_eq_true,pD] at hr
 exact y5x c _ f.body f.params (Nat.lt_succ_self _) (hr.1.2 f a).1
theorem j6f {c:Core} (h:yT c=0) {d:Data} (a:d∈c.datas):0 < d.cons.length:=((decl_of h).tab.dN d a).2.2.2.1
theorem j8l {V:Fz} {K:List Res} {w:World} {d0:List Value} {c:Core} (i0:RCore V d0 c) (e1:∀v,d0[3]? = some v->Cap v) (N:Mem V K w) :
  Calls Tryz.prog 24 #[.agg d0.toArray] w (fun ee w'=>ee=.returned (.tuple #[.string (aQ c).1,.int .i64 (aQ c).2])/\Mem V K w'):=by
 obtain ⟨p3,c4,p9,R0,q1,S0,r1,c22,rfl,h2,h8,W0,X0,g2,p1,L1,A0,M1,B0,N1,C0⟩:=RCore.fm i0
 have z0:=e1
 have j0:=z7d i0
 refine zM Tryz.func24 Tryz.ntmps24 fun Q hQ a J=>?_
 refine Bx fun l0 w N a J=>?_
 refine zS Tryz.call52 (fun w N a J=>?_) (c:=q9j i0 z0 N)
 by_cases Y0:oM c=0
 have u:yT c=0:=by rw [<- y1f];omega
 have Q1:=y4q u j0
 refine go fun a J=>?_
 refine zV (J.ks [1]) N (fun R mm a w=>∃(i:Nat) (s:Bs),mm=c.datas.length - i/\R V [(5,.string s),(6,.int .i64 ((i:Nat):Int))] [] a w/\(s++(qY ((c.datas.drop i).map tN)++(qY (c.inputs.map aK)++(qY (c.funs.map tR)++qY (c.outputs.map uA))))=kU c)) (c.datas.length - 0) ⟨0,⟨#[]⟩,rfl,⟨J.pk,N⟩,oE _⟩ ?_
 clear N J
 rintro mm a w ⟨i,s,f,⟨J,N⟩,q⟩ Z1 t0
 by_cases n0:i < c.datas.length
 have g:=xH q
 refine Qq (fun a J=>?_) (o:=by exact fun J O=>yE J rfl rfl (by simp only [zB,vE,vF,pZ,vN,vO,mA,mB,yS];omega))
 refine go fun a J=>?_
 obtain ⟨s1,rfl,p,M,B1,I1,F1,F0⟩:=h2.el p1 n0
 obtain ⟨o2,rfl,o0⟩:=id F0
 obtain ⟨j2,c51,rfl,O1,D0⟩:=o0.fm
 refine go fun a J=>?_
 have b:=q9p M (j6f u (mgQ M)) q
 have d:=xH b
 simp only [zB,vE,vF,pZ,vN,vO,mA,mB,yS] at d
 refine Qq (fun a J=>?_) (o:=by exact fun J O=>yE J rfl rfl (by simp only [zB,vE,vF,pZ,vN,vO,mA,mB,yS];omega))
 refine go fun a J=>?_
 refine zV (J.ks [1,6]) N (fun R mm a w=>∃(k:Nat) (s2:Bs),mm=p.cons.length - k/\R V [(5,.string s2),(7,.int .i64 ((k:Nat):Int))] [] a w/\(s2++(sJ (decide (k=0)) (p.cons.drop k)++((⟨#[10]⟩:Bs)++(qY ((c.datas.drop (i+1)).map tN)++(qY (c.inputs.map aK)++(qY (c.funs.map tR)++qY (c.outputs.map uA))))))=kU c)) (p.cons.length - 0) ⟨0,((s++(⟨#[100,97,116,97,32]⟩:Bs))++p.name),rfl,⟨J.pk,N⟩,b⟩ ?_
 clear N J
 rintro mm a w ⟨k,s2,f,⟨J,N⟩,n⟩ a2 u0
 refine go fun a J=>?_
 by_cases p0:k < p.cons.length
 refine goJ 15 fun a J=>?_
 refine sq fun Q0 w0=>?_
 have I:∀a w,(∃(sg:Bs),EnvR 194 [(1,.pointer (some ⟨l0,0,none⟩)),(5,.string s2),(6,.int .i64 ((i:Nat):Int)),(7,.int .i64 ((k:Nat):Int)),(8,.string sg)] [] a/\Mem V (.blk l0 (ob [.slice (some s1) c.datas.length c4,.slice p9 c.inputs.length R0,.slice q1 c.funs.length S0,.slice r1 c.outputs.length c22] 27)::K) w/\(sg=sgnB (decide (k=0))))->Q0 a w:=by
  clear N J
  rintro a w ⟨sg,J,N,s0⟩
  apply w0
  have I0:=s0
  subst I0
  have g:=xH n
  refine Qq (fun a J=>?_) (o:=by exact fun J O=>yE J rfl rfl (by simp only [zB,vE,vF,pZ,vN,vO,mA,mB,yS];omega))
  refine go fun a J=>?_
  obtain ⟨m2,rfl,z,J0,C1,J1,G1,G0⟩:=o0.el D0 p0
  obtain ⟨p2,rfl,q0⟩:=id G0
  obtain ⟨k2,d2,rfl,P1,E0⟩:=q0.fm
  refine go fun a J=>?_
  have A:=n
  rw [zA J0] at A
  have b:=q9o A
  have d:=xH b
  simp only [zB,vE,vF,pZ,vN,vO,mA,mB,yS] at d
  refine Qq (fun a J=>?_) (o:=by exact fun J O=>yE J rfl rfl (by simp only [zB,vE,vF,pZ,vN,vO,mA,mB,yS];omega))
  refine go fun a J=>?_
  refine zV (J.ks [1,6,7]) N (fun R mm a w=>∃(j:Nat) (s3:Bs),mm=z.fields.length - j/\R V [(5,.string s3),(9,.int .i64 ((j:Nat):Int))] [] a w/\(s3++(qY ((z.fields.drop j).map fun v=>(⟨#[32]⟩:Bs)++v)++(sJ false (p.cons.drop (k+1))++((⟨#[10]⟩:Bs)++(qY ((c.datas.drop (i+1)).map tN)++(qY (c.inputs.map aK)++(qY (c.funs.map tR)++qY (c.outputs.map uA)))))))=kU c)) (z.fields.length - 0) ⟨0,((s2++(sgnB (decide (k=0))))++z.name),rfl,⟨J.pk,N⟩,b⟩ ?_
  clear N J
  rintro mm a w ⟨j,s3,f,⟨J,N⟩,r⟩ b2 x0
  by_cases r0:j < z.fields.length
  have g:=xH r
  refine Qq (fun a J=>?_) (o:=by exact fun J O=>yE J rfl rfl (by simp only [zB,vE,vF,pZ,vN,vO,mA,mB,yS];omega))
  refine go fun a J=>?_
  obtain ⟨n2,rfl,O0,K0,m0,K1,H1,H0⟩:=q0.el E0 r0
  obtain rfl:m0=[.string O0]:=H0
  refine go fun a J=>?_
  have b:=x1n K0 r
  have d:=xH b
  simp only [zB,vE,vF,pZ,vN,vO,mA,mB,yS] at d
  refine Qq (fun a J=>?_) (o:=by exact fun J O=>yE J rfl rfl (by simp only [zB,vE,vF,pZ,vN,vO,mA,mB,yS];omega))
  refine go fun a J=>?_
  refine x0 _ _ _ (by subst f;omega) ⟨(j+1),(((s3++(⟨#[32]⟩:Bs))++O0)),rfl,⟨J.pk,N⟩,?_⟩
  exact b
  refine go fun a J=>?_
  refine u0 _ _ _ (by subst f;omega) ⟨(k+1),(s3),rfl,⟨J.pk,N⟩,?_⟩
  have h_:=r;rw [zE r0] at h_;rw [decide_eq_false (by omega),<- oE (sJ _ _++_)];exact h_
 by_cases Z0:k=0
 refine go fun a J=>?_
 exact I _ _ ⟨(⟨#[32,61,32]⟩:Bs),J.pk,N,by rw [decide_eq_true Z0];rfl⟩
 refine go fun a J=>?_
 exact I _ _ ⟨(⟨#[32,124,32]⟩:Bs),J.pk,N,by rw [decide_eq_false (by omega)];rfl⟩
 have g:=xH n
 refine Qq (fun a J=>?_) (o:=by exact fun J O=>yE J rfl rfl (by simp only [zB,vE,vF,pZ,vN,vO,mA,mB,yS];omega))
 refine go fun a J=>?_
 refine t0 _ _ _ (by subst f;omega) ⟨(i+1),((s2++(⟨#[10]⟩:Bs))),rfl,⟨J.pk,N⟩,?_⟩
 have h_:=n;rw [zE p0] at h_;exact x1c h_
 refine go fun a J=>?_
 refine zV (J.ks [1]) N (fun R mm a w=>∃(i2:Nat) (s4:Bs),mm=c.inputs.length - i2/\R V [(5,.string s4),(10,.int .i64 ((i2:Nat):Int))] [] a w/\(s4++(qY ((c.inputs.drop i2).map aK)++(qY (c.funs.map tR)++qY (c.outputs.map uA)))=kU c)) (c.inputs.length - 0) ⟨0,s,rfl,⟨J.pk,N⟩,nB n0 q⟩ ?_
 clear N J
 rintro mm a w ⟨i2,s4,f,⟨J,N⟩,t⟩ c2 y0
 by_cases B:i2 < c.inputs.length
 refine Reg [1,1,1,2,1,1,1,2,1,1,1,2,1,1,1,2,1,1,1] [0] fun w N a J=>?_
 have g:=xH t
 refine Qq (fun a J=>?_) (o:=by exact fun J O=>yE J rfl rfl (by simp only [zB,vE,vF,pZ,vN,vO,mA,mB,yS];omega))
 refine go fun a J=>?_
 obtain ⟨U1,rfl,P,f0,T0,g1,a1,a0⟩:=h8.el A0 B
 obtain rfl:=id a0
 refine go fun a J=>?_
 have b:=in_step f0 t
 have d:=xH b
 simp only [zB,vE,vF,pZ,vN,vO,mA,mB,yS] at d
 refine Qq (fun a J=>?_) (o:=by exact fun J O=>yE J rfl rfl (by simp only [zB,vE,vF,pZ,vN,vO,mA,mB,yS];omega))
 refine Qq (fun a J=>?_) (o:=by exact fun J O=>yE J rfl rfl (by simp only [zB,vE,vF,pZ,vN,vO,mA,mB,yS];omega))
 refine Qq (fun a J=>?_) (o:=by exact fun J O=>yE J rfl rfl (by simp only [zB,vE,vF,pZ,vN,vO,mA,mB,yS];omega))
 refine Qq (fun a J=>?_) (o:=by exact fun J O=>yE J rfl rfl (by simp only [zB,vE,vF,pZ,vN,vO,mA,mB,yS];omega))
 refine go fun a J=>?_
 refine y0 _ _ _ (by subst f;omega) ⟨(i2+1),((((((s4++(⟨#[105,110,112,117,116,32]⟩:Bs))++P.name)++(⟨#[32,58,32]⟩:Bs))++P.type)++(⟨#[10]⟩:Bs))),rfl,⟨J.pk,N⟩,?_⟩
 exact b
 refine go fun a J=>?_
 refine zV (J.ks [1]) N (fun R mm a w=>∃(i3:Nat) (s5:Bs),mm=c.funs.length - i3/\R V [(5,.string s5),(11,.int .i64 ((i3:Nat):Int))] [] a w/\(s5++(qY ((c.funs.drop i3).map tR)++qY (c.outputs.map uA))=kU c)) (c.funs.length - 0) ⟨0,s4,rfl,⟨J.pk,N⟩,nB B t⟩ ?_
 clear N J
 rintro mm a w ⟨i3,s5,f,⟨J,N⟩,h⟩ t1 W
 by_cases C:i3 < c.funs.length
 refine go fun a J=>?_
 obtain ⟨V1,rfl,e,y,U0,h1,b1,b0⟩:=W0.el B0 C
 obtain ⟨Y1,w1,rfl,D,E⟩:=id b0
 obtain ⟨R1,y1,rfl,k1,Z⟩:=D.fm
 obtain ⟨S1,z1,T1,A1,rfl,f1,D1,E1,l1,n1,m1,o1⟩:=REx.fm E
 refine Alc fun x1 w N a J=>?_
 refine Sto 0 fun w N a J=>?_
 have g:=xH h
 refine Qq (fun a J=>?_) (o:=by exact fun J O=>yE J rfl rfl (by simp only [zB,vE,vF,pZ,vN,vO,mA,mB,yS];omega))
 refine go fun a J=>?_
 have b:=x1o y h
 have d:=xH b
 simp only [zB,vE,vF,pZ,vN,vO,mA,mB,yS] at d
 refine Qq (fun a J=>?_) (o:=by exact fun J O=>yE J rfl rfl (by simp only [zB,vE,vF,pZ,vN,vO,mA,mB,yS];omega))
 refine go fun a J=>?_
 refine zV (J.ks [1,11,12]) N (fun R mm a w=>∃(k3:Nat) (s6:Bs),mm=e.params.length - k3/\R V [(5,.string s6),(13,.int .i64 ((k3:Nat):Int))] [] a w/\(s6++(qY ((e.params.drop k3).map gE)++((⟨#[32,58,32]⟩:Bs)++(e.result++((⟨#[32,61,32]⟩:Bs)++(wB e.body++((⟨#[10]⟩:Bs)++(qY ((c.funs.drop (i3+1)).map tR)++qY (c.outputs.map uA))))))))=kU c)) (e.params.length - 0) ⟨0,((s5++(⟨#[102,117,110,32]⟩:Bs))++e.name),rfl,⟨J.pk,N⟩,b⟩ ?_
 clear N J
 rintro mm a w ⟨k3,s6,f,⟨J,N⟩,l⟩ u1 X
 by_cases F:k3 < e.params.length
 refine Reg [1,1,1,2,1,1,1,2,1,1,1,2,1,1,1,2,1,1,1] [0,1] fun w N a J=>?_
 have g:=xH l
 refine Qq (fun a J=>?_) (o:=by exact fun J O=>yE J rfl rfl (by simp only [zB,vE,vF,pZ,vN,vO,mA,mB,yS];omega))
 refine go fun a J=>?_
 obtain ⟨W1,rfl,S,g0,V0,i1,c1,c0⟩:=D.el Z F
 obtain rfl:=id c0
 refine go fun a J=>?_
 have b:=x4h g0 l
 have d:=xH b
 simp only [zB,vE,vF,pZ,vN,vO,mA,mB,yS] at d
 refine Qq (fun a J=>?_) (o:=by exact fun J O=>yE J rfl rfl (by simp only [zB,vE,vF,pZ,vN,vO,mA,mB,yS];omega))
 refine Qq (fun a J=>?_) (o:=by exact fun J O=>yE J rfl rfl (by simp only [zB,vE,vF,pZ,vN,vO,mA,mB,yS];omega))
 refine Qq (fun a J=>?_) (o:=by exact fun J O=>yE J rfl rfl (by simp only [zB,vE,vF,pZ,vN,vO,mA,mB,yS];omega))
 refine Qq (fun a J=>?_) (o:=by exact fun J O=>yE J rfl rfl (by simp only [zB,vE,vF,pZ,vN,vO,mA,mB,yS];omega))
 refine go fun a J=>?_
 refine X _ _ _ (by subst f;omega) ⟨(k3+1),((((((s6++(⟨#[32,40]⟩:Bs))++S.name)++(⟨#[32,58,32]⟩:Bs))++S.type)++(⟨#[41]⟩:Bs))),rfl,⟨J.pk,N⟩,?_⟩
 exact b
 refine Reg [1,1,1,2,1,1,1,2,0,1,1,1] [0,1] fun w N a J=>?_
 have A:=nB F l
 have b:=fn_end A
 have d:=xH b
 simp only [zB,vE,vF,pZ,vN,vO,mA,mB,yS] at d
 refine Qq (fun a J=>?_) (o:=by exact fun J O=>yE J rfl rfl (by simp only [zB,vE,vF,pZ,vN,vO,mA,mB,yS];omega))
 refine Qq (fun a J=>?_) (o:=by exact fun J O=>yE J rfl rfl (by simp only [zB,vE,vF,pZ,vN,vO,mA,mB,yS];omega))
 refine Qq (fun a J=>?_) (o:=by exact fun J O=>yE J rfl rfl (by simp only [zB,vE,vF,pZ,vN,vO,mA,mB,yS];omega))
 refine zS Tryz.call73 (fun w N a J=>?_) (c:=j8z (fun_sh u (mgQ y)) (by omega) E N)
 refine Qq (fun a J=>?_) (o:=by exact fun J O=>yE J rfl rfl (by simp only [zB,vE,vF,pZ,vN,vO,mA,mB,yS];omega))
 refine Qq (fun a J=>?_) (o:=by exact fun J O=>yE J rfl rfl (by simp only [zB,vE,vF,pZ,vN,vO,mA,mB,yS];omega))
 refine go fun a J=>?_
 replace N:=N.dl [0]
 refine W _ _ _ (by subst f;omega) ⟨(i3+1),((((((s6++(⟨#[32,58,32]⟩:Bs))++e.result)++(⟨#[32,61,32]⟩:Bs))++(wB e.body))++(⟨#[10]⟩:Bs))),rfl,⟨J.pk,N⟩,?_⟩
 exact b
 refine go fun a J=>?_
 refine zV (J.ks [1]) N (fun R mm a w=>∃(i4:Nat) (s7:Bs),mm=c.outputs.length - i4/\R V [(5,.string s7),(14,.int .i64 ((i4:Nat):Int))] [] a w/\(s7++(qY ((c.outputs.drop i4).map uA)++⟨#[]⟩)=kU c)) (c.outputs.length - 0) ⟨0,s5,rfl,⟨J.pk,N⟩,by have h_:=nB C h;rw [tI];exact h_⟩ ?_
 clear N J
 rintro mm a w ⟨i4,s7,f,⟨J,N⟩,m⟩ v1 Y
 by_cases G:i4 < c.outputs.length
 have g:=xH m
 refine Qq (fun a J=>?_) (o:=by exact fun J O=>yE J rfl rfl (by simp only [zB,vE,vF,pZ,vN,vO,mA,mB,yS];omega))
 refine go fun a J=>?_
 obtain ⟨X1,rfl,T,h0,U,j1,d1,e0⟩:=X0.el C0 G
 obtain rfl:U=[.string T]:=e0
 refine go fun a J=>?_
 have b:=x4e h0 m
 have d:=xH b
 simp only [zB,vE,vF,pZ,vN,vO,mA,mB,yS] at d
 refine Qq (fun a J=>?_) (o:=by exact fun J O=>yE J rfl rfl (by simp only [zB,vE,vF,pZ,vN,vO,mA,mB,yS];omega))
 refine Qq (fun a J=>?_) (o:=by exact fun J O=>yE J rfl rfl (by simp only [zB,vE,vF,pZ,vN,vO,mA,mB,yS];omega))
 refine go fun a J=>?_
 refine Y _ _ _ (by subst f;omega) ⟨(i4+1),((((s7++(⟨#[111,117,116,112,117,116,32]⟩:Bs))++T)++(⟨#[10]⟩:Bs))),rfl,⟨J.pk,N⟩,?_⟩
 exact b
 refine go fun a J=>?_
 have L:=nB G m
 rw [tI] at L
 rw [L] at J
 by_cases H:60000 < (kU c).size
 refine jS ?_
 replace N:=N.dl [0]
 have hr_:aQ c=((⟨#[]⟩:Bs),2):=by exact z9n u H
 show _/\_;rw [hr_];exact ⟨rfl,N⟩
 refine jS ?_
 replace N:=N.dl [0]
 have hr_:aQ c=((kU c),0):=by exact q0l u H
 show _/\_;rw [hr_];exact ⟨rfl,N⟩
 refine jS ?_
 replace N:=N.dl [0]
 have hr_:aQ c=((⟨#[]⟩:Bs),oM c):=by rw [z9o (by rw [<- y1f];exact Y0),y1f]
 show _/\_;rw [hr_];exact ⟨rfl,N⟩
end Go.Sw

namespace Go.Sw
open Go.Proofs.Tryz
open Go.Proofs
set_option maxRecDepth 20000
set_option maxHeartbeats 4000000
theorem y7f {V:Fz} {K:List Res} {w:World} {d0:List Value} {c:Core} (b:RCore V d0 c) (e:∀v,d0[3]? = some v->Cap v) (G:Glob V) (f:Tabs V) (N:Mem V K w) :
  Calls prog 5 #[.agg d0.toArray] w (fun ee w'=>ee=.returned (.bool true)/\Mem V K w'):=by
 obtain ⟨B,c4,C,n,u,p,y,c22,rfl,z,A,q,r,s,t,g,j,h,k,i,l⟩:=RCore.fm b
 have d:=e
 refine zM func5 ntmps5 fun Q hQ a J=>?_
 refine Bx fun m w N a J=>?_
 refine zS call23 (fun w N a J=>?_) (c:=q7a b G f N)
 refine zS call24 (fun w N a J=>?_) (c:=j8l b d N)
 refine zS call18 (fun w N a J=>?_) (c:=sane_ok G f N)
 refine Qq (fun a J=>?_) (o:=by exact fun J O=>y6m true J rfl rfl (decide_eq_true rfl))
 refine Qq (fun a J=>?_) (o:=by exact fun J O=>vI true J rfl rfl (decide_eq_true rfl))
 refine zF ?_
 replace N:=N.dl [0]
 exact ⟨by rfl,N⟩
end Go.Sw
