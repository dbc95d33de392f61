import Derived.Test.YtghdfphedgcpdaaGreatDoorY13
set_option linter.unusedVariables false
set_option linter.unusedSimpArgs false
namespace Go.Sw
open Go.Proofs Go.Proofs.Tryz
set_option maxRecDepth 20000
set_option maxHeartbeats 4000000
section
variable {Φ:Fz} {K:List Res} {w:World}
theorem z4i {d0:List Value} {c:Core} {name:Bs} (l:RCore Φ d0 c) (N:Mem Φ K w) :
  Calls prog 110 #[.agg d0.toArray,.string name] w (fun ee w'=>∃y:Fz×List Value,ee=.returned (.tuple #[.agg y.2.toArray,.bool (qR c.datas name).isSome])/\(Φ.Le y.1/\RData y.1 y.2 ((qR c.datas name).getD uY))/\Mem y.1 K w'):=by
 obtain ⟨p3,c4,p9,c0,j0,e0,k0,c22,rfl,v,h8,g0,h0,i0,C,L,U,M,V,P,W⟩:=RCore.fm l
 refine zL func110 ntmps110 fun Q hQ a J=>?_
 refine Bx fun a0 w N a J=>?_
 refine Alc fun b0 w N a J=>?_
 by_cases n:name=(⟨#[66,111,111,108]⟩:Bs)
 refine yO call151 (fun F w q N a J=>?_) (c:=y0a N)
 obtain ⟨t,f0⟩:=F
 obtain ⟨b,e⟩:=q
 simp only at b e N J
 replace v:=v.up b
 replace l:=RCore.mono _ _ _ _ b l
 replace N:=N.nf
 obtain ⟨m0,rfl,z⟩:=id e
 obtain ⟨D,u,rfl,S,X⟩:=z.fm
 refine Sto 0 fun w N a J=>?_
 refine go fun a J=>?_
 have d:=N
 replace N:=N.dl [1,0]
 refine hQ _ _ _ (j3l (i:=0) (cs:=[.string truthsD.name,.slice D truthsD.cons.length u]) J d.toSees results110 rfl rfl isAgg126 sizeOf126 rfl rfl ?_)
 have m:=show qR c.datas name=some truthsD from if_pos n
 rw [m];exact ⟨(t,_),rfl,⟨b,e⟩,N⟩
 refine go fun a J=>?_
 refine zU (J.ks [1,2,4]) N (fun R mm a w=>∃(i:Nat),mm=c.datas.length - i/\R Φ [(6,.int .i64 i)] [] a w/\(¬name=kV/\vB c.datas name=vB (c.datas.drop i) name)) (c.datas.length - 0) ⟨0,rfl,⟨J.pk,N⟩,⟨n,rfl⟩⟩ ?_
 clear N J
 rintro mm a w ⟨i,B,⟨J,N⟩,r⟩ Z s
 obtain ⟨j,k⟩:=r
 by_cases o:i < c.datas.length
 refine go fun a J=>?_
 obtain ⟨l0,rfl,f,h,G,I,H,g⟩:=v.el C o
 obtain ⟨n0,rfl,A⟩:=id g
 obtain ⟨E,c63,rfl,T,Y⟩:=A.fm
 by_cases p:f.name=name
 refine Sto 0 fun w N a J=>?_
 refine go fun a J=>?_
 have d:=N
 replace N:=N.dl [1,0]
 refine hQ _ _ _ (j3l (i:=0) (cs:=[.string f.name,.slice E f.cons.length c63]) J d.toSees results110 rfl rfl isAgg126 sizeOf126 rfl rfl ?_)
 have m:=show qR c.datas name=some f by rw [qR,if_neg j,k,zA h,vB,if_pos p]
 rw [m];exact ⟨(Φ,_),rfl,⟨Fz.Le.refl _,g⟩,N⟩
 refine go fun a J=>?_
 refine s _ _ _ (by subst B;omega) ⟨(i+1),rfl,⟨J.pk,N⟩,?_⟩
 exact ⟨j,by rw [k,zA h,vB,if_neg p]⟩
 refine qO fun a J=>?_
 refine Sto 0 fun w N a J=>?_
 refine go fun a J=>?_
 have d:=N
 replace N:=N.dl [1,0]
 refine hQ _ _ _ (j3l (i:=0) (cs:=[.string ⟨#[]⟩,.slice none 0 0]) J d.toSees results110 rfl rfl isAgg126 sizeOf126 rfl rfl ?_)
 have m:=show qR c.datas name=none by rw [qR,if_neg j,k,zB o,vB]
 rw [m];exact ⟨(Φ,_),rfl,⟨Fz.Le.refl _,⟨_,rfl,SliceOf.nil 2⟩⟩,N⟩
theorem z4o {d0:List Value} {c:Core} {name:Bs} (d:RCore Φ d0 c) (N:Mem Φ K w) :
  Calls prog 78 #[.agg d0.toArray,.string name] w (fun ee w'=>ee=.returned (.bool (jZ c.datas name))/\Mem Φ K w'):=by
 obtain ⟨P,c4,R,y,F,z,G,c22,rfl,L,M,B,C,D,E,k,p,l,q,m,r⟩:=RCore.fm d
 refine zL func78 ntmps78 fun Q hQ a J=>?_
 refine Bx fun u w N a J=>?_
 refine yO call110 (fun i w g N a J=>?_) (c:=z4i d N)
 obtain ⟨t,A⟩:=i
 obtain ⟨b,e⟩:=g
 simp only at b e N J
 replace d:=RCore.mono _ _ _ _ b d
 replace N:=N.nf
 obtain ⟨I,rfl,h⟩:=id e
 obtain ⟨H,c37,rfl,n,s⟩:=h.fm
 refine Alc fun v w N a J=>?_
 refine Sto 0 fun w N a J=>?_
 refine go fun a J=>?_
 generalize j:(qR c.datas name).isSome=f at J
 cases f
 refine Qq (fun a J=>?_) (o:=by exact fun J O=>z7s J rfl rfl)
 refine zD ?_
 replace N:=N.le (b)
 replace N:=N.dl [1,0]
 exact zP N (by simp [jZ,yU, *] <;> rfl)
 refine zD ?_
 replace N:=N.le (b)
 replace N:=N.dl [1,0]
 exact zP N (by simp [jZ,yU, *] <;> rfl)
theorem z8l {d0:List Value} {c:Core} {name:Bs} (o:RCore Φ d0 c) (N:Mem Φ K w) :
  Calls prog 81 #[.agg d0.toArray,.string name] w (fun ee w'=>ee=.returned (.int .i64 (nB c.funs name))/\Mem Φ K w'):=by
 obtain ⟨p3,c4,p9,M,Z,P,a0,c22,rfl,h2,h8,k,U,X,Y,u,C,v,h,y,D⟩:=RCore.fm o
 refine zL func81 ntmps81 fun Q hQ a J=>?_
 refine Bx fun I w N a J=>?_
 refine go fun a J=>?_
 refine zU (J.ks [1,2]) N (fun R mm a w=>∃(i:Nat),mm=c.funs.length - i/\R Φ [(5,.int .i64 i)] [] a w/\(nH c.funs name=sA (c.funs.drop i) name i)) (c.funs.length - 0) ⟨0,rfl,⟨J.pk,N⟩,rfl⟩ ?_
 clear N J
 rintro mm a w ⟨i,n,⟨J,N⟩,b⟩ H g
 by_cases e:i < c.funs.length
 refine go fun a J=>?_
 obtain ⟨f0,rfl,p,d,q,t,r,j⟩:=k.el h e
 obtain ⟨g0,L,rfl,l,m⟩:=id j
 obtain ⟨b0,c46,rfl,z,E⟩:=l.fm
 obtain ⟨c0,S,e0,T,rfl,s,V,W,A,F,B,G⟩:=REx.fm m
 by_cases f:p.name=name
 refine zD ?_
 replace N:=N.dl [0]
 exact pY N (by rw [nB,b,zA d,sA,if_pos f])
 refine go fun a J=>?_
 refine g _ _ _ (by subst n;omega) ⟨(i+1),rfl,⟨J.pk,N⟩,?_⟩
 rw [b,zA d,sA,if_neg f]
 refine zD ?_
 replace N:=N.dl [0]
 exact pY N (by rw [nB,b,zB e,sA])
theorem j8h {d0:List Value} {c:Core} {name:Bs} (p:RCore Φ d0 c) (k0:c.datas.length<=1000) (N:Mem Φ K w) :
  Calls prog 113 #[.agg d0.toArray,.string name] w (fun ee w'=>∃y:Fz×List Value,ee=.returned (.tuple #[.agg y.2.toArray,.string (((nU c.datas name).map Maker.data).getD sNo),.bool (nU c.datas name).isSome])/\(Φ.Le y.1/\RCon y.1 y.2 (((nU c.datas name).map Maker.con).getD y0t))/\Mem y.1 K w'):=by
 obtain ⟨p3,c4,p9,D0,L0,E0,M0,c22,rfl,W,h8,H0,I0,J0,K0,l0,s0,m0,t0,n0,u0⟩:=RCore.fm p
 refine zL func113 ntmps113 fun Q hQ a J=>?_
 refine Bx fun B0 w N a J=>?_
 refine Alc fun C0 w N a J=>?_
 refine go fun a J=>?_
 refine yI [0,0,1,2,0,1] (.q 2 (.q 3 (.e 0 (.e 1 (.e 4 (.q 5 (.done))))))) [0,1] J N fun w N=>?_
 refine yO call151 (fun b0 w I N a J=>?_) (c:=y0a N)
 obtain ⟨y0,G0⟩:=b0
 obtain ⟨f,d⟩:=I
 simp only at f d N J
 replace W:=W.up f
 replace p:=RCore.mono _ _ _ _ f p
 replace N:=N.nf
 obtain ⟨S0,rfl,X⟩:=id d
 obtain ⟨N0,c38,rfl,o0,w0⟩:=X.fm
 refine jQ fun V0 w N a J=>?_
 obtain ⟨c0,s,b⟩:=id W
 refine vH 0 rt_22 (fun W0 w N a J=>?_) (hr:=s.rowIn N.toSees) (h1:=b.ones RData.ones) (hb:=by have h_:=b.length;simp only [lcQ,lnQ];omega)
 refine go fun a J=>?_
 have u:=N
 clear N
 obtain ⟨l,g,N,t⟩:=u.freezeRow (i:=0) rfl
 clear u
 replace p:=RCore.mono _ _ _ _ g p
 replace d:=RData.mono _ _ _ _ g d
 replace b:=b.mono fun _ _ h=>RData.mono _ _ _ _ g h
 replace N:=N.nf
 have o:SliceOf RData l 2 _ (truthsD::c.datas):=⟨_,t,⟨_,_,rfl,rfl,d,b⟩⟩
 obtain ⟨O0,c53,Z,p0,P⟩:=o.form (by decide)
 have v:=N
 clear N
 subst Z
 have N:=v
 clear v
 refine go fun a J=>?_
 refine zU (J.ks [1,4,7]) N (fun R mm a w=>∃(i:Nat),mm=(truthsD::c.datas).length - i/\R l [(8,.int .i64 i)] [] a w/\(mT (truthsD::c.datas) name=mT ((truthsD::c.datas).drop i) name)) ((truthsD::c.datas).length - 0) ⟨0,rfl,⟨J.pk,N⟩,rfl⟩ ?_
 clear N J
 rintro mm a w ⟨i,D,⟨J,N⟩,m⟩ z0 L
 by_cases E:i < (truthsD::c.datas).length
 refine go fun a J=>?_
 obtain ⟨Q0,rfl,j,A,e0,i0,g0,T⟩:=o.el P E
 obtain ⟨T0,rfl,F⟩:=id T
 obtain ⟨P0,F0,rfl,q0,S⟩:=F.fm
 refine zU (J.ks [1,4,7,8]) N (fun R mm a w=>∃(k:Nat),mm=j.cons.length - k/\R l [(9,.int .i64 k)] [] a w/\(oY j.cons name=oY (j.cons.drop k) name)) (j.cons.length - 0) ⟨0,rfl,⟨J.pk,N⟩,rfl⟩ ?_
 clear N J
 rintro mm a w ⟨k,D,⟨J,N⟩,n⟩ A0 M
 by_cases G:k < j.cons.length
 refine go fun a J=>?_
 obtain ⟨R0,rfl,r,B,f0,j0,h0,z⟩:=F.el S G
 obtain ⟨U0,rfl,Y⟩:=id z
 obtain ⟨a0,U,rfl,r0,x0⟩:=Y.fm
 by_cases H:r.name=name
 refine Reg [1,1,1,1,2,1,1,2,1,1,1,1,2,0,1,1] [1] fun w N a J=>?_
 refine Sto 0 fun w N a J=>?_
 refine go fun a J=>?_
 have C:=N
 replace N:=N.dl [1,0]
 refine hQ _ _ _ (z9j (i:=0) (cs:=[.string r.name,.slice a0 r.fields.length U]) J C.toSees results113 rfl rfl isAgg128 sizeOf128 rfl rfl rfl ?_)
 have V:=show nU c.datas name=some ⟨j.name,r⟩ by show mT (truthsD::c.datas) name=_;rw [m,zA A,mT,show oY j.cons name=some r by rw [n,zA B,oY,if_pos H]]
 rw [V];exact ⟨(l,_),rfl,⟨(f).trans g,z⟩,N⟩
 refine go fun a J=>?_
 refine M _ _ _ (by subst D;omega) ⟨(k+1),rfl,⟨J.pk,N⟩,?_⟩
 rw [n,zA B,oY,if_neg H]
 refine go fun a J=>?_
 refine L _ _ _ (by subst D;omega) ⟨(i+1),rfl,⟨J.pk,N⟩,?_⟩
 rw [m,zA A,mT,show oY j.cons name=none by rw [n,zB G,oY]]
 refine qO fun a J=>?_
 refine Sto 0 fun w N a J=>?_
 refine go fun a J=>?_
 have C:=N
 replace N:=N.dl [1,0]
 refine hQ _ _ _ (z9j (i:=0) (cs:=[.string ⟨#[]⟩,.slice none 0 0]) J C.toSees results113 rfl rfl isAgg128 sizeOf128 rfl rfl rfl ?_)
 have V:=show nU c.datas name=none by show mT (truthsD::c.datas) name=_;rw [m,zB E,mT]
 rw [V];exact ⟨(l,_),rfl,⟨(f).trans g,⟨_,rfl,SliceOf.nil 1⟩⟩,N⟩
theorem z9z {name:Bs} {d:Data} {l:List Data} (h:¬d.name=name):wL name (d::l)=wL name l/\kG name (d::l)=kG name l:=by
 simp only [wL,kG,List.any_cons,List.filter_cons,h,decide_false,Bool.false_and,Bool.false_or,Bool.false_eq_true,if_false,and_self]
theorem z1c {name:Bs} {d:Data} {l:List Data} (h:d.name=name):wL name (d::l)=(mQ name d.cons || wL name l)/\kG name (d::l)=kG name l+1:=by
 simp only [wL,kG,List.any_cons,List.filter_cons,h,decide_true,Bool.true_and,if_true,lcQ,and_self]
theorem z5s (name:Bs) (x:Con) (l:List Con):mQ name (x::l)=(x.fields.any (inF name) || mQ name l):=rfl
theorem j1y {ds:List Data} {name:Bs} (a:¬name=yU) (h:wL name ds=true):xM ds name=false:=by rw [xM,if_neg a,h];rfl
theorem y5h {ds:List Data} {name:Bs} {n:Nat} (a:¬name=yU) (h:wL name ds=false) (h1:kG name ds=n):xM ds name=(decide (n=1) && !decide (name=kV)):=by rw [xM,if_neg a,h,h1];rfl
theorem y1j {d0:List Value} {c:Core} {name:Bs} (T:RCore Φ d0 c) (N:Mem Φ K w) :
  Calls prog 76 #[.agg d0.toArray,.string name] w (fun ee w'=>ee=.returned (.bool (xM c.datas name))/\Mem Φ K w'):=by
 obtain ⟨p3,c4,p9,p0,B0,q0,C0,c22,rfl,h2,h8,s0,u0,A0,S,c0,i0,e0,j0,f0,k0⟩:=RCore.fm T
 refine zL func76 ntmps76 fun Q hQ a J=>?_
 refine Bx fun o0 w N a J=>?_
 by_cases A:name=(⟨#[73,110,116]⟩:Bs)
 refine zD ?_
 replace N:=N.dl [0]
 exact zP N (by rw [xM];exact (if_pos A).symm)
 refine go fun a J=>?_
 refine zU (J.ks [1,2]) N (fun R mm a w=>∃(i:Nat) (n:Nat),mm=c.datas.length - i/\R Φ [(5,.int .i64 n),(6,.int .i64 i)] [] a w/\(¬name=yU/\n<=i/\wL name c.datas=wL name (c.datas.drop i)/\kG name c.datas=n+kG name (c.datas.drop i))) (c.datas.length - 0) ⟨0,0,rfl,⟨J.pk,N⟩,⟨A,Nat.le_refl _,rfl,by rw [Nat.zero_add];rfl⟩⟩ ?_
 clear N J
 rintro mm a w ⟨i,n,e,⟨J,N⟩,F⟩ l0 u
 obtain ⟨p,z0,q,t⟩:=F
 by_cases h:i < c.datas.length
 refine go fun a J=>?_
 obtain ⟨F0,rfl,d,b,U,Z,W,L⟩:=h2.el S h
 obtain ⟨I0,rfl,B⟩:=id L
 obtain ⟨D0,r0,rfl,g0,H⟩:=B.fm
 by_cases l:d.name=name
 refine go fun a J=>?_
 refine zU (J.ks [1,2,5,6]) N (fun R mm a w=>∃(k:Nat),mm=d.cons.length - k/\R Φ [(7,.int .i64 k)] [] a w/\(mQ name d.cons=mQ name (d.cons.drop k))) (d.cons.length - 0) ⟨0,rfl,⟨J.pk,N⟩,rfl⟩ ?_
 clear N J
 rintro mm a w ⟨k,e,⟨J,N⟩,m⟩ m0 G
 by_cases C:k < d.cons.length
 refine go fun a J=>?_
 obtain ⟨G0,rfl,f,y,V,a0,X,M⟩:=B.el H C
 obtain ⟨J0,rfl,D⟩:=id M
 obtain ⟨E0,c75,rfl,h0,I⟩:=D.fm
 refine go fun a J=>?_
 refine zU (J.ks [1,2,5,6,7,8]) N (fun R mm a w=>∃(j:Nat),mm=f.fields.length - j/\R Φ [(9,.int .i64 j)] [] a w/\(f.fields.any (inF name)=(f.fields.drop j).any (inF name))) (f.fields.length - 0) ⟨0,rfl,⟨J.pk,N⟩,rfl⟩ ?_
 clear N J
 rintro mm a w ⟨j,e,⟨J,N⟩,g⟩ n0 v
 by_cases E:j < f.fields.length
 refine go fun a J=>?_
 obtain ⟨H0,rfl,s,r,z,b0,Y,P⟩:=D.el I E
 obtain rfl:z=[.string s]:=P
 by_cases w0:s=(⟨#[73,110,116]⟩:Bs)
 refine go fun a J=>?_
 refine v _ _ _ (by subst e;omega) ⟨(j+1),rfl,⟨J.pk,N⟩,?_⟩
 rw [g,zA r,List.any_cons,show inF name s=false by simp [inF,yU, *],Bool.false_or]
 by_cases x0:s=name
 refine go fun a J=>?_
 refine v _ _ _ (by subst e;omega) ⟨(j+1),rfl,⟨J.pk,N⟩,?_⟩
 rw [g,zA r,List.any_cons,show inF name s=false by simp [inF,yU, *],Bool.false_or]
 refine zD ?_
 replace N:=N.dl [0]
 exact zP N (by exact (j1y p (by rw [q,zA b,(z1c l).1,show mQ name d.cons=true by rw [m,zA y,z5s,show f.fields.any (inF name)=true by rw [g,zA r,List.any_cons];simp [inF,yU, *]];rfl];rfl)).symm)
 refine go fun a J=>?_
 refine G _ _ _ (by subst e;omega) ⟨(k+1),rfl,⟨J.pk,N⟩,?_⟩
 rw [m,zA y,z5s,show f.fields.any (inF name)=false by rw [g,zB E];rfl,Bool.false_or]
 refine go fun a J=>?_
 refine u _ _ _ (by subst e;omega) ⟨(i+1),((n+1)),rfl,⟨J.pk,N⟩,?_⟩
 exact ⟨p,by omega,by rw [q,zA b,(z1c l).1,show mQ name d.cons=false by rw [m,zB C];rfl,Bool.false_or],by rw [t,zA b,(z1c l).2];omega⟩
 refine go fun a J=>?_
 refine u _ _ _ (by subst e;omega) ⟨(i+1),(n),rfl,⟨J.pk,N⟩,?_⟩
 exact ⟨p,by omega,by rw [q,zA b,(z9z l).1],by rw [t,zA b,(z9z l).2]⟩
 by_cases y0:n=1
 refine Qq (fun a J=>?_) (o:=by exact fun J O=>j7x J rfl rfl)
 refine zD ?_
 replace N:=N.dl [0]
 rotate_left
 refine zD ?_
 replace N:=N.dl [0]
 rotate_left
 all_goals (exact zP N (by rw [y5h (n:=n) p (by rw [q,zB h];rfl) (by rw [t,zB h];rfl)];simp [kV, *] <;> rfl))
theorem j3f {d0:List Value} {e:Ex} (b:REx Φ d0 e) (N:Mem Φ K w) :
  Calls prog 73 #[.agg d0.toArray,.int .i64 ((0:Nat):Int)] w (fun ee w'=>ee=.returned (.bool (xS 0 e))/\Mem Φ K w'):=by
 obtain ⟨m,c4,n,h,rfl,c,k,l,i,j,d,f⟩:=REx.fm b
 refine zL func73 ntmps73 fun Q hQ a J=>?_
 refine Bx fun g w N a J=>?_
 refine Qq (fun a J=>?_) (o:=by exact fun J O=>vO true J rfl rfl rfl)
 refine zD ?_
 replace N:=N.dl [0]
 exact zP N (by rw [y3v])
theorem j3e {d0:List Value} {e:Ex} {m:Nat} (I:REx Φ d0 e) (A0:m < 100000) (ih:∀{Φ:Fz} {K:List Res} {w:World} {d:List Value} {e:Ex},REx Φ d e->Mem Φ K w->Calls prog 73 #[.agg d.toArray,.int .i64 m] w (fun ee w'=>ee=.returned (.bool (xS m e))/\Mem Φ K w')) (N:Mem Φ K w) :
  Calls prog 73 #[.agg d0.toArray,.int .i64 ((m+1:Nat):Int)] w (fun ee w'=>ee=.returned (.bool (xS (m+1) e))/\Mem Φ K w'):=by
 obtain ⟨p3,c4,p9,o0,rfl,S,h2,h8,z0,F,X,z⟩:=REx.fm I
 refine zL func73 ntmps73 fun Q hQ a J=>?_
 refine Bx fun m0 w N a J=>?_
 by_cases D:m+1=0
 refine zD ?_
 replace N:=N.dl [0]
 exact zP N (by exact absurd D (by omega))
 refine go fun a J=>?_
 refine zU (J.ks [1,2]) N (fun R mm a w=>∃(i:Nat),mm=e.args.length - i/\R Φ [(5,.int .i64 i)] [] a w/\(xS (m+1) e=((e.args.drop i).any (xS m) || e.arms.any fun a=>xS m a.body))) (e.args.length - 0) ⟨0,rfl,⟨J.pk,N⟩,by rw [z4l];rfl⟩ ?_
 clear N J
 rintro mm a w ⟨i,q,⟨J,N⟩,g⟩ k0 u
 by_cases r:i < e.args.length
 refine go fun a J=>?_
 obtain ⟨E0,rfl,H0,n,L,V,P,l⟩:=h2.el F r
 obtain ⟨B0,p0,C0,q0,rfl,T,t0,u0,Y,e0,Z,f0⟩:=REx.fm l
 refine Qq (fun a J=>?_) (o:=by exact fun J O=>wG ((m:Nat):Int) J rfl rfl (by rw [jI (by omega)];omega))
 refine yH call73 (fun b w N a J=>?_) (fun b w N a J=>?_) (c:=ih l N)
 refine zD ?_
 replace N:=N.dl [0]
 exact zP N (by rw [g,zA n,List.any_cons,b];rfl)
 refine go fun a J=>?_
 refine u _ _ _ (by subst q;omega) ⟨(i+1),rfl,⟨J.pk,N⟩,?_⟩
 rw [g,zA n,List.any_cons,b,Bool.false_or]
 refine go fun a J=>?_
 refine zU (J.ks [1,2]) N (fun R mm a w=>∃(j:Nat),mm=e.arms.length - j/\R Φ [(6,.int .i64 j)] [] a w/\(xS (m+1) e=(e.arms.drop j).any fun a=>xS m a.body)) (e.arms.length - 0) ⟨0,rfl,⟨J.pk,N⟩,by rw [g,zB r];rfl⟩ ?_
 clear N J
 rintro mm a w ⟨j,q,⟨J,N⟩,h⟩ l0 v
 by_cases s:j < e.arms.length
 refine go fun a J=>?_
 obtain ⟨F0,rfl,k,p,M,W,y,A⟩:=h8.el z s
 obtain ⟨G0,n0,rfl,E,t⟩:=RArm.iff.1 A
 obtain ⟨D0,r0,rfl,a0,g0⟩:=E.fm
 obtain ⟨G,B,H,C,rfl,U,w0,y0,b0,h0,c0,i0⟩:=REx.fm t
 refine Qq (fun a J=>?_) (o:=by exact fun J O=>vK 2 (vs:=[.int .i64 (k.body.kind),.int .i64 (k.body.num),.string k.body.name,.slice G k.body.args.length B,.slice H k.body.arms.length C]) J O rfl y isAgg110 sizeOf110 rfl rfl)
 refine Qq (fun a J=>?_) (o:=by exact fun J O=>wG ((m:Nat):Int) J rfl rfl (by rw [jI (by omega)];omega))
 refine yH call73 (fun f w N a J=>?_) (fun f w N a J=>?_) (c:=ih t N)
 refine zD ?_
 replace N:=N.dl [0]
 exact zP N (by rw [h,zA p,List.any_cons,f];rfl)
 refine go fun a J=>?_
 refine v _ _ _ (by subst q;omega) ⟨(j+1),rfl,⟨J.pk,N⟩,?_⟩
 rw [h,zA p,List.any_cons,f,Bool.false_or]
 refine zD ?_
 replace N:=N.dl [0]
 exact zP N (by rw [h,zB s];rfl)
theorem x7z {m:Nat} (a:m < 100000):∀{Φ:Fz} {K:List Res} {w:World} {d:List Value} {e:Ex},REx Φ d e->Mem Φ K w->Calls prog 73 #[.agg d.toArray,.int .i64 m] w (fun ee w'=>ee=.returned (.bool (xS m e))/\Mem Φ K w'):=by
 induction m with
 | zero=>intro Φ K w d e re N;exact j3f re N
 | succ m b=>intro Φ K w d e re N;exact j3e re (by omega) (fun r h=>b (by omega) r h) N
theorem j3s {d0:List Value} {e:Ex} {most:Nat} (Z:REx Φ d0 e) (h1:most<=1000000) (ih:∀x:Ex,x.sz < e.sz->∀{Φ:Fz} {K:List Res} {w:World} {d:List Value} {most:Nat},most<=1000000->REx Φ d x->Mem Φ K w->Calls prog 107 #[.agg d.toArray,.int .i64 (most:Int)] w (fun ee w'=>ee=.returned (.int .i64 ((xG x most:Nat):Int))/\Mem Φ K w')) (N:Mem Φ K w) :
  Calls prog 107 #[.agg d0.toArray,.int .i64 (most:Int)] w (fun ee w'=>ee=.returned (.int .i64 (((xG e most:Nat):Int)))/\Mem Φ K w'):=by
 obtain ⟨p3,c4,p9,u,rfl,e0,h2,h8,N0,W,j0,H⟩:=REx.fm Z
 refine zL func107 ntmps107 fun Q hQ a J=>?_
 refine Bx fun s w N a J=>?_
 refine goJ 6 fun a J=>?_
 refine sq fun L C=>?_
 have p:∀a w,(∃(n:Nat),EnvR 66 [(1,.int .i64 most),(2,.pointer (some ⟨s,0,none⟩)),(5,.int .i64 n)] [] a/\Mem Φ (.blk s (ob [.int .i64 (e.kind),.int .i64 (e.num),.string e.name,.slice p3 e.args.length c4,.slice p9 e.arms.length u] 110)::K) w/\(1<=n/\n<=most+1/\xG e most=sizeAr e.arms most n))->L a w:=by
  clear N J
  rintro a w ⟨n,J,N,y⟩
  apply C
  obtain ⟨h,k,b⟩:=y
  refine sq fun M D=>?_
  have q:∀a w,(∃(n:Nat),EnvR 66 [(5,.int .i64 n)] [] a/\Mem Φ (.blk s (ob [.int .i64 (e.kind),.int .i64 (e.num),.string e.name,.slice p3 e.args.length c4,.slice p9 e.arms.length u] 110)::K) w/\(xG e most=n))->M a w:=by
   clear N J
   rintro a w ⟨n,J,N,z⟩
   apply D
   refine zD ?_
   replace N:=N.dl [0]
   exact pY N (by rw [z])
  refine go fun a J=>?_
  refine zU (J.ks [1,2]) N (fun R mm a w=>∃(j:Nat) (n:Nat),mm=e.arms.length - j/\R Φ [(5,.int .i64 n),(7,.int .i64 j)] [] a w/\(1<=n/\n<=most+1/\xG e most=sizeAr (e.arms.drop j) most n)) (e.arms.length - 0) ⟨0,n,rfl,⟨J.pk,N⟩,⟨h,k,b⟩⟩ ?_
  clear N J
  rintro mm a w ⟨j,n,t,⟨J,N⟩,A⟩ y0 E
  clear h k b
  obtain ⟨h,k,b⟩:=A
  by_cases T:j < e.arms.length
  by_cases F0:n<=most
  refine go fun a J=>?_
  obtain ⟨R0,rfl,f,g,a0,h0,G,I⟩:=h8.el H T
  obtain ⟨T0,A0,rfl,U,v⟩:=RArm.iff.1 I
  obtain ⟨O0,B0,rfl,k0,p0⟩:=U.fm
  obtain ⟨X,P,Y,S,rfl,f0,G0,H0,l0,q0,m0,r0⟩:=REx.fm v
  by_cases I0:16 < f.vars.length
  refine zD ?_
  replace N:=N.dl [0]
  exact pY N (by rw [b,zA g,z2i,if_pos (by omega),if_pos (by omega)])
  refine Qq (fun a J=>?_) (o:=by exact fun J O=>vK 2 (vs:=[.int .i64 (f.body.kind),.int .i64 (f.body.num),.string f.body.name,.slice X f.body.args.length P,.slice Y f.body.arms.length S]) J O rfl G isAgg110 sizeOf110 rfl rfl)
  refine Qq (fun a J=>?_) (o:=by exact fun J O=>wG ((most - n:Nat):Int) J rfl rfl (by rw [jI (by omega)];omega))
  refine zT call107 (fun w N a J=>?_) (c:=ih _ (by first | exact Ex.lt_args (mgQ g) | exact Ex.lt_arms (mgQ g)) (by omega) v N)
  refine Qq (fun a J=>?_) (o:=by exact fun J O=>z7r ((n+(xG f.body (most - n)):Nat):Int) J rfl rfl (by have h_:=mM f.body (most - n);rw [jI (by omega)];omega))
  refine go fun a J=>?_
  refine E _ _ _ (by subst t;omega) ⟨(j+1),(n+(xG f.body (most - n))),rfl,⟨J.pk,N⟩,?_⟩
  have h_:=mM f.body (most - n);exact ⟨by omega,by omega,by rw [b,zA g,z2i,if_pos (by omega),if_neg (by omega)]⟩
  rotate_left
  rotate_left
  all_goals (refine go fun a J=>?_;exact q _ _ ⟨n,J.pk,N,by rw [b,y7u (by omega)]⟩)
 refine go fun a J=>?_
 refine zU (J.ks [1,2]) N (fun R mm a w=>∃(i:Nat) (n:Nat),mm=e.args.length - i/\R Φ [(5,.int .i64 n),(6,.int .i64 i)] [] a w/\(1<=n/\n<=most+1/\xG e most=sizeAr e.arms most (sizeRs (e.args.drop i) most n))) (e.args.length - 0) ⟨0,1,rfl,⟨J.pk,N⟩,⟨by omega,by omega,x8x e most⟩⟩ ?_
 clear N J
 rintro mm a w ⟨i,n,t,⟨J,N⟩,B⟩ z0 F
 obtain ⟨h,k,b⟩:=B
 by_cases V:i < e.args.length
 by_cases J0:n<=most
 refine go fun a J=>?_
 obtain ⟨S0,rfl,m,l,b0,i0,c0,r⟩:=h2.el W V
 obtain ⟨P0,C0,Q0,D0,rfl,g0,L0,M0,n0,s0,o0,t0⟩:=REx.fm r
 refine Qq (fun a J=>?_) (o:=by exact fun J O=>wG ((most - n:Nat):Int) J rfl rfl (by rw [jI (by omega)];omega))
 refine zT call107 (fun w N a J=>?_) (c:=ih _ (by first | exact Ex.lt_args (mgQ l) | exact Ex.lt_arms (mgQ l)) (by omega) r N)
 refine Qq (fun a J=>?_) (o:=by exact fun J O=>z7r ((n+(xG m (most - n)):Nat):Int) J rfl rfl (by have h_:=mM m (most - n);rw [jI (by omega)];omega))
 refine go fun a J=>?_
 refine F _ _ _ (by subst t;omega) ⟨(i+1),(n+(xG m (most - n))),rfl,⟨J.pk,N⟩,?_⟩
 have h_:=mM m (most - n);exact ⟨by omega,by omega,by rw [b,zA l,q9s,if_pos (by omega)]⟩
 rotate_left
 rotate_left
 all_goals (refine go fun a J=>?_;exact p _ _ ⟨n,J.pk,N,⟨h,k,by rw [b,y7v (by omega)]⟩⟩)
theorem x8f {d:List Value} {e:Ex} {most:Nat} (h1:most<=1000000) (re:REx Φ d e) (N:Mem Φ K w) :
  Calls prog 107 #[.agg d.toArray,.int .i64 (most:Int)] w (fun ee w'=>ee=.returned (.int .i64 ((xG e most:Nat):Int))/\Mem Φ K w'):=by
 suffices H:∀n (e:Ex),e.sz < n->∀{Φ:Fz} {K:List Res} {w:World} {d:List Value} {most:Nat},most<=1000000->REx Φ d e->Mem Φ K w->Calls prog 107 #[.agg d.toArray,.int .i64 (most:Int)] w (fun ee w'=>ee=.returned (.int .i64 ((xG e most:Nat):Int))/\Mem Φ K w') from H _ e (Nat.lt_succ_self _) h1 re N
 intro n
 induction n with
 | zero=>intro e h;omega
 | succ n b=>intro e h Φ K w d most h1 re N;exact j3s re h1 (fun x c _ _ _ _ _ a r m=>b x (by omega) a r m) N
theorem y4t (l:List Bs) (s:Bs):has l s=dA l s:=rfl
theorem gC {v0:Value} {l:List Bs} (e:SliceOf RStr Φ 1 v0 l) (k:Cap v0) (N:Mem Φ K w) :
  Calls prog 77 #[v0] w (fun ee w'=>ee=.returned (.bool (cJ l))/\Mem Φ K w'):=by
 obtain ⟨p0,c0,rfl,y,t⟩:=e.fm
 have r:=k _ _ _ rfl
 refine zL func77 ntmps77 fun Q hQ a J=>?_
 refine go fun a J=>?_
 refine zU (J.ks [0]) N (fun R mm a w=>∃(i:Nat),mm=l.length - i/\R Φ [(3,.int .i64 i)] [] a w/\(cJ l=pT z3x (l.take i) (l.drop i))) (l.length - 0) ⟨0,rfl,⟨J.pk,N⟩,by rfl⟩ ?_
 clear N J
 rintro mm a w ⟨i,s,⟨J,N⟩,d⟩ A q
 by_cases p:i < l.length
 refine Reg [1,1,1,2,0,1,1,1,1,1,1,1,1,1,2,0,1] [] fun w N a J=>?_
 refine go fun a J=>?_
 obtain ⟨z,rfl,f,b,g,v,u,m⟩:=e.el t p
 obtain rfl:g=[.string f]:=m
 refine yH call109 (fun h w N a J=>?_) (fun h w N a J=>?_) (c:=j9y N)
 have n:=q9t e p
 refine Qq (fun a J=>?_) (o:=by exact fun J O=>q5l J rfl rfl rfl runUnderlying25 sizeOf9 (by omega))
 refine yH call18 (fun j w N a J=>?_) (fun j w N a J=>?_) (c:=y2s n N)
 refine zD ?_
 exact zP N (by rw [d,zA b,pT];simp [y4t, *])
 refine go fun a J=>?_
 refine q _ _ _ (by subst s;omega) ⟨(i+1),rfl,⟨J.pk,N⟩,?_⟩
 rw [d,zA b,pT,jM b,show (z3x f && !has (l.take i) f)=true by simp [y4t, *]];rfl
 refine zD ?_
 exact zP N (by rw [d,zA b,pT];simp [y4t, *])
 refine zD ?_
 exact zP N (by rw [d,zB p];rfl)
end
theorem pB {b:Bool} (h:(!b)=false):b=true:=by cases b;cases h;rfl
theorem x7o {α:Type} {o:Option α} (h:o.isSome=false):o=none:=by cases o;rfl;cases h
theorem pA {b:Bool} (h:(!b)=true):b=false:=by cases b;rfl;cases h
theorem j1h {Φ:Fz} {K:List Res} {w:World} {d0:List Value} {c:Core} {v1:Value} {vars:List Param} {d2:List Value} {e:Ex} (t:RCore Φ d0 c) (m:SliceOf RParam Φ 2 v1 vars) (S:REx Φ d2 e) (hL:Lim c) (O:dW e) (hb:vars.length+(zN e).length<=1000000) (ih:∀x:Ex,x.sz < e.sz->∀{Φ:Fz} {K:List Res} {w:World} {d0:List Value} {v1:Value} {vars:List Param} {d2:List Value},RCore Φ d0 c->SliceOf RParam Φ 2 v1 vars->REx Φ d2 x->dW x->vars.length+(zN x).length<=1000000->Mem Φ K w->Calls prog 80 #[.agg d0.toArray,v1,.agg d2.toArray] w (fun ee w'=>ee=.returned (.tuple #[.string (zS c x vars).1,.bool (zS c x vars).2])/\Mem Φ K w')) (N:Mem Φ K w) :
  Calls prog 112 #[.agg d0.toArray,v1,.agg d2.toArray] w (fun ee w'=>ee=.returned (.tuple #[.string (nG c e vars).1,.bool (nG c e vars).2])/\Mem Φ K w'):=by
 obtain ⟨p3,c4,p9,i2,F2,j2,G2,c22,rfl,h2,h8,p2,q2,A2,C2,C1,K1,D1,L1,E1,M1⟩:=RCore.fm t
 obtain ⟨p1,c1,rfl,z2,B2⟩:=m.fm
 obtain ⟨H2,k2,I2,l2,rfl,z1,O0,h0,F1,E0,G1,F0⟩:=REx.fm S
 refine zL func112 ntmps112 fun Q hQ a J=>?_
 refine Bx fun c2 w N a J=>?_
 refine Bx fun e2 w N a J=>?_
 by_cases t2:e.args.length=1
 by_cases u2:e.name=(⟨#[]⟩:Bs)
 refine Reg [2,1,1,2,1,2,0,1,1,1,1,1] [0,1] fun w N a J=>?_
 have W:¬(e.args.length≠1∨e.name≠sNo):=by simp [sNo, *]
 refine go fun a J=>?_
 have C0:0 < e.args.length:=by omega
 obtain ⟨M2,rfl,V,q,r1,B1,A,r⟩:=O0.el E0 C0
 obtain ⟨J2,m2,K2,c63,rfl,A1,v2,w2,H1,N1,I1,O1⟩:=REx.fm r
 refine zT call80 (fun w N a J=>?_) (c:=ih _ (Ex.lt_args (mgQ q)) t m r ((aJ O).2.1 _ (mgQ q)) (by have h_:=tA (mgQ q);omega) N)
 refine yO call110 (fun h1 w B0 N a J=>?_) (c:=z4i t N)
 obtain ⟨E,o2⟩:=h1
 obtain ⟨h,C⟩:=B0
 simp only at h C N J
 replace t:=RCore.mono _ _ _ _ h t
 replace m:=m.up h
 replace h0:=h0.up h
 replace S:=REx.mono _ _ _ _ h S
 replace A:=A.mono h
 replace r:=REx.mono _ _ _ _ h r
 replace N:=N.nf
 obtain ⟨O2,rfl,z0⟩:=id C
 obtain ⟨L2,n2,rfl,J1,G0⟩:=z0.fm
 refine Alc fun f2 w N a J=>?_
 refine Sto 0 fun w N a J=>?_
 refine go fun a J=>?_
 generalize x1:(!((zS c V vars).2))=t0 at J
 cases t0
 refine go fun a J=>?_
 generalize y1:(!(qR c.datas ((zS c V vars).1)).isSome)=u0 at J
 cases u0
 by_cases x2:((qR c.datas ((zS c V vars).1)).getD uY).cons.length=e.arms.length
 refine go fun a J=>?_
 have D0:=x3h (c:=c) (vars:=vars) W q (by first | assumption | exact pB (by assumption) | exact pA (by assumption)) (by first | assumption | exact pB (by assumption) | exact pA (by assumption)) (by omega)
 refine go fun a J=>?_
 refine zU (J.ks [1,3,5,10]) N (fun R mm a w=>∃(i:Nat) (o:Bs),mm=e.arms.length - i/\R E [(12,.string o),(13,.int .i64 i)] [] a w/\(nG c e vars=armsR c (e.arms.drop i) (((qR c.datas ((zS c V vars).1)).getD uY).cons.drop i) (decide (i=0)) o vars)) (e.arms.length - 0) ⟨0,sNo,rfl,⟨J.pk,N⟩,D0⟩ ?_
 clear N J
 rintro mm a w ⟨i,o,X,⟨J,N⟩,p⟩ b2 a0
 by_cases A0:i < e.arms.length
 refine go fun a J=>?_
 obtain ⟨N2,rfl,d,j,L0,T0,G,v⟩:=h0.el F0 A0
 obtain ⟨Y1,j1,rfl,Y,z⟩:=RArm.iff.1 v
 obtain ⟨Q1,l1,rfl,X0,m0⟩:=Y.fm
 obtain ⟨R1,m1,S1,n1,rfl,S0,s1,t1,Y0,d1,Z0,e1⟩:=REx.fm z
 refine Alc fun k1 w N a J=>?_
 refine Sto 0 fun w N a J=>?_
 refine Reg [1,2,1,2,1,1,1,2,1,1,1,2,1,1,2,1,1,1,2,1,1,1] [0,1,2,3] fun w N a J=>?_
 refine go fun a J=>?_
 have k0:i < ((qR c.datas ((zS c V vars).1)).getD uY).cons.length:=by omega
 obtain ⟨V1,rfl,f,n,M0,U0,H,y⟩:=z0.el G0 k0
 obtain ⟨Z1,rfl,Z⟩:=id y
 obtain ⟨T1,o1,rfl,a1,n0⟩:=Z.fm
 by_cases w0:d.con=f.name
 by_cases x0:d.vars.length=f.fields.length
 refine go fun a J=>?_
 have B:¬(d.con≠f.name∨d.vars.length≠f.fields.length):=fun g=>g.elim (fun g=>g w0) (fun g=>g x0)
 refine st J rfl rfl rfl (kL (sz:=2) (cs:=[]) J N rfl (z7w runUnderlying23 sizeOf36) rfl (by decide) fun v146 w N _ a J=>?_)
 refine go fun a J=>?_
 obtain ⟨F,M,s⟩:=id m
 refine st J rfl rfl rfl (kK 0 (xs:=[]) (news:=F) z3y J N rfl rfl rfl (M.rowIn N.toSees) (s.ones RParam.ones) (by intro n_ m_ H0 I0;have h_:=s.length;simp only [lnQ] at H0;omega) fun K0 w N a J=>?_)
 replace N:=N.nf
 refine go fun a J=>?_
 refine zU (J.ks [1,3,5,10,12,13,14]) N (fun R mm a w=>∃(k:Nat) (u:Value) (cs:List Value),mm=d.vars.length - k/\R E [(15,u),(16,.int .i64 k)] [(0,.gs (u) 36 2 cs)] a w/\(k<=d.vars.length/\Chunks (RParam E) 2 cs (vars++jR (d.vars.take k) (f.fields.take k)))) (d.vars.length - 0) ⟨0,K0,F,rfl,⟨J.pk,N⟩,⟨Nat.zero_le _,by simpa [jR] using s⟩⟩ ?_
 clear N J
 rintro mm a w ⟨k,u,cs,X,⟨J,N⟩,i0⟩ i1 j0
 replace N:=N.nf
 obtain ⟨y2,L⟩:=i0
 by_cases y0:k < d.vars.length
 refine Reg [1,1,2,1,1,2,1,2,1,1,1,2,1,1,2,1,0,0,1] [1,2,3,4] fun w N a J=>?_
 refine go fun a J=>?_
 obtain ⟨W1,rfl,T,q0,f0,V0,P0,o0⟩:=Y.el m0 y0
 obtain rfl:f0=[.string T]:=o0
 refine go fun a J=>?_
 have l0:k < f.fields.length:=by omega
 obtain ⟨X1,rfl,U,r0,g0,W0,Q0,p0⟩:=Z.el n0 l0
 obtain rfl:g0=[.string U]:=p0
 refine qO fun a J=>?_
 refine jQ fun a2 w N a J=>?_
 refine d_e J rfl rfl rfl (kK 1 (xs:=cs) (news:=[.string T,.string U]) z3y J N rfl rfl rfl (N.toSees.rowIn (i:=0) rfl) rfl (by intro n_ m_ H0 I0;have h_:=L.length;have s2:=q6a (mgQ j);rw [laQ] at h_;have r2:(jR (d.vars.take k) (f.fields.take k)).length<=k:=(by unfold jR;rw [List.length_map,List.length_zip,List.length_take];omega);simp only [lcQ,lnQ] at I0;omega) fun v175 w N=>⟨fun _=>N.sn (Fz.Le.refl _),fun a J=>?_⟩)
 replace N:=N.nf
 refine go fun a J=>?_
 replace N:=N.dl [0]
 refine j0 _ _ _ (by subst X;omega) ⟨(k+1),(v175),((cs++[.string T,.string U])),rfl,⟨J.pk,by exact N⟩,?_⟩
 exact ⟨by omega,by rw [j0k q0 r0,<- List.append_assoc];exact Chunks.snoc (R:=RParam E) (k:=2) (x:=(⟨_,_⟩:Param)) rfl rfl L⟩
 refine go fun a J=>?_
 have I:=L
 rw [List.take_of_length_le (l:=d.vars) (by omega),List.take_of_length_le (l:=f.fields) (by omega)] at I
 have b0:=N
 clear N
 obtain ⟨s0,b,N,P⟩:=b0.freezeRow (i:=0) rfl
 clear b0
 replace t:=RCore.mono _ _ _ _ b t
 replace S:=REx.mono _ _ _ _ b S
 replace A:=A.mono b
 replace r:=REx.mono _ _ _ _ b r
 replace C:=RData.mono _ _ _ _ b C
 replace G:=G.mono b
 replace v:=RArm.mono _ _ _ _ b v
 replace z:=REx.mono _ _ _ _ b z
 replace H:=H.mono b
 replace y:=RCon.mono _ _ _ _ b y
 replace N:=N.nf
 have D:SliceOf RParam s0 2 _ ((vars++jR d.vars f.fields)):=⟨_,P,I⟩
 obtain ⟨U1,q1,g1,b1,f1⟩:=D.form (by decide)
 have c0:=N
 clear N
 subst g1
 have N:=c0
 clear c0
 refine zT call80 (fun w N a J=>?_) (c:=ih _ (Ex.lt_arms (mgQ j)) t D z ((aJ O).2.2 _ (mgQ j)).1 (by have h_:=q6a (mgQ j);rw [laQ,show (jR d.vars f.fields).length=d.vars.length by unfold jR;rw [List.length_map,List.length_zip];omega];omega) N)
 refine go fun a J=>?_
 generalize R0:(!((zS c d.body (vars++jR d.vars f.fields)).2))=e0 at J
 cases e0
 by_cases u1:0 < i
 by_cases w1:(zS c d.body (vars++jR d.vars f.fields)).1=o
 refine go fun a J=>?_
 replace N:=N.le (b)
 replace N:=N.dl [0]
 refine a0 _ _ _ (by subst X;omega) ⟨(i+1),((zS c d.body (vars++jR d.vars f.fields)).1),rfl,⟨J.pk,by exact N⟩,?_⟩
 rw [p,zA j,zA n,nT,if_neg B,if_neg (by rintro (g | ⟨g,g2⟩);exact absurd (g.symm.trans ((by first | assumption | exact pB (by assumption) | exact pA (by assumption)):(zS c d.body (vars++jR d.vars f.fields)).2=true)) (by decide);first | exact g2 (by assumption) | (have:=of_decide_eq_false g;omega))];rfl
 refine jB ?_
 replace N:=N.le ((h).trans b)
 replace N:=N.dl [3,2,1,0]
 have hr_:nG c e vars=((⟨#[]⟩:Bs),false):=by rw [p,zA j,zA n,nT,if_neg B];exact if_pos (by first | exact .inl (by first | assumption | exact pB (by assumption) | exact pA (by assumption)) | exact .inr ⟨decide_eq_false (by omega),by assumption⟩)
 show _/\_;rw [hr_];exact ⟨rfl,N⟩
 refine go fun a J=>?_
 replace N:=N.le (b)
 replace N:=N.dl [0]
 refine a0 _ _ _ (by subst X;omega) ⟨(i+1),((zS c d.body (vars++jR d.vars f.fields)).1),rfl,⟨J.pk,by exact N⟩,?_⟩
 rw [p,zA j,zA n,nT,if_neg B,if_neg (by rintro (g | ⟨g,g2⟩);exact absurd (g.symm.trans ((by first | assumption | exact pB (by assumption) | exact pA (by assumption)):(zS c d.body (vars++jR d.vars f.fields)).2=true)) (by decide);first | exact g2 (by assumption) | (have:=of_decide_eq_false g;omega))];rfl
 refine jB ?_
 replace N:=N.le ((h).trans b)
 replace N:=N.dl [3,2,1,0]
 have hr_:nG c e vars=((⟨#[]⟩:Bs),false):=by rw [p,zA j,zA n,nT,if_neg B];exact if_pos (by first | exact .inl (by first | assumption | exact pB (by assumption) | exact pA (by assumption)) | exact .inr ⟨decide_eq_false (by omega),by assumption⟩)
 show _/\_;rw [hr_];exact ⟨rfl,N⟩
 refine jB ?_
 replace N:=N.le (h)
 replace N:=N.dl [3,2,1,0]
 have hr_:nG c e vars=((⟨#[]⟩:Bs),false):=by rw [p,zA j,zA n,nT];exact if_pos (by first | exact .inl (by assumption) | exact .inr (by assumption))
 show _/\_;rw [hr_];exact ⟨rfl,N⟩
 refine jB ?_
 replace N:=N.le (h)
 replace N:=N.dl [3,2,1,0]
 have hr_:nG c e vars=((⟨#[]⟩:Bs),false):=by rw [p,zA j,zA n,nT];exact if_pos (by first | exact .inl (by assumption) | exact .inr (by assumption))
 show _/\_;rw [hr_];exact ⟨rfl,N⟩
 refine jB ?_
 replace N:=N.le (h)
 replace N:=N.dl [2,1,0]
 have hr_:nG c e vars=(o,true):=by rw [p,zB A0];rfl
 show _/\_;rw [hr_];exact ⟨rfl,N⟩
 refine jB ?_
 replace N:=N.le (h)
 replace N:=N.dl [2,1,0]
 have hr_:nG c e vars=((⟨#[]⟩:Bs),false):=by exact z7y W q (by first | exact .inl (by first | assumption | exact pB (by assumption) | exact pA (by assumption)) | exact .inr (.inl (by first | assumption | exact pB (by assumption) | exact pA (by assumption))) | exact .inr (.inr (by omega)))
 show _/\_;rw [hr_];exact ⟨rfl,N⟩
 refine jB ?_
 replace N:=N.le (h)
 replace N:=N.dl [2,1,0]
 have hr_:nG c e vars=((⟨#[]⟩:Bs),false):=by exact z7y W q (by first | exact .inl (by first | assumption | exact pB (by assumption) | exact pA (by assumption)) | exact .inr (.inl (by first | assumption | exact pB (by assumption) | exact pA (by assumption))) | exact .inr (.inr (by omega)))
 show _/\_;rw [hr_];exact ⟨rfl,N⟩
 refine jB ?_
 replace N:=N.le (h)
 replace N:=N.dl [2,1,0]
 have hr_:nG c e vars=((⟨#[]⟩:Bs),false):=by exact z7y W q (by first | exact .inl (by first | assumption | exact pB (by assumption) | exact pA (by assumption)) | exact .inr (.inl (by first | assumption | exact pB (by assumption) | exact pA (by assumption))) | exact .inr (.inr (by omega)))
 show _/\_;rw [hr_];exact ⟨rfl,N⟩
 refine jB ?_
 replace N:=N.dl [1,0]
 have hr_:nG c e vars=((⟨#[]⟩:Bs),false):=by exact q6g (by simp [sNo, *])
 show _/\_;rw [hr_];exact ⟨rfl,N⟩
 refine jB ?_
 replace N:=N.dl [1,0]
 have hr_:nG c e vars=((⟨#[]⟩:Bs),false):=by exact q6g (by simp [sNo, *])
 show _/\_;rw [hr_];exact ⟨rfl,N⟩
theorem j4r {Φ:Fz} {K:List Res} {w:World} {d0:List Value} {c:Core} {v1:Value} {vars:List Param} {d2:List Value} {e:Ex} (m:RCore Φ d0 c) (b:SliceOf RParam Φ 2 v1 vars) (z:REx Φ d2 e) (hL:Lim c) (O:dW e) (hb:vars.length+(zN e).length<=1000000) (ih:∀x:Ex,x.sz < e.sz->∀{Φ:Fz} {K:List Res} {w:World} {d0:List Value} {v1:Value} {vars:List Param} {d2:List Value},RCore Φ d0 c->SliceOf RParam Φ 2 v1 vars->REx Φ d2 x->dW x->vars.length+(zN x).length<=1000000->Mem Φ K w->Calls prog 80 #[.agg d0.toArray,v1,.agg d2.toArray] w (fun ee w'=>ee=.returned (.tuple #[.string (zS c x vars).1,.bool (zS c x vars).2])/\Mem Φ K w')) (N:Mem Φ K w) :
  Calls prog 80 #[.agg d0.toArray,v1,.agg d2.toArray] w (fun ee w'=>ee=.returned (.tuple #[.string (zS c e vars).1,.bool (zS c e vars).2])/\Mem Φ K w'):=by
 obtain ⟨p3,c4,p9,y1,H2,z1,W1,c22,rfl,h2,h8,H,O5,X5,Y5,X4,C2,Y4,D2,Z4,c5⟩:=RCore.fm m
 obtain ⟨p1,c1,rfl,W5,P3⟩:=b.fm
 obtain ⟨X1,A1,Y1,B1,rfl,U4,f0,P5,a5,m1,b5,d5⟩:=REx.fm z
 refine zL func80 ntmps80 fun Q hQ a J=>?_
 refine Bx fun b1 w N a J=>?_
 refine Bx fun d1 w N a J=>?_
 refine goJ 3 fun a J=>?_
 refine sq fun S2 w2=>?_
 have u0:∀a w,(EnvR 268 [(1,.slice p1 vars.length c1),(3,.pointer (some ⟨b1,0,none⟩)),(5,.pointer (some ⟨d1,0,none⟩))] [] a/\Mem Φ (.blk d1 (ob [.int .i64 (e.kind),.int .i64 (e.num),.string e.name,.slice X1 e.args.length A1,.slice Y1 e.arms.length B1] 110)::.blk b1 (ob [.slice p3 c.datas.length c4,.slice p9 c.inputs.length y1,.slice H2 c.funs.length z1,.slice W1 c.outputs.length c22] 27)::K) w/\(¬cI e))->S2 a w:=by
  clear N J
  rintro a w ⟨J,N,u2⟩
  apply w2
  have y:=u2
  by_cases j0:e.kind=1
  refine Reg [1,2,1,1,1,2,1,1,1,1,1] [0,1] fun w N a J=>?_
  by_cases Q5:e.name=(⟨#[]⟩:Bs)
  refine Qq (fun a J=>?_) (o:=by exact fun J O=>mY (i:=e.args.length) (j:=0) J rfl rfl)
  refine jB ?_
  replace N:=N.dl [1,0]
  have hr_:zS c e vars=((⟨#[73,110,116]⟩:Bs),(decide (e.args.length=0))):=by rw [j7r y (by assumption)];simp [sNo,yU, *]
  show _/\_;rw [hr_];exact ⟨rfl,N⟩
  refine jB ?_
  replace N:=N.dl [1,0]
  have hr_:zS c e vars=((⟨#[73,110,116]⟩:Bs),false):=by rw [j7r y (by assumption)];simp [sNo,yU, *]
  show _/\_;rw [hr_];exact ⟨rfl,N⟩
  by_cases k0:e.kind=2
  refine Qq (fun a J=>?_) (o:=by exact fun J O=>wG (((vars.length:Nat):Int) - 1) J rfl rfl (jI (by omega)))
  refine go fun a J=>?_
  refine zU (J.ks [1,5]) N (fun R mm a w=>∃(k:Nat),mm=k/\R Φ [(8,.int .i64 (((k:Nat):Int) - 1))] [] a w/\(k<=vars.length/\dR vars e.name=dR (vars.take k) e.name)) (vars.length) ⟨vars.length,rfl,⟨J.pk,N⟩,⟨Nat.le_refl _,by rw [List.take_length]⟩⟩ ?_
  clear N J
  rintro mm a w ⟨k,g0,⟨J,N⟩,v2⟩ L5 x2
  obtain ⟨V5,N1⟩:=v2
  by_cases R5:0<=((k:Nat):Int) - 1
  refine Reg [1,1,1,1,2,1,2,1] [0,1] fun w N a J=>?_
  rw [show ((k:Nat):Int) - 1=((k - 1:Nat):Int) by omega] at J
  refine go fun a J=>?_
  have z2:(k - 1) < vars.length:=by omega
  obtain ⟨a6,rfl,P2,o1,z4,V4,S4,E2⟩:=b.el P3 z2
  obtain rfl:=id E2
  refine go fun a J=>?_
  by_cases r2:P2.name=e.name
  refine Reg [1,1,1,1,2,1,2,1,1,1,1] [0,1] fun w N a J=>?_
  refine go fun a J=>?_
  refine Qq (fun a J=>?_) (o:=by exact fun J O=>mY (i:=e.args.length) (j:=0) J rfl rfl)
  refine jB ?_
  replace N:=N.dl [1,0]
  have hr_:zS c e vars=(P2.type,(decide (e.args.length=0))):=by rw [j7s y (by assumption),N1,show k=(k - 1)+1 by omega,jM o1,z1y,if_pos r2]
  show _/\_;rw [hr_];exact ⟨rfl,N⟩
  refine Qq (fun a J=>?_) (o:=by exact fun J O=>wG (((k - 1:Nat):Int) - 1) J rfl rfl (jI (by omega)))
  refine go fun a J=>?_
  refine x2 _ _ _ (by subst g0;omega) ⟨(k - 1),rfl,⟨J.pk,N⟩,?_⟩
  exact ⟨by omega,by rw [N1,show k=(k - 1)+1 by omega,jM o1,z1y,if_neg r2];rfl⟩
  refine jB ?_
  replace N:=N.dl [1,0]
  have hr_:zS c e vars=((⟨#[]⟩:Bs),false):=by rw [j7s y (by assumption),N1,show k=0 by omega];rfl
  show _/\_;rw [hr_];exact ⟨rfl,N⟩
  by_cases l0:e.kind=3
  refine go fun a J=>?_
  refine zU (J.ks [3,5]) N (fun R mm a w=>∃(i:Nat),mm=c.inputs.length - i/\R Φ [(9,.int .i64 i)] [] a w/\(z8t c.inputs e.name=z8t (c.inputs.drop i) e.name)) (c.inputs.length - 0) ⟨0,rfl,⟨J.pk,N⟩,rfl⟩ ?_
  clear N J
  rintro mm a w ⟨i,g0,⟨J,N⟩,F0⟩ M5 y2
  by_cases s2:i < c.inputs.length
  refine Reg [1,2,1,1,1,2,1,2,1] [0,1] fun w N a J=>?_
  refine go fun a J=>?_
  obtain ⟨b6,rfl,Q2,q1,A4,W4,T4,F2⟩:=h8.el C2 s2
  obtain rfl:=id F2
  by_cases t2:Q2.name=e.name
  refine Reg [1,2,1,1,1,2,1,2,1,1,1,1] [0,1] fun w N a J=>?_
  refine Qq (fun a J=>?_) (o:=by exact fun J O=>mY (i:=e.args.length) (j:=0) J rfl rfl)
  refine jB ?_
  replace N:=N.dl [1,0]
  have hr_:zS c e vars=(Q2.type,(decide (e.args.length=0))):=by rw [j7t y (by assumption),F0,zA q1,z8t,if_pos t2]
  show _/\_;rw [hr_];exact ⟨rfl,N⟩
  refine go fun a J=>?_
  refine y2 _ _ _ (by subst g0;omega) ⟨(i+1),rfl,⟨J.pk,N⟩,?_⟩
  rw [F0,zA q1,z8t,if_neg t2]
  refine jB ?_
  replace N:=N.dl [1,0]
  have hr_:zS c e vars=((⟨#[]⟩:Bs),false):=by rw [j7t y (by assumption),F0,zB s2];rfl
  show _/\_;rw [hr_];exact ⟨rfl,N⟩
  refine go fun a J=>?_
  by_cases Y:e.kind=6
  by_cases T5:e.args.length=2
  refine Reg [2,1,1,2,1,2,0,1,1,1,1,1] [0,1] fun w N a J=>?_
  refine go fun a J=>?_
  have A2:0 < e.args.length:=by omega
  obtain ⟨s5,rfl,d,E,T2,o3,I,A⟩:=f0.el m1 A2
  obtain ⟨e5,n4,f5,o4,rfl,j3,C4,D4,w3,Q3,x3,R3⟩:=REx.fm A
  refine zT call80 (fun w N a J=>?_) (c:=ih _ (Ex.lt_args (mgQ E)) m b A ((aJ O).2.1 _ (mgQ E)) (by have h_:=tA (mgQ E);omega) N)
  refine go fun a J=>?_
  generalize f3:(!((zS c d vars).2))=u1 at J
  cases u1
  refine go fun a J=>?_
  refine yI [2,0,1,0,1,2,1,1,0,0,1,2,1,2,0,1,1,1,1] (.q 0 (.q 2 (.q 4 (.q 5 (.q 6 (.q 7 (.q 10 (.q 11 (.q 12 (.q 13 (.e2 1 8 (.e2 3 8 (.e 8 (.e 9 (.e 14 (.q 15 (.q 16 (.q 17 (.q 18 (.done)))))))) (.e 3 (.e 9 (.e 14 (.q 15 (.q 16 (.q 17 (.q 18 (.done))))))))) (.e 1 (.e 3 (.e 9 (.e 14 (.q 15 (.q 16 (.q 17 (.q 18 (.done)))))))))))))))))))) [0,1] J N fun w N=>?_
  refine qO fun a J=>?_
  refine go fun a J=>?_
  have K1:1 < e.args.length:=by omega
  obtain ⟨e0,h⟩:=zZ K1
  obtain ⟨U2,q3,L,n⟩:=f0.elem h
  obtain ⟨g5,c135,h5,p4,rfl,k3,E4,F4,y3,S3,z3,T3⟩:=REx.fm n
  refine go fun a J=>?_
  refine gW ?_ ?_
  refine d_e J rfl rfl rfl (kL (sz:=2) (cs:=[]) J N rfl (z7w runUnderlying23 sizeOf36) rfl (by decide) fun v145 w N _=>⟨fun _=>N.sn (Fz.Le.refl _),fun a J=>?_⟩)
  refine gW ?_ ?_
  obtain ⟨o0,J0,U⟩:=id b
  refine d_e J rfl rfl rfl (kK 0 (xs:=[]) (news:=o0) z3y J N rfl rfl rfl (J0.rowIn N.toSees) (U.ones RParam.ones) (by intro n_ m_ m0 n0;have h_:=U.length;simp only [lnQ] at m0;omega) fun v146 w N=>⟨fun _=>N.sn (Fz.Le.refl _),fun a J=>?_⟩)
  replace N:=N.nf
  refine jQ fun z5 w N a J=>?_
  refine d_e J rfl rfl rfl (kK 1 (xs:=o0) (news:=[.string e.name,.string (zS c d vars).1]) z3y J N rfl rfl rfl (N.toSees.rowIn (i:=0) rfl) rfl (by intro n_ m_ m0 n0;have h_:=U.length;simp only [lcQ,lnQ] at n0;omega) fun A5 w N=>⟨fun _=>N.sn (Fz.Le.refl _),fun a J=>?_⟩)
  replace N:=N.nf
  have e1:Chunks (RParam Φ) 2 (o0++[.string e.name,.string (zS c d vars).1]) (vars++[⟨e.name,(zS c d vars).1⟩]):=Chunks.snoc (R:=RParam Φ) (k:=2) (x:=(⟨e.name,(zS c d vars).1⟩:Param)) rfl rfl U
  have f:=N
  clear N
  obtain ⟨Z1,p,N,K0⟩:=f.freezeRow (i:=1) rfl
  clear f
  replace H:=H.up p
  replace m:=RCore.mono _ _ _ _ p m
  replace b:=b.up p
  replace f0:=f0.up p
  replace z:=REx.mono _ _ _ _ p z
  replace I:=I.mono p
  replace A:=REx.mono _ _ _ _ p A
  replace L:=L.mono p
  replace n:=REx.mono _ _ _ _ p n
  replace N:=N.nf
  have w0:SliceOf RParam Z1 2 _ ((vars++[⟨e.name,(zS c d vars).1⟩])):=⟨_,K0,e1⟩
  obtain ⟨i5,q4,D,A3,U3⟩:=w0.form (by decide)
  have g:=N
  clear N
  subst D
  have N:=g
  clear g
  refine zT call80 (fun w N a J=>?_) (c:=ih _ (Ex.lt_args (mgQ h)) m w0 n ((aJ O).2.1 _ (mgQ h)) (by have h_:=tA (mgQ h);rw [if_pos Y] at h_;rw [laQ,lcQ,lnQ];omega) N)
  refine jB ?_
  replace N:=N.le (p)
  replace N:=N.dl [2,1,0]
  have hr_:zS c e vars=((zS c e0 (vars++[⟨e.name,(zS c d vars).1⟩])).1,((zS c e0 (vars++[⟨e.name,(zS c d vars).1⟩])).2)):=by rw [z7m y (by assumption)];exact y5r (by assumption) E h (by first | assumption | exact pB (by assumption) | exact pA (by assumption))
  show _/\_;rw [hr_];exact ⟨rfl,N⟩
  refine jQ fun B5 w N a J=>?_
  obtain ⟨p0,L0,V⟩:=id b
  refine d_e J rfl rfl rfl (kK 1 (xs:=[]) (news:=p0) z3y J N rfl rfl rfl (L0.rowIn N.toSees) (V.ones RParam.ones) (by intro n_ m_ m0 n0;have h_:=V.length;simp only [lnQ] at m0;omega) fun C5 w N=>⟨fun _=>N.sn (Fz.Le.refl _),fun a J=>?_⟩)
  replace N:=N.nf
  refine d_e J rfl rfl rfl (kK 1 (xs:=p0) (news:=[.string e.name,.string (zS c d vars).1]) z3y J N rfl rfl rfl (N.toSees.rowIn (i:=0) rfl) rfl (by intro n_ m_ m0 n0;have h_:=V.length;simp only [lcQ,lnQ] at n0;omega) fun D5 w N=>⟨fun _=>N.sn (Fz.Le.refl _),fun a J=>?_⟩)
  replace N:=N.nf
  have f1:Chunks (RParam Φ) 2 (p0++[.string e.name,.string (zS c d vars).1]) (vars++[⟨e.name,(zS c d vars).1⟩]):=Chunks.snoc (R:=RParam Φ) (k:=2) (x:=(⟨e.name,(zS c d vars).1⟩:Param)) rfl rfl V
  have f:=N
  clear N
  obtain ⟨a2,r,N,M0⟩:=f.freezeRow (i:=1) rfl
  clear f
  replace H:=H.up r
  replace m:=RCore.mono _ _ _ _ r m
  replace b:=b.up r
  replace f0:=f0.up r
  replace z:=REx.mono _ _ _ _ r z
  replace I:=I.mono r
  replace A:=REx.mono _ _ _ _ r A
  replace L:=L.mono r
  replace n:=REx.mono _ _ _ _ r n
  replace N:=N.nf
  have x0:SliceOf RParam a2 2 _ ((vars++[⟨e.name,(zS c d vars).1⟩])):=⟨_,M0,f1⟩
  obtain ⟨j5,c173,D,B3,V3⟩:=x0.form (by decide)
  have g:=N
  clear N
  subst D
  have N:=g
  clear g
  refine zT call80 (fun w N a J=>?_) (c:=ih _ (Ex.lt_args (mgQ h)) m x0 n ((aJ O).2.1 _ (mgQ h)) (by have h_:=tA (mgQ h);rw [if_pos Y] at h_;rw [laQ,lcQ,lnQ];omega) N)
  refine jB ?_
  replace N:=N.le (r)
  replace N:=N.dl [2,1,0]
  have hr_:zS c e vars=((zS c e0 (vars++[⟨e.name,(zS c d vars).1⟩])).1,((zS c e0 (vars++[⟨e.name,(zS c d vars).1⟩])).2)):=by rw [z7m y (by assumption)];exact y5r (by assumption) E h (by first | assumption | exact pB (by assumption) | exact pA (by assumption))
  show _/\_;rw [hr_];exact ⟨rfl,N⟩
  refine jQ fun E5 w N a J=>?_
  refine d_e J rfl rfl rfl (kL (sz:=2) (cs:=[]) J N rfl (z7w runUnderlying23 sizeOf36) rfl (by decide) fun F5 w N _=>⟨fun _=>N.sn (Fz.Le.refl _),fun a J=>?_⟩)
  obtain ⟨q0,N0,W⟩:=id b
  refine d_e J rfl rfl rfl (kK 0 (xs:=[]) (news:=q0) z3y J N rfl rfl rfl (N0.rowIn N.toSees) (W.ones RParam.ones) (by intro n_ m_ m0 n0;have h_:=W.length;simp only [lnQ] at m0;omega) fun G5 w N=>⟨fun _=>N.sn (Fz.Le.refl _),fun a J=>?_⟩)
  replace N:=N.nf
  refine d_e J rfl rfl rfl (kK 0 (xs:=q0) (news:=[.string e.name,.string (zS c d vars).1]) z3y J N rfl rfl rfl (N.toSees.rowIn (i:=1) rfl) rfl (by intro n_ m_ m0 n0;have h_:=W.length;simp only [lcQ,lnQ] at n0;omega) fun H5 w N=>⟨fun _=>N.sn (Fz.Le.refl _),fun a J=>?_⟩)
  replace N:=N.nf
  have g1:Chunks (RParam Φ) 2 (q0++[.string e.name,.string (zS c d vars).1]) (vars++[⟨e.name,(zS c d vars).1⟩]):=Chunks.snoc (R:=RParam Φ) (k:=2) (x:=(⟨e.name,(zS c d vars).1⟩:Param)) rfl rfl W
  have f:=N
  clear N
  obtain ⟨b2,s,N,O0⟩:=f.freezeRow (i:=0) rfl
  clear f
  replace H:=H.up s
  replace m:=RCore.mono _ _ _ _ s m
  replace b:=b.up s
  replace f0:=f0.up s
  replace z:=REx.mono _ _ _ _ s z
  replace I:=I.mono s
  replace A:=REx.mono _ _ _ _ s A
  replace L:=L.mono s
  replace n:=REx.mono _ _ _ _ s n
  replace N:=N.nf
  have y0:SliceOf RParam b2 2 _ ((vars++[⟨e.name,(zS c d vars).1⟩])):=⟨_,O0,g1⟩
  obtain ⟨k5,r4,D,C3,W3⟩:=y0.form (by decide)
  have g:=N
  clear N
  subst D
  have N:=g
  clear g
  refine zT call80 (fun w N a J=>?_) (c:=ih _ (Ex.lt_args (mgQ h)) m y0 n ((aJ O).2.1 _ (mgQ h)) (by have h_:=tA (mgQ h);rw [if_pos Y] at h_;rw [laQ,lcQ,lnQ];omega) N)
  refine jB ?_
  replace N:=N.le (s)
  replace N:=N.dl [2,1,0]
  have hr_:zS c e vars=((zS c e0 (vars++[⟨e.name,(zS c d vars).1⟩])).1,((zS c e0 (vars++[⟨e.name,(zS c d vars).1⟩])).2)):=by rw [z7m y (by assumption)];exact y5r (by assumption) E h (by first | assumption | exact pB (by assumption) | exact pA (by assumption))
  show _/\_;rw [hr_];exact ⟨rfl,N⟩
  refine jB ?_
  replace N:=N.dl [1,0]
  have hr_:zS c e vars=((⟨#[]⟩:Bs),false):=by rw [z7m y (by assumption)];exact j2k E (by first | assumption | exact pB (by assumption) | exact pA (by assumption))
  show _/\_;rw [hr_];exact ⟨rfl,N⟩
  refine jB ?_
  replace N:=N.dl [1,0]
  have hr_:zS c e vars=((⟨#[]⟩:Bs),false):=by rw [z7m y (by assumption)];exact letR_no (by assumption)
  show _/\_;rw [hr_];exact ⟨rfl,N⟩
  by_cases T:e.kind=7
  refine zT call112 (fun w N a J=>?_) (c:=j1h m b z hL O hb ih N)
  refine jB ?_
  replace N:=N.dl [1,0]
  have hr_:zS c e vars=((nG c e vars).1,((nG c e vars).2)):=by exact typeR_7 y (by assumption)
  show _/\_;rw [hr_];exact ⟨rfl,N⟩
  refine go fun a J=>?_
  replace N:=N.nilRow 9 1
  replace N:=N.nf
  refine zU (J.ks [1,3,5]) N (fun R mm a w=>∃(i:Nat) (u:Value) (ts:List Bs),mm=e.args.length - i/\R Φ [(12,u),(13,.int .i64 i)] [(0,.gs (u) 9 1 (strs ts))] a w/\(ts.length=i/\typesR c e.args vars=(ts++(typesR c (e.args.drop i) vars).1,(typesR c (e.args.drop i) vars).2))) (e.args.length - 0) ⟨0,.slice none 0 0,[],rfl,⟨J.pk,N⟩,⟨rfl,rfl⟩⟩ ?_
  clear N J
  rintro mm a w ⟨i,u,ts,g0,⟨J,N⟩,F1⟩ i4 G1
  replace N:=N.nf
  obtain ⟨B2,U1⟩:=F1
  by_cases h1:i < e.args.length
  refine Reg [2,1,1,2,1,1,2,0,1,1,1,1,1] [0,1,2] fun w N a J=>?_
  refine go fun a J=>?_
  obtain ⟨t5,rfl,Z0,b0,V2,r3,a3,I0⟩:=f0.el m1 h1
  obtain ⟨l5,s4,m5,t4,rfl,l3,G4,H4,D3,X3,E3,Y3⟩:=REx.fm I0
  refine zT call80 (fun w N a J=>?_) (c:=ih _ (Ex.lt_args (mgQ b0)) m b I0 ((aJ O).2.1 _ (mgQ b0)) (by have h_:=tA (mgQ b0);omega) N)
  refine go fun a J=>?_
  generalize g3:(!((zS c Z0 vars).2))=w1 at J
  cases w1
  refine jQ fun I5 w N a J=>?_
  refine vH 1 xQ (fun v232 w N a J=>?_) (hb:=by rw [zR,B2];have h_:=(aJ O).1;simp only [lcQ,lnQ];omega)
  first | rw [qI] at N | rw [<- yN] at N
  refine go fun a J=>?_
  replace N:=N.dl [0]
  refine G1 _ _ _ (by subst g0;omega) ⟨(i+1),(v232),(ts++[(zS c Z0 vars).1]),rfl,⟨J.pk,N⟩,?_⟩
  exact ⟨by simp [B2],by rw [U1,zA b0,y1c,if_neg (by rw [show (zS c Z0 vars).2=true from (by first | assumption | exact pB (by assumption) | exact pA (by assumption))];decide)];simp⟩
  refine jB ?_
  replace N:=N.dl [2,1,0]
  have hr_:zS c e vars=((⟨#[]⟩:Bs),false):=by exact x2l y j0 k0 l0 Y T (by rw [U1,zA b0,y1c,if_pos (by first | assumption | exact pB (by assumption) | exact pA (by assumption))])
  show _/\_;rw [hr_];exact ⟨rfl,N⟩
  refine goR 37 fun a J=>?_
  have T0:typesR c e.args vars=(ts,true):=by rw [U1,zB h1];simp [typesR]
  have f:=N
  clear N
  obtain ⟨h0,t,N,P0⟩:=f.freezeRow (i:=0) rfl
  clear f
  replace H:=H.up t
  replace m:=RCore.mono _ _ _ _ t m
  replace z:=REx.mono _ _ _ _ t z
  replace N:=N.nf
  have X:SliceOf RStr h0 1 _ (ts):=SliceOf.strs.2 P0
  obtain ⟨I2,k2,D,F3,O1⟩:=X.form (by decide)
  have g:=N
  clear N
  subst D
  have N:=g
  clear g
  refine goJ 63 fun a J=>?_
  refine sq fun j2 H1=>?_
  have a0:∀a w,(∃(c0:Fz) (v:Value) (wl:List Bs) (o:Bs),EnvR 268 [(12,.slice I2 (ts).length k2),(16,v),(17,.string o)] [] a/\Mem c0 (.blk d1 (ob [.int .i64 (e.kind),.int .i64 (e.num),.string e.name,.slice X1 e.args.length A1,.slice Y1 e.arms.length B1] 110)::.blk b1 (ob [.slice p3 c.datas.length c4,.slice p9 c.inputs.length y1,.slice H2 c.funs.length z1,.slice W1 c.outputs.length c22] 27)::K) w/\(h0.Le c0/\(SliceOf RStr c0 1 v wl/\wU c e.kind e.name=some (wl,o))))->j2 a w:=by
   clear N J
   rintro a w ⟨c0,v,wl,o,J,N,r0⟩
   obtain ⟨F,r0⟩:=r0
   replace H:=H.up F
   replace m:=RCore.mono _ _ _ _ F m
   replace z:=REx.mono _ _ _ _ F z
   replace X:=X.up F
   apply H1
   obtain ⟨n1,U0⟩:=r0
   refine go fun a J=>?_
   obtain ⟨n5,u4,D,G3,P1⟩:=n1.form (by decide)
   subst D
   by_cases i1:wl.length=(ts).length
   refine go fun a J=>?_
   refine zU (J.ks [12,16,17]) N (fun R mm a w=>∃(i:Nat),mm=wl.length - i/\R c0 [(23,.int .i64 i)] [] a w/\(wl.take i=ts.take i)) (wl.length - 0) ⟨0,rfl,⟨J.pk,N⟩,rfl⟩ ?_
   clear N J
   rintro mm a w ⟨i,g0,⟨J,N⟩,E0⟩ j4 I1
   by_cases n2:i < wl.length
   refine Reg [1,1,1,2,1,1,1,2,1] [0,1] fun w N a J=>?_
   refine go fun a J=>?_
   obtain ⟨u5,rfl,s1,V0,C1,s3,b3,R1⟩:=n1.el P1 n2
   obtain rfl:C1=[.string s1]:=R1
   refine go fun a J=>?_
   have L1:i < (ts).length:=by omega
   obtain ⟨v5,rfl,t1,W0,D1,t3,d3,S1⟩:=X.el O1 L1
   obtain rfl:D1=[.string t1]:=S1
   by_cases j1:s1=t1
   refine go fun a J=>?_
   refine I1 _ _ _ (by subst g0;omega) ⟨(i+1),rfl,⟨J.pk,N⟩,?_⟩
   rw [jM V0,jM W0,E0,j1]
   refine jB ?_
   replace N:=N.le ((t).trans F)
   replace N:=N.dl [1,0]
   have hr_:zS c e vars=((⟨#[]⟩:Bs),false):=by rw [z5i y j0 k0 l0 Y T U0 T0,if_neg (fun e=>j1 (Option.some.inj (by rw [<- V0,e];exact W0)))];rfl
   show _/\_;rw [hr_];exact ⟨rfl,N⟩
   refine jB ?_
   replace N:=N.le ((t).trans F)
   replace N:=N.dl [1,0]
   have hr_:zS c e vars=(o,true):=by rw [z5i y j0 k0 l0 Y T U0 T0,if_pos (by have h_:=E0;rw [List.take_of_length_le (by omega),List.take_of_length_le (by omega)] at h_;exact h_)]
   show _/\_;rw [hr_];exact ⟨rfl,N⟩
   refine jB ?_
   replace N:=N.le ((t).trans F)
   replace N:=N.dl [1,0]
   have hr_:zS c e vars=((⟨#[]⟩:Bs),false):=by rw [z5i y j0 k0 l0 Y T U0 T0,if_neg (fun e=>by rw [e] at i1;exact i1 rfl)];rfl
   show _/\_;rw [hr_];exact ⟨rfl,N⟩
  by_cases o2:e.kind=4
  refine yO call113 (fun R2 w E1 N a J=>?_) (c:=j8h m hL.1 N)
  obtain ⟨c2,B4⟩:=R2
  obtain ⟨M,H0⟩:=E1
  simp only at M H0 N J
  replace H:=H.up M
  replace m:=RCore.mono _ _ _ _ M m
  replace z:=REx.mono _ _ _ _ M z
  replace N:=N.nf
  obtain ⟨x5,rfl,k1⟩:=id H0
  obtain ⟨J2,l2,rfl,H3,Z3⟩:=k1.fm
  refine Alc fun l4 w N a J=>?_
  refine Sto 0 fun w N a J=>?_
  refine go fun a J=>?_
  generalize h3:(!(nU c.datas e.name).isSome)=x1 at J
  cases x1
  refine go fun a J=>?_
  replace N:=N.dl [0]
  exact a0 _ _ ⟨c2,.slice J2 (((nU c.datas e.name).map Maker.con).getD y0t).fields.length l2,(((nU c.datas e.name).map Maker.con).getD y0t).fields,(((nU c.datas e.name).map Maker.data).getD sNo),J.pk,N,⟨M,⟨k1,by rw [want_4 o2];obtain ⟨m_,O3⟩:=Option.isSome_iff_exists.1 (show (nU c.datas e.name).isSome=true from (by first | assumption | exact pB (by assumption) | exact pA (by assumption)));rw [O3];rfl⟩⟩⟩
  refine jB ?_
  replace N:=N.le ((t).trans M)
  replace N:=N.dl [2,1,0]
  have hr_:zS c e vars=((⟨#[]⟩:Bs),false):=by exact z0p y j0 k0 l0 Y T (by rw [want_4 (by assumption),x7o (o:=nU c.datas e.name) (by first | assumption | exact pB (by assumption) | exact pA (by assumption))];rfl)
  show _/\_;rw [hr_];exact ⟨rfl,N⟩
  by_cases p2:e.kind=5
  refine zT call81 (fun w N a J=>?_) (c:=z8l m N)
  by_cases t0:nB c.funs e.name < 0
  refine jB ?_
  replace N:=N.le (t)
  replace N:=N.dl [1,0]
  have hr_:zS c e vars=((⟨#[]⟩:Bs),false):=by exact z0p y j0 k0 l0 Y T (by rw [want_5 (by assumption)];unfold nB at t0;cases i3:nH c.funs e.name with | none=>rfl | some j=>rw [i3] at t0;simp only at t0;omega)
  show _/\_;rw [hr_];exact ⟨rfl,N⟩
  refine go fun a J=>?_
  obtain ⟨j,hj⟩:=y0i t0
  have U5:=q7h hj
  rw [show nB c.funs e.name=((j:Nat):Int) by rw [nB,hj]] at J
  have M1:j < c.funs.length:=by omega
  obtain ⟨L2,rfl,C,X0,W2,u3,G0,s0⟩:=H.el D2 M1
  obtain ⟨y5,m4,rfl,l1,C0⟩:=id s0
  obtain ⟨o5,v4,rfl,I3,Q1⟩:=l1.fm
  obtain ⟨p5,w4,q5,x4,rfl,m3,I4,J4,J3,a4,K3,b4⟩:=REx.fm C0
  refine go fun a J=>?_
  replace N:=N.nilRow 9 1
  replace N:=N.nf
  refine zU (J.ks [3,12,21]) N (fun R mm a w=>∃(k:Nat) (u:Value),mm=C.params.length - k/\R h0 [(16,u),(22,.int .i64 k)] [(0,.gs (u) 9 1 (strs ((C.params.take k).map Param.type)))] a w/\(True)) (C.params.length - 0) ⟨0,.slice none 0 0,rfl,⟨J.pk,N⟩,trivial⟩ ?_
  clear N J
  rintro mm a w ⟨k,u,g0,⟨J,N⟩,Y2⟩ k4 J1
  replace N:=N.nf
  by_cases q2:k < C.params.length
  refine go fun a J=>?_
  obtain ⟨w5,rfl,O2,V1,X2,v3,e3,T1⟩:=l1.el Q1 q2
  obtain rfl:=id T1
  refine jQ fun N2 w N a J=>?_
  refine vH 1 xQ (fun r1 w N a J=>?_) (hb:=by rw [zR,List.length_map,List.length_take];have h_:=hL.2 _ (mgQ X0);simp only [lcQ,lnQ];omega)
  replace N:Mem h0 (.gs (N2) 9 1 [.string O2.type]::.gs (r1) 9 1 (strs ((C.params.take (k+1)).map Param.type))::.blk d1 (ob [.int .i64 (e.kind),.int .i64 (e.num),.string e.name,.slice X1 e.args.length A1,.slice Y1 e.arms.length B1] 110)::.blk b1 (ob [.slice p3 c.datas.length c4,.slice p9 c.inputs.length y1,.slice (some L2) c.funs.length z1,.slice W1 c.outputs.length c22] 27)::K) w:=by rw [jM V1,List.map_append,yN];exact N
  refine go fun a J=>?_
  replace N:=N.dl [0]
  refine J1 _ _ _ (by subst g0;omega) ⟨(k+1),(r1),rfl,⟨J.pk,N⟩,?_⟩
  trivial
  refine go fun a J=>?_
  rw [List.take_of_length_le (l:=C.params) (by omega)] at N
  have f:=N
  clear N
  obtain ⟨a1,P,N,Q0⟩:=f.freezeRow (i:=0) rfl
  clear f
  replace m:=RCore.mono _ _ _ _ P m
  replace z:=REx.mono _ _ _ _ P z
  replace G0:=G0.mono P
  replace s0:=RFun.mono _ _ _ _ P s0
  replace C0:=REx.mono _ _ _ _ P C0
  replace N:=N.nf
  have z0:SliceOf RStr a1 1 _ ((C.params.map Param.type)):=SliceOf.strs.2 Q0
  obtain ⟨K2,m2,D,L3,d4⟩:=z0.form (by decide)
  have g:=N
  clear N
  subst D
  have N:=g
  clear g
  refine go fun a J=>?_
  exact a0 _ _ ⟨a1,.slice K2 ((C.params.map Param.type)).length m2,(C.params.map Param.type),C.result,J.pk,N,⟨P,⟨z0,by rw [want_5 p2,hj];simp only;rw [X0];rfl⟩⟩⟩
  by_cases D0:e.kind=8
  refine jQ fun J5 w N a J=>?_
  refine go fun a J=>?_
  have f:=N
  clear N
  obtain ⟨f2,S,N,R0⟩:=f.freezeRow (i:=0) rfl
  clear f
  replace m:=RCore.mono _ _ _ _ S m
  replace z:=REx.mono _ _ _ _ S z
  replace N:=N.nf
  have B:SliceOf RStr f2 1 _ ([yU,yU]):=SliceOf.strs.2 R0
  obtain ⟨Y0,B0,D,M3,e4⟩:=B.form (by decide)
  have g:=N
  clear N
  subst D
  have N:=g
  clear g
  refine jQ fun K5 w N a J=>?_
  refine go fun a J=>?_
  have f:=N
  clear N
  obtain ⟨i0,G,N,S0⟩:=f.freezeRow (i:=0) rfl
  clear f
  replace m:=RCore.mono _ _ _ _ G m
  replace z:=REx.mono _ _ _ _ G z
  replace B:=B.up G
  replace N:=N.nf
  have A0:SliceOf RStr i0 1 _ ([⟨#[43]⟩,⟨#[45]⟩,⟨#[42]⟩,⟨#[47]⟩,⟨#[37]⟩]):=SliceOf.strs.2 S0
  obtain ⟨r5,y4,D,N3,f4⟩:=A0.form (by decide)
  have g:=N
  clear N
  subst D
  have N:=g
  clear g
  refine yH call18 (fun Z w N a J=>?_) (fun Z w N a J=>?_) (c:=y2s A0 N)
  refine go fun a J=>?_
  exact a0 _ _ ⟨i0,.slice Y0 ([yU,yU]).length B0,[yU,yU],(⟨#[73,110,116]⟩:Bs),J.pk,N,⟨(S).trans G,⟨B,by rw [q5k D0,opR,if_pos Z];rfl⟩⟩⟩
  by_cases K4:e.name=(⟨#[60]⟩:Bs)
  rotate_left
  by_cases L4:e.name=(⟨#[61]⟩:Bs)
  rotate_left
  refine jB ?_
  replace N:=N.le (((t).trans S).trans G)
  replace N:=N.dl [1,0]
  have hr_:zS c e vars=((⟨#[]⟩:Bs),false):=by exact z0p y j0 k0 l0 Y T (by rw [q5k (by assumption),opR,if_neg (by rw [Z];decide),if_neg (by rintro (h_ | h_) <;> contradiction)];rfl)
  show _/\_;rw [hr_];exact ⟨rfl,N⟩
  refine jB ?_
  replace N:=N.le (t)
  replace N:=N.dl [1,0]
  have hr_:zS c e vars=((⟨#[]⟩:Bs),false):=by exact z0p y j0 k0 l0 Y T (want_no (by assumption) (by assumption) (by assumption))
  show _/\_;rw [hr_];exact ⟨rfl,N⟩
  all_goals (refine go fun a J=>?_;exact a0 _ _ ⟨i0,.slice Y0 ([yU,yU]).length B0,[yU,yU],(⟨#[66,111,111,108]⟩:Bs),J.pk,N,⟨(S).trans G,⟨B,by rw [q5k D0,opR,if_neg (by rw [Z];decide),if_pos (by first | exact .inl (by assumption) | exact .inr (by assumption))];rfl⟩⟩⟩)
 by_cases M4:e.kind=7
 by_cases N4:e.kind=1
 rotate_left
 by_cases O4:e.num=0
 rotate_left
 refine jB ?_
 replace N:=N.dl [1,0]
 have hr_:zS c e vars=((⟨#[]⟩:Bs),false):=by exact y8k (by unfold cI;omega)
 show _/\_;rw [hr_];exact ⟨rfl,N⟩
 by_cases P4:0 < e.arms.length
 refine jB ?_
 replace N:=N.dl [1,0]
 have hr_:zS c e vars=((⟨#[]⟩:Bs),false):=by exact y8k (by unfold cI;omega)
 show _/\_;rw [hr_];exact ⟨rfl,N⟩
 by_cases Q4:e.kind=1
 rotate_left
 refine go fun a J=>?_
 by_cases R4:e.num=0
 rotate_left
 refine jB ?_
 replace N:=N.dl [1,0]
 have hr_:zS c e vars=((⟨#[]⟩:Bs),false):=by exact y8k (by unfold cI;omega)
 show _/\_;rw [hr_];exact ⟨rfl,N⟩
 all_goals (refine go fun a J=>?_;exact u0 _ _ ⟨J.pk,N,by unfold cI;omega⟩)
section
variable {Φ:Fz} {K:List Res} {w:World}
theorem x2k {d0:List Value} {c:Core} {b:Value} {vars:List Param} {d2:List Value} {e:Ex} (d:RCore Φ d0 c) (a:SliceOf RParam Φ 2 b vars) (f:REx Φ d2 e) (i:Lim c) (O:dW e) (hb:vars.length+(zN e).length<=1000000) (N:Mem Φ K w) :
  Calls prog 80 #[.agg d0.toArray,b,.agg d2.toArray] w (fun ee w'=>ee=.returned (.tuple #[.string (zS c e vars).1,.bool (zS c e vars).2])/\Mem Φ K w'):=by
 suffices H:∀n (e:Ex),e.sz < n->∀{Φ:Fz} {K:List Res} {w:World} {d0:List Value} {b:Value} {vars:List Param} {d2:List Value},RCore Φ d0 c->SliceOf RParam Φ 2 b vars->REx Φ d2 e->dW e->vars.length+(zN e).length<=1000000->Mem Φ K w->Calls prog 80 #[.agg d0.toArray,b,.agg d2.toArray] w (fun ee w'=>ee=.returned (.tuple #[.string (zS c e vars).1,.bool (zS c e vars).2])/\Mem Φ K w') from H _ e (Nat.lt_succ_self _) d a f O hb N
 intro n
 induction n with
 | zero=>intro e h;omega
 | succ n j=>intro e h Φ K w d0 b vars d2 g g1 r O hb m;exact j4r g g1 r i O hb (fun x l _ _ _ _ _ _ _ q0 k r O hb m=>j x (by omega) q0 k r O hb m) m
theorem y2t {v:Value} {l:List Bs} {s:Bs} (N:Mem Φ (.gs v 9 1 (strs l)::K) w) :
  Calls prog 18 #[v,.string s] w (fun ee w'=>ee=.returned (.bool (dA l s))/\Mem Φ (.gs v 9 1 (strs l)::K) w'):=by
 obtain ⟨Ψ,_,a,b,c⟩:=N.freezeRowT (i:=0) rfl
 exact (y2s (SliceOf.strs.2 b) a).mono fun ee w' h=>⟨h.1,c _ _ h.2⟩
theorem q3f {d0:List Value} {c:Core} (c0:RCore Φ d0 c) (w0:c.datas.length<=60) (P:∀d∈c.datas,d.cons.length<=16) (N:Mem Φ K w) :
  Calls prog 75 #[.agg d0.toArray] w (fun ee w'=>ee=.returned (.bool (z2v c.datas))/\Mem Φ K w'):=by
 obtain ⟨p3,c4,p9,L0,W0,M0,X0,c22,rfl,h2,h8,P0,R0,V0,k0,x0,C0,y0,D0,z0,E0⟩:=RCore.fm c0
 refine zL func75 ntmps75 fun Q hQ a J=>?_
 refine Bx fun J0 w N a J=>?_
 refine jQ fun l0 w N a J=>?_
 refine jQ fun m0 w N a J=>?_
 refine go fun a J=>?_
 replace N:=N.nf
 refine zU (J.ks [1]) N (fun R mm a w=>∃(i:Nat) (u:Value) (nl:List Bs) (u2:Value) (cl:List Bs),mm=c.datas.length - i/\R Φ [(3,u),(4,u2),(5,.int .i64 i)] [(0,.gs (u2) 9 1 (strs cl)),(1,.gs (u) 9 1 (strs nl))] a w/\(i<=c.datas.length/\nl.length=2+i/\cl.length<=2+16 * i/\z2v c.datas=cL c.datas (c.datas.drop i) nl cl)) (c.datas.length - 0) ⟨0,l0,[yU,kV],m0,[y7o,q9r],rfl,⟨J.pk,N⟩,⟨Nat.zero_le _,rfl,by decide,rfl⟩⟩ ?_
 clear N J
 rintro mm a w ⟨i,u,nl,u2,cl,p,⟨J,N⟩,G⟩ G0 I
 replace N:=N.nf
 obtain ⟨T0,i0,U0,g⟩:=G
 by_cases v:i < c.datas.length
 refine go fun a J=>?_
 obtain ⟨a1,rfl,e,b,p0,t0,r0,a0⟩:=h2.el k0 v
 obtain ⟨c1,rfl,y⟩:=id a0
 obtain ⟨Y0,N0,rfl,A0,W⟩:=y.fm
 refine Alc fun K0 w N a J=>?_
 refine Sto 0 fun w N a J=>?_
 refine yH call108 (fun C w N a J=>?_) (fun C w N a J=>?_) (c:=q0u N)
 replace N:=N.pl 2
 refine yH call18 (fun D w N a J=>?_) (fun D w N a J=>?_) (c:=y2t (l:=nl) N)
 refine zD ?_
 replace N:=N.dl [3,2,1,0]
 rotate_left
 by_cases S0:e.cons.length=0
 refine zD ?_
 replace N:=N.dl [3,2,1,0]
 rotate_left
 have T:conR e.name=true:=by assumption
 have U:(!dA nl e.name)=true:=by simp [*]
 have V:decide (e.cons.length≠0)=true:=by simp only [decide_eq_true_eq];omega
 refine jQ fun e1 w N a J=>?_
 refine vH 1 xQ (fun n0 w N a J=>?_) (hb:=by rw [zR];simp only [lcQ,lnQ];omega)
 first | rw [qI] at N | rw [<- yN] at N
 refine go fun a J=>?_
 refine zU (J.ks [1,3,5,6]) N (fun R mm a w=>∃(k:Nat) (u3:Value) (cm:List Bs),mm=e.cons.length - k/\R Φ [(4,u3),(7,.int .i64 k)] [(3,.gs (u3) 9 1 (strs cm))] a w/\(cl++(e.cons.take k).map Con.name=cm/\z0v c.datas e.cons cl=z0v c.datas (e.cons.drop k) cm)) (e.cons.length - 0) ⟨0,u2,cl,rfl,⟨J.pk,N⟩,⟨by simp,rfl⟩⟩ ?_
 clear N J
 rintro mm a w ⟨k,u3,cm,p,⟨J,N⟩,H⟩ H0 L
 replace N:=N.nf
 obtain ⟨s,o⟩:=H
 by_cases z:k < e.cons.length
 refine go fun a J=>?_
 obtain ⟨b1,rfl,f,h,q0,u0,s0,b0⟩:=y.el W z
 obtain ⟨d1,rfl,A⟩:=id b0
 obtain ⟨Z0,O0,rfl,B0,X⟩:=A.fm
 refine yH call108 (fun E w N a J=>?_) (fun E w N a J=>?_) (c:=q0u N)
 replace N:=N.pl 3
 refine yH call18 (fun F w N a J=>?_) (fun F w N a J=>?_) (c:=y2t (l:=cm) N)
 refine zD ?_
 replace N:=N.dl [4,3,2,1,0]
 exact zP N (by rw [g,zA b,cL,o,zA h,z0v];simp [*])
 have Y:conR f.name=true:=by assumption
 have Z:(!dA cm f.name)=true:=by simp [*]
 refine jQ fun f1 w N a J=>?_
 refine vH 1 xQ (fun o0 w N a J=>?_) (hb:=by have h_:=P _ (mgQ b);rw [zR,<- s,laQ,List.length_map,List.length_take];simp only [lcQ,lnQ];omega)
 first | rw [qI] at N | rw [<- yN] at N
 refine go fun a J=>?_
 refine zU (J.ks [1,3,4,5,6,7]) N (fun R mm a w=>∃(j:Nat),mm=f.fields.length - j/\R Φ [(8,.int .i64 j)] [] a w/\(f.fields.all (jZ c.datas)=(f.fields.drop j).all (jZ c.datas))) (f.fields.length - 0) ⟨0,rfl,⟨J.pk,N⟩,rfl⟩ ?_
 clear N J
 rintro mm a w ⟨j,p,⟨J,N⟩,n⟩ I0 M
 by_cases B:j < f.fields.length
 refine Reg [2,1,2,1,1,1,2,1,1,2,0,1] [0,1,2,3,4,5] fun w N a J=>?_
 refine go fun a J=>?_
 obtain ⟨F0,rfl,e0,q,r,j0,h0,t⟩:=A.el X B
 obtain rfl:r=[.string e0]:=t
 refine yH call78 (fun m w N a J=>?_) (fun m w N a J=>?_) (c:=z4o c0 N)
 refine go fun a J=>?_
 refine M _ _ _ (by subst p;omega) ⟨(j+1),rfl,⟨J.pk,N⟩,?_⟩
 rw [n,zA q,List.all_cons,m,Bool.true_and]
 refine zD ?_
 replace N:=N.dl [5,4,3,2,1,0]
 exact zP N (by rw [g,zA b,cL,o,zA h,z0v,show f.fields.all (jZ c.datas)=false by rw [n,zA q,List.all_cons,m];rfl];simp)
 refine go fun a J=>?_
 replace N:=N.ar [0] [4,1,4,4,4]
 refine L _ _ _ (by subst p;omega) ⟨(k+1),(o0),(cm++[f.name]),rfl,⟨J.pk,N⟩,?_⟩
 exact ⟨by rw [jM h,<- s];simp,by rw [o,zA h,z0v,Y,Z,show f.fields.all (jZ c.datas)=true by rw [n,zB B];rfl];rfl⟩
 refine zD ?_
 replace N:=N.dl [4,3,2,1,0]
 exact zP N (by rw [g,zA b,cL,o,zA h,z0v];simp [*])
 refine go fun a J=>?_
 have S:cm=cl++e.cons.map Con.name:=by rw [<- s,List.take_of_length_le (by omega)]
 rw [S] at N
 refine go fun a J=>?_
 replace N:=N.ar [2,0] [2,1,2]
 refine I _ _ _ (by subst p;omega) ⟨(i+1),(n0),(nl++[e.name]),(u3),(cl++e.cons.map Con.name),rfl,⟨J.pk,N⟩,?_⟩
 exact ⟨by omega,by simp [i0];omega,by have h_:=P _ (mgQ b);rw [laQ,List.length_map];omega,by rw [g,zA b,cL,T,U,V,show z0v c.datas e.cons cl=true by rw [o,zB z];rfl];rfl⟩
 refine zD ?_
 replace N:=N.dl [3,2,1,0]
 rotate_left
 refine zD ?_
 replace N:=N.dl [2,1,0]
 exact zP N (by rw [g,zB v];rfl)
 all_goals (exact zP N (by rw [g,zA b,cL];simp [*]))
end
theorem y0l (f:Fun) (fs:List Fun) (n:Nat):dS (f::fs) n=if 16 < f.params.length then true else dS fs (if n<=6000 then n+xG f.body (6000 - n) else n):=rfl
theorem z6t:∀{fs:List Fun} {l:Int},dZ fs l=false->∀f∈fs,f.params.length<=16
 | f::fs,l,h,g,a=>by
  simp only [dZ,Bool.or_eq_false_iff,decide_eq_false_iff_not] at h
  rcases List.mem_cons.1 a with rfl | a
  omega
  exact z6t h.2 g a
theorem j3z {e:Ex} (h:dW e):(zN e).length<=102000:=by
 obtain ⟨l,h1,a⟩:=h
 have b:=z3g e l a
 have:=(wJ e l a).1
 omega
theorem x0h {c:Core} (h:sF c=false):c.datas.length<=60/\c.inputs.length<=6/\c.funs.length<=300/\c.outputs.length<=6/\(∀d∈c.datas,d.cons.length<=16)/\(∀f∈c.funs,f.params.length<=16/\dW f.body/\(zN f.body).length<=102000)/\Lim c:=by
 rw [q8a] at h
 have e:=fun f a=>z4v h (f:=f) a
 simp only [xN,Bool.or_eq_false_iff,decide_eq_false_iff_not,List.any_eq_false] at h
 obtain ⟨⟨⟨⟨⟨h1,k⟩,l⟩,m⟩,g⟩,i⟩:=h
 have b:∀f∈c.funs,f.params.length<=16/\dW f.body/\(zN f.body).length<=102000:=fun f a=>⟨z6t i f a,e f a,j3z (e f a)⟩
 refine ⟨by omega,by omega,by omega,by omega,fun d j=>?_,b,by omega,fun f a=>by have:=(b f a).1;omega⟩
 have:=g d j
 simp only [dC,Bool.or_eq_true,decide_eq_true_eq,not_or] at this
 omega
theorem vU {c:Core} (h1:c.funs.any (fun f=>xS 250 f.body)=false) (a:sF c=false) (b:kA c=false):uL c=80:=by rw [uL,h1,a,b];rfl
theorem x3j {c:Core} (h1:c.funs.any (fun f=>xS 250 f.body)=false) (a:sF c=false) (b:kA c=true):uL c=0:=by rw [uL,h1,a,b];rfl
theorem outR_no {fs:List Fun} {o:Bs} (h:nB fs o < 0):y2h fs o=false:=by
 unfold nB at h;unfold y2h
 cases a:nH fs o with
 | none=>rfl
 | some j=>rw [a] at h;simp only at h;omega
theorem j7a {fs:List Fun} {o:Bs} {j:Nat} {f:Fun} (h:nH fs o=some j) (a:fs[j]? = some f):y2h fs o=decide (f.params.length=0):=by unfold y2h;rw [h];simp only;rw [a]
theorem j2c {Φ:Fz} {K:List Res} {w:World} {d0:List Value} {c:Core} (u0:RCore Φ d0 c) (N:Mem Φ K w) :
  Calls prog 74 #[.agg d0.toArray] w (fun ee w'=>ee=.returned (.bool (sF c))/\Mem Φ K w'):=by
 obtain ⟨p3,c4,p9,f0,f1,g0,s0,c22,rfl,h2,h8,h0,Y0,d1,r0,J0,O0,K0,X,L0,P0⟩:=RCore.fm u0
 refine zL func74 ntmps74 fun Q hQ a J=>?_
 refine Bx fun A w N a J=>?_
 by_cases Z0:60 < c.datas.length
 refine zD ?_
 replace N:=N.dl [0]
 exact zP N (by simp [sF, *])
 by_cases a1:6 < c.inputs.length
 refine zD ?_
 replace N:=N.dl [0]
 exact zP N (by simp [sF, *])
 by_cases b1:300 < c.funs.length
 refine zD ?_
 replace N:=N.dl [0]
 exact zP N (by simp [sF, *])
 refine go fun a J=>?_
 by_cases c1:6 < c.outputs.length
 refine zD ?_
 replace N:=N.dl [0]
 exact zP N (by simp [sF, *])
 refine go fun a J=>?_
 refine zU (J.ks [1]) N (fun R mm a w=>∃(i:Nat),mm=c.datas.length - i/\R Φ [(3,.int .i64 i)] [] a w/\(sF c=((c.datas.drop i).any dC || dS c.funs 0))) (c.datas.length - 0) ⟨0,rfl,⟨J.pk,N⟩,by simp [sF, *]⟩ ?_
 clear N J
 rintro mm a w ⟨i,h,⟨J,N⟩,e⟩ T0 P
 by_cases E:i < c.datas.length
 refine go fun a J=>?_
 obtain ⟨k1,rfl,d,l,z0,G0,E0,Z⟩:=h2.el r0 E
 obtain ⟨m1,rfl,F⟩:=id Z
 obtain ⟨h1,W0,rfl,M0,Y⟩:=F.fm
 by_cases G:16 < d.cons.length
 refine zD ?_
 replace N:=N.dl [0]
 exact zP N (by rw [e,zA l,List.any_cons,show dC d=true by unfold dC;rw [decide_eq_true G];rfl];rfl)
 have k0:=G
 refine go fun a J=>?_
 refine zU (J.ks [1,3]) N (fun R mm a w=>∃(k:Nat),mm=d.cons.length - k/\R Φ [(4,.int .i64 k)] [] a w/\(d.cons.any (fun x=>decide (16 < x.fields.length))=(d.cons.drop k).any (fun x=>decide (16 < x.fields.length)))) (d.cons.length - 0) ⟨0,rfl,⟨J.pk,N⟩,rfl⟩ ?_
 clear N J
 rintro mm a w ⟨k,h,⟨J,N⟩,f⟩ U0 S
 by_cases H:k < d.cons.length
 refine go fun a J=>?_
 obtain ⟨l1,rfl,w0,s,A0,H0,F0,a0⟩:=F.el Y H
 obtain ⟨n1,rfl,i0⟩:=id a0
 obtain ⟨i1,c80,rfl,N0,Q0⟩:=i0.fm
 by_cases I:16 < w0.fields.length
 refine zD ?_
 replace N:=N.dl [0]
 exact zP N (by rw [e,zA l,List.any_cons,show dC d=true by unfold dC;rw [f,zA s,List.any_cons,decide_eq_true I,Bool.true_or,Bool.or_true]];rfl)
 refine go fun a J=>?_
 refine S _ _ _ (by subst h;omega) ⟨(k+1),rfl,⟨J.pk,N⟩,?_⟩
 rw [f,zA s,List.any_cons,decide_eq_false I];rfl
 refine go fun a J=>?_
 refine P _ _ _ (by subst h;omega) ⟨(i+1),rfl,⟨J.pk,N⟩,?_⟩
 rw [e,zA l,List.any_cons,show dC d=false by unfold dC;rw [f,zB H,decide_eq_false k0];rfl];rfl
 refine go fun a J=>?_
 refine zU (J.ks [1]) N (fun R mm a w=>∃(i:Nat) (n:Nat),mm=c.funs.length - i/\R Φ [(5,.int .i64 n),(6,.int .i64 i)] [] a w/\(n<=6001/\sF c=dS (c.funs.drop i) n)) (c.funs.length - 0) ⟨0,0,rfl,⟨J.pk,N⟩,⟨by omega,by rw [e,zB E];rfl⟩⟩ ?_
 clear N J
 rintro mm a w ⟨i,n,h,⟨J,N⟩,M⟩ V0 T
 obtain ⟨e1,y⟩:=M
 refine go fun a J=>?_
 by_cases L:i < c.funs.length
 refine goJ 19 fun a J=>?_
 refine sq fun e0 U=>?_
 obtain ⟨t0,rfl,b,t,B0,I0,v,z⟩:=h0.el X L
 obtain ⟨S0,x0,rfl,D,p⟩:=id z
 obtain ⟨R0,y0,rfl,l0,o0⟩:=D.fm
 obtain ⟨b0,B,c0,C,rfl,j0,C0,D0,m0,p0,n0,q0⟩:=REx.fm p
 have g:∀a w,(∃(m:Nat),EnvR 97 [(1,.pointer (some ⟨A,0,none⟩)),(5,.int .i64 m),(6,.int .i64 i)] [] a/\Mem Φ (.blk A (ob [.slice p3 c.datas.length c4,.slice p9 c.inputs.length f0,.slice (some t0) c.funs.length g0,.slice s0 c.outputs.length c22] 27)::K) w/\(m=(if n<=6000 then n+xG b.body (6000 - n) else n)/\m<=6001))->e0 a w:=by
  clear N J
  rintro a w ⟨m,J,N,u⟩
  apply U
  obtain ⟨V,W⟩:=u
  by_cases q:16 < b.params.length
  refine zD ?_
  replace N:=N.dl [0]
  exact zP N (by rw [y,zA t,y0l];exact (if_pos q).symm)
  refine go fun a J=>?_
  refine T _ _ _ (by subst h;omega) ⟨(i+1),(m),rfl,⟨J.pk,N⟩,?_⟩
  exact ⟨W,by rw [y,zA t,y0l,if_neg q,<- V]⟩
 by_cases r:n<=6000
 refine Qq (fun a J=>?_) (o:=by exact fun J O=>vK 3 (vs:=[.int .i64 (b.body.kind),.int .i64 (b.body.num),.string b.body.name,.slice b0 b.body.args.length B,.slice c0 b.body.arms.length C]) J O rfl v isAgg110 sizeOf110 rfl rfl)
 refine Qq (fun a J=>?_) (o:=by exact fun J O=>wG ((6000 - n:Nat):Int) J rfl rfl (by rw [jI (by omega)];omega))
 refine zT call107 (fun w N a J=>?_) (c:=x8f (by omega) p N)
 refine Qq (fun a J=>?_) (o:=by exact fun J O=>z7r ((n+(xG b.body (6000 - n)):Nat):Int) J rfl rfl (by have h_:=mM b.body (6000 - n);rw [jI (by omega)];omega))
 refine go fun a J=>?_
 exact g _ _ ⟨n+(xG b.body (6000 - n)),J.pk,N,⟨(if_pos r).symm,by have h_:=mM b.body (6000 - n);omega⟩⟩
 refine go fun a J=>?_
 exact g _ _ ⟨n,J.pk,N,⟨(if_neg r).symm,by omega⟩⟩
 refine Qq (fun a J=>?_) (o:=by exact fun J O=>j4z (i:=n) (j:=6000) J rfl rfl)
 refine zD ?_
 replace N:=N.dl [0]
 exact zP N (by rw [y,zB L];rfl)
theorem j1i {Φ:Fz} {K:List Res} {w:World} {d0:List Value} {c:Core} (s:RCore Φ d0 c) (a2:∀v,d0[3]? = some v->Cap v) (N:Mem Φ K w) :
  Calls prog 44 #[.agg d0.toArray] w (fun ee w'=>ee=.returned (.int .i64 (uL c))/\Mem Φ K w'):=by
 obtain ⟨p3,c4,p9,b1,L2,e1,y1,c22,rfl,h2,h8,D,I,f4,g4,v3,r1,w3,U,x3,s1⟩:=RCore.fm s
 refine zL func44 ntmps44 fun Q hQ a J=>?_
 refine Bx fun a1 w N a J=>?_
 refine go fun a J=>?_
 refine zU (J.ks [1]) N (fun R mm a w=>∃(i:Nat),mm=c.funs.length - i/\R Φ [(3,.int .i64 i)] [] a w/\(c.funs.any (fun f=>xS 250 f.body)=(c.funs.drop i).any (fun f=>xS 250 f.body))) (c.funs.length - 0) ⟨0,rfl,⟨J.pk,N⟩,rfl⟩ ?_
 clear N J
 rintro mm a w ⟨i,B,⟨J,N⟩,i0⟩ U3 o1
 by_cases l1:i < c.funs.length
 refine go fun a J=>?_
 obtain ⟨k4,rfl,w0,G0,g3,t3,q1,t1⟩:=D.el U l1
 obtain ⟨l4,W3,rfl,M1,m1⟩:=id t1
 obtain ⟨h4,c46,rfl,y3,B3⟩:=M1.fm
 obtain ⟨M2,G1,N2,H1,rfl,s3,X3,Y3,z3,C3,A3,D3⟩:=REx.fm m1
 refine Qq (fun a J=>?_) (o:=by exact fun J O=>vK 3 (vs:=[.int .i64 (w0.body.kind),.int .i64 (w0.body.num),.string w0.body.name,.slice M2 w0.body.args.length G1,.slice N2 w0.body.arms.length H1]) J O rfl q1 isAgg110 sizeOf110 rfl rfl)
 refine yH call73 (fun e0 w N a J=>?_) (fun e0 w N a J=>?_) (c:=x7z (m:=250) (by omega) m1 N)
 refine zD ?_
 replace N:=N.dl [0]
 exact pY N (by rw [uL,i0,zA G0,List.any_cons,e0];rfl)
 refine go fun a J=>?_
 refine o1 _ _ _ (by subst B;omega) ⟨(i+1),rfl,⟨J.pk,N⟩,?_⟩
 rw [i0,zA G0,List.any_cons,e0];rfl
 have q:c.funs.any (fun f=>xS 250 f.body)=false:=by rw [i0,zB l1];rfl
 refine yH call74 (fun f0 w N a J=>?_) (fun f0 w N a J=>?_) (c:=j2c s N)
 refine zD ?_
 replace N:=N.dl [0]
 exact pY N (by rw [uL,q,f0];rfl)
 have r:=f0
 obtain ⟨e2,b4,d4,e4,m2,R0,n2⟩:=x0h r
 refine yH call75 (fun g0 w N a J=>?_) (fun g0 w N a J=>?_) (c:=q3f s e2 m2 N)
 by_cases N1:c.outputs.length=0
 refine zD ?_
 replace N:=N.dl [0]
 exact pY N (by exact (vU q r (by unfold kA;simp only [show decide (c.outputs.length≠0)=false from decide_eq_false (fun g=>g N1),Bool.false_and,Bool.and_false])).symm)
 have O1:=g0
 have T1:decide (c.outputs.length≠0)=true:=decide_eq_true (by omega)
 refine go fun a J=>?_
 replace N:=N.nilRow 9 1
 replace N:=N.nf
 refine zU (J.ks [1]) N (fun R mm a w=>∃(i1:Nat) (u:Value),mm=c.inputs.length - i1/\R Φ [(4,u),(5,.int .i64 i1)] [(0,.gs (u) 9 1 (strs ((c.inputs.take i1).map Param.name)))] a w/\(c.inputs.all (fun p=>xM c.datas p.type)=(c.inputs.drop i1).all (fun p=>xM c.datas p.type))) (c.inputs.length - 0) ⟨0,.slice none 0 0,rfl,⟨J.pk,N⟩,rfl⟩ ?_
 clear N J
 rintro mm a w ⟨i1,u,B,⟨J,N⟩,j0⟩ V3 p1
 replace N:=N.nf
 by_cases n1:i1 < c.inputs.length
 refine go fun a J=>?_
 obtain ⟨O2,rfl,Q2,t0,h3,u3,r3,u1⟩:=h8.el r1 n1
 obtain rfl:=id u1
 refine jQ fun P2 w N a J=>?_
 refine vH 1 xQ (fun D1 w N a J=>?_) (hb:=by rw [zR,List.length_map,List.length_take];simp only [lcQ,lnQ];omega)
 replace N:Mem Φ (.gs (P2) 9 1 [.string Q2.name]::.gs (D1) 9 1 (strs ((c.inputs.take (i1+1)).map Param.name))::.blk a1 (ob [.slice p3 c.datas.length c4,.slice (some O2) c.inputs.length b1,.slice L2 c.funs.length e1,.slice y1 c.outputs.length c22] 27)::K) w:=by rw [jM t0,List.map_append,yN];exact N
 refine Reg [2,1,2,1,1,1,2,0,1] [0,1,2] fun w N a J=>?_
 refine yH call76 (fun h0 w N a J=>?_) (fun h0 w N a J=>?_) (c:=y1j s N)
 refine go fun a J=>?_
 replace N:=N.dl [0]
 refine p1 _ _ _ (by subst B;omega) ⟨(i1+1),(D1),rfl,⟨J.pk,N⟩,?_⟩
 rw [j0,zA t0,List.all_cons,h0];rfl
 refine zD ?_
 replace N:=N.dl [2,1,0]
 exact pY N (by exact (vU q r (by unfold kA;simp only [show c.inputs.all (fun p=>xM c.datas p.type)=false by rw [j0,zA t0,List.all_cons,h0];rfl,Bool.false_and,Bool.and_false])).symm)
 refine go fun a J=>?_
 have Q1:c.inputs.all (fun p=>xM c.datas p.type)=true:=by rw [j0,zB n1];rfl
 rw [List.take_of_length_le (l:=c.inputs) (by omega)] at N
 replace N:=N.nf
 refine go fun a J=>?_
 have x0:=Cap.own N (i:=0) rfl
 have y:=N
 clear N
 obtain ⟨H,d,N,n0⟩:=y.freezeRow (i:=0) rfl
 clear y
 replace D:=D.up d
 replace I:=I.up d
 replace s:=RCore.mono _ _ _ _ d s
 replace N:=N.nf
 have V:SliceOf RStr H 1 _ ((c.inputs.map Param.name)):=SliceOf.strs.2 n0
 obtain ⟨E3,Y2,q0,o2,A2⟩:=V.form (by decide)
 have z:=N
 clear N
 subst q0
 have N:=z
 clear z
 refine yH call77 (fun L w N a J=>?_) (fun L w N a J=>?_) (c:=gC V x0 N)
 have S1:=L
 refine go fun a J=>?_
 replace N:=N.nilRow 9 1
 replace N:=N.nf
 refine zU (J.ks [1]) N (fun R mm a w=>∃(i2:Nat) (u:Value),mm=c.funs.length - i2/\R H [(4,u),(6,.int .i64 i2)] [(0,.gs (u) 9 1 (strs ((c.funs.take i2).map Fun.name)))] a w/\(c.funs.all (kP c.datas)=(c.funs.drop i2).all (kP c.datas))) (c.funs.length - 0) ⟨0,.slice none 0 0,rfl,⟨J.pk,N⟩,rfl⟩ ?_
 clear N J
 rintro mm a w ⟨i2,u,B,⟨J,N⟩,A⟩ R2 L0
 replace N:=N.nf
 by_cases y0:i2 < c.funs.length
 refine go fun a J=>?_
 obtain ⟨B1,rfl,b,t,I1,f2,k0,G⟩:=D.el U y0
 obtain ⟨Q3,V2,rfl,z0,Y⟩:=id G
 obtain ⟨v1,c1,rfl,p2,S0⟩:=z0.fm
 obtain ⟨w1,d1,x1,c143,rfl,b2,j3,k3,q2,B2,r2,C2⟩:=REx.fm Y
 refine Alc fun Z0 w N a J=>?_
 refine Sto 0 fun w N a J=>?_
 refine jQ fun C1 w N a J=>?_
 refine vH 2 xQ (fun I0 w N a J=>?_) (hb:=by rw [zR,List.length_map,List.length_take];simp only [lcQ,lnQ];omega)
 replace N:Mem H (.gs (C1) 9 1 [.string b.name]::.blk Z0 (ob [.string b.name,.slice v1 b.params.length c1,.string b.result,.int .i64 (b.body.kind),.int .i64 (b.body.num),.string b.body.name,.slice w1 b.body.args.length d1,.slice x1 b.body.arms.length c143] 112)::.gs (I0) 9 1 (strs ((c.funs.take (i2+1)).map Fun.name))::.blk a1 (ob [.slice p3 c.datas.length c4,.slice p9 c.inputs.length b1,.slice (some B1) c.funs.length e1,.slice y1 c.outputs.length c22] 27)::K) w:=by rw [jM t,List.map_append,yN];exact N
 refine go fun a J=>?_
 refine zU (J.ks [1,4,6,7]) N (fun R mm a w=>∃(k:Nat),mm=b.params.length - k/\R H [(8,.int .i64 k)] [] a w/\(b.params.all (fun p=>jZ c.datas p.type)=(b.params.drop k).all (fun p=>jZ c.datas p.type))) (b.params.length - 0) ⟨0,rfl,⟨J.pk,N⟩,rfl⟩ ?_
 clear N J
 rintro mm a w ⟨k,B,⟨J,N⟩,P⟩ S2 M0
 by_cases A0:k < b.params.length
 refine Reg [2,1,2,1,1,1,2,0,1] [0,1,2,3] fun w N a J=>?_
 refine go fun a J=>?_
 obtain ⟨M3,rfl,T3,r0,J1,g2,W1,U0⟩:=z0.el S0 A0
 obtain rfl:=id U0
 refine yH call78 (fun M w N a J=>?_) (fun M w N a J=>?_) (c:=z4o s N)
 refine go fun a J=>?_
 refine M0 _ _ _ (by subst B;omega) ⟨(k+1),rfl,⟨J.pk,N⟩,?_⟩
 rw [P,zA r0,List.all_cons,M];rfl
 refine zD ?_
 replace N:=N.le (d)
 replace N:=N.dl [3,2,1,0]
 exact pY N (by exact (vU q r (by unfold kA;simp only [show c.funs.all (kP c.datas)=false by rw [A,zA t,List.all_cons];unfold kP;rw [P,zA r0,List.all_cons,M];rfl,Bool.false_and,Bool.and_false])).symm)
 have T0:b.params.all (fun p=>jZ c.datas p.type)=true:=by rw [P,zB A0];rfl
 refine yH call78 (fun Z w N a J=>?_) (fun Z w N a J=>?_) (c:=z4o s N)
 refine go fun a J=>?_
 refine j6n J rfl rfl rfl rfl rfl (jF J rfl call79 (q6e (f:=b) G (by have h_:=R0 b (mgQ t);omega) N) fun v171 w N a J=>?_)
 replace N:=N.nf
 have l0:=Cap.own N (i:=0) rfl
 have y:=N
 clear N
 obtain ⟨Y0,n,N,o0⟩:=y.freezeRow (i:=0) rfl
 clear y
 replace D:=D.up n
 replace I:=I.up n
 replace s:=RCore.mono _ _ _ _ n s
 replace k0:=k0.mono n
 replace G:=RFun.mono _ _ _ _ n G
 replace Y:=REx.mono _ _ _ _ n Y
 replace N:=N.nf
 have W:SliceOf RStr Y0 1 _ ((b.params.map Param.name++zN b.body)):=SliceOf.strs.2 o0
 obtain ⟨F3,Z2,q0,s2,D2⟩:=W.form (by decide)
 have z:=N
 clear N
 subst q0
 have N:=z
 clear z
 refine yH call77 (fun a0 w N a J=>?_) (fun a0 w N a J=>?_) (c:=gC W l0 N)
 refine go fun a J=>?_
 replace N:=N.le (n)
 replace N:=N.dl [1,0]
 refine L0 _ _ _ (by subst B;omega) ⟨(i2+1),(I0),rfl,⟨J.pk,N⟩,?_⟩
 rw [A,zA t,List.all_cons,show kP c.datas b=true by unfold kP;rw [T0,show jZ c.datas b.result=true from (by first | assumption | exact pB (by assumption) | exact pA (by assumption)),show cJ (b.params.map Param.name++zN b.body)=true from (by first | assumption | exact pB (by assumption) | exact pA (by assumption))];rfl];rfl
 refine zD ?_
 replace N:=N.le ((d).trans n)
 replace N:=N.dl [3,2,1,0]
 exact pY N (by exact (vU q r (by unfold kA;simp only [show c.funs.all (kP c.datas)=false by rw [A,zA t,List.all_cons];unfold kP;simp only [a0,Bool.and_false,Bool.false_and],Bool.false_and,Bool.and_false])).symm)
 refine zD ?_
 replace N:=N.le (d)
 replace N:=N.dl [3,2,1,0]
 exact pY N (by exact (vU q r (by unfold kA;simp only [show c.funs.all (kP c.datas)=false by rw [A,zA t,List.all_cons];unfold kP;simp only [Z,Bool.and_false,Bool.false_and],Bool.false_and,Bool.and_false])).symm)
 refine go fun a J=>?_
 have P1:c.funs.all (kP c.datas)=true:=by rw [A,zB y0];rfl
 rw [List.take_of_length_le (l:=c.funs) (by omega)] at N
 replace N:=N.nf
 refine go fun a J=>?_
 have m0:=Cap.own N (i:=0) rfl
 have y:=N
 clear N
 obtain ⟨T,h,N,p0⟩:=y.freezeRow (i:=0) rfl
 clear y
 replace D:=D.up h
 replace I:=I.up h
 replace s:=RCore.mono _ _ _ _ h s
 replace N:=N.nf
 have X:SliceOf RStr T 1 _ ((c.funs.map Fun.name)):=SliceOf.strs.2 p0
 obtain ⟨G3,a3,q0,t2,E2⟩:=X.form (by decide)
 have z:=N
 clear N
 subst q0
 have N:=z
 clear z
 refine yH call77 (fun b0 w N a J=>?_) (fun b0 w N a J=>?_) (c:=gC X m0 N)
 refine yH call77 (fun c0 w N a J=>?_) (fun c0 w N a J=>?_) (c:=gC I (a2 _ rfl) N)
 refine go fun a J=>?_
 have R1:cJ (c.funs.map Fun.name)=true:=(by first | assumption | exact pB (by assumption) | exact pA (by assumption))
 have U1:cJ c.outputs=true:=(by first | assumption | exact pB (by assumption) | exact pA (by assumption))
 refine go fun a J=>?_
 refine zU (J.ks [1]) N (fun R mm a w=>∃(i3:Nat),mm=c.funs.length - i3/\R T [(9,.int .i64 i3)] [] a w/\(c.funs.all (mI c)=(c.funs.drop i3).all (mI c))) (c.funs.length - 0) ⟨0,rfl,⟨J.pk,N⟩,rfl⟩ ?_
 clear N J
 rintro mm a w ⟨i3,B,⟨J,N⟩,E⟩ T2 N0
 by_cases B0:i3 < c.funs.length
 refine Reg [2,1,2,1,1,1,2,1,2,1,1,1,2,0,1,1,1,1,1] [0] fun w N a J=>?_
 refine go fun a J=>?_
 obtain ⟨N3,rfl,e,C,K1,j2,P0,V0⟩:=D.el U B0
 obtain ⟨R3,W2,rfl,C0,D0⟩:=id V0
 obtain ⟨H3,b3,rfl,u2,F2⟩:=C0.fm
 obtain ⟨z1,f1,A1,g1,rfl,c2,l3,m3,v2,G2,w2,H2⟩:=REx.fm D0
 refine Qq (fun a J=>?_) (o:=by exact fun J O=>vK 3 (vs:=[.int .i64 (e.body.kind),.int .i64 (e.body.num),.string e.body.name,.slice z1 e.body.args.length f1,.slice A1 e.body.arms.length g1]) J O rfl P0 isAgg110 sizeOf110 rfl rfl)
 refine zT call80 (fun w N a J=>?_) (c:=x2k s C0 D0 n2 (R0 e (mgQ C)).2.1 (by have h_:=(R0 e (mgQ C));omega) N)
 refine go fun a J=>?_
 generalize Z1:(!((zS c e.body e.params).2))=J0 at J
 cases J0
 by_cases h1:(zS c e.body e.params).1=e.result
 refine go fun a J=>?_
 refine N0 _ _ _ (by subst B;omega) ⟨(i3+1),rfl,⟨J.pk,N⟩,?_⟩
 rw [E,zA C,List.all_cons,show mI c e=true by unfold mI;rw [show (zS c e.body e.params).2=true from (by first | assumption | exact pB (by assumption) | exact pA (by assumption)),decide_eq_true (by assumption)];rfl];rfl
 refine zD ?_
 replace N:=N.le ((d).trans h)
 replace N:=N.dl [0]
 exact pY N (by exact (vU q r (by unfold kA;simp only [show c.funs.all (mI c)=false by rw [E,zA C,List.all_cons];unfold mI;simp only [decide_eq_false h1,Bool.and_false,Bool.false_and],Bool.false_and,Bool.and_false])).symm)
 refine zD ?_
 replace N:=N.le ((d).trans h)
 replace N:=N.dl [0]
 exact pY N (by exact (vU q r (by unfold kA;simp only [show c.funs.all (mI c)=false by rw [E,zA C,List.all_cons];unfold mI;simp only [show (zS c e.body e.params).2=false from (by first | assumption | exact pB (by assumption) | exact pA (by assumption)),Bool.and_false,Bool.false_and],Bool.false_and,Bool.and_false])).symm)
 have V1:c.funs.all (mI c)=true:=by rw [E,zB B0];rfl
 refine go fun a J=>?_
 refine zU (J.ks [1]) N (fun R mm a w=>∃(i4:Nat),mm=c.outputs.length - i4/\R T [(12,.int .i64 i4)] [] a w/\(c.outputs.all (y2h c.funs)=(c.outputs.drop i4).all (y2h c.funs))) (c.outputs.length - 0) ⟨0,rfl,⟨J.pk,N⟩,rfl⟩ ?_
 clear N J
 rintro mm a w ⟨i4,B,⟨J,N⟩,F⟩ U2 O0
 by_cases E0:i4 < c.outputs.length
 refine Reg [2,1,2,1,1,2,0,1] [0] fun w N a J=>?_
 refine go fun a J=>?_
 obtain ⟨O3,rfl,u0,S,K0,k2,X1,W0⟩:=I.el s1 E0
 obtain rfl:K0=[.string u0]:=W0
 refine zT call81 (fun w N a J=>?_) (c:=z8l s N)
 by_cases F0:nB c.funs u0 < 0
 refine zD ?_
 replace N:=N.le ((d).trans h)
 replace N:=N.dl [0]
 exact pY N (by exact (vU q r (by unfold kA;simp only [show c.outputs.all (y2h c.funs)=false by rw [F,zA S,List.all_cons,outR_no F0];rfl,Bool.false_and,Bool.and_false])).symm)
 refine go fun a J=>?_
 obtain ⟨j,hj⟩:=y0i F0
 have a4:=q7h hj
 rw [show nB c.funs u0=((j:Nat):Int) by rw [nB,hj]] at J
 refine go fun a J=>?_
 have Q0:j < c.funs.length:=by omega
 obtain ⟨P3,rfl,E1,s0,L1,l2,Y1,X0⟩:=D.el U Q0
 obtain ⟨S3,X2,rfl,j1,k1⟩:=id X0
 obtain ⟨I3,d3,rfl,x2,I2⟩:=j1.fm
 obtain ⟨J3,e3,K3,f3,rfl,d2,n3,o3,y2,J2,z2,K2⟩:=REx.fm k1
 by_cases q3:0 < E1.params.length
 refine zD ?_
 replace N:=N.le ((d).trans h)
 replace N:=N.dl [0]
 exact pY N (by exact (vU q r (by unfold kA;simp only [show c.outputs.all (y2h c.funs)=false by rw [F,zA S,List.all_cons,j7a hj s0,decide_eq_false (by omega)];rfl,Bool.false_and,Bool.and_false])).symm)
 refine go fun a J=>?_
 refine O0 _ _ _ (by subst B;omega) ⟨(i4+1),rfl,⟨J.pk,N⟩,?_⟩
 rw [F,zA S,List.all_cons,j7a hj s0,decide_eq_true (by omega)];rfl
 refine zD ?_
 replace N:=N.le ((d).trans h)
 replace N:=N.dl [0]
 exact pY N (by exact (x3j q r (by unfold kA;rw [O1,T1,Q1,S1,P1,R1,U1,V1,show c.outputs.all (y2h c.funs)=true by rw [F,zB E0];rfl];rfl)).symm)
 refine zD ?_
 replace N:=N.le ((d).trans h)
 replace N:=N.dl [0]
 exact pY N (by exact (vU q r (by unfold kA;simp only [c0,Bool.false_and,Bool.and_false])).symm)
 refine zD ?_
 replace N:=N.le ((d).trans h)
 replace N:=N.dl [0]
 exact pY N (by exact (vU q r (by unfold kA;simp only [b0,Bool.false_and,Bool.and_false])).symm)
 refine zD ?_
 replace N:=N.le (d)
 replace N:=N.dl [0]
 exact pY N (by exact (vU q r (by unfold kA;simp only [L,Bool.false_and,Bool.and_false])).symm)
 refine zD ?_
 replace N:=N.dl [0]
 exact pY N (by exact (vU q r (by unfold kA;simp only [g0,Bool.false_and,Bool.and_false])).symm)
end Go.Sw
