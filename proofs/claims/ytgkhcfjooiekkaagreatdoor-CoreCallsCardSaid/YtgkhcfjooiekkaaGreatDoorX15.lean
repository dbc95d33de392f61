import Derived.Test.YtgkhcfjooiekkaaGreatDoorX14
set_option linter.unusedVariables false
set_option linter.unusedSimpArgs false
namespace Go.Sw
open Go.Proofs Go.Proofs.Tryz
set_option maxRecDepth 20000
set_option maxHeartbeats 4000000
section
variable {V:Fz} {K:List Res} {w:World}
theorem z7x {s:Bs} {lo a:Nat} (h:s.size < 1∨24 < s.size∨zH s 0 < lo∨a < zH s 0):z1l s lo a=false:=if_pos h
theorem x3n {s:Bs} {lo a:Nat} (h:¬(s.size < 1∨24 < s.size∨zH s 0 < lo∨a < zH s 0)) (h1:xW s=s.size):z1l s lo a=true:=by unfold z1l;rw [if_neg h,if_pos h1]
theorem q2z {s:Bs} {lo c i:Nat} (h1:xW s=i) (a:i≠s.size) (b:zH s i≠39∨i+1=s.size):z1l s lo c=false:=by
 subst h1;unfold z1l;rw [if_neg a,if_pos b];split <;> rfl
theorem z9x {s:Bs} {lo a i:Nat} (h:¬(s.size < 1∨24 < s.size∨zH s 0 < lo∨a < zH s 0)) (h1:xW s=i) (b:i≠s.size) (c:¬(zH s i≠39∨i+1=s.size)):z1l s lo a=decide (i+1+yV yC s s.size (i+1)=s.size):=by
 subst h1;unfold z1l;rw [if_neg h,if_neg b,if_neg c]
theorem x2m {c:Nat}  (N:Mem V K w) :
  Calls prog 207 #[.int .u8 ((c:Nat):Int)] w (fun ee w'=>ee=.returned (.bool (yT c))/\Mem V K w'):=by
 refine zK func207 ntmps207 fun Q hQ a J=>?_
 by_cases l:97<=c
 by_cases m:c<=122
 refine zF ?_
 exact zM N (by unfold yT qT qZ yC;simp <;> omega)
 by_cases n:65<=c
 refine go fun a J=>?_
 by_cases p:c<=90
 refine zF ?_
 exact zM N (by unfold yT qT qZ yC;simp <;> omega)
 by_cases q:48<=c
 by_cases r:c<=57
 refine zF ?_
 exact zM N (by unfold yT qT qZ yC;simp <;> omega)
 refine Qq (fun a J=>?_) (o:=by exact fun J O=>pS (i:=c) (j:=95) J rfl rfl)
 refine zF ?_
 exact zM N (by unfold yT qT qZ yC;simp <;> omega)
 refine Qq (fun a J=>?_) (o:=by exact fun J O=>pS (i:=c) (j:=95) J rfl rfl)
 refine zF ?_
 exact zM N (by unfold yT qT qZ yC;simp <;> omega)
 refine go fun a J=>?_
 by_cases s:48<=c
 by_cases b:c<=57
 refine zF ?_
 exact zM N (by unfold yT qT qZ yC;simp <;> omega)
 refine Qq (fun a J=>?_) (o:=by exact fun J O=>pS (i:=c) (j:=95) J rfl rfl)
 refine zF ?_
 exact zM N (by unfold yT qT qZ yC;simp <;> omega)
 refine Qq (fun a J=>?_) (o:=by exact fun J O=>pS (i:=c) (j:=95) J rfl rfl)
 refine zF ?_
 exact zM N (by unfold yT qT qZ yC;simp <;> omega)
 by_cases d:65<=c
 by_cases e:c<=90
 refine zF ?_
 exact zM N (by unfold yT qT qZ yC;simp <;> omega)
 refine go fun a J=>?_
 by_cases f:48<=c
 by_cases g:c<=57
 refine zF ?_
 exact zM N (by unfold yT qT qZ yC;simp <;> omega)
 refine Qq (fun a J=>?_) (o:=by exact fun J O=>pS (i:=c) (j:=95) J rfl rfl)
 refine zF ?_
 exact zM N (by unfold yT qT qZ yC;simp <;> omega)
 refine Qq (fun a J=>?_) (o:=by exact fun J O=>pS (i:=c) (j:=95) J rfl rfl)
 refine zF ?_
 exact zM N (by unfold yT qT qZ yC;simp <;> omega)
 by_cases h:48<=c
 refine go fun a J=>?_
 by_cases k:c<=57
 refine zF ?_
 exact zM N (by unfold yT qT qZ yC;simp <;> omega)
 refine Qq (fun a J=>?_) (o:=by exact fun J O=>pS (i:=c) (j:=95) J rfl rfl)
 refine zF ?_
 exact zM N (by unfold yT qT qZ yC;simp <;> omega)
 refine Qq (fun a J=>?_) (o:=by exact fun J O=>pS (i:=c) (j:=95) J rfl rfl)
 refine zF ?_
 exact zM N (by unfold yT qT qZ yC;simp <;> omega)
theorem j2j {s:Bs} {lo:Nat} {P:Nat}  (N:Mem V K w) :
  Calls prog 182 #[.string s,.int .u8 ((lo:Nat):Int),.int .u8 ((P:Nat):Int)] w (fun ee w'=>ee=.returned (.bool (z1l s lo P))/\Mem V K w'):=by
 refine zK func182 ntmps182 fun Q hQ a J=>?_
 by_cases h4:s.size < 1
 refine zF ?_
 exact zM N (by exact (z7x (by omega)).symm)
 by_cases h6:24 < s.size
 refine zF ?_
 exact zM N (by exact (z7x (by omega)).symm)
 have M:0 < s.size:=by omega
 obtain ⟨c9,f⟩:=wM M
 refine Qq (fun a J=>?_) (o:=by exact fun J O=>kB 0 c9 J rfl rfl runUnderlying9 f)
 have X:=qC f
 by_cases b0:c9.toNat < lo
 have I:=qC f
 refine zF ?_
 exact zM N (by exact (z7x (by omega)).symm)
 obtain ⟨z,p⟩:=wM M
 refine Qq (fun a J=>?_) (o:=by exact fun J O=>kB 0 z J rfl rfl runUnderlying9 p)
 have I:=qC p
 refine go fun a J=>?_
 by_cases c0:P < z.toNat
 refine zF ?_
 exact zM N (by exact (z7x (by omega)).symm)
 refine goJ 6 fun a J=>?_
 refine sq fun S F=>?_
 have n:∀a w,(∃(i:Nat),EnvR 74 [(0,.string s),(7,.int .i64 ((i:Nat):Int))] [] a/\Mem V (K) w/\(xW s=i/\1<=i/\i<=s.size/\¬(s.size < 1∨24 < s.size∨zH s 0 < lo∨P < zH s 0)))->S a w:=by
  clear N J
  rintro a w ⟨i,J,N,C⟩
  apply F
  obtain ⟨l,t,u,b⟩:=C
  by_cases d0:i=s.size
  refine zF ?_
  exact zM N (by exact (x3n b (by omega)).symm)
  have L:i < s.size:=by omega
  obtain ⟨A,q⟩:=wM L
  refine Qq (fun a J=>?_) (o:=by exact fun J O=>kB i A J rfl rfl runUnderlying9 q)
  have Y:=qC q
  by_cases e0:A.toNat=39
  by_cases f0:(i+1)=s.size
  refine zF ?_
  exact zM N (by exact (q2z l (by omega) (by omega)).symm)
  refine go fun a J=>?_
  refine zU (J.ks [0]) N (fun R mm a w=>∃(k:Nat),mm=s.size - k/\R V [(8,.int .i64 ((k:Nat):Int))] [] a w/\(k<=s.size/\i+1+yV yC s s.size (i+1)=k+yV yC s s.size k)) (s.size - (i+1)) ⟨i+1,rfl,⟨J.pk,N⟩,by exact ⟨by omega,rfl⟩⟩ ?_
  clear N J
  rintro mm a w ⟨k,y,⟨J,N⟩,D⟩ Z G
  obtain ⟨i0,m⟩:=D
  by_cases B:k < s.size
  obtain ⟨c42,g⟩:=wM B
  refine Qq (fun a J=>?_) (o:=by exact fun J O=>kB k c42 J rfl rfl runUnderlying9 g)
  have W:=qC g
  by_cases g0:c42.toNat < 48
  have r:=qC g
  refine zF ?_
  exact zM N (by rw [z9x b l (by omega) (by omega),m,vF,if_neg (by rintro ⟨_,d⟩;simp [yC] at d;omega)];exact (decide_eq_false (by omega)).symm)
  obtain ⟨c46,h⟩:=wM B
  refine Qq (fun a J=>?_) (o:=by exact fun J O=>kB k c46 J rfl rfl runUnderlying9 h)
  have r:=qC h
  by_cases h0:57 < c46.toNat
  refine zF ?_
  exact zM N (by rw [z9x b l (by omega) (by omega),m,vF,if_neg (by rintro ⟨_,d⟩;simp [yC] at d;omega)];exact (decide_eq_false (by omega)).symm)
  refine go fun a J=>?_
  refine G _ _ _ (by subst y;omega) ⟨(k+1),rfl,⟨J.pk,N⟩,?_⟩
  exact ⟨by omega,by rw [m,vF yC s k,if_pos ⟨by omega,by rw [qC h];simp [yC];omega⟩];omega⟩
  refine zF ?_
  exact zM N (by rw [z9x b l (by omega) (by omega),m,vF,if_neg (by omega)];exact (decide_eq_true (by omega)).symm)
  refine zF ?_
  exact zM N (by exact (q2z l (by omega) (by omega)).symm)
 refine go fun a J=>?_
 refine zU (J.ks [0]) N (fun R mm a w=>∃(i:Nat),mm=s.size - i/\R V [(7,.int .i64 ((i:Nat):Int))] [] a w/\(1<=i/\i<=s.size/\xW s=i+yV yT s s.size i/\¬(s.size < 1∨24 < s.size∨zH s 0 < lo∨P < zH s 0))) (s.size - 1) ⟨1,rfl,⟨J.pk,N⟩,by exact ⟨by omega,by omega,rfl,by omega⟩⟩ ?_
 clear N J
 rintro mm a w ⟨i,y,⟨J,N⟩,E⟩ a0 H
 obtain ⟨t,u,v,b⟩:=E
 by_cases U:i < s.size
 obtain ⟨T,j⟩:=wM U
 refine Qq (fun a J=>?_) (o:=by exact fun J O=>kB i T J rfl rfl runUnderlying9 j)
 refine zZ call207 (fun e w N a J=>?_) (fun e w N a J=>?_) (c:=x2m N)
 refine go fun a J=>?_
 refine H _ _ _ (by subst y;omega) ⟨(i+1),rfl,⟨J.pk,N⟩,?_⟩
 exact ⟨by omega,by omega,by rw [v,vF yT s i,if_pos ⟨by omega,by rw [qC j];exact e⟩];omega,b⟩
 refine go fun a J=>?_
 exact n _ _ ⟨i,J.pk,N,⟨by rw [v,vF yT s i,if_neg (by rintro ⟨_,d⟩;rw [qC j,e] at d;cases d)];rfl,t,u,b⟩⟩
 refine go fun a J=>?_
 exact n _ _ ⟨i,J.pk,N,⟨by rw [v,vF yT s i,if_neg (by omega)];rfl,t,u,b⟩⟩
theorem x7s {s:Bs}  (N:Mem V K w) :
  Calls prog 197 #[.string s] w (fun ee w'=>ee=.returned (.bool (z4r s))/\Mem V K w'):=by
 refine zK func197 ntmps197 fun Q hQ a J=>?_
 refine qF fun v3 w N a J=>?_
 refine zZ call182 (fun g w N a J=>?_) (fun g w N a J=>?_) (c:=j2j (s:=s) N)
 refine go fun a J=>?_
 have b:=N
 clear N
 obtain ⟨k,j,N,f⟩:=b.freezeRow (i:=0) rfl
 clear b
 replace N:=N.nf
 have e:SliceOf RStr k 1 _ (wordsL):=SliceOf.strs.2 f
 obtain ⟨o,n,h,l,m⟩:=e.form (by decide)
 have d:=N
 clear N
 subst h
 have N:=d
 clear d
 refine zO call87 (fun w N a J=>?_) (c:=y2j e N)
 refine zF ?_
 replace N:=N.le (j)
 exact zM N (by simp [z4r, *])
 refine zF ?_
 replace N:=N.dl [0]
 exact zM N (by simp [z4r, *])
theorem x1r {s:Bs}  (N:Mem V K w) :
  Calls prog 161 #[.string s] w (fun ee w'=>ee=.returned (.bool (z4r s))/\Mem V K w'):=by
 refine zK func161 ntmps161 fun Q hQ a J=>?_
 refine zO call197 (fun w N a J=>?_) (c:=x7s N)
 refine zF ?_
 exact zM N (by rfl)
theorem q1m {s:Bs}  (N:Mem V K w) :
  Calls prog 134 #[.string s] w (fun ee w'=>ee=.returned (.bool (conR s))/\Mem V K w'):=by
 refine zK func134 ntmps134 fun Q hQ a J=>?_
 refine zO call182 (fun w N a J=>?_) (c:=j2j (s:=s) N)
 refine zF ?_
 exact zM N (by rfl)
theorem y0l (N:Mem V K w) :
  Calls prog 169 #[] w (fun ee w'=>∃y:Fz×List Value,ee=.returned (.agg y.2.toArray)/\(V.Le y.1/\RData y.1 y.2 truthsD)/\Mem y.1 K w'):=by
 refine zK func169 ntmps169 fun Q hQ a J=>?_
 refine Alc fun n w N a J=>?_
 refine zX fun a J=>?_
 refine zX fun a J=>?_
 refine qF fun v4 w N a J=>?_
 have b:=N
 clear N
 obtain ⟨f,j,N,e⟩:=b.freezeRow (i:=0) rfl
 clear b
 replace N:=N.nf
 have d:SliceOf RCon f 2 _ (truthsD.cons):=⟨_,e,⟨[_,_],[_,_],rfl,rfl,⟨_,rfl,SliceOf.nil 1⟩,[_,_],[],rfl,rfl,⟨_,rfl,SliceOf.nil 1⟩,rfl⟩⟩
 obtain ⟨o,m,h,k,l⟩:=d.form (by decide)
 have c:=N
 clear N
 subst h
 have N:=c
 clear c
 refine zX fun a J=>?_
 refine Sto 0 fun w N a J=>?_
 refine go fun a J=>?_
 have g:=N
 replace N:=N.dl [0]
 refine qG (N:=g) ?_
 exact ⟨(f,_),rfl,⟨j,_,rfl,d⟩,N⟩
theorem z5c {d0:List Value} {c:Core} {name:Bs} (l:RCore V d0 c) (N:Mem V K w) :
  Calls prog 118 #[.agg d0.toArray,.string name] w (fun ee w'=>∃y:Fz×List Value,ee=.returned (.tuple #[.agg y.2.toArray,.bool (yK c.datas name).isSome])/\(V.Le y.1/\RData y.1 y.2 ((yK c.datas name).getD aL))/\Mem y.1 K w'):=by
 obtain ⟨p3,c4,p9,e0,k0,f0,l0,c22,rfl,v,h8,h0,i0,j0,C,L,U,M,W,P,X⟩:=RCore.fm l
 refine zK func118 ntmps118 fun Q hQ a J=>?_
 refine Bx fun b0 w N a J=>?_
 refine Alc fun c0 w N a J=>?_
 by_cases n:name=(⟨#[66,111,111,108]⟩:Bs)
 refine yP call169 (fun F w q N a J=>?_) (c:=y0l N)
 obtain ⟨t,g0⟩:=F
 obtain ⟨b,e⟩:=q
 simp only at b e N J
 replace v:=v.up b
 replace l:=l.up b
 replace N:=N.nf
 obtain ⟨n0,rfl,z⟩:=id e
 obtain ⟨D,u,rfl,S,Y⟩:=z.fm
 refine Sto 0 fun w N a J=>?_
 refine go fun a J=>?_
 have d:=N
 replace N:=N.dl [1,0]
 refine hQ _ _ _ (xV (i:=0) (cs:=[.string truthsD.name,.slice D truthsD.cons.length u]) J d.toSees results118 rfl rfl isAgg133 sizeOf133 rfl rfl ?_)
 have m:=show yK c.datas name=some truthsD from if_pos n
 rw [m];exact ⟨(t,_),rfl,⟨b,e⟩,N⟩
 refine go fun a J=>?_
 refine zU (J.ks [1,2,4]) N (fun R mm a w=>∃(i:Nat),mm=c.datas.length - i/\R V [(6,.int .i64 ((i:Nat):Int))] [] a w/\(¬name=kO/\kK c.datas name=kK (c.datas.drop i) name)) (c.datas.length - 0) ⟨0,rfl,⟨J.pk,N⟩,⟨n,rfl⟩⟩ ?_
 clear N J
 rintro mm a w ⟨i,B,⟨J,N⟩,r⟩ a0 s
 obtain ⟨j,k⟩:=r
 by_cases o:i < c.datas.length
 refine go fun a J=>?_
 obtain ⟨m0,rfl,f,h,G,I,H,g⟩:=v.el C o
 obtain ⟨o0,rfl,A⟩:=id g
 obtain ⟨E,c63,rfl,T,Z⟩:=A.fm
 by_cases p:f.name=name
 refine Sto 0 fun w N a J=>?_
 refine go fun a J=>?_
 have d:=N
 replace N:=N.dl [1,0]
 refine hQ _ _ _ (xV (i:=0) (cs:=[.string f.name,.slice E f.cons.length c63]) J d.toSees results118 rfl rfl isAgg133 sizeOf133 rfl rfl ?_)
 have m:=show yK c.datas name=some f by rw [yK,if_neg j,k,zA h,kK,if_pos p]
 rw [m];exact ⟨(V,_),rfl,⟨Fz.Le.refl _,g⟩,N⟩
 refine go fun a J=>?_
 refine s _ _ _ (by subst B;omega) ⟨(i+1),rfl,⟨J.pk,N⟩,?_⟩
 exact ⟨j,by rw [k,zA h,kK,if_neg p]⟩
 refine zX fun a J=>?_
 refine Sto 0 fun w N a J=>?_
 refine go fun a J=>?_
 have d:=N
 replace N:=N.dl [1,0]
 refine hQ _ _ _ (xV (i:=0) (cs:=[.string ⟨#[]⟩,.slice none 0 0]) J d.toSees results118 rfl rfl isAgg133 sizeOf133 rfl rfl ?_)
 have m:=show yK c.datas name=none by rw [yK,if_neg j,k,zB o,kK]
 rw [m];exact ⟨(V,_),rfl,⟨Fz.Le.refl _,⟨_,rfl,SliceOf.nil 2⟩⟩,N⟩
theorem z5i {d0:List Value} {c:Core} {name:Bs} (d:RCore V d0 c) (N:Mem V K w) :
  Calls prog 81 #[.agg d0.toArray,.string name] w (fun ee w'=>ee=.returned (.bool (xA c.datas name))/\Mem V K w'):=by
 obtain ⟨P,c4,R,y,F,z,G,c22,rfl,L,M,B,C,D,E,k,p,l,q,m,r⟩:=RCore.fm d
 refine zK func81 ntmps81 fun Q hQ a J=>?_
 refine Bx fun u w N a J=>?_
 refine yP call118 (fun i w g N a J=>?_) (c:=z5c d N)
 obtain ⟨t,A⟩:=i
 obtain ⟨b,e⟩:=g
 simp only at b e N J
 replace d:=d.up b
 replace N:=N.nf
 obtain ⟨I,rfl,h⟩:=id e
 obtain ⟨H,c37,rfl,n,s⟩:=h.fm
 refine Alc fun v w N a J=>?_
 refine Sto 0 fun w N a J=>?_
 refine go fun a J=>?_
 generalize j:(yK c.datas name).isSome=f at J
 cases f
 refine Qq (fun a J=>?_) (o:=by exact fun J O=>z8a J rfl rfl)
 refine zF ?_
 replace N:=N.le (b)
 replace N:=N.dl [1,0]
 exact zM N (by simp [xA,yH, *] <;> rfl)
 refine zF ?_
 replace N:=N.le (b)
 replace N:=N.dl [1,0]
 exact zM N (by simp [xA,yH, *] <;> rfl)
theorem dQ {d0:List Value} {c:Core} {name:Bs} (o:RCore V d0 c) (N:Mem V K w) :
  Calls prog 55 #[.agg d0.toArray,.string name] w (fun ee w'=>ee=.returned (.int .i64 (xF c.funs name))/\Mem V K w'):=by
 obtain ⟨p3,c4,p9,M,a0,P,b0,c22,rfl,h2,h8,k,U,Y,Z,u,C,v,h,y,D⟩:=RCore.fm o
 refine zK func55 ntmps55 fun Q hQ a J=>?_
 refine Bx fun I w N a J=>?_
 refine go fun a J=>?_
 refine zU (J.ks [1,2]) N (fun R mm a w=>∃(i:Nat),mm=c.funs.length - i/\R V [(5,.int .i64 ((i:Nat):Int))] [] a w/\(mM c.funs name=z1i (c.funs.drop i) name i)) (c.funs.length - 0) ⟨0,rfl,⟨J.pk,N⟩,rfl⟩ ?_
 clear N J
 rintro mm a w ⟨i,n,⟨J,N⟩,b⟩ H g
 by_cases e:i < c.funs.length
 refine go fun a J=>?_
 obtain ⟨g0,rfl,p,d,q,t,r,j⟩:=k.el h e
 obtain ⟨h0,L,rfl,l,m⟩:=id j
 obtain ⟨c0,c46,rfl,z,E⟩:=l.fm
 obtain ⟨e0,S,f0,T,rfl,s,W,X,A,F,B,G⟩:=REx.fm m
 by_cases f:p.name=name
 refine zF ?_
 replace N:=N.dl [0]
 exact vP N (by rw [xF,b,zA d,z1i,if_pos f])
 refine go fun a J=>?_
 refine g _ _ _ (by subst n;omega) ⟨(i+1),rfl,⟨J.pk,N⟩,?_⟩
 rw [b,zA d,z1i,if_neg f]
 refine zF ?_
 replace N:=N.dl [0]
 exact vP N (by rw [xF,b,zB e,z1i])
theorem x0j {d0:List Value} {c:Core} {name:Bs} (p:RCore V d0 c) (l0:c.datas.length<=1000) (N:Mem V K w) :
  Calls prog 163 #[.agg d0.toArray,.string name] w (fun ee w'=>∃y:Fz×List Value,ee=.returned (.tuple #[.agg y.2.toArray,.string (((aH c.datas name).map Maker.data).getD sNo),.bool (aH c.datas name).isSome])/\(V.Le y.1/\RCon y.1 y.2 (((aH c.datas name).map Maker.con).getD y1c))/\Mem y.1 K w'):=by
 obtain ⟨p3,c4,p9,E0,M0,F0,N0,c22,rfl,X,h8,I0,J0,K0,L0,m0,t0,n0,u0,o0,w0⟩:=RCore.fm p
 refine zK func163 ntmps163 fun Q hQ a J=>?_
 refine Bx fun C0 w N a J=>?_
 refine Alc fun D0 w N a J=>?_
 refine go fun a J=>?_
 refine yE [0,0,1,2,0,1] (.q 2 (.q 3 (.e 0 (.e 1 (.e 4 (.q 5 (.done))))))) [0,1] J N fun w N=>?_
 refine yP call169 (fun c0 w I N a J=>?_) (c:=y0l N)
 obtain ⟨z0,H0⟩:=c0
 obtain ⟨f,d⟩:=I
 simp only at f d N J
 replace X:=X.up f
 replace p:=p.up f
 replace N:=N.nf
 obtain ⟨T0,rfl,Y⟩:=id d
 obtain ⟨O0,c38,rfl,p0,x0⟩:=Y.fm
 refine qF fun W0 w N a J=>?_
 obtain ⟨e0,s,b⟩:=id X
 refine qQ 0 rt_22 (fun X0 w N a J=>?_) (hr:=s.rowIn N.toSees) (h1:=b.ones RData.ones) (hb:=by have h_:=b.length;simp only [lcQ,lnQ];omega)
 refine go fun a J=>?_
 have u:=N
 clear N
 obtain ⟨l,g,N,t⟩:=u.freezeRow (i:=0) rfl
 clear u
 replace p:=p.up g
 replace d:=d.up g
 replace b:=b.mono fun _ _ h=>h.up g
 replace N:=N.nf
 have o:SliceOf RData l 2 _ (truthsD::c.datas):=⟨_,t,⟨_,_,rfl,rfl,d,b⟩⟩
 obtain ⟨P0,c53,a0,q0,P⟩:=o.form (by decide)
 have v:=N
 clear N
 subst a0
 have N:=v
 clear v
 refine go fun a J=>?_
 refine zU (J.ks [1,4,7]) N (fun R mm a w=>∃(i:Nat),mm=(truthsD::c.datas).length - i/\R l [(8,.int .i64 ((i:Nat):Int))] [] a w/\(pM (truthsD::c.datas) name=pM ((truthsD::c.datas).drop i) name)) ((truthsD::c.datas).length - 0) ⟨0,rfl,⟨J.pk,N⟩,rfl⟩ ?_
 clear N J
 rintro mm a w ⟨i,D,⟨J,N⟩,m⟩ A0 L
 by_cases E:i < (truthsD::c.datas).length
 refine go fun a J=>?_
 obtain ⟨R0,rfl,j,A,f0,j0,h0,T⟩:=o.el P E
 obtain ⟨U0,rfl,F⟩:=id T
 obtain ⟨Q0,G0,rfl,r0,S⟩:=F.fm
 refine zU (J.ks [1,4,7,8]) N (fun R mm a w=>∃(k:Nat),mm=j.cons.length - k/\R l [(9,.int .i64 ((k:Nat):Int))] [] a w/\(vL j.cons name=vL (j.cons.drop k) name)) (j.cons.length - 0) ⟨0,rfl,⟨J.pk,N⟩,rfl⟩ ?_
 clear N J
 rintro mm a w ⟨k,D,⟨J,N⟩,n⟩ B0 M
 by_cases G:k < j.cons.length
 refine go fun a J=>?_
 obtain ⟨S0,rfl,r,B,g0,k0,i0,z⟩:=F.el S G
 obtain ⟨V0,rfl,Z⟩:=id z
 obtain ⟨b0,U,rfl,s0,y0⟩:=Z.fm
 by_cases H:r.name=name
 refine Reg [1,1,1,1,2,1,1,2,1,1,1,1,2,0,1,1] [1] fun w N a J=>?_
 refine Sto 0 fun w N a J=>?_
 refine go fun a J=>?_
 have C:=N
 replace N:=N.dl [1,0]
 refine hQ _ _ _ (nG (i:=0) (cs:=[.string r.name,.slice b0 r.fields.length U]) J C.toSees results163 rfl rfl isAgg135 sizeOf135 rfl rfl rfl ?_)
 have W:=show aH c.datas name=some ⟨j.name,r⟩ by show pM (truthsD::c.datas) name=_;rw [m,zA A,pM,show vL j.cons name=some r by rw [n,zA B,vL,if_pos H]]
 rw [W];exact ⟨(l,_),rfl,⟨(f).trans g,z⟩,N⟩
 refine go fun a J=>?_
 refine M _ _ _ (by subst D;omega) ⟨(k+1),rfl,⟨J.pk,N⟩,?_⟩
 rw [n,zA B,vL,if_neg H]
 refine go fun a J=>?_
 refine L _ _ _ (by subst D;omega) ⟨(i+1),rfl,⟨J.pk,N⟩,?_⟩
 rw [m,zA A,pM,show vL j.cons name=none by rw [n,zB G,vL]]
 refine zX fun a J=>?_
 refine Sto 0 fun w N a J=>?_
 refine go fun a J=>?_
 have C:=N
 replace N:=N.dl [1,0]
 refine hQ _ _ _ (nG (i:=0) (cs:=[.string ⟨#[]⟩,.slice none 0 0]) J C.toSees results163 rfl rfl isAgg135 sizeOf135 rfl rfl rfl ?_)
 have W:=show aH c.datas name=none by show pM (truthsD::c.datas) name=_;rw [m,zB E,pM]
 rw [W];exact ⟨(l,_),rfl,⟨(f).trans g,⟨_,rfl,SliceOf.nil 1⟩⟩,N⟩
theorem y0j {name:Bs} {d:Data} {l:List Data} (h:¬d.name=name):wW name (d::l)=wW name l/\kW name (d::l)=kW name l:=by
 simp only [wW,kW,List.any_cons,List.filter_cons,h,decide_false,Bool.false_and,Bool.false_or,Bool.false_eq_true,if_false,and_self]
theorem z1r {name:Bs} {d:Data} {l:List Data} (h:d.name=name):wW name (d::l)=(nP name d.cons || wW name l)/\kW name (d::l)=kW name l+1:=by
 simp only [wW,kW,List.any_cons,List.filter_cons,h,decide_true,Bool.true_and,if_true,lcQ,and_self]
theorem z6a (name:Bs) (x:Con) (l:List Con):nP name (x::l)=(x.fields.any (inF name) || nP name l):=rfl
theorem j4a {ds:List Data} {name:Bs} (a:¬name=yH) (h:wW name ds=true):xT ds name=false:=by rw [xT,if_neg a,h];rfl
theorem y4u {ds:List Data} {name:Bs} {n:Nat} (a:¬name=yH) (h:wW name ds=false) (h1:kW name ds=n):xT ds name=(decide (n=1) && !decide (name=kO)):=by rw [xT,if_neg a,h,h1];rfl
theorem y2c {d0:List Value} {c:Core} {name:Bs} (T:RCore V d0 c) (N:Mem V K w) :
  Calls prog 109 #[.agg d0.toArray,.string name] w (fun ee w'=>ee=.returned (.bool (xT c.datas name))/\Mem V K w'):=by
 obtain ⟨p3,c4,p9,q0,C0,r0,D0,c22,rfl,h2,h8,t0,w0,B0,S,e0,j0,f0,k0,g0,l0⟩:=RCore.fm T
 refine zK func109 ntmps109 fun Q hQ a J=>?_
 refine Bx fun p0 w N a J=>?_
 by_cases A:name=(⟨#[73,110,116]⟩:Bs)
 refine zF ?_
 replace N:=N.dl [0]
 exact zM N (by rw [xT];exact (if_pos A).symm)
 refine go fun a J=>?_
 refine zU (J.ks [1,2]) N (fun R mm a w=>∃(i:Nat) (n:Nat),mm=c.datas.length - i/\R V [(5,.int .i64 ((n:Nat):Int)),(6,.int .i64 ((i:Nat):Int))] [] a w/\(¬name=yH/\n<=i/\wW name c.datas=wW name (c.datas.drop i)/\kW name c.datas=n+kW name (c.datas.drop i))) (c.datas.length - 0) ⟨0,0,rfl,⟨J.pk,N⟩,⟨A,Nat.le_refl _,rfl,by rw [Nat.zero_add];rfl⟩⟩ ?_
 clear N J
 rintro mm a w ⟨i,n,e,⟨J,N⟩,F⟩ m0 u
 obtain ⟨p,A0,q,t⟩:=F
 by_cases h:i < c.datas.length
 refine go fun a J=>?_
 obtain ⟨G0,rfl,d,b,U,a0,X,L⟩:=h2.el S h
 obtain ⟨J0,rfl,B⟩:=id L
 obtain ⟨E0,s0,rfl,h0,H⟩:=B.fm
 by_cases l:d.name=name
 refine go fun a J=>?_
 refine zU (J.ks [1,2,5,6]) N (fun R mm a w=>∃(k:Nat),mm=d.cons.length - k/\R V [(7,.int .i64 ((k:Nat):Int))] [] a w/\(nP name d.cons=nP name (d.cons.drop k))) (d.cons.length - 0) ⟨0,rfl,⟨J.pk,N⟩,rfl⟩ ?_
 clear N J
 rintro mm a w ⟨k,e,⟨J,N⟩,m⟩ n0 G
 by_cases C:k < d.cons.length
 refine go fun a J=>?_
 obtain ⟨H0,rfl,f,y,W,b0,Y,M⟩:=B.el H C
 obtain ⟨K0,rfl,D⟩:=id M
 obtain ⟨F0,c75,rfl,i0,I⟩:=D.fm
 refine go fun a J=>?_
 refine zU (J.ks [1,2,5,6,7,8]) N (fun R mm a w=>∃(j:Nat),mm=f.fields.length - j/\R V [(9,.int .i64 ((j:Nat):Int))] [] a w/\(f.fields.any (inF name)=(f.fields.drop j).any (inF name))) (f.fields.length - 0) ⟨0,rfl,⟨J.pk,N⟩,rfl⟩ ?_
 clear N J
 rintro mm a w ⟨j,e,⟨J,N⟩,g⟩ o0 v
 by_cases E:j < f.fields.length
 refine go fun a J=>?_
 obtain ⟨I0,rfl,s,r,z,c0,Z,P⟩:=D.el I E
 obtain rfl:z=[.string s]:=P
 by_cases x0:s=(⟨#[73,110,116]⟩:Bs)
 refine go fun a J=>?_
 refine v _ _ _ (by subst e;omega) ⟨(j+1),rfl,⟨J.pk,N⟩,?_⟩
 rw [g,zA r,List.any_cons,show inF name s=false by simp [inF,yH, *],Bool.false_or]
 by_cases y0:s=name
 refine go fun a J=>?_
 refine v _ _ _ (by subst e;omega) ⟨(j+1),rfl,⟨J.pk,N⟩,?_⟩
 rw [g,zA r,List.any_cons,show inF name s=false by simp [inF,yH, *],Bool.false_or]
 refine zF ?_
 replace N:=N.dl [0]
 exact zM N (by exact (j4a p (by rw [q,zA b,(z1r l).1,show nP name d.cons=true by rw [m,zA y,z6a,show f.fields.any (inF name)=true by rw [g,zA r,List.any_cons];simp [inF,yH, *]];rfl];rfl)).symm)
 refine go fun a J=>?_
 refine G _ _ _ (by subst e;omega) ⟨(k+1),rfl,⟨J.pk,N⟩,?_⟩
 rw [m,zA y,z6a,show f.fields.any (inF name)=false by rw [g,zB E];rfl,Bool.false_or]
 refine go fun a J=>?_
 refine u _ _ _ (by subst e;omega) ⟨(i+1),((n+1)),rfl,⟨J.pk,N⟩,?_⟩
 exact ⟨p,by omega,by rw [q,zA b,(z1r l).1,show nP name d.cons=false by rw [m,zB C];rfl,Bool.false_or],by rw [t,zA b,(z1r l).2];omega⟩
 refine go fun a J=>?_
 refine u _ _ _ (by subst e;omega) ⟨(i+1),(n),rfl,⟨J.pk,N⟩,?_⟩
 exact ⟨p,by omega,by rw [q,zA b,(y0j l).1],by rw [t,zA b,(y0j l).2]⟩
 by_cases z0:n=1
 refine Qq (fun a J=>?_) (o:=by exact fun J O=>j9v J rfl rfl)
 refine zF ?_
 replace N:=N.dl [0]
 exact zM N (by rw [y4u (n:=n) p (by rw [q,zB h];rfl) (by rw [t,zB h];rfl)];simp [kO, *] <;> rfl)
 refine zF ?_
 replace N:=N.dl [0]
 exact zM N (by rw [y4u (n:=n) p (by rw [q,zB h];rfl) (by rw [t,zB h];rfl)];simp [kO, *] <;> rfl)
theorem j5m {d0:List Value} {e:Ex} (b:REx V d0 e) (N:Mem V K w) :
  Calls prog 106 #[.agg d0.toArray,.int .i64 ((0:Nat):Int)] w (fun ee w'=>ee=.returned (.bool (vB 0 e))/\Mem V K w'):=by
 obtain ⟨m,c4,n,h,rfl,c,k,l,i,j,d,f⟩:=REx.fm b
 refine zK func106 ntmps106 fun Q hQ a J=>?_
 refine Bx fun g w N a J=>?_
 refine Qq (fun a J=>?_) (o:=by exact fun J O=>jU true J rfl rfl rfl)
 refine zF ?_
 replace N:=N.dl [0]
 exact zM N (by rw [y3q])
theorem j5l {d0:List Value} {e:Ex} {m:Nat} (I:REx V d0 e) (B0:m < 100000) (ih:∀{V:Fz} {K:List Res} {w:World} {d:List Value} {e:Ex},REx V d e->Mem V K w->Calls prog 106 #[.agg d.toArray,.int .i64 ((m:Nat):Int)] w (fun ee w'=>ee=.returned (.bool (vB m e))/\Mem V K w')) (N:Mem V K w) :
  Calls prog 106 #[.agg d0.toArray,.int .i64 ((m+1:Nat):Int)] w (fun ee w'=>ee=.returned (.bool (vB (m+1) e))/\Mem V K w'):=by
 obtain ⟨p3,c4,p9,p0,rfl,S,h2,h8,A0,F,Y,z⟩:=REx.fm I
 refine zK func106 ntmps106 fun Q hQ a J=>?_
 refine Bx fun n0 w N a J=>?_
 by_cases D:m+1=0
 refine zF ?_
 replace N:=N.dl [0]
 exact zM N (by exact absurd D (by omega))
 refine go fun a J=>?_
 refine zU (J.ks [1,2]) N (fun R mm a w=>∃(i:Nat),mm=e.args.length - i/\R V [(5,.int .i64 ((i:Nat):Int))] [] a w/\(vB (m+1) e=((e.args.drop i).any (vB m) || e.arms.any fun a=>vB m a.body))) (e.args.length - 0) ⟨0,rfl,⟨J.pk,N⟩,by rw [z5f];rfl⟩ ?_
 clear N J
 rintro mm a w ⟨i,q,⟨J,N⟩,g⟩ l0 u
 by_cases r:i < e.args.length
 refine go fun a J=>?_
 obtain ⟨F0,rfl,I0,n,L,W,P,l⟩:=h2.el F r
 obtain ⟨C0,q0,D0,r0,rfl,T,u0,w0,Z,f0,a0,g0⟩:=REx.fm l
 refine Qq (fun a J=>?_) (o:=by exact fun J O=>xX ((m:Nat):Int) J rfl rfl (by rw [yD (by omega)];omega))
 refine zZ call106 (fun b w N a J=>?_) (fun b w N a J=>?_) (c:=ih l N)
 refine zF ?_
 replace N:=N.dl [0]
 exact zM N (by rw [g,zA n,List.any_cons,b];rfl)
 refine go fun a J=>?_
 refine u _ _ _ (by subst q;omega) ⟨(i+1),rfl,⟨J.pk,N⟩,?_⟩
 rw [g,zA n,List.any_cons,b,Bool.false_or]
 refine go fun a J=>?_
 refine zU (J.ks [1,2]) N (fun R mm a w=>∃(j:Nat),mm=e.arms.length - j/\R V [(6,.int .i64 ((j:Nat):Int))] [] a w/\(vB (m+1) e=(e.arms.drop j).any fun a=>vB m a.body)) (e.arms.length - 0) ⟨0,rfl,⟨J.pk,N⟩,by rw [g,zB r];rfl⟩ ?_
 clear N J
 rintro mm a w ⟨j,q,⟨J,N⟩,h⟩ m0 v
 by_cases s:j < e.arms.length
 refine go fun a J=>?_
 obtain ⟨G0,rfl,k,p,M,X,y,A⟩:=h8.el z s
 obtain ⟨H0,o0,rfl,E,t⟩:=RArm.iff.1 A
 obtain ⟨E0,s0,rfl,b0,h0⟩:=E.fm
 obtain ⟨G,B,H,C,rfl,U,x0,z0,c0,i0,e0,j0⟩:=REx.fm t
 refine Qq (fun a J=>?_) (o:=by exact fun J O=>jF 2 (vs:=[.int .i64 (k.body.kind),.int .i64 (k.body.num),.string k.body.name,.slice G k.body.args.length B,.slice H k.body.arms.length C]) J O rfl y isAgg66 sizeOf66 rfl rfl)
 refine Qq (fun a J=>?_) (o:=by exact fun J O=>xX ((m:Nat):Int) J rfl rfl (by rw [yD (by omega)];omega))
 refine zZ call106 (fun f w N a J=>?_) (fun f w N a J=>?_) (c:=ih t N)
 refine zF ?_
 replace N:=N.dl [0]
 exact zM N (by rw [h,zA p,List.any_cons,f];rfl)
 refine go fun a J=>?_
 refine v _ _ _ (by subst q;omega) ⟨(j+1),rfl,⟨J.pk,N⟩,?_⟩
 rw [h,zA p,List.any_cons,f,Bool.false_or]
 refine zF ?_
 replace N:=N.dl [0]
 exact zM N (by rw [h,zB s];rfl)
theorem x8i {m:Nat} (a:m < 100000):∀{V:Fz} {K:List Res} {w:World} {d:List Value} {e:Ex},REx V d e->Mem V K w->Calls prog 106 #[.agg d.toArray,.int .i64 ((m:Nat):Int)] w (fun ee w'=>ee=.returned (.bool (vB m e))/\Mem V K w'):=by
 induction m with
 | zero=>intro V K w d e re N;exact j5m re N
 | succ m b=>intro V K w d e re N;exact j5l re (by omega) (fun r h=>b (by omega) r h) N
theorem j5w {d0:List Value} {e:Ex} {most:Nat} (Z:REx V d0 e) (h1:most<=1000000) (ih:∀x:Ex,x.sz < e.sz->∀{V:Fz} {K:List Res} {w:World} {d:List Value} {most:Nat},most<=1000000->REx V d x->Mem V K w->Calls prog 160 #[.agg d.toArray,.int .i64 (most:Int)] w (fun ee w'=>ee=.returned (.int .i64 ((xM x most:Nat):Int))/\Mem V K w')) (N:Mem V K w) :
  Calls prog 160 #[.agg d0.toArray,.int .i64 (most:Int)] w (fun ee w'=>ee=.returned (.int .i64 (((xM e most:Nat):Int)))/\Mem V K w'):=by
 obtain ⟨p3,c4,p9,u,rfl,e0,h2,h8,N0,W,j0,H⟩:=REx.fm Z
 refine zK func160 ntmps160 fun Q hQ a J=>?_
 refine Bx fun s w N a J=>?_
 refine goJ 6 fun a J=>?_
 refine sq fun L C=>?_
 have p:∀a w,(∃(n:Nat),EnvR 66 [(1,.int .i64 ((most:Nat):Int)),(2,.pointer (some ⟨s,0,none⟩)),(5,.int .i64 ((n:Nat):Int))] [] a/\Mem V (.blk s (ob [.int .i64 (e.kind),.int .i64 (e.num),.string e.name,.slice p3 e.args.length c4,.slice p9 e.arms.length u] 66)::K) w/\(1<=n/\n<=most+1/\xM e most=sizeAr e.arms most n))->L a w:=by
  clear N J
  rintro a w ⟨n,J,N,y⟩
  apply C
  obtain ⟨h,k,b⟩:=y
  refine sq fun M D=>?_
  have q:∀a w,(∃(n:Nat),EnvR 66 [(5,.int .i64 ((n:Nat):Int))] [] a/\Mem V (.blk s (ob [.int .i64 (e.kind),.int .i64 (e.num),.string e.name,.slice p3 e.args.length c4,.slice p9 e.arms.length u] 66)::K) w/\(xM e most=n))->M a w:=by
   clear N J
   rintro a w ⟨n,J,N,z⟩
   apply D
   refine zF ?_
   replace N:=N.dl [0]
   exact vP N (by rw [z])
  refine go fun a J=>?_
  refine zU (J.ks [1,2]) N (fun R mm a w=>∃(j:Nat) (n:Nat),mm=e.arms.length - j/\R V [(5,.int .i64 ((n:Nat):Int)),(7,.int .i64 ((j:Nat):Int))] [] a w/\(1<=n/\n<=most+1/\xM e most=sizeAr (e.arms.drop j) most n)) (e.arms.length - 0) ⟨0,n,rfl,⟨J.pk,N⟩,⟨h,k,b⟩⟩ ?_
  clear N J
  rintro mm a w ⟨j,n,t,⟨J,N⟩,A⟩ y0 E
  clear h k b
  obtain ⟨h,k,b⟩:=A
  by_cases S:j < e.arms.length
  by_cases F0:n<=most
  refine go fun a J=>?_
  obtain ⟨R0,rfl,f,g,a0,h0,G,I⟩:=h8.el H S
  obtain ⟨T0,A0,rfl,T,v⟩:=RArm.iff.1 I
  obtain ⟨O0,B0,rfl,k0,p0⟩:=T.fm
  obtain ⟨X,P,Y,c58,rfl,f0,G0,H0,l0,q0,m0,r0⟩:=REx.fm v
  by_cases I0:16 < f.vars.length
  refine zF ?_
  replace N:=N.dl [0]
  exact vP N (by rw [b,zA g,z2z,if_pos (by omega),if_pos (by omega)])
  refine Qq (fun a J=>?_) (o:=by exact fun J O=>jF 2 (vs:=[.int .i64 (f.body.kind),.int .i64 (f.body.num),.string f.body.name,.slice X f.body.args.length P,.slice Y f.body.arms.length c58]) J O rfl G isAgg66 sizeOf66 rfl rfl)
  refine Qq (fun a J=>?_) (o:=by exact fun J O=>xX ((most - n:Nat):Int) J rfl rfl (by rw [yD (by omega)];omega))
  refine zO call160 (fun w N a J=>?_) (c:=ih _ (by first | exact Ex.lt_args (mgQ g) | exact Ex.lt_arms (mgQ g)) (by omega) v N)
  refine Qq (fun a J=>?_) (o:=by exact fun J O=>z1m ((n+(xM f.body (most - n)):Nat):Int) J rfl rfl (by have h_:=nI f.body (most - n);rw [yD (by omega)];omega))
  refine go fun a J=>?_
  refine E _ _ _ (by subst t;omega) ⟨(j+1),(n+(xM f.body (most - n))),rfl,⟨J.pk,N⟩,?_⟩
  have h_:=nI f.body (most - n);exact ⟨by omega,by omega,by rw [b,zA g,z2z,if_pos (by omega),if_neg (by omega)]⟩
  refine go fun a J=>?_
  exact q _ _ ⟨n,J.pk,N,by rw [b,y6q (by omega)]⟩
  refine go fun a J=>?_
  exact q _ _ ⟨n,J.pk,N,by rw [b,y6q (by omega)]⟩
 refine go fun a J=>?_
 refine zU (J.ks [1,2]) N (fun R mm a w=>∃(i:Nat) (n:Nat),mm=e.args.length - i/\R V [(5,.int .i64 ((n:Nat):Int)),(6,.int .i64 ((i:Nat):Int))] [] a w/\(1<=n/\n<=most+1/\xM e most=sizeAr e.arms most (sizeRs (e.args.drop i) most n))) (e.args.length - 0) ⟨0,1,rfl,⟨J.pk,N⟩,⟨by omega,by omega,x9f e most⟩⟩ ?_
 clear N J
 rintro mm a w ⟨i,n,t,⟨J,N⟩,B⟩ z0 F
 obtain ⟨h,k,b⟩:=B
 by_cases U:i < e.args.length
 by_cases J0:n<=most
 refine go fun a J=>?_
 obtain ⟨S0,rfl,m,l,b0,i0,c0,r⟩:=h2.el W U
 obtain ⟨P0,C0,Q0,D0,rfl,g0,L0,M0,n0,s0,o0,t0⟩:=REx.fm r
 refine Qq (fun a J=>?_) (o:=by exact fun J O=>xX ((most - n:Nat):Int) J rfl rfl (by rw [yD (by omega)];omega))
 refine zO call160 (fun w N a J=>?_) (c:=ih _ (by first | exact Ex.lt_args (mgQ l) | exact Ex.lt_arms (mgQ l)) (by omega) r N)
 refine Qq (fun a J=>?_) (o:=by exact fun J O=>z1m ((n+(xM m (most - n)):Nat):Int) J rfl rfl (by have h_:=nI m (most - n);rw [yD (by omega)];omega))
 refine go fun a J=>?_
 refine F _ _ _ (by subst t;omega) ⟨(i+1),(n+(xM m (most - n))),rfl,⟨J.pk,N⟩,?_⟩
 have h_:=nI m (most - n);exact ⟨by omega,by omega,by rw [b,zA l,j1n,if_pos (by omega)]⟩
 refine go fun a J=>?_
 exact p _ _ ⟨n,J.pk,N,⟨h,k,by rw [b,y6r (by omega)]⟩⟩
 refine go fun a J=>?_
 exact p _ _ ⟨n,J.pk,N,⟨h,k,by rw [b,y6r (by omega)]⟩⟩
theorem x8o {d:List Value} {e:Ex} {most:Nat} (h1:most<=1000000) (re:REx V d e) (N:Mem V K w) :
  Calls prog 160 #[.agg d.toArray,.int .i64 (most:Int)] w (fun ee w'=>ee=.returned (.int .i64 ((xM e most:Nat):Int))/\Mem V K w'):=by
 suffices H:∀n (e:Ex),e.sz < n->∀{V:Fz} {K:List Res} {w:World} {d:List Value} {most:Nat},most<=1000000->REx V d e->Mem V K w->Calls prog 160 #[.agg d.toArray,.int .i64 (most:Int)] w (fun ee w'=>ee=.returned (.int .i64 ((xM e most:Nat):Int))/\Mem V K w') from H _ e (Nat.lt_succ_self _) h1 re N
 intro n
 induction n with
 | zero=>intro e h;omega
 | succ n b=>intro e h V K w d most h1 re N;exact j5w re h1 (fun x c _ _ _ _ _ a r m=>b x (by omega) a r m) N
theorem y4r (l:List Bs) (s:Bs):has l s=sH l s:=rfl
theorem oJ {v0:Value} {l:List Bs} (e:SliceOf RStr V 1 v0 l) (k:Cap v0) (N:Mem V K w) :
  Calls prog 110 #[v0] w (fun ee w'=>ee=.returned (.bool (dH l))/\Mem V K w'):=by
 obtain ⟨B,c0,rfl,y,t⟩:=e.fm
 have r:=k _ _ _ rfl
 refine zK func110 ntmps110 fun Q hQ a J=>?_
 refine go fun a J=>?_
 refine zU (J.ks [0]) N (fun R mm a w=>∃(i:Nat),mm=l.length - i/\R V [(3,.int .i64 ((i:Nat):Int))] [] a w/\(dH l=mD z4r (l.take i) (l.drop i))) (l.length - 0) ⟨0,rfl,⟨J.pk,N⟩,by rfl⟩ ?_
 clear N J
 rintro mm a w ⟨i,s,⟨J,N⟩,d⟩ A q
 by_cases p:i < l.length
 refine Reg [1,1,1,2,0,1,1,1,1,1,1,1,1,1,2,0,1] [] fun w N a J=>?_
 refine go fun a J=>?_
 obtain ⟨z,rfl,f,b,g,v,u,m⟩:=e.el t p
 obtain rfl:g=[.string f]:=m
 refine zZ call161 (fun h w N a J=>?_) (fun h w N a J=>?_) (c:=x1r N)
 have n:=j1o e p
 refine Qq (fun a J=>?_) (o:=by exact fun J O=>q7e J rfl rfl rfl runUnderlying25 sizeOf9 (by omega))
 refine zZ call87 (fun j w N a J=>?_) (fun j w N a J=>?_) (c:=y2j n N)
 refine zF ?_
 exact zM N (by rw [d,zA b,mD];simp [y4r, *])
 refine go fun a J=>?_
 refine q _ _ _ (by subst s;omega) ⟨(i+1),rfl,⟨J.pk,N⟩,?_⟩
 rw [d,zA b,mD,jY b,show (z4r f && !has (l.take i) f)=true by simp [y4r, *]];rfl
 refine zF ?_
 exact zM N (by rw [d,zA b,mD];simp [y4r, *])
 refine zF ?_
 exact zM N (by rw [d,zB p];rfl)
end
theorem wE {b:Bool} (h:(!b)=false):b=true:=by cases b;cases h;rfl
theorem x7y {α:Type} {o:Option α} (h:o.isSome=false):o=none:=by cases o;rfl;cases h
theorem kM {b:Bool} (h:(!b)=true):b=false:=by cases b;rfl;cases h
theorem j3f {V:Fz} {K:List Res} {w:World} {d0:List Value} {c:Core} {v1:Value} {vars:List Param} {d2:List Value} {e:Ex} (t:RCore V d0 c) (m:SliceOf RParam V 2 v1 vars) (S:REx V d2 e) (hL:Lim c) (O:pU e) (hb:vars.length+(zP e).length<=1000000) (ih:∀x:Ex,x.sz < e.sz->∀{V:Fz} {K:List Res} {w:World} {d0:List Value} {v1:Value} {vars:List Param} {d2:List Value},RCore V d0 c->SliceOf RParam V 2 v1 vars->REx V d2 x->pU x->vars.length+(zP x).length<=1000000->Mem V K w->Calls prog 111 #[.agg d0.toArray,v1,.agg d2.toArray] w (fun ee w'=>ee=.returned (.tuple #[.string (zS c x vars).1,.bool (zS c x vars).2])/\Mem V K w')) (N:Mem V K w) :
  Calls prog 162 #[.agg d0.toArray,v1,.agg d2.toArray] w (fun ee w'=>ee=.returned (.tuple #[.string (nY c e vars).1,.bool (nY c e vars).2])/\Mem V K w'):=by
 obtain ⟨p3,c4,p9,j2,G2,k2,H2,c22,rfl,h2,h8,q2,r2,B2,D2,D1,L1,E1,M1,F1,N1⟩:=RCore.fm t
 obtain ⟨p1,c1,rfl,A2,C2⟩:=m.fm
 obtain ⟨I2,l2,J2,m2,rfl,A1,P0,i0,G1,F0,H1,G0⟩:=REx.fm S
 refine zK func162 ntmps162 fun Q hQ a J=>?_
 refine Bx fun e2 w N a J=>?_
 refine Bx fun f2 w N a J=>?_
 by_cases u2:e.args.length=1
 by_cases v2:e.name=(⟨#[]⟩:Bs)
 refine Reg [2,1,1,2,1,2,0,1,1,1,1,1] [0,1] fun w N a J=>?_
 have X:¬(e.args.length≠1∨e.name≠sNo):=by simp [sNo, *]
 refine go fun a J=>?_
 have D0:0 < e.args.length:=by omega
 obtain ⟨N2,rfl,W,q,s1,C1,A,r⟩:=P0.el F0 D0
 obtain ⟨K2,n2,L2,c63,rfl,B1,w2,x2,I1,O1,J1,P1⟩:=REx.fm r
 refine zO call111 (fun w N a J=>?_) (c:=ih _ (Ex.lt_args (mgQ q)) t m r ((yO O).2.1 _ (mgQ q)) (by have h_:=tZ (mgQ q);omega) N)
 refine yP call118 (fun i1 w C0 N a J=>?_) (c:=z5c t N)
 obtain ⟨E,p2⟩:=i1
 obtain ⟨h,C⟩:=C0
 simp only at h C N J
 replace t:=t.up h
 replace m:=m.up h
 replace i0:=i0.up h
 replace S:=S.up h
 replace A:=A.mono h
 replace r:=r.up h
 replace N:=N.nf
 obtain ⟨P2,rfl,A0⟩:=id C
 obtain ⟨M2,o2,rfl,K1,H0⟩:=A0.fm
 refine Alc fun i2 w N a J=>?_
 refine Sto 0 fun w N a J=>?_
 refine go fun a J=>?_
 generalize y1:(!((zS c W vars).2))=u0 at J
 cases u0
 refine go fun a J=>?_
 generalize z1:(!(yK c.datas ((zS c W vars).1)).isSome)=w0 at J
 cases w0
 by_cases y2:((yK c.datas ((zS c W vars).1)).getD aL).cons.length=e.arms.length
 refine go fun a J=>?_
 have E0:=x4w (c:=c) (vars:=vars) X q (by first | assumption | exact wE (by assumption) | exact kM (by assumption)) (by first | assumption | exact wE (by assumption) | exact kM (by assumption)) (by omega)
 refine go fun a J=>?_
 refine zU (J.ks [1,3,5,10]) N (fun R mm a w=>∃(i:Nat) (o:Bs),mm=e.arms.length - i/\R E [(12,.string o),(13,.int .i64 ((i:Nat):Int))] [] a w/\(nY c e vars=armsR c (e.arms.drop i) (((yK c.datas ((zS c W vars).1)).getD aL).cons.drop i) (decide (i=0)) o vars)) (e.arms.length - 0) ⟨0,sNo,rfl,⟨J.pk,N⟩,E0⟩ ?_
 clear N J
 rintro mm a w ⟨i,o,Y,⟨J,N⟩,p⟩ c2 b0
 by_cases B0:i < e.arms.length
 refine go fun a J=>?_
 obtain ⟨O2,rfl,d,j,M0,U0,G,v⟩:=i0.el G0 B0
 obtain ⟨Z1,k1,rfl,Z,z⟩:=RArm.iff.1 v
 obtain ⟨R1,m1,rfl,Y0,n0⟩:=Z.fm
 obtain ⟨S1,n1,T1,o1,rfl,T0,t1,u1,Z0,e1,a1,f1⟩:=REx.fm z
 refine Alc fun l1 w N a J=>?_
 refine Sto 0 fun w N a J=>?_
 refine Reg [1,2,1,2,1,1,1,2,1,1,1,2,1,1,2,1,1,1,2,1,1,1] [0,1,2,3] fun w N a J=>?_
 refine go fun a J=>?_
 have l0:i < ((yK c.datas ((zS c W vars).1)).getD aL).cons.length:=by omega
 obtain ⟨W1,rfl,f,n,N0,V0,H,y⟩:=A0.el H0 l0
 obtain ⟨a2,rfl,a0⟩:=id y
 obtain ⟨U1,q1,rfl,b1,o0⟩:=a0.fm
 by_cases x0:d.con=f.name
 by_cases y0:d.vars.length=f.fields.length
 refine go fun a J=>?_
 have B:¬(d.con≠f.name∨d.vars.length≠f.fields.length):=fun g=>g.elim (fun g=>g x0) (fun g=>g y0)
 refine st J rfl rfl rfl (vH (sz:=2) (cs:=[]) J N rfl (dK runUnderlying23 sizeOf72) rfl (by decide) fun v146 w N _ a J=>?_)
 refine go fun a J=>?_
 obtain ⟨F,M,s⟩:=id m
 refine st J rfl rfl rfl (jD 0 (xs:=[]) (news:=F) z4s J N rfl rfl rfl (M.rowIn N.toSees) (s.ones RParam.ones) (by intro n_ m_ I0 J0;have h_:=s.length;simp only [lnQ] at I0;omega) fun L0 w N a J=>?_)
 replace N:=N.nf
 refine go fun a J=>?_
 refine zU (J.ks [1,3,5,10,12,13,14]) N (fun R mm a w=>∃(k:Nat) (u:Value) (cs:List Value),mm=d.vars.length - k/\R E [(15,u),(16,.int .i64 ((k:Nat):Int))] [(0,.gs (u) 72 2 cs)] a w/\(k<=d.vars.length/\Chunks (RParam E) 2 cs (vars++jT (d.vars.take k) (f.fields.take k)))) (d.vars.length - 0) ⟨0,L0,F,rfl,⟨J.pk,N⟩,⟨Nat.zero_le _,by simpa [jT] using s⟩⟩ ?_
 clear N J
 rintro mm a w ⟨k,u,cs,Y,⟨J,N⟩,j0⟩ j1 k0
 replace N:=N.nf
 obtain ⟨z2,L⟩:=j0
 by_cases z0:k < d.vars.length
 refine Reg [1,1,2,1,1,2,1,2,1,1,1,2,1,1,2,1,0,0,1] [1,2,3,4] fun w N a J=>?_
 refine go fun a J=>?_
 obtain ⟨X1,rfl,T,r0,g0,W0,Q0,p0⟩:=Z.el n0 z0
 obtain rfl:g0=[.string T]:=p0
 refine go fun a J=>?_
 have m0:k < f.fields.length:=by omega
 obtain ⟨Y1,rfl,U,s0,h0,X0,R0,q0⟩:=a0.el o0 m0
 obtain rfl:h0=[.string U]:=q0
 refine zX fun a J=>?_
 refine qF fun b2 w N a J=>?_
 refine d_e J rfl rfl rfl (jD 1 (xs:=cs) (news:=[.string T,.string U]) z4s J N rfl rfl rfl (N.toSees.rowIn (i:=0) rfl) rfl (by intro n_ m_ I0 J0;have h_:=L.length;have t2:=q7q (mgQ j);rw [laQ] at h_;have s2:(jT (d.vars.take k) (f.fields.take k)).length<=k:=(by unfold jT;rw [List.length_map,List.length_zip,List.length_take];omega);simp only [lcQ,lnQ] at J0;omega) fun v175 w N=>⟨fun _=>N.sn (Fz.Le.refl _),fun a J=>?_⟩)
 replace N:=N.nf
 refine go fun a J=>?_
 replace N:=N.dl [0]
 refine k0 _ _ _ (by subst Y;omega) ⟨(k+1),(v175),((cs++[.string T,.string U])),rfl,⟨J.pk,by exact N⟩,?_⟩
 exact ⟨by omega,by rw [j2a r0 s0,<- List.append_assoc];exact Chunks.snoc (R:=RParam E) (k:=2) (x:=(⟨_,_⟩:Param)) rfl rfl L⟩
 refine go fun a J=>?_
 have I:=L
 rw [List.take_of_length_le (l:=d.vars) (by omega),List.take_of_length_le (l:=f.fields) (by omega)] at I
 have c0:=N
 clear N
 obtain ⟨t0,b,N,P⟩:=c0.freezeRow (i:=0) rfl
 clear c0
 replace t:=t.up b
 replace S:=S.up b
 replace A:=A.mono b
 replace r:=r.up b
 replace C:=C.up b
 replace G:=G.mono b
 replace v:=v.up b
 replace z:=z.up b
 replace H:=H.mono b
 replace y:=RCon.mono _ _ _ _ b y
 replace N:=N.nf
 have D:SliceOf RParam t0 2 _ ((vars++jT d.vars f.fields)):=⟨_,P,I⟩
 obtain ⟨V1,r1,h1,d1,g1⟩:=D.form (by decide)
 have e0:=N
 clear N
 subst h1
 have N:=e0
 clear e0
 refine zO call111 (fun w N a J=>?_) (c:=ih _ (Ex.lt_arms (mgQ j)) t D z ((yO O).2.2 _ (mgQ j)).1 (by have h_:=q7q (mgQ j);rw [laQ,show (jT d.vars f.fields).length=d.vars.length by unfold jT;rw [List.length_map,List.length_zip];omega];omega) N)
 refine go fun a J=>?_
 generalize S0:(!((zS c d.body (vars++jT d.vars f.fields)).2))=f0 at J
 cases f0
 by_cases w1:0 < i
 by_cases x1:(zS c d.body (vars++jT d.vars f.fields)).1=o
 refine go fun a J=>?_
 replace N:=N.le (b)
 replace N:=N.dl [0]
 refine b0 _ _ _ (by subst Y;omega) ⟨(i+1),((zS c d.body (vars++jT d.vars f.fields)).1),rfl,⟨J.pk,by exact N⟩,?_⟩
 rw [p,zA j,zA n,aF,if_neg B,if_neg (by rintro (g | ⟨g,g2⟩);exact absurd (g.symm.trans ((by first | assumption | exact wE (by assumption) | exact kM (by assumption)):(zS c d.body (vars++jT d.vars f.fields)).2=true)) (by decide);first | exact g2 (by assumption) | (have:=of_decide_eq_false g;omega))];rfl
 refine xG ?_
 replace N:=N.le ((h).trans b)
 replace N:=N.dl [3,2,1,0]
 have hr_:nY c e vars=((⟨#[]⟩:Bs),false):=by rw [p,zA j,zA n,aF,if_neg B];exact if_pos (by first | exact .inl (by first | assumption | exact wE (by assumption) | exact kM (by assumption)) | exact .inr ⟨decide_eq_false (by omega),by assumption⟩)
 show _/\_;rw [hr_];exact ⟨rfl,N⟩
 refine go fun a J=>?_
 replace N:=N.le (b)
 replace N:=N.dl [0]
 refine b0 _ _ _ (by subst Y;omega) ⟨(i+1),((zS c d.body (vars++jT d.vars f.fields)).1),rfl,⟨J.pk,by exact N⟩,?_⟩
 rw [p,zA j,zA n,aF,if_neg B,if_neg (by rintro (g | ⟨g,g2⟩);exact absurd (g.symm.trans ((by first | assumption | exact wE (by assumption) | exact kM (by assumption)):(zS c d.body (vars++jT d.vars f.fields)).2=true)) (by decide);first | exact g2 (by assumption) | (have:=of_decide_eq_false g;omega))];rfl
 refine xG ?_
 replace N:=N.le ((h).trans b)
 replace N:=N.dl [3,2,1,0]
 have hr_:nY c e vars=((⟨#[]⟩:Bs),false):=by rw [p,zA j,zA n,aF,if_neg B];exact if_pos (by first | exact .inl (by first | assumption | exact wE (by assumption) | exact kM (by assumption)) | exact .inr ⟨decide_eq_false (by omega),by assumption⟩)
 show _/\_;rw [hr_];exact ⟨rfl,N⟩
 refine xG ?_
 replace N:=N.le (h)
 replace N:=N.dl [3,2,1,0]
 have hr_:nY c e vars=((⟨#[]⟩:Bs),false):=by rw [p,zA j,zA n,aF];exact if_pos (by first | exact .inl (by assumption) | exact .inr (by assumption))
 show _/\_;rw [hr_];exact ⟨rfl,N⟩
 refine xG ?_
 replace N:=N.le (h)
 replace N:=N.dl [3,2,1,0]
 have hr_:nY c e vars=((⟨#[]⟩:Bs),false):=by rw [p,zA j,zA n,aF];exact if_pos (by first | exact .inl (by assumption) | exact .inr (by assumption))
 show _/\_;rw [hr_];exact ⟨rfl,N⟩
 refine xG ?_
 replace N:=N.le (h)
 replace N:=N.dl [2,1,0]
 have hr_:nY c e vars=(o,true):=by rw [p,zB B0];rfl
 show _/\_;rw [hr_];exact ⟨rfl,N⟩
 refine xG ?_
 replace N:=N.le (h)
 replace N:=N.dl [2,1,0]
 have hr_:nY c e vars=((⟨#[]⟩:Bs),false):=by exact z8g X q (by first | exact .inl (by first | assumption | exact wE (by assumption) | exact kM (by assumption)) | exact .inr (.inl (by first | assumption | exact wE (by assumption) | exact kM (by assumption))) | exact .inr (.inr (by omega)))
 show _/\_;rw [hr_];exact ⟨rfl,N⟩
 refine xG ?_
 replace N:=N.le (h)
 replace N:=N.dl [2,1,0]
 have hr_:nY c e vars=((⟨#[]⟩:Bs),false):=by exact z8g X q (by first | exact .inl (by first | assumption | exact wE (by assumption) | exact kM (by assumption)) | exact .inr (.inl (by first | assumption | exact wE (by assumption) | exact kM (by assumption))) | exact .inr (.inr (by omega)))
 show _/\_;rw [hr_];exact ⟨rfl,N⟩
 refine xG ?_
 replace N:=N.le (h)
 replace N:=N.dl [2,1,0]
 have hr_:nY c e vars=((⟨#[]⟩:Bs),false):=by exact z8g X q (by first | exact .inl (by first | assumption | exact wE (by assumption) | exact kM (by assumption)) | exact .inr (.inl (by first | assumption | exact wE (by assumption) | exact kM (by assumption))) | exact .inr (.inr (by omega)))
 show _/\_;rw [hr_];exact ⟨rfl,N⟩
 refine xG ?_
 replace N:=N.dl [1,0]
 have hr_:nY c e vars=((⟨#[]⟩:Bs),false):=by exact q7y (by simp [sNo, *])
 show _/\_;rw [hr_];exact ⟨rfl,N⟩
 refine xG ?_
 replace N:=N.dl [1,0]
 have hr_:nY c e vars=((⟨#[]⟩:Bs),false):=by exact q7y (by simp [sNo, *])
 show _/\_;rw [hr_];exact ⟨rfl,N⟩
theorem j6n {V:Fz} {K:List Res} {w:World} {d0:List Value} {c:Core} {v1:Value} {vars:List Param} {d2:List Value} {e:Ex} (m:RCore V d0 c) (b:SliceOf RParam V 2 v1 vars) (z:REx V d2 e) (hL:Lim c) (O:pU e) (hb:vars.length+(zP e).length<=1000000) (ih:∀x:Ex,x.sz < e.sz->∀{V:Fz} {K:List Res} {w:World} {d0:List Value} {v1:Value} {vars:List Param} {d2:List Value},RCore V d0 c->SliceOf RParam V 2 v1 vars->REx V d2 x->pU x->vars.length+(zP x).length<=1000000->Mem V K w->Calls prog 111 #[.agg d0.toArray,v1,.agg d2.toArray] w (fun ee w'=>ee=.returned (.tuple #[.string (zS c x vars).1,.bool (zS c x vars).2])/\Mem V K w')) (N:Mem V K w) :
  Calls prog 111 #[.agg d0.toArray,v1,.agg d2.toArray] w (fun ee w'=>ee=.returned (.tuple #[.string (zS c e vars).1,.bool (zS c e vars).2])/\Mem V K w'):=by
 obtain ⟨p3,c4,p9,z1,I2,A1,X1,c22,rfl,h2,h8,H,P5,Y5,Z5,Y4,D2,Z4,E2,a5,d5⟩:=RCore.fm m
 obtain ⟨p1,c1,rfl,X5,Q3⟩:=b.fm
 obtain ⟨Y1,B1,Z1,C1,rfl,V4,g0,Q5,b5,n1,c5,e5⟩:=REx.fm z
 refine zK func111 ntmps111 fun Q hQ a J=>?_
 refine Bx fun d1 w N a J=>?_
 refine Bx fun e1 w N a J=>?_
 refine goJ 3 fun a J=>?_
 refine sq fun T2 x2=>?_
 have w0:∀a w,(EnvR 268 [(1,.slice p1 vars.length c1),(3,.pointer (some ⟨d1,0,none⟩)),(5,.pointer (some ⟨e1,0,none⟩))] [] a/\Mem V (.blk e1 (ob [.int .i64 (e.kind),.int .i64 (e.num),.string e.name,.slice Y1 e.args.length B1,.slice Z1 e.arms.length C1] 66)::.blk d1 (ob [.slice p3 c.datas.length c4,.slice p9 c.inputs.length z1,.slice I2 c.funs.length A1,.slice X1 c.outputs.length c22] 27)::K) w/\(¬dF e))->T2 a w:=by
  clear N J
  rintro a w ⟨J,N,v2⟩
  apply x2
  have y:=v2
  by_cases k0:e.kind=1
  refine Reg [1,2,1,1,1,2,1,1,1,1,1] [0,1] fun w N a J=>?_
  by_cases R5:e.name=(⟨#[]⟩:Bs)
  refine Qq (fun a J=>?_) (o:=by exact fun J O=>pS (i:=e.args.length) (j:=0) J rfl rfl)
  refine xG ?_
  replace N:=N.dl [1,0]
  have hr_:zS c e vars=((⟨#[73,110,116]⟩:Bs),(decide (e.args.length=0))):=by rw [j9k y (by assumption)];simp [sNo,yH, *]
  show _/\_;rw [hr_];exact ⟨rfl,N⟩
  refine xG ?_
  replace N:=N.dl [1,0]
  have hr_:zS c e vars=((⟨#[73,110,116]⟩:Bs),false):=by rw [j9k y (by assumption)];simp [sNo,yH, *]
  show _/\_;rw [hr_];exact ⟨rfl,N⟩
  by_cases l0:e.kind=2
  refine Qq (fun a J=>?_) (o:=by exact fun J O=>xX (((vars.length:Nat):Int) - 1) J rfl rfl (yD (by omega)))
  refine go fun a J=>?_
  refine zU (J.ks [1,5]) N (fun R mm a w=>∃(k:Nat),mm=k/\R V [(8,.int .i64 (((k:Nat):Int) - 1))] [] a w/\(k<=vars.length/\gU vars e.name=gU (vars.take k) e.name)) (vars.length) ⟨vars.length,rfl,⟨J.pk,N⟩,⟨Nat.le_refl _,by rw [List.take_length]⟩⟩ ?_
  clear N J
  rintro mm a w ⟨k,h0,⟨J,N⟩,w2⟩ M5 y2
  obtain ⟨W5,O1⟩:=w2
  by_cases S5:0<=((k:Nat):Int) - 1
  refine Reg [1,1,1,1,2,1,2,1] [0,1] fun w N a J=>?_
  rw [show ((k:Nat):Int) - 1=((k - 1:Nat):Int) by omega] at J
  refine go fun a J=>?_
  have A2:(k - 1) < vars.length:=by omega
  obtain ⟨b6,rfl,Q2,q1,A4,W4,T4,F2⟩:=b.el Q3 A2
  obtain rfl:=id F2
  refine go fun a J=>?_
  by_cases s2:Q2.name=e.name
  refine Reg [1,1,1,1,2,1,2,1,1,1,1] [0,1] fun w N a J=>?_
  refine go fun a J=>?_
  refine Qq (fun a J=>?_) (o:=by exact fun J O=>pS (i:=e.args.length) (j:=0) J rfl rfl)
  refine xG ?_
  replace N:=N.dl [1,0]
  have hr_:zS c e vars=(Q2.type,(decide (e.args.length=0))):=by rw [j9l y (by assumption),O1,show k=(k - 1)+1 by omega,jY q1,z2i,if_pos s2]
  show _/\_;rw [hr_];exact ⟨rfl,N⟩
  refine Qq (fun a J=>?_) (o:=by exact fun J O=>xX (((k - 1:Nat):Int) - 1) J rfl rfl (yD (by omega)))
  refine go fun a J=>?_
  refine y2 _ _ _ (by subst h0;omega) ⟨(k - 1),rfl,⟨J.pk,N⟩,?_⟩
  exact ⟨by omega,by rw [O1,show k=(k - 1)+1 by omega,jY q1,z2i,if_neg s2];rfl⟩
  refine xG ?_
  replace N:=N.dl [1,0]
  have hr_:zS c e vars=((⟨#[]⟩:Bs),false):=by rw [j9l y (by assumption),O1,show k=0 by omega];rfl
  show _/\_;rw [hr_];exact ⟨rfl,N⟩
  by_cases m0:e.kind=3
  refine go fun a J=>?_
  refine zU (J.ks [3,5]) N (fun R mm a w=>∃(i:Nat),mm=c.inputs.length - i/\R V [(9,.int .i64 ((i:Nat):Int))] [] a w/\(z9f c.inputs e.name=z9f (c.inputs.drop i) e.name)) (c.inputs.length - 0) ⟨0,rfl,⟨J.pk,N⟩,rfl⟩ ?_
  clear N J
  rintro mm a w ⟨i,h0,⟨J,N⟩,G0⟩ N5 z2
  by_cases t2:i < c.inputs.length
  refine Reg [1,2,1,1,1,2,1,2,1] [0,1] fun w N a J=>?_
  refine go fun a J=>?_
  obtain ⟨c6,rfl,R2,r1,B4,X4,U4,G2⟩:=h8.el D2 t2
  obtain rfl:=id G2
  by_cases u2:R2.name=e.name
  refine Reg [1,2,1,1,1,2,1,2,1,1,1,1] [0,1] fun w N a J=>?_
  refine Qq (fun a J=>?_) (o:=by exact fun J O=>pS (i:=e.args.length) (j:=0) J rfl rfl)
  refine xG ?_
  replace N:=N.dl [1,0]
  have hr_:zS c e vars=(R2.type,(decide (e.args.length=0))):=by rw [j9m y (by assumption),G0,zA r1,z9f,if_pos u2]
  show _/\_;rw [hr_];exact ⟨rfl,N⟩
  refine go fun a J=>?_
  refine z2 _ _ _ (by subst h0;omega) ⟨(i+1),rfl,⟨J.pk,N⟩,?_⟩
  rw [G0,zA r1,z9f,if_neg u2]
  refine xG ?_
  replace N:=N.dl [1,0]
  have hr_:zS c e vars=((⟨#[]⟩:Bs),false):=by rw [j9m y (by assumption),G0,zB t2];rfl
  show _/\_;rw [hr_];exact ⟨rfl,N⟩
  refine go fun a J=>?_
  by_cases Z:e.kind=6
  by_cases U5:e.args.length=2
  refine Reg [2,1,1,2,1,2,0,1,1,1,1,1] [0,1] fun w N a J=>?_
  refine go fun a J=>?_
  have B2:0 < e.args.length:=by omega
  obtain ⟨t5,rfl,d,E,U2,q3,I,A⟩:=g0.el n1 B2
  obtain ⟨f5,o4,g5,p4,rfl,k3,D4,E4,x3,R3,y3,S3⟩:=REx.fm A
  refine zO call111 (fun w N a J=>?_) (c:=ih _ (Ex.lt_args (mgQ E)) m b A ((yO O).2.1 _ (mgQ E)) (by have h_:=tZ (mgQ E);omega) N)
  refine go fun a J=>?_
  generalize g3:(!((zS c d vars).2))=w1 at J
  cases w1
  refine go fun a J=>?_
  refine yE [2,0,1,0,1,2,1,1,0,0,1,2,1,2,0,1,1,1,1] (.q 0 (.q 2 (.q 4 (.q 5 (.q 6 (.q 7 (.q 10 (.q 11 (.q 12 (.q 13 (.e2 1 8 (.e2 3 8 (.e 8 (.e 9 (.e 14 (.q 15 (.q 16 (.q 17 (.q 18 (.done)))))))) (.e 3 (.e 9 (.e 14 (.q 15 (.q 16 (.q 17 (.q 18 (.done))))))))) (.e 1 (.e 3 (.e 9 (.e 14 (.q 15 (.q 16 (.q 17 (.q 18 (.done)))))))))))))))))))) [0,1] J N fun w N=>?_
  refine zX fun a J=>?_
  refine go fun a J=>?_
  have L1:1 < e.args.length:=by omega
  obtain ⟨f0,h⟩:=qR L1
  obtain ⟨V2,r3,L,n⟩:=g0.elem h
  obtain ⟨h5,c135,i5,q4,rfl,l3,F4,G4,z3,T3,A3,U3⟩:=REx.fm n
  refine go fun a J=>?_
  refine wN ?_ ?_
  refine d_e J rfl rfl rfl (vH (sz:=2) (cs:=[]) J N rfl (dK runUnderlying23 sizeOf72) rfl (by decide) fun v145 w N _=>⟨fun _=>N.sn (Fz.Le.refl _),fun a J=>?_⟩)
  refine wN ?_ ?_
  obtain ⟨p0,K0,U⟩:=id b
  refine d_e J rfl rfl rfl (jD 0 (xs:=[]) (news:=p0) z4s J N rfl rfl rfl (K0.rowIn N.toSees) (U.ones RParam.ones) (by intro n_ m_ n0 o0;have h_:=U.length;simp only [lnQ] at n0;omega) fun v146 w N=>⟨fun _=>N.sn (Fz.Le.refl _),fun a J=>?_⟩)
  replace N:=N.nf
  refine qF fun A5 w N a J=>?_
  refine d_e J rfl rfl rfl (jD 1 (xs:=p0) (news:=[.string e.name,.string (zS c d vars).1]) z4s J N rfl rfl rfl (N.toSees.rowIn (i:=0) rfl) rfl (by intro n_ m_ n0 o0;have h_:=U.length;simp only [lcQ,lnQ] at o0;omega) fun B5 w N=>⟨fun _=>N.sn (Fz.Le.refl _),fun a J=>?_⟩)
  replace N:=N.nf
  have f1:Chunks (RParam V) 2 (p0++[.string e.name,.string (zS c d vars).1]) (vars++[⟨e.name,(zS c d vars).1⟩]):=Chunks.snoc (R:=RParam V) (k:=2) (x:=(⟨e.name,(zS c d vars).1⟩:Param)) rfl rfl U
  have f:=N
  clear N
  obtain ⟨a2,p,N,L0⟩:=f.freezeRow (i:=1) rfl
  clear f
  replace H:=H.up p
  replace m:=m.up p
  replace b:=b.up p
  replace g0:=g0.up p
  replace z:=z.up p
  replace I:=I.mono p
  replace A:=A.up p
  replace L:=L.mono p
  replace n:=n.up p
  replace N:=N.nf
  have x0:SliceOf RParam a2 2 _ ((vars++[⟨e.name,(zS c d vars).1⟩])):=⟨_,L0,f1⟩
  obtain ⟨j5,r4,D,B3,V3⟩:=x0.form (by decide)
  have g:=N
  clear N
  subst D
  have N:=g
  clear g
  refine zO call111 (fun w N a J=>?_) (c:=ih _ (Ex.lt_args (mgQ h)) m x0 n ((yO O).2.1 _ (mgQ h)) (by have h_:=tZ (mgQ h);rw [if_pos Z] at h_;rw [laQ,lcQ,lnQ];omega) N)
  refine xG ?_
  replace N:=N.le (p)
  replace N:=N.dl [2,1,0]
  have hr_:zS c e vars=((zS c f0 (vars++[⟨e.name,(zS c d vars).1⟩])).1,((zS c f0 (vars++[⟨e.name,(zS c d vars).1⟩])).2)):=by rw [z7u y (by assumption)];exact y5f (by assumption) E h (by first | assumption | exact wE (by assumption) | exact kM (by assumption))
  show _/\_;rw [hr_];exact ⟨rfl,N⟩
  refine qF fun C5 w N a J=>?_
  obtain ⟨q0,M0,W⟩:=id b
  refine d_e J rfl rfl rfl (jD 1 (xs:=[]) (news:=q0) z4s J N rfl rfl rfl (M0.rowIn N.toSees) (W.ones RParam.ones) (by intro n_ m_ n0 o0;have h_:=W.length;simp only [lnQ] at n0;omega) fun D5 w N=>⟨fun _=>N.sn (Fz.Le.refl _),fun a J=>?_⟩)
  replace N:=N.nf
  refine d_e J rfl rfl rfl (jD 1 (xs:=q0) (news:=[.string e.name,.string (zS c d vars).1]) z4s J N rfl rfl rfl (N.toSees.rowIn (i:=0) rfl) rfl (by intro n_ m_ n0 o0;have h_:=W.length;simp only [lcQ,lnQ] at o0;omega) fun E5 w N=>⟨fun _=>N.sn (Fz.Le.refl _),fun a J=>?_⟩)
  replace N:=N.nf
  have g1:Chunks (RParam V) 2 (q0++[.string e.name,.string (zS c d vars).1]) (vars++[⟨e.name,(zS c d vars).1⟩]):=Chunks.snoc (R:=RParam V) (k:=2) (x:=(⟨e.name,(zS c d vars).1⟩:Param)) rfl rfl W
  have f:=N
  clear N
  obtain ⟨b2,r,N,N0⟩:=f.freezeRow (i:=1) rfl
  clear f
  replace H:=H.up r
  replace m:=m.up r
  replace b:=b.up r
  replace g0:=g0.up r
  replace z:=z.up r
  replace I:=I.mono r
  replace A:=A.up r
  replace L:=L.mono r
  replace n:=n.up r
  replace N:=N.nf
  have y0:SliceOf RParam b2 2 _ ((vars++[⟨e.name,(zS c d vars).1⟩])):=⟨_,N0,g1⟩
  obtain ⟨k5,c173,D,C3,W3⟩:=y0.form (by decide)
  have g:=N
  clear N
  subst D
  have N:=g
  clear g
  refine zO call111 (fun w N a J=>?_) (c:=ih _ (Ex.lt_args (mgQ h)) m y0 n ((yO O).2.1 _ (mgQ h)) (by have h_:=tZ (mgQ h);rw [if_pos Z] at h_;rw [laQ,lcQ,lnQ];omega) N)
  refine xG ?_
  replace N:=N.le (r)
  replace N:=N.dl [2,1,0]
  have hr_:zS c e vars=((zS c f0 (vars++[⟨e.name,(zS c d vars).1⟩])).1,((zS c f0 (vars++[⟨e.name,(zS c d vars).1⟩])).2)):=by rw [z7u y (by assumption)];exact y5f (by assumption) E h (by first | assumption | exact wE (by assumption) | exact kM (by assumption))
  show _/\_;rw [hr_];exact ⟨rfl,N⟩
  refine qF fun F5 w N a J=>?_
  refine d_e J rfl rfl rfl (vH (sz:=2) (cs:=[]) J N rfl (dK runUnderlying23 sizeOf72) rfl (by decide) fun G5 w N _=>⟨fun _=>N.sn (Fz.Le.refl _),fun a J=>?_⟩)
  obtain ⟨r0,O0,X⟩:=id b
  refine d_e J rfl rfl rfl (jD 0 (xs:=[]) (news:=r0) z4s J N rfl rfl rfl (O0.rowIn N.toSees) (X.ones RParam.ones) (by intro n_ m_ n0 o0;have h_:=X.length;simp only [lnQ] at n0;omega) fun H5 w N=>⟨fun _=>N.sn (Fz.Le.refl _),fun a J=>?_⟩)
  replace N:=N.nf
  refine d_e J rfl rfl rfl (jD 0 (xs:=r0) (news:=[.string e.name,.string (zS c d vars).1]) z4s J N rfl rfl rfl (N.toSees.rowIn (i:=1) rfl) rfl (by intro n_ m_ n0 o0;have h_:=X.length;simp only [lcQ,lnQ] at o0;omega) fun I5 w N=>⟨fun _=>N.sn (Fz.Le.refl _),fun a J=>?_⟩)
  replace N:=N.nf
  have h1:Chunks (RParam V) 2 (r0++[.string e.name,.string (zS c d vars).1]) (vars++[⟨e.name,(zS c d vars).1⟩]):=Chunks.snoc (R:=RParam V) (k:=2) (x:=(⟨e.name,(zS c d vars).1⟩:Param)) rfl rfl X
  have f:=N
  clear N
  obtain ⟨c2,s,N,P0⟩:=f.freezeRow (i:=0) rfl
  clear f
  replace H:=H.up s
  replace m:=m.up s
  replace b:=b.up s
  replace g0:=g0.up s
  replace z:=z.up s
  replace I:=I.mono s
  replace A:=A.up s
  replace L:=L.mono s
  replace n:=n.up s
  replace N:=N.nf
  have z0:SliceOf RParam c2 2 _ ((vars++[⟨e.name,(zS c d vars).1⟩])):=⟨_,P0,h1⟩
  obtain ⟨l5,s4,D,D3,X3⟩:=z0.form (by decide)
  have g:=N
  clear N
  subst D
  have N:=g
  clear g
  refine zO call111 (fun w N a J=>?_) (c:=ih _ (Ex.lt_args (mgQ h)) m z0 n ((yO O).2.1 _ (mgQ h)) (by have h_:=tZ (mgQ h);rw [if_pos Z] at h_;rw [laQ,lcQ,lnQ];omega) N)
  refine xG ?_
  replace N:=N.le (s)
  replace N:=N.dl [2,1,0]
  have hr_:zS c e vars=((zS c f0 (vars++[⟨e.name,(zS c d vars).1⟩])).1,((zS c f0 (vars++[⟨e.name,(zS c d vars).1⟩])).2)):=by rw [z7u y (by assumption)];exact y5f (by assumption) E h (by first | assumption | exact wE (by assumption) | exact kM (by assumption))
  show _/\_;rw [hr_];exact ⟨rfl,N⟩
  refine xG ?_
  replace N:=N.dl [1,0]
  have hr_:zS c e vars=((⟨#[]⟩:Bs),false):=by rw [z7u y (by assumption)];exact j4l E (by first | assumption | exact wE (by assumption) | exact kM (by assumption))
  show _/\_;rw [hr_];exact ⟨rfl,N⟩
  refine xG ?_
  replace N:=N.dl [1,0]
  have hr_:zS c e vars=((⟨#[]⟩:Bs),false):=by rw [z7u y (by assumption)];exact letR_no (by assumption)
  show _/\_;rw [hr_];exact ⟨rfl,N⟩
  by_cases T:e.kind=7
  refine zO call162 (fun w N a J=>?_) (c:=j3f m b z hL O hb ih N)
  refine xG ?_
  replace N:=N.dl [1,0]
  have hr_:zS c e vars=((nY c e vars).1,((nY c e vars).2)):=by exact typeR_7 y (by assumption)
  show _/\_;rw [hr_];exact ⟨rfl,N⟩
  refine go fun a J=>?_
  replace N:=N.nilRow 9 1
  replace N:=N.nf
  refine zU (J.ks [1,3,5]) N (fun R mm a w=>∃(i:Nat) (u:Value) (ts:List Bs),mm=e.args.length - i/\R V [(12,u),(13,.int .i64 ((i:Nat):Int))] [(0,.gs (u) 9 1 (strs ts))] a w/\(ts.length=i/\typesR c e.args vars=(ts++(typesR c (e.args.drop i) vars).1,(typesR c (e.args.drop i) vars).2))) (e.args.length - 0) ⟨0,.slice none 0 0,[],rfl,⟨J.pk,N⟩,⟨rfl,rfl⟩⟩ ?_
  clear N J
  rintro mm a w ⟨i,u,ts,h0,⟨J,N⟩,G1⟩ j4 H1
  replace N:=N.nf
  obtain ⟨C2,V1⟩:=G1
  by_cases i1:i < e.args.length
  refine Reg [2,1,1,2,1,1,2,0,1,1,1,1,1] [0,1,2] fun w N a J=>?_
  refine go fun a J=>?_
  obtain ⟨u5,rfl,a1,c0,W2,s3,b3,J0⟩:=g0.el n1 i1
  obtain ⟨m5,t4,n5,u4,rfl,m3,H4,I4,E3,Y3,F3,Z3⟩:=REx.fm J0
  refine zO call111 (fun w N a J=>?_) (c:=ih _ (Ex.lt_args (mgQ c0)) m b J0 ((yO O).2.1 _ (mgQ c0)) (by have h_:=tZ (mgQ c0);omega) N)
  refine go fun a J=>?_
  generalize h3:(!((zS c a1 vars).2))=x1 at J
  cases x1
  refine qF fun J5 w N a J=>?_
  refine qQ 1 wT (fun v232 w N a J=>?_) (hb:=by rw [yG,C2];have h_:=(yO O).1;simp only [lcQ,lnQ];omega)
  first | rw [jS] at N | rw [<- yW] at N
  refine go fun a J=>?_
  replace N:=N.dl [0]
  refine H1 _ _ _ (by subst h0;omega) ⟨(i+1),(v232),(ts++[(zS c a1 vars).1]),rfl,⟨J.pk,N⟩,?_⟩
  exact ⟨by simp [C2],by rw [V1,zA c0,y1l,if_neg (by rw [show (zS c a1 vars).2=true from (by first | assumption | exact wE (by assumption) | exact kM (by assumption))];decide)];simp⟩
  refine xG ?_
  replace N:=N.dl [2,1,0]
  have hr_:zS c e vars=((⟨#[]⟩:Bs),false):=by exact x3l y k0 l0 m0 Z T (by rw [V1,zA c0,y1l,if_pos (by first | assumption | exact wE (by assumption) | exact kM (by assumption))])
  show _/\_;rw [hr_];exact ⟨rfl,N⟩
  refine goR 37 fun a J=>?_
  have U0:typesR c e.args vars=(ts,true):=by rw [V1,zB i1];simp [typesR]
  have f:=N
  clear N
  obtain ⟨i0,t,N,Q0⟩:=f.freezeRow (i:=0) rfl
  clear f
  replace H:=H.up t
  replace m:=m.up t
  replace z:=z.up t
  replace N:=N.nf
  have Y:SliceOf RStr i0 1 _ (ts):=SliceOf.strs.2 Q0
  obtain ⟨J2,l2,D,G3,P1⟩:=Y.form (by decide)
  have g:=N
  clear N
  subst D
  have N:=g
  clear g
  refine goJ 63 fun a J=>?_
  refine sq fun k2 I1=>?_
  have b0:∀a w,(∃(e0:Fz) (v:Value) (wl:List Bs) (o:Bs),EnvR 268 [(12,.slice J2 (ts).length l2),(16,v),(17,.string o)] [] a/\Mem e0 (.blk e1 (ob [.int .i64 (e.kind),.int .i64 (e.num),.string e.name,.slice Y1 e.args.length B1,.slice Z1 e.arms.length C1] 66)::.blk d1 (ob [.slice p3 c.datas.length c4,.slice p9 c.inputs.length z1,.slice I2 c.funs.length A1,.slice X1 c.outputs.length c22] 27)::K) w/\(i0.Le e0/\(SliceOf RStr e0 1 v wl/\pG c e.kind e.name=some (wl,o))))->k2 a w:=by
   clear N J
   rintro a w ⟨e0,v,wl,o,J,N,s0⟩
   obtain ⟨F,s0⟩:=s0
   replace H:=H.up F
   replace m:=m.up F
   replace z:=z.up F
   replace Y:=Y.up F
   apply I1
   obtain ⟨o1,V0⟩:=s0
   refine go fun a J=>?_
   obtain ⟨o5,v4,D,H3,Q1⟩:=o1.form (by decide)
   subst D
   by_cases j1:wl.length=(ts).length
   refine go fun a J=>?_
   refine zU (J.ks [12,16,17]) N (fun R mm a w=>∃(i:Nat),mm=wl.length - i/\R e0 [(23,.int .i64 ((i:Nat):Int))] [] a w/\(wl.take i=ts.take i)) (wl.length - 0) ⟨0,rfl,⟨J.pk,N⟩,rfl⟩ ?_
   clear N J
   rintro mm a w ⟨i,h0,⟨J,N⟩,F0⟩ k4 J1
   by_cases o2:i < wl.length
   refine Reg [1,1,1,2,1,1,1,2,1] [0,1] fun w N a J=>?_
   refine go fun a J=>?_
   obtain ⟨v5,rfl,t1,W0,D1,t3,d3,S1⟩:=o1.el Q1 o2
   obtain rfl:D1=[.string t1]:=S1
   refine go fun a J=>?_
   have M1:i < (ts).length:=by omega
   obtain ⟨w5,rfl,u1,X0,E1,u3,e3,T1⟩:=Y.el P1 M1
   obtain rfl:E1=[.string u1]:=T1
   by_cases k1:t1=u1
   refine go fun a J=>?_
   refine J1 _ _ _ (by subst h0;omega) ⟨(i+1),rfl,⟨J.pk,N⟩,?_⟩
   rw [jY W0,jY X0,F0,k1]
   refine xG ?_
   replace N:=N.le ((t).trans F)
   replace N:=N.dl [1,0]
   have hr_:zS c e vars=((⟨#[]⟩:Bs),false):=by rw [z5t y k0 l0 m0 Z T V0 U0,if_neg (fun e=>k1 (Option.some.inj (by rw [<- W0,e];exact X0)))];rfl
   show _/\_;rw [hr_];exact ⟨rfl,N⟩
   refine xG ?_
   replace N:=N.le ((t).trans F)
   replace N:=N.dl [1,0]
   have hr_:zS c e vars=(o,true):=by rw [z5t y k0 l0 m0 Z T V0 U0,if_pos (by have h_:=F0;rw [List.take_of_length_le (by omega),List.take_of_length_le (by omega)] at h_;exact h_)]
   show _/\_;rw [hr_];exact ⟨rfl,N⟩
   refine xG ?_
   replace N:=N.le ((t).trans F)
   replace N:=N.dl [1,0]
   have hr_:zS c e vars=((⟨#[]⟩:Bs),false):=by rw [z5t y k0 l0 m0 Z T V0 U0,if_neg (fun e=>by rw [e] at j1;exact j1 rfl)];rfl
   show _/\_;rw [hr_];exact ⟨rfl,N⟩
  by_cases p2:e.kind=4
  refine yP call163 (fun S2 w F1 N a J=>?_) (c:=x0j m hL.1 N)
  obtain ⟨f2,C4⟩:=S2
  obtain ⟨M,I0⟩:=F1
  simp only at M I0 N J
  replace H:=H.up M
  replace m:=m.up M
  replace z:=z.up M
  replace N:=N.nf
  obtain ⟨y5,rfl,l1⟩:=id I0
  obtain ⟨K2,m2,rfl,I3,a4⟩:=l1.fm
  refine Alc fun m4 w N a J=>?_
  refine Sto 0 fun w N a J=>?_
  refine go fun a J=>?_
  generalize i3:(!(aH c.datas e.name).isSome)=y1 at J
  cases y1
  refine go fun a J=>?_
  replace N:=N.dl [0]
  exact b0 _ _ ⟨f2,.slice K2 (((aH c.datas e.name).map Maker.con).getD y1c).fields.length m2,(((aH c.datas e.name).map Maker.con).getD y1c).fields,(((aH c.datas e.name).map Maker.data).getD sNo),J.pk,N,⟨M,⟨l1,by rw [want_4 p2];obtain ⟨m_,P3⟩:=Option.isSome_iff_exists.1 (show (aH c.datas e.name).isSome=true from (by first | assumption | exact wE (by assumption) | exact kM (by assumption)));rw [P3];rfl⟩⟩⟩
  refine xG ?_
  replace N:=N.le ((t).trans M)
  replace N:=N.dl [2,1,0]
  have hr_:zS c e vars=((⟨#[]⟩:Bs),false):=by exact z0y y k0 l0 m0 Z T (by rw [want_4 (by assumption),x7y (o:=aH c.datas e.name) (by first | assumption | exact wE (by assumption) | exact kM (by assumption))];rfl)
  show _/\_;rw [hr_];exact ⟨rfl,N⟩
  by_cases q2:e.kind=5
  refine zO call55 (fun w N a J=>?_) (c:=dQ m N)
  by_cases u0:xF c.funs e.name < 0
  refine xG ?_
  replace N:=N.le (t)
  replace N:=N.dl [1,0]
  have hr_:zS c e vars=((⟨#[]⟩:Bs),false):=by exact z0y y k0 l0 m0 Z T (by rw [want_5 (by assumption)];unfold xF at u0;cases j3:mM c.funs e.name with | none=>rfl | some j=>rw [j3] at u0;simp only at u0;omega)
  show _/\_;rw [hr_];exact ⟨rfl,N⟩
  refine go fun a J=>?_
  obtain ⟨j,hj⟩:=y0t u0
  have V5:=q9i hj
  rw [show xF c.funs e.name=((j:Nat):Int) by rw [xF,hj]] at J
  have N1:j < c.funs.length:=by omega
  obtain ⟨M2,rfl,C,Y0,X2,v3,H0,t0⟩:=H.el E2 N1
  obtain ⟨z5,n4,rfl,m1,D0⟩:=id t0
  obtain ⟨p5,w4,rfl,J3,R1⟩:=m1.fm
  obtain ⟨q5,x4,r5,y4,rfl,n3,J4,K4,K3,b4,L3,d4⟩:=REx.fm D0
  refine go fun a J=>?_
  replace N:=N.nilRow 9 1
  replace N:=N.nf
  refine zU (J.ks [3,12,21]) N (fun R mm a w=>∃(k:Nat) (u:Value),mm=C.params.length - k/\R i0 [(16,u),(22,.int .i64 ((k:Nat):Int))] [(0,.gs (u) 9 1 (strs ((C.params.take k).map Param.type)))] a w/\(True)) (C.params.length - 0) ⟨0,.slice none 0 0,rfl,⟨J.pk,N⟩,trivial⟩ ?_
  clear N J
  rintro mm a w ⟨k,u,h0,⟨J,N⟩,Z2⟩ l4 K1
  replace N:=N.nf
  by_cases r2:k < C.params.length
  refine go fun a J=>?_
  obtain ⟨x5,rfl,P2,W1,Y2,w3,f3,U1⟩:=m1.el R1 r2
  obtain rfl:=id U1
  refine qF fun O2 w N a J=>?_
  refine qQ 1 wT (fun s1 w N a J=>?_) (hb:=by rw [yG,List.length_map,List.length_take];have h_:=hL.2 _ (mgQ Y0);simp only [lcQ,lnQ];omega)
  replace N:Mem i0 (.gs (O2) 9 1 [.string P2.type]::.gs (s1) 9 1 (strs ((C.params.take (k+1)).map Param.type))::.blk e1 (ob [.int .i64 (e.kind),.int .i64 (e.num),.string e.name,.slice Y1 e.args.length B1,.slice Z1 e.arms.length C1] 66)::.blk d1 (ob [.slice p3 c.datas.length c4,.slice p9 c.inputs.length z1,.slice (some M2) c.funs.length A1,.slice X1 c.outputs.length c22] 27)::K) w:=by rw [jY W1,List.map_append,yW];exact N
  refine go fun a J=>?_
  replace N:=N.dl [0]
  refine K1 _ _ _ (by subst h0;omega) ⟨(k+1),(s1),rfl,⟨J.pk,N⟩,?_⟩
  trivial
  refine go fun a J=>?_
  rw [List.take_of_length_le (l:=C.params) (by omega)] at N
  have f:=N
  clear N
  obtain ⟨b1,P,N,R0⟩:=f.freezeRow (i:=0) rfl
  clear f
  replace m:=m.up P
  replace z:=z.up P
  replace H0:=H0.mono P
  replace t0:=t0.up P
  replace D0:=D0.up P
  replace N:=N.nf
  have A0:SliceOf RStr b1 1 _ ((C.params.map Param.type)):=SliceOf.strs.2 R0
  obtain ⟨L2,n2,D,M3,e4⟩:=A0.form (by decide)
  have g:=N
  clear N
  subst D
  have N:=g
  clear g
  refine go fun a J=>?_
  exact b0 _ _ ⟨b1,.slice L2 ((C.params.map Param.type)).length n2,(C.params.map Param.type),C.result,J.pk,N,⟨P,⟨A0,by rw [want_5 q2,hj];simp only;rw [Y0];rfl⟩⟩⟩
  by_cases E0:e.kind=8
  refine qF fun K5 w N a J=>?_
  refine go fun a J=>?_
  have f:=N
  clear N
  obtain ⟨g2,S,N,S0⟩:=f.freezeRow (i:=0) rfl
  clear f
  replace m:=m.up S
  replace z:=z.up S
  replace N:=N.nf
  have B:SliceOf RStr g2 1 _ ([yH,yH]):=SliceOf.strs.2 S0
  obtain ⟨Z0,C0,D,N3,f4⟩:=B.form (by decide)
  have g:=N
  clear N
  subst D
  have N:=g
  clear g
  refine qF fun L5 w N a J=>?_
  refine go fun a J=>?_
  have f:=N
  clear N
  obtain ⟨j0,G,N,T0⟩:=f.freezeRow (i:=0) rfl
  clear f
  replace m:=m.up G
  replace z:=z.up G
  replace B:=B.up G
  replace N:=N.nf
  have B0:SliceOf RStr j0 1 _ ([⟨#[43]⟩,⟨#[45]⟩,⟨#[42]⟩,⟨#[47]⟩,⟨#[37]⟩]):=SliceOf.strs.2 T0
  obtain ⟨s5,z4,D,O3,g4⟩:=B0.form (by decide)
  have g:=N
  clear N
  subst D
  have N:=g
  clear g
  refine zZ call87 (fun a0 w N a J=>?_) (fun a0 w N a J=>?_) (c:=y2j B0 N)
  refine go fun a J=>?_
  exact b0 _ _ ⟨j0,.slice Z0 ([yH,yH]).length C0,[yH,yH],(⟨#[73,110,116]⟩:Bs),J.pk,N,⟨(S).trans G,⟨B,by rw [q6v E0,opR,if_pos a0];rfl⟩⟩⟩
  by_cases L4:e.name=(⟨#[60]⟩:Bs)
  refine go fun a J=>?_
  exact b0 _ _ ⟨j0,.slice Z0 ([yH,yH]).length C0,[yH,yH],(⟨#[66,111,111,108]⟩:Bs),J.pk,N,⟨(S).trans G,⟨B,by rw [q6v E0,opR,if_neg (by rw [a0];decide),if_pos (by first | exact .inl (by assumption) | exact .inr (by assumption))];rfl⟩⟩⟩
  by_cases M4:e.name=(⟨#[61]⟩:Bs)
  refine go fun a J=>?_
  exact b0 _ _ ⟨j0,.slice Z0 ([yH,yH]).length C0,[yH,yH],(⟨#[66,111,111,108]⟩:Bs),J.pk,N,⟨(S).trans G,⟨B,by rw [q6v E0,opR,if_neg (by rw [a0];decide),if_pos (by first | exact .inl (by assumption) | exact .inr (by assumption))];rfl⟩⟩⟩
  refine xG ?_
  replace N:=N.le (((t).trans S).trans G)
  replace N:=N.dl [1,0]
  have hr_:zS c e vars=((⟨#[]⟩:Bs),false):=by exact z0y y k0 l0 m0 Z T (by rw [q6v (by assumption),opR,if_neg (by rw [a0];decide),if_neg (by rintro (h_ | h_) <;> contradiction)];rfl)
  show _/\_;rw [hr_];exact ⟨rfl,N⟩
  refine xG ?_
  replace N:=N.le (t)
  replace N:=N.dl [1,0]
  have hr_:zS c e vars=((⟨#[]⟩:Bs),false):=by exact z0y y k0 l0 m0 Z T (want_no (by assumption) (by assumption) (by assumption))
  show _/\_;rw [hr_];exact ⟨rfl,N⟩
 by_cases N4:e.kind=7
 by_cases O4:e.kind=1
 refine go fun a J=>?_
 exact w0 _ _ ⟨J.pk,N,by unfold dF;omega⟩
 by_cases P4:e.num=0
 refine go fun a J=>?_
 exact w0 _ _ ⟨J.pk,N,by unfold dF;omega⟩
 refine xG ?_
 replace N:=N.dl [1,0]
 have hr_:zS c e vars=((⟨#[]⟩:Bs),false):=by exact y7g (by unfold dF;omega)
 show _/\_;rw [hr_];exact ⟨rfl,N⟩
 by_cases Q4:0 < e.arms.length
 refine xG ?_
 replace N:=N.dl [1,0]
 have hr_:zS c e vars=((⟨#[]⟩:Bs),false):=by exact y7g (by unfold dF;omega)
 show _/\_;rw [hr_];exact ⟨rfl,N⟩
 by_cases R4:e.kind=1
 refine go fun a J=>?_
 exact w0 _ _ ⟨J.pk,N,by unfold dF;omega⟩
 refine go fun a J=>?_
 by_cases S4:e.num=0
 refine go fun a J=>?_
 exact w0 _ _ ⟨J.pk,N,by unfold dF;omega⟩
 refine xG ?_
 replace N:=N.dl [1,0]
 have hr_:zS c e vars=((⟨#[]⟩:Bs),false):=by exact y7g (by unfold dF;omega)
 show _/\_;rw [hr_];exact ⟨rfl,N⟩
section
variable {V:Fz} {K:List Res} {w:World}
theorem x3k {d0:List Value} {c:Core} {b:Value} {vars:List Param} {d2:List Value} {e:Ex} (d:RCore V d0 c) (a:SliceOf RParam V 2 b vars) (f:REx V d2 e) (i:Lim c) (O:pU e) (hb:vars.length+(zP e).length<=1000000) (N:Mem V K w) :
  Calls prog 111 #[.agg d0.toArray,b,.agg d2.toArray] w (fun ee w'=>ee=.returned (.tuple #[.string (zS c e vars).1,.bool (zS c e vars).2])/\Mem V K w'):=by
 suffices H:∀n (e:Ex),e.sz < n->∀{V:Fz} {K:List Res} {w:World} {d0:List Value} {b:Value} {vars:List Param} {d2:List Value},RCore V d0 c->SliceOf RParam V 2 b vars->REx V d2 e->pU e->vars.length+(zP e).length<=1000000->Mem V K w->Calls prog 111 #[.agg d0.toArray,b,.agg d2.toArray] w (fun ee w'=>ee=.returned (.tuple #[.string (zS c e vars).1,.bool (zS c e vars).2])/\Mem V K w') from H _ e (Nat.lt_succ_self _) d a f O hb N
 intro n
 induction n with
 | zero=>intro e h;omega
 | succ n j=>intro e h V K w d0 b vars d2 g g1 r O hb m;exact j6n g g1 r i O hb (fun x o _ _ _ _ _ _ _ k l r O hb m=>j x (by omega) k l r O hb m) m
theorem q5p {v:Value} {l:List Bs} {s:Bs} (N:Mem V (.gs v 9 1 (strs l)::K) w) :
  Calls prog 87 #[v,.string s] w (fun ee w'=>ee=.returned (.bool (sH l s))/\Mem V (.gs v 9 1 (strs l)::K) w'):=by
 obtain ⟨Ψ,_,a,b,c⟩:=N.freezeRowT (i:=0) rfl
 exact (y2j (SliceOf.strs.2 b) a).mono fun ee w' h=>⟨h.1,c _ _ h.2⟩
theorem q3n {d0:List Value} {c:Core} (e0:RCore V d0 c) (x0:c.datas.length<=60) (P:∀d∈c.datas,d.cons.length<=16) (N:Mem V K w) :
  Calls prog 108 #[.agg d0.toArray] w (fun ee w'=>ee=.returned (.bool (z3q c.datas))/\Mem V K w'):=by
 obtain ⟨p3,c4,p9,M0,X0,N0,Y0,c22,rfl,h2,h8,Q0,S0,W0,l0,y0,D0,z0,E0,A0,F0⟩:=RCore.fm e0
 refine zK func108 ntmps108 fun Q hQ a J=>?_
 refine Bx fun K0 w N a J=>?_
 refine qF fun m0 w N a J=>?_
 refine qF fun n0 w N a J=>?_
 refine go fun a J=>?_
 replace N:=N.nf
 refine zU (J.ks [1]) N (fun R mm a w=>∃(i:Nat) (u:Value) (nl:List Bs) (u2:Value) (cl:List Bs),mm=c.datas.length - i/\R V [(3,u),(4,u2),(5,.int .i64 ((i:Nat):Int))] [(0,.gs (u2) 9 1 (strs cl)),(1,.gs (u) 9 1 (strs nl))] a w/\(i<=c.datas.length/\nl.length=2+i/\cl.length<=2+16 * i/\z3q c.datas=dM c.datas (c.datas.drop i) nl cl)) (c.datas.length - 0) ⟨0,m0,[yH,kO],n0,[kR,nT],rfl,⟨J.pk,N⟩,⟨Nat.zero_le _,rfl,by decide,rfl⟩⟩ ?_
 clear N J
 rintro mm a w ⟨i,u,nl,u2,cl,p,⟨J,N⟩,G⟩ H0 I
 replace N:=N.nf
 obtain ⟨U0,j0,V0,g⟩:=G
 by_cases v:i < c.datas.length
 refine go fun a J=>?_
 obtain ⟨b1,rfl,e,b,q0,u0,s0,b0⟩:=h2.el l0 v
 obtain ⟨d1,rfl,y⟩:=id b0
 obtain ⟨Z0,O0,rfl,B0,X⟩:=y.fm
 refine Alc fun L0 w N a J=>?_
 refine Sto 0 fun w N a J=>?_
 refine zZ call134 (fun C w N a J=>?_) (fun C w N a J=>?_) (c:=q1m N)
 replace N:=N.pl 2
 refine zZ call87 (fun D w N a J=>?_) (fun D w N a J=>?_) (c:=q5p (l:=nl) N)
 refine zF ?_
 replace N:=N.dl [3,2,1,0]
 exact zM N (by rw [g,zA b,dM];simp [*])
 by_cases T0:e.cons.length=0
 refine zF ?_
 replace N:=N.dl [3,2,1,0]
 exact zM N (by rw [g,zA b,dM];simp [*])
 have T:conR e.name=true:=by assumption
 have U:(!sH nl e.name)=true:=by simp [*]
 have W:decide (e.cons.length≠0)=true:=by simp only [decide_eq_true_eq];omega
 refine qF fun f1 w N a J=>?_
 refine qQ 1 wT (fun o0 w N a J=>?_) (hb:=by rw [yG];simp only [lcQ,lnQ];omega)
 first | rw [jS] at N | rw [<- yW] at N
 refine go fun a J=>?_
 refine zU (J.ks [1,3,5,6]) N (fun R mm a w=>∃(k:Nat) (u3:Value) (cm:List Bs),mm=e.cons.length - k/\R V [(4,u3),(7,.int .i64 ((k:Nat):Int))] [(3,.gs (u3) 9 1 (strs cm))] a w/\(cl++(e.cons.take k).map Con.name=cm/\z1g c.datas e.cons cl=z1g c.datas (e.cons.drop k) cm)) (e.cons.length - 0) ⟨0,u2,cl,rfl,⟨J.pk,N⟩,⟨by simp,rfl⟩⟩ ?_
 clear N J
 rintro mm a w ⟨k,u3,cm,p,⟨J,N⟩,H⟩ I0 L
 replace N:=N.nf
 obtain ⟨s,o⟩:=H
 by_cases z:k < e.cons.length
 refine go fun a J=>?_
 obtain ⟨c1,rfl,f,h,r0,w0,t0,c0⟩:=y.el X z
 obtain ⟨e1,rfl,A⟩:=id c0
 obtain ⟨a1,P0,rfl,C0,Y⟩:=A.fm
 refine zZ call134 (fun E w N a J=>?_) (fun E w N a J=>?_) (c:=q1m N)
 replace N:=N.pl 3
 refine zZ call87 (fun F w N a J=>?_) (fun F w N a J=>?_) (c:=q5p (l:=cm) N)
 refine zF ?_
 replace N:=N.dl [4,3,2,1,0]
 exact zM N (by rw [g,zA b,dM,o,zA h,z1g];simp [*])
 have Z:conR f.name=true:=by assumption
 have a0:(!sH cm f.name)=true:=by simp [*]
 refine qF fun g1 w N a J=>?_
 refine qQ 1 wT (fun p0 w N a J=>?_) (hb:=by have h_:=P _ (mgQ b);rw [yG,<- s,laQ,List.length_map,List.length_take];simp only [lcQ,lnQ];omega)
 first | rw [jS] at N | rw [<- yW] at N
 refine go fun a J=>?_
 refine zU (J.ks [1,3,4,5,6,7]) N (fun R mm a w=>∃(j:Nat),mm=f.fields.length - j/\R V [(8,.int .i64 ((j:Nat):Int))] [] a w/\(f.fields.all (xA c.datas)=(f.fields.drop j).all (xA c.datas))) (f.fields.length - 0) ⟨0,rfl,⟨J.pk,N⟩,rfl⟩ ?_
 clear N J
 rintro mm a w ⟨j,p,⟨J,N⟩,n⟩ J0 M
 by_cases B:j < f.fields.length
 refine Reg [2,1,2,1,1,1,2,1,1,2,0,1] [0,1,2,3,4,5] fun w N a J=>?_
 refine go fun a J=>?_
 obtain ⟨G0,rfl,f0,q,r,k0,i0,t⟩:=A.el Y B
 obtain rfl:r=[.string f0]:=t
 refine zZ call81 (fun m w N a J=>?_) (fun m w N a J=>?_) (c:=z5i e0 N)
 refine go fun a J=>?_
 refine M _ _ _ (by subst p;omega) ⟨(j+1),rfl,⟨J.pk,N⟩,?_⟩
 rw [n,zA q,List.all_cons,m,Bool.true_and]
 refine zF ?_
 replace N:=N.dl [5,4,3,2,1,0]
 exact zM N (by rw [g,zA b,dM,o,zA h,z1g,show f.fields.all (xA c.datas)=false by rw [n,zA q,List.all_cons,m];rfl];simp)
 refine go fun a J=>?_
 replace N:=N.ar [0] [4,1,4,4,4]
 refine L _ _ _ (by subst p;omega) ⟨(k+1),(p0),(cm++[f.name]),rfl,⟨J.pk,N⟩,?_⟩
 exact ⟨by rw [jY h,<- s];simp,by rw [o,zA h,z1g,Z,a0,show f.fields.all (xA c.datas)=true by rw [n,zB B];rfl];rfl⟩
 refine zF ?_
 replace N:=N.dl [4,3,2,1,0]
 exact zM N (by rw [g,zA b,dM,o,zA h,z1g];simp [*])
 refine go fun a J=>?_
 have S:cm=cl++e.cons.map Con.name:=by rw [<- s,List.take_of_length_le (by omega)]
 rw [S] at N
 refine go fun a J=>?_
 replace N:=N.ar [2,0] [2,1,2]
 refine I _ _ _ (by subst p;omega) ⟨(i+1),(o0),(nl++[e.name]),(u3),(cl++e.cons.map Con.name),rfl,⟨J.pk,N⟩,?_⟩
 exact ⟨by omega,by simp [j0];omega,by have h_:=P _ (mgQ b);rw [laQ,List.length_map];omega,by rw [g,zA b,dM,T,U,W,show z1g c.datas e.cons cl=true by rw [o,zB z];rfl];rfl⟩
 refine zF ?_
 replace N:=N.dl [3,2,1,0]
 exact zM N (by rw [g,zA b,dM];simp [*])
 refine zF ?_
 replace N:=N.dl [2,1,0]
 exact zM N (by rw [g,zB v];rfl)
end
theorem y0w (f:Fun) (fs:List Fun) (n:Nat):gV (f::fs) n=if 16 < f.params.length then true else gV fs (if n<=6000 then n+xM f.body (6000 - n) else n):=rfl
theorem z6y:∀{fs:List Fun} {l:Int},cQ fs l=false->∀f∈fs,f.params.length<=16
 | f::fs,l,h,g,a=>by
  simp only [cQ,Bool.or_eq_false_iff,decide_eq_false_iff_not] at h
  rcases List.mem_cons.1 a with rfl | a
  omega
  exact z6y h.2 g a
theorem j6i {e:Ex} (h:pU e):(zP e).length<=102000:=by
 obtain ⟨l,h1,a⟩:=h
 have b:=z4c e l a
 have:=(wC e l a).1
 omega
theorem x1y {c:Core} (h:tC c=false):c.datas.length<=60/\c.inputs.length<=6/\c.funs.length<=300/\c.outputs.length<=6/\(∀d∈c.datas,d.cons.length<=16)/\(∀f∈c.funs,f.params.length<=16/\pU f.body/\(zP f.body).length<=102000)/\Lim c:=by
 rw [j0e] at h
 have e:=fun f a=>nF h (f:=f) a
 simp only [vO,Bool.or_eq_false_iff,decide_eq_false_iff_not,List.any_eq_false] at h
 obtain ⟨⟨⟨⟨⟨h1,k⟩,l⟩,m⟩,g⟩,i⟩:=h
 have b:∀f∈c.funs,f.params.length<=16/\pU f.body/\(zP f.body).length<=102000:=fun f a=>⟨z6y i f a,e f a,j6i (e f a)⟩
 refine ⟨by omega,by omega,by omega,by omega,fun d j=>?_,b,by omega,fun f a=>by have:=(b f a).1;omega⟩
 have:=g d j
 simp only [hO,Bool.or_eq_true,decide_eq_true_eq,not_or] at this
 omega
theorem kD {c:Core} (h1:c.funs.any (fun f=>vB 250 f.body)=false) (a:tC c=false) (b:kN c=false):jP c=80:=by rw [jP,h1,a,b];rfl
theorem x4y {c:Core} (h1:c.funs.any (fun f=>vB 250 f.body)=false) (a:tC c=false) (b:kN c=true):jP c=0:=by rw [jP,h1,a,b];rfl
theorem outR_no {fs:List Fun} {o:Bs} (h:xF fs o < 0):y2e fs o=false:=by
 unfold xF at h;unfold y2e
 cases a:mM fs o with
 | none=>rfl
 | some j=>rw [a] at h;simp only at h;omega
theorem j8r {fs:List Fun} {o:Bs} {j:Nat} {f:Fun} (h:mM fs o=some j) (a:fs[j]? = some f):y2e fs o=decide (f.params.length=0):=by unfold y2e;rw [h];simp only;rw [a]
theorem j4d {V:Fz} {K:List Res} {w:World} {d0:List Value} {c:Core} (w0:RCore V d0 c) (N:Mem V K w) :
  Calls prog 107 #[.agg d0.toArray] w (fun ee w'=>ee=.returned (.bool (tC c))/\Mem V K w'):=by
 obtain ⟨p3,c4,p9,g0,g1,h0,t0,c22,rfl,h2,h8,i0,Z0,e1,s0,K0,P0,L0,Y,M0,Q0⟩:=RCore.fm w0
 refine zK func107 ntmps107 fun Q hQ a J=>?_
 refine Bx fun A w N a J=>?_
 by_cases a1:60 < c.datas.length
 refine zF ?_
 replace N:=N.dl [0]
 exact zM N (by simp [tC, *])
 by_cases b1:6 < c.inputs.length
 refine zF ?_
 replace N:=N.dl [0]
 exact zM N (by simp [tC, *])
 by_cases c1:300 < c.funs.length
 refine zF ?_
 replace N:=N.dl [0]
 exact zM N (by simp [tC, *])
 refine go fun a J=>?_
 by_cases d1:6 < c.outputs.length
 refine zF ?_
 replace N:=N.dl [0]
 exact zM N (by simp [tC, *])
 refine go fun a J=>?_
 refine zU (J.ks [1]) N (fun R mm a w=>∃(i:Nat),mm=c.datas.length - i/\R V [(3,.int .i64 ((i:Nat):Int))] [] a w/\(tC c=((c.datas.drop i).any hO || gV c.funs 0))) (c.datas.length - 0) ⟨0,rfl,⟨J.pk,N⟩,by simp [tC, *]⟩ ?_
 clear N J
 rintro mm a w ⟨i,h,⟨J,N⟩,e⟩ U0 P
 by_cases E:i < c.datas.length
 refine go fun a J=>?_
 obtain ⟨l1,rfl,d,l,A0,H0,F0,a0⟩:=h2.el s0 E
 obtain ⟨n1,rfl,F⟩:=id a0
 obtain ⟨i1,X0,rfl,N0,Z⟩:=F.fm
 by_cases G:16 < d.cons.length
 refine zF ?_
 replace N:=N.dl [0]
 exact zM N (by rw [e,zA l,List.any_cons,show hO d=true by unfold hO;rw [decide_eq_true G];rfl];rfl)
 have l0:=G
 refine go fun a J=>?_
 refine zU (J.ks [1,3]) N (fun R mm a w=>∃(k:Nat),mm=d.cons.length - k/\R V [(4,.int .i64 ((k:Nat):Int))] [] a w/\(d.cons.any (fun x=>decide (16 < x.fields.length))=(d.cons.drop k).any (fun x=>decide (16 < x.fields.length)))) (d.cons.length - 0) ⟨0,rfl,⟨J.pk,N⟩,rfl⟩ ?_
 clear N J
 rintro mm a w ⟨k,h,⟨J,N⟩,f⟩ V0 S
 by_cases H:k < d.cons.length
 refine go fun a J=>?_
 obtain ⟨m1,rfl,x0,s,B0,I0,G0,b0⟩:=F.el Z H
 obtain ⟨o1,rfl,j0⟩:=id b0
 obtain ⟨j1,c80,rfl,O0,R0⟩:=j0.fm
 by_cases I:16 < x0.fields.length
 refine zF ?_
 replace N:=N.dl [0]
 exact zM N (by rw [e,zA l,List.any_cons,show hO d=true by unfold hO;rw [f,zA s,List.any_cons,decide_eq_true I,Bool.true_or,Bool.or_true]];rfl)
 refine go fun a J=>?_
 refine S _ _ _ (by subst h;omega) ⟨(k+1),rfl,⟨J.pk,N⟩,?_⟩
 rw [f,zA s,List.any_cons,decide_eq_false I];rfl
 refine go fun a J=>?_
 refine P _ _ _ (by subst h;omega) ⟨(i+1),rfl,⟨J.pk,N⟩,?_⟩
 rw [e,zA l,List.any_cons,show hO d=false by unfold hO;rw [f,zB H,decide_eq_false l0];rfl];rfl
 refine go fun a J=>?_
 refine zU (J.ks [1]) N (fun R mm a w=>∃(i:Nat) (n:Nat),mm=c.funs.length - i/\R V [(5,.int .i64 ((n:Nat):Int)),(6,.int .i64 ((i:Nat):Int))] [] a w/\(n<=6001/\tC c=gV (c.funs.drop i) n)) (c.funs.length - 0) ⟨0,0,rfl,⟨J.pk,N⟩,⟨by omega,by rw [e,zB E];rfl⟩⟩ ?_
 clear N J
 rintro mm a w ⟨i,n,h,⟨J,N⟩,M⟩ W0 T
 obtain ⟨f1,y⟩:=M
 refine go fun a J=>?_
 by_cases L:i < c.funs.length
 refine goJ 19 fun a J=>?_
 refine sq fun f0 U=>?_
 obtain ⟨u0,rfl,b,t,C0,J0,v,z⟩:=i0.el Y L
 obtain ⟨T0,y0,rfl,D,p⟩:=id z
 obtain ⟨S0,z0,rfl,m0,p0⟩:=D.fm
 obtain ⟨c0,B,e0,C,rfl,k0,D0,E0,n0,q0,o0,r0⟩:=REx.fm p
 have g:∀a w,(∃(m:Nat),EnvR 97 [(1,.pointer (some ⟨A,0,none⟩)),(5,.int .i64 ((m:Nat):Int)),(6,.int .i64 ((i:Nat):Int))] [] a/\Mem V (.blk A (ob [.slice p3 c.datas.length c4,.slice p9 c.inputs.length g0,.slice (some u0) c.funs.length h0,.slice t0 c.outputs.length c22] 27)::K) w/\(m=(if n<=6000 then n+xM b.body (6000 - n) else n)/\m<=6001))->f0 a w:=by
  clear N J
  rintro a w ⟨m,J,N,u⟩
  apply U
  obtain ⟨W,X⟩:=u
  by_cases q:16 < b.params.length
  refine zF ?_
  replace N:=N.dl [0]
  exact zM N (by rw [y,zA t,y0w];exact (if_pos q).symm)
  refine go fun a J=>?_
  refine T _ _ _ (by subst h;omega) ⟨(i+1),(m),rfl,⟨J.pk,N⟩,?_⟩
  exact ⟨X,by rw [y,zA t,y0w,if_neg q,<- W]⟩
 by_cases r:n<=6000
 refine Qq (fun a J=>?_) (o:=by exact fun J O=>jF 3 (vs:=[.int .i64 (b.body.kind),.int .i64 (b.body.num),.string b.body.name,.slice c0 b.body.args.length B,.slice e0 b.body.arms.length C]) J O rfl v isAgg66 sizeOf66 rfl rfl)
 refine Qq (fun a J=>?_) (o:=by exact fun J O=>xX ((6000 - n:Nat):Int) J rfl rfl (by rw [yD (by omega)];omega))
 refine zO call160 (fun w N a J=>?_) (c:=x8o (by omega) p N)
 refine Qq (fun a J=>?_) (o:=by exact fun J O=>z1m ((n+(xM b.body (6000 - n)):Nat):Int) J rfl rfl (by have h_:=nI b.body (6000 - n);rw [yD (by omega)];omega))
 refine go fun a J=>?_
 exact g _ _ ⟨n+(xM b.body (6000 - n)),J.pk,N,⟨(if_pos r).symm,by have h_:=nI b.body (6000 - n);omega⟩⟩
 refine go fun a J=>?_
 exact g _ _ ⟨n,J.pk,N,⟨(if_neg r).symm,by omega⟩⟩
 refine Qq (fun a J=>?_) (o:=by exact fun J O=>j6y (i:=n) (j:=6000) J rfl rfl)
 refine zF ?_
 replace N:=N.dl [0]
 exact zM N (by rw [y,zB L];rfl)
end Go.Sw
