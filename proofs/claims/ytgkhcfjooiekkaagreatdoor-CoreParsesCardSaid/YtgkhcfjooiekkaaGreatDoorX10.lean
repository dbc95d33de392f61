import Derived.Test.YtgkhcfjooiekkaaGreatDoorX09
set_option linter.unusedVariables false
set_option linter.unusedSimpArgs false
namespace Go.Sw
open Go.Proofs Go.Proofs.Tryz
set_option maxRecDepth 20000
set_option maxHeartbeats 4000000
theorem j7i {V:Fz} {K:List Res} {w:World} {r i:Nat} {rs:Value} {ws:List Bs} {d:Nat} (hd:d<=1000) (E:tU ws d) (G:Glob V) (rl:SliceOf RStr V 1 rs ws) (m0:ws.length<=1000000) (hi:i<=ws.length) (N:Mem V (.blk r (ob [rs,.int .i64 i] 208)::K) w) :
  Calls prog 218 #[.pointer (some ⟨r,0,none⟩),.int .i64 ((d+1:Nat):Int)] w (fun ee w'=>Out (z3k (zS ws d) i) (fun x=>∃y:Fz×Value,ee=.returned y.2/\(V.Le y.1/\SliceOf REx y.1 5 y.2 x.1)/\Mem y.1 (.blk r (ob [rs,.int .i64 ((x.2:Nat):Int)] 208)::K) w') (fun c=>ee=.panicked (nI c)/\Mem V K w')):=by
 obtain ⟨pw,cw,rfl,k0,l0⟩:=rl.fm
 refine zI func218 ntmps218 fun Q hQ a J=>?_
 refine Qq (fun a J=>?_) (o:=by exact fun J O=>jT ((d:Nat):Int) J rfl rfl (by rw [yB (by omega)];omega))
 refine xV call180 (fun v y4 w j z N a J=>?_) (fun v w j N=>?_) (c:=E G rl (i:=i) (by omega) N)
 obtain ⟨u0,d8⟩:=y4
 obtain ⟨m,b⟩:=z
 simp only at m b N J
 have A:=xI d _ _ j
 replace rl:=rl.up m
 replace G:=G.mono m
 replace N:=N.nf
 obtain ⟨n0,a0,o0,c21,rfl,F,g0,h0,I,S,L,T⟩:=REx.fm b
 refine Alc fun Z w N a J=>?_
 refine Sto 0 fun w N a J=>?_
 refine Reg [2,1,1,1,0,0,1] [0] fun w N a J=>?_
 refine Qq (fun a J=>?_) (o:=by exact fun J O=>jT ((d:Nat):Int) J rfl rfl (by rw [yB (by omega)];omega))
 replace N:=N.pl 1
 refine xV call180 (fun p D w f u N a J=>?_) (fun p w f N=>?_) (c:=E G rl (i:=v.2) (by omega) N)
 obtain ⟨Y,f0⟩:=D
 obtain ⟨g,e⟩:=u
 simp only at g e N J
 have B:=xI d _ _ f
 replace G:=G.mono g
 replace b:=b.up g
 replace N:=N.nf
 obtain ⟨p0,b0,q0,c0,rfl,H,i0,j0,M,U,P,W⟩:=REx.fm e
 refine yK fun s0 w N a J=>?_
 refine go fun a J=>?_
 have q:=N
 clear N
 obtain ⟨t,h,N,n⟩:=q.freezeRow (i:=0) rfl
 clear q
 replace G:=G.mono h
 replace b:=b.up h
 replace e:=e.up h
 replace N:=N.nf
 have l:SliceOf REx t 5 _ ([v.1,p.1]):=⟨_,n,(Chunks.two (k:=5) rfl b rfl e :)⟩
 obtain ⟨r0,d0,C,R,X⟩:=l.form (by decide)
 have s:=N
 clear N
 subst C
 have N:=s
 clear s
 replace N:=N.dl [1]
 refine zF ?_
 show Out (z3k (zS ws d) i) _ _
 rw [show z3k (zS ws d) i=.ok ([v.1,p.1],p.2) from (zD j).trans ((zD f).trans (rfl))]
 exact ⟨(t,_),rfl,⟨((m).trans g).trans h,l⟩,N⟩
 replace N:=N.dl [0]
 show Out (z3k (zS ws d) i) _ _
 rw [show z3k (zS ws d) i=.error _ from (zD j).trans (zP f)]
 exact ⟨rfl,N.le (m)⟩
 show Out (z3k (zS ws d) i) _ _
 rw [show z3k (zS ws d) i=.error _ from zP j]
 exact ⟨rfl,N.le (Fz.Le.refl _)⟩
theorem q9j {V:Fz} {K:List Res} {w:World} {r i:Nat} {rs:Value} {ws:List Bs} {m:Nat} {d:Nat} (hd:d<=1000) (hE:tU ws d) (G:Glob V) (rl:SliceOf RStr V 1 rs ws) (b0:ws.length<=1000000) (hi:i<=ws.length) (N:Mem V (.blk r (ob [rs,.int .i64 i] 208)::K) w) :
  Calls prog 219 #[.pointer (some ⟨r,0,none⟩),.int .i64 m,.int .i64 ((d+1:Nat):Int)] w (fun ee w'=>Out (kB ws (zS ws d) (ws.length+1) m i) (fun x=>∃y:Fz×Value,ee=.returned y.2/\(V.Le y.1/\SliceOf REx y.1 5 y.2 x.1)/\Mem y.1 (.blk r (ob [rs,.int .i64 ((x.2:Nat):Int)] 208)::K) w') (fun c=>ee=.panicked (nI c)/\Mem V K w')):=by
 obtain ⟨pw,cw,rfl,H0,I0⟩:=rl.fm
 refine zI func219 ntmps219 fun Q hQ a J=>?_
 refine go fun a J=>?_
 replace N:=N.nilRow 66 5
 replace N:=N.nf
 refine zR (J.ks [0,1,2]) N (fun R mm a w=>∃(B:Fz) (j:Nat) (u:Value) (cs:List Value) (xs:List Ex) (f:Nat),mm=ws.length - j/\R B [(7,u)] [(0,.gs (u) 66 5 cs),(1,.blk r (ob [.slice pw ws.length cw,.int .i64 j] 208))] a w/\(V.Le B/\(Chunks (REx B) 5 cs xs/\xs.length<=j/\j<=ws.length/\xs.length+f=ws.length+1/\kB ws (zS ws d) (ws.length+1) m i=wC xs (kB ws (zS ws d) f (m - xs.length) j)))) (ws.length - i) ⟨V,i,.slice none 0 0,[],[],ws.length+1,rfl,⟨J.pk,N⟩,⟨Fz.Le.refl _,⟨rfl,Nat.zero_le _,hi,Nat.zero_add _,oR _⟩⟩⟩ ?_
 clear N J
 rintro mm a w ⟨B,j,u,cs,xs,f,S,⟨J,N⟩,I⟩ L6 P
 replace N:=N.nf
 obtain ⟨k,I⟩:=I
 replace rl:=rl.up k
 replace G:=G.mono k
 obtain ⟨hch,J0,hj,F0,s⟩:=I
 refine Qq (fun a J=>?_) (o:=by exact fun J O=>y7y 0 (xs.length) J O rfl rfl (hch.length) (by decide) runUnderlying63)
 refine go fun a J=>?_
 by_cases F:xs.length < m
 refine Qq (fun a J=>?_) (o:=by exact fun J O=>jT ((d:Nat):Int) J rfl rfl (by rw [yB (by omega)];omega))
 replace N:=N.pl 1
 refine xV call180 (fun e j0 w l L N a J=>?_) (fun e w l N=>?_) (c:=hE G rl (i:=j) (by omega) N)
 obtain ⟨T,z0⟩:=j0
 obtain ⟨b,t⟩:=L
 simp only at b t N J
 have Y:=xI d _ _ l
 replace rl:=rl.up b
 replace G:=G.mono b
 replace hch:=hch.mono fun _ _ h=>h.up b
 replace N:=N.nf
 obtain ⟨c0,c23,d0,W,rfl,m0,B0,C0,o0,t0,p0,u0⟩:=REx.fm t
 refine yK fun L0 w N a J=>?_
 refine yU 2 z3q (fun h0 w N a J=>?_)
 refine go fun a J=>?_
 replace N:=N.ar [0] [1]
 refine P _ _ _ (by subst S;omega) ⟨(T),(e.2),(h0),((cs++[.int .i64 (e.1.kind),.int .i64 (e.1.num),.string e.1.name,.slice c0 e.1.args.length c23,.slice d0 e.1.arms.length W])),(xs++[e.1]),(f - 1),rfl,⟨J.pk,by exact N⟩,?_⟩
 refine ⟨(k).trans b,?_⟩
 exact ⟨hch.snoc rfl t,by simp only [laQ,lcQ,lnQ];omega,by omega,by simp only [laQ,lcQ,lnQ];omega,q1o s (by omega) (.inl F) l⟩
 replace N:=N.dl [0]
 show Out (kB ws (zS ws d) (ws.length+1) m i) _ _
 rw [show kB ws (zS ws d) (ws.length+1) m i=.error _ from q1n s (by omega) (.inl F) l]
 exact ⟨rfl,N.le (k)⟩
 replace N:=N.pl 1
 refine zO call179 (fun w N a J=>?_) (c:=mF (i:=j) rl b0 (by omega) N)
 by_cases H:(zB ws j)=(⟨#[41]⟩:Bs)
 refine go fun a J=>?_
 have C:=N
 clear N
 obtain ⟨E,p,N,A⟩:=C.freezeRow (i:=1) rfl
 clear C
 replace rl:=rl.up p
 replace G:=G.mono p
 replace hch:=hch.mono fun _ _ h=>h.up p
 replace N:=N.nf
 have z:SliceOf REx E 5 _ (xs):=⟨_,A,hch⟩
 obtain ⟨K0,c42,a0,q0,w0⟩:=z.form (by decide)
 have D:=N
 clear N
 subst a0
 have N:=D
 clear D
 refine zF ?_
 show Out (kB ws (zS ws d) (ws.length+1) m i) _ _
 rw [show kB ws (zS ws d) (ws.length+1) m i=.ok (xs,j) from x5o s (by omega) F H]
 exact ⟨(E,_),rfl,⟨(k).trans p,z⟩,N⟩
 refine Qq (fun a J=>?_) (o:=by exact fun J O=>jT ((d:Nat):Int) J rfl rfl (by rw [yB (by omega)];omega))
 refine xV call180 (fun g k0 w n M N a J=>?_) (fun g w n N=>?_) (c:=hE G rl (i:=j) (by omega) N)
 obtain ⟨U,A0⟩:=k0
 obtain ⟨q,v⟩:=M
 simp only at q v N J
 have Z:=xI d _ _ n
 replace G:=G.mono q
 replace hch:=hch.mono fun _ _ h=>h.up q
 replace N:=N.nf
 obtain ⟨f0,X,g0,c63,rfl,n0,D0,E0,r0,x0,s0,y0⟩:=REx.fm v
 refine yK fun M0 w N a J=>?_
 refine yU 2 z3q (fun i0 w N a J=>?_)
 refine go fun a J=>?_
 replace N:=N.ar [0] [1]
 refine P _ _ _ (by subst S;omega) ⟨(U),(g.2),(i0),((cs++[.int .i64 (g.1.kind),.int .i64 (g.1.num),.string g.1.name,.slice f0 g.1.args.length X,.slice g0 g.1.arms.length c63])),(xs++[g.1]),(f - 1),rfl,⟨J.pk,by exact N⟩,?_⟩
 refine ⟨(k).trans q,?_⟩
 exact ⟨hch.snoc rfl v,by simp only [laQ,lcQ,lnQ];omega,by omega,by simp only [laQ,lcQ,lnQ];omega,q1o s (by omega) (.inr H) n⟩
 replace N:=N.dl [0]
 show Out (kB ws (zS ws d) (ws.length+1) m i) _ _
 rw [show kB ws (zS ws d) (ws.length+1) m i=.error _ from q1n s (by omega) (.inr H) n]
 exact ⟨rfl,N.le (k)⟩
theorem x6o {V:Fz} {K:List Res} {w:World} {r i:Nat} {rs:Value} {ws:List Bs} {d:Nat} (hd:d<=1000) (hE:tU ws d) (G:Glob V) (rl:SliceOf RStr V 1 rs ws) (v:ws.length<=1000000) (hi:i<=ws.length) (N:Mem V (.blk r (ob [rs,.int .i64 i] 208)::K) w) :
  Calls prog 206 #[.pointer (some ⟨r,0,none⟩),.int .i64 ((d+1:Nat):Int)] w (fun ee w'=>Out (yX ws (zS ws d) i) (fun x=>∃y:Fz×List Value,ee=.returned (.agg y.2.toArray)/\(V.Le y.1/\REx y.1 y.2 x.1)/\Mem y.1 (.blk r (ob [rs,.int .i64 ((x.2:Nat):Int)] 208)::K) w') (fun c=>ee=.panicked (nI c)/\Mem V K w')):=by
 obtain ⟨pw,cw,rfl,i4,j4⟩:=rl.fm
 refine zI func206 ntmps206 fun Q hQ a J=>?_
 refine Alc fun b2 w N a J=>?_
 replace N:=N.pl 1
 refine zO call179 (fun w N a J=>?_) (c:=mF (i:=i) rl v (by omega) N)
 refine goJ 10 fun a J=>?_
 refine sq fun L6 M2=>?_
 have w0:∀a w,(EnvR 125 [(0,.pointer (some ⟨r,0,none⟩)),(1,.int .i64 ((d+1:Nat):Int)),(4,.pointer (some ⟨b2,0,none⟩)),(5,.string (zB ws i)),(12,.string (zB ws i)),(13,.bool (mT (zB ws i)))] [] a/\Mem V (.blk r (ob [.slice pw ws.length cw,.int .i64 i] 208)::.blk b2 (ob [.int .i64 ((0:Nat):Int),.int .i64 ((0:Nat):Int),.string ⟨#[]⟩,.slice none 0 0,.slice none 0 0] 66)::K) w/\(True))->L6 a w:=by
  clear N J
  rintro a w ⟨J,N,g4⟩
  apply M2
  generalize b:(mT (zB ws i))=J2 at J
  cases J2
  by_cases s:(zB ws i)=(⟨#[108,101,116]⟩:Bs)
  have O0:=xY s (by decide)
  refine Sto 0 fun w N a J=>?_
  refine jE call129 (fun y1 w x0 N a J=>?_) (fun y1 w x0 N=>?_) (c:=aN G (i:=(i+1)) rl v (by omega) N)
  have A2:=jW x0
  refine xV call218 (fun z1 n3 w H0 M1 N a J=>?_) (fun z1 w H0 N=>?_) (c:=j7i hd hE G (i:=y1.2) rl v (by omega) N)
  obtain ⟨r2,c4⟩:=n3
  obtain ⟨K0,P0⟩:=M1
  simp only at K0 P0 N J
  have N2:=two_le H0
  replace rl:=rl.up K0
  replace G:=G.mono K0
  replace N:=N.nf
  obtain ⟨l4,a4,rfl,Z2,J3⟩:=P0.fm
  refine zU fun a J=>?_
  refine Sto 1 fun w N a J=>?_
  refine go fun a J=>?_
  have h0:=N
  replace N:=N.dl [1]
  refine qI (N:=h0) ?_
  show Out (yX ws (zS ws d) i) _ _
  rw [show yX ws (zS ws d) i=.ok (.mk 6 0 y1.1 z1.1 [],z1.2) from (y4q b s).trans ((zD x0).trans ((zD H0).trans (rfl)))]
  exact ⟨(r2,_),rfl,⟨K0,REx.node P0⟩,N⟩
  replace N:=N.dl [0]
  show Out (yX ws (zS ws d) i) _ _
  rw [show yX ws (zS ws d) i=.error _ from (y4q b s).trans ((zD x0).trans (zP H0))]
  rotate_left
  replace N:=N.dl [0]
  show Out (yX ws (zS ws d) i) _ _
  rw [show yX ws (zS ws d) i=.error _ from (y4q b s).trans (zP x0)]
  rotate_left
  by_cases t:(zB ws i)=(⟨#[99,97,115,101]⟩:Bs)
  have O0:=xY t (by decide)
  refine Sto 0 fun w N a J=>?_
  refine Qq (fun a J=>?_) (o:=by exact fun J O=>jT ((d:Nat):Int) J rfl rfl (by rw [yB (by omega)];omega))
  refine xV call180 (fun G0 o3 w n N1 N a J=>?_) (fun G0 w n N=>?_) (c:=hE G rl (i:=(i+1)) (by omega) N)
  obtain ⟨W3,d4⟩:=o3
  obtain ⟨p,l⟩:=N1
  simp only at p l N J
  have O2:=xI d _ _ n
  replace rl:=rl.up p
  replace G:=G.mono p
  replace N:=N.nf
  obtain ⟨m4,b4,n4,c53,rfl,E3,e4,f4,F3,K3,G3,L3⟩:=REx.fm l
  refine yK fun o4 w N a J=>?_
  have D:=N
  clear N
  obtain ⟨b1,q,N,d1⟩:=D.freezeRow (i:=0) rfl
  clear D
  replace rl:=rl.up q
  replace G:=G.mono q
  replace l:=l.up q
  replace N:=N.nf
  have e:SliceOf REx b1 5 _ ([G0.1]):=⟨_,d1,(Chunks.one rfl l)⟩
  obtain ⟨l3,c63,E0,H3,M3⟩:=e.form (by decide)
  have E:=N
  clear N
  subst E0
  have N:=E
  clear E
  refine zU fun a J=>?_
  refine Alc fun H2 w N a J=>?_
  refine Sto 0 fun w N a J=>?_
  refine go fun a J=>?_
  replace N:=N.nilRow 195 7
  replace N:=N.nf
  refine zR (J.ks [0,1,4,7]) N (fun R mm a w=>∃(g0:Fz) (j:Nat) (u:Value) (cs:List Value) (xs:List Arm) (f:Nat),mm=ws.length - j/\R g0 [] [(0,.gs (u) 195 7 cs),(1,.blk H2 (ob [.int .i64 ((7:Nat):Int),.int .i64 ((0:Nat):Int),.string ⟨#[]⟩,.slice l3 ([G0.1]).length c63,u] 66)),(2,.blk r (ob [.slice pw ws.length cw,.int .i64 j] 208))] a w/\(b1.Le g0/\(Chunks (RArm g0) 7 cs xs/\xs.length<=j/\j<=ws.length/\xs.length+f=ws.length+1/\dB ws (zS ws d) (ws.length+1) true G0.2=wC xs (dB ws (zS ws d) f (decide (xs.length=0)) j)))) (ws.length - G0.2) ⟨b1,G0.2,.slice none 0 0,[],[],ws.length+1,rfl,⟨J.pk,N⟩,⟨Fz.Le.refl _,⟨rfl,Nat.zero_le _,by omega,Nat.zero_add _,oR _⟩⟩⟩ ?_
  clear N J
  rintro mm a w ⟨g0,j,u,cs,xs,f,L0,⟨J,N⟩,N0⟩ Y3 m1
  replace N:=N.nf
  obtain ⟨g,N0⟩:=N0
  replace rl:=rl.up g
  replace G:=G.mono g
  replace l:=l.up g
  replace e:=e.up g
  obtain ⟨hch,k4,hj,h4,I⟩:=N0
  refine Qq (fun a J=>?_) (o:=by exact fun J O=>y7y 0 (xs.length) J O rfl rfl (hch.length) (by decide) runUnderlying64)
  by_cases u0:xs.length=0
  replace N:=N.pl 2
  refine jE call177 (fun g2 w L N a J=>?_) (fun g2 w L N=>?_) (c:=pG (x:=(⟨#[40]⟩:Bs)) (i:=j) rl v (by omega) N)
  have B2:=pE L
  refine jE call176 (fun t0 w Y N a J=>?_) (fun t0 w Y N=>?_) (c:=sK G (i:=g2.2) rl v (by omega) N)
  have C2:=jW Y
  refine zU fun a J=>?_
  refine Alc fun I2 w N a J=>?_
  refine Sto 0 fun w N a J=>?_
  refine go fun a J=>?_
  replace N:=N.nilRow 9 1
  replace N:=N.nf
  refine zR (J.ks [0,1,4,7,8]) N (fun R mm a w=>∃(j2:Nat) (u2:Value) (vs:List Bs) (f2:Nat),mm=ws.length - j2/\R g0 [] [(0,.gs (u2) 9 1 (strs vs)),(1,.blk I2 (ob [.string t0.1,u2,.int .i64 ((0:Nat):Int),.int .i64 ((0:Nat):Int),.string ⟨#[]⟩,.slice none 0 0,.slice none 0 0] 195)),(2,.blk r (ob [.slice pw ws.length cw,.int .i64 j2] 208))] a w/\(vs.length<=j2/\j < j2/\j2<=ws.length/\vs.length+f2=ws.length+1/\cA ws (ws.length+1) t0.2=wC vs (cA ws f2 j2))) (ws.length - t0.2) ⟨t0.2,.slice none 0 0,[],ws.length+1,rfl,⟨J.pk,N⟩,⟨Nat.zero_le _,by omega,by omega,Nat.zero_add _,oR _⟩⟩ ?_
  clear N J
  rintro mm a w ⟨j2,u2,vs,f2,L0,⟨J,N⟩,O1⟩ Z3 P1
  replace N:=N.nf
  obtain ⟨k3,R2,S2,Q1,y0⟩:=O1
  replace N:=N.pl 2
  refine zO call179 (fun w N a J=>?_) (c:=mF (i:=j2) rl v (by omega) N)
  by_cases p1:(zB ws j2)=(⟨#[45,62]⟩:Bs)
  refine go fun a J=>?_
  have D:=N
  clear N
  obtain ⟨s2,M,N,e1⟩:=D.freezeRow (i:=1) rfl
  clear D
  replace rl:=rl.up M
  replace G:=G.mono M
  replace l:=l.up M
  replace e:=e.up M
  replace hch:=hch.mono fun _ _ h=>h.up M
  replace N:=N.nf
  have p0:SliceOf RStr s2 1 _ (vs):=SliceOf.strs.2 e1
  obtain ⟨m3,K2,E0,I3,N3⟩:=p0.form (by decide)
  have E:=N
  clear N
  subst E0
  have N:=E
  clear E
  have J0:=j0d y0 (by omega) p1
  refine jE call177 (fun h2 w f0 N a J=>?_) (fun h2 w f0 N=>?_) (c:=pG (x:=(⟨#[45,62]⟩:Bs)) (i:=j2) rl v (by omega) N)
  have D2:=pE f0
  refine Qq (fun a J=>?_) (o:=by exact fun J O=>jT ((d:Nat):Int) J rfl rfl (by rw [yB (by omega)];omega))
  refine xV call180 (fun P m2 w a0 r1 N a J=>?_) (fun P w a0 N=>?_) (c:=hE G rl (i:=h2.2) (by omega) N)
  obtain ⟨B1,v3⟩:=m2
  obtain ⟨A,z0⟩:=r1
  simp only at A z0 N J
  have v2:=xI d _ _ a0
  replace rl:=rl.up A
  replace G:=G.mono A
  replace l:=l.up A
  replace e:=e.up A
  replace hch:=hch.mono fun _ _ h=>h.up A
  replace p0:=p0.up A
  replace N:=N.nf
  obtain ⟨Z1,I1,a2,J1,rfl,P2,A3,B3,T2,a3,U2,b3⟩:=REx.fm z0
  refine Sto 1 fun w N a J=>?_
  refine jE call177 (fun S0 w i0 N a J=>?_) (fun S0 w i0 N=>?_) (c:=pG (x:=(⟨#[41]⟩:Bs)) (i:=P.2) rl v (by omega) N)
  have R1:=pE i0
  refine yK fun S3 w N a J=>?_
  refine yU 3 j7h (fun v127 w N a J=>?_)
  refine Sto 4 fun w N a J=>?_
  refine go fun a J=>?_
  replace N:=N.ar [2,0] [3,1,3,3]
  refine m1 _ _ _ (by subst L0;omega) ⟨(B1),(S0.2),(v127),((cs++[.string t0.1,.slice m3 (vs).length K2,.int .i64 (P.1.kind),.int .i64 (P.1.num),.string P.1.name,.slice Z1 P.1.args.length I1,.slice a2 P.1.arms.length J1])),(xs++[.mk t0.1 vs P.1]),(f - 1),rfl,⟨J.pk,by exact N⟩,?_⟩
  refine ⟨((g).trans M).trans A,?_⟩
  exact ⟨hch.snoc (k:=7) rfl (RArm.of p0 z0 (c:=t0.1)),by simp only [laQ,lcQ,lnQ];omega,by omega,by simp only [laQ,lcQ,lnQ];omega,y9v (x:=(.mk t0.1 vs P.1,S0.2)) I (by omega) (.inl u0) ((zD L).trans ((zD Y).trans ((zD J0).trans ((zD f0).trans ((zD a0).trans ((zD i0).trans (rfl)))))))⟩
  replace N:=N.dl [3,2,1,0]
  show Out (yX ws (zS ws d) i) _ _
  rw [show yX ws (zS ws d) i=.error _ from (xW b s t).trans ((zD n).trans (zP (kE I (by omega) (.inl u0) ((zD L).trans ((zD Y).trans ((zD J0).trans ((zD f0).trans ((zD a0).trans (zP i0)))))))))]
  exact ⟨rfl,N.le (((((p).trans q).trans g).trans M).trans A)⟩
  replace N:=N.dl [3,2,1,0]
  show Out (yX ws (zS ws d) i) _ _
  rw [show yX ws (zS ws d) i=.error _ from (xW b s t).trans ((zD n).trans (zP (kE I (by omega) (.inl u0) ((zD L).trans ((zD Y).trans ((zD J0).trans ((zD f0).trans (zP a0))))))))]
  exact ⟨rfl,N.le ((((p).trans q).trans g).trans M)⟩
  replace N:=N.dl [3,2,1,0]
  show Out (yX ws (zS ws d) i) _ _
  rw [show yX ws (zS ws d) i=.error _ from (xW b s t).trans ((zD n).trans (zP (kE I (by omega) (.inl u0) ((zD L).trans ((zD Y).trans ((zD J0).trans (zP f0)))))))]
  exact ⟨rfl,N.le ((((p).trans q).trans g).trans M)⟩
  refine Reg [1,2,1,0,0,0,1,0] [2,3,4,5] fun w N a J=>?_
  refine jE call129 (fun T0 w j0 N a J=>?_) (fun T0 w j0 N=>?_) (c:=aN G (i:=j2) rl v (by omega) N)
  have S1:=jW j0
  refine yK fun T3 w N a J=>?_
  refine yU 2 vA (fun i2 w N a J=>?_) (hb:=by simp [zZ];omega)
  refine Sto 3 fun w N a J=>?_
  refine go fun a J=>?_
  first | rw [qM] at N | rw [<- yE] at N
  replace N:=N.ar [0] [5,5,5,3,5,5]
  refine P1 _ _ _ (by subst L0;omega) ⟨(T0.2),(i2),(vs++[T0.1]),(f2 - 1),rfl,⟨J.pk,by exact N⟩,?_⟩
  exact ⟨by simp only [laQ,lcQ,lnQ];omega,by omega,by omega,by simp only [laQ,lcQ,lnQ];omega,q2r y0 (by omega) p1 j0⟩
  replace N:=N.dl [4,3,2,1,0]
  show Out (yX ws (zS ws d) i) _ _
  rw [show yX ws (zS ws d) i=.error _ from (xW b s t).trans ((zD n).trans (zP (kE I (by omega) (.inl u0) ((zD L).trans ((zD Y).trans (zP (q2q y0 (by omega) p1 j0)))))))]
  rotate_left
  replace N:=N.dl [2,1,0]
  show Out (yX ws (zS ws d) i) _ _
  rw [show yX ws (zS ws d) i=.error _ from (xW b s t).trans ((zD n).trans (zP (kE I (by omega) (.inl u0) ((zD L).trans (zP Y)))))]
  rotate_left
  replace N:=N.dl [2,1,0]
  show Out (yX ws (zS ws d) i) _ _
  rw [show yX ws (zS ws d) i=.error _ from (xW b s t).trans ((zD n).trans (zP (kE I (by omega) (.inl u0) (zP L))))]
  rotate_left
  replace N:=N.pl 2
  refine zO call179 (fun w N a J=>?_) (c:=mF (i:=j) rl v (by omega) N)
  by_cases X:(zB ws j)=(⟨#[40]⟩:Bs)
  refine jE call177 (fun n1 w z N a J=>?_) (fun n1 w z N=>?_) (c:=pG (x:=(⟨#[40]⟩:Bs)) (i:=j) rl v (by omega) N)
  have T1:=pE z
  refine jE call176 (fun S w F N a J=>?_) (fun S w F N=>?_) (c:=sK G (i:=n1.2) rl v (by omega) N)
  have U1:=jW F
  refine zU fun a J=>?_
  refine Alc fun H1 w N a J=>?_
  refine Sto 0 fun w N a J=>?_
  refine go fun a J=>?_
  replace N:=N.nilRow 9 1
  replace N:=N.nf
  refine zR (J.ks [0,1,4,7,8]) N (fun R mm a w=>∃(j2:Nat) (u2:Value) (vs:List Bs) (f2:Nat),mm=ws.length - j2/\R g0 [] [(0,.gs (u2) 9 1 (strs vs)),(1,.blk H1 (ob [.string S.1,u2,.int .i64 ((0:Nat):Int),.int .i64 ((0:Nat):Int),.string ⟨#[]⟩,.slice none 0 0,.slice none 0 0] 195)),(2,.blk r (ob [.slice pw ws.length cw,.int .i64 j2] 208))] a w/\(vs.length<=j2/\j < j2/\j2<=ws.length/\vs.length+f2=ws.length+1/\cA ws (ws.length+1) S.2=wC vs (cA ws f2 j2))) (ws.length - S.2) ⟨S.2,.slice none 0 0,[],ws.length+1,rfl,⟨J.pk,N⟩,⟨Nat.zero_le _,by omega,by omega,Nat.zero_add _,oR _⟩⟩ ?_
  clear N J
  rintro mm a w ⟨j2,u2,vs,f2,L0,⟨J,N⟩,w1⟩ p3 x1
  replace N:=N.nf
  obtain ⟨k3,R2,S2,Q1,y0⟩:=w1
  replace N:=N.pl 2
  refine zO call179 (fun w N a J=>?_) (c:=mF (i:=j2) rl v (by omega) N)
  by_cases M0:(zB ws j2)=(⟨#[45,62]⟩:Bs)
  refine go fun a J=>?_
  have D:=N
  clear N
  obtain ⟨C1,B,N,Q0⟩:=D.freezeRow (i:=1) rfl
  clear D
  replace rl:=rl.up B
  replace G:=G.mono B
  replace l:=l.up B
  replace e:=e.up B
  replace hch:=hch.mono fun _ _ h=>h.up B
  replace N:=N.nf
  have Z:SliceOf RStr C1 1 _ (vs):=SliceOf.strs.2 Q0
  obtain ⟨c2,K1,E0,V2,d3⟩:=Z.form (by decide)
  have E:=N
  clear N
  subst E0
  have N:=E
  clear E
  have q0:=j0d y0 (by omega) M0
  refine jE call177 (fun o1 w U N a J=>?_) (fun o1 w U N=>?_) (c:=pG (x:=(⟨#[45,62]⟩:Bs)) (i:=j2) rl v (by omega) N)
  have V1:=pE U
  refine Qq (fun a J=>?_) (o:=by exact fun J O=>jT ((d:Nat):Int) J rfl rfl (by rw [yB (by omega)];omega))
  refine xV call180 (fun T n2 w b0 s1 N a J=>?_) (fun T w b0 N=>?_) (c:=hE G rl (i:=o1.2) (by omega) N)
  obtain ⟨D1,w3⟩:=n2
  obtain ⟨C,A0⟩:=s1
  simp only at C A0 N J
  have w2:=xI d _ _ b0
  replace rl:=rl.up C
  replace G:=G.mono C
  replace l:=l.up C
  replace e:=e.up C
  replace hch:=hch.mono fun _ _ h=>h.up C
  replace Z:=Z.up C
  replace N:=N.nf
  obtain ⟨d2,c171,e2,L1,rfl,Q2,C3,D3,W2,e3,X2,f3⟩:=REx.fm A0
  refine Sto 1 fun w N a J=>?_
  refine jE call177 (fun U0 w k0 N a J=>?_) (fun U0 w k0 N=>?_) (c:=pG (x:=(⟨#[41]⟩:Bs)) (i:=T.2) rl v (by omega) N)
  have W1:=pE k0
  refine yK fun U3 w N a J=>?_
  refine yU 3 j7h (fun k2 w N a J=>?_)
  refine Sto 4 fun w N a J=>?_
  refine go fun a J=>?_
  replace N:=N.ar [2,0] [3,1,3,3]
  refine m1 _ _ _ (by subst L0;omega) ⟨(D1),(U0.2),(k2),((cs++[.string S.1,.slice c2 (vs).length K1,.int .i64 (T.1.kind),.int .i64 (T.1.num),.string T.1.name,.slice d2 T.1.args.length c171,.slice e2 T.1.arms.length L1])),(xs++[.mk S.1 vs T.1]),(f - 1),rfl,⟨J.pk,by exact N⟩,?_⟩
  refine ⟨((g).trans B).trans C,?_⟩
  exact ⟨hch.snoc (k:=7) rfl (RArm.of Z A0 (c:=S.1)),by simp only [laQ,lcQ,lnQ];omega,by omega,by simp only [laQ,lcQ,lnQ];omega,y9v (x:=(.mk S.1 vs T.1,U0.2)) I (by omega) (.inr X) ((zD z).trans ((zD F).trans ((zD q0).trans ((zD U).trans ((zD b0).trans ((zD k0).trans (rfl)))))))⟩
  replace N:=N.dl [3,2,1,0]
  show Out (yX ws (zS ws d) i) _ _
  rw [show yX ws (zS ws d) i=.error _ from (xW b s t).trans ((zD n).trans (zP (kE I (by omega) (.inr X) ((zD z).trans ((zD F).trans ((zD q0).trans ((zD U).trans ((zD b0).trans (zP k0)))))))))]
  exact ⟨rfl,N.le (((((p).trans q).trans g).trans B).trans C)⟩
  replace N:=N.dl [3,2,1,0]
  show Out (yX ws (zS ws d) i) _ _
  rw [show yX ws (zS ws d) i=.error _ from (xW b s t).trans ((zD n).trans (zP (kE I (by omega) (.inr X) ((zD z).trans ((zD F).trans ((zD q0).trans ((zD U).trans (zP b0))))))))]
  exact ⟨rfl,N.le ((((p).trans q).trans g).trans B)⟩
  replace N:=N.dl [3,2,1,0]
  show Out (yX ws (zS ws d) i) _ _
  rw [show yX ws (zS ws d) i=.error _ from (xW b s t).trans ((zD n).trans (zP (kE I (by omega) (.inr X) ((zD z).trans ((zD F).trans ((zD q0).trans (zP U)))))))]
  exact ⟨rfl,N.le ((((p).trans q).trans g).trans B)⟩
  refine Reg [1,2,1,0,0,0,1,0] [2,3,4,5] fun w N a J=>?_
  refine jE call129 (fun V0 w l0 N a J=>?_) (fun V0 w l0 N=>?_) (c:=aN G (i:=j2) rl v (by omega) N)
  have X1:=jW l0
  refine yK fun V3 w N a J=>?_
  refine yU 2 vA (fun l2 w N a J=>?_) (hb:=by simp [zZ];omega)
  refine Sto 3 fun w N a J=>?_
  refine go fun a J=>?_
  first | rw [qM] at N | rw [<- yE] at N
  replace N:=N.ar [0] [5,5,5,3,5,5]
  refine x1 _ _ _ (by subst L0;omega) ⟨(V0.2),(l2),(vs++[V0.1]),(f2 - 1),rfl,⟨J.pk,by exact N⟩,?_⟩
  exact ⟨by simp only [laQ,lcQ,lnQ];omega,by omega,by omega,by simp only [laQ,lcQ,lnQ];omega,q2r y0 (by omega) M0 l0⟩
  replace N:=N.dl [4,3,2,1,0]
  show Out (yX ws (zS ws d) i) _ _
  rw [show yX ws (zS ws d) i=.error _ from (xW b s t).trans ((zD n).trans (zP (kE I (by omega) (.inr X) ((zD z).trans ((zD F).trans (zP (q2q y0 (by omega) M0 l0)))))))]
  rotate_left
  replace N:=N.dl [2,1,0]
  show Out (yX ws (zS ws d) i) _ _
  rw [show yX ws (zS ws d) i=.error _ from (xW b s t).trans ((zD n).trans (zP (kE I (by omega) (.inr X) ((zD z).trans (zP F)))))]
  rotate_left
  replace N:=N.dl [2,1,0]
  show Out (yX ws (zS ws d) i) _ _
  rw [show yX ws (zS ws d) i=.error _ from (xW b s t).trans ((zD n).trans (zP (kE I (by omega) (.inr X) (zP z))))]
  rotate_left
  refine go fun a J=>?_
  have D:=N
  clear N
  obtain ⟨a1,W,N,R0⟩:=D.freezeRow (i:=1) rfl
  clear D
  replace rl:=rl.up W
  replace G:=G.mono W
  replace l:=l.up W
  replace e:=e.up W
  replace hch:=hch.mono fun _ _ h=>h.up W
  replace N:=N.nf
  have I0:SliceOf RArm a1 7 _ (xs):=⟨_,R0,hch⟩
  obtain ⟨O3,r3,E0,Y2,g3⟩:=I0.form (by decide)
  have E:=N
  clear N
  subst E0
  have N:=E
  clear E
  have L2:=x2l I (by omega) u0 X
  refine Sto 2 fun w N a J=>?_
  refine go fun a J=>?_
  have h0:=N
  replace N:=N.dl [2,1]
  refine qI (N:=h0) ?_
  show Out (yX ws (zS ws d) i) _ _
  rw [show yX ws (zS ws d) i=.ok (.mk 7 0 ⟨#[]⟩ [G0.1] xs,j) from (xW b s t).trans ((zD n).trans ((zD L2).trans rfl))]
  exact ⟨(a1,_),rfl,⟨(((p).trans q).trans g).trans W,REx.full e I0⟩,N⟩
  replace N:=N.dl [0]
  show Out (yX ws (zS ws d) i) _ _
  rw [show yX ws (zS ws d) i=.error _ from (xW b s t).trans (zP n)]
  rotate_left
  refine zX call178 (fun H w N a J=>?_) (fun H w N a J=>?_) (c:=mB G N)
  have O0:=x5i H
  refine Sto 0 fun w N a J=>?_
  refine xV call219 (fun W0 o2 w m0 t1 N a J=>?_) (fun W0 w m0 N=>?_) (c:=q9j (m:=1) hd hE G (i:=(i+1)) rl v (by omega) N)
  obtain ⟨E1,x3⟩:=o2
  obtain ⟨r0,B0⟩:=t1
  simp only at r0 B0 N J
  have x2:=j6x (by omega) m0
  replace rl:=rl.up r0
  replace G:=G.mono r0
  replace N:=N.nf
  obtain ⟨P3,s3,rfl,E2,h3⟩:=B0.fm
  refine zU fun a J=>?_
  refine Sto 1 fun w N a J=>?_
  refine go fun a J=>?_
  have h0:=N
  replace N:=N.dl [1]
  refine qI (N:=h0) ?_
  show Out (yX ws (zS ws d) i) _ _
  rw [show yX ws (zS ws d) i=.ok (.mk 4 0 (zB ws i) W0.1 [],W0.2) from (q7l b s t H).trans ((zD m0).trans (rfl))]
  exact ⟨(E1,_),rfl,⟨r0,REx.node B0⟩,N⟩
  replace N:=N.dl [0]
  show Out (yX ws (zS ws d) i) _ _
  rw [show yX ws (zS ws d) i=.error _ from (q7l b s t H).trans (zP m0)]
  rotate_left
  refine jE call129 (fun X0 w c0 N a J=>?_) (fun X0 w c0 N=>?_) (c:=aN G (i:=i) rl v (by omega) N)
  have Y1:=jW c0
  refine xV call219 (fun Y0 p2 w n0 u1 N a J=>?_) (fun Y0 w n0 N=>?_) (c:=q9j (m:=0) hd hE G (i:=X0.2) rl v (by omega) N)
  obtain ⟨F1,y3⟩:=p2
  obtain ⟨s0,C0⟩:=u1
  simp only at s0 C0 N J
  have y2:=j6x (by omega) n0
  replace rl:=rl.up s0
  replace G:=G.mono s0
  replace N:=N.nf
  obtain ⟨Q3,t3,rfl,F2,i3⟩:=C0.fm
  refine zU fun a J=>?_
  refine Sto 1 fun w N a J=>?_
  refine go fun a J=>?_
  have h0:=N
  replace N:=N.dl [1]
  refine qI (N:=h0) ?_
  show Out (yX ws (zS ws d) i) _ _
  rw [show yX ws (zS ws d) i=.ok (.mk 5 0 X0.1 Y0.1 [],Y0.2) from (z8h b s t H).trans ((zD c0).trans ((zD n0).trans (rfl)))]
  exact ⟨(F1,_),rfl,⟨s0,REx.node C0⟩,N⟩
  replace N:=N.dl [0]
  show Out (yX ws (zS ws d) i) _ _
  rw [show yX ws (zS ws d) i=.error _ from (z8h b s t H).trans ((zD c0).trans (zP n0))]
  rotate_left
  replace N:=N.dl [0]
  show Out (yX ws (zS ws d) i) _ _
  rw [show yX ws (zS ws d) i=.error _ from (z8h b s t H).trans (zP c0)]
  rotate_left
  have O0:=j6t b
  refine Sto 0 fun w N a J=>?_
  refine xV call218 (fun Z0 q2 w o0 v1 N a J=>?_) (fun Z0 w o0 N=>?_) (c:=j7i hd hE G (i:=(i+1)) rl v (by omega) N)
  obtain ⟨G1,z3⟩:=q2
  obtain ⟨F0,D0⟩:=v1
  simp only at F0 D0 N J
  have z2:=two_le o0
  replace G:=G.mono F0
  replace N:=N.nf
  obtain ⟨R3,u3,rfl,G2,j3⟩:=D0.fm
  refine zU fun a J=>?_
  refine Sto 1 fun w N a J=>?_
  refine go fun a J=>?_
  have h0:=N
  replace N:=N.dl [1]
  refine qI (N:=h0) ?_
  show Out (yX ws (zS ws d) i) _ _
  rw [show yX ws (zS ws d) i=.ok (.mk 8 0 (zB ws i) Z0.1 [],Z0.2) from (j6d b).trans ((zD o0).trans (rfl))]
  exact ⟨(G1,_),rfl,⟨F0,REx.node D0⟩,N⟩
  replace N:=N.dl [0]
  show Out (yX ws (zS ws d) i) _ _
  rw [show yX ws (zS ws d) i=.error _ from (j6d b).trans (zP o0)]
  rotate_left
  all_goals first | (exact ⟨rfl,N.le (((p).trans q).trans g)⟩) | (exact ⟨rfl,N.le (Fz.Le.refl _)⟩)
 by_cases f1:(zB ws i)=(⟨#[43]⟩:Bs)
 refine go fun a J=>?_
 exact w0 _ _ (by rw [oM (.inl f1)];exact ⟨J.pk,N,trivial⟩)
 by_cases g1:(zB ws i)=(⟨#[45]⟩:Bs)
 refine go fun a J=>?_
 exact w0 _ _ (by rw [oM (.inr (.inl g1))];exact ⟨J.pk,N,trivial⟩)
 by_cases h1:(zB ws i)=(⟨#[42]⟩:Bs)
 refine go fun a J=>?_
 exact w0 _ _ (by rw [oM (.inr (.inr (.inl h1)))];exact ⟨J.pk,N,trivial⟩)
 refine go fun a J=>?_
 by_cases i1:(zB ws i)=(⟨#[47]⟩:Bs)
 refine go fun a J=>?_
 exact w0 _ _ (by rw [oM (.inr (.inr (.inr (.inl i1))))];exact ⟨J.pk,N,trivial⟩)
 by_cases j1:(zB ws i)=(⟨#[37]⟩:Bs)
 refine go fun a J=>?_
 exact w0 _ _ (by rw [oM (.inr (.inr (.inr (.inr (.inl j1)))))];exact ⟨J.pk,N,trivial⟩)
 by_cases k1:(zB ws i)=(⟨#[60]⟩:Bs)
 refine go fun a J=>?_
 exact w0 _ _ (by rw [oM (.inr (.inr (.inr (.inr (.inr (.inl k1))))))];exact ⟨J.pk,N,trivial⟩)
 by_cases l1:(zB ws i)=(⟨#[61]⟩:Bs)
 refine go fun a J=>?_
 exact w0 _ _ (by rw [oM (.inr (.inr (.inr (.inr (.inr (.inr l1))))))];exact ⟨J.pk,N,trivial⟩)
 refine go fun a J=>?_
 exact w0 _ _ (by rw [isOp_no f1 g1 h1 i1 j1 k1 l1];exact ⟨J.pk,N,trivial⟩)
theorem j3q {ws:List Bs} (b:ws.length<=1000000):tU ws 0:=by
 intro V K w r i rs G rl j N
 obtain ⟨pw,cw,rfl,e,f⟩:=rl.fm
 refine zI func180 ntmps180 fun Q hQ a J=>?_
 refine Alc fun g w N a J=>?_
 replace N:=N.pl 1
 refine zO call179 (fun w N a J=>?_) (c:=mF (i:=i) rl b (by omega) N)
 by_cases h:(zB ws i)=(⟨#[]⟩:Bs)
 refine go fun a J=>?_
 refine st J rfl rfl rfl (hO J rfl call130 (tP (i:=i) rl b (by omega) N) (fun w N=>fun a d=>hQ _ _ _ (yY d ?_)))
 replace N:=N.dl [0]
 show Out (zS ws 0 i) _ _
 rw [q0u];exact ⟨rfl,N⟩
 refine Qq (fun a J=>?_) (o:=by exact fun J O=>xH true J rfl rfl rfl)
 refine go fun a J=>?_
 refine st J rfl rfl rfl (hO J rfl call130 (tP (i:=i) rl b (by omega) N) (fun w N=>fun a d=>hQ _ _ _ (yY d ?_)))
 replace N:=N.dl [0]
 show Out (zS ws 0 i) _ _
 rw [q0u];exact ⟨rfl,N⟩
theorem j3p {ws:List Bs} {d:Nat} (U:d<=1000) (n:ws.length<=1000000) (X:∀j,(zB ws j).size<=1000000) (hE:tU ws d):tU ws (d+1):=by
 intro V K w r i rs G rl hi N
 obtain ⟨pw,cw,rfl,n0,o0⟩:=rl.fm
 have Z:¬d+1=0:=by omega
 refine zI func180 ntmps180 fun Q hQ a J=>?_
 refine Alc fun b2 w N a J=>?_
 replace N:=N.pl 1
 refine zO call179 (fun w N a J=>?_) (c:=mF (i:=i) rl n (by omega) N)
 by_cases m:(zB ws i)=(⟨#[]⟩:Bs)
 refine go fun a J=>?_
 refine st J rfl rfl rfl (hO J rfl call130 (tP (i:=i) rl n (by omega) N) (fun w N=>fun a U=>hQ _ _ _ (yY U ?_)))
 replace N:=N.dl [0]
 show Out (zS ws (d+1) i) _ _
 rw [show zS ws (d+1) i=.error _ from expr_no m]
 exact ⟨rfl,N⟩
 refine zV call205 (fun y9 w z N a J=>?_) (c:=j2c (X _) G N)
 replace N:=N.nf
 rcases b:wH (zB ws i) with _ | p0
 rw [b] at J
 by_cases g:(zB ws i)=(⟨#[40]⟩:Bs)
 have A:=vD m
 refine Sto 0 fun w N a J=>?_
 refine xV call206 (fun C Y w k H N a J=>?_) (fun C w k N=>?_) (c:=x6o U hE G (i:=(i+1)) rl n (by omega) N)
 obtain ⟨M,j0⟩:=Y
 obtain ⟨l,y⟩:=H
 simp only at l y N J
 have W:=form_le k
 replace rl:=rl.up l
 replace G:=G.mono l
 replace N:=N.nf
 obtain ⟨q0,i0,r0,c37,rfl,a0,k0,l0,b0,d0,c0,f0⟩:=REx.fm y
 refine Alc fun h0 w N a J=>?_
 refine Sto 0 fun w N a J=>?_
 replace N:=N.pl 1
 refine jE call177 (fun L w s N a J=>?_) (fun L w s N=>?_) (c:=pG (x:=(⟨#[41]⟩:Bs)) (i:=C.2) rl n (by omega) N)
 have P:=pE s
 refine Sto 2 fun w N a J=>?_
 refine go fun a J=>?_
 have f:=N
 replace N:=N.dl [2,1]
 refine qI (N:=f) ?_
 show Out (zS ws (d+1) i) _ _
 rw [show zS ws (d+1) i=.ok (C.1,L.2) from j9m m b g k s]
 exact ⟨(M,_),rfl,⟨l,y⟩,N⟩
 replace N:=N.dl [1,0]
 show Out (zS ws (d+1) i) _ _
 rw [show zS ws (d+1) i=.error _ from expr_fc m b g k s]
 exact ⟨rfl,N.le (l)⟩
 replace N:=N.dl [0]
 show Out (zS ws (d+1) i) _ _
 rw [show zS ws (d+1) i=.error _ from expr_fe m b g k]
 exact ⟨rfl,N⟩
 refine zX call178 (fun e w N a J=>?_) (fun e w N a J=>?_) (c:=mB G N)
 refine jE call176 (fun D w t N a J=>?_) (fun D w t N=>?_) (c:=sK G (i:=i) rl n (by omega) N)
 have R:=jW t
 refine zU fun a J=>?_
 refine Sto 1 fun w N a J=>?_
 refine go fun a J=>?_
 have f:=N
 replace N:=N.dl [1]
 refine qI (N:=f) ?_
 show Out (zS ws (d+1) i) _ _
 rw [show zS ws (d+1) i=.ok (.mk 4 0 D.1 [] [],D.2) from x3j m b g e t]
 rotate_left
 replace N:=N.dl [0]
 exact j9l m e t
 have g0:=q9s m
 have I:0 < (zB ws i).size:=by omega
 obtain ⟨c53,q⟩:=qJ I
 refine Qq (fun a J=>?_) (o:=by exact fun J O=>yZ 0 c53 J rfl rfl runUnderlying9 q)
 by_cases B:c53.toNat=33
 refine Qq (fun a J=>?_) (o:=by exact fun J O=>qS 1 ((zB ws i).size) J rfl runUnderlying9 ⟨_,rfl⟩ rfl (by omega) (by exact Nat.le_refl _))
 refine zX call138 (fun p w N a J=>?_) (fun p w N a J=>?_) (c:=tH G N)
 have A:=vD m
 refine Sto 0 fun w N a J=>?_
 refine Qq (fun a J=>?_) (o:=by exact fun J O=>qS 1 ((zB ws i).size) J rfl runUnderlying9 ⟨_,rfl⟩ rfl (by omega) (by exact Nat.le_refl _))
 refine zU fun a J=>?_
 refine Sto 1 fun w N a J=>?_
 refine go fun a J=>?_
 have f:=N
 replace N:=N.dl [1]
 refine qI (N:=f) ?_
 show Out (zS ws (d+1) i) _ _
 rw [show zS ws (d+1) i=.ok (.mk 3 0 ((zB ws i).extract 1 (zB ws i).size) [] [],i+1) from j1w m b g e ((zT q).trans B) p]
 rotate_left
 refine jE call129 (fun E w u N a J=>?_) (fun E w u N=>?_) (c:=aN G (i:=i) rl n (by omega) N)
 have S:=jW u
 refine zU fun a J=>?_
 refine Sto 1 fun w N a J=>?_
 refine go fun a J=>?_
 have f:=N
 replace N:=N.dl [1]
 refine qI (N:=f) ?_
 show Out (zS ws (d+1) i) _ _
 rw [show zS ws (d+1) i=.ok (.mk 2 0 E.1 [] [],E.2) from (z2q m b g e (fun h=>absurd (h.2.symm.trans p) (by decide))).trans ((zD u).trans rfl)]
 rotate_left
 replace N:=N.dl [0]
 show Out (zS ws (d+1) i) _ _
 rw [show zS ws (d+1) i=.error _ from (z2q m b g e (fun h=>absurd (h.2.symm.trans p) (by decide))).trans (zP u)]
 exact ⟨rfl,N⟩
 refine jE call129 (fun F w v N a J=>?_) (fun F w v N=>?_) (c:=aN G (i:=i) rl n (by omega) N)
 have T:=jW v
 refine zU fun a J=>?_
 refine Sto 1 fun w N a J=>?_
 refine go fun a J=>?_
 have f:=N
 replace N:=N.dl [1]
 refine qI (N:=f) ?_
 show Out (zS ws (d+1) i) _ _
 rw [show zS ws (d+1) i=.ok (.mk 2 0 F.1 [] [],F.2) from (z2q m b g e (fun h=>B ((zT q).symm.trans h.1))).trans ((zD v).trans rfl)]
 rotate_left
 replace N:=N.dl [0]
 show Out (zS ws (d+1) i) _ _
 rw [show zS ws (d+1) i=.error _ from (z2q m b g e (fun h=>B ((zT q).symm.trans h.1))).trans (zP v)]
 exact ⟨rfl,N⟩
 rw [b] at J
 have A:=vD m
 refine Sto 0 fun w N a J=>?_
 refine zU fun a J=>?_
 refine Sto 1 fun w N a J=>?_
 refine go fun a J=>?_
 have f:=N
 replace N:=N.dl [1]
 refine qI (N:=f) ?_
 show Out (zS ws (d+1) i) _ _
 rw [show zS ws (d+1) i=.ok (.mk 1 y9 ⟨#[]⟩ [] [],i+1) from x3k m (b.trans (congrArg some (z _ b).symm))]
 exact ⟨(V,_),rfl,⟨Fz.Le.refl _,REx.leaf (y5a (b.trans (congrArg some (z _ b).symm)))⟩,N⟩
 all_goals (exact ⟨(V,_),rfl,⟨Fz.Le.refl _,REx.leaf aG⟩,N⟩)
theorem q9i {ws:List Bs} (a:ws.length<=1000000) (b:∀j,(zB ws j).size<=1000000):∀d,d<=1000->tU ws d
 | 0,_=>j3q a
 | d+1,h=>j3p (by omega) a b (q9i a b d (by omega))
theorem q2d {V:Fz} {K:List Res} {w:World} {r i:Nat} {rs:Value} {ws:List Bs} (G:Glob V) (rl:SliceOf RStr V 1 rs ws) (f:ws.length<=1000000) (s:i<=ws.length) (N:Mem V (.blk r (ob [rs,.int .i64 i] 208)::K) w) :
  Calls prog 127 #[.pointer (some ⟨r,0,none⟩)] w (fun ee w'=>Out (xX ws i) (fun x=>ee=.returned (.agg #[.string x.1.name,.string x.1.type])/\Mem V (.blk r (ob [rs,.int .i64 ((x.2:Nat):Int)] 208)::K) w') (fun c=>ee=.panicked (nI c)/\Mem V K w')):=by
 obtain ⟨pw,cw,rfl,o,p⟩:=rl.fm
 refine zI func127 ntmps127 fun Q hQ a J=>?_
 refine Alc fun q w N a J=>?_
 replace N:=N.pl 1
 refine jE call129 (fun m w d N a J=>?_) (fun m w d N=>?_) (c:=aN G (i:=i) rl f (by omega) N)
 have j:=jW d
 refine jE call177 (fun n w e N a J=>?_) (fun n w e N=>?_) (c:=pG (x:=(⟨#[58]⟩:Bs)) (i:=m.2) rl f (by omega) N)
 have k:=pE e
 refine jE call176 (fun g w b N a J=>?_) (fun g w b N=>?_) (c:=sK G (i:=n.2) rl f (by omega) N)
 have h:=jW b
 refine zU fun a J=>?_
 refine Sto 1 fun w N a J=>?_
 refine go fun a J=>?_
 have l:=N
 replace N:=N.dl [1]
 refine qI (N:=l) ?_
 show Out (xX ws i) _ _
 rw [show xX ws i=.ok ((⟨m.1,g.1⟩:Param),g.2) from (zD d).trans ((zD e).trans ((zD b).trans (rfl)))]
 exact ⟨rfl,N⟩
 replace N:=N.dl [0]
 show Out (xX ws i) _ _
 rw [show xX ws i=.error _ from (zD d).trans ((zD e).trans (zP b))]
 exact ⟨rfl,N⟩
 replace N:=N.dl [0]
 show Out (xX ws i) _ _
 rw [show xX ws i=.error _ from (zD d).trans (zP e)]
 exact ⟨rfl,N⟩
 replace N:=N.dl [0]
 show Out (xX ws i) _ _
 rw [show xX ws i=.error _ from zP d]
 exact ⟨rfl,N⟩
theorem x6k {V:Fz} {K:List Res} {w:World} {r i:Nat} {rs:Value} {ws:List Bs} (G:Glob V) (rl:SliceOf RStr V 1 rs ws) (z:ws.length<=1000000) (hi:i<=ws.length) (N:Mem V (.blk r (ob [rs,.int .i64 i] 208)::K) w) :
  Calls prog 126 #[.pointer (some ⟨r,0,none⟩)] w (fun ee w'=>Out (nK ws i) (fun x=>∃y:Fz×List Value,ee=.returned (.agg y.2.toArray)/\(V.Le y.1/\RData y.1 y.2 x.1)/\Mem y.1 (.blk r (ob [rs,.int .i64 ((x.2:Nat):Int)] 208)::K) w') (fun c=>ee=.panicked (nI c)/\Mem V K w')):=by
 obtain ⟨pw,cw,rfl,C0,D0⟩:=rl.fm
 refine zI func126 ntmps126 fun Q hQ a J=>?_
 refine Alc fun b2 w N a J=>?_
 replace N:=N.pl 1
 refine jE call176 (fun q4 w p N a J=>?_) (fun q4 w p N=>?_) (c:=sK G (i:=i) rl z (by omega) N)
 have h0:=jW p
 refine zU fun a J=>?_
 refine Alc fun b6 w N a J=>?_
 refine Sto 0 fun w N a J=>?_
 replace N:=N.pl 1
 refine jE call177 (fun q8 w v N a J=>?_) (fun q8 w v N=>?_) (c:=pG (x:=(⟨#[61]⟩:Bs)) (i:=q4.2) rl z (by omega) N)
 have i0:=pE v
 refine go fun a J=>?_
 replace N:=N.nilRow 135 2
 replace N:=N.nf
 refine zR (J.ks [0,2,3]) N (fun R mm a w=>∃(o:Fz) (j:Nat) (u:Value) (cs:List Value) (xs:List Con) (f:Nat),mm=ws.length - j/\R o [] [(0,.gs (u) 135 2 cs),(1,.blk r (ob [.slice pw ws.length cw,.int .i64 j] 208)),(2,.blk b6 (ob [.string q4.1,u] 133))] a w/\(V.Le o/\(Chunks (RCon o) 2 cs xs/\xs.length<=j/\j<=ws.length/\xs.length+f=ws.length+1/\aW ws (ws.length+1) q8.2=wC xs (aW ws f j)))) (ws.length - q8.2) ⟨V,q8.2,.slice none 0 0,[],[],ws.length+1,rfl,⟨J.pk,N⟩,⟨Fz.Le.refl _,⟨rfl,Nat.zero_le _,by omega,Nat.zero_add _,oR _⟩⟩⟩ ?_
 clear N J
 rintro mm a w ⟨o,j,u,cs,xs,f,S,⟨J,N⟩,B⟩ u0 X
 replace N:=N.nf
 obtain ⟨g,B⟩:=B
 replace rl:=rl.up g
 replace G:=G.mono g
 obtain ⟨hch,F0,hj,z0,D⟩:=B
 replace N:=N.pl 1
 refine jE call176 (fun d w e N a J=>?_) (fun d w e N=>?_) (c:=sK G (i:=j) rl z (by omega) N)
 have a0:=jW e
 refine zU fun a J=>?_
 refine Alc fun f0 w N a J=>?_
 refine Sto 0 fun w N a J=>?_
 refine go fun a J=>?_
 replace N:=N.nilRow 9 1
 replace N:=N.nf
 refine zR (J.ks [0,2,3,4]) N (fun R mm a w=>∃(A:Nat) (u2:Value) (vs:List Bs) (Z:Nat),mm=ws.length - A/\R o [] [(0,.gs (u2) 9 1 (strs vs)),(1,.blk f0 (ob [.string d.1,u2] 135)),(2,.blk r (ob [.slice pw ws.length cw,.int .i64 A] 208))] a w/\(vs.length<=A/\j < A/\A<=ws.length/\vs.length+Z=ws.length+1/\xC ws (ws.length+1) d.2=wC vs (xC ws Z A))) (ws.length - d.2) ⟨d.2,.slice none 0 0,[],ws.length+1,rfl,⟨J.pk,N⟩,⟨Nat.zero_le _,by omega,by omega,Nat.zero_add _,oR _⟩⟩ ?_
 clear N J
 rintro mm a w ⟨A,u2,vs,Z,S,⟨J,N⟩,W⟩ w0 Y
 replace N:=N.nf
 obtain ⟨E0,A0,B0,o0,P⟩:=W
 replace N:=N.pl 2
 refine zO call179 (fun w N a J=>?_) (c:=mF (i:=A) rl z (by omega) N)
 refine zX call178 (fun q w N a J=>?_) (fun q w N a J=>?_) (c:=mB G N)
 refine Reg [1,2,1,0,0,0,1,0] [2,3,4,5] fun w N a J=>?_
 refine jE call176 (fun U w s N a J=>?_) (fun U w s N=>?_) (c:=sK G (i:=A) rl z (by omega) N)
 have b0:=jW s
 refine yK fun H0 w N a J=>?_
 refine yU 2 vA (fun m0 w N a J=>?_) (hb:=by simp [zZ];omega)
 refine Sto 3 fun w N a J=>?_
 refine go fun a J=>?_
 first | rw [qM] at N | rw [<- yE] at N
 replace N:=N.ar [0] [5,5,5,3,5,5]
 refine Y _ _ _ (by subst S;omega) ⟨(U.2),(m0),(vs++[U.1]),(Z - 1),rfl,⟨J.pk,by exact N⟩,?_⟩
 exact ⟨by simp only [laQ,lcQ,lnQ];omega,by omega,by omega,by simp only [laQ,lcQ,lnQ];omega,q7j P (by omega) q s⟩
 replace N:=N.dl [4,3,2,1,0]
 show Out (nK ws i) _ _
 rw [show nK ws i=.error _ from (zD p).trans ((zD v).trans (zP (j1m D (by omega) e (q7i P (by omega) q s))))]
 exact ⟨rfl,N.le (g)⟩
 refine go fun a J=>?_
 have l:=N
 clear N
 obtain ⟨I,n,N,E⟩:=l.freezeRow (i:=1) rfl
 clear l
 replace rl:=rl.up n
 replace G:=G.mono n
 replace hch:=hch.mono fun _ _ h=>RCon.mono _ _ _ _ n h
 replace N:=N.nf
 have b:SliceOf RStr I 1 _ (vs):=SliceOf.strs.2 E
 obtain ⟨k0,g0,T,q0,s0⟩:=b.form (by decide)
 have m:=N
 clear N
 subst T
 have N:=m
 clear m
 have H:=j1x P (by omega) q
 refine yK fun I0 w N a J=>?_
 refine yU 3 j3t (fun n0 w N a J=>?_)
 refine Sto 4 fun w N a J=>?_
 replace N:=N.pl 1
 refine zO call179 (fun w N a J=>?_) (c:=mF (i:=A) rl z (by omega) N)
 by_cases M:(zB ws A)=(⟨#[124]⟩:Bs)
 have p0:=xY M (by decide)
 refine Sto 0 fun w N a J=>?_
 refine go fun a J=>?_
 replace N:=N.ar [2,1] [3,3,2,3]
 refine X _ _ _ (by subst S;omega) ⟨(I),(A+1),(n0),((cs++[.string d.1,.slice k0 (vs).length g0])),(xs++[(⟨d.1,vs⟩:Con)]),(f - 1),rfl,⟨J.pk,by exact N⟩,?_⟩
 refine ⟨(g).trans n,?_⟩
 exact ⟨(hch.snoc (k:=2) (x:=(⟨d.1,vs⟩:Con)) rfl ⟨_,rfl,b⟩),by simp only [laQ,lcQ,lnQ];omega,by omega,by simp only [laQ,lcQ,lnQ];omega,j8n D (by omega) e H M⟩
 refine go fun a J=>?_
 have l:=N
 clear N
 obtain ⟨L,t,N,F⟩:=l.freezeRow (i:=3) rfl
 clear l
 replace G:=G.mono t
 replace hch:=hch.mono fun _ _ h=>RCon.mono _ _ _ _ t h
 replace b:=b.up t
 replace N:=N.nf
 have C:SliceOf RCon L 2 _ (xs++[(⟨d.1,vs⟩:Con)]):=⟨_,F,(hch.snoc (k:=2) (x:=(⟨d.1,vs⟩:Con)) rfl ⟨_,rfl,b⟩)⟩
 obtain ⟨G0,y0,T,r0,t0⟩:=C.form (by decide)
 have m:=N
 clear N
 subst T
 have N:=m
 clear m
 refine Sto 4 fun w N a J=>?_
 refine go fun a J=>?_
 have j0:=N
 replace N:=N.dl [4,3,2,1]
 refine qI (N:=j0) ?_
 show Out (nK ws i) _ _
 rw [show nK ws i=.ok ((⟨q4.1,xs++[(⟨d.1,vs⟩:Con)]⟩:Data),A) from (zD p).trans ((zD v).trans ((zD (x2w D (by omega) e H M)).trans rfl))]
 exact ⟨(L,_),rfl,⟨((g).trans n).trans t,⟨_,rfl,C⟩⟩,N⟩
 replace N:=N.dl [2,1,0]
 show Out (nK ws i) _ _
 rw [show nK ws i=.error _ from (zD p).trans ((zD v).trans (zP (j1l D (by omega) e)))]
 exact ⟨rfl,N.le (g)⟩
 replace N:=N.dl [1,0]
 show Out (nK ws i) _ _
 rw [show nK ws i=.error _ from (zD p).trans (zP v)]
 exact ⟨rfl,N⟩
 replace N:=N.dl [0]
 show Out (nK ws i) _ _
 rw [show nK ws i=.error _ from zP p]
 exact ⟨rfl,N⟩
theorem rfun_ok {V:Fz} {K:List Res} {w:World} {r i:Nat} {rs:Value} {ws:List Bs} (hE:tU ws 250) (G:Glob V) (rl:SliceOf RStr V 1 rs ws) (p:ws.length<=1000000) (hi:i<=ws.length) (N:Mem V (.blk r (ob [rs,.int .i64 i] 208)::K) w) :
  Calls prog 128 #[.pointer (some ⟨r,0,none⟩)] w (fun ee w'=>Out (dH ws i) (fun x=>∃y:Fz×List Value,ee=.returned (.agg y.2.toArray)/\(V.Le y.1/\RFun y.1 y.2 x.1)/\Mem y.1 (.blk r (ob [rs,.int .i64 ((x.2:Nat):Int)] 208)::K) w') (fun c=>ee=.panicked (nI c)/\Mem V K w')):=by
 obtain ⟨pw,cw,rfl,B0,C0⟩:=rl.fm
 refine zI func128 ntmps128 fun Q hQ a J=>?_
 refine Alc fun b2 w N a J=>?_
 replace N:=N.pl 1
 refine jE call129 (fun I w e N a J=>?_) (fun I w e N=>?_) (c:=aN G (i:=i) rl p (by omega) N)
 have f0:=jW e
 refine zU fun a J=>?_
 refine Alc fun b6 w N a J=>?_
 refine Sto 0 fun w N a J=>?_
 refine go fun a J=>?_
 replace N:=N.nilRow 72 2
 replace N:=N.nf
 refine zR (J.ks [0,2,3]) N (fun R mm a w=>∃(j:Nat) (u:Value) (cs:List Value) (xs:List Param) (f:Nat),mm=ws.length - j/\R V [] [(0,.gs (u) 72 2 cs),(1,.blk b6 (ob [.string I.1,u,.string ⟨#[]⟩,.int .i64 ((0:Nat):Int),.int .i64 ((0:Nat):Int),.string ⟨#[]⟩,.slice none 0 0,.slice none 0 0] 68)),(2,.blk r (ob [.slice pw ws.length cw,.int .i64 j] 208))] a w/\(Chunks (RParam V) 2 cs xs/\xs.length<=j/\j<=ws.length/\xs.length+f=ws.length+1/\vZ ws (ws.length+1) I.2=wC xs (vZ ws f j))) (ws.length - I.2) ⟨I.2,.slice none 0 0,[],[],ws.length+1,rfl,⟨J.pk,N⟩,⟨rfl,Nat.zero_le _,by omega,Nat.zero_add _,oR _⟩⟩ ?_
 clear N J
 rintro mm a w ⟨j,u,cs,xs,f,h0,⟨J,N⟩,b0⟩ L8 c0
 replace N:=N.nf
 obtain ⟨hch,D0,hj,A0,B⟩:=b0
 replace N:=N.pl 2
 refine zO call179 (fun w N a J=>?_) (c:=mF (i:=j) rl p (by omega) N)
 by_cases z:(zB ws j)=(⟨#[40]⟩:Bs)
 have m0:=xY z (by decide)
 refine Sto 0 fun w N a J=>?_
 refine Reg [1,2,1,0,0,0,1,0] [2,3] fun w N a J=>?_
 refine jE call127 (fun v w m N a J=>?_) (fun v w m N=>?_) (c:=q2d G (i:=(j+1)) rl p (by omega) N)
 have W:=q8q m
 refine yK fun H0 w N a J=>?_
 refine yU 2 z0o (fun j0 w N a J=>?_)
 refine Sto 3 fun w N a J=>?_
 replace N:=N.pl 1
 refine jE call177 (fun M w q N a J=>?_) (fun M w q N=>?_) (c:=pG (x:=(⟨#[41]⟩:Bs)) (i:=v.2) rl p (by omega) N)
 have X:=pE q
 refine go fun a J=>?_
 replace N:=N.ar [1] [3,1,3,3]
 refine c0 _ _ _ (by subst h0;omega) ⟨(M.2),(j0),((cs++[.string v.1.name,.string v.1.type])),(xs++[v.1]),(f - 1),rfl,⟨J.pk,by exact N⟩,?_⟩
 exact ⟨(hch.snoc (k:=2) (x:=v.1) rfl rfl),by simp only [laQ,lcQ,lnQ];omega,by omega,by simp only [laQ,lcQ,lnQ];omega,q8r B (by omega) z m q⟩
 replace N:=N.dl [3,2,1,0]
 show Out (dH ws i) _ _
 rw [show dH ws i=.error _ from (zD e).trans (zP (q4y B (by omega) z m q))]
 exact ⟨rfl,N⟩
 replace N:=N.dl [2,1,0]
 show Out (dH ws i) _ _
 rw [show dH ws i=.error _ from (zD e).trans (zP (q4x B (by omega) z m))]
 exact ⟨rfl,N⟩
 refine go fun a J=>?_
 have D:=N
 clear N
 obtain ⟨T,b,N,C⟩:=D.freezeRow (i:=1) rfl
 clear D
 replace rl:=rl.up b
 replace G:=G.mono b
 replace hch:=hch.mono fun _ _ h=>RParam.mono _ _ _ _ b h
 replace N:=N.nf
 have l:SliceOf RParam T 2 _ (xs):=⟨_,C,hch⟩
 obtain ⟨E0,c27,i0,n0,q0⟩:=l.form (by decide)
 have E:=N
 clear N
 subst i0
 have N:=E
 clear E
 have o:=j3b B (by omega) z
 refine jE call177 (fun P w d N a J=>?_) (fun P w d N=>?_) (c:=pG (x:=(⟨#[58]⟩:Bs)) (i:=j) rl p (by omega) N)
 have Y:=pE d
 refine jE call176 (fun F w g N a J=>?_) (fun F w g N=>?_) (c:=sK G (i:=P.2) rl p (by omega) N)
 have Z:=jW g
 refine Sto 1 fun w N a J=>?_
 refine jE call177 (fun S w n N a J=>?_) (fun S w n N=>?_) (c:=pG (x:=(⟨#[61]⟩:Bs)) (i:=F.2) rl p (by omega) N)
 have a0:=pE n
 refine xV call180 (fun H k0 w s L N a J=>?_) (fun H w s N=>?_) (c:=hE G rl (i:=S.2) (by omega) N)
 obtain ⟨U,w0⟩:=k0
 obtain ⟨t,A⟩:=L
 simp only at t A N J
 have d0:=xI 250 _ _ s
 replace G:=G.mono t
 replace l:=l.up t
 replace N:=N.nf
 obtain ⟨F0,u0,G0,c58,rfl,l0,x0,y0,o0,r0,p0,s0⟩:=REx.fm A
 refine Sto 1 fun w N a J=>?_
 refine Sto 2 fun w N a J=>?_
 refine go fun a J=>?_
 have g0:=N
 replace N:=N.dl [2,1]
 refine qI (N:=g0) ?_
 show Out (dH ws i) _ _
 rw [show dH ws i=.ok ((⟨I.1,xs,F.1,H.1⟩:Fun),H.2) from (zD e).trans ((zD o).trans ((zD d).trans ((zD g).trans ((zD n).trans ((zD s).trans (rfl))))))]
 exact ⟨(U,_),rfl,⟨(b).trans t,⟨_,_,rfl,l,A⟩⟩,N⟩
 replace N:=N.dl [1,0]
 show Out (dH ws i) _ _
 rw [show dH ws i=.error _ from (zD e).trans ((zD o).trans ((zD d).trans ((zD g).trans ((zD n).trans (zP s)))))]
 exact ⟨rfl,N.le (b)⟩
 replace N:=N.dl [1,0]
 show Out (dH ws i) _ _
 rw [show dH ws i=.error _ from (zD e).trans ((zD o).trans ((zD d).trans ((zD g).trans (zP n))))]
 exact ⟨rfl,N.le (b)⟩
 replace N:=N.dl [1,0]
 show Out (dH ws i) _ _
 rw [show dH ws i=.error _ from (zD e).trans ((zD o).trans ((zD d).trans (zP g)))]
 exact ⟨rfl,N.le (b)⟩
 replace N:=N.dl [1,0]
 show Out (dH ws i) _ _
 rw [show dH ws i=.error _ from (zD e).trans ((zD o).trans (zP d))]
 exact ⟨rfl,N.le (b)⟩
 replace N:=N.dl [0]
 show Out (dH ws i) _ _
 rw [show dH ws i=.error _ from zP e]
 exact ⟨rfl,N⟩
theorem j1d {V:Fz} {K:List Res} {w:World} {d0:List Value} {va:Value} {c:Core} {name:Bs} {args:List Val} {fuel:Int} (g0:RCore V d0 c) (rl:SliceOf RVal V 3 va args) (v1:qL c=0->q5w c name args) (G:Glob V) (N:Mem V K w) :
  Calls prog 20 #[.agg d0.toArray,.string name,va,.int .i64 fuel] w (fun ee w'=>∃y:Fz×List Value,ee=.returned (.tuple #[.agg y.2.toArray,.int .i64 (qR c name args fuel).2.1,.int .i64 (qR c name args fuel).2.2])/\(V.Le y.1/\RVal y.1 y.2 (qR c name args fuel).1)/\Mem y.1 K w'):=by
 obtain ⟨p3,c4,p9,n1,P1,o1,Q1,c22,rfl,h2,h8,R2,S2,Z2,a3,l2,t2,m2,u2,n2,v2⟩:=RCore.fm g0
 obtain ⟨S1,p1,rfl,s2,A2⟩:=rl.fm
 refine zI func20 ntmps20 fun Q hQ a J=>?_
 refine Bx fun i1 w N a J=>?_
 refine Bx fun j1 w N a J=>?_
 refine Bx fun k1 w N a J=>?_
 refine Alc fun l1 w N a J=>?_
 refine zV call43 (fun V1 w X0 N a J=>?_) (c:=q4m g0 G N)
 obtain ⟨k,R1⟩:=V1
 obtain ⟨e,y0⟩:=X0
 simp only at e y0 N J
 replace g0:=g0.up e
 replace G:=G.mono e
 replace rl:=rl.up e
 replace N:=N.nf
 by_cases b:qL c=0
 obtain ⟨a0,Z0⟩:=y0 b
 rw [if_pos b,b] at J
 obtain ⟨c2,b3,d3,e3,f3,O2,P2,f0,Q2,l0,u1,m0,B2,E2,C2,F2,A,z,D2,G2⟩:=a0.ex
 obtain ⟨h3,c63,i3,M2,j3,c75,k3,N2,rfl,T2,U2,V2,W2,o2,w2,p2,x2,q2,y2,r2,z2⟩:=RCore.fm m0
 refine Alc fun R0 w N a J=>?_
 refine Sto 0 fun w N a J=>?_
 refine Qq (fun a J=>?_) (o:=by exact fun J O=>oV false J rfl rfl rfl)
 refine go fun a J=>?_
 rcases b0:yV (f0) name with _ | K2
 have X:=congrArg (zK true (.agg #[.string ⟨#[]⟩,.slice none 0 0,.string ⟨#[]⟩,.int .i64 ((0:Nat):Int),.int .i64 ((0:Nat):Int),.string ⟨#[]⟩,.slice none 0 0,.slice none 0 0])) b0
 refine Qq (fun a J=>?_) (o:=by exact fun J O=>Ok.cast (yC runUnderlying103 runUnderlying9 zeroValue68 J O rfl rfl A) (show zK true (.agg #[.string ⟨#[]⟩,.slice none 0 0,.string ⟨#[]⟩,.int .i64 ((0:Nat):Int),.int .i64 ((0:Nat):Int),.string ⟨#[]⟩,.slice none 0 0,.slice none 0 0]) (yV (f0) name)=.tuple #[.agg #[.string ⟨#[]⟩,.slice none 0 0,.string ⟨#[]⟩,.int .i64 ((0:Nat):Int),.int .i64 ((0:Nat):Int),.string ⟨#[]⟩,.slice none 0 0,.slice none 0 0],.bool false] from X))
 refine Alc fun L2 w N a J=>?_
 refine Sto 0 fun w N a J=>?_
 by_cases V0:fuel < 0
 refine zU fun a J=>?_
 refine Sto 2 fun w N a J=>?_
 refine go fun a J=>?_
 have f:=N
 replace N:=N.dl [5,4,3,2,1,0]
 refine hQ _ _ _ (kC (i:=2) (cs:=[.string ⟨#[]⟩,.int .i64 ((0:Nat):Int),.slice none 0 0]) J f.toSees results20 rfl rfl isAgg42 sizeOf42 rfl rfl rfl ?_)
 have hr_:qR c name args fuel=(v0,0,1):=gP b (by have h_:=V0;omega)
 rotate_left
 by_cases W0:200000 < fuel
 refine zU fun a J=>?_
 refine Sto 2 fun w N a J=>?_
 refine go fun a J=>?_
 have f:=N
 replace N:=N.dl [5,4,3,2,1,0]
 refine hQ _ _ _ (kC (i:=2) (cs:=[.string ⟨#[]⟩,.int .i64 ((0:Nat):Int),.slice none 0 0]) J f.toSees results20 rfl rfl isAgg42 sizeOf42 rfl rfl rfl ?_)
 have hr_:qR c name args fuel=(v0,0,1):=gP b (by have h_:=W0;omega)
 rotate_left
 refine zU fun a J=>?_
 refine Sto 2 fun w N a J=>?_
 refine go fun a J=>?_
 have f:=N
 replace N:=N.dl [5,4,3,2,1,0]
 refine hQ _ _ _ (kC (i:=2) (cs:=[.string ⟨#[]⟩,.int .i64 ((0:Nat):Int),.slice none 0 0]) J f.toSees results20 rfl rfl isAgg42 sizeOf42 rfl rfl rfl ?_)
 have hr_:qR c name args fuel=(v0,0,3):=q3j b (by have H0:=W0;have I0:=V0;omega) (MapRel.none z b0)
 rotate_left
 obtain ⟨n,m,q1,rfl,E⟩:=z.get b0
 obtain ⟨H2,X1,rfl,w0,i0⟩:=id E
 obtain ⟨B0,r0,rfl,z1,G1⟩:=w0.fm
 obtain ⟨C0,s0,D0,t0,rfl,w1,e2,f2,A1,H1,B1,I1⟩:=REx.fm i0
 have X:=congrArg (zK true (.agg #[.string ⟨#[]⟩,.slice none 0 0,.string ⟨#[]⟩,.int .i64 ((0:Nat):Int),.int .i64 ((0:Nat):Int),.string ⟨#[]⟩,.slice none 0 0,.slice none 0 0])) b0
 refine Qq (fun a J=>?_) (o:=by exact fun J O=>Ok.cast (yC runUnderlying103 runUnderlying9 zeroValue68 J O rfl rfl A) (show zK true (.agg #[.string ⟨#[]⟩,.slice none 0 0,.string ⟨#[]⟩,.int .i64 ((0:Nat):Int),.int .i64 ((0:Nat):Int),.string ⟨#[]⟩,.slice none 0 0,.slice none 0 0]) (yV (f0) name)=.tuple #[.agg #[.string n.name,.slice B0 n.params.length r0,.string n.result,.int .i64 (n.body.kind),.int .i64 (n.body.num),.string n.body.name,.slice C0 n.body.args.length s0,.slice D0 n.body.arms.length t0],.bool true] from X))
 refine Alc fun Q0 w N a J=>?_
 refine Sto 0 fun w N a J=>?_
 by_cases H:fuel < 0
 refine zU fun a J=>?_
 refine Sto 2 fun w N a J=>?_
 refine go fun a J=>?_
 have f:=N
 replace N:=N.dl [5,4,3,2,1,0]
 refine hQ _ _ _ (kC (i:=2) (cs:=[.string ⟨#[]⟩,.int .i64 ((0:Nat):Int),.slice none 0 0]) J f.toSees results20 rfl rfl isAgg42 sizeOf42 rfl rfl rfl ?_)
 have hr_:qR c name args fuel=(v0,0,1):=gP b (by have h_:=H;omega)
 rotate_left
 refine go fun a J=>?_
 by_cases I:200000 < fuel
 refine zU fun a J=>?_
 refine Sto 2 fun w N a J=>?_
 refine go fun a J=>?_
 have f:=N
 replace N:=N.dl [5,4,3,2,1,0]
 refine hQ _ _ _ (kC (i:=2) (cs:=[.string ⟨#[]⟩,.int .i64 ((0:Nat):Int),.slice none 0 0]) J f.toSees results20 rfl rfl isAgg42 sizeOf42 rfl rfl rfl ?_)
 have hr_:qR c name args fuel=(v0,0,1):=gP b (by have h_:=I;omega)
 rotate_left
 replace N:=N.pl 1
 refine zX call59 (fun S w N a J=>?_) (fun S w N a J=>?_) (c:=j1v (V:=k) (K:=.blk R0 (ob [.pointer (some R1)] 89)::.blk Q0 (ob [.string n.name,.slice B0 n.params.length r0,.string n.result,.int .i64 (n.body.kind),.int .i64 (n.body.num),.string n.body.name,.slice C0 n.body.args.length s0,.slice D0 n.body.arms.length t0] 68)::.blk l1 (ob [.string ⟨#[]⟩,.int .i64 ((0:Nat):Int),.slice none 0 0] 42)::.blk k1 (ob [.int .i64 (fuel)] 3)::.blk j1 (ob [.slice S1 args.length p1] 38)::.blk i1 (ob [.slice p3 c.datas.length c4,.slice p9 c.inputs.length n1,.slice P1 c.funs.length o1,.slice Q1 c.outputs.length c22] 27)::K) (p:=fun v p=> !mD v&&z3g (zN c) v p.type) (fs:=[]) (cs:=[.pointer (some ⟨R0,0,none⟩)]) rl w0 call60 (fun x c y d w hx hy hc hd N=>x2p hc hd a0 N) N)
 have L:sQ (zN c) args n.params=true:=(z8i _ _ _).trans S
 refine yK fun J2 w N a J=>?_
 have A0:=N
 clear N
 obtain ⟨m1,h1,g1,O1,N0,N⟩:=y4s (l:=[name]) (i:=0) A0 rfl (by simp)
 clear A0
 have P:=N
 clear N
 subst O1
 have N:=P
 clear P
 replace N:=N.nf
 refine zV call62 (fun e1 w J0 N a J=>?_) (c:=q9e (U:=univ c name) (a0).weak N0 (by simp) (by simp [univ]) ((uH b).2.2 _) (uH b).1 ((uH b).2.1 _) N)
 obtain ⟨G0,s1⟩:=e1
 have B:=J0
 simp only at B N J
 replace N:=N.nf
 refine st J rfl rfl rfl (z8d 0 runUnderlying121 J N rfl rfl fun d1 t h0 w q N a J=>?_)
 refine go fun a J=>?_
 refine zR (J.ks [6,7,8,11,13,60]) N (fun R mm a w=>∃(seen:Array Nat),mm=(vG t seen).length/\R k [] [(0,.blk d1 (.mapIter (some G0) h0 seen h0))] a w/\(RNo (zN c) t seen)) ((vG t #[]).length) ⟨#[],rfl,⟨J.pk,N⟩,RNo.start⟩ ?_
 clear N J
 rintro mm a w ⟨seen,a1,⟨J,N⟩,L0⟩ W1 j0
 replace N:=N.nf
 have k0:=L0
 refine go fun a J=>?_
 refine st J rfl rfl rfl (y4c 0 1 J N rfl rfl rfl q (fun M0 w N a J=>?_) (fun s w r N a J=>?_))
 refine go fun a J=>?_
 have n0:¬cZ (zN c) name:=k0.none q B M0
 have k2:fuel<=200000:=by have h_:=I;omega
 have Y0:0<=fuel:=by have h_:=H;omega
 have P:=N
 have z0:=J
 clear N J
 obtain ⟨fu,rfl⟩:=Int.eq_ofNat_of_zero_le Y0
 have N:=P
 have J:=z0
 clear P z0
 refine Alc fun Y1 w N a J=>?_
 refine Sto 0 fun w N a J=>?_
 refine Alc fun Z1 w N a J=>?_
 refine go fun a J=>?_
 replace N:=N.ar [] [8,6,6,8,5]
 refine st J rfl rfl rfl (z8a J rfl call45 (q6i a0 E rl (z2u b) (z2u b _ _ m).1 (z2u b _ _ m).2 (by omega) (v1 b _ m L n0) N) (fun p0 f1 w D K0 N a J=>?_) (fun p0 w D N a J=>?_))
 obtain ⟨c0,T0⟩:=p0
 obtain ⟨P0,d2⟩:=f1
 obtain ⟨h,Z⟩:=K0
 simp only at h Z N J
 replace g0:=g0.up h
 replace G:=G.mono h
 replace l0:=l0.mono h
 replace A:=A.mono h
 replace z:=z.up h
 replace E:=E.up h
 replace i0:=i0.up h
 obtain ⟨b1,c175,rfl,x1,g2,C1,J1⟩:=RVal.fm Z
 replace N:=N.nf
 refine Qq (fun a J=>?_) (o:=by exact fun J O=>oV false J rfl rfl rfl)
 refine Reg [2,2,0,1,1] [0,1,2,3,5] fun w N a J=>?_
 refine Sto 4 fun w N a J=>?_
 refine go fun a J=>?_
 have f:=N
 replace N:=N.dl [5,4,3,2,1,0]
 refine hQ _ _ _ (kC (i:=4) (cs:=[.string c0.con,.int .i64 (c0.num),.slice b1 c0.args.length c175]) J f.toSees results20 rfl rfl isAgg42 sizeOf42 rfl rfl rfl ?_)
 have hr_:qR c name args ((fu:Nat):Int)=(c0,((fu - T0:Nat):Int),0):=by rw [z9s b (by omega) m L n0,Int.toNat_natCast,D]
 rw [hr_]
 exact ⟨(P0,_),rfl,⟨(e).trans h,Z⟩,N⟩
 have t1:=q6h D
 replace N:=N.nf
 refine zU fun a J=>?_
 refine Sto 2 fun w N a J=>?_
 refine go fun a J=>?_
 have f:=N
 replace N:=N.dl [3,2,1,0]
 refine hQ _ _ _ (kC (i:=2) (cs:=[.string ⟨#[]⟩,.int .i64 ((0:Nat):Int),.slice none 0 0]) J f.toSees results20 rfl rfl isAgg42 sizeOf42 rfl rfl rfl ?_)
 have hr_:qR c name args ((fu:Nat):Int)=(v0,0,((p0:Nat):Int)):=by rw [z9s b (by omega) m L n0,Int.toNat_natCast,D]
 rotate_left
 obtain ⟨F,U1,Y,N1,M⟩:=z8g q (leftE_mem.1 r).1
 have q0:Value.tuple #[s.key,s.val]=Value.tuple #[.string F,s.val]:=by rw [Y]
 refine Qq (fun a J=>?_) (o:=by exact fun J O=>Ok.cast (q5p (i:=0) (j:=1) J O rfl rfl rfl q r) q0)
 refine go fun a J=>?_
 rcases u:yV (f0) F with _ | T1
 have C:=congrArg (zK false (.agg #[.string ⟨#[]⟩,.slice none 0 0,.string ⟨#[]⟩,.int .i64 ((0:Nat):Int),.int .i64 ((0:Nat):Int),.string ⟨#[]⟩,.slice none 0 0,.slice none 0 0])) u
 refine Qq (fun a J=>?_) (o:=by exact fun J O=>Ok.cast (yC runUnderlying103 runUnderlying9 zeroValue68 J O rfl rfl A) (show zK false (.agg #[.string ⟨#[]⟩,.slice none 0 0,.string ⟨#[]⟩,.int .i64 ((0:Nat):Int),.int .i64 ((0:Nat):Int),.string ⟨#[]⟩,.slice none 0 0,.slice none 0 0]) (yV (f0) F)=.agg #[.string ⟨#[]⟩,.slice none 0 0,.string ⟨#[]⟩,.int .i64 ((0:Nat):Int),.int .i64 ((0:Nat):Int),.string ⟨#[]⟩,.slice none 0 0,.slice none 0 0] from C))
 refine Qq (fun a J=>?_) (o:=by exact fun J O=>z7h 3 (vs:=[.int .i64 ((0:Nat):Int),.int .i64 ((0:Nat):Int),.string ⟨#[]⟩,.slice none 0 0,.slice none 0 0]) runUnderlying68 rfl isAgg66 sizeOf66 J rfl rfl rfl)
 refine zX call63 (fun T w N a J=>?_) (fun T w N a J=>?_) (c:=q9f rex0 N)
 refine zU fun a J=>?_
 refine Sto 4 fun w N a J=>?_
 refine go fun a J=>?_
 have f:=N
 replace N:=N.dl [7,6,5,4,3,2,1,0]
 refine hQ _ _ _ (kC (i:=4) (cs:=[.string ⟨#[]⟩,.int .i64 ((0:Nat):Int),.slice none 0 0]) J f.toSees results20 rfl rfl isAgg42 sizeOf42 rfl rfl rfl ?_)
 have hr_:qR c name args fuel=(v0,0,8):=z3l b (by have H0:=I;have I0:=H;omega) m L (q2c B M (by rw [z4e (MapRel.none z u)];exact T))
 rotate_left
 refine go fun a J=>?_
 refine j0 ((vG t ((seen.push s.born))).length) _ _ (by subst a1;have h_:=z1j r;omega) ⟨((seen.push s.born)),rfl,⟨J.pk,N⟩,?_⟩
 exact k0.next q r Y (by rw [z4e (MapRel.none z u)];exact T)
 obtain ⟨g,o0,r1,rfl,O0⟩:=z.get u
 obtain ⟨I2,a2,rfl,U0,x0⟩:=id O0
 obtain ⟨c1,S0,rfl,D1,K1⟩:=U0.fm
 obtain ⟨E0,c213,F0,u0,rfl,y1,i2,j2,E1,L1,F1,M1⟩:=REx.fm x0
 have C:=congrArg (zK false (.agg #[.string ⟨#[]⟩,.slice none 0 0,.string ⟨#[]⟩,.int .i64 ((0:Nat):Int),.int .i64 ((0:Nat):Int),.string ⟨#[]⟩,.slice none 0 0,.slice none 0 0])) u
 refine Qq (fun a J=>?_) (o:=by exact fun J O=>Ok.cast (yC runUnderlying103 runUnderlying9 zeroValue68 J O rfl rfl A) (show zK false (.agg #[.string ⟨#[]⟩,.slice none 0 0,.string ⟨#[]⟩,.int .i64 ((0:Nat):Int),.int .i64 ((0:Nat):Int),.string ⟨#[]⟩,.slice none 0 0,.slice none 0 0]) (yV (f0) F)=.agg #[.string g.name,.slice c1 g.params.length S0,.string g.result,.int .i64 (g.body.kind),.int .i64 (g.body.num),.string g.body.name,.slice E0 g.body.args.length c213,.slice F0 g.body.arms.length u0] from C))
 refine Qq (fun a J=>?_) (o:=by exact fun J O=>z7h 3 (vs:=[.int .i64 (g.body.kind),.int .i64 (g.body.num),.string g.body.name,.slice E0 g.body.args.length c213,.slice F0 g.body.arms.length u0]) runUnderlying68 rfl isAgg66 sizeOf66 J rfl rfl rfl)
 refine zX call63 (fun W w N a J=>?_) (fun W w N a J=>?_) (c:=q9f x0 N)
 refine zU fun a J=>?_
 refine Sto 4 fun w N a J=>?_
 refine go fun a J=>?_
 have f:=N
 replace N:=N.dl [7,6,5,4,3,2,1,0]
 refine hQ _ _ _ (kC (i:=4) (cs:=[.string ⟨#[]⟩,.int .i64 ((0:Nat):Int),.slice none 0 0]) J f.toSees results20 rfl rfl isAgg42 sizeOf42 rfl rfl rfl ?_)
 have hr_:qR c name args fuel=(v0,0,8):=z3l b (by have H0:=I;have I0:=H;omega) m L (q2c B M (by rw [z4f o0];exact W))
 rotate_left
 refine go fun a J=>?_
 refine j0 ((vG t ((seen.push s.born))).length) _ _ (by subst a1;have h_:=z1j r;omega) ⟨((seen.push s.born)),rfl,⟨J.pk,N⟩,?_⟩
 exact k0.next q r Y (by rw [z4f o0];exact W)
 refine zU fun a J=>?_
 refine Sto 2 fun w N a J=>?_
 refine go fun a J=>?_
 have f:=N
 replace N:=N.dl [5,4,3,2,1,0]
 refine hQ _ _ _ (kC (i:=2) (cs:=[.string ⟨#[]⟩,.int .i64 ((0:Nat):Int),.slice none 0 0]) J f.toSees results20 rfl rfl isAgg42 sizeOf42 rfl rfl rfl ?_)
 have hr_:qR c name args fuel=(v0,0,8):=y8e b (by have H0:=I;have I0:=H;omega) m ((z8i _ _ _).trans S)
 rotate_left
 rw [if_neg b] at J
 refine Alc fun b2 w N a J=>?_
 refine Sto 0 fun w N a J=>?_
 refine zU fun a J=>?_
 refine Sto 1 fun w N a J=>?_
 refine go fun a J=>?_
 have f:=N
 replace N:=N.dl [4,3,2,1,0]
 refine hQ _ _ _ (kC (i:=1) (cs:=[.string ⟨#[]⟩,.int .i64 ((0:Nat):Int),.slice none 0 0]) J f.toSees results20 rfl rfl isAgg42 sizeOf42 rfl rfl rfl ?_)
 have hr_:qR c name args fuel=(v0,0,qL c):=q3i b
 rotate_left
 all_goals (rw [hr_];exact ⟨(k,_),rfl,⟨e,RVal.iff.2 ⟨_,rfl,(show I64 0 from ⟨by decide,by decide⟩),SliceOf.nil 3⟩⟩,N⟩)
section
variable {V:Fz} {K:List Res} {w:World}
theorem y8i {b:Nat} {v:Value} (c:v.cells.toList=[v]) (h1:[v].all Value.oneCell'=true) (N:Mem V (.blk b (ob [.pointer none,v] 130)::K) w) :
  Calls prog 120 #[.pointer (some ⟨b,0,none⟩)] w (fun ee w'=>ee=.returned (.tuple #[])/\Mem V (.blk b (ob [.pointer (some ⟨b,0,none⟩),v] 130)::K) w'):=by
 refine zI func120 ntmps120 fun Q hQ a J=>?_
 refine Qq (fun a J=>?_) (o:=by exact fun J O=>nT (v:=.bool true) J rfl rfl rfl (by kernel_rfl))
 refine Qq (fun a J=>?_) (o:=by exact fun J O=>j0y (i:=0) J O rfl rfl (Nat.zero_lt_succ _) underlying127 underlying238 Tryz.type130 (by decide))
 refine Qq (fun a J=>?_) (o:=by exact fun J O=>y9n J rfl)
 refine Qq (fun a J=>?_) (o:=by exact fun J O=>y9m (i:=0) J O rfl rfl underlying238 underlying127 Tryz.type130 (by kernel_rfl))
 refine Sto 0 fun w N a J=>?_
 refine go fun a J=>?_
 refine hQ _ _ _ (aM J results120 ?_)
 exact ⟨rfl,N⟩
theorem y2q {b:Nat} {v:Value} (c:v.cells.toList=[v]) (h1:[v].all Value.oneCell'=true) (N:Mem V (.blk b (ob [.pointer (some ⟨b,0,none⟩),v] 130)::K) w) :
  Calls prog 120 #[.pointer (some ⟨b,0,none⟩)] w (fun ee w'=>ee=.returned (.tuple #[])/\Mem V (.blk b (ob [.pointer (some ⟨b,0,none⟩),v] 130)::K) w'):=by
 refine zI func120 ntmps120 fun Q hQ a J=>?_
 refine Qq (fun a J=>?_) (o:=by exact fun J O=>nT (v:=.bool false) J rfl rfl rfl (by kernel_rfl))
 refine Qq (fun a J=>?_) (o:=by exact fun J O=>nT (v:=.bool false) J rfl rfl rfl (Lib.run_neq_ptr_same _ _ underlying127 Tryz.type130))
 refine go fun a J=>?_
 refine hQ _ _ _ (aM J results120 ?_)
 exact ⟨rfl,N⟩
theorem tY {b:Nat} {v:Value} {bp:Option Addr} (c:bp=none∨bp=some ⟨b,0,none⟩) (a:v.cells.toList=[v]) (h1:[v].all Value.oneCell'=true) (N:Mem V (.blk b (ob [.pointer bp,v] 130)::K) w) :
  Calls prog 120 #[.pointer (some ⟨b,0,none⟩)] w (fun ee w'=>ee=.returned (.tuple #[])/\Mem V (.blk b (ob [.pointer (some ⟨b,0,none⟩),v] 130)::K) w'):=by
 rcases c with rfl | rfl
 exact y8i a h1 N
 exact y2q a h1 N
theorem yM {b:Nat} {v:Value} {bp:Option Addr} {t s:Bs} (d:bp=none∨bp=some ⟨b,0,none⟩) (hl:t.size+s.size<=140737488355328) (N:Mem V (.blk b (ob [.pointer bp,v] 130)::.gs v 5 1 (Lib.strCells t)::K) w) :
  Calls prog 68 #[.pointer (some ⟨b,0,none⟩),.string s] w (fun ee w'=>∃v2,ee=.returned (.tuple #[.int .i64 s.size,.nilIface])/\True/\Mem V (.blk b (ob [.pointer (some ⟨b,0,none⟩),v2] 130)::.gs v2 5 1 (Lib.strCells (t++s))::K) w'):=by
 refine zI func68 ntmps68 fun Q hQ a J=>?_
 refine zO call120 (fun w N a J=>?_) (c:=tY d (N.toSees.gsCells (i:=1) rfl) (N.toSees.gsOne (i:=1) rfl) N)
 replace N:=N.nf
 refine go fun a J=>?_
 refine st J rfl rfl rfl (y3x 1 underlying128 underlying9 Tryz.type5 rfl rfl rfl J N rfl rfl rfl (by omega) fun v4 w N a J=>?_)
 replace N:=N.nf
 refine Sto 0 fun w N a J=>?_
 refine jO ?_
 exact ⟨_,rfl,trivial,N⟩
theorem aQ {b:Nat} {v:Value} {bp:Option Addr} {t:Bs} {c:UInt8} (d:bp=none∨bp=some ⟨b,0,none⟩) (hl:t.size+1<=140737488355328) (N:Mem V (.blk b (ob [.pointer bp,v] 130)::.gs v 5 1 (Lib.strCells t)::K) w) :
  Calls prog 70 #[.pointer (some ⟨b,0,none⟩),.int .u8 c.toNat] w (fun ee w'=>∃v2,ee=.returned .nilIface/\True/\Mem V (.blk b (ob [.pointer (some ⟨b,0,none⟩),v2] 130)::.gs v2 5 1 (Lib.strCells (t++⟨#[c]⟩))::K) w'):=by
 refine zI func70 ntmps70 fun Q hQ a J=>?_
 refine zO call120 (fun w N a J=>?_) (c:=tY d (N.toSees.gsCells (i:=1) rfl) (N.toSees.gsOne (i:=1) rfl) N)
 replace N:=N.nf
 refine yK fun v4 w N a J=>?_
 refine yU 2 rt_128 (fun v5 w N a J=>?_) (hb:=by rw [wZ];simp only [lcQ,lnQ];omega)
 rw [<- y9l] at N
 refine Sto 1 fun w N a J=>?_
 refine zF ?_
 replace N:=N.dl [0]
 exact ⟨_,rfl,trivial,N⟩
theorem y8d {b:Nat} {v:Value} {bp:Option Addr} {t:Bs} (N:Mem V (.blk b (ob [.pointer bp,v] 130)::.gs v 5 1 (Lib.strCells t)::K) w) :
  Calls prog 71 #[.pointer (some ⟨b,0,none⟩)] w (fun ee w'=>ee=.returned (.int .i64 t.size)/\Mem V (.blk b (ob [.pointer bp,v] 130)::.gs v 5 1 (Lib.strCells t)::K) w'):=by
 obtain ⟨g,f,c0,rfl,d,e⟩:=N.toSees.gsForm (i:=1) rfl
 have c:f=t.size:=by simpa [wZ] using d.symm
 subst c
 refine zI func71 ntmps71 fun Q hQ a J=>?_
 refine zF ?_
 exact ⟨rfl,N⟩
theorem cF {b:Nat} {v:Value} {bp:Option Addr} {t:Bs} (N:Mem V (.blk b (ob [.pointer bp,v] 130)::.gs v 5 1 (Lib.strCells t)::K) w) :
  Calls prog 72 #[.pointer (some ⟨b,0,none⟩)] w (fun ee w'=>ee=.returned (.string t)/\Mem V K w'):=by
 obtain ⟨j,h,c0,rfl,d,g⟩:=N.toSees.gsForm (i:=1) rfl
 have c:h=t.size:=by simpa [wZ] using d.symm
 subst c
 refine zI func72 ntmps72 fun Q hQ a J=>?_
 refine go fun a J=>?_
 refine qP [1,1,1,2,0,1,1,1,2,1,0,1] (.q 0 (.q 1 (.q 2 (.q 3 (.q 5 (.q 6 (.q 7 (.q 8 (.q 9 (.e 4 (.e 10 (.q 11 (.done))))))))))))) [0] J N fun w N=>?_
 refine go fun a J=>?_
 refine d_e J rfl rfl rfl (y8w 1 underlying202 J N rfl rfl fun k w f N=>⟨fun _=>N.sn (Fz.Le.refl _),fun a J=>?_⟩)
 refine d_e J rfl rfl rfl (z8e 1 (t:=t) underlying202 (by kernel_rfl) J N f rfl rfl rfl fun w N=>⟨fun _=>N.sn (Fz.Le.refl _),fun a J=>?_⟩)
 replace N:=N.nf
 refine zF ?_
 replace N:=N.dl [0]
 exact ⟨rfl,N⟩
end
theorem grow_ok {V:Fz} {K:List Res} {w:World} {b n:Nat} (h:n<=140737488355328) (N:Mem V (.blk b (ob [.pointer (some ⟨b,0,none⟩),.slice none 0 0] 130)::K) w) :
  Calls prog 170 #[.pointer (some ⟨b,0,none⟩),.int .i64 n] w (fun ee w'=>∃v2,ee=.returned (.tuple #[])/\True/\Mem V (.blk b (ob [.pointer (some ⟨b,0,none⟩),v2] 130)::.gs v2 5 1 (Lib.strCells ⟨#[]⟩)::K) w'):=by
 refine zI func170 ntmps170 fun Q hQ a J=>?_
 refine go fun a J=>?_
 refine qP [1,1,1,2,1,1,1,1,0,1,1,1,2,1,1,1] (.q 0 (.q 1 (.q 2 (.q 3 (.q 4 (.q 5 (.q 6 (.q 7 (.q 9 (.q 10 (.q 11 (.q 12 (.q 13 (.e 8 (.q 14 (.q 15 (.done))))))))))))))))) [0] J N fun w N=>?_
 refine Qq (fun a J=>?_) (o:=by exact fun J O=>y_cap J rfl runUnderlying128)
 refine Qq (fun a J=>?_) (o:=by exact fun J O=>j8a ((0:Nat):Int) J rfl rfl (by decide))
 refine Qq (fun a J=>?_) (o:=by exact fun J O=>z0p ((n:Nat):Int) J rfl rfl (by rw [yB (by omega)];omega))
 refine go fun a J=>?_
 refine d_e J rfl rfl rfl (y4a (m:=n) J N rfl (by omega) fun g f w d c N=>⟨fun _=>N.sn (Fz.Le.refl _),fun a J=>?_⟩)
 refine Qq (fun a J=>?_) (o:=by exact fun J O=>q5s J rfl rfl runUnderlying128 sizeOf5)
 refine Qq (fun a J=>?_) (o:=by exact fun J O=>j5b J rfl rfl underlying128 (by kernel_rfl) rfl)
 refine Sto 1 fun w N a J=>?_
 replace N:=j3r (i:=0) N rfl c
 replace N:=N.nf
 refine go fun a J=>?_
 replace N:=N.pl 1
 refine hQ _ _ _ (aM J results170 ?_)
 exact ⟨_,rfl,trivial,N⟩
theorem q7p {V:Fz} {K:List Res} {w:World} {b n:Nat} (g:n<=140737488355328) (N:Mem V (.blk b (ob [.pointer none,.slice none 0 0] 130)::K) w) :
  Calls prog 119 #[.pointer (some ⟨b,0,none⟩),.int .i64 n] w (fun ee w'=>∃v2,ee=.returned (.tuple #[])/\True/\Mem V (.blk b (ob [.pointer (some ⟨b,0,none⟩),v2] 130)::.gs v2 5 1 (Lib.strCells ⟨#[]⟩)::K) w'):=by
 refine zI func119 ntmps119 fun Q hQ a J=>?_
 refine zO call120 (fun w N a J=>?_) (c:=tY (.inl rfl) rfl rfl N)
 replace N:=N.nf
 have d:¬n < 0:=by omega
 refine Reg [1,1,1,2,1,1,1,1,2,1,1,1,1] [0] fun w N a J=>?_
 refine Qq (fun a J=>?_) (o:=by exact fun J O=>y_cap J rfl runUnderlying128)
 refine Qq (fun a J=>?_) (o:=by exact fun J O=>jT ((0:Nat):Int) J rfl rfl (by decide))
 by_cases f:0 < n
 refine zV call170 (fun h w e N a J=>?_) (c:=grow_ok (by omega) N)
 replace N:=N.nf
 refine go fun a J=>?_
 rotate_left
 refine go fun a J=>?_
 replace N:=N.nilRow 5 1
 replace N:=N.pl 1
 rotate_left
 all_goals (refine hQ _ _ _ (aM J results119 ?_);exact ⟨_,rfl,trivial,N⟩)
section
variable {V:Fz} {K:List Res} {w:World}
theorem x5j {b off cap:Nat} {arr:Array Value} {l:List Bs} {sep:Bs} (hq:QAt off cap arr l) (hb:nE l+sep.size * l.length<=70368744177664) (N:Mem V (qblk b arr::K) w) :
  Calls prog 67 #[qval b off cap l,.string sep] w (fun ee w'=>ee=.returned (.string (mU sep l))/\Mem V (qblk b arr::K) w'):=by
 have A0:l.length<=9223372036854775807:=Nat.le_trans hq.fits (by have h_:=hq.max;simpa [maxLen] using h_)
 have z0:(l.drop 1).length<=l.length:=by rw [List.length_drop];omega
 refine zI func67 ntmps67 fun Q hQ a J=>?_
 by_cases h5:l.length=0
 refine zF ?_
 have e_:l=[]:=List.eq_nil_of_length_eq_zero h5
 subst e_
 exact ⟨rfl,N⟩
 by_cases h8:l.length=1
 have H:=h8
 have Y:0 < l.length:=by omega
 obtain ⟨K0,G⟩:=jC Y
 refine Qq (fun a J=>?_) (o:=by exact fun J O=>cW 0 0 J O hq rfl rfl G isAgg9)
 refine zF ?_
 obtain ⟨y_,e_⟩:∃y_,l=[y_]:=by
  cases l with
  | nil=>simp at H
  | cons a r=>cases r with
   | nil=>exact ⟨a,rfl⟩
   | cons b r=>simp at H
 subst e_
 have P:=G
 simp at P
 subst P
 exact ⟨rfl,N⟩
 by_cases H0:0 < sep.size
 refine Qq (fun a J=>?_) (o:=by exact fun J O=>jT (((l.length - 1):Nat):Int) J rfl rfl (by rw [yB (by omega)];omega))
 refine Qq (fun a J=>?_) (o:=by exact fun J O=>y_quo _ J rfl rfl (by omega) rfl)
 have o0:¬IntKind.i64.wrap ((9223372036854775807:Int).tdiv (((l.length - 1):Nat):Int))<=((sep.size:Nat):Int):=quo_big (by omega) (by omega) (by have h_:=Nat.mul_le_mul_left sep.size (show l.length - 1<=l.length by omega);omega)
 refine Qq (fun a J=>?_) (o:=by exact fun J O=>jT (((l.length - 1):Nat):Int) J rfl rfl (by rw [yB (by omega)];omega))
 refine Qq (fun a J=>?_) (o:=by exact fun J O=>j8a (((sep.size * (l.length - 1)):Nat):Int) J rfl rfl (by rw [<- Int.natCast_mul];exact yB (by have h_:=Nat.mul_le_mul_left sep.size (show l.length - 1<=l.length by omega);omega)))
 refine Qq (fun a J=>?_) (o:=by exact fun J O=>pH (i:=0) (j:=(sep.size * (l.length - 1))) J rfl rfl (by have h_:=Nat.mul_le_mul_left sep.size (show l.length - 1<=l.length by omega);omega))
 have p:(0+(sep.size * (l.length - 1)))<=sep.size * l.length+nE (l.take 0):=by have h_:=Nat.mul_le_mul_left sep.size (show l.length - 1<=l.length by omega);omega
 refine go fun a J=>?_
 refine mN (fun mm a w=>∃(i:Nat) (n:Nat),mm=l.length - i/\EnvR 75 [(0,qval b off cap l),(1,.string sep),(5,.int .i64 n),(39,qval b off cap l),(40,.int .i64 l.length),(41,.int .i64 i)] [] a/\Mem V (qblk b arr::K) w/\(n<=sep.size * l.length+nE (l.take i))) (l.length - 0) ⟨0,(0+(sep.size * (l.length - 1))),rfl,J.pk,N,p⟩ ?_
 clear N J
 rintro mm a w ⟨i,n,f,J,N,E⟩ D0 T
 by_cases k0:i < l.length
 obtain ⟨C,u⟩:=jC k0
 refine Qq (fun a J=>?_) (o:=by exact fun J O=>cW 0 i J O hq rfl rfl u isAgg9)
 have Z:n+C.size<=140737488355328:=by have M:=E;have d:=cM l i;have e:=cL u;omega
 refine Qq (fun a J=>?_) (o:=by exact fun J O=>jT (((9223372036854775807 - n):Nat):Int) J rfl rfl (by rw [yB (by omega)];omega))
 have a0:¬(9223372036854775807 - n) < C.size:=by omega
 refine Qq (fun a J=>?_) (o:=by exact fun J O=>pH (i:=n) (j:=C.size) J rfl rfl (by omega))
 refine go fun a J=>?_
 refine T _ _ _ (by subst f;omega) ⟨(i+1),((n+C.size)),rfl,J.pk,N,?_⟩
 rw [q1m u];omega
 refine Alc fun I w N a J=>?_
 refine zV call119 (fun L0 w s0 N a J=>?_) (c:=q7p (n:=n) (by have d:=E;have e:=cM l i;omega) N)
 replace N:=N.nf
 have k:0 < l.length:=by omega
 obtain ⟨d0,v⟩:=jC k
 refine Qq (fun a J=>?_) (o:=by exact fun J O=>cW 2 0 J O hq rfl rfl v isAgg9)
 replace N:=N.ar [] [1,1]
 refine zV call68 (fun p0 w t0 N a J=>?_) (c:=yM (t:=⟨#[]⟩) (s:=d0) (.inr rfl) (by have M:(⟨#[]⟩:Bs).size=0:=rfl;have d:=cM l 0;have e:=cL v;omega) N)
 replace N:=N.nf
 have b0:=hq.tail k
 refine Qq (fun a J=>?_) (o:=by exact fun J O=>z9h J hq rfl rfl runUnderlying25 sizeOf9 k)
 refine go fun a J=>?_
 refine mN (fun mm a w=>∃(i:Nat) (bv:Value) (acc:Bs),mm=(l.drop 1).length - i/\EnvR 75 [(1,.string sep),(8,.pointer (some ⟨I,0,none⟩)),(63,qval b (y6j off cap) (cap - 1) (l.drop 1)),(64,.int .i64 (((l.drop 1).length:Nat):Int)),(65,.int .i64 i)] [] a/\Mem V (.blk I (ob [.pointer (some ⟨I,0,none⟩),bv] 130)::.gs (bv) 5 1 (Lib.strCells acc)::qblk b arr::K) w/\(mU sep l=((l.drop 1).drop i).foldl (fun a s=>a++sep++s) acc/\acc.size+nE ((l.drop 1).drop i)+sep.size * ((l.drop 1).length - i)<=70368744177664)) ((l.drop 1).length - 0) ⟨0,p0,(⟨#[]⟩++d0),rfl,J.pk,N,(q1f v hb)⟩ ?_
 clear N J
 rintro mm a w ⟨i,bv,acc,f,J,N,g⟩ E0 U
 obtain ⟨g,q⟩:=g
 refine go fun a J=>?_
 by_cases R:i < (l.drop 1).length
 obtain ⟨f0,y⟩:=jC R
 refine Qq (fun a J=>?_) (o:=by exact fun J O=>cW 2 i J O b0 rfl rfl y isAgg9)
 replace N:=N.ar [] [1,1]
 refine zV call68 (fun M0 w u0 N a J=>?_) (c:=yM (t:=acc) (s:=sep) (.inr rfl) (by have d:sep.size<=sep.size * ((l.drop 1).length - i):=Nat.le_mul_of_pos_right _ (by omega);omega) N)
 replace N:=N.nf
 replace N:=N.ar [] [1,1]
 refine zV call68 (fun q0 w w0 N a J=>?_) (c:=yM (t:=(acc++sep)) (s:=f0) (.inr rfl) (by have d:sep.size<=sep.size * ((l.drop 1).length - i):=Nat.le_mul_of_pos_right _ (by omega);have e:=cL y;rw [zL];omega) N)
 replace N:=N.nf
 refine go fun a J=>?_
 refine U _ _ _ (by subst f;omega) ⟨(i+1),(q0),(((acc++sep)++f0)),rfl,J.pk,N,?_⟩
 exact q1g y g q
 replace N:=N.ar [] [1,1]
 refine zO call72 (fun w N a J=>?_) (c:=cF (t:=acc) N)
 replace N:=N.nf
 refine zF ?_
 rw [g,zE R]
 exact ⟨rfl,N⟩
 have p:0<=sep.size * l.length+nE (l.take 0):=by have h_:=Nat.mul_le_mul_left sep.size (show l.length - 1<=l.length by omega);omega
 refine go fun a J=>?_
 refine mN (fun mm a w=>∃(i:Nat) (n:Nat),mm=l.length - i/\EnvR 75 [(0,qval b off cap l),(1,.string sep),(5,.int .i64 n),(39,qval b off cap l),(40,.int .i64 l.length),(41,.int .i64 i)] [] a/\Mem V (qblk b arr::K) w/\(n<=sep.size * l.length+nE (l.take i))) (l.length - 0) ⟨0,0,rfl,J.pk,N,p⟩ ?_
 clear N J
 rintro mm a w ⟨i,n,f,J,N,F⟩ F0 W
 by_cases l0:i < l.length
 obtain ⟨D,z⟩:=jC l0
 refine Qq (fun a J=>?_) (o:=by exact fun J O=>cW 0 i J O hq rfl rfl z isAgg9)
 have Z:n+D.size<=140737488355328:=by have M:=F;have d:=cM l i;have e:=cL z;omega
 refine Qq (fun a J=>?_) (o:=by exact fun J O=>jT (((9223372036854775807 - n):Nat):Int) J rfl rfl (by rw [yB (by omega)];omega))
 have a0:¬(9223372036854775807 - n) < D.size:=by omega
 refine Qq (fun a J=>?_) (o:=by exact fun J O=>pH (i:=n) (j:=D.size) J rfl rfl (by omega))
 refine go fun a J=>?_
 refine W _ _ _ (by subst f;omega) ⟨(i+1),((n+D.size)),rfl,J.pk,N,?_⟩
 rw [q1m z];omega
 refine Alc fun L w N a J=>?_
 refine zV call119 (fun N0 w x0 N a J=>?_) (c:=q7p (n:=n) (by have d:=F;have e:=cM l i;omega) N)
 replace N:=N.nf
 have m:0 < l.length:=by omega
 obtain ⟨g0,A⟩:=jC m
 refine Qq (fun a J=>?_) (o:=by exact fun J O=>cW 2 0 J O hq rfl rfl A isAgg9)
 replace N:=N.ar [] [1,1]
 refine zV call68 (fun r0 w y0 N a J=>?_) (c:=yM (t:=⟨#[]⟩) (s:=g0) (.inr rfl) (by have M:(⟨#[]⟩:Bs).size=0:=rfl;have d:=cM l 0;have e:=cL A;omega) N)
 replace N:=N.nf
 have c0:=hq.tail m
 refine Qq (fun a J=>?_) (o:=by exact fun J O=>z9h J hq rfl rfl runUnderlying25 sizeOf9 m)
 refine go fun a J=>?_
 refine mN (fun mm a w=>∃(i:Nat) (bv:Value) (acc:Bs),mm=(l.drop 1).length - i/\EnvR 75 [(1,.string sep),(8,.pointer (some ⟨L,0,none⟩)),(63,qval b (y6j off cap) (cap - 1) (l.drop 1)),(64,.int .i64 (((l.drop 1).length:Nat):Int)),(65,.int .i64 i)] [] a/\Mem V (.blk L (ob [.pointer (some ⟨L,0,none⟩),bv] 130)::.gs (bv) 5 1 (Lib.strCells acc)::qblk b arr::K) w/\(mU sep l=((l.drop 1).drop i).foldl (fun a s=>a++sep++s) acc/\acc.size+nE ((l.drop 1).drop i)+sep.size * ((l.drop 1).length - i)<=70368744177664)) ((l.drop 1).length - 0) ⟨0,r0,(⟨#[]⟩++g0),rfl,J.pk,N,(q1f A hb)⟩ ?_
 clear N J
 rintro mm a w ⟨i,bv,acc,f,J,N,h⟩ G0 X
 obtain ⟨h,q⟩:=h
 refine go fun a J=>?_
 by_cases S:i < (l.drop 1).length
 obtain ⟨h0,B⟩:=jC S
 refine Qq (fun a J=>?_) (o:=by exact fun J O=>cW 2 i J O c0 rfl rfl B isAgg9)
 replace N:=N.ar [] [1,1]
 refine zV call68 (fun B0 w m0 N a J=>?_) (c:=yM (t:=acc) (s:=sep) (.inr rfl) (by have d:sep.size<=sep.size * ((l.drop 1).length - i):=Nat.le_mul_of_pos_right _ (by omega);omega) N)
 replace N:=N.nf
 replace N:=N.ar [] [1,1]
 refine zV call68 (fun i0 w n0 N a J=>?_) (c:=yM (t:=(acc++sep)) (s:=h0) (.inr rfl) (by have d:sep.size<=sep.size * ((l.drop 1).length - i):=Nat.le_mul_of_pos_right _ (by omega);have e:=cL B;rw [zL];omega) N)
 replace N:=N.nf
 refine go fun a J=>?_
 refine X _ _ _ (by subst f;omega) ⟨(i+1),(i0),(((acc++sep)++h0)),rfl,J.pk,N,?_⟩
 exact q1g B h q
 replace N:=N.ar [] [1,1]
 refine zO call72 (fun w N a J=>?_) (c:=cF (t:=acc) N)
 replace N:=N.nf
 refine zF ?_
 rw [h,zE S]
 exact ⟨rfl,N⟩
theorem j2k {p:Option Addr} {c:Nat} {sep:Bs} (N:Mem V K w) :
  Calls prog 67 #[.slice p 0 c,.string sep] w (fun ee w'=>ee=.returned (.string ⟨#[]⟩)/\Mem V K w'):=by
 refine zI func67 ntmps67 fun Q hQ a J=>?_
 refine Qq (fun a J=>?_) (o:=by exact fun J O=>xH true J rfl rfl rfl)
 refine zF ?_
 exact ⟨rfl,N⟩
theorem y5e {v:Value} {l:List Bs} {sep:Bs} (hb:nE l+sep.size * l.length<=70368744177664) (N:Mem V (.gs v 9 1 (strs l)::K) w) :
  Calls prog 67 #[v,.string sep] w (fun ee w'=>ee=.returned (.string (mU sep l))/\Mem V K w'):=by
 by_cases hl:l=[]
 subst hl
 obtain ⟨f,d,c0,rfl,c,_⟩:=N.toSees.gsForm (i:=0) rfl
 have a:d=0:=by simpa [strs] using c.symm
 subst a
 exact j2k N.tail
 obtain ⟨b,cap,arr,rfl,hq,N⟩:=y4s (i:=0) N rfl hl
 exact (x5j hq hb N).mono fun e w' h=>⟨h.1,h.2.tail⟩
end
def xO (l:Tx):Bs:=⟨l.toArray⟩
theorem nM (a b:Tx):xO (a++b)=xO a++xO b:=by
 apply ByteArray.ext
 simp only [xO,ByteArray.data_append]
 apply Array.ext';simp
theorem q4t (s:Bs):xO (tx s)=s:=by
 apply ByteArray.ext;simp [xO,tx]
theorem kI (l:Tx):(xO l).size=l.length:=by
 show l.toArray.size=_;simp
theorem y1r (s:Bs):(tx s).length=s.size:=by
 simp only [tx,Array.length_toList];rfl
def wB (e:Ex):Bs:=xO (vX e)
def wsB (l:List Ex):Bs:=xO (writePs l)
theorem z7g {l:List Ex} {i:Nat} {x:Ex} (h:l[i]? = some x):writePs (l.drop i)=32::vX x++writePs (l.drop (i+1)):=by rw [zA h];rfl
theorem j0q {l:List Ex} {i:Nat} (h:¬i < l.length):writePs (l.drop i)=[]:=by rw [zE h];rfl
theorem q5o (a:Arm) (l:List Arm):writePa (a::l)=[32,40]++(tx a.con++(a.vars.map fun v=>32::tx v).flatten)++[32,45,62,32]++vX a.body++[41]++writePa l:=by
 cases a;rfl
section
variable {e:Ex}
theorem x2d (h:e.kind=1):vX e=z0n e.num:=by cases e;simp only [Ex.kind] at h;subst h;rfl
theorem x2e (h:e.kind=2):vX e=tx e.name:=by cases e;simp only [Ex.kind] at h;subst h;rfl
theorem x2b (h:e.kind=3):vX e=33::tx e.name:=by cases e;simp only [Ex.kind] at h;subst h;rfl
theorem j4z (h:e.kind=4) (a:e.args.length=0):vX e=tx e.name:=by
 cases e with
 | mk k n s args arms=>
  simp only [Ex.kind] at h;subst h
  have:args=[]:=List.eq_nil_of_length_eq_zero a
  subst this;rfl
theorem x2a (h:e.kind=4) (b:¬e.args.length=0):vX e=40::tx e.name++writePs e.args++[41]:=by
 cases e with
 | mk k n s args arms=>
  simp only [Ex.kind] at h;subst h
  cases args with
  | nil=>exact absurd rfl b
  | cons a l=>rfl
theorem x2c (h:e.kind=6):vX e=40::([108,101,116,32]++tx e.name)++writePs e.args++[41]:=by cases e;simp only [Ex.kind] at h;subst h;rfl
theorem j4y (h:e.kind=7):vX e=[40,99,97,115,101,32]++writeH e.args++writePa e.arms++[41]:=by cases e;simp only [Ex.kind] at h;subst h;rfl
theorem j0r (h1:¬e.kind=1) (h2:¬e.kind=2) (a:¬e.kind=3) (b:¬e.kind=4) (c:¬e.kind=6) (d:¬e.kind=7):vX e=40::tx e.name++writePs e.args++[41]:=by
 cases e with
 | mk k n s args arms=>
  simp only [Ex.kind] at *
  simp only [vX,if_neg h1,if_neg h2,if_neg a,if_neg b,if_neg c,if_neg d];rfl
end
theorem j6w:∀(x:Bs) (l:List Bs),tx (mU ⟨#[32]⟩ (x::l))=tx x++(l.map fun v=>32::tx v).flatten
 | x,l=>by
  have:∀(l:List Bs) (a:Bs),tx (l.foldl (fun a s=>a++⟨#[32]⟩++s) a)=tx a++(l.map fun v=>32::tx v).flatten:=by
   intro l
   induction l with
   | nil=>intro a;simp
   | cons y l b=>
    intro a
    rw [List.foldl_cons,b]
    simp [tx,ByteArray.data_append,List.append_assoc]
  exact this l x
theorem z2n:∀(f n:Nat),n < f->(gJ f n).reverse=Lib.decDigits n
 | 0,_,h=>by omega
 | f+1,n,h=>by
  rw [Lib.decDigits]
  simp only [gJ]
  by_cases a:n < 10
  ·rw [if_pos a,dif_pos a];rfl
  ·rw [if_neg a,dif_neg a,List.reverse_cons,z2n f (n / 10) (by omega)];try rfl
theorem j6u (n:Int):Lib.itoa n=z0n n:=by
 have h:∀u,vP u=Lib.decDigits u:=fun u=>z2n (u+1) u (Nat.lt_succ_self _)
 unfold Lib.itoa z0n
 split
 ·rw [h,show n.natAbs=(-n).toNat by omega]
 ·rw [h]
theorem z6a (n:Int):mC n=xO (z0n n):=by unfold mC xO;rw [j6u]
theorem xF (e:Ex):(wB e).size=(vX e).length:=kI _
def kM (op:Bs) (l:List Ex):Bs:=xO (40::tx op++writePs l++[41])
theorem y7r (t op:Bs) (l:List Ex):(t++(⟨#[40]⟩++op))++xO (writePs l++[41])=t++kM op l:=by (apply ByteArray.ext;apply Array.ext';simp [kM,wB,wsB,xO,tx,ByteArray.data_append,List.append_assoc])
theorem w1_step {acc F:Bs} {l:List Ex} {i:Nat} {x:Ex} (a:l[i]? = some x) (h:acc++xO (writePs (l.drop i)++[41])=F):((acc++⟨#[32]⟩)++wB x)++xO (writePs (l.drop (i+1))++[41])=F:=by
 rw [<- h,z7g a];(apply ByteArray.ext;apply Array.ext';simp [kM,wB,wsB,xO,tx,ByteArray.data_append,List.append_assoc])
theorem w1_end {acc F:Bs} {l:List Ex} {i:Nat} (a:¬i < l.length) (h:acc++xO (writePs (l.drop i)++[41])=F):acc++⟨#[41]⟩=F:=by
 rw [<- h,j0q a];(apply ByteArray.ext;apply Array.ext';simp [kM,wB,wsB,xO,tx,ByteArray.data_append,List.append_assoc])
theorem pB {acc F:Bs} {l:Tx} (h:acc++xO l=F):acc.size+l.length=F.size:=by rw [<- h,zL,kI]
mutual
def wfE:Ex->Bool
 | .mk k n s args arms=>(decide (k≠7) || decide (0 < args.length))&&wfEs args&&wfEa arms&&decide (s.size<=24)&&decide ((z0n n).length<=24)
def wfEs:List Ex->Bool
 | []=>true
 | e::es=>wfE e&&wfEs es
def wfEa:List Arm->Bool
 | []=>true
 | .mk c vs b::es=>wfE b&&wfEa es&&decide (c.size<=24)&&vs.all (fun v=>decide (v.size<=24))
end
theorem j0h:∀{l:List Ex},wfEs l=true->∀x∈l,wfE x=true
 | [],_,x,h=>by cases h
 | y::l,h,x,a=>by
  simp only [wfEs,baQ] at h
  rcases List.mem_cons.1 a with rfl | a
  ·exact h.1
  ·exact j0h h.2 x a
theorem j0g:∀{l:List Arm},wfEa l=true->∀a∈l,wfE a.body=true
 | [],_,x,h=>by cases h
 | .mk c v b::l,h,x,d=>by
  simp only [wfEa,baQ] at h
  rcases List.mem_cons.1 d with rfl | d
  ·exact h.1.1.1
  ·exact j0g h.1.1.2 x d
theorem z3c {e:Ex} (h:wfE e=true):(e.kind=7->0 < e.args.length)/\(∀x∈e.args,wfE x=true)/\∀a∈e.arms,wfE a.body=true:=by
 cases e with
 | mk k n s args arms=>
  simp only [wfE,baQ,Bool.or_eq_true,decide_eq_true_eq] at h
  exact ⟨fun b=>h.1.1.1.1.resolve_left (fun c=>c b),j0h h.1.1.1.2,j0g h.1.1.2⟩
theorem x5k (x:Bs) (l:List Bs):nE (x::l)+(⟨#[32]⟩:Bs).size * (x::l).length=(tx x++(l.map fun v=>32::tx v).flatten).length+1:=by
 have h1:(⟨#[32]⟩:Bs).size=1:=rfl
 rw [h1,z2s,laQ,y1r,lcQ]
 have:∀l:List Bs,(l.map fun v=>32::tx v).flatten.length=nE l+l.length:=by
  intro l
  induction l with
  | nil=>rfl
  | cons y l a=>rw [List.map_cons,List.flatten_cons,laQ,a,z2s,lcQ,lcQ,y1r];omega
 rw [this];omega
def armB (a:Arm):Bs:=((((⟨#[32,40]⟩:Bs)++mU ⟨#[32]⟩ (a.con::a.vars))++⟨#[32,45,62,32]⟩)++wB a.body)++⟨#[41]⟩
theorem j5k (a:Arm) (l:List Arm):armB a++xO (writePa l)=xO (writePa (a::l)):=by
 rw [q5o]
 have h:=j6w a.con a.vars
 have h2:xO (tx a.con++(a.vars.map fun v=>32::tx v).flatten)=mU ⟨#[32]⟩ (a.con::a.vars):=by rw [<- h,q4t]
 simp only [nM,armB,wB]
 rw [<- nM (tx a.con),h2]
 rfl
section
variable {e:Ex}
theorem wB_num (h:e.kind=1):mC e.num=wB e:=by unfold wB;rw [x2d h,z6a]
theorem wB_var (h:e.kind=2):e.name=wB e:=by unfold wB;rw [x2e h,q4t]
theorem wB_inp (h:e.kind=3):(⟨#[33]⟩:Bs)++e.name=wB e:=by unfold wB;rw [x2b h];(apply ByteArray.ext;apply Array.ext';simp [kM,wB,wsB,xO,tx,ByteArray.data_append,List.append_assoc])
theorem j7y (h:e.kind=4) (a:e.args.length=0):e.name=wB e:=by unfold wB;rw [j4z h a,q4t]
theorem wB_con (h:e.kind=4) (a:¬e.args.length=0):kM e.name e.args=wB e:=by unfold wB kM;rw [x2a h a]
theorem wB_let (h:e.kind=6):kM ((⟨#[108,101,116,32]⟩:Bs)++e.name) e.args=wB e:=by unfold wB kM;rw [x2c h];(apply ByteArray.ext;apply Array.ext';simp [kM,wB,wsB,xO,tx,ByteArray.data_append,List.append_assoc])
theorem j0f (h1:¬e.kind=1) (h2:¬e.kind=2) (a:¬e.kind=3) (b:¬e.kind=4) (c:¬e.kind=6) (d:¬e.kind=7):kM e.name e.args=wB e:=by
 unfold wB kM;rw [j0r h1 h2 a b c d]
theorem x8i {t:Bs} {a:Ex} (h:e.kind=7) (b:e.args[0]? = some a):((t++(⟨#[40,99,97,115,101,32]⟩:Bs))++wB a)++xO (writePa e.arms++[41])=t++wB e:=by
 have h1:writeH e.args=vX a:=by
  cases hl:e.args with
  | nil=>rw [hl] at b;simp at b
  | cons x l=>rw [hl] at b;simp only [List.getElem?_cons_zero,Option.some.injEq] at b;subst b;rfl
 have h2:wB e=xO ([40,99,97,115,101,32]++vX a++writePa e.arms++[41]):=by unfold wB;rw [j4y h,h1]
 rw [h2];(apply ByteArray.ext;apply Array.ext';simp [kM,wB,wsB,xO,tx,ByteArray.data_append,List.append_assoc])
end
theorem wc_step {acc F:Bs} {l:List Arm} {i:Nat} {x:Arm} (a:l[i]? = some x) (h:acc++xO (writePa (l.drop i)++[41])=F) :
  (((acc++(((⟨#[32,40]⟩:Bs)++mU (⟨#[32]⟩:Bs) (x.con::x.vars))++(⟨#[32,45,62,32]⟩:Bs)))++wB x.body)++⟨#[41]⟩)++xO (writePa (l.drop (i+1))++[41])=F:=by
 rw [<- h,zA a,nM (writePa (x::_)),<- j5k,nM]
 unfold armB;simp only [ByteArray.append_assoc]
theorem wc_end {acc F:Bs} {l:List Arm} {i:Nat} (a:¬i < l.length) (h:acc++xO (writePa (l.drop i)++[41])=F):acc++⟨#[41]⟩=F:=by
 rw [<- h,zE a];(apply ByteArray.ext;apply Array.ext';simp [kM,wB,wsB,xO,tx,ByteArray.data_append,List.append_assoc]);rfl
theorem tW {l:List Arm} {i:Nat} {x:Arm} (a:l[i]? = some x):(writePa (l.drop i)).length=(armB x).size+(writePa (l.drop (i+1))).length:=by
 have:=congrArg ByteArray.size (j5k x (l.drop (i+1)))
 rw [zA a]
 rw [zL,kI,kI] at this
 exact this.symm
theorem cC (a:Arm):(armB a).size=2+(mU ⟨#[32]⟩ (a.con::a.vars)).size+4+(wB a.body).size+1:=by
 simp only [armB,zL];rfl
theorem uE (x:Bs) (l:List Bs):nE (x::l)+(⟨#[32]⟩:Bs).size * (x::l).length=(mU ⟨#[32]⟩ (x::l)).size+1:=by
 rw [x5k,<- j6w,y1r]
theorem j1y (op:Bs) (l:List Ex):(kM op l).size=2+op.size+(writePs l).length:=by
 unfold kM;rw [kI];simp only [laQ,lcQ,lnQ,y1r];omega
end Go.Sw
