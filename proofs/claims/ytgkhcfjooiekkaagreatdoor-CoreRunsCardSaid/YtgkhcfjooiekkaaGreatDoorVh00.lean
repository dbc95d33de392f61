/- CoreRuns: for every program, every list of named values and every fuel, the law returns true: Run answers as the specification does; the statement coreRunsCardSaid, as it is given; nothing is assumed beyond it. -/
import Derived.Test.YtgkhcfjooiekkaaGreatDoorX17
set_option linter.unusedVariables false
set_option linter.unusedSimpArgs false
namespace Go.Sw
open Go.Proofs Go.Proofs.Tryz
set_option maxRecDepth 20000
set_option maxHeartbeats 4000000
theorem cX {V:Fz} {K:List Res} {w:World} {d0:List Value} {d:Value} {c:Core} {l:List Named} {fuel:Int} (b:RCore V d0 c) (rl:SliceOf RNamed V 4 d l) (a:∀v,d0[3]? = some v->Cap v) (N:Mem V K w) :
  Calls prog 17 #[.agg d0.toArray,d,.int .i64 fuel] w (fun ee w'=>∃y:Fz×List Value,ee=.returned (.tuple #[.agg y.2.toArray,.int .i64 (sV c l fuel).2])/\(V.Le y.1/\ROutcome y.1 y.2 (sV c l fuel).1)/\Mem y.1 K w'):=by
 rw [<- run_eq]
 exact x8r b rl a (fun h=>q9k (by rwa [gJ] at h)) (fun h=>q1z (by rwa [gJ] at h)) (fun h e g=>runR_ns h e g) N
theorem q8p {V:Fz} {K:List Res} {w:World} {d0:List Value} {v1:Value} {c:Core} {l:List Named} {I:Int} (b:RCore V d0 c) (rl:SliceOf RNamed V 4 v1 l) (A0:∀v,d0[3]? = some v->Cap v) (G:Glob V) (i:Tabs V) (N:Mem V K w) :
  Calls prog 3 #[.agg d0.toArray,v1,.int .i64 I] w (fun ee w'=>ee=.returned (.bool true)/\Mem V K w'):=by
 obtain ⟨p3,c4,p9,r2,G2,s2,H2,c22,rfl,h2,h8,C2,D2,E2,F2,x1,G1,y1,H1,z1,I1⟩:=RCore.fm b
 obtain ⟨N2,w2,rfl,F1,O1⟩:=rl.fm
 have r:=A0
 refine zK func3 ntmps3 fun Q hQ a J=>?_
 refine Bx fun l2 w N a J=>?_
 refine go fun a J=>?_
 refine yE [2,1,1,0,0,1,1,1,0,0,1] (.q 0 (.q 1 (.q 2 (.e2 3 8 (.e2 4 8 (.q 5 (.q 6 (.q 7 (.e 8 (.e 9 (.q 10 (.done))))))) (.e 4 (.q 5 (.q 6 (.q 7 (.e 9 (.q 10 (.done)))))))) (.e 3 (.e 4 (.q 5 (.q 6 (.q 7 (.e 9 (.q 10 (.done)))))))))))) [0] J N fun w N=>?_
 refine go fun a J=>?_
 refine wN ?_ ?_
 refine zO call16 (fun w N a J=>?_) (c:=cP N)
 refine wN ?_ ?_
 refine yP call15 (fun P0 w i0 N a J=>?_) (c:=z4e (fuel:=mH I) b rl G N)
 obtain ⟨f2,x2⟩:=P0
 obtain ⟨t,f⟩:=i0
 simp only at t f N J
 replace b:=b.up t
 replace G:=G.mono t
 replace i:=Tabs.mono i t
 replace rl:=rl.up t
 replace N:=N.nf
 obtain ⟨O2,rfl,u0⟩:=id f
 obtain ⟨I2,c37,rfl,A1,J1⟩:=u0.fm
 refine Alc fun m2 w N a J=>?_
 refine Sto 0 fun w N a J=>?_
 refine go fun a J=>?_
 refine yE [2,1,1,0,0,1,1,1,0,0,1] (.q 0 (.q 1 (.q 2 (.e2 3 8 (.e2 4 8 (.q 5 (.q 6 (.q 7 (.e 8 (.e 9 (.q 10 (.done))))))) (.e 4 (.q 5 (.q 6 (.q 7 (.e 9 (.q 10 (.done)))))))) (.e 3 (.e 4 (.q 5 (.q 6 (.q 7 (.e 9 (.q 10 (.done)))))))))))) [0,1] J N fun w N=>?_
 refine go fun a J=>?_
 refine wN ?_ ?_
 refine zO call16 (fun w N a J=>?_) (c:=cP N)
 refine wN ?_ ?_
 refine yP call17 (fun Q0 w j0 N a J=>?_) (c:=cX (fuel:=mH I) b rl r N)
 obtain ⟨g2,y2⟩:=Q0
 obtain ⟨y,L⟩:=j0
 simp only at y L N J
 replace b:=b.up y
 replace G:=G.mono y
 replace i:=Tabs.mono i y
 replace rl:=rl.up y
 replace f:=f.up y
 replace N:=N.nf
 obtain ⟨P2,rfl,w0⟩:=id L
 obtain ⟨J2,c51,rfl,B1,K1⟩:=w0.fm
 refine Alc fun n2 w N a J=>?_
 refine Sto 0 fun w N a J=>?_
 refine zO call18 (fun w N a J=>?_) (c:=gH G i N)
 refine Qq (fun a J=>?_) (o:=by exact fun J O=>jU true J rfl rfl (decide_eq_true rfl))
 refine zO call19 (fun w N a J=>?_) (c:=nR f L rfl N)
 refine zF ?_
 replace N:=N.le ((t).trans y)
 replace N:=N.dl [2,1,0]
 exact ⟨by rfl,N⟩
 refine Alc fun o2 w N a J=>?_
 refine yP call17 (fun R0 w k0 N a J=>?_) (c:=cX (fuel:=mH I) b rl r N)
 obtain ⟨i2,z2⟩:=R0
 obtain ⟨z,M⟩:=k0
 simp only at z M N J
 replace b:=b.up z
 replace G:=G.mono z
 replace i:=Tabs.mono i z
 replace rl:=rl.up z
 replace f:=f.up z
 replace N:=N.nf
 obtain ⟨Q2,rfl,x0⟩:=id M
 obtain ⟨K2,t2,rfl,C1,L1⟩:=x0.fm
 refine Sto 0 fun w N a J=>?_
 refine zO call18 (fun w N a J=>?_) (c:=gH G i N)
 refine Qq (fun a J=>?_) (o:=by exact fun J O=>jU true J rfl rfl (decide_eq_true rfl))
 refine zO call19 (fun w N a J=>?_) (c:=nR f M rfl N)
 refine zF ?_
 replace N:=N.le ((t).trans z)
 replace N:=N.dl [2,1,0]
 exact ⟨by rfl,N⟩
 refine Alc fun p2 w N a J=>?_
 refine zO call16 (fun w N a J=>?_) (c:=cP N)
 refine yP call17 (fun S0 w l0 N a J=>?_) (c:=cX (fuel:=mH I) b rl r N)
 obtain ⟨j2,A2⟩:=S0
 obtain ⟨A,P⟩:=l0
 simp only at A P N J
 replace b:=b.up A
 replace G:=G.mono A
 replace i:=Tabs.mono i A
 replace rl:=rl.up A
 replace f:=f.up A
 replace N:=N.nf
 obtain ⟨R2,rfl,y0⟩:=id P
 obtain ⟨L2,u2,rfl,D1,M1⟩:=y0.fm
 refine Sto 0 fun w N a J=>?_
 refine zO call18 (fun w N a J=>?_) (c:=gH G i N)
 refine Qq (fun a J=>?_) (o:=by exact fun J O=>jU true J rfl rfl (decide_eq_true rfl))
 refine zO call19 (fun w N a J=>?_) (c:=nR f P rfl N)
 refine zF ?_
 replace N:=N.le ((t).trans A)
 replace N:=N.dl [2,1,0]
 exact ⟨by rfl,N⟩
 refine Alc fun q2 w N a J=>?_
 refine yP call15 (fun T0 w m0 N a J=>?_) (c:=z4e (fuel:=mH I) b rl G N)
 obtain ⟨k2,B2⟩:=T0
 obtain ⟨u,g⟩:=m0
 simp only at u g N J
 replace b:=b.up u
 replace G:=G.mono u
 replace i:=Tabs.mono i u
 replace rl:=rl.up u
 replace N:=N.nf
 obtain ⟨S2,rfl,z0⟩:=id g
 obtain ⟨M2,v2,rfl,E1,N1⟩:=z0.fm
 refine Sto 0 fun w N a J=>?_
 refine go fun a J=>?_
 refine yE [2,1,1,0,0,1,1,1,0,0,1] (.q 0 (.q 1 (.q 2 (.e2 3 8 (.e2 4 8 (.q 5 (.q 6 (.q 7 (.e 8 (.e 9 (.q 10 (.done))))))) (.e 4 (.q 5 (.q 6 (.q 7 (.e 9 (.q 10 (.done)))))))) (.e 3 (.e 4 (.q 5 (.q 6 (.q 7 (.e 9 (.q 10 (.done)))))))))))) [0,1] J N fun w N=>?_
 refine go fun a J=>?_
 refine wN ?_ ?_
 refine zO call16 (fun w N a J=>?_) (c:=cP N)
 refine wN ?_ ?_
 refine yP call17 (fun n0 w R N a J=>?_) (c:=cX (fuel:=mH I) b rl r N)
 obtain ⟨U0,p1⟩:=n0
 obtain ⟨j,B⟩:=R
 simp only at j B N J
 replace b:=b.up j
 replace G:=G.mono j
 replace i:=Tabs.mono i j
 replace rl:=rl.up j
 replace g:=g.up j
 replace N:=N.nf
 obtain ⟨W1,rfl,Z⟩:=id B
 obtain ⟨P1,i1,rfl,B0,I0⟩:=Z.fm
 refine Alc fun b1 w N a J=>?_
 refine Sto 0 fun w N a J=>?_
 refine zO call18 (fun w N a J=>?_) (c:=gH G i N)
 refine Qq (fun a J=>?_) (o:=by exact fun J O=>jU true J rfl rfl (decide_eq_true rfl))
 refine zO call19 (fun w N a J=>?_) (c:=nR g B rfl N)
 refine zF ?_
 replace N:=N.le ((u).trans j)
 replace N:=N.dl [2,1,0]
 exact ⟨by rfl,N⟩
 refine Alc fun c1 w N a J=>?_
 refine yP call17 (fun o0 w S N a J=>?_) (c:=cX (fuel:=mH I) b rl r N)
 obtain ⟨V0,q1⟩:=o0
 obtain ⟨k,C⟩:=S
 simp only at k C N J
 replace b:=b.up k
 replace G:=G.mono k
 replace i:=Tabs.mono i k
 replace rl:=rl.up k
 replace g:=g.up k
 replace N:=N.nf
 obtain ⟨X1,rfl,a0⟩:=id C
 obtain ⟨Q1,j1,rfl,C0,J0⟩:=a0.fm
 refine Sto 0 fun w N a J=>?_
 refine zO call18 (fun w N a J=>?_) (c:=gH G i N)
 refine Qq (fun a J=>?_) (o:=by exact fun J O=>jU true J rfl rfl (decide_eq_true rfl))
 refine zO call19 (fun w N a J=>?_) (c:=nR g C rfl N)
 refine zF ?_
 replace N:=N.le ((u).trans k)
 replace N:=N.dl [2,1,0]
 exact ⟨by rfl,N⟩
 refine Alc fun d1 w N a J=>?_
 refine zO call16 (fun w N a J=>?_) (c:=cP N)
 refine yP call17 (fun p0 w T N a J=>?_) (c:=cX (fuel:=mH I) b rl r N)
 obtain ⟨W0,r1⟩:=p0
 obtain ⟨m,D⟩:=T
 simp only at m D N J
 replace b:=b.up m
 replace G:=G.mono m
 replace i:=Tabs.mono i m
 replace rl:=rl.up m
 replace g:=g.up m
 replace N:=N.nf
 obtain ⟨Y1,rfl,b0⟩:=id D
 obtain ⟨R1,k1,rfl,D0,K0⟩:=b0.fm
 refine Sto 0 fun w N a J=>?_
 refine zO call18 (fun w N a J=>?_) (c:=gH G i N)
 refine Qq (fun a J=>?_) (o:=by exact fun J O=>jU true J rfl rfl (decide_eq_true rfl))
 refine zO call19 (fun w N a J=>?_) (c:=nR g D rfl N)
 refine zF ?_
 replace N:=N.le ((u).trans m)
 replace N:=N.dl [2,1,0]
 exact ⟨by rfl,N⟩
 refine Alc fun e1 w N a J=>?_
 refine zO call16 (fun w N a J=>?_) (c:=cP N)
 refine yP call15 (fun q0 w U N a J=>?_) (c:=z4e (fuel:=mH I) b rl G N)
 obtain ⟨X0,s1⟩:=q0
 obtain ⟨h,d⟩:=U
 simp only at h d N J
 replace b:=b.up h
 replace G:=G.mono h
 replace i:=Tabs.mono i h
 replace rl:=rl.up h
 replace N:=N.nf
 obtain ⟨Z1,rfl,c0⟩:=id d
 obtain ⟨S1,l1,rfl,E0,L0⟩:=c0.fm
 refine Sto 0 fun w N a J=>?_
 refine go fun a J=>?_
 refine yE [2,1,1,0,0,1,1,1,0,0,1] (.q 0 (.q 1 (.q 2 (.e2 3 8 (.e2 4 8 (.q 5 (.q 6 (.q 7 (.e 8 (.e 9 (.q 10 (.done))))))) (.e 4 (.q 5 (.q 6 (.q 7 (.e 9 (.q 10 (.done)))))))) (.e 3 (.e 4 (.q 5 (.q 6 (.q 7 (.e 9 (.q 10 (.done)))))))))))) [0,1] J N fun w N=>?_
 refine go fun a J=>?_
 refine wN ?_ ?_
 refine zO call16 (fun w N a J=>?_) (c:=cP N)
 refine wN ?_ ?_
 refine yP call17 (fun r0 w W N a J=>?_) (c:=cX (fuel:=mH I) b rl r N)
 obtain ⟨Y0,t1⟩:=r0
 obtain ⟨n,E⟩:=W
 simp only at n E N J
 replace b:=b.up n
 replace G:=G.mono n
 replace i:=Tabs.mono i n
 replace rl:=rl.up n
 replace d:=d.up n
 replace N:=N.nf
 obtain ⟨a2,rfl,e0⟩:=id E
 obtain ⟨T1,m1,rfl,F0,M0⟩:=e0.fm
 refine Alc fun f1 w N a J=>?_
 refine Sto 0 fun w N a J=>?_
 refine zO call18 (fun w N a J=>?_) (c:=gH G i N)
 refine Qq (fun a J=>?_) (o:=by exact fun J O=>jU true J rfl rfl (decide_eq_true rfl))
 refine zO call19 (fun w N a J=>?_) (c:=nR d E rfl N)
 refine zF ?_
 replace N:=N.le ((h).trans n)
 replace N:=N.dl [2,1,0]
 exact ⟨by rfl,N⟩
 refine Alc fun g1 w N a J=>?_
 refine yP call17 (fun s0 w X N a J=>?_) (c:=cX (fuel:=mH I) b rl r N)
 obtain ⟨Z0,u1⟩:=s0
 obtain ⟨p,F⟩:=X
 simp only at p F N J
 replace b:=b.up p
 replace G:=G.mono p
 replace i:=Tabs.mono i p
 replace rl:=rl.up p
 replace d:=d.up p
 replace N:=N.nf
 obtain ⟨b2,rfl,g0⟩:=id F
 obtain ⟨U1,n1,rfl,G0,N0⟩:=g0.fm
 refine Sto 0 fun w N a J=>?_
 refine zO call18 (fun w N a J=>?_) (c:=gH G i N)
 refine Qq (fun a J=>?_) (o:=by exact fun J O=>jU true J rfl rfl (decide_eq_true rfl))
 refine zO call19 (fun w N a J=>?_) (c:=nR d F rfl N)
 refine zF ?_
 replace N:=N.le ((h).trans p)
 replace N:=N.dl [2,1,0]
 exact ⟨by rfl,N⟩
 refine Alc fun h1 w N a J=>?_
 refine zO call16 (fun w N a J=>?_) (c:=cP N)
 refine yP call17 (fun t0 w Y N a J=>?_) (c:=cX (fuel:=mH I) b rl r N)
 obtain ⟨a1,w1⟩:=t0
 obtain ⟨s,H⟩:=Y
 simp only at s H N J
 replace b:=b.up s
 replace G:=G.mono s
 replace i:=Tabs.mono i s
 replace d:=d.up s
 replace N:=N.nf
 obtain ⟨c2,rfl,h0⟩:=id H
 obtain ⟨V1,o1,rfl,H0,O0⟩:=h0.fm
 refine Sto 0 fun w N a J=>?_
 refine zO call18 (fun w N a J=>?_) (c:=gH G i N)
 refine Qq (fun a J=>?_) (o:=by exact fun J O=>jU true J rfl rfl (decide_eq_true rfl))
 refine zO call19 (fun w N a J=>?_) (c:=nR d H rfl N)
 refine zF ?_
 replace N:=N.le ((h).trans s)
 replace N:=N.dl [2,1,0]
 exact ⟨by rfl,N⟩
end Go.Sw
namespace Go.Proofs.YtgkhcfjooiekkaaGreatDoor
open Go.ChangeShapes Go.WideShapes Go.ChangeAt Go.RowKit Go.Sw
set_option maxRecDepth 100000
theorem tt {a b:Bool} (c:a=true) (hb:b=true):(a&&b)=true:=by rw [c,hb];rfl
theorem q8f:Rows.coreRunsRow.wf (OpenSpec.ofChange Rows.coreRunsSpec)=true:=by kernel_rfl
theorem q8g:laidOutB Tryz.prog=true:=by kernel_rfl
theorem q8h:mapsRowed Tryz.prog=true:=by kernel_rfl
theorem q8i:Tryz.f3.params.all (Tryz.prog.readableRec ·)=true:=by kernel_rfl
theorem q8j:namedTie Tryz.prog Rows.coreRunsRow.named Rows.coreRunsSpec.vars=true:=by kernel_rfl
theorem q8k:(Rows.coreRunsRow.stops==[])=true:=by kernel_rfl
theorem q8l:(Tryz.prog.stops==[])=true:=by kernel_rfl
theorem q8m:(Rows.coreRunsRow.knobs==[])=true:=by kernel_rfl
theorem q8n:(Tryz.prog.stopKnobs==[])=true:=by kernel_rfl
theorem q8o:(Rows.coreRunsRow.inPlace==Tryz.prog.inPlace 3)=true:=by kernel_rfl
theorem q4f:(Rows.coreRunsRow.unfollowed==Tryz.prog.unfollowed 3)=true:=by kernel_rfl
theorem q4g:(Rows.coreRunsRow.recurses==Tryz.prog.recurses 3)=true:=by kernel_rfl
theorem q4h:(Rows.coreRunsRow.named==Tryz.prog.varsNamed 3)=true:=by kernel_rfl
theorem q4i:(Rows.coreRunsRow.maps==(Tryz.f3.params.toList++Rows.coreRunsSpec.plain.varTypes Tryz.prog).any (Tryz.prog.mapsRec ·))=true:=by kernel_rfl
theorem q4j:(Rows.coreRunsRow.ifaces==(Tryz.f3.params.toList++Rows.coreRunsSpec.plain.varTypes Tryz.prog).any (Tryz.prog.ifacesRec ·))=true:=by kernel_rfl
theorem q4k:(Rows.coreRunsRow.mapsOut==Tryz.prog.mapsAmong Tryz.f3.resultTypes.toList)=true:=by kernel_rfl
theorem q4l:(Rows.coreRunsRow.loops==(Tryz.f3.params.toList++Rows.coreRunsSpec.plain.varTypes Tryz.prog).any (Tryz.prog.loopsFrom ·))=true:=by kernel_rfl
theorem q4m:(Rows.coreRunsRow.wideKeys==(Tryz.f3.params.toList++Rows.coreRunsSpec.plain.varTypes Tryz.prog++Tryz.f3.resultTypes.toList).any (Tryz.prog.wideKeysFrom ·))=true:=by kernel_rfl
theorem q4n:Rows.coreRunsSpec.vars.all (Tryz.prog.varReadable ·)=true:=by kernel_rfl
theorem q4o:Tryz.f3.resultTypes.all (fun t=>Tryz.prog.readableRec t&&decide (t < Tryz.prog.types.size))=true:=by kernel_rfl
theorem q4p:(Rows.coreRunsRow.ifacesOut==Tryz.f3.resultTypes.toList.any (Tryz.prog.ifacesRec ·))=true:=by kernel_rfl
theorem q4q:(Rows.coreRunsRow.loopsOut==Tryz.f3.resultTypes.toList.any (Tryz.prog.loopsFrom ·))=true:=by kernel_rfl
theorem q4r:(Rows.coreRunsRow.plainKeys==Tryz.prog.plainKeys)=true:=by kernel_rfl
theorem q4s:Rows.coreRunsRow.shortTexts.isNone=true:=by kernel_rfl
theorem q4t:Tryz.prog.stopsHeard=true:=by kernel_rfl
theorem q4u:Tryz.prog.mayEnter=true:=by kernel_rfl
theorem q4v:(Rows.coreRunsRow.lifted==Tryz.prog.liftsFinal)=true:=by kernel_rfl
theorem q4w:(Tryz.prog.make==some Rows.coreRunsRow.make)=true:=by kernel_rfl
theorem q4x:(Rows.coreRunsRow.kinds==(if Rows.coreRunsRow.domain.isEmpty then [] else Tryz.f3.params.toList.map fun t=>match Tryz.prog.underlying t with | some (.int k)=>some k | _=>Option.none))=true:=by kernel_rfl
theorem q4y:(Rows.coreRunsRow.pinned==Rows.coreRunsRow.pinnedBy)=true:=by kernel_rfl
theorem q4z:(Rows.coreRunsRow.veiled==(Tryz.f3.params.toList++Rows.coreRunsSpec.plain.varTypes Tryz.prog++Tryz.f3.resultTypes.toList).any (Tryz.prog.veiledRec ·))=true:=by kernel_rfl
theorem q5a:Rows.coreRunsRow.veiledFits Tryz.prog Tryz.f3.params.toList (Tryz.f3.params.toList++Rows.coreRunsSpec.plain.varTypes Tryz.prog++Tryz.f3.resultTypes.toList)=true:=by kernel_rfl
theorem y1v:joinedFacts Tryz.prog 3 Tryz.f3 Rows.coreRunsSpec Rows.coreRunsRow=true:=(tt (tt (tt (tt (tt (tt (tt (tt (tt (tt (tt (tt (tt (tt (tt (tt (tt (tt (tt (tt (tt (tt (tt (tt (tt (tt (tt (tt (tt (tt (tt q8f q8g) q8h) q8i) q8j) q8k) q8l) q8m) q8n) q8o) q4f) q4g) q4h) q4i) q4j) q4k) q4l) q4m) q4n) q4o) q4p) q4q) q4r) q4s) q4t) q4u) q4v) q4w) q4x) q4y) q4z) q5a)
theorem coreRuns_named:Tryz.prog.funcNamed "restitch/restitchlaw08.CoreRuns" = some 3:=by kernel_rfl
theorem y1x:Tryz.checked.prog.inits.idxOf? 3=none:=by kernel_rfl
theorem z8p:Tryz.f3.resultTypes=#[4]:=by kernel_rfl
theorem y9a:([27,28,3].all fun t=>Tryz.prog.readableRec t&&decide (t < Tryz.prog.types.size))=true:=by kernel_rfl
theorem y1y:Rows.coreRunsRow.wfByText (OpenSpec.ofChange Rows.coreRunsSpec)=true:=by kernel_rfl
theorem y8z:false=Rows.coreRunsRow.goesBy Tryz.prog:=by kernel_rfl
theorem y3o:([27,28,3].all fun u=> !Tryz.prog.wantsStandIn u)=true:=by kernel_rfl
abbrev coreRuns_args:Array Value:=#[.agg #[.slice none 0 0,.slice none 0 0,.slice none 0 0,.slice none 0 0],.slice none 0 0,.int .i64 0]
theorem y1w (os:Os) (started:os.Started) (H:Type) (enc:TypeId×Value->H) :
  ReturnsInHanded {} Tryz.checked os 3 .any (fun w args=>(Rows.coreRunsSpec.pre enc Tryz.prog Tryz.f3 [] false w args/\laidMetH Tryz.prog laidAll w)/\sizedMet enc Tryz.prog Tryz.f3 (OpenSpec.ofChange Rows.coreRunsSpec) false w args)
   (Rows.coreRunsSpec.post enc Tryz.prog Tryz.f3 false true false false):=by
 refine y1o (C:=Tryz.checked) (X:=fun w _=>laidMetH Tryz.prog laidAll w) (fun _ _ _ r h=>h.of_heap r) own started y1x Tryz.func3
  (ChangeSpec.witness_shaped (enc:=enc) (C:=Tryz.checked) (os:=os) (X:=fun w _=>laidMetH Tryz.prog laidAll w) false (World.laidAll Tryz.prog os laidAll) coreRuns_args 8 (World.laidAll_os _ _ _)
   (World.shaped_of_ZipB (by as_aux_lemma=>kernel_rfl) (by as_aux_lemma=>kernel_rfl)) (by as_aux_lemma=>kernel_rfl) (by as_aux_lemma=>kernel_rfl) (by as_aux_lemma=>kernel_rfl)
   (by rw [tB];exact j0b os _)) ?_
 intro W base args ds gs before b n f g
 have a:∀(j:Nat) t v,Tryz.f3.params[j]? = some t->args[j]? = some v->Value.okWide Tryz.prog W .any base t v:=b
 have hW':=n
 obtain ⟨p,q,d,A,rfl,_,_⟩:=n
 have m:DataW.TrodAll enc Tryz.prog W 0 (fun _=>true) true Tryz.f3.params.toList args.toList ds p:=d
 rw [Tryz.params3] at m a
 obtain ⟨v0,u,v2,d0,d1,d2,B,D,E,rfl,rfl,rfl,k,h1,z⟩:=trodAll_three m
 rw [tB] at f
 obtain ⟨cs,c,rfl,i⟩:=q8q (a 0 27 v0 rfl rfl) k
 obtain ⟨l,rl⟩:=j4t (a 1 28 u rfl rfl) h1
 obtain ⟨y,rfl⟩:=okWide_int Tryz.underlying3 (a 2 3 v2 rfl rfl)
 refine (q8p i rl (q8r k) (j8g g f) (q6p f) (Mem.whole W)).mono fun e W' ⟨J,N⟩=>?_
 subst J
 exact ⟨_,rfl,j0d hW' rfl (fun gs o=>by subst o;rfl) z8p (by rw [Tryz.params3];exact fun t s=>j8y y9a s) N⟩
theorem y3n:Rows.CoreRunsSaid :=
 OpenClaim.holds_of_wide 3 Tryz.f3 rfl rfl rfl rfl rfl rfl rfl ⟨rfl,rfl,rfl,rfl,rfl⟩ rfl rfl rfl rfl rfl coreRuns_named Tryz.func3 y1v
  (of_decide_eq_true (by as_aux_lemma=>kernel_rfl)) (by unfold Func.isWrapper;first | (rw [if_pos (by decide +kernel)];as_aux_lemma=>kernel_rfl) | (rw [if_neg (by decide +kernel)];exact ⟨rfl,rfl⟩))
  (fun os started H enc _=>y1w os started H enc)
theorem coreRuns_card:Rows.CoreRunsCardSaid :=
 Claim7.holds_tied_plain_at .later [] [.data,.data,.data,.data,.sentinel,.sentinel,.pinned] true (true,"455426ae17f5cebd1e869bbd2c7c15e1646e82f384eadf6ce8080b103650fe81") true y3n (fun _ h=>by cases h) y1y (fun _ h=>by cases h) coreRuns_row_tie rfl ⟨rfl,rfl⟩ j8n rfl
  (fun f fn c a=>by
   obtain rfl:f=3:=Option.some.inj (coreRuns_named.symm.trans c) |>.symm
   obtain rfl:fn=Tryz.f3:=(Option.some.inj (Tryz.func3.symm.trans a)).symm
   exact ⟨j0g,fun j t b=>by
    rw [Tryz.params3] at b
    have N:t∈[27,28,3]:=by simpa using Array.mem_of_getElem? b
    exact (show Tryz.prog.wantsStandIn t=false by simpa using List.all_eq_true.1 y3o t N)⟩)
  y8z
#print axioms coreRuns_card
end Go.Proofs.YtgkhcfjooiekkaaGreatDoor
