import Derived.Test.YtgkhcfjooiekkaaGreatDoorX13
set_option linter.unusedVariables false
set_option linter.unusedSimpArgs false
namespace Go.Sw
open Go.Proofs.Tryz
open Go.Proofs
set_option maxRecDepth 20000
set_option maxHeartbeats 4000000
theorem x3o {V:Fz} {K:List Res} {w:World} {r i:Nat} {rs:Value} {ws:List Bs} {d:Nat} (hd:d<=1000) (hE:tN ws d) (G:Glob V) (rl:SliceOf RStr V 1 rs ws) (v:ws.length<=1000000) (hi:i<=ws.length) (N:Mem V (.blk r (ob [rs,.int .i64 ((i:Nat):Int)] 208)::K) w) :
  Calls prog 206 #[.pointer (some ⟨r,0,none⟩),.int .i64 ((d+1:Nat):Int)] w (fun ee w'=>Out (yV ws (zT ws d) i) (fun x=>∃y:Fz×List Value,ee=.returned (.agg y.2.toArray)/\(V.Le y.1/\REx y.1 y.2 x.1)/\Mem y.1 (.blk r (ob [rs,.int .i64 ((x.2:Nat):Int)] 208)::K) w') (fun c=>ee=.panicked (nO c)/\Mem V K w')):=by
 obtain ⟨pw,cw,rfl,U5,V5⟩:=rl.fm
 refine zM func206 ntmps206 fun Q Z a J=>?_
 refine sq fun L1 D3=>?_
 refine go0 J N fun a J=>?_
 refine Alc J N fun b2 w N a J=>?_
 refine go0 J N fun a J=>?_
 apply D3
 refine sq fun L3 E3=>?_
 refine go0 J N fun a J=>?_
 replace N:=N.pl 1
 refine zS call179 J N (fun w N a J=>?_) (c:=mF (i:=i) rl v (by omega) N)
 refine go0 J N fun a J=>?_
 apply E3
 refine sq fun L4 F3=>?_
 refine sq fun L5 G3=>?_
 refine go0 J N fun a J=>?_
 apply G3
 refine go0 J N fun a J=>?_
 refine sq fun L6 H3=>?_
 have w0:∀a w,(EnvR 125 [(0,.pointer (some ⟨r,0,none⟩)),(1,.int .i64 ((d+1:Nat):Int)),(4,.pointer (some ⟨b2,0,none⟩)),(5,.string (zC ws i)),(12,.string (zC ws i)),(13,.bool (z0a (zC ws i)))] [] a/\Mem V (.blk r (ob [.slice pw ws.length cw,.int .i64 ((i:Nat):Int)] 208)::.blk b2 (ob [.int .i64 ((0:Nat):Int),.int .i64 ((0:Nat):Int),.string ⟨#[]⟩,.slice none 0 0,.slice none 0 0] 66)::K) w/\(True))->L6 a w:=by
  clear N J
  rintro a w ⟨J,N,S5⟩
  apply H3
  generalize b:(z0a (zC ws i))=A3 at J
  cases A3
  refine go0 J N fun a J=>?_
  refine sq fun s5 v1=>?_
  refine go0 J N fun a J=>?_
  by_cases s:(zC ws i)=(⟨#[108,101,116]⟩:Bs)
  refine go0 J N fun a J=>?_
  apply v1
  refine go0 J N fun a J=>?_
  refine sq fun t5 y2=>?_
  refine go0 J N fun a J=>?_
  have X0:=uF s (by decide)
  refine go0 J N fun a J=>?_
  refine Sto 0 J N fun w N a J=>?_
  refine go0 J N fun a J=>?_
  apply y2
  refine sq fun u5 z2=>?_
  refine go0 J N fun a J=>?_
  refine jA Z call129 J N (fun e2 w x0 N a J=>?_) (fun e2 w x0 N=>?_) (c:=aM G (i:=(i+1)) rl v (by omega) N)
  have r3:=jP x0
  refine go0 J N fun a J=>?_
  apply z2
  refine sq fun v5 A2=>?_
  refine go0 J N fun a J=>?_
  refine xQ Z call218 J N (fun g2 i4 w H0 v2 N a J=>?_) (fun g2 w H0 N=>?_) (c:=j3z hd hE G (i:=e2.2) rl v (by omega) N)
  obtain ⟨j3,O5⟩:=i4
  obtain ⟨K0,Y0⟩:=v2
  simp only at K0 Y0 N J
  have I3:=two_le H0
  replace rl:=rl.up K0
  replace G:=G.mono K0
  replace N:=N.nf
  obtain ⟨X5,M5,rfl,V3,e5⟩:=Y0.fm
  refine yE J N fun a J=>?_
  refine Sto 1 J N fun w N a J=>?_
  refine go0 J N fun a J=>?_
  apply A2
  refine go0 J N fun a J=>?_
  have h0:=N
  replace N:=N.dl [1]
  refine jS Z J h0 ?_
  show Out (yV ws (zT ws d) i) _ _
  rw [show yV ws (zT ws d) i=.ok (.mk 6 0 e2.1 g2.1 [],g2.2) from (y2n b s).trans ((zB x0).trans ((zB H0).trans (rfl)))]
  exact ⟨(j3,_),rfl,⟨K0,REx.node Y0⟩,N⟩
  replace N:=N.dl [0]
  show Out (yV ws (zT ws d) i) _ _
  rw [show yV ws (zT ws d) i=.error _ from (y2n b s).trans ((zB x0).trans (zO H0))]
  exact ⟨rfl,N.le (Fz.Le.refl _)⟩
  replace N:=N.dl [0]
  show Out (yV ws (zT ws d) i) _ _
  rw [show yV ws (zT ws d) i=.error _ from (y2n b s).trans (zO x0)]
  exact ⟨rfl,N.le (Fz.Le.refl _)⟩
  refine go0 J N fun a J=>?_
  apply v1
  refine go0 J N fun a J=>?_
  refine sq fun w5 w1=>?_
  refine go0 J N fun a J=>?_
  by_cases t:(zC ws i)=(⟨#[99,97,115,101]⟩:Bs)
  refine go0 J N fun a J=>?_
  apply w1
  refine go0 J N fun a J=>?_
  refine sq fun x5 B2=>?_
  refine go0 J N fun a J=>?_
  have X0:=uF t (by decide)
  refine go0 J N fun a J=>?_
  refine Sto 0 J N fun w N a J=>?_
  refine go0 J N fun a J=>?_
  apply B2
  refine sq fun y5 C2=>?_
  refine go0 J N fun a J=>?_
  refine Qq J N (fun a J=>?_) (o:=by exact fun _ _ _ J O=>vT ((d:Nat):Int) J rfl rfl (by rw [yC (by omega)];omega))
  refine xQ Z call180 J N (fun G0 j4 w n w2 N a J=>?_) (fun G0 w n N=>?_) (c:=hE G rl (i:=(i+1)) (by omega) N)
  obtain ⟨r5,P5⟩:=j4
  obtain ⟨p,l⟩:=w2
  simp only at p l N J
  have J3:=vL d _ _ n
  replace rl:=rl.up p
  replace G:=G.mono p
  replace N:=N.nf
  obtain ⟨Y5,N5,Z5,c53,rfl,Z4,Q5,R5,a5,f5,b5,g5⟩:=REx.fm l
  refine qG J N fun a6 w N a J=>?_
  have D:=N
  clear N
  obtain ⟨k1,q,N,m1⟩:=D.freezeRow (i:=0) rfl
  clear D
  replace rl:=rl.up q
  replace G:=G.mono q
  replace l:=REx.mono _ _ _ _ q l
  replace N:=N.nf
  have e:SliceOf REx k1 5 _ ([G0.1]):=⟨_,m1,(Chunks.one rfl l)⟩
  obtain ⟨g4,c63,E0,c5,h5⟩:=e.form (by decide)
  have E:=N
  clear N
  subst E0
  have N:=E
  clear E
  refine yE J N fun a J=>?_
  refine Alc J N fun y3 w N a J=>?_
  refine Sto 0 J N fun w N a J=>?_
  refine go0 J N fun a J=>?_
  apply C2
  refine sq fun A5 D2=>?_
  refine go0 J N fun a J=>?_
  replace N:=N.nilRow 195 7
  replace N:=N.nf
  refine zV (J.ks [0,1,4,7]) N (fun R mm a w=>∃(g0:Fz) (j:Nat) (u:Value) (cs:List Value) (xs:List Arm) (f:Nat),mm=ws.length - j/\R g0 [] [(0,.gs (u) 195 7 cs),(1,.blk y3 (ob [.int .i64 ((7:Nat):Int),.int .i64 ((0:Nat):Int),.string ⟨#[]⟩,.slice g4 ([G0.1]).length c63,u] 66)),(2,.blk r (ob [.slice pw ws.length cw,.int .i64 ((j:Nat):Int)] 208))] a w/\(k1.Le g0/\(Chunks (RArm g0) 7 cs xs/\xs.length<=j/\j<=ws.length/\xs.length+f=ws.length+1/\gY ws (zT ws d) (ws.length+1) true G0.2=kR xs (gY ws (zT ws d) f (decide (xs.length=0)) j)))) (ws.length - G0.2) ⟨k1,G0.2,.slice none 0 0,[],[],ws.length+1,rfl,⟨J.pk,N⟩,⟨Fz.Le.refl _,⟨rfl,Nat.zero_le _,by omega,Nat.zero_add _,oL _⟩⟩⟩ ?_
  clear N J
  rintro mm a w ⟨g0,j,u,cs,xs,f,L0,⟨J,N⟩,N0⟩ B5 x1
  replace N:=N.nf
  obtain ⟨g,N0⟩:=N0
  replace rl:=rl.up g
  replace G:=G.mono g
  replace l:=REx.mono _ _ _ _ g l
  replace e:=e.up g
  obtain ⟨hch,W5,hj,T5,I⟩:=N0
  refine sq fun C5 y1=>?_
  refine sq fun D5 W0=>?_
  refine go0 J N fun a J=>?_
  refine Qq J N (fun a J=>?_) (o:=by exact fun _ _ _ J O=>y5x 0 (xs.length) J O rfl rfl (hch.length) (by decide) runUnderlying64)
  by_cases u0:xs.length=0
  refine go0 J N fun a J=>?_
  apply W0
  refine go0 J N fun a J=>?_
  apply y1
  refine go0 J N fun a J=>?_
  refine sq fun E5 E2=>?_
  refine go0 J N fun a J=>?_
  replace N:=N.pl 2
  refine jA Z call177 J N (fun Y2 w L N a J=>?_) (fun Y2 w L N=>?_) (c:=pC (x:=(⟨#[40]⟩:Bs)) (i:=j) rl v (by omega) N)
  have s3:=pB L
  refine go0 J N fun a J=>?_
  apply E2
  refine sq fun F5 F2=>?_
  refine go0 J N fun a J=>?_
  refine jA Z call176 J N (fun t0 w Y N a J=>?_) (fun t0 w Y N=>?_) (c:=oZ G (i:=Y2.2) rl v (by omega) N)
  have t3:=jP Y
  refine yE J N fun a J=>?_
  refine Alc J N fun z3 w N a J=>?_
  refine Sto 0 J N fun w N a J=>?_
  refine go0 J N fun a J=>?_
  apply F2
  refine sq fun G5 G2=>?_
  refine go0 J N fun a J=>?_
  replace N:=N.nilRow 9 1
  replace N:=N.nf
  refine zV (J.ks [0,1,4,7,8]) N (fun R mm a w=>∃(j2:Nat) (u2:Value) (vs:List Bs) (f2:Nat),mm=ws.length - j2/\R g0 [] [(0,.gs (u2) 9 1 (strs vs)),(1,.blk z3 (ob [.string t0.1,u2,.int .i64 ((0:Nat):Int),.int .i64 ((0:Nat):Int),.string ⟨#[]⟩,.slice none 0 0,.slice none 0 0] 195)),(2,.blk r (ob [.slice pw ws.length cw,.int .i64 ((j2:Nat):Int)] 208))] a w/\(vs.length<=j2/\j < j2/\j2<=ws.length/\vs.length+f2=ws.length+1/\gC ws (ws.length+1) t0.2=kR vs (gC ws f2 j2))) (ws.length - t0.2) ⟨t0.2,.slice none 0 0,[],ws.length+1,rfl,⟨J.pk,N⟩,⟨Nat.zero_le _,by omega,by omega,Nat.zero_add _,oL _⟩⟩ ?_
  clear N J
  rintro mm a w ⟨j2,u2,vs,f2,L0,⟨J,N⟩,x2⟩ H5 H2
  replace N:=N.nf
  obtain ⟨f4,N3,O3,K2,y0⟩:=x2
  refine sq fun I5 I2=>?_
  refine sq fun J5 z1=>?_
  refine go0 J N fun a J=>?_
  replace N:=N.pl 2
  refine zS call179 J N (fun w N a J=>?_) (c:=mF (i:=j2) rl v (by omega) N)
  by_cases C1:(zC ws j2)=(⟨#[45,62]⟩:Bs)
  refine go0 J N fun a J=>?_
  apply z1
  refine go0 J N fun a J=>?_
  apply G2
  refine sq fun K5 J2=>?_
  refine go0 J N fun a J=>?_
  have D:=N
  clear N
  obtain ⟨k3,M,N,n1⟩:=D.freezeRow (i:=1) rfl
  clear D
  replace rl:=rl.up M
  replace G:=G.mono M
  replace l:=REx.mono _ _ _ _ M l
  replace e:=e.up M
  replace hch:=hch.mono fun _ _ h=>RArm.mono _ _ _ _ M h
  replace N:=N.nf
  have p0:SliceOf RStr k3 1 _ (vs):=SliceOf.strs.2 n1
  obtain ⟨h4,B3,E0,d5,i5⟩:=p0.form (by decide)
  have E:=N
  clear N
  subst E0
  have N:=E
  clear E
  have J0:=q7q y0 (by omega) C1
  refine go0 J N fun a J=>?_
  refine jA Z call177 J N (fun Z2 w f0 N a J=>?_) (fun Z2 w f0 N=>?_) (c:=pC (x:=(⟨#[45,62]⟩:Bs)) (i:=j2) rl v (by omega) N)
  have u3:=pB f0
  refine go0 J N fun a J=>?_
  apply J2
  refine sq fun k4 K1=>?_
  refine go0 J N fun a J=>?_
  refine Qq J N (fun a J=>?_) (o:=by exact fun _ _ _ J O=>vT ((d:Nat):Int) J rfl rfl (by rw [yC (by omega)];omega))
  refine xQ Z call180 J N (fun P e3 w b0 E1 N a J=>?_) (fun P w b0 N=>?_) (c:=hE G rl (i:=Z2.2) (by omega) N)
  obtain ⟨i2,Q4⟩:=e3
  obtain ⟨A,z0⟩:=E1
  simp only at A z0 N J
  have m3:=vL d _ _ b0
  replace rl:=rl.up A
  replace G:=G.mono A
  replace l:=REx.mono _ _ _ _ A l
  replace e:=e.up A
  replace hch:=hch.mono fun _ _ h=>RArm.mono _ _ _ _ A h
  replace p0:=p0.up A
  replace N:=N.nf
  obtain ⟨T2,q2,U2,r2,rfl,K3,V4,W4,P3,W3,Q3,X3⟩:=REx.fm z0
  refine go0 J N fun a J=>?_
  refine Sto 1 J N fun w N a J=>?_
  refine go0 J N fun a J=>?_
  apply K1
  refine sq fun l4 M1=>?_
  refine go0 J N fun a J=>?_
  refine jA Z call177 J N (fun b1 w i0 N a J=>?_) (fun b1 w i0 N=>?_) (c:=pC (x:=(⟨#[41]⟩:Bs)) (i:=P.2) rl v (by omega) N)
  have L2:=pB i0
  refine go0 J N fun a J=>?_
  apply M1
  refine go0 J N fun a J=>?_
  refine qG J N fun n5 w N a J=>?_
  refine qN 3 rt_64 J N (fun v127 w N a J=>?_)
  refine go0 J N fun a J=>?_
  refine Sto 4 J N fun w N a J=>?_
  refine go0 J N fun a J=>?_
  replace N:=N.ar [2,0] [3,1,3,3]
  refine x1 _ _ _ (by subst L0;omega) ⟨(i2),(b1.2),(v127),((cs++[.string t0.1,.slice h4 (vs).length B3,.int .i64 (P.1.kind),.int .i64 (P.1.num),.string P.1.name,.slice T2 P.1.args.length q2,.slice U2 P.1.arms.length r2])),(xs++[.mk t0.1 vs P.1]),(f - 1),rfl,⟨J.pk,by exact N⟩,?_⟩
  refine ⟨((g).trans M).trans A,?_⟩
  exact ⟨hch.snoc (k:=7) rfl (RArm.of p0 z0 (c:=t0.1)),by simp only [laQ,lcQ,lnQ];omega,by omega,by simp only [laQ,lcQ,lnQ];omega,y7p (x:=(.mk t0.1 vs P.1,b1.2)) I (by omega) (.inl u0) ((zB L).trans ((zB Y).trans ((zB J0).trans ((zB f0).trans ((zB b0).trans ((zB i0).trans (rfl)))))))⟩
  replace N:=N.dl [3,2,1,0]
  show Out (yV ws (zT ws d) i) _ _
  rw [show yV ws (zT ws d) i=.error _ from (xR b s t).trans ((zB n).trans (zO (vX I (by omega) (.inl u0) ((zB L).trans ((zB Y).trans ((zB J0).trans ((zB f0).trans ((zB b0).trans (zO i0)))))))))]
  exact ⟨rfl,N.le (((((p).trans q).trans g).trans M).trans A)⟩
  replace N:=N.dl [3,2,1,0]
  show Out (yV ws (zT ws d) i) _ _
  rw [show yV ws (zT ws d) i=.error _ from (xR b s t).trans ((zB n).trans (zO (vX I (by omega) (.inl u0) ((zB L).trans ((zB Y).trans ((zB J0).trans ((zB f0).trans (zO b0))))))))]
  exact ⟨rfl,N.le ((((p).trans q).trans g).trans M)⟩
  replace N:=N.dl [3,2,1,0]
  show Out (yV ws (zT ws d) i) _ _
  rw [show yV ws (zT ws d) i=.error _ from (xR b s t).trans ((zB n).trans (zO (vX I (by omega) (.inl u0) ((zB L).trans ((zB Y).trans ((zB J0).trans (zO f0)))))))]
  exact ⟨rfl,N.le ((((p).trans q).trans g).trans M)⟩
  refine go0 J N fun a J=>?_
  apply z1
  refine go0 J N fun a J=>?_
  apply I2
  refine go0 J N fun a J=>?_
  refine Reg [1,2,1,0,0,0,1,0] [2,3,4,5] J N fun w N a J=>?_
  refine go0 J N fun a J=>?_
  refine jA Z call129 J N (fun c1 w j0 N a J=>?_) (fun c1 w j0 N=>?_) (c:=aM G (i:=j2) rl v (by omega) N)
  have M2:=jP j0
  refine qG J N fun o5 w N a J=>?_
  refine qN 2 wM J N (fun a3 w N a J=>?_) (hb:=by simp [yF];omega)
  refine go0 J N fun a J=>?_
  refine Sto 3 J N fun w N a J=>?_
  refine go0 J N fun a J=>?_
  first | rw [jJ] at N | rw [<- yQ] at N
  replace N:=N.ar [0] [5,5,5,3,5,5]
  refine H2 _ _ _ (by subst L0;omega) ⟨(c1.2),(a3),(vs++[c1.1]),(f2 - 1),rfl,⟨J.pk,by exact N⟩,?_⟩
  exact ⟨by simp only [laQ,lcQ,lnQ];omega,by omega,by omega,by simp only [laQ,lcQ,lnQ];omega,q0o y0 (by omega) C1 j0⟩
  replace N:=N.dl [4,3,2,1,0]
  show Out (yV ws (zT ws d) i) _ _
  rw [show yV ws (zT ws d) i=.error _ from (xR b s t).trans ((zB n).trans (zO (vX I (by omega) (.inl u0) ((zB L).trans ((zB Y).trans (zO (q0n y0 (by omega) C1 j0)))))))]
  exact ⟨rfl,N.le (((p).trans q).trans g)⟩
  replace N:=N.dl [2,1,0]
  show Out (yV ws (zT ws d) i) _ _
  rw [show yV ws (zT ws d) i=.error _ from (xR b s t).trans ((zB n).trans (zO (vX I (by omega) (.inl u0) ((zB L).trans (zO Y)))))]
  exact ⟨rfl,N.le (((p).trans q).trans g)⟩
  replace N:=N.dl [2,1,0]
  show Out (yV ws (zT ws d) i) _ _
  rw [show yV ws (zT ws d) i=.error _ from (xR b s t).trans ((zB n).trans (zO (vX I (by omega) (.inl u0) (zO L))))]
  exact ⟨rfl,N.le (((p).trans q).trans g)⟩
  refine go0 J N fun a J=>?_
  replace N:=N.pl 2
  refine zS call179 J N (fun w N a J=>?_) (c:=mF (i:=j) rl v (by omega) N)
  by_cases X:(zC ws j)=(⟨#[40]⟩:Bs)
  refine go0 J N fun a J=>?_
  apply W0
  refine go0 J N fun a J=>?_
  apply y1
  refine go0 J N fun a J=>?_
  refine sq fun m4 N1=>?_
  refine go0 J N fun a J=>?_
  refine jA Z call177 J N (fun A1 w z N a J=>?_) (fun A1 w z N=>?_) (c:=pC (x:=(⟨#[40]⟩:Bs)) (i:=j) rl v (by omega) N)
  have N2:=pB z
  refine go0 J N fun a J=>?_
  apply N1
  refine sq fun n4 O1=>?_
  refine go0 J N fun a J=>?_
  refine jA Z call176 J N (fun S w F N a J=>?_) (fun S w F N=>?_) (c:=oZ G (i:=A1.2) rl v (by omega) N)
  have O2:=jP F
  refine yE J N fun a J=>?_
  refine Alc J N fun p2 w N a J=>?_
  refine Sto 0 J N fun w N a J=>?_
  refine go0 J N fun a J=>?_
  apply O1
  refine sq fun o4 P1=>?_
  refine go0 J N fun a J=>?_
  replace N:=N.nilRow 9 1
  replace N:=N.nf
  refine zV (J.ks [0,1,4,7,8]) N (fun R mm a w=>∃(j2:Nat) (u2:Value) (vs:List Bs) (f2:Nat),mm=ws.length - j2/\R g0 [] [(0,.gs (u2) 9 1 (strs vs)),(1,.blk p2 (ob [.string S.1,u2,.int .i64 ((0:Nat):Int),.int .i64 ((0:Nat):Int),.string ⟨#[]⟩,.slice none 0 0,.slice none 0 0] 195)),(2,.blk r (ob [.slice pw ws.length cw,.int .i64 ((j2:Nat):Int)] 208))] a w/\(vs.length<=j2/\j < j2/\j2<=ws.length/\vs.length+f2=ws.length+1/\gC ws (ws.length+1) S.2=kR vs (gC ws f2 j2))) (ws.length - S.2) ⟨S.2,.slice none 0 0,[],ws.length+1,rfl,⟨J.pk,N⟩,⟨Nat.zero_le _,by omega,by omega,Nat.zero_add _,oL _⟩⟩ ?_
  clear N J
  rintro mm a w ⟨j2,u2,vs,f2,L0,⟨J,N⟩,J1⟩ p4 Q1
  replace N:=N.nf
  obtain ⟨f4,N3,O3,K2,y0⟩:=J1
  refine sq fun q4 R1=>?_
  refine sq fun r4 O0=>?_
  refine go0 J N fun a J=>?_
  replace N:=N.pl 2
  refine zS call179 J N (fun w N a J=>?_) (c:=mF (i:=j2) rl v (by omega) N)
  by_cases M0:(zC ws j2)=(⟨#[45,62]⟩:Bs)
  refine go0 J N fun a J=>?_
  apply O0
  refine go0 J N fun a J=>?_
  apply P1
  refine sq fun s4 S1=>?_
  refine go0 J N fun a J=>?_
  have D:=N
  clear N
  obtain ⟨k2,B,N,Z0⟩:=D.freezeRow (i:=1) rfl
  clear D
  replace rl:=rl.up B
  replace G:=G.mono B
  replace l:=REx.mono _ _ _ _ B l
  replace e:=e.up B
  replace hch:=hch.mono fun _ _ h=>RArm.mono _ _ _ _ B h
  replace N:=N.nf
  have a0:SliceOf RStr k2 1 _ (vs):=SliceOf.strs.2 Z0
  obtain ⟨V2,s2,E0,R3,Y3⟩:=a0.form (by decide)
  have E:=N
  clear N
  subst E0
  have N:=E
  clear E
  have q0:=q7q y0 (by omega) M0
  refine go0 J N fun a J=>?_
  refine jA Z call177 J N (fun B1 w U N a J=>?_) (fun B1 w U N=>?_) (c:=pC (x:=(⟨#[45,62]⟩:Bs)) (i:=j2) rl v (by omega) N)
  have P2:=pB U
  refine go0 J N fun a J=>?_
  apply S1
  refine sq fun t4 T1=>?_
  refine go0 J N fun a J=>?_
  refine Qq J N (fun a J=>?_) (o:=by exact fun _ _ _ J O=>vT ((d:Nat):Int) J rfl rfl (by rw [yC (by omega)];omega))
  refine xQ Z call180 J N (fun T f3 w c0 F1 N a J=>?_) (fun T w c0 N=>?_) (c:=hE G rl (i:=B1.2) (by omega) N)
  obtain ⟨l2,R4⟩:=f3
  obtain ⟨C,A0⟩:=F1
  simp only at C A0 N J
  have n3:=vL d _ _ c0
  replace rl:=rl.up C
  replace G:=G.mono C
  replace l:=REx.mono _ _ _ _ C l
  replace e:=e.up C
  replace hch:=hch.mono fun _ _ h=>RArm.mono _ _ _ _ C h
  replace a0:=a0.up C
  replace N:=N.nf
  obtain ⟨W2,c171,X2,t2,rfl,M3,X4,Y4,S3,Z3,T3,a4⟩:=REx.fm A0
  refine go0 J N fun a J=>?_
  refine Sto 1 J N fun w N a J=>?_
  refine go0 J N fun a J=>?_
  apply T1
  refine sq fun u4 U1=>?_
  refine go0 J N fun a J=>?_
  refine jA Z call177 J N (fun d1 w k0 N a J=>?_) (fun d1 w k0 N=>?_) (c:=pC (x:=(⟨#[41]⟩:Bs)) (i:=T.2) rl v (by omega) N)
  have Q2:=pB k0
  refine go0 J N fun a J=>?_
  apply U1
  refine go0 J N fun a J=>?_
  refine qG J N fun p5 w N a J=>?_
  refine qN 3 rt_64 J N (fun b3 w N a J=>?_)
  refine go0 J N fun a J=>?_
  refine Sto 4 J N fun w N a J=>?_
  refine go0 J N fun a J=>?_
  replace N:=N.ar [2,0] [3,1,3,3]
  refine x1 _ _ _ (by subst L0;omega) ⟨(l2),(d1.2),(b3),((cs++[.string S.1,.slice V2 (vs).length s2,.int .i64 (T.1.kind),.int .i64 (T.1.num),.string T.1.name,.slice W2 T.1.args.length c171,.slice X2 T.1.arms.length t2])),(xs++[.mk S.1 vs T.1]),(f - 1),rfl,⟨J.pk,by exact N⟩,?_⟩
  refine ⟨((g).trans B).trans C,?_⟩
  exact ⟨hch.snoc (k:=7) rfl (RArm.of a0 A0 (c:=S.1)),by simp only [laQ,lcQ,lnQ];omega,by omega,by simp only [laQ,lcQ,lnQ];omega,y7p (x:=(.mk S.1 vs T.1,d1.2)) I (by omega) (.inr X) ((zB z).trans ((zB F).trans ((zB q0).trans ((zB U).trans ((zB c0).trans ((zB k0).trans (rfl)))))))⟩
  replace N:=N.dl [3,2,1,0]
  show Out (yV ws (zT ws d) i) _ _
  rw [show yV ws (zT ws d) i=.error _ from (xR b s t).trans ((zB n).trans (zO (vX I (by omega) (.inr X) ((zB z).trans ((zB F).trans ((zB q0).trans ((zB U).trans ((zB c0).trans (zO k0)))))))))]
  exact ⟨rfl,N.le (((((p).trans q).trans g).trans B).trans C)⟩
  replace N:=N.dl [3,2,1,0]
  show Out (yV ws (zT ws d) i) _ _
  rw [show yV ws (zT ws d) i=.error _ from (xR b s t).trans ((zB n).trans (zO (vX I (by omega) (.inr X) ((zB z).trans ((zB F).trans ((zB q0).trans ((zB U).trans (zO c0))))))))]
  exact ⟨rfl,N.le ((((p).trans q).trans g).trans B)⟩
  replace N:=N.dl [3,2,1,0]
  show Out (yV ws (zT ws d) i) _ _
  rw [show yV ws (zT ws d) i=.error _ from (xR b s t).trans ((zB n).trans (zO (vX I (by omega) (.inr X) ((zB z).trans ((zB F).trans ((zB q0).trans (zO U)))))))]
  exact ⟨rfl,N.le ((((p).trans q).trans g).trans B)⟩
  refine go0 J N fun a J=>?_
  apply O0
  refine go0 J N fun a J=>?_
  apply R1
  refine go0 J N fun a J=>?_
  refine Reg [1,2,1,0,0,0,1,0] [2,3,4,5] J N fun w N a J=>?_
  refine go0 J N fun a J=>?_
  refine jA Z call129 J N (fun e1 w l0 N a J=>?_) (fun e1 w l0 N=>?_) (c:=aM G (i:=j2) rl v (by omega) N)
  have R2:=jP l0
  refine qG J N fun q5 w N a J=>?_
  refine qN 2 wM J N (fun d3 w N a J=>?_) (hb:=by simp [yF];omega)
  refine go0 J N fun a J=>?_
  refine Sto 3 J N fun w N a J=>?_
  refine go0 J N fun a J=>?_
  first | rw [jJ] at N | rw [<- yQ] at N
  replace N:=N.ar [0] [5,5,5,3,5,5]
  refine Q1 _ _ _ (by subst L0;omega) ⟨(e1.2),(d3),(vs++[e1.1]),(f2 - 1),rfl,⟨J.pk,by exact N⟩,?_⟩
  exact ⟨by simp only [laQ,lcQ,lnQ];omega,by omega,by omega,by simp only [laQ,lcQ,lnQ];omega,q0o y0 (by omega) M0 l0⟩
  replace N:=N.dl [4,3,2,1,0]
  show Out (yV ws (zT ws d) i) _ _
  rw [show yV ws (zT ws d) i=.error _ from (xR b s t).trans ((zB n).trans (zO (vX I (by omega) (.inr X) ((zB z).trans ((zB F).trans (zO (q0n y0 (by omega) M0 l0)))))))]
  exact ⟨rfl,N.le (((p).trans q).trans g)⟩
  replace N:=N.dl [2,1,0]
  show Out (yV ws (zT ws d) i) _ _
  rw [show yV ws (zT ws d) i=.error _ from (xR b s t).trans ((zB n).trans (zO (vX I (by omega) (.inr X) ((zB z).trans (zO F)))))]
  exact ⟨rfl,N.le (((p).trans q).trans g)⟩
  replace N:=N.dl [2,1,0]
  show Out (yV ws (zT ws d) i) _ _
  rw [show yV ws (zT ws d) i=.error _ from (xR b s t).trans ((zB n).trans (zO (vX I (by omega) (.inr X) (zO z))))]
  exact ⟨rfl,N.le (((p).trans q).trans g)⟩
  refine go0 J N fun a J=>?_
  apply W0
  refine go0 J N fun a J=>?_
  apply D2
  refine sq fun v4 V1=>?_
  refine go0 J N fun a J=>?_
  have D:=N
  clear N
  obtain ⟨j1,W,N,a1⟩:=D.freezeRow (i:=1) rfl
  clear D
  replace rl:=rl.up W
  replace G:=G.mono W
  replace l:=REx.mono _ _ _ _ W l
  replace e:=e.up W
  replace hch:=hch.mono fun _ _ h=>RArm.mono _ _ _ _ W h
  replace N:=N.nf
  have I0:SliceOf RArm j1 7 _ (xs):=⟨_,a1,hch⟩
  obtain ⟨j5,M4,E0,U3,b4⟩:=I0.form (by decide)
  have E:=N
  clear N
  subst E0
  have N:=E
  clear E
  have C3:=j9g I (by omega) u0 X
  refine go0 J N fun a J=>?_
  refine Sto 2 J N fun w N a J=>?_
  refine go0 J N fun a J=>?_
  apply V1
  refine go0 J N fun a J=>?_
  have h0:=N
  replace N:=N.dl [2,1]
  refine jS Z J h0 ?_
  show Out (yV ws (zT ws d) i) _ _
  rw [show yV ws (zT ws d) i=.ok (.mk 7 0 ⟨#[]⟩ [G0.1] xs,j) from (xR b s t).trans ((zB n).trans ((zB C3).trans rfl))]
  exact ⟨(j1,_),rfl,⟨(((p).trans q).trans g).trans W,REx.full e I0⟩,N⟩
  replace N:=N.dl [0]
  show Out (yV ws (zT ws d) i) _ _
  rw [show yV ws (zT ws d) i=.error _ from (xR b s t).trans (zO n)]
  exact ⟨rfl,N.le (Fz.Le.refl _)⟩
  refine go0 J N fun a J=>?_
  apply w1
  refine go0 J N fun a J=>?_
  apply F3
  refine sq fun w4 W1=>?_
  refine sq fun x4 P0=>?_
  refine go0 J N fun a J=>?_
  refine zW call178 J N (fun H w N a J=>?_) (fun H w N a J=>?_) (c:=mA G N)
  refine go0 J N fun a J=>?_
  apply P0
  refine go0 J N fun a J=>?_
  refine sq fun y4 X1=>?_
  refine go0 J N fun a J=>?_
  have X0:=x2i H
  refine go0 J N fun a J=>?_
  refine Sto 0 J N fun w N a J=>?_
  refine go0 J N fun a J=>?_
  apply X1
  refine sq fun z4 Y1=>?_
  refine go0 J N fun a J=>?_
  refine xQ Z call219 J N (fun f1 g3 w m0 G1 N a J=>?_) (fun f1 w m0 N=>?_) (c:=q6w (m:=1) hd hE G (i:=(i+1)) rl v (by omega) N)
  obtain ⟨m2,S4⟩:=g3
  obtain ⟨r0,B0⟩:=G1
  simp only at r0 B0 N J
  have o3:=j3n (by omega) m0
  replace rl:=rl.up r0
  replace G:=G.mono r0
  replace N:=N.nf
  obtain ⟨k5,N4,rfl,v3,c4⟩:=B0.fm
  refine yE J N fun a J=>?_
  refine Sto 1 J N fun w N a J=>?_
  refine go0 J N fun a J=>?_
  apply Y1
  refine go0 J N fun a J=>?_
  have h0:=N
  replace N:=N.dl [1]
  refine jS Z J h0 ?_
  show Out (yV ws (zT ws d) i) _ _
  rw [show yV ws (zT ws d) i=.ok (.mk 4 0 (zC ws i) f1.1 [],f1.2) from (q4u b s t H).trans ((zB m0).trans (rfl))]
  exact ⟨(m2,_),rfl,⟨r0,REx.node B0⟩,N⟩
  replace N:=N.dl [0]
  show Out (yV ws (zT ws d) i) _ _
  rw [show yV ws (zT ws d) i=.error _ from (q4u b s t H).trans (zO m0)]
  exact ⟨rfl,N.le (Fz.Le.refl _)⟩
  refine go0 J N fun a J=>?_
  apply P0
  refine go0 J N fun a J=>?_
  apply W1
  refine sq fun A4 Z1=>?_
  refine go0 J N fun a J=>?_
  refine jA Z call129 J N (fun g1 w d0 N a J=>?_) (fun g1 w d0 N=>?_) (c:=aM G (i:=i) rl v (by omega) N)
  have S2:=jP d0
  refine go0 J N fun a J=>?_
  apply Z1
  refine sq fun B4 a2=>?_
  refine go0 J N fun a J=>?_
  refine xQ Z call219 J N (fun h1 h3 w n0 H1 N a J=>?_) (fun h1 w n0 N=>?_) (c:=q6w (m:=0) hd hE G (i:=g1.2) rl v (by omega) N)
  obtain ⟨n2,T4⟩:=h3
  obtain ⟨s0,C0⟩:=H1
  simp only at s0 C0 N J
  have p3:=j3n (by omega) n0
  replace rl:=rl.up s0
  replace G:=G.mono s0
  replace N:=N.nf
  obtain ⟨l5,O4,rfl,w3,d4⟩:=C0.fm
  refine yE J N fun a J=>?_
  refine Sto 1 J N fun w N a J=>?_
  refine go0 J N fun a J=>?_
  apply a2
  refine go0 J N fun a J=>?_
  have h0:=N
  replace N:=N.dl [1]
  refine jS Z J h0 ?_
  show Out (yV ws (zT ws d) i) _ _
  rw [show yV ws (zT ws d) i=.ok (.mk 5 0 g1.1 h1.1 [],h1.2) from (z7g b s t H).trans ((zB d0).trans ((zB n0).trans (rfl)))]
  exact ⟨(n2,_),rfl,⟨s0,REx.node C0⟩,N⟩
  replace N:=N.dl [0]
  show Out (yV ws (zT ws d) i) _ _
  rw [show yV ws (zT ws d) i=.error _ from (z7g b s t H).trans ((zB d0).trans (zO n0))]
  exact ⟨rfl,N.le (Fz.Le.refl _)⟩
  replace N:=N.dl [0]
  show Out (yV ws (zT ws d) i) _ _
  rw [show yV ws (zT ws d) i=.error _ from (z7g b s t H).trans (zO d0)]
  exact ⟨rfl,N.le (Fz.Le.refl _)⟩
  refine go0 J N fun a J=>?_
  refine sq fun C4 c2=>?_
  refine go0 J N fun a J=>?_
  have X0:=isOp_lt b
  refine go0 J N fun a J=>?_
  refine Sto 0 J N fun w N a J=>?_
  refine go0 J N fun a J=>?_
  apply c2
  refine sq fun D4 d2=>?_
  refine go0 J N fun a J=>?_
  refine xQ Z call218 J N (fun i1 i3 w o0 I1 N a J=>?_) (fun i1 w o0 N=>?_) (c:=j3z hd hE G (i:=(i+1)) rl v (by omega) N)
  obtain ⟨o2,U4⟩:=i3
  obtain ⟨F0,D0⟩:=I1
  simp only at F0 D0 N J
  have q3:=two_le o0
  replace G:=G.mono F0
  replace N:=N.nf
  obtain ⟨m5,P4,rfl,x3,e4⟩:=D0.fm
  refine yE J N fun a J=>?_
  refine Sto 1 J N fun w N a J=>?_
  refine go0 J N fun a J=>?_
  apply d2
  refine go0 J N fun a J=>?_
  have h0:=N
  replace N:=N.dl [1]
  refine jS Z J h0 ?_
  show Out (yV ws (zT ws d) i) _ _
  rw [show yV ws (zT ws d) i=.ok (.mk 8 0 (zC ws i) i1.1 [],i1.2) from (j3h b).trans ((zB o0).trans (rfl))]
  exact ⟨(o2,_),rfl,⟨F0,REx.node D0⟩,N⟩
  replace N:=N.dl [0]
  show Out (yV ws (zT ws d) i) _ _
  rw [show yV ws (zT ws d) i=.error _ from (j3h b).trans (zO o0)]
  exact ⟨rfl,N.le (Fz.Le.refl _)⟩
 refine sq fun E4 Q0=>?_
 refine go0 J N fun a J=>?_
 by_cases o1:(zC ws i)=(⟨#[43]⟩:Bs)
 refine go0 J N fun a J=>?_
 apply Q0
 refine go0 J N fun a J=>?_
 exact w0 _ _ (by rw [oG (.inl o1)];exact ⟨J.pk,N,trivial⟩)
 refine go0 J N fun a J=>?_
 apply Q0
 refine go0 J N fun a J=>?_
 refine sq fun F4 R0=>?_
 refine go0 J N fun a J=>?_
 by_cases p1:(zC ws i)=(⟨#[45]⟩:Bs)
 refine go0 J N fun a J=>?_
 apply R0
 refine go0 J N fun a J=>?_
 exact w0 _ _ (by rw [oG (.inr (.inl p1))];exact ⟨J.pk,N,trivial⟩)
 refine go0 J N fun a J=>?_
 apply R0
 refine go0 J N fun a J=>?_
 refine sq fun G4 S0=>?_
 refine go0 J N fun a J=>?_
 by_cases q1:(zC ws i)=(⟨#[42]⟩:Bs)
 refine go0 J N fun a J=>?_
 apply S0
 refine go0 J N fun a J=>?_
 exact w0 _ _ (by rw [oG (.inr (.inr (.inl q1)))];exact ⟨J.pk,N,trivial⟩)
 refine go0 J N fun a J=>?_
 apply S0
 refine go0 J N fun a J=>?_
 refine sq fun H4 T0=>?_
 refine go0 J N fun a J=>?_
 by_cases r1:(zC ws i)=(⟨#[47]⟩:Bs)
 refine go0 J N fun a J=>?_
 apply T0
 refine go0 J N fun a J=>?_
 exact w0 _ _ (by rw [oG (.inr (.inr (.inr (.inl r1))))];exact ⟨J.pk,N,trivial⟩)
 refine go0 J N fun a J=>?_
 apply T0
 refine go0 J N fun a J=>?_
 refine sq fun I4 U0=>?_
 refine go0 J N fun a J=>?_
 by_cases s1:(zC ws i)=(⟨#[37]⟩:Bs)
 refine go0 J N fun a J=>?_
 apply U0
 refine go0 J N fun a J=>?_
 exact w0 _ _ (by rw [oG (.inr (.inr (.inr (.inr (.inl s1)))))];exact ⟨J.pk,N,trivial⟩)
 refine go0 J N fun a J=>?_
 apply U0
 refine go0 J N fun a J=>?_
 refine sq fun J4 V0=>?_
 refine go0 J N fun a J=>?_
 by_cases t1:(zC ws i)=(⟨#[60]⟩:Bs)
 refine go0 J N fun a J=>?_
 apply V0
 refine go0 J N fun a J=>?_
 exact w0 _ _ (by rw [oG (.inr (.inr (.inr (.inr (.inr (.inl t1))))))];exact ⟨J.pk,N,trivial⟩)
 refine go0 J N fun a J=>?_
 apply V0
 refine go0 J N fun a J=>?_
 by_cases u1:(zC ws i)=(⟨#[61]⟩:Bs)
 refine go0 J N fun a J=>?_
 exact w0 _ _ (by rw [oG (.inr (.inr (.inr (.inr (.inr (.inr u1))))))];exact ⟨J.pk,N,trivial⟩)
 refine go0 J N fun a J=>?_
 exact w0 _ _ (by rw [isOp_no o1 p1 q1 r1 s1 t1 u1];exact ⟨J.pk,N,trivial⟩)
theorem j1h {ws:List Bs} (b:ws.length<=1000000):tN ws 0:=by
 intro V K w r i rs G rl k N
 obtain ⟨pw,cw,rfl,f,g⟩:=rl.fm
 refine zM func180 ntmps180 fun Q e a J=>?_
 refine Alc J N fun h w N a J=>?_
 replace N:=N.pl 1
 refine zS call179 J N (fun w N a J=>?_) (c:=mF (i:=i) rl b (by omega) N)
 refine go J N fun a J=>?_
 by_cases j:(zC ws i)=(⟨#[]⟩:Bs)
 refine go J N fun a J=>?_
 refine st J rfl rfl rfl (gU J rfl call130 (tI (i:=i) rl b (by omega) N) (fun w N=>fun a d=>e _ _ _ (yT d ?_)))
 replace N:=N.dl [0]
 show Out (zT ws 0 i) _ _
 rw [y8s];exact ⟨rfl,N⟩
 refine Qq J N (fun a J=>?_) (o:=by exact fun _ _ _ J O=>xK true J rfl rfl rfl)
 refine go J N fun a J=>?_
 refine st J rfl rfl rfl (gU J rfl call130 (tI (i:=i) rl b (by omega) N) (fun w N=>fun a d=>e _ _ _ (yT d ?_)))
 replace N:=N.dl [0]
 show Out (zT ws 0 i) _ _
 rw [y8s];exact ⟨rfl,N⟩
theorem j1g {ws:List Bs} {d:Nat} (W:d<=1000) (n:ws.length<=1000000) (Y:∀j,(zC ws j).size<=1000000) (hE:tN ws d):tN ws (d+1):=by
 intro V K w r i rs G rl hi N
 obtain ⟨pw,cw,rfl,n0,o0⟩:=rl.fm
 have a0:¬d+1=0:=by omega
 refine zM func180 ntmps180 fun Q y a J=>?_
 refine Alc J N fun b2 w N a J=>?_
 replace N:=N.pl 1
 refine zS call179 J N (fun w N a J=>?_) (c:=mF (i:=i) rl n (by omega) N)
 refine go J N fun a J=>?_
 by_cases m:(zC ws i)=(⟨#[]⟩:Bs)
 refine go J N fun a J=>?_
 refine st J rfl rfl rfl (gU J rfl call130 (tI (i:=i) rl n (by omega) N) (fun w N=>fun a W=>y _ _ _ (yT W ?_)))
 replace N:=N.dl [0]
 show Out (zT ws (d+1) i) _ _
 rw [show zT ws (d+1) i=.error _ from expr_no m]
 exact ⟨rfl,N⟩
 refine qH call205 J N (fun y9 w A N a J=>?_) (c:=q9r (Y _) G N)
 replace N:=N.nf
 rcases b:tU (zC ws i) with _ | p0
 rw [b] at J
 refine go J N fun a J=>?_
 by_cases g:(zC ws i)=(⟨#[40]⟩:Bs)
 refine go J N fun a J=>?_
 have B:=pQ m
 refine Sto 0 J N fun w N a J=>?_
 refine xQ y call206 J N (fun D Z w k I N a J=>?_) (fun D w k N=>?_) (c:=x3o W hE G (i:=(i+1)) rl n (by omega) N)
 obtain ⟨P,j0⟩:=Z
 obtain ⟨l,z⟩:=I
 simp only at l z N J
 have X:=form_le k
 replace rl:=rl.up l
 replace G:=G.mono l
 replace N:=N.nf
 obtain ⟨q0,i0,r0,c37,rfl,b0,k0,l0,c0,e0,d0,f0⟩:=REx.fm z
 refine Alc J N fun h0 w N a J=>?_
 refine Sto 0 J N fun w N a J=>?_
 replace N:=N.pl 1
 refine jA y call177 J N (fun M w s N a J=>?_) (fun M w s N=>?_) (c:=pC (x:=(⟨#[41]⟩:Bs)) (i:=D.2) rl n (by omega) N)
 have R:=pB s
 refine Sto 2 J N fun w N a J=>?_
 refine go J N fun a J=>?_
 have f:=N
 replace N:=N.dl [2,1]
 refine jS y J f ?_
 show Out (zT ws (d+1) i) _ _
 rw [show zT ws (d+1) i=.ok (D.1,M.2) from j6a m b g k s]
 exact ⟨(P,_),rfl,⟨l,z⟩,N⟩
 replace N:=N.dl [1,0]
 show Out (zT ws (d+1) i) _ _
 rw [show zT ws (d+1) i=.error _ from expr_fc m b g k s]
 exact ⟨rfl,N.le (l)⟩
 replace N:=N.dl [0]
 show Out (zT ws (d+1) i) _ _
 rw [show zT ws (d+1) i=.error _ from expr_fe m b g k]
 exact ⟨rfl,N⟩
 refine zW call178 J N (fun e w N a J=>?_) (fun e w N a J=>?_) (c:=mA G N)
 refine jA y call176 J N (fun E w t N a J=>?_) (fun E w t N=>?_) (c:=oZ G (i:=i) rl n (by omega) N)
 have S:=jP t
 refine yE J N fun a J=>?_
 refine Sto 1 J N fun w N a J=>?_
 refine go J N fun a J=>?_
 have f:=N
 replace N:=N.dl [1]
 refine jS y J f ?_
 show Out (zT ws (d+1) i) _ _
 rw [show zT ws (d+1) i=.ok (.mk 4 0 E.1 [] [],E.2) from x0f m b g e t]
 exact ⟨(V,_),rfl,⟨Fz.Le.refl _,REx.leaf y9d⟩,N⟩
 replace N:=N.dl [0]
 exact j5z m e t
 refine go J N fun a J=>?_
 have g0:=x4g m
 refine go J N fun a J=>?_
 have L:0 < (zC ws i).size:=by omega
 obtain ⟨c53,q⟩:=kP L
 refine Qq J N (fun a J=>?_) (o:=by exact fun _ _ _ J O=>vH 0 c53 J rfl rfl runUnderlying9 q)
 by_cases C:c53.toNat=33
 refine Qq J N (fun a J=>?_) (o:=by exact fun _ _ _ J O=>vI 1 ((zC ws i).size) J rfl runUnderlying9 ⟨_,rfl⟩ rfl (by omega) (by exact Nat.le_refl _))
 refine zW call138 J N (fun p w N a J=>?_) (fun p w N a J=>?_) (c:=tB G N)
 refine go J N fun a J=>?_
 have B:=pQ m
 refine Sto 0 J N fun w N a J=>?_
 refine Qq J N (fun a J=>?_) (o:=by exact fun _ _ _ J O=>vI 1 ((zC ws i).size) J rfl runUnderlying9 ⟨_,rfl⟩ rfl (by omega) (by exact Nat.le_refl _))
 refine yE J N fun a J=>?_
 refine Sto 1 J N fun w N a J=>?_
 refine go J N fun a J=>?_
 have f:=N
 replace N:=N.dl [1]
 refine jS y J f ?_
 show Out (zT ws (d+1) i) _ _
 rw [show zT ws (d+1) i=.ok (.mk 3 0 ((zC ws i).extract 1 (zC ws i).size) [] [],i+1) from q9g m b g e ((yU q).trans C) p]
 exact ⟨(V,_),rfl,⟨Fz.Le.refl _,REx.leaf y9d⟩,N⟩
 refine jA y call129 J N (fun F w u N a J=>?_) (fun F w u N=>?_) (c:=aM G (i:=i) rl n (by omega) N)
 have T:=jP u
 refine yE J N fun a J=>?_
 refine Sto 1 J N fun w N a J=>?_
 refine go J N fun a J=>?_
 have f:=N
 replace N:=N.dl [1]
 refine jS y J f ?_
 show Out (zT ws (d+1) i) _ _
 rw [show zT ws (d+1) i=.ok (.mk 2 0 F.1 [] [],F.2) from (z2j m b g e (fun h=>absurd (h.2.symm.trans p) (by decide))).trans ((zB u).trans rfl)]
 exact ⟨(V,_),rfl,⟨Fz.Le.refl _,REx.leaf y9d⟩,N⟩
 replace N:=N.dl [0]
 show Out (zT ws (d+1) i) _ _
 rw [show zT ws (d+1) i=.error _ from (z2j m b g e (fun h=>absurd (h.2.symm.trans p) (by decide))).trans (zO u)]
 exact ⟨rfl,N⟩
 refine jA y call129 J N (fun H w v N a J=>?_) (fun H w v N=>?_) (c:=aM G (i:=i) rl n (by omega) N)
 have U:=jP v
 refine yE J N fun a J=>?_
 refine Sto 1 J N fun w N a J=>?_
 refine go J N fun a J=>?_
 have f:=N
 replace N:=N.dl [1]
 refine jS y J f ?_
 show Out (zT ws (d+1) i) _ _
 rw [show zT ws (d+1) i=.ok (.mk 2 0 H.1 [] [],H.2) from (z2j m b g e (fun h=>C ((yU q).symm.trans h.1))).trans ((zB v).trans rfl)]
 exact ⟨(V,_),rfl,⟨Fz.Le.refl _,REx.leaf y9d⟩,N⟩
 replace N:=N.dl [0]
 show Out (zT ws (d+1) i) _ _
 rw [show zT ws (d+1) i=.error _ from (z2j m b g e (fun h=>C ((yU q).symm.trans h.1))).trans (zO v)]
 exact ⟨rfl,N⟩
 rw [b] at J
 refine go J N fun a J=>?_
 have B:=pQ m
 refine Sto 0 J N fun w N a J=>?_
 refine yE J N fun a J=>?_
 refine Sto 1 J N fun w N a J=>?_
 refine go J N fun a J=>?_
 have f:=N
 replace N:=N.dl [1]
 refine jS y J f ?_
 show Out (zT ws (d+1) i) _ _
 rw [show zT ws (d+1) i=.ok (.mk 1 y9 ⟨#[]⟩ [] [],i+1) from x0g m (b.trans (congrArg some (A _ b).symm))]
 exact ⟨(V,_),rfl,⟨Fz.Le.refl _,REx.leaf (x2g (b.trans (congrArg some (A _ b).symm)))⟩,N⟩
theorem q6v {ws:List Bs} (a:ws.length<=1000000) (b:∀j,(zC ws j).size<=1000000):∀d,d<=1000->tN ws d
 | 0,_=>j1h a
 | d+1,h=>j1g (by omega) a b (q6v a b d (by omega))
theorem q0d {V:Fz} {K:List Res} {w:World} {r i:Nat} {rs:Value} {ws:List Bs} (G:Glob V) (rl:SliceOf RStr V 1 rs ws) (f:ws.length<=1000000) (t:i<=ws.length) (N:Mem V (.blk r (ob [rs,.int .i64 ((i:Nat):Int)] 208)::K) w) :
  Calls prog 127 #[.pointer (some ⟨r,0,none⟩)] w (fun ee w'=>Out (wR ws i) (fun x=>ee=.returned (.agg #[.string x.1.name,.string x.1.type])/\Mem V (.blk r (ob [rs,.int .i64 ((x.2:Nat):Int)] 208)::K) w') (fun c=>ee=.panicked (nO c)/\Mem V K w')):=by
 obtain ⟨pw,cw,rfl,p,q⟩:=rl.fm
 refine zM func127 ntmps127 fun Q h a J=>?_
 refine Alc J N fun s w N a J=>?_
 replace N:=N.pl 1
 refine jA h call129 J N (fun n w d N a J=>?_) (fun n w d N=>?_) (c:=aM G (i:=i) rl f (by omega) N)
 have k:=jP d
 refine jA h call177 J N (fun o w e N a J=>?_) (fun o w e N=>?_) (c:=pC (x:=(⟨#[58]⟩:Bs)) (i:=n.2) rl f (by omega) N)
 have l:=pB e
 refine jA h call176 J N (fun g w b N a J=>?_) (fun g w b N=>?_) (c:=oZ G (i:=o.2) rl f (by omega) N)
 have j:=jP b
 refine yE J N fun a J=>?_
 refine Sto 1 J N fun w N a J=>?_
 refine go J N fun a J=>?_
 have m:=N
 replace N:=N.dl [1]
 refine jS h J m ?_
 show Out (wR ws i) _ _
 rw [show wR ws i=.ok ((⟨n.1,g.1⟩:Param),g.2) from (zB d).trans ((zB e).trans ((zB b).trans (rfl)))]
 exact ⟨rfl,N⟩
 replace N:=N.dl [0]
 show Out (wR ws i) _ _
 rw [show wR ws i=.error _ from (zB d).trans ((zB e).trans (zO b))]
 exact ⟨rfl,N⟩
 replace N:=N.dl [0]
 show Out (wR ws i) _ _
 rw [show wR ws i=.error _ from (zB d).trans (zO e)]
 exact ⟨rfl,N⟩
 replace N:=N.dl [0]
 show Out (wR ws i) _ _
 rw [show wR ws i=.error _ from zO d]
 exact ⟨rfl,N⟩
theorem x3l {V:Fz} {K:List Res} {w:World} {r i:Nat} {rs:Value} {ws:List Bs} (G:Glob V) (rl:SliceOf RStr V 1 rs ws) (z:ws.length<=1000000) (hi:i<=ws.length) (N:Mem V (.blk r (ob [rs,.int .i64 ((i:Nat):Int)] 208)::K) w) :
  Calls prog 126 #[.pointer (some ⟨r,0,none⟩)] w (fun ee w'=>Out (dD ws i) (fun x=>∃y:Fz×List Value,ee=.returned (.agg y.2.toArray)/\(V.Le y.1/\RData y.1 y.2 x.1)/\Mem y.1 (.blk r (ob [rs,.int .i64 ((x.2:Nat):Int)] 208)::K) w') (fun c=>ee=.panicked (nO c)/\Mem V K w')):=by
 obtain ⟨pw,cw,rfl,C0,D0⟩:=rl.fm
 refine zM func126 ntmps126 fun Q Z a J=>?_
 refine Alc J N fun b2 w N a J=>?_
 replace N:=N.pl 1
 refine jA Z call176 J N (fun q4 w p N a J=>?_) (fun q4 w p N=>?_) (c:=oZ G (i:=i) rl z (by omega) N)
 have h0:=jP p
 refine yE J N fun a J=>?_
 refine Alc J N fun b6 w N a J=>?_
 refine Sto 0 J N fun w N a J=>?_
 replace N:=N.pl 1
 refine jA Z call177 J N (fun q8 w v N a J=>?_) (fun q8 w v N=>?_) (c:=pC (x:=(⟨#[61]⟩:Bs)) (i:=q4.2) rl z (by omega) N)
 have i0:=pB v
 refine go J N fun a J=>?_
 replace N:=N.nilRow 135 2
 replace N:=N.nf
 refine zV (J.ks [0,2,3]) N (fun R mm a w=>∃(o:Fz) (j:Nat) (u:Value) (cs:List Value) (xs:List Con) (f:Nat),mm=ws.length - j/\R o [] [(0,.gs (u) 135 2 cs),(1,.blk r (ob [.slice pw ws.length cw,.int .i64 ((j:Nat):Int)] 208)),(2,.blk b6 (ob [.string q4.1,u] 133))] a w/\(V.Le o/\(Chunks (RCon o) 2 cs xs/\xs.length<=j/\j<=ws.length/\xs.length+f=ws.length+1/\hH ws (ws.length+1) q8.2=kR xs (hH ws f j)))) (ws.length - q8.2) ⟨V,q8.2,.slice none 0 0,[],[],ws.length+1,rfl,⟨J.pk,N⟩,⟨Fz.Le.refl _,⟨rfl,Nat.zero_le _,by omega,Nat.zero_add _,oL _⟩⟩⟩ ?_
 clear N J
 rintro mm a w ⟨o,j,u,cs,xs,f,S,⟨J,N⟩,B⟩ u0 X
 replace N:=N.nf
 obtain ⟨g,B⟩:=B
 replace rl:=rl.up g
 replace G:=G.mono g
 obtain ⟨hch,F0,hj,z0,D⟩:=B
 replace N:=N.pl 1
 refine jA Z call176 J N (fun d w e N a J=>?_) (fun d w e N=>?_) (c:=oZ G (i:=j) rl z (by omega) N)
 have b0:=jP e
 refine yE J N fun a J=>?_
 refine Alc J N fun f0 w N a J=>?_
 refine Sto 0 J N fun w N a J=>?_
 refine go J N fun a J=>?_
 replace N:=N.nilRow 9 1
 replace N:=N.nf
 refine zV (J.ks [0,2,3,4]) N (fun R mm a w=>∃(A:Nat) (u2:Value) (vs:List Bs) (f2:Nat),mm=ws.length - A/\R o [] [(0,.gs (u2) 9 1 (strs vs)),(1,.blk f0 (ob [.string d.1,u2] 135)),(2,.blk r (ob [.slice pw ws.length cw,.int .i64 ((A:Nat):Int)] 208))] a w/\(vs.length<=A/\j < A/\A<=ws.length/\vs.length+f2=ws.length+1/\kC ws (ws.length+1) d.2=kR vs (kC ws f2 A))) (ws.length - d.2) ⟨d.2,.slice none 0 0,[],ws.length+1,rfl,⟨J.pk,N⟩,⟨Nat.zero_le _,by omega,by omega,Nat.zero_add _,oL _⟩⟩ ?_
 clear N J
 rintro mm a w ⟨A,u2,vs,f2,S,⟨J,N⟩,W⟩ w0 Y
 replace N:=N.nf
 obtain ⟨E0,A0,B0,o0,P⟩:=W
 replace N:=N.pl 2
 refine zS call179 J N (fun w N a J=>?_) (c:=mF (i:=A) rl z (by omega) N)
 refine zW call178 J N (fun q w N a J=>?_) (fun q w N a J=>?_) (c:=mA G N)
 refine Reg [1,2,1,0,0,0,1,0] [2,3,4,5] J N fun w N a J=>?_
 refine jA Z call176 J N (fun U w s N a J=>?_) (fun U w s N=>?_) (c:=oZ G (i:=A) rl z (by omega) N)
 have c0:=jP s
 refine qG J N fun H0 w N a J=>?_
 refine qN 2 wM J N (fun m0 w N a J=>?_) (hb:=by simp [yF];omega)
 refine Sto 3 J N fun w N a J=>?_
 refine go J N fun a J=>?_
 first | rw [jJ] at N | rw [<- yQ] at N
 replace N:=N.ar [0] [5,5,5,3,5,5]
 refine Y _ _ _ (by subst S;omega) ⟨(U.2),(m0),(vs++[U.1]),(f2 - 1),rfl,⟨J.pk,by exact N⟩,?_⟩
 exact ⟨by simp only [laQ,lcQ,lnQ];omega,by omega,by omega,by simp only [laQ,lcQ,lnQ];omega,q4s P (by omega) q s⟩
 replace N:=N.dl [4,3,2,1,0]
 show Out (dD ws i) _ _
 rw [show dD ws i=.error _ from (zB p).trans ((zB v).trans (zO (q8x D (by omega) e (q4r P (by omega) q s))))]
 exact ⟨rfl,N.le (g)⟩
 refine go J N fun a J=>?_
 have l:=N
 clear N
 obtain ⟨I,n,N,E⟩:=l.freezeRow (i:=1) rfl
 clear l
 replace rl:=rl.up n
 replace G:=G.mono n
 replace hch:=hch.mono fun _ _ h=>RCon.mono _ _ _ _ n h
 replace N:=N.nf
 have b:SliceOf RStr I 1 _ (vs):=SliceOf.strs.2 E
 obtain ⟨k0,g0,T,q0,s0⟩:=b.form (by decide)
 have m:=N
 clear N
 subst T
 have N:=m
 clear m
 have H:=q9h P (by omega) q
 refine qG J N fun I0 w N a J=>?_
 refine qN 3 rt_131 J N (fun n0 w N a J=>?_)
 refine Sto 4 J N fun w N a J=>?_
 replace N:=N.pl 1
 refine zS call179 J N (fun w N a J=>?_) (c:=mF (i:=A) rl z (by omega) N)
 by_cases M:(zC ws A)=(⟨#[124]⟩:Bs)
 refine go J N fun a J=>?_
 have p0:=uF M (by decide)
 refine Sto 0 J N fun w N a J=>?_
 refine go J N fun a J=>?_
 replace N:=N.ar [2,1] [3,3,2,3]
 refine X _ _ _ (by subst S;omega) ⟨(I),(A+1),(n0),((cs++[.string d.1,.slice k0 (vs).length g0])),(xs++[(⟨d.1,vs⟩:Con)]),(f - 1),rfl,⟨J.pk,by exact N⟩,?_⟩
 refine ⟨(g).trans n,?_⟩
 exact ⟨(hch.snoc (k:=2) (x:=(⟨d.1,vs⟩:Con)) rfl ⟨_,rfl,b⟩),by simp only [laQ,lcQ,lnQ];omega,by omega,by simp only [laQ,lcQ,lnQ];omega,j5g D (by omega) e H M⟩
 refine go J N fun a J=>?_
 have l:=N
 clear N
 obtain ⟨L,t,N,F⟩:=l.freezeRow (i:=3) rfl
 clear l
 replace G:=G.mono t
 replace hch:=hch.mono fun _ _ h=>RCon.mono _ _ _ _ t h
 replace b:=b.up t
 replace N:=N.nf
 have C:SliceOf RCon L 2 _ (xs++[(⟨d.1,vs⟩:Con)]):=⟨_,F,(hch.snoc (k:=2) (x:=(⟨d.1,vs⟩:Con)) rfl ⟨_,rfl,b⟩)⟩
 obtain ⟨G0,y0,T,r0,t0⟩:=C.form (by decide)
 have m:=N
 clear N
 subst T
 have N:=m
 clear m
 refine Sto 4 J N fun w N a J=>?_
 refine go J N fun a J=>?_
 have j0:=N
 replace N:=N.dl [4,3,2,1]
 refine jS Z J j0 ?_
 show Out (dD ws i) _ _
 rw [show dD ws i=.ok ((⟨q4.1,xs++[(⟨d.1,vs⟩:Con)]⟩:Data),A) from (zB p).trans ((zB v).trans ((zB (j9u D (by omega) e H M)).trans rfl))]
 exact ⟨(L,_),rfl,⟨((g).trans n).trans t,⟨_,rfl,C⟩⟩,N⟩
 replace N:=N.dl [2,1,0]
 show Out (dD ws i) _ _
 rw [show dD ws i=.error _ from (zB p).trans ((zB v).trans (zO (q8w D (by omega) e)))]
 exact ⟨rfl,N.le (g)⟩
 replace N:=N.dl [1,0]
 show Out (dD ws i) _ _
 rw [show dD ws i=.error _ from (zB p).trans (zO v)]
 exact ⟨rfl,N⟩
 replace N:=N.dl [0]
 show Out (dD ws i) _ _
 rw [show dD ws i=.error _ from zO p]
 exact ⟨rfl,N⟩
theorem rfun_ok {V:Fz} {K:List Res} {w:World} {r i:Nat} {rs:Value} {ws:List Bs} (hE:tN ws 250) (G:Glob V) (rl:SliceOf RStr V 1 rs ws) (p:ws.length<=1000000) (hi:i<=ws.length) (N:Mem V (.blk r (ob [rs,.int .i64 ((i:Nat):Int)] 208)::K) w) :
  Calls prog 128 #[.pointer (some ⟨r,0,none⟩)] w (fun ee w'=>Out (oC ws i) (fun x=>∃y:Fz×List Value,ee=.returned (.agg y.2.toArray)/\(V.Le y.1/\RFun y.1 y.2 x.1)/\Mem y.1 (.blk r (ob [rs,.int .i64 ((x.2:Nat):Int)] 208)::K) w') (fun c=>ee=.panicked (nO c)/\Mem V K w')):=by
 obtain ⟨pw,cw,rfl,B0,C0⟩:=rl.fm
 refine zM func128 ntmps128 fun Q D a J=>?_
 refine Alc J N fun b2 w N a J=>?_
 replace N:=N.pl 1
 refine jA D call129 J N (fun L w e N a J=>?_) (fun L w e N=>?_) (c:=aM G (i:=i) rl p (by omega) N)
 have f0:=jP e
 refine yE J N fun a J=>?_
 refine Alc J N fun b6 w N a J=>?_
 refine Sto 0 J N fun w N a J=>?_
 refine go J N fun a J=>?_
 replace N:=N.nilRow 72 2
 replace N:=N.nf
 refine zV (J.ks [0,2,3]) N (fun R mm a w=>∃(j:Nat) (u:Value) (cs:List Value) (xs:List Param) (f:Nat),mm=ws.length - j/\R V [] [(0,.gs (u) 72 2 cs),(1,.blk b6 (ob [.string L.1,u,.string ⟨#[]⟩,.int .i64 ((0:Nat):Int),.int .i64 ((0:Nat):Int),.string ⟨#[]⟩,.slice none 0 0,.slice none 0 0] 68)),(2,.blk r (ob [.slice pw ws.length cw,.int .i64 ((j:Nat):Int)] 208))] a w/\(Chunks (RParam V) 2 cs xs/\xs.length<=j/\j<=ws.length/\xs.length+f=ws.length+1/\kW ws (ws.length+1) L.2=kR xs (kW ws f j))) (ws.length - L.2) ⟨L.2,.slice none 0 0,[],[],ws.length+1,rfl,⟨J.pk,N⟩,⟨rfl,Nat.zero_le _,by omega,Nat.zero_add _,oL _⟩⟩ ?_
 clear N J
 rintro mm a w ⟨j,u,cs,xs,f,h0,⟨J,N⟩,c0⟩ L8 d0
 replace N:=N.nf
 obtain ⟨hch,D0,hj,A0,B⟩:=c0
 replace N:=N.pl 2
 refine zS call179 J N (fun w N a J=>?_) (c:=mF (i:=j) rl p (by omega) N)
 by_cases z:(zC ws j)=(⟨#[40]⟩:Bs)
 refine go J N fun a J=>?_
 have m0:=uF z (by decide)
 refine Sto 0 J N fun w N a J=>?_
 refine Reg [1,2,1,0,0,0,1,0] [2,3] J N fun w N a J=>?_
 refine jA D call127 J N (fun v w m N a J=>?_) (fun v w m N=>?_) (c:=q0d G (i:=(j+1)) rl p (by omega) N)
 have X:=q6g m
 refine qG J N fun H0 w N a J=>?_
 refine qN 2 z3e J N (fun j0 w N a J=>?_)
 refine Sto 3 J N fun w N a J=>?_
 replace N:=N.pl 1
 refine jA D call177 J N (fun P w q N a J=>?_) (fun P w q N=>?_) (c:=pC (x:=(⟨#[41]⟩:Bs)) (i:=v.2) rl p (by omega) N)
 have Y:=pB q
 refine go J N fun a J=>?_
 replace N:=N.ar [1] [3,1,3,3]
 refine d0 _ _ _ (by subst h0;omega) ⟨(P.2),(j0),((cs++[.string v.1.name,.string v.1.type])),(xs++[v.1]),(f - 1),rfl,⟨J.pk,by exact N⟩,?_⟩
 exact ⟨(hch.snoc (k:=2) (x:=v.1) rfl rfl),by simp only [laQ,lcQ,lnQ];omega,by omega,by simp only [laQ,lcQ,lnQ];omega,q6h B (by omega) z m q⟩
 replace N:=N.dl [3,2,1,0]
 show Out (oC ws i) _ _
 rw [show oC ws i=.error _ from (zB e).trans (zO (q2n B (by omega) z m q))]
 exact ⟨rfl,N⟩
 replace N:=N.dl [2,1,0]
 show Out (oC ws i) _ _
 rw [show oC ws i=.error _ from (zB e).trans (zO (q2m B (by omega) z m))]
 exact ⟨rfl,N⟩
 refine go J N fun a J=>?_
 have E:=N
 clear N
 obtain ⟨U,b,N,C⟩:=E.freezeRow (i:=1) rfl
 clear E
 replace rl:=rl.up b
 replace G:=G.mono b
 replace hch:=hch.mono fun _ _ h=>RParam.mono _ _ _ _ b h
 replace N:=N.nf
 have l:SliceOf RParam U 2 _ (xs):=⟨_,C,hch⟩
 obtain ⟨E0,c27,i0,n0,q0⟩:=l.form (by decide)
 have F:=N
 clear N
 subst i0
 have N:=F
 clear F
 have o:=j0q B (by omega) z
 refine jA D call177 J N (fun S w d N a J=>?_) (fun S w d N=>?_) (c:=pC (x:=(⟨#[58]⟩:Bs)) (i:=j) rl p (by omega) N)
 have Z:=pB d
 refine jA D call176 J N (fun H w g N a J=>?_) (fun H w g N=>?_) (c:=oZ G (i:=S.2) rl p (by omega) N)
 have a0:=jP g
 refine Sto 1 J N fun w N a J=>?_
 refine jA D call177 J N (fun T w n N a J=>?_) (fun T w n N=>?_) (c:=pC (x:=(⟨#[61]⟩:Bs)) (i:=H.2) rl p (by omega) N)
 have b0:=pB n
 refine xQ D call180 J N (fun I k0 w s M N a J=>?_) (fun I w s N=>?_) (c:=hE G rl (i:=T.2) (by omega) N)
 obtain ⟨W,w0⟩:=k0
 obtain ⟨t,A⟩:=M
 simp only at t A N J
 have e0:=vL 250 _ _ s
 replace G:=G.mono t
 replace l:=l.up t
 replace N:=N.nf
 obtain ⟨F0,u0,G0,c58,rfl,l0,x0,y0,o0,r0,p0,s0⟩:=REx.fm A
 refine Sto 1 J N fun w N a J=>?_
 refine Sto 2 J N fun w N a J=>?_
 refine go J N fun a J=>?_
 have g0:=N
 replace N:=N.dl [2,1]
 refine jS D J g0 ?_
 show Out (oC ws i) _ _
 rw [show oC ws i=.ok ((⟨L.1,xs,H.1,I.1⟩:Fun),I.2) from (zB e).trans ((zB o).trans ((zB d).trans ((zB g).trans ((zB n).trans ((zB s).trans (rfl))))))]
 exact ⟨(W,_),rfl,⟨(b).trans t,⟨_,_,rfl,l,A⟩⟩,N⟩
 replace N:=N.dl [1,0]
 show Out (oC ws i) _ _
 rw [show oC ws i=.error _ from (zB e).trans ((zB o).trans ((zB d).trans ((zB g).trans ((zB n).trans (zO s)))))]
 exact ⟨rfl,N.le (b)⟩
 replace N:=N.dl [1,0]
 show Out (oC ws i) _ _
 rw [show oC ws i=.error _ from (zB e).trans ((zB o).trans ((zB d).trans ((zB g).trans (zO n))))]
 exact ⟨rfl,N.le (b)⟩
 replace N:=N.dl [1,0]
 show Out (oC ws i) _ _
 rw [show oC ws i=.error _ from (zB e).trans ((zB o).trans ((zB d).trans (zO g)))]
 exact ⟨rfl,N.le (b)⟩
 replace N:=N.dl [1,0]
 show Out (oC ws i) _ _
 rw [show oC ws i=.error _ from (zB e).trans ((zB o).trans (zO d))]
 exact ⟨rfl,N.le (b)⟩
 replace N:=N.dl [0]
 show Out (oC ws i) _ _
 rw [show oC ws i=.error _ from zO e]
 exact ⟨rfl,N⟩
theorem x5c {V:Fz} {K:List Res} {w:World} {t:Bs} (N:Mem V K w) :
  Calls prog 125 #[.string t] w (fun ee w'=>∃y:Nat,ee=.returned (.func (.func 174) #[] #[.pointer (some ⟨y,0,none⟩)])/\True/\Mem V (.blk y (ob [.string t] 9)::K) w'):=by
 refine zM func125 ntmps125 fun Q b a J=>?_
 refine Bx J N fun c w N a J=>?_
 refine zD b J N ?_
 exact ⟨_,rfl,trivial,N⟩
theorem j8m {β:Type} {V:Fz} {w:World} {t:Bs} {bx l:Nat} {KY:List Bs->β->List Res} {z:β} (h2:t.size<=1000000) (a0:AscB t)
  (hy:∀pre z K0 (k:Bs) w,pre.length < t.size->Mem V (K0++KY pre z) w->YieldAt Fence.wide 2 prog l #[.string k] w (fun e w'=>e=.returned (.bool true)/\∃z',Mem V (K0++KY (pre++[k]) z') w'))
  (N:Mem V (.blk bx (ob [.string t] 9)::KY [] z) w) :
  Calls prog 174 #[.func (.yield l) #[] #[],.pointer (some ⟨bx,0,none⟩)] w (fun ee w'=>∃y:β,ee=.returned (.tuple #[])/\Mem V (KY (sP t) y) w'):=by
 refine zM func174 ntmps174 fun Q hQ a J=>?_
 refine sq fun L1 f0=>?_
 refine go0 J N fun a J=>?_
 apply f0
 refine go0 J N fun a J=>?_
 refine mR (fun mm a w=>∃(i:Nat) (f:Nat) (pre:List Bs) (z0:β),mm=t.size - i/\EnvR 52 [(0,.func (.yield l) #[] #[]),(1,.pointer (some ⟨bx,0,none⟩)),(3,.int .i64 ((i:Nat):Int))] [] a/\Mem V (.blk bx (ob [.string t] 9)::KY pre z0) w/\(i<=t.size/\pre.length<=i/\t.size<=i+f/\sP t=pre++vV t f i)) (t.size - 0) ⟨0,t.size,[],z,rfl,J.pk,N,⟨Nat.zero_le _,Nat.zero_le _,by omega,rfl⟩⟩ ?_
 clear N J
 rintro mm a w ⟨i,f,pre,z0,C,J,N,e0⟩ L2 B
 obtain ⟨p0,q0,r0,p⟩:=e0
 refine sq fun L4 g0=>?_
 refine sq fun L5 Z=>?_
 refine go0 J N fun a J=>?_
 by_cases E:i < t.size
 refine go0 J N fun a J=>?_
 apply Z
 refine go0 J N fun a J=>?_
 apply g0
 refine go0 J N fun a J=>?_
 refine sq fun L7 h0=>?_
 refine go0 J N fun a J=>?_
 obtain ⟨D,b⟩:=kP E
 refine Qq J N (fun a J=>?_) (o:=by exact fun _ _ _ J O=>vH i D J rfl rfl runUnderlying9 b)
 refine go0 J N fun a J=>?_
 apply h0
 refine go0 J N fun a J=>?_
 refine sq fun b0 P=>?_
 have g:∀a w,(EnvR 52 [(0,.func (.yield l) #[] #[]),(1,.pointer (some ⟨bx,0,none⟩)),(3,.int .i64 ((i:Nat):Int)),(11,.int .u8 ((D.toNat:Nat):Int)),(34,.bool (decide (zG t i=32∨zG t i=10)))] [] a/\Mem V (.blk bx (ob [.string t] 9)::KY pre z0) w/\(True))->b0 a w:=by
  clear N J
  rintro a w ⟨J,N,m0⟩
  apply P
  generalize d:(decide (zG t i=32∨zG t i=10))=F at J
  cases F
  refine go0 J N fun a J=>?_
  refine sq fun c0 R=>?_
  have m:∀a w,(EnvR 52 [(0,.func (.yield l) #[] #[]),(1,.pointer (some ⟨bx,0,none⟩)),(3,.int .i64 ((i:Nat):Int)),(39,.bool (decide (zG t i=40∨zG t i=41)))] [] a/\Mem V (.blk bx (ob [.string t] 9)::KY pre z0) w/\(True))->c0 a w:=by
   clear N J
   rintro a w ⟨J,N,n0⟩
   apply R
   generalize n:(decide (zG t i=40∨zG t i=41))=G at J
   cases G
   refine go0 J N fun a J=>?_
   refine sq fun x0 S=>?_
   refine go0 J N fun a J=>?_
   have s0:=uR (t:=t) (i:=i) (by omega)
   have u0:=z9m E (of_decide_eq_false d) (of_decide_eq_false n)
   refine go0 J N fun a J=>?_
   refine Qq J N (fun a J=>?_) (o:=by exact fun _ _ _ J O=>vI i (t.size) J rfl runUnderlying9 ⟨_,rfl⟩ rfl (by omega) (by exact Nat.le_refl _))
   refine zS call175 J N (fun w N a J=>?_) (c:=j9c (i:=i) a0 (by omega) (by omega) N)
   refine go0 J N fun a J=>?_
   apply S
   refine sq fun d0 T=>?_
   have q:∀a w,(EnvR 52 [(0,.func (.yield l) #[] #[]),(1,.pointer (some ⟨bx,0,none⟩)),(3,.int .i64 ((i:Nat):Int)),(4,.int .i64 ((yR t i:Nat):Int))] [] a/\Mem V (.blk bx (ob [.string t] 9)::KY pre z0) w/\(True))->d0 a w:=by
    clear N J
    rintro a w ⟨J,N,o0⟩
    apply T
    refine sq fun y0 U=>?_
    refine sq fun A0 W=>?_
    refine uS ?_
    refine mZ J (by intro c h;cases h) (xX J rfl) rfl fun a J=>?_
    refine mZ J (by intro c h;cases h) (wY 0 J N.toSees rfl rfl rfl isAgg9) rfl fun a J=>?_
    refine mZ J (by intro c h;cases h) (xX J rfl) rfl fun a J=>?_
    refine mZ J (by intro c h;cases h) (xX J rfl) rfl fun a J=>?_
    refine mZ J (by intro c h;cases h) (xX J rfl) rfl fun a J=>?_
    refine mZ J (by intro c h;cases h) (pD (i:=i) (j:=yR t i) J rfl rfl (by omega)) rfl fun a J=>?_
    refine mZ J (by intro c h;cases h) (vI i (i+yR t i) J rfl runUnderlying9 ⟨_,rfl⟩ ⟨_,rfl⟩ (by omega) (by omega)) rfl fun a J=>?_
    refine y2v (v:=.string (t.extract i (i+yR t i))) J rfl rfl rfl (hy pre z0 [.blk bx (ob [.string t] 9)] (t.extract i (i+yR t i)) w (by omega) N) fun w A a J=>?_
    obtain ⟨j0,N⟩:=A
    replace N:=N.nf
    refine mZ J (by intro c h;cases h) (q0x J rfl) rfl fun a J=>?_
    refine wpListIn_nil ?_
    apply W
    refine go0 J N fun a J=>?_
    apply U
    refine go0 J N fun a J=>?_
    refine Qq J N (fun a J=>?_) (o:=by exact fun _ _ _ J O=>pD (i:=i) (j:=(yR t i)) J rfl rfl (by omega))
    refine go0 J N fun a J=>?_
    refine B _ _ _ (by subst C;omega) ⟨((i+(yR t i))),(f - 1),(pre++[(t.extract i (i+yR t i))]),(j0),rfl,J.pk,N,?_⟩
    exact ⟨by omega,by simp only [laQ,lcQ,lnQ];omega,by omega,by rw [p,y5r E (by omega) (of_decide_eq_false d) (of_decide_eq_false n),List.append_assoc];rfl⟩
   refine sq fun B0 r=>?_
   refine go0 J N fun a J=>?_
   by_cases H:(if i+yR t i < t.size then ((yR t i:Nat):Int) else -1) < 0
   refine go0 J N fun a J=>?_
   apply r
   refine go0 J N fun a J=>?_
   have t0:=x5a (by omega) H
   refine go0 J N fun a J=>?_
   refine Qq J N (fun a J=>?_) (o:=by exact fun _ _ _ J O=>vT ((yR t i:Nat):Int) J rfl rfl (by rw [yC (by omega)];omega))
   refine go0 J N fun a J=>?_
   exact q _ _ ⟨J.pk,N,trivial⟩
   refine go0 J N fun a J=>?_
   apply r
   refine go0 J N fun a J=>?_
   rw [x5b H] at J
   exact q _ _ ⟨J.pk,N,trivial⟩
   refine go0 J N fun a J=>?_
   refine sq fun C0 X=>?_
   refine sq fun D0 Y=>?_
   refine uS ?_
   refine mZ J (by intro c h;cases h) (xX J rfl) rfl fun a J=>?_
   refine mZ J (by intro c h;cases h) (wY 0 J N.toSees rfl rfl rfl isAgg9) rfl fun a J=>?_
   refine mZ J (by intro c h;cases h) (xX J rfl) rfl fun a J=>?_
   refine mZ J (by intro c h;cases h) (xX J rfl) rfl fun a J=>?_
   refine mZ J (by intro c h;cases h) (pD (i:=i) (j:=1) J rfl rfl (by omega)) rfl fun a J=>?_
   refine mZ J (by intro c h;cases h) (vI i (i+1) J rfl runUnderlying9 ⟨_,rfl⟩ ⟨_,rfl⟩ (by omega) (by omega)) rfl fun a J=>?_
   refine y2v (v:=.string (t.extract i (i+1))) J rfl rfl rfl (hy pre z0 [.blk bx (ob [.string t] 9)] (t.extract i (i+1)) w (by omega) N) fun w A a J=>?_
   obtain ⟨k0,N⟩:=A
   replace N:=N.nf
   refine mZ J (by intro c h;cases h) (q0x J rfl) rfl fun a J=>?_
   refine wpListIn_nil ?_
   apply Y
   refine go0 J N fun a J=>?_
   apply X
   refine go0 J N fun a J=>?_
   refine B _ _ _ (by subst C;omega) ⟨((i+1)),(f - 1),(pre++[(t.extract i (i+1))]),(k0),rfl,J.pk,N,?_⟩
   exact ⟨by omega,by simp only [laQ,lcQ,lnQ];omega,by omega,by rw [p,q0u E (by omega) (of_decide_eq_false d) (of_decide_eq_true n),List.append_assoc];rfl⟩
  refine sq fun E0 s=>?_
  refine go0 J N fun a J=>?_
  by_cases I:D.toNat=40
  refine go0 J N fun a J=>?_
  apply s
  refine go0 J N fun a J=>?_
  exact m _ _ (by rw [show decide (zG t i=40∨zG t i=41)=true from decide_eq_true (.inl ((yU b).trans I))];exact ⟨J.pk,N,trivial⟩)
  refine go0 J N fun a J=>?_
  apply s
  refine go0 J N fun a J=>?_
  by_cases K:D.toNat=41
  refine go0 J N fun a J=>?_
  exact m _ _ (by rw [show decide (zG t i=40∨zG t i=41)=true from decide_eq_true (.inr ((yU b).trans K))];exact ⟨J.pk,N,trivial⟩)
  refine go0 J N fun a J=>?_
  exact m _ _ (by rw [show decide (zG t i=40∨zG t i=41)=false from decide_eq_false (by rw [yU b];exact fun hh=>hh.elim I K)];exact ⟨J.pk,N,trivial⟩)
  refine go0 J N fun a J=>?_
  refine B _ _ _ (by subst C;omega) ⟨(i+1),(f - 1),(pre),(z0),rfl,J.pk,N,?_⟩
  exact ⟨by omega,by omega,by omega,by rw [p,q7z E (by omega) (of_decide_eq_true d)]⟩
 refine sq fun F0 u=>?_
 refine go0 J N fun a J=>?_
 by_cases L:D.toNat=32
 refine go0 J N fun a J=>?_
 apply u
 refine go0 J N fun a J=>?_
 exact g _ _ (by rw [show decide (zG t i=32∨zG t i=10)=true from decide_eq_true (.inl ((yU b).trans L))];exact ⟨J.pk,N,trivial⟩)
 refine go0 J N fun a J=>?_
 apply u
 refine go0 J N fun a J=>?_
 by_cases M:D.toNat=10
 refine go0 J N fun a J=>?_
 exact g _ _ (by rw [show decide (zG t i=32∨zG t i=10)=true from decide_eq_true (.inr ((yU b).trans M))];exact ⟨J.pk,N,trivial⟩)
 refine go0 J N fun a J=>?_
 exact g _ _ (by rw [show decide (zG t i=32∨zG t i=10)=false from decide_eq_false (by rw [yU b];exact fun hh=>hh.elim L M)];exact ⟨J.pk,N,trivial⟩)
 refine go0 J N fun a J=>?_
 apply Z
 refine go0 J N fun a J=>?_
 replace N:=N.dl [0]
 refine hQ _ _ _ (aU J results174 ?_)
 rw [p,q0s E,List.append_nil];exact ⟨z0,rfl,N⟩
theorem j7o {V:Fz} {K:List Res} {w:World} {a:Act} {D:List Deferred} {Q:Exit->Act->World->Prop} {rs:Value} {ws:List Bs} {c0 wd rp r:Nat} (G:Glob V) (hE:tN ws 250) (rl:SliceOf RStr V 1 rs ws) (j0:ws.length<=1000000)
  (hR:∀{Ψ:Fz} {a:Act} {w:World} {C:Core} {E F H I:Value},jB ws (ws.length+1) ⟨[],[],[],[]⟩ 0=.ok C->V.Le Ψ->SliceOf RData Ψ 2 E C.datas->SliceOf RParam Ψ 2 F C.inputs->SliceOf RFun Ψ 8 H C.funs->EnvR 96 [(3,.pointer (some ⟨wd,0,none⟩)),(2,.pointer (some ⟨c0,0,none⟩))] D a->Mem Ψ (.blk c0 (ob [E,F,H,I] 27)::.blk wd (ob [.int .i64 ((0:Nat):Int)] 3)::.gs I 9 1 (strs C.outputs)::K) w->Q .ret a w)
  (hP:∀{Ψ:Fz} {a:Act} {w:World} {n:Nat} {E F H I x:Value},jB ws (ws.length+1) ⟨[],[],[],[]⟩ 0=.error n->V.Le Ψ->EnvR 96 [(3,.pointer (some ⟨wd,0,none⟩)),(2,.pointer (some ⟨c0,0,none⟩))] D a->Mem Ψ (.blk c0 (ob [E,F,H,I] 27)::.blk wd (ob [x] 3)::K) w->Q (.panic (nO n)) a w)
  (J:EnvR 96 [(2,.pointer (some ⟨c0,0,none⟩)),(3,.pointer (some ⟨wd,0,none⟩)),(4,.pointer (some ⟨rp,0,none⟩))] D a) (N:Mem V (.blk r (ob [rs,.int .i64 ((0:Nat):Int)] 208)::.blk rp (ob [.pointer (some ⟨r,0,none⟩)] 206)::.blk c0 (ob [.slice none 0 0,.slice none 0 0,.slice none 0 0,.slice none 0 0] 27)::.blk wd (ob [.int .i64 ((0:Nat):Int)] 3)::K) w) :
  (seqR (seqR (seqR (seqR (Tryz.f74.body.getD .skip))))).wp prog Q a w:=by
 obtain ⟨pw,cw,rfl,G1,U0⟩:=rl.fm
 change (Code.seq _ _).wp _ _ _ _
 refine go J N fun a J=>?_
 replace N:=N.nilRow 133 2
 replace N:=N.nf
 replace N:=N.nilRow 72 2
 replace N:=N.nf
 replace N:=N.nilRow 68 8
 replace N:=N.nf
 replace N:=N.nilRow 9 1
 replace N:=N.nf
 refine zV (J.ks [2,3,4]) N (fun R mm a w=>∃(Ψ2:Fz) (j:Nat) (f:Nat) (E:Value) (F:Value) (H:Value) (I:Value) (d0:List Value) (d1:List Value) (d2:List Value) (C:Core),mm=ws.length - j/\R Ψ2 [] [(0,.gs (I) 9 1 (strs C.outputs)),(1,.gs (H) 68 8 d2),(2,.gs (F) 72 2 d1),(3,.gs (E) 133 2 d0),(4,.blk r (ob [.slice pw ws.length cw,.int .i64 ((j:Nat):Int)] 208)),(6,.blk c0 (ob [E,F,H,I] 27))] a w/\(V.Le Ψ2/\(Chunks (RData Ψ2) 2 d0 C.datas/\Chunks (RParam Ψ2) 2 d1 C.inputs/\Chunks (RFun Ψ2) 8 d2 C.funs/\(C.datas.length<=j/\C.inputs.length<=j/\C.funs.length<=j/\C.outputs.length<=j)/\j<=ws.length/\ws.length+1<=j+f/\jB ws (ws.length+1) ⟨[],[],[],[]⟩ 0=jB ws f C j))) (ws.length - 0) ⟨V,0,ws.length+1,.slice none 0 0,.slice none 0 0,.slice none 0 0,.slice none 0 0,[],[],[],⟨[],[],[],[]⟩,rfl,⟨J.pk,N⟩,⟨Fz.Le.refl _,⟨rfl,rfl,rfl,⟨Nat.le_refl _,Nat.le_refl _,Nat.le_refl _,Nat.le_refl _⟩,Nat.zero_le _,by omega,rfl⟩⟩⟩ ?_
 clear N J
 rintro mm a w ⟨Ψ2,j,f,E,F,H,I,d0,d1,d2,C,m0,⟨J,N⟩,t0⟩ L4 l0
 replace N:=N.nf
 obtain ⟨v,t0⟩:=t0
 replace rl:=rl.up v
 replace G:=G.mono v
 obtain ⟨g,d,c,i1,hj,F1,z⟩:=t0
 refine Reg [2,1,1,2,2,1,1,2,1,1] [0,1,2,3,4,5,6,7] J N fun w N a J=>?_
 refine go J N fun a J=>?_
 by_cases h8:j < ws.length
 refine Sto 4 J N fun w N a J=>?_
 refine Reg [2,1,1,2,2,1,1,2,1,1,2] [0,1,2,3,4,5,6,7] J N fun w N a J=>?_
 refine Qq J N (fun a J=>?_) (o:=by exact fun _ _ _ J O=>vT ((j:Nat):Int) J rfl rfl (by rw [yC (by omega)];omega))
 obtain ⟨J1,rfl,k0,b,x0,h1,U,z0⟩:=rl.el U0 h8
 obtain rfl:x0=[.string k0]:=z0
 refine go J N fun a J=>?_
 by_cases A:k0=(⟨#[100,97,116,97]⟩:Bs)
 refine go J N fun a J=>?_
 refine gO (E0:=[(3,.pointer (some ⟨wd,0,none⟩)),(2,.pointer (some ⟨c0,0,none⟩))]) [1,2,2,0,0,0,1,0] (.q 0 (.q 1 (.q 2 (.e 3 (.e 4 (.e 5 (.q 6 (.e 7 (.done))))))))) [.gs (I) 9 1 (strs C.outputs),.gs (H) 68 8 d2,.gs (F) 72 2 d1,.blk rp (ob [.pointer (some ⟨r,0,none⟩)] 206),.blk c0 (ob [E,F,H,I] 27),.blk wd (ob [.int .i64 ((0:Nat):Int)] 3)] (J.pk) N mixed (by kernel_rfl) (by simp) (by kernel_rfl) fun w N=>?_
 refine go J N fun a J=>?_
 replace N:=N.pl 4
 refine d_e J rfl rfl rfl (z7a J rfl call126 (x3l G (i:=(j+1)) rl j0 (by omega) N) (fun S c1 w W q0 N=>⟨fun _=>N.sn ((Fz.Le.refl _).trans (q0.1)),fun a J=>?_⟩) (fun S w W N=>fun a J=>?_))
 obtain ⟨B0,z1⟩:=c1
 obtain ⟨t,f0⟩:=q0
 simp only at t f0 N J
 have P0:=data_le W
 replace rl:=rl.up t
 replace G:=G.mono t
 replace g:=g.mono fun _ _ h=>RData.mono _ _ _ _ t h
 replace d:=d.mono fun _ _ h=>RParam.mono _ _ _ _ t h
 replace c:=c.mono fun _ _ h=>RFun.mono _ _ _ _ t h
 replace U:=U.mono t
 replace N:=N.nf
 obtain ⟨K1,rfl,M0⟩:=id f0
 obtain ⟨V0,I0,rfl,j1,p1⟩:=M0.fm
 refine qG J N fun M1 w N a J=>?_
 refine qN 5 rt_22 J N (fun Z0 w N a J=>?_) (hb:=by have h_:=g.length;rw [h_];simp only [lcQ,lnQ];omega)
 refine Sto 7 J N fun w N a J=>?_
 refine go J N fun a J=>?_
 replace N:=N.ar [0] [7,7,7,3,7,7,7,7]
 refine l0 _ _ _ (by subst m0;omega) ⟨(B0),(S.2),(f - 1),(Z0),(F),(H),(I),((d0++[.string S.1.name,.slice V0 S.1.cons.length I0])),(d1),(d2),({ C with datas:=C.datas++[S.1] }),rfl,⟨J.pk,by exact N⟩,?_⟩
 refine ⟨(v).trans t,?_⟩
 exact ⟨(g.snoc (k:=2) (x:=S.1) rfl f0),d,c,⟨by show (C.datas++[S.1]).length<=_;simp only [laQ,lcQ,lnQ];omega,by show C.inputs.length<=_;omega,by show C.funs.length<=_;omega,by show C.outputs.length<=_;omega⟩,by omega,by omega,z.trans (q8y h8 (by omega) ((jM b).trans A) W)⟩
 replace N:=N.dl [4,3,2,1,0]
 exact hP (z.trans (q4h h8 (by omega) ((jM b).trans A) W)) (v) (J.pk) N
 refine go J N fun a J=>?_
 by_cases P:k0=(⟨#[105,110,112,117,116]⟩:Bs)
 refine go J N fun a J=>?_
 refine gO (E0:=[(3,.pointer (some ⟨wd,0,none⟩)),(2,.pointer (some ⟨c0,0,none⟩))]) [1,2,2,0,0,0,1,0] (.q 0 (.q 1 (.q 2 (.e 3 (.e 4 (.e 5 (.q 6 (.e 7 (.done))))))))) [.gs (I) 9 1 (strs C.outputs),.gs (H) 68 8 d2,.gs (E) 133 2 d0,.blk rp (ob [.pointer (some ⟨r,0,none⟩)] 206),.blk c0 (ob [E,F,H,I] 27),.blk wd (ob [.int .i64 ((0:Nat):Int)] 3)] (J.pk) N mixed (by kernel_rfl) (by simp) (by kernel_rfl) fun w N=>?_
 refine go J N fun a J=>?_
 replace N:=N.pl 4
 refine d_e J rfl rfl rfl (z6y J rfl call127 (q0d G (i:=(j+1)) rl j0 (by omega) N) (fun T w X N=>⟨fun _=>N.sn (Fz.Le.refl _),fun a J=>?_⟩) (fun T w X N=>fun a J=>?_))
 have G0:=q6g X
 refine qG J N fun N1 w N a J=>?_
 refine qN 4 z3e J N (fun a1 w N a J=>?_) (hb:=by have h_:=d.length;rw [h_];simp only [lcQ,lnQ];omega)
 refine Sto 7 J N fun w N a J=>?_
 refine go J N fun a J=>?_
 replace N:=N.ar [0] [7,7,7,3,7,7,7,7]
 refine l0 _ _ _ (by subst m0;omega) ⟨(Ψ2),(T.2),(f - 1),(E),(a1),(H),(I),(d0),((d1++[.string T.1.name,.string T.1.type])),(d2),({ C with inputs:=C.inputs++[T.1] }),rfl,⟨J.pk,by exact N⟩,?_⟩
 refine ⟨v,?_⟩
 exact ⟨g,(d.snoc (k:=2) (x:=T.1) rfl rfl),c,⟨by show C.datas.length<=_;omega,by show (C.inputs++[T.1]).length<=_;simp only [laQ,lcQ,lnQ];omega,by show C.funs.length<=_;omega,by show C.outputs.length<=_;omega⟩,by omega,by omega,z.trans (q4i h8 (by omega) (fun h_=>A ((jM b).symm.trans h_)) ((jM b).trans P) X)⟩
 replace N:=N.dl [4,3,2,1,0]
 exact hP (z.trans (q1l h8 (by omega) (fun h_=>A ((jM b).symm.trans h_)) ((jM b).trans P) X)) (v) (J.pk) N
 refine go J N fun a J=>?_
 by_cases b0:k0=(⟨#[102,117,110]⟩:Bs)
 refine go J N fun a J=>?_
 refine gO (E0:=[(3,.pointer (some ⟨wd,0,none⟩)),(2,.pointer (some ⟨c0,0,none⟩))]) [1,2,2,0,0,0,1,0] (.q 0 (.q 1 (.q 2 (.e 3 (.e 4 (.e 5 (.q 6 (.e 7 (.done))))))))) [.gs (I) 9 1 (strs C.outputs),.gs (F) 72 2 d1,.gs (E) 133 2 d0,.blk rp (ob [.pointer (some ⟨r,0,none⟩)] 206),.blk c0 (ob [E,F,H,I] 27),.blk wd (ob [.int .i64 ((0:Nat):Int)] 3)] (J.pk) N mixed (by kernel_rfl) (by simp) (by kernel_rfl) fun w N=>?_
 refine go J N fun a J=>?_
 replace N:=N.pl 4
 refine d_e J rfl rfl rfl (z7a J rfl call128 (rfun_ok hE G (i:=(j+1)) rl j0 (by omega) N) (fun p e1 w Y r0 N=>⟨fun _=>N.sn ((Fz.Le.refl _).trans (r0.1)),fun a J=>?_⟩) (fun p w Y N=>fun a J=>?_))
 obtain ⟨C0,A1⟩:=e1
 obtain ⟨u,g0⟩:=r0
 simp only at u g0 N J
 have Q0:=fun_le Y
 replace rl:=rl.up u
 replace G:=G.mono u
 replace g:=g.mono fun _ _ h=>RData.mono _ _ _ _ u h
 replace d:=d.mono fun _ _ h=>RParam.mono _ _ _ _ u h
 replace c:=c.mono fun _ _ h=>RFun.mono _ _ _ _ u h
 replace U:=U.mono u
 replace N:=N.nf
 obtain ⟨L1,w1,rfl,N0,O0⟩:=id g0
 obtain ⟨W0,J0,rfl,k1,q1⟩:=N0.fm
 obtain ⟨X0,K0,Y0,L0,rfl,g1,B1,C1,l1,r1,m1,s1⟩:=REx.fm O0
 refine qG J N fun v75 w N a J=>?_
 refine qN 3 rt_24 J N (fun v76 w N a J=>?_) (hb:=by have h_:=c.length;rw [h_];simp only [lcQ,lnQ];omega)
 refine Sto 7 J N fun w N a J=>?_
 refine go J N fun a J=>?_
 replace N:=N.ar [0] [7,7,7,3,7,7,7,7]
 refine l0 _ _ _ (by subst m0;omega) ⟨(C0),(p.2),(f - 1),(E),(F),(v76),(I),(d0),(d1),((d2++[.string p.1.name,.slice W0 p.1.params.length J0,.string p.1.result,.int .i64 (p.1.body.kind),.int .i64 (p.1.body.num),.string p.1.body.name,.slice X0 p.1.body.args.length K0,.slice Y0 p.1.body.arms.length L0])),({ C with funs:=C.funs++[p.1] }),rfl,⟨J.pk,by exact N⟩,?_⟩
 refine ⟨(v).trans u,?_⟩
 exact ⟨g,d,(c.snoc (k:=8) (x:=p.1) rfl g0),⟨by show C.datas.length<=_;omega,by show C.inputs.length<=_;omega,by show (C.funs++[p.1]).length<=_;simp only [laQ,lcQ,lnQ];omega,by show C.outputs.length<=_;omega⟩,by omega,by omega,z.trans (j5o h8 (by omega) (fun h_=>A ((jM b).symm.trans h_)) (fun h_=>P ((jM b).symm.trans h_)) ((jM b).trans b0) Y)⟩
 replace N:=N.dl [4,3,2,1,0]
 exact hP (z.trans (q8z h8 (by omega) (fun h_=>A ((jM b).symm.trans h_)) (fun h_=>P ((jM b).symm.trans h_)) ((jM b).trans b0) Y)) (v) (J.pk) N
 refine go J N fun a J=>?_
 by_cases s0:k0=(⟨#[111,117,116,112,117,116]⟩:Bs)
 refine go J N fun a J=>?_
 refine gO (E0:=[(3,.pointer (some ⟨wd,0,none⟩)),(2,.pointer (some ⟨c0,0,none⟩))]) [1,2,2,0,0,0,1,0] (.q 0 (.q 1 (.q 2 (.e 3 (.e 4 (.e 5 (.q 6 (.e 7 (.done))))))))) [.gs (H) 68 8 d2,.gs (F) 72 2 d1,.gs (E) 133 2 d0,.blk rp (ob [.pointer (some ⟨r,0,none⟩)] 206),.blk c0 (ob [E,F,H,I] 27),.blk wd (ob [.int .i64 ((0:Nat):Int)] 3)] (J.pk) N mixed (by kernel_rfl) (by simp) (by kernel_rfl) fun w N=>?_
 refine go J N fun a J=>?_
 replace N:=N.pl 4
 refine d_e J rfl rfl rfl (z6y J rfl call129 (aM G (i:=(j+1)) rl j0 (by omega) N) (fun p0 w Z N=>⟨fun _=>N.sn (Fz.Le.refl _),fun a J=>?_⟩) (fun p0 w Z N=>fun a J=>?_))
 have H0:=jP Z
 refine qG J N fun O1 w N a J=>?_
 refine qN 2 wM J N (fun b1 w N a J=>?_) (hb:=by simp [yF];omega)
 refine Sto 7 J N fun w N a J=>?_
 refine go J N fun a J=>?_
 first | rw [jJ] at N | rw [<- yQ] at N
 replace N:=N.ar [0] [7,7,7,3,7,7,7,7]
 refine l0 _ _ _ (by subst m0;omega) ⟨(Ψ2),(p0.2),(f - 1),(E),(F),(H),(b1),(d0),(d1),(d2),({ C with outputs:=C.outputs++[p0.1] }),rfl,⟨J.pk,by exact N⟩,?_⟩
 refine ⟨v,?_⟩
 exact ⟨g,d,c,⟨by show C.datas.length<=_;omega,by show C.inputs.length<=_;omega,by show C.funs.length<=_;omega,by show (C.outputs++[p0.1]).length<=_;simp only [laQ,lcQ,lnQ];omega⟩,by omega,by omega,z.trans (j5p h8 (by omega) (fun h_=>A ((jM b).symm.trans h_)) (fun h_=>P ((jM b).symm.trans h_)) (fun h_=>b0 ((jM b).symm.trans h_)) ((jM b).trans s0) Z)⟩
 replace N:=N.dl [4,3,2,1,0]
 exact hP (z.trans (q9a h8 (by omega) (fun h_=>A ((jM b).symm.trans h_)) (fun h_=>P ((jM b).symm.trans h_)) (fun h_=>b0 ((jM b).symm.trans h_)) ((jM b).trans s0) Z)) (v) (J.pk) N
 refine Qq J N (fun a J=>?_) (o:=by exact fun _ _ _ J O=>vT ((j:Nat):Int) J rfl rfl (by rw [yC (by omega)];omega))
 refine Sto 4 J N fun w N a J=>?_
 refine go J N fun a J=>?_
 replace N:=N.pl 4
 refine stP J rfl rfl rfl (gU J rfl call130 (tI (i:=j) rl j0 (by omega) N) (fun w N=>fun a J=>?_))
 replace N:=N.dl [4,3,2,1,0]
 exact hP (z.trans (j5m h8 (by omega) (fun h_=>A ((jM b).symm.trans h_)) (fun h_=>P ((jM b).symm.trans h_)) (fun h_=>b0 ((jM b).symm.trans h_)) (fun h_=>s0 ((jM b).symm.trans h_)))) (v) (J.pk) N
 refine go J N fun a J=>?_
 have s:=N
 clear N
 obtain ⟨D0,L,N,n0⟩:=s.freezeRow (i:=3) rfl
 clear s
 replace G:=G.mono L
 replace g:=g.mono fun _ _ h=>RData.mono _ _ _ _ L h
 replace d:=d.mono fun _ _ h=>RParam.mono _ _ _ _ L h
 replace c:=c.mono fun _ _ h=>RFun.mono _ _ _ _ L h
 replace N:=N.nf
 have m:SliceOf RData D0 2 _ (C.datas):=⟨_,n0,g⟩
 obtain ⟨H1,x1,i0,n1,t1⟩:=m.form (by decide)
 have l:=N
 clear N
 subst i0
 have N:=l
 clear l
 have s:=N
 clear N
 obtain ⟨F0,M,N,o0⟩:=s.freezeRow (i:=2) rfl
 clear s
 replace G:=G.mono M
 replace d:=d.mono fun _ _ h=>RParam.mono _ _ _ _ M h
 replace c:=c.mono fun _ _ h=>RFun.mono _ _ _ _ M h
 replace m:=m.up M
 replace N:=N.nf
 have B:SliceOf RParam F0 2 _ (C.inputs):=⟨_,o0,d⟩
 obtain ⟨I1,y1,i0,o1,S0⟩:=B.form (by decide)
 have l:=N
 clear N
 subst i0
 have N:=l
 clear l
 have s:=N
 clear N
 obtain ⟨w0,y,N,h0⟩:=s.freezeRow (i:=1) rfl
 clear s
 replace G:=G.mono y
 replace c:=c.mono fun _ _ h=>RFun.mono _ _ _ _ y h
 replace m:=m.up y
 replace B:=B.up y
 replace N:=N.nf
 have a0:SliceOf RFun w0 8 _ (C.funs):=⟨_,h0,c⟩
 obtain ⟨v1,f1,i0,R0,T0⟩:=a0.form (by decide)
 have l:=N
 clear N
 subst i0
 have N:=l
 clear l
 obtain ⟨p3,m3,q3,A0,_,_⟩:=N.toSees.gsForm (i:=0) rfl
 have l:=N
 clear N
 subst A0
 have N:=l
 clear l
 refine Sto 3 J N fun w N a J=>?_
 refine Sto 4 J N fun w N a J=>?_
 refine go J N fun a J=>?_
 replace N:=N.ar [2,1] [2,2]
 exact hR (z.trans (j5n h8 (by omega))) ((((v).trans L).trans M).trans y) m B a0 (J.pk) N
end Go.Sw

namespace Go.Sw
open Go.Proofs.Tryz
open Go.Proofs
abbrev wrongRE (n:Nat) (r:Bool):PanicEntry:={ v:=.iface 204 (.agg #[.int .i64 ((n:Nat):Int)]),recovered:=r }
theorem x1b:zR prog 204 0 0:=zI runUnderlying204 rfl sizeOf3 (by decide) rfl
set_option maxRecDepth 20000 in
set_option maxHeartbeats 4000000 in
theorem q1j {V:Fz} {K:List Res} {w:World} {bc bw n:Nat} {s t u v x:Value} (N:Mem V (.blk bc (ob [s,t,u,v] 27)::.blk bw (ob [x] 3)::K) w) :
  CallsD prog 124 #[.pointer (some ⟨bc,0,none⟩),.pointer (some ⟨bw,0,none⟩)] (.panicking (nO n)) w fun e u' w'=>
   e=.returned (.tuple #[])/\u'=.panicking [wrongRE n true]/\Mem V (.blk bc (ob [.slice none 0 0,.slice none 0 0,.slice none 0 0,.slice none 0 0] 27)::.blk bw (ob [.int .i64 ((n:Nat):Int)] 3)::K) w':=by
 generalize k:(fun (e:Ending) (u':FrameMode) (w':World)=>e=.returned (.tuple #[])/\u'=.panicking [wrongRE n true]/\Mem V (.blk bc (ob [.slice none 0 0,.slice none 0 0,.slice none 0 0,.slice none 0 0] 27)::.blk bw (ob [.int .i64 ((n:Nat):Int)] 3)::K) w')=R
 refine callsD_of_wpS func124 rfl fun c₀ cs o=>?_
 apply wpS_seq
 apply wpS_region
 show wpOpsS prog _ _ [0,1] _ _ _
 simp [wpOpsS,go_sem,recoverD,o,ntmps124,Exit.thenS,nO]
 refine wpS_of_wp ?_
 generalize l:(_::cs:List Frame)=cs'
 have j:∀(a:Act) (w':World),a.defers=[]->Mem V (.blk bc (ob [.slice none 0 0,.slice none 0 0,.slice none 0 0,.slice none 0 0] 27)::.blk bw (ob [.int .i64 ((n:Nat):Int)] 3)::K) w'->bodyPostS prog Tryz.f124 c₀ cs R .normal a cs' w':=fun a w' m N=>
  ⟨m,.panicking [wrongRE n true],l.symm,.tuple #[],results_none rfl _ _ _,by subst k;exact ⟨rfl,rfl,N⟩⟩
 generalize b:(Act.mk _ [])=a
 have J:EnvR 19 [(2,.iface 204 (.agg #[.int .i64 ((n:Nat):Int)])),(1,.pointer (some ⟨bw,0,none⟩)),(0,.pointer (some ⟨bc,0,none⟩))] [] a:=by
  subst b
  refine ⟨by simp,fun t v h=>?_,rfl⟩
  obtain ⟨rfl,rfl⟩ | ⟨_,h⟩:=kV h
  ·simp
  ·obtain ⟨rfl,rfl⟩ | ⟨_,h⟩:=kV h
   ·simp
   ·obtain ⟨rfl,rfl⟩ | ⟨_,h⟩:=kV h
    ·simp
    ·cases h
 clear b
 refine sq fun p c=>?_
 refine wp_region_lit ?_
 refine jN J (xX J rfl) rfl fun a J=>?_
 refine jN J (aO (v:=.bool true) J rfl rfl rfl (by kernel_rfl)) rfl fun a J=>?_
 refine wpList_nil ?_
 apply c
 refine if_t J rfl ?_
 refine sq fun r d=>?_
 refine wp_region_lit ?_
 refine jN J (xX J rfl) rfl fun a J=>?_
 refine jN J (y5v J rfl runUnderlying204 (by intro ms h;cases h)) rfl fun a J=>?_
 refine jN J (xX J rfl) rfl fun a J=>jN J (cS J rfl rfl) rfl fun a J=>jN J (cS J rfl rfl) rfl fun a J=>?_
 refine st J rfl rfl rfl (wA (cs:=[.int .i64 ((0:Nat):Int)]) N zeroValue204 rfl fun i w N a J=>?_)
 refine st0 J rfl rfl (jE 0 (cs:=[.int .i64 ((0:Nat):Int)]) (vs:=[.int .i64 ((n:Nat):Int)]) J N rfl rfl rfl rfl sizeOf204 rfl rfl rfl fun w N a J=>?_)
 refine jN J (dL J rfl) rfl fun a J=>?_
 refine wpList_nil ?_
 apply d
 replace N:Mem V (.blk i (ob [.int .i64 ((n:Nat):Int)] 204)::.blk bc (ob [s,t,u,v] 27)::.blk bw (ob [x] 3)::K) w:=N
 refine sq fun y f=>?_
 refine sq fun z g=>?_
 refine wp_region_lit ?_
 refine jN J (xX J rfl) rfl fun a J=>jN J (q0x J rfl) rfl fun a J=>?_
 refine wpList_nil ?_
 apply g
 refine if_f J rfl ?_
 refine wp_skip ?_
 apply f
 refine dH [1,1,2,0,0] (.q 0 (.q 1 (.q 2 (.e 3 (.e 4 (.done)))))) [.blk i (ob [.int .i64 ((n:Nat):Int)] 204)] J N mixed (by kernel_rfl) (by simp) fun w N=>?_
 refine y1v J rfl rfl (fun w=>z2u (vs:=[]) (cs:=[.slice none 0 0,.slice none 0 0,.slice none 0 0,.slice none 0 0]) J rfl (by kernel_rfl)) rfl fun a J=>?_
 refine y1v J rfl rfl (fun w=>nC J rfl x1b rfl) rfl fun a J=>?_
 refine d_q J rfl rfl (fun w O=>wY 0 J O rfl rfl rfl isAgg3) rfl fun a J=>?_
 refine y6r J rfl rfl (jE 1 (cs:=[s,t,u,v]) (vs:=[.slice none 0 0,.slice none 0 0,.slice none 0 0,.slice none 0 0]) J N rfl rfl rfl rfl sizeOf27 rfl rfl rfl fun w N=>⟨fun _=>N.seesIn (Fz.Le.refl _) (by simp [wD]),fun a J=>?_⟩)
 refine y6r J rfl rfl (jE 2 (cs:=[x]) (vs:=[.int .i64 ((n:Nat):Int)]) J N rfl rfl rfl rfl sizeOf3 rfl rfl rfl fun w N=>⟨dG (by kernel_rfl),fun a J=>?_⟩)
 refine q1k ?_
 replace N:Mem V (.blk bc (ob [.slice none 0 0,.slice none 0 0,.slice none 0 0,.slice none 0 0] 27)::.blk bw (ob [.int .i64 ((n:Nat):Int)] 3)::K) w:=N.del 0
 exact j _ _ J.defs N
set_option maxRecDepth 20000 in
theorem catchR_none {w:World} {bc bw:Nat} :
  CallsD prog 124 #[.pointer (some ⟨bc,0,none⟩),.pointer (some ⟨bw,0,none⟩)] .returning w fun e u' w'=>e=.returned (.tuple #[])/\u'=.returning/\w'=w:=by
 generalize g:(fun (e:Ending) (u':FrameMode) (w':World)=>e=.returned (.tuple #[])/\u'=.returning/\w'=w)=R
 refine callsD_of_wpS func124 rfl fun c₀ cs d=>?_
 apply wpS_seq
 apply wpS_region
 show wpOpsS prog _ _ [0,1] _ _ _
 simp [wpOpsS,go_sem,recoverD,d,ntmps124,Exit.thenS]
 refine wpS_of_wp ?_
 have f:∀(a:Act),a.defers=[]->bodyPostS prog Tryz.f124 c₀ cs R .normal a (c₀::cs) w:=fun a i=>
  ⟨i,.returning,by cases c₀;simp only at d;subst d;rfl,.tuple #[],results_none rfl _ _ _,by subst g;exact ⟨rfl,rfl,rfl⟩⟩
 generalize b:(Act.mk _ [])=a
 have J:EnvR 19 [(2,.nilIface)] [] a:=by
  subst b
  refine ⟨by simp,fun t v h=>?_,rfl⟩
  obtain ⟨rfl,rfl⟩ | ⟨_,h⟩:=kV h
  ·simp
  ·cases h
 clear b
 refine sq fun j c=>?_
 refine wp_region_lit ?_
 refine jN J (xX J rfl) rfl fun a J=>?_
 refine jN J (aO (v:=.bool false) J rfl rfl rfl (by kernel_rfl)) rfl fun a J=>?_
 refine wpList_nil ?_
 apply c
 refine if_f J rfl ?_
 refine wp_skip ?_
 exact f _ J.defs
abbrev readKY (K:List Res) (l Dk rr rp:Nat) (r:Loop) (pre:List Bs) (z:Value):List Res :=
 .blk l (.loop r)::.blk Dk (.deferred (some []))::.blk rr (ob [z,.int .i64 ((0:Nat):Int)] 208)::.gs z 9 1 (strs pre)::.blk rp (ob [.pointer (some ⟨rr,0,none⟩)] 206)::K
set_option maxRecDepth 20000 in
set_option maxHeartbeats 4000000 in
theorem j1c {Ψ:Fz} {K c:List Res} {w:World} {l Dk rr rp n:Nat} {r:Loop} {pre:List Bs} {z:Value} {k:Bs} (q:pre.length < n) (B:n<=800000)
  (f:r.params=#[11]) (m:r.state=.ready) (j:r.pending=none)
  (y:∀(a:Act) (w:World),EnvR 96 [(11,.string k),(4,.pointer (some ⟨rp,0,none⟩))] [] a ->
   r.assign.wpIn (FO (some l)) 2 prog (Exit.then (fun p s=>EnvR 96 [(5,.string k),(4,.pointer (some ⟨rp,0,none⟩))] [] p/\s=w) (fun _ _ _=>False)) a w)
  (hb:∀(a:Act) (w:World) (K:List Res) (o:Obj),EnvR 96 [(5,.string k),(4,.pointer (some ⟨rp,0,none⟩))] [] a->Mem Ψ (.blk l o::.blk rr (ob [z,.int .i64 ((0:Nat):Int)] 208)::.gs z 9 1 (strs pre)::.blk rp (ob [.pointer (some ⟨rr,0,none⟩)] 206)::K) w ->
   r.body.wpIn (FO (some l)) 2 prog (fun e _ w=>e=.normal/\∃v,Mem Ψ (.blk l o::.blk rr (ob [v,.int .i64 ((0:Nat):Int)] 208)::.gs v 9 1 (strs (pre++[k]))::.blk rp (ob [.pointer (some ⟨rr,0,none⟩)] 206)::K) w) a w)
  (J:EnvR 96 [(4,.pointer (some ⟨rp,0,none⟩))] [] ⟨r.tmps,[]⟩) (N:Mem Ψ (c++readKY K l Dk rr rp r pre z) w) :
  YieldAt Fence.wide 2 prog l #[.string k] w (fun e w'=>e=.returned (.bool true)/\∃z',Mem Ψ (c++readKY K l Dk rr rp r (pre++[k]) z') w'):=by
 have b:Mem Ψ (readKY K l Dk rr rp r pre z++c) w:=N.perm List.perm_append_comm
 replace b:Mem Ψ (.blk l (.loop r)::.blk rr (ob [z,.int .i64 ((0:Nat):Int)] 208)::.gs z 9 1 (strs pre)::.blk rp (ob [.pointer (some ⟨rr,0,none⟩)] 206)::.blk Dk (.deferred (some []))::(K++c)) w :=
  ((((b.pull (i:=4) rfl).pull (i:=4) rfl).pull (i:=4) rfl).pull (i:=3) rfl)
 have hl:w.heap[l]? = some (.loop r):=b.own _ msQ
 refine ⟨r.fn,r.tmps.setIfInBounds 11 (.string k),r.assign,r.body,?_,?_⟩
 ·rw [run_yield hl (by rw [f];rfl),f,zip1];simp
 ·have g:EnvR 96 [(11,.string k),(4,.pointer (some ⟨rp,0,none⟩))] [] ⟨r.tmps.setIfInBounds 11 (.string k),[]⟩:=J.put (d:=11) rfl
  have h:=q6x (P:=prog) (E1:=fun (_:Unit)=>[(5,.string k),(4,.pointer (some ⟨rp,0,none⟩))]) (K1:=fun _=>.blk rr (ob [z,.int .i64 ((0:Nat):Int)] 208)::.gs z 9 1 (strs pre)::.blk rp (ob [.pointer (some ⟨rr,0,none⟩)] 206)::.blk Dk (.deferred (some []))::(K++c))
   (KO:=fun v=>.blk rr (ob [v,.int .i64 ((0:Nat):Int)] 208)::.gs v 9 1 (strs (pre++[k]))::.blk rp (ob [.pointer (some ⟨rr,0,none⟩)] 206)::.blk Dk (.deferred (some []))::(K++c)) b m j g
   (fun a J=>Code.wpIn_mono (fun e p s h=>by
    cases e with
    | normal=>exact ⟨(),h.1,h.2▸b⟩
    | _=>exact h) (y a w J)) (fun _ a w J N=>hb a w _ _ J N)
  refine h.mono fun e w' A=>?_
  obtain ⟨h1,v,t⟩:=A
  refine ⟨h1,v,?_⟩
  have u:Mem Ψ (readKY K l Dk rr rp r (pre++[k]) v++c) w':=(((((t.pull (i:=3) rfl).pull (i:=3) rfl).pull (i:=3) rfl).pull (i:=4) rfl).pull (i:=4) rfl)
  exact u.perm List.perm_append_comm
theorem q6t {P:Program} {fn:Func} {n:Nat} {E:List (Nat×Value)} {D:List Deferred} {a:Act} {V:Fz} {K:List Res} {w:World} {t u T U k i j b c:Nat} {v:Value} {cs:List Value} {g h:TypeId} (J:EnvR n E D a) (N:Sees V K w) (hr:fn.results=#[.cell u U,.cell t T]) (r:get E t=some (.pointer (some ⟨b,0,none⟩)))
  (q:qJ K i=some (.blk b (ob [v] g))) (p:Scalar P T) (f:get E u=some (.pointer (some ⟨c,0,none⟩))) (e:qJ K j=some (.blk c (ob cs h))) (d:AggT P U) (o:SizeT P U k) (hl:cs.length=k) :
  (results fn a.tmps).run P w=.ok (.tuple #[.agg cs.toArray,v]) w:=by
 have h1:w.cell? ⟨b,0,none⟩=some v:=N.cell q 0
 have l:=j2z (P:=P) J N f e d o hl
 have m:(loadVar T ⟨b,0,none⟩).run P w=.ok v w:=by simp [loadVar,Sem.run_bind,p w,Result.andThen,load,Sem.run,h1]
 simp [results,hr,Array.getD_eq_getD_getElem?,J.env t _ r,J.env u _ f,asAddr,l,m,Sem.run_bind,Result.andThen]
set_option maxRecDepth 20000 in
set_option maxHeartbeats 4000000 in
theorem read_ok {V:Fz} {K:List Res} {w:World} {t:Bs} (G:Glob V) (h2:t.size<=800000) (m:AscB t) (N:Mem V K w) :
  Calls prog 74 #[.string t] w (fun ee w'=>Out (z0b t)
   (fun C=>∃y:Fz×Value×Value×Value×Value,ee=.returned (.tuple #[.agg #[y.2.1,y.2.2.1,y.2.2.2.1,y.2.2.2.2],.int .i64 ((0:Nat):Int)])/\(V.Le y.1/\SliceOf RData y.1 2 y.2.1 C.datas/\SliceOf RParam y.1 2 y.2.2.1 C.inputs/\SliceOf RFun y.1 8 y.2.2.2.1 C.funs)/\Mem y.1 (.gs y.2.2.2.2 9 1 (strs C.outputs)::K) w')
   (fun n=>ee=.returned (.tuple #[.agg #[.slice none 0 0,.slice none 0 0,.slice none 0 0,.slice none 0 0],.int .i64 ((n:Nat):Int)])/\Mem V K w')):=by
 refine enterX func74 rfl ntmps74 rfl (fun Q hQ a J=>?_)
 refine sq fun L1 H=>?_
 refine wp_region_lit ?_
 refine st J rfl rfl rfl (wA (cs:=[.slice none 0 0,.slice none 0 0,.slice none 0 0,.slice none 0 0]) N zeroValue27 rfl fun c0 w N a J=>?_)
 refine st J rfl rfl rfl (wA (cs:=[.int .i64 ((0:Nat):Int)]) N zeroValue3 rfl fun wd w N a J=>?_)
 refine wpList_nil ?_
 apply H
 refine sq fun L2 I=>?_
 refine wp_region_lit ?_
 refine jN J (uT (vfs:=[]) (vcs:=[.pointer (some ⟨c0,0,none⟩),.pointer (some ⟨wd,0,none⟩)]) J rfl rfl) rfl fun a J=>?_
 refine z1q (fs:=[]) (cs:=[.pointer (some ⟨c0,0,none⟩),.pointer (some ⟨wd,0,none⟩)]) (vs:=[]) J rfl rfl fun a J=>?_
 refine wpList_nil ?_
 apply I
 refine sq fun L3 L=>?_
 refine wp_region_lit ?_
 refine jN J (z2u (vs:=[]) (cs:=[.slice none 0 0,.int .i64 ((0:Nat):Int)]) J rfl (by kernel_rfl)) rfl fun a J=>?_
 refine st J rfl rfl rfl (j3f (cs:=[.slice none 0 0,.int .i64 ((0:Nat):Int)]) J N rfl rfl fun rr w N a J=>?_)
 refine st J rfl rfl rfl (wA (cs:=[.pointer none]) N zeroValue206 rfl fun rp w N a J=>?_)
 refine st0 J rfl rfl (jE 0 (cs:=[.pointer none]) (vs:=[.pointer (some ⟨rr,0,none⟩)]) J N rfl rfl rfl rfl sizeOf206 rfl rfl rfl fun w N a J=>?_)
 refine wpList_nil ?_
 apply L
 replace N:Mem V (.blk rp (ob [.pointer (some ⟨rr,0,none⟩)] 206)::.blk rr (ob [.slice none 0 0,.int .i64 ((0:Nat):Int)] 208)::.blk wd (ob [.int .i64 ((0:Nat):Int)] 3)::.blk c0 (ob [.slice none 0 0,.slice none 0 0,.slice none 0 0,.slice none 0 0] 27)::K) w:=N
 refine sq fun L4 M=>?_
 refine sq fun L5 R=>?_
 refine wp_region_lit ?_
 refine jN J (xX J rfl) rfl fun a J=>?_
 refine st J rfl rfl rfl (z2i J rfl call125 (x5c N) (fun bx w _ N a J=>?_))
 refine wpList_nil ?_
 apply R
 refine wp_block ?_
 refine q8b (P:=prog) (β:=Value) (δ:=Unit) (gf:=174) (fs:=[]) (cs:=[.pointer (some ⟨bx,0,none⟩)]) (F1:=fun _=>V)
  (KO:=fun z=>.blk rr (ob [z,.int .i64 ((0:Nat):Int)] 208)::.gs z 9 1 (strs (sP t))::.blk rp (ob [.pointer (some ⟨rr,0,none⟩)] 206)::.blk wd (ob [.int .i64 ((0:Nat):Int)] 3)::.blk c0 (ob [.slice none 0 0,.slice none 0 0,.slice none 0 0,.slice none 0 0] 27)::K)
  (KE:=fun _=>K)
  (G:=fun _=>True) (B:=fun _ _=>False) J N rfl call174 ?_ ?_ ?_
 ·intro Dk l r w W has S X U T N
  have d:=N.nilRow 9 1
  replace d:Mem V (.blk bx (ob [.string t] 9)::readKY (.blk wd (ob [.int .i64 ((0:Nat):Int)] 3)::.blk c0 (ob [.slice none 0 0,.slice none 0 0,.slice none 0 0,.slice none 0 0] 27)::K) l Dk rr rp r [] (.slice none 0 0)) w :=
   ((((((d.pull (i:=4) rfl).pull (i:=1) rfl).pull (i:=5) rfl).pull (i:=4) rfl).pull (i:=4) rfl).pull (i:=5) rfl)
  have h:=j8m (l:=l) (KY:=readKY (.blk wd (ob [.int .i64 ((0:Nat):Int)] 3)::.blk c0 (ob [.slice none 0 0,.slice none 0 0,.slice none 0 0,.slice none 0 0] 27)::K) l Dk rr rp r) (by omega) m (fun pre z K0 k w p N=>?_) d
  ·refine h.mono fun e w' hh=>?_
   obtain ⟨z,rfl,b⟩:=hh
   exact .inl ⟨_,z,rfl,trivial,b⟩
  ·refine j1c (n:=t.size) p h2 W X U (fun a w J=>?_) (fun a w K o J N=>?_) (T.of_sub ⟨rfl,trivial⟩) N
   ·rw [has]
    refine wpIn_region_lit ?_
    refine mZ J (by intro c h;cases h) (dL J rfl) rfl fun a J=>?_
    refine wpListIn_nil ?_
    exact ⟨J.of_sub ⟨rfl,rfl,trivial⟩,rfl⟩
   ·rw [S]
    refine wpIn_block ?_
    refine y7g [2,2,1,1,2,1,0,0,1,1,0] (.q 0 (.q 1 (.q 2 (.q 3 (.q 4 (.q 5 (.e 6 (.e 7 (.q 8 (.q 9 (.e 10 (.done)))))))))))) [.blk rr (ob [z,.int .i64 ((0:Nat):Int)] 208),.blk rp (ob [.pointer (some ⟨rr,0,none⟩)] 206)] J N mixed (by kernel_rfl) (by simp) (by kernel_rfl) fun w N=>?_
    refine d_q J rfl rfl (fun w O=>wY 1 J O rfl rfl rfl isAgg206) rfl fun a J=>?_
    refine d_q J rfl rfl (fun w O=>wY 1 J O rfl rfl rfl isAgg206) rfl fun a J=>?_
    refine y1v J rfl rfl (fun w=>z4e J rfl) rfl fun a J=>?_
    refine y1v J rfl rfl (fun w=>nC J rfl y2l rfl) rfl fun a J=>?_
    refine d_q J rfl rfl (fun w O=>wY 0 J O rfl rfl rfl isAgg25) rfl fun a J=>?_
    refine y1v J rfl rfl (fun w=>xX J rfl) rfl fun a J=>?_
    refine d_e J rfl rfl rfl (mQ (sz:=1) (cs:=[.string k]) J N rfl (y0p runUnderlying25 sizeOf9 zeroValue9 rfl (by decide) rfl) rfl (by decide) fun v w N _=>⟨fun _=>N.seesIn (Fz.Le.refl _) (by simp),fun a J=>?_⟩)
    refine d_e J rfl rfl rfl (z3q 3 (xs:=strs pre) (news:=[.string k]) wM J N rfl rfl rfl (N.toSees.rowIn (i:=0) rfl) rfl (by simp [yF];omega) fun v2 w N=>⟨fun _=>N.seesIn (Fz.Le.refl _) (by simp [wD]),fun a J=>?_⟩)
    replace N:Mem V (.gs v 9 1 [.string k]::.blk l o::.blk rr (ob [z,.int .i64 ((0:Nat):Int)] 208)::.gs v2 9 1 (strs (pre++[k]))::.blk rp (ob [.pointer (some ⟨rr,0,none⟩)] 206)::K) w:=by rw [yQ];exact N
    refine y1v J rfl rfl (fun w=>z4e J rfl) rfl fun a J=>?_
    refine y1v J rfl rfl (fun w=>nC J rfl y2l rfl) rfl fun a J=>?_
    refine y6r J rfl rfl (jE 2 (cs:=[z,.int .i64 ((0:Nat):Int)]) (vs:=[v2]) J N rfl rfl rfl (N.toSees.gsCells (i:=3) rfl) sizeOf25 rfl (N.toSees.gsOne (i:=3) rfl) rfl fun w N=>⟨dG (by kernel_rfl),fun a J=>?_⟩)
    refine q1k ?_
    exact ⟨rfl,v2,N.del 0⟩
 ·intro Dk z a w _ J N
  apply M
  obtain ⟨Ψ,le,N,A⟩:=N.freezeRow (i:=2) rfl
  have rl:SliceOf RStr Ψ 1 z (sP t):=SliceOf.strs.2 A
  have D:(sP t).length<=1000000:=Nat.le_trans (sD t.size 0) (by omega)
  have Y:∀j,(zC (sP t) j).size<=1000000:=fun j=>j7i (fun s O=>Nat.le_trans (sE t.size 0 s O) (by omega)) j
  replace N:Mem Ψ (.blk rr (ob [z,.int .i64 ((0:Nat):Int)] 208)::.blk rp (ob [.pointer (some ⟨rr,0,none⟩)] 206)::.blk c0 (ob [.slice none 0 0,.slice none 0 0,.slice none 0 0,.slice none 0 0] 27)::.blk wd (ob [.int .i64 ((0:Nat):Int)] 3)::.blk Dk (.deferred (some []))::K) w:=((((N.pull (i:=3) rfl).pull (i:=4) rfl).pull (i:=4) rfl).pull (i:=4) rfl)
  refine j7o (ws:=sP t) (c0:=c0) (wd:=wd) (rp:=rp) (r:=rr) (G.mono le) (q6v D Y 250 (by decide)) rl D ?_ ?_ (J.of_sub ⟨rfl,rfl,rfl,trivial⟩) N
  ·intro Ψ2 a w C Z u1 u2 u3 E g r0 r1 r2 J N
   refine hQ _ _ _ ?_
   show gD _ _ _ _ a.defers _ _
   rw [J.defs]
   replace N:=N.pull (i:=3) rfl
   have F:w.heap[Dk]? = some (.deferred (some [])):=N.own _ msQ
   have b:=N.putObj (i:=0) (o':=.deferred none) rfl
   refine gJ (by simp) F (tX ?_)
   refine leaves_cons (f:=124) (args:=#[.pointer (some ⟨c0,0,none⟩),.pointer (some ⟨wd,0,none⟩)]) (by simp) (call124 _ _) ?_
   refine catchR_none.mono ?_
   rintro e u' w'' ⟨rfl,rfl,rfl⟩
   refine ⟨_,q6t (i:=2) (j:=1) J b.toSees results74 rfl rfl isAgg3 rfl rfl isAgg27 sizeOf27 rfl,?_⟩
   show Out (z0b t) _ _
   rw [show z0b t=.ok C from E]
   exact ⟨(Ψ2,Z,u1,u2,u3),rfl,⟨le.trans g,r0,r1,r2⟩,((b.del 0).del 0).del 0⟩
  ·intro Ψ2 a w n Z u1 u2 u3 x E g J N
   refine hQ _ _ _ ?_
   show gD _ _ _ _ a.defers _ _
   rw [J.defs]
   replace N:=N.pull (i:=2) rfl
   have F:w.heap[Dk]? = some (.deferred (some [])):=N.own _ msQ
   have b:=(N.putObj (i:=0) (o':=.deferred none) rfl)
   replace b:Mem Ψ2 (.blk c0 (ob [Z,u1,u2,u3] 27)::.blk wd (ob [x] 3)::.blk Dk (.deferred none)::K) (w.putObj Dk (.deferred none)):=(b.pull (i:=2) rfl).pull (i:=2) rfl
   refine gJ (by simp) F (tX ?_)
   refine leaves_cons (f:=124) (args:=#[.pointer (some ⟨c0,0,none⟩),.pointer (some ⟨wd,0,none⟩)]) (by simp) (call124 _ _) ?_
   refine (q1j b).mono ?_
   rintro e' u' w'' ⟨rfl,rfl,u⟩
   refine ⟨_,q6t (i:=1) (j:=0) J u.toSees results74 rfl rfl isAgg3 rfl rfl isAgg27 sizeOf27 rfl,?_⟩
   show Out (z0b t) _ _
   rw [show z0b t=.error n from E]
   exact ⟨rfl,(((u.del 0).del 0).del 0).le (le.trans g)⟩
 ·intro Dk y c a w hB J N
  exact hB.elim
end Go.Sw
