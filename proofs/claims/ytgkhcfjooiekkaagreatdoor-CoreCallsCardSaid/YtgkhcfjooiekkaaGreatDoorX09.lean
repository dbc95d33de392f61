import Derived.Laws.IdiomRangeMap
import Derived.Test.YtgkhcfjooiekkaaGreatDoorX08
set_option linter.unusedVariables false
set_option linter.unusedSimpArgs false
namespace Go.Sw
open Go.Proofs Go.Proofs.Tryz
set_option maxRecDepth 20000
set_option maxHeartbeats 4000000
theorem run1_ok {V:Fz} {K:List Res} {w:World} {p:Addr} {T:Table} {d0:List Value} {c:Core} {mg:Value} {inp:List (Bs×Val)} {fuel b0 b1 b2 b3 b4 b5 b6:Nat} (L:RCore V d0 c) (A0:RTable V p T) (rG:RGiven V mg inp) (hF:z1q T) (p5:c.outputs.length<=1000) (N6:fuel<=1000000)
  (h1:jI ⟨T.funs,inp⟩ c.outputs fuel≠.stuck) (N:Mem V (.blk b0 (ob d0 27)::.blk b1 (ob [.pointer (some p)] 89)::.blk b2 (ob [mg] 94)::.blk b3 (ob [.int .i64 ((fuel:Nat):Int)] 3)::.blk b4 (ob [.slice none 0 0] 93)::.blk b5 (ob [.slice none 0 0] 38)::.blk b6 (ob [.slice none 0 0,.int .i64 ((0:Nat):Int)] 30)::K) w) :
  Calls prog 46 #[.pointer (some ⟨b0,0,none⟩),.pointer (some ⟨b1,0,none⟩),.pointer (some ⟨b2,0,none⟩),.pointer (some ⟨b3,0,none⟩),.pointer (some ⟨b4,0,none⟩),.pointer (some ⟨b5,0,none⟩),.pointer (some ⟨b6,0,none⟩)] w (fun e w'=>Out (y1z (jI ⟨T.funs,inp⟩ c.outputs fuel))
   (fun x=>∃y:Fz×Value×List Int×Value,e=.returned (.int .i64 ((0:Nat):Int))/\(V.Le y.1/\gY y.2.2.1=((fuel - x.2:Nat):Int)/\y.2.2.1.length<=1000/\SliceOf RNamed y.1 4 y.2.2.2 (jN c.outputs x.1)/\NewRow V y.2.2.2)/\Mem y.1 (.blk b4 (ob [y.2.1] 93)::.gs y.2.1 3 1 (z4k y.2.2.1)::.blk b6 (ob [y.2.2.2,.int .i64 ((0:Nat):Int)] 30)::K) w')
   (fun c=>(e=.returned (.int .i64 ((c:Nat):Int))∨c=4/\e=.panicked (tR ()))/\Mem V K w')):=by
 obtain ⟨p3,c4,p9,O1,f2,P1,J4,c22,rfl,h2,h8,G6,i0,Q6,R6,q5,x5,r5,y5,s5,G1⟩:=RCore.fm L
 obtain ⟨W4,S6,T6,U6,V6,C6,D6,x1,E6,t,V3,n1,D5,G5,E5,H5,G0,j0,F5,I5⟩:=A0.ex
 obtain ⟨W6,z6,X6,A6,Y6,B6,Z6,c66,rfl,I6,J6,K6,L6,t5,z5,u5,A5,v5,B5,w5,C5⟩:=RCore.fm n1
 have z1:=N
 clear z1
 refine zK func46 ntmps46 fun Q hQ a J=>?_
 refine go fun a J=>?_
 replace N:=N.nilRow 3 1
 replace N:=N.nf
 replace N:=N.nilRow 42 3
 replace N:=N.nf
 refine go fun a J=>?_
 refine zU (J.ks [0,1,2,3,4,5,6,16,17]) N (fun R mm a w=>∃(M0:Fz) (i:Nat) (u:Value) (cl:List Int) (uv:Value) (cs:List Value) (xs:List Val) (g1:Nat),mm=c.outputs.length - i/\R M0 [(18,.int .i64 ((i:Nat):Int))] [(0,.gs (uv) 42 3 cs),(1,.gs (u) 3 1 (z4k cl)),(6,.blk b4 (ob [u] 93)),(7,.blk b5 (ob [uv] 38))] a w/\(V.Le M0/\(Chunks (RVal M0) 3 cs xs/\xs.length=i/\i<=c.outputs.length/\g1<=fuel/\cl.length=i/\gY cl=((fuel - g1:Nat):Int)/\jI ⟨T.funs,inp⟩ c.outputs fuel=(jI ⟨T.funs,inp⟩ (c.outputs.drop i) g1).bind fun vs g2=>.ok (xs++vs) g2))) (c.outputs.length - 0) ⟨V,0,.slice none 0 0,[],.slice none 0 0,[],[],fuel,rfl,⟨J.pk,N⟩,⟨Fz.Le.refl _,⟨rfl,rfl,Nat.zero_le _,Nat.le_refl _,rfl,by simp [gY],y2h _⟩⟩⟩ ?_
 clear N J
 rintro mm a w ⟨M0,i,u,cl,uv,cs,xs,g1,F,⟨J,N⟩,j1⟩ y6 A
 replace N:=N.nf
 obtain ⟨b,j1⟩:=j1
 replace i0:=i0.up b
 replace L:=L.up b
 replace A0:=A0.mono b
 replace rG:=RGiven.mono b rG
 replace t:=t.mono b
 replace G0:=G0.mono b
 replace j0:=j0.up b
 obtain ⟨hch,H,P6,O6,G,n,B⟩:=j1
 by_cases z2:i < c.outputs.length
 refine go fun a J=>?_
 obtain ⟨J2,rfl,u1,d,w2,o5,F0,A2⟩:=i0.el G1 z2
 obtain rfl:w2=[.string u1]:=A2
 refine Alc fun K0 w N a J=>?_
 refine Sto 0 fun w N a J=>?_
 refine go fun a J=>?_
 refine yE [2,2,2,2,0,1,1,0,0] (.q 0 (.q 1 (.q 2 (.q 3 (.e2 4 7 (.q 5 (.q 6 (.e 7 (.e 8 (.done))))) (.e 4 (.q 5 (.q 6 (.e 8 (.done)))))))))) [0,1,3,4,5,6,7,8,9] J N fun w N=>?_
 refine go fun a J=>?_
 refine wN ?_ ?_
 replace N:=N.pl 2
 refine zO call47 (fun w N a J=>?_) (c:=y7d (l:=cl) (by omega) N)
 refine Qq (fun a J=>?_) (o:=by exact fun J O=>xX ((g1:Nat):Int) J rfl rfl (by rw [n,yD (by omega)];omega))
 refine Qq (fun a J=>?_) (o:=by exact fun J O=>z4i (vs:=[(0,.pointer (some p)),(1,mg),(2,.pointer (some ⟨K0,0,none⟩)),(3,.int .i64 ((g1:Nat):Int))]) (cs:=[.pointer (some p),mg,.pointer (some ⟨K0,0,none⟩),.int .i64 ((g1:Nat):Int)]) J rfl (by rcases rG with ⟨_,_,h_,_⟩ | ⟨h_,_⟩ <;> rw [h_] <;> kernel_rfl))
 refine Alc fun S3 w N a J=>?_
 refine y9b J rfl rfl (jR 0 (cs:=[.pointer none,.map none,.pointer none,.int .i64 ((0:Nat):Int)]) (vs:=[.pointer (some p),mg,.pointer (some ⟨K0,0,none⟩),.int .i64 ((g1:Nat):Int)]) J N rfl rfl rfl rfl sizeOf99 rfl (by simp only [List.all_cons,RGiven.one rG];rfl) rfl fun w N=>⟨gN (by kernel_rfl),fun a J=>?_⟩)
 replace N:=N.nf
 refine go fun a J=>?_
 refine yE [2,2,1,1,2,1,2,0,0,0] (.q 0 (.q 1 (.q 2 (.q 3 (.q 4 (.q 5 (.q 6 (.e2 7 8 (.e 8 (.e 9 (.done))) (.e 7 (.e 9 (.done))))))))))) [0,1,3,4,5,6,7,8,9,10] J N fun w N=>?_
 replace N:Mem M0 (.blk S3 (ob [.pointer (some p),mg,.pointer (some ⟨K0,0,none⟩),.int .i64 ((g1:Nat):Int)] 99)::.gs (u) 3 1 (z4k cl)::.blk K0 (ob [.int .i64 ((g1 - g1:Nat):Int)] 3)::.gs (uv) 42 3 cs::.blk b0 (ob [.slice p3 c.datas.length c4,.slice p9 c.inputs.length O1,.slice f2 c.funs.length P1,.slice (some J2) c.outputs.length c22] 27)::.blk b1 (ob [.pointer (some p)] 89)::.blk b2 (ob [mg] 94)::.blk b3 (ob [.int .i64 ((fuel:Nat):Int)] 3)::.blk b4 (ob [u] 93)::.blk b5 (ob [uv] 38)::.blk b6 (ob [.slice none 0 0,.int .i64 ((0:Nat):Int)] 30)::K) w:=by rw [Nat.sub_self];exact N
 refine go fun a J=>?_
 rcases p1:yY (x1) u1 with _ | x6
 exact absurd (by rw [B,zA d,z5n (MapRel.none j0 p1)];rfl) h1
 obtain ⟨L0,E,X4,rfl,H0⟩:=j0.get p1
 obtain ⟨a7,O4,rfl,x2,Q0⟩:=id H0
 obtain ⟨B2,o2,rfl,i4,w4⟩:=x2.fm
 obtain ⟨C2,p2,D2,q2,rfl,W3,e5,f5,j4,x4,k4,y4⟩:=REx.fm Q0
 have Y1:=congrArg (zN false (.agg #[.string ⟨#[]⟩,.slice none 0 0,.string ⟨#[]⟩,.int .i64 ((0:Nat):Int),.int .i64 ((0:Nat):Int),.string ⟨#[]⟩,.slice none 0 0,.slice none 0 0])) p1
 refine Qq (fun a J=>?_) (o:=by exact fun J O=>Ok.cast (yB runUnderlying103 runUnderlying9 zeroValue68 J O rfl rfl G0) (show zN false (.agg #[.string ⟨#[]⟩,.slice none 0 0,.string ⟨#[]⟩,.int .i64 ((0:Nat):Int),.int .i64 ((0:Nat):Int),.string ⟨#[]⟩,.slice none 0 0,.slice none 0 0]) (yY (x1) u1)=.agg #[.string L0.name,.slice B2 L0.params.length o2,.string L0.result,.int .i64 (L0.body.kind),.int .i64 (L0.body.num),.string L0.body.name,.slice C2 L0.body.args.length p2,.slice D2 L0.body.arms.length q2] from Y1))
 refine wN ?_ ?_
 have q0:=h1
 rw [B,zA d,aV E] at q0
 replace q0:=qJ (r:=xC (yM ⟨T.funs,inp⟩) L0 [] g1) (qJ q0)
 replace N:=N.pl 2
 refine vS call48 (fun I1 J3 w Y0 R1 N a J=>?_) (fun I1 w Y0 N=>?_) (c:=z1u hF g1 A0 rG H0 (SliceOf.nil 3) (hF _ _ E).1 (hF _ _ E).2 (Nat.le_refl _) (by omega) q0 N)
 obtain ⟨f,M⟩:=I1
 obtain ⟨B0,Y4⟩:=J3
 obtain ⟨v,W⟩:=R1
 have a0:=jL Y0
 simp only at v W N J a0
 have O3:=nQ a0
 replace i0:=i0.up v
 replace L:=L.up v
 replace A0:=A0.mono v
 replace rG:=RGiven.mono v rG
 replace t:=t.mono v
 replace G0:=G0.mono v
 replace j0:=j0.up v
 replace hch:=hch.mono fun _ _ h=>h.up v
 replace F0:=F0.mono v
 replace H0:=H0.up v
 replace Q0:=Q0.up v
 replace N:=N.nf
 obtain ⟨w0,m0,rfl,X3,g5,l4,z4⟩:=RVal.fm W
 refine Alc fun P4 w N a J=>?_
 refine Sto 0 fun w N a J=>?_
 refine go fun a J=>?_
 refine yE [2,2,0,0,2,0,0,0,0,0] (.q 0 (.q 1 (.q 4 (.e2 2 5 (.e2 3 5 (.e 5 (.e 6 (.e 7 (.e 8 (.e 9 (.done)))))) (.e2 3 6 (.e 6 (.e 7 (.e 8 (.e 9 (.done))))) (.e 3 (.e 7 (.e 8 (.e 9 (.done))))))) (.e2 2 6 (.e2 3 6 (.e 6 (.e 7 (.e 8 (.e 9 (.done))))) (.e 3 (.e 7 (.e 8 (.e 9 (.done)))))) (.e 2 (.e 3 (.e 7 (.e 8 (.e 9 (.done))))))))))) [0,1,2,5,6,7,8,9,10,11] J N fun w N=>?_
 refine go fun a J=>?_
 refine wN ?_ ?_
 refine qF fun N5 w N a J=>?_
 refine wN ?_ ?_
 refine qQ 4 mQ (fun K2 w N a J=>?_)
 rw [<- qY] at N
 refine d_e J rfl rfl rfl (mF (jC 1 (vs:=[.string f.con,.int .i64 (f.num),.slice w0 f.args.length m0]) J N.toSees rfl rfl isAgg42 sizeOf42 rfl rfl) ⟨fun _=>N.sn (Fz.Le.refl _),fun a J=>?_⟩)
 refine qF fun v143 w N a J=>?_
 refine qQ 6 pE (fun L2 w N a J=>?_)
 refine Sto 11 fun w N a J=>?_
 refine Sto 12 fun w N a J=>?_
 refine go fun a J=>?_
 replace N:=N.ar [4,3,2,1,0] [8,8,8,8,8,8,8,7,8]
 refine A _ _ _ (by subst F;omega) ⟨(B0),(i+1),(K2),((cl++[((g1 - M:Nat):Int)])),(L2),((cs++[.string f.con,.int .i64 (f.num),.slice w0 f.args.length m0])),(xs++[f]),(M),rfl,⟨J.pk,by exact N⟩,?_⟩
 refine ⟨(b).trans v,?_⟩
 refine ⟨hch.snoc rfl W,by simp [H],by omega,by omega,by simp [G],?_,?_⟩
 rw [yX,n,yD (by omega)];omega
 rw [B,zA d]
 exact yL E a0
 refine d_e J rfl rfl rfl (mF (jC 1 (vs:=[.string f.con,.int .i64 (f.num),.slice w0 f.args.length m0]) J N.toSees rfl rfl isAgg42 sizeOf42 rfl rfl) ⟨fun _=>N.sn (Fz.Le.refl _),fun a J=>?_⟩)
 refine wN ?_ ?_
 refine qQ 4 mQ (fun v145 w N a J=>?_)
 rw [<- qY] at N
 refine qF fun v146 w N a J=>?_
 refine qQ 6 pE (fun M2 w N a J=>?_)
 refine Sto 11 fun w N a J=>?_
 refine Sto 12 fun w N a J=>?_
 refine go fun a J=>?_
 replace N:=N.ar [4,3,2,1,0] [8,8,8,8,8,8,8,7,8]
 refine A _ _ _ (by subst F;omega) ⟨(B0),(i+1),(v145),((cl++[((g1 - M:Nat):Int)])),(M2),((cs++[.string f.con,.int .i64 (f.num),.slice w0 f.args.length m0])),(xs++[f]),(M),rfl,⟨J.pk,by exact N⟩,?_⟩
 refine ⟨(b).trans v,?_⟩
 refine ⟨hch.snoc rfl W,by simp [H],by omega,by omega,by simp [G],?_,?_⟩
 rw [yX,n,yD (by omega)];omega
 rw [B,zA d]
 exact yL E a0
 refine qF fun O5 w N a J=>?_
 refine qQ 5 mQ (fun N2 w N a J=>?_)
 rw [<- qY] at N
 refine qQ 6 pE (fun O2 w N a J=>?_)
 refine Sto 11 fun w N a J=>?_
 refine Sto 12 fun w N a J=>?_
 refine go fun a J=>?_
 replace N:=N.ar [4,3,2,1,0] [8,8,8,8,8,8,8,7,8]
 refine A _ _ _ (by subst F;omega) ⟨(B0),(i+1),(N2),((cl++[((g1 - M:Nat):Int)])),(O2),((cs++[.string f.con,.int .i64 (f.num),.slice w0 f.args.length m0])),(xs++[f]),(M),rfl,⟨J.pk,by exact N⟩,?_⟩
 refine ⟨(b).trans v,?_⟩
 refine ⟨hch.snoc rfl W,by simp [H],by omega,by omega,by simp [G],?_,?_⟩
 rw [yX,n,yD (by omega)];omega
 rw [B,zA d]
 exact yL E a0
 refine d_e J rfl rfl rfl (mF (jC 0 (vs:=[.string f.con,.int .i64 (f.num),.slice w0 f.args.length m0]) J N.toSees rfl rfl isAgg42 sizeOf42 rfl rfl) ⟨fun _=>N.sn (Fz.Le.refl _),fun a J=>?_⟩)
 refine wN ?_ ?_
 refine qF fun P5 w N a J=>?_
 refine wN ?_ ?_
 refine qQ 4 mQ (fun P2 w N a J=>?_)
 rw [<- qY] at N
 refine qF fun Q5 w N a J=>?_
 refine qQ 6 pE (fun Q2 w N a J=>?_)
 refine Sto 11 fun w N a J=>?_
 refine Sto 12 fun w N a J=>?_
 refine go fun a J=>?_
 replace N:=N.ar [4,3,2,1,0] [8,8,8,8,8,8,8,7,8]
 refine A _ _ _ (by subst F;omega) ⟨(B0),(i+1),(P2),((cl++[((g1 - M:Nat):Int)])),(Q2),((cs++[.string f.con,.int .i64 (f.num),.slice w0 f.args.length m0])),(xs++[f]),(M),rfl,⟨J.pk,by exact N⟩,?_⟩
 refine ⟨(b).trans v,?_⟩
 refine ⟨hch.snoc rfl W,by simp [H],by omega,by omega,by simp [G],?_,?_⟩
 rw [yX,n,yD (by omega)];omega
 rw [B,zA d]
 exact yL E a0
 refine qF fun R5 w N a J=>?_
 refine qQ 5 mQ (fun R2 w N a J=>?_)
 rw [<- qY] at N
 refine qQ 6 pE (fun S2 w N a J=>?_)
 refine Sto 11 fun w N a J=>?_
 refine Sto 12 fun w N a J=>?_
 refine go fun a J=>?_
 replace N:=N.ar [4,3,2,1,0] [8,8,8,8,8,8,8,7,8]
 refine A _ _ _ (by subst F;omega) ⟨(B0),(i+1),(R2),((cl++[((g1 - M:Nat):Int)])),(S2),((cs++[.string f.con,.int .i64 (f.num),.slice w0 f.args.length m0])),(xs++[f]),(M),rfl,⟨J.pk,by exact N⟩,?_⟩
 refine ⟨(b).trans v,?_⟩
 refine ⟨hch.snoc rfl W,by simp [H],by omega,by omega,by simp [G],?_,?_⟩
 rw [yX,n,yD (by omega)];omega
 rw [B,zA d]
 exact yL E a0
 refine qF fun S5 w N a J=>?_
 refine qF fun T5 w N a J=>?_
 refine qQ 5 mQ (fun T2 w N a J=>?_)
 rw [<- qY] at N
 refine qQ 6 pE (fun U2 w N a J=>?_)
 refine Sto 11 fun w N a J=>?_
 refine Sto 12 fun w N a J=>?_
 refine go fun a J=>?_
 replace N:=N.ar [4,3,2,1,0] [8,8,8,8,8,8,8,7,8]
 refine A _ _ _ (by subst F;omega) ⟨(B0),(i+1),(T2),((cl++[((g1 - M:Nat):Int)])),(U2),((cs++[.string f.con,.int .i64 (f.num),.slice w0 f.args.length m0])),(xs++[f]),(M),rfl,⟨J.pk,by exact N⟩,?_⟩
 refine ⟨(b).trans v,?_⟩
 refine ⟨hch.snoc rfl W,by simp [H],by omega,by omega,by simp [G],?_,?_⟩
 rw [yX,n,yD (by omega)];omega
 rw [B,zA d]
 exact yL E a0
 have A1:=qW Y0 q0
 replace N:=N.dl [10,9,8,7,6,5,4,3,2,1,0]
 exact z6k (aI (by rw [B,zA d];exact pN E A1)) ⟨.inr ⟨rfl,rfl⟩,N.le (b)⟩
 refine Alc fun Q4 w N a J=>?_
 have r0:=h1
 rw [B,zA d,aV E] at r0
 replace r0:=qJ (r:=xC (yM ⟨T.funs,inp⟩) L0 [] g1) (qJ r0)
 replace N:=N.pl 3
 refine vS call48 (fun J1 K3 w Z0 S1 N a J=>?_) (fun J1 w Z0 N=>?_) (c:=z1u hF g1 A0 rG H0 (SliceOf.nil 3) (hF _ _ E).1 (hF _ _ E).2 (Nat.le_refl _) (by omega) r0 N)
 obtain ⟨g,P⟩:=J1
 obtain ⟨C0,Z4⟩:=K3
 obtain ⟨z,X⟩:=S1
 have c0:=jL Z0
 simp only at z X N J c0
 have P3:=nQ c0
 replace i0:=i0.up z
 replace L:=L.up z
 replace A0:=A0.mono z
 replace rG:=RGiven.mono z rG
 replace t:=t.mono z
 replace G0:=G0.mono z
 replace j0:=j0.up z
 replace hch:=hch.mono fun _ _ h=>h.up z
 replace F0:=F0.mono z
 replace H0:=H0.up z
 replace Q0:=Q0.up z
 replace N:=N.nf
 obtain ⟨x0,n0,rfl,Y3,h5,m4,A4⟩:=RVal.fm X
 refine Sto 1 fun w N a J=>?_
 refine go fun a J=>?_
 refine yE [2,2,0,0,2,0,0,0,0,0] (.q 0 (.q 1 (.q 4 (.e2 2 5 (.e2 3 5 (.e 5 (.e 6 (.e 7 (.e 8 (.e 9 (.done)))))) (.e2 3 6 (.e 6 (.e 7 (.e 8 (.e 9 (.done))))) (.e 3 (.e 7 (.e 8 (.e 9 (.done))))))) (.e2 2 6 (.e2 3 6 (.e 6 (.e 7 (.e 8 (.e 9 (.done))))) (.e 3 (.e 7 (.e 8 (.e 9 (.done)))))) (.e 2 (.e 3 (.e 7 (.e 8 (.e 9 (.done))))))))))) [0,1,2,5,6,7,8,9,10,11] J N fun w N=>?_
 refine go fun a J=>?_
 refine wN ?_ ?_
 refine qF fun U5 w N a J=>?_
 refine wN ?_ ?_
 refine qQ 4 mQ (fun V2 w N a J=>?_)
 rw [<- qY] at N
 refine d_e J rfl rfl rfl (mF (jC 2 (vs:=[.string g.con,.int .i64 (g.num),.slice x0 g.args.length n0]) J N.toSees rfl rfl isAgg42 sizeOf42 rfl rfl) ⟨fun _=>N.sn (Fz.Le.refl _),fun a J=>?_⟩)
 refine qF fun V5 w N a J=>?_
 refine qQ 6 pE (fun W2 w N a J=>?_)
 refine Sto 11 fun w N a J=>?_
 refine Sto 12 fun w N a J=>?_
 refine go fun a J=>?_
 replace N:=N.ar [4,3,2,1,0] [8,8,8,8,8,8,8,7,8]
 refine A _ _ _ (by subst F;omega) ⟨(C0),(i+1),(V2),((cl++[((g1 - P:Nat):Int)])),(W2),((cs++[.string g.con,.int .i64 (g.num),.slice x0 g.args.length n0])),(xs++[g]),(P),rfl,⟨J.pk,by exact N⟩,?_⟩
 refine ⟨(b).trans z,?_⟩
 refine ⟨hch.snoc rfl X,by simp [H],by omega,by omega,by simp [G],?_,?_⟩
 rw [yX,n,yD (by omega)];omega
 rw [B,zA d]
 exact yL E c0
 refine d_e J rfl rfl rfl (mF (jC 2 (vs:=[.string g.con,.int .i64 (g.num),.slice x0 g.args.length n0]) J N.toSees rfl rfl isAgg42 sizeOf42 rfl rfl) ⟨fun _=>N.sn (Fz.Le.refl _),fun a J=>?_⟩)
 refine wN ?_ ?_
 refine qQ 4 mQ (fun X2 w N a J=>?_)
 rw [<- qY] at N
 refine qF fun W5 w N a J=>?_
 refine qQ 6 pE (fun Y2 w N a J=>?_)
 refine Sto 11 fun w N a J=>?_
 refine Sto 12 fun w N a J=>?_
 refine go fun a J=>?_
 replace N:=N.ar [4,3,2,1,0] [8,8,8,8,8,8,8,7,8]
 refine A _ _ _ (by subst F;omega) ⟨(C0),(i+1),(X2),((cl++[((g1 - P:Nat):Int)])),(Y2),((cs++[.string g.con,.int .i64 (g.num),.slice x0 g.args.length n0])),(xs++[g]),(P),rfl,⟨J.pk,by exact N⟩,?_⟩
 refine ⟨(b).trans z,?_⟩
 refine ⟨hch.snoc rfl X,by simp [H],by omega,by omega,by simp [G],?_,?_⟩
 rw [yX,n,yD (by omega)];omega
 rw [B,zA d]
 exact yL E c0
 refine qF fun X5 w N a J=>?_
 refine qQ 5 mQ (fun Z2 w N a J=>?_)
 rw [<- qY] at N
 refine qQ 6 pE (fun a3 w N a J=>?_)
 refine Sto 11 fun w N a J=>?_
 refine Sto 12 fun w N a J=>?_
 refine go fun a J=>?_
 replace N:=N.ar [4,3,2,1,0] [8,8,8,8,8,8,8,7,8]
 refine A _ _ _ (by subst F;omega) ⟨(C0),(i+1),(Z2),((cl++[((g1 - P:Nat):Int)])),(a3),((cs++[.string g.con,.int .i64 (g.num),.slice x0 g.args.length n0])),(xs++[g]),(P),rfl,⟨J.pk,by exact N⟩,?_⟩
 refine ⟨(b).trans z,?_⟩
 refine ⟨hch.snoc rfl X,by simp [H],by omega,by omega,by simp [G],?_,?_⟩
 rw [yX,n,yD (by omega)];omega
 rw [B,zA d]
 exact yL E c0
 refine d_e J rfl rfl rfl (mF (jC 1 (vs:=[.string g.con,.int .i64 (g.num),.slice x0 g.args.length n0]) J N.toSees rfl rfl isAgg42 sizeOf42 rfl rfl) ⟨fun _=>N.sn (Fz.Le.refl _),fun a J=>?_⟩)
 refine wN ?_ ?_
 refine qF fun Y5 w N a J=>?_
 refine wN ?_ ?_
 refine qQ 4 mQ (fun d3 w N a J=>?_)
 rw [<- qY] at N
 refine qF fun Z5 w N a J=>?_
 refine qQ 6 pE (fun e3 w N a J=>?_)
 refine Sto 11 fun w N a J=>?_
 refine Sto 12 fun w N a J=>?_
 refine go fun a J=>?_
 replace N:=N.ar [4,3,2,1,0] [8,8,8,8,8,8,8,7,8]
 refine A _ _ _ (by subst F;omega) ⟨(C0),(i+1),(d3),((cl++[((g1 - P:Nat):Int)])),(e3),((cs++[.string g.con,.int .i64 (g.num),.slice x0 g.args.length n0])),(xs++[g]),(P),rfl,⟨J.pk,by exact N⟩,?_⟩
 refine ⟨(b).trans z,?_⟩
 refine ⟨hch.snoc rfl X,by simp [H],by omega,by omega,by simp [G],?_,?_⟩
 rw [yX,n,yD (by omega)];omega
 rw [B,zA d]
 exact yL E c0
 refine qF fun a6 w N a J=>?_
 refine qQ 5 mQ (fun f3 w N a J=>?_)
 rw [<- qY] at N
 refine qQ 6 pE (fun g3 w N a J=>?_)
 refine Sto 11 fun w N a J=>?_
 refine Sto 12 fun w N a J=>?_
 refine go fun a J=>?_
 replace N:=N.ar [4,3,2,1,0] [8,8,8,8,8,8,8,7,8]
 refine A _ _ _ (by subst F;omega) ⟨(C0),(i+1),(f3),((cl++[((g1 - P:Nat):Int)])),(g3),((cs++[.string g.con,.int .i64 (g.num),.slice x0 g.args.length n0])),(xs++[g]),(P),rfl,⟨J.pk,by exact N⟩,?_⟩
 refine ⟨(b).trans z,?_⟩
 refine ⟨hch.snoc rfl X,by simp [H],by omega,by omega,by simp [G],?_,?_⟩
 rw [yX,n,yD (by omega)];omega
 rw [B,zA d]
 exact yL E c0
 refine qF fun c6 w N a J=>?_
 refine qF fun d6 w N a J=>?_
 refine qQ 5 mQ (fun h3 w N a J=>?_)
 rw [<- qY] at N
 refine qQ 6 pE (fun i3 w N a J=>?_)
 refine Sto 11 fun w N a J=>?_
 refine Sto 12 fun w N a J=>?_
 refine go fun a J=>?_
 replace N:=N.ar [4,3,2,1,0] [8,8,8,8,8,8,8,7,8]
 refine A _ _ _ (by subst F;omega) ⟨(C0),(i+1),(h3),((cl++[((g1 - P:Nat):Int)])),(i3),((cs++[.string g.con,.int .i64 (g.num),.slice x0 g.args.length n0])),(xs++[g]),(P),rfl,⟨J.pk,by exact N⟩,?_⟩
 refine ⟨(b).trans z,?_⟩
 refine ⟨hch.snoc rfl X,by simp [H],by omega,by omega,by simp [G],?_,?_⟩
 rw [yX,n,yD (by omega)];omega
 rw [B,zA d]
 exact yL E c0
 have B1:=qW Z0 r0
 replace N:=N.dl [11,10,9,8,7,6,5,4,3,2,1,0]
 exact z6k (aI (by rw [B,zA d];exact pN E B1)) ⟨.inr ⟨rfl,rfl⟩,N.le (b)⟩
 refine Alc fun m2 w N a J=>?_
 replace N:=N.pl 3
 refine zO call47 (fun w N a J=>?_) (c:=y7d (l:=cl) (by omega) N)
 refine Qq (fun a J=>?_) (o:=by exact fun J O=>xX ((g1:Nat):Int) J rfl rfl (by rw [n,yD (by omega)];omega))
 refine Qq (fun a J=>?_) (o:=by exact fun J O=>z4i (vs:=[(0,.pointer (some p)),(1,mg),(2,.pointer (some ⟨K0,0,none⟩)),(3,.int .i64 ((g1:Nat):Int))]) (cs:=[.pointer (some p),mg,.pointer (some ⟨K0,0,none⟩),.int .i64 ((g1:Nat):Int)]) J rfl (by rcases rG with ⟨_,_,h_,_⟩ | ⟨h_,_⟩ <;> rw [h_] <;> kernel_rfl))
 refine y9b J rfl rfl (jR 1 (cs:=[.pointer none,.map none,.pointer none,.int .i64 ((0:Nat):Int)]) (vs:=[.pointer (some p),mg,.pointer (some ⟨K0,0,none⟩),.int .i64 ((g1:Nat):Int)]) J N rfl rfl rfl rfl sizeOf99 rfl (by simp only [List.all_cons,RGiven.one rG];rfl) rfl fun w N=>⟨gN (by kernel_rfl),fun a J=>?_⟩)
 replace N:=N.nf
 refine go fun a J=>?_
 refine yE [2,2,1,1,2,1,2,0,0,0] (.q 0 (.q 1 (.q 2 (.q 3 (.q 4 (.q 5 (.q 6 (.e2 7 8 (.e 8 (.e 9 (.done))) (.e 7 (.e 9 (.done))))))))))) [0,1,3,4,5,6,7,8,9,10] J N fun w N=>?_
 replace N:Mem M0 (.gs (u) 3 1 (z4k cl)::.blk m2 (ob [.pointer (some p),mg,.pointer (some ⟨K0,0,none⟩),.int .i64 ((g1:Nat):Int)] 99)::.blk K0 (ob [.int .i64 ((g1 - g1:Nat):Int)] 3)::.gs (uv) 42 3 cs::.blk b0 (ob [.slice p3 c.datas.length c4,.slice p9 c.inputs.length O1,.slice f2 c.funs.length P1,.slice (some J2) c.outputs.length c22] 27)::.blk b1 (ob [.pointer (some p)] 89)::.blk b2 (ob [mg] 94)::.blk b3 (ob [.int .i64 ((fuel:Nat):Int)] 3)::.blk b4 (ob [u] 93)::.blk b5 (ob [uv] 38)::.blk b6 (ob [.slice none 0 0,.int .i64 ((0:Nat):Int)] 30)::K) w:=by rw [Nat.sub_self];exact N
 refine go fun a J=>?_
 rcases X0:yY (x1) u1 with _ | M4
 exact absurd (by rw [B,zA d,z5n (MapRel.none j0 X0)];rfl) h1
 obtain ⟨k0,s,T3,rfl,l0⟩:=j0.get X0
 obtain ⟨M5,R4,rfl,y2,R0⟩:=id l0
 obtain ⟨E2,r2,rfl,n4,B4⟩:=y2.fm
 obtain ⟨F2,s2,G2,t2,rfl,Z3,i5,j5,o4,C4,p4,D4⟩:=REx.fm R0
 have y1:=congrArg (zN false (.agg #[.string ⟨#[]⟩,.slice none 0 0,.string ⟨#[]⟩,.int .i64 ((0:Nat):Int),.int .i64 ((0:Nat):Int),.string ⟨#[]⟩,.slice none 0 0,.slice none 0 0])) X0
 refine Qq (fun a J=>?_) (o:=by exact fun J O=>Ok.cast (yB runUnderlying103 runUnderlying9 zeroValue68 J O rfl rfl G0) (show zN false (.agg #[.string ⟨#[]⟩,.slice none 0 0,.string ⟨#[]⟩,.int .i64 ((0:Nat):Int),.int .i64 ((0:Nat):Int),.string ⟨#[]⟩,.slice none 0 0,.slice none 0 0]) (yY (x1) u1)=.agg #[.string k0.name,.slice E2 k0.params.length r2,.string k0.result,.int .i64 (k0.body.kind),.int .i64 (k0.body.num),.string k0.body.name,.slice F2 k0.body.args.length s2,.slice G2 k0.body.arms.length t2] from y1))
 refine wN ?_ ?_
 have s0:=h1
 rw [B,zA d,aV s] at s0
 replace s0:=qJ (r:=xC (yM ⟨T.funs,inp⟩) k0 [] g1) (qJ s0)
 replace N:=N.pl 2
 refine vS call48 (fun K1 L3 w a1 T1 N a J=>?_) (fun K1 w a1 N=>?_) (c:=z1u hF g1 A0 rG l0 (SliceOf.nil 3) (hF _ _ s).1 (hF _ _ s).2 (Nat.le_refl _) (by omega) s0 N)
 obtain ⟨j,S⟩:=K1
 obtain ⟨D0,a5⟩:=L3
 obtain ⟨C,Y⟩:=T1
 have e0:=jL a1
 simp only at C Y N J e0
 have Q3:=nQ e0
 replace i0:=i0.up C
 replace L:=L.up C
 replace A0:=A0.mono C
 replace rG:=RGiven.mono C rG
 replace t:=t.mono C
 replace hch:=hch.mono fun _ _ h=>h.up C
 replace F0:=F0.mono C
 replace l0:=l0.up C
 replace R0:=R0.up C
 replace N:=N.nf
 obtain ⟨y0,o0,rfl,a4,k5,q4,E4⟩:=RVal.fm Y
 refine Alc fun S4 w N a J=>?_
 refine Sto 0 fun w N a J=>?_
 refine go fun a J=>?_
 refine yE [2,2,0,0,2,0,0,0,0,0] (.q 0 (.q 1 (.q 4 (.e2 2 5 (.e2 3 5 (.e 5 (.e 6 (.e 7 (.e 8 (.e 9 (.done)))))) (.e2 3 6 (.e 6 (.e 7 (.e 8 (.e 9 (.done))))) (.e 3 (.e 7 (.e 8 (.e 9 (.done))))))) (.e2 2 6 (.e2 3 6 (.e 6 (.e 7 (.e 8 (.e 9 (.done))))) (.e 3 (.e 7 (.e 8 (.e 9 (.done)))))) (.e 2 (.e 3 (.e 7 (.e 8 (.e 9 (.done))))))))))) [0,1,3,5,6,7,8,9,10,11] J N fun w N=>?_
 refine go fun a J=>?_
 refine wN ?_ ?_
 refine qF fun e6 w N a J=>?_
 refine wN ?_ ?_
 refine qQ 3 mQ (fun j3 w N a J=>?_)
 rw [<- qY] at N
 refine d_e J rfl rfl rfl (mF (jC 1 (vs:=[.string j.con,.int .i64 (j.num),.slice y0 j.args.length o0]) J N.toSees rfl rfl isAgg42 sizeOf42 rfl rfl) ⟨fun _=>N.sn (Fz.Le.refl _),fun a J=>?_⟩)
 refine qF fun f6 w N a J=>?_
 refine qQ 6 pE (fun k3 w N a J=>?_)
 refine Sto 11 fun w N a J=>?_
 refine Sto 12 fun w N a J=>?_
 refine go fun a J=>?_
 replace N:=N.ar [5,3,2,1,0] [8,8,8,8,8,8,8,7,8]
 refine A _ _ _ (by subst F;omega) ⟨(D0),(i+1),(j3),((cl++[((g1 - S:Nat):Int)])),(k3),((cs++[.string j.con,.int .i64 (j.num),.slice y0 j.args.length o0])),(xs++[j]),(S),rfl,⟨J.pk,by exact N⟩,?_⟩
 refine ⟨(b).trans C,?_⟩
 refine ⟨hch.snoc rfl Y,by simp [H],by omega,by omega,by simp [G],?_,?_⟩
 rw [yX,n,yD (by omega)];omega
 rw [B,zA d]
 exact yL s e0
 refine d_e J rfl rfl rfl (mF (jC 1 (vs:=[.string j.con,.int .i64 (j.num),.slice y0 j.args.length o0]) J N.toSees rfl rfl isAgg42 sizeOf42 rfl rfl) ⟨fun _=>N.sn (Fz.Le.refl _),fun a J=>?_⟩)
 refine wN ?_ ?_
 refine qQ 3 mQ (fun l3 w N a J=>?_)
 rw [<- qY] at N
 refine qF fun g6 w N a J=>?_
 refine qQ 6 pE (fun m3 w N a J=>?_)
 refine Sto 11 fun w N a J=>?_
 refine Sto 12 fun w N a J=>?_
 refine go fun a J=>?_
 replace N:=N.ar [5,3,2,1,0] [8,8,8,8,8,8,8,7,8]
 refine A _ _ _ (by subst F;omega) ⟨(D0),(i+1),(l3),((cl++[((g1 - S:Nat):Int)])),(m3),((cs++[.string j.con,.int .i64 (j.num),.slice y0 j.args.length o0])),(xs++[j]),(S),rfl,⟨J.pk,by exact N⟩,?_⟩
 refine ⟨(b).trans C,?_⟩
 refine ⟨hch.snoc rfl Y,by simp [H],by omega,by omega,by simp [G],?_,?_⟩
 rw [yX,n,yD (by omega)];omega
 rw [B,zA d]
 exact yL s e0
 refine qF fun h6 w N a J=>?_
 refine qQ 4 mQ (fun n3 w N a J=>?_)
 rw [<- qY] at N
 refine qQ 6 pE (fun o3 w N a J=>?_)
 refine Sto 11 fun w N a J=>?_
 refine Sto 12 fun w N a J=>?_
 refine go fun a J=>?_
 replace N:=N.ar [5,3,2,1,0] [8,8,8,8,8,8,8,7,8]
 refine A _ _ _ (by subst F;omega) ⟨(D0),(i+1),(n3),((cl++[((g1 - S:Nat):Int)])),(o3),((cs++[.string j.con,.int .i64 (j.num),.slice y0 j.args.length o0])),(xs++[j]),(S),rfl,⟨J.pk,by exact N⟩,?_⟩
 refine ⟨(b).trans C,?_⟩
 refine ⟨hch.snoc rfl Y,by simp [H],by omega,by omega,by simp [G],?_,?_⟩
 rw [yX,n,yD (by omega)];omega
 rw [B,zA d]
 exact yL s e0
 refine d_e J rfl rfl rfl (mF (jC 0 (vs:=[.string j.con,.int .i64 (j.num),.slice y0 j.args.length o0]) J N.toSees rfl rfl isAgg42 sizeOf42 rfl rfl) ⟨fun _=>N.sn (Fz.Le.refl _),fun a J=>?_⟩)
 refine wN ?_ ?_
 refine qF fun i6 w N a J=>?_
 refine wN ?_ ?_
 refine qQ 3 mQ (fun q3 w N a J=>?_)
 rw [<- qY] at N
 refine qF fun j6 w N a J=>?_
 refine qQ 6 pE (fun r3 w N a J=>?_)
 refine Sto 11 fun w N a J=>?_
 refine Sto 12 fun w N a J=>?_
 refine go fun a J=>?_
 replace N:=N.ar [5,3,2,1,0] [8,8,8,8,8,8,8,7,8]
 refine A _ _ _ (by subst F;omega) ⟨(D0),(i+1),(q3),((cl++[((g1 - S:Nat):Int)])),(r3),((cs++[.string j.con,.int .i64 (j.num),.slice y0 j.args.length o0])),(xs++[j]),(S),rfl,⟨J.pk,by exact N⟩,?_⟩
 refine ⟨(b).trans C,?_⟩
 refine ⟨hch.snoc rfl Y,by simp [H],by omega,by omega,by simp [G],?_,?_⟩
 rw [yX,n,yD (by omega)];omega
 rw [B,zA d]
 exact yL s e0
 refine qF fun k6 w N a J=>?_
 refine qQ 4 mQ (fun s3 w N a J=>?_)
 rw [<- qY] at N
 refine qQ 6 pE (fun t3 w N a J=>?_)
 refine Sto 11 fun w N a J=>?_
 refine Sto 12 fun w N a J=>?_
 refine go fun a J=>?_
 replace N:=N.ar [5,3,2,1,0] [8,8,8,8,8,8,8,7,8]
 refine A _ _ _ (by subst F;omega) ⟨(D0),(i+1),(s3),((cl++[((g1 - S:Nat):Int)])),(t3),((cs++[.string j.con,.int .i64 (j.num),.slice y0 j.args.length o0])),(xs++[j]),(S),rfl,⟨J.pk,by exact N⟩,?_⟩
 refine ⟨(b).trans C,?_⟩
 refine ⟨hch.snoc rfl Y,by simp [H],by omega,by omega,by simp [G],?_,?_⟩
 rw [yX,n,yD (by omega)];omega
 rw [B,zA d]
 exact yL s e0
 refine qF fun l6 w N a J=>?_
 refine qF fun m6 w N a J=>?_
 refine qQ 4 mQ (fun u3 w N a J=>?_)
 rw [<- qY] at N
 refine qQ 6 pE (fun v3 w N a J=>?_)
 refine Sto 11 fun w N a J=>?_
 refine Sto 12 fun w N a J=>?_
 refine go fun a J=>?_
 replace N:=N.ar [5,3,2,1,0] [8,8,8,8,8,8,8,7,8]
 refine A _ _ _ (by subst F;omega) ⟨(D0),(i+1),(u3),((cl++[((g1 - S:Nat):Int)])),(v3),((cs++[.string j.con,.int .i64 (j.num),.slice y0 j.args.length o0])),(xs++[j]),(S),rfl,⟨J.pk,by exact N⟩,?_⟩
 refine ⟨(b).trans C,?_⟩
 refine ⟨hch.snoc rfl Y,by simp [H],by omega,by omega,by simp [G],?_,?_⟩
 rw [yX,n,yD (by omega)];omega
 rw [B,zA d]
 exact yL s e0
 have C1:=qW a1 s0
 replace N:=N.dl [10,9,8,7,6,5,4,3,2,1,0]
 exact z6k (aI (by rw [B,zA d];exact pN s C1)) ⟨.inr ⟨rfl,rfl⟩,N.le (b)⟩
 refine Alc fun T4 w N a J=>?_
 have t0:=h1
 rw [B,zA d,aV s] at t0
 replace t0:=qJ (r:=xC (yM ⟨T.funs,inp⟩) k0 [] g1) (qJ t0)
 replace N:=N.pl 3
 refine vS call48 (fun L1 M3 w c1 U1 N a J=>?_) (fun L1 w c1 N=>?_) (c:=z1u hF g1 A0 rG l0 (SliceOf.nil 3) (hF _ _ s).1 (hF _ _ s).2 (Nat.le_refl _) (by omega) t0 N)
 obtain ⟨m,U⟩:=L1
 obtain ⟨E0,c5⟩:=M3
 obtain ⟨D,Z⟩:=U1
 have f0:=jL c1
 simp only at D Z N J f0
 have R3:=nQ f0
 replace i0:=i0.up D
 replace L:=L.up D
 replace rG:=RGiven.mono D rG
 replace t:=t.mono D
 replace hch:=hch.mono fun _ _ h=>h.up D
 replace F0:=F0.mono D
 replace l0:=l0.up D
 replace R0:=R0.up D
 replace N:=N.nf
 obtain ⟨z0,p0,rfl,d4,l5,r4,F4⟩:=RVal.fm Z
 refine Sto 1 fun w N a J=>?_
 refine go fun a J=>?_
 refine yE [2,2,0,0,2,0,0,0,0,0] (.q 0 (.q 1 (.q 4 (.e2 2 5 (.e2 3 5 (.e 5 (.e 6 (.e 7 (.e 8 (.e 9 (.done)))))) (.e2 3 6 (.e 6 (.e 7 (.e 8 (.e 9 (.done))))) (.e 3 (.e 7 (.e 8 (.e 9 (.done))))))) (.e2 2 6 (.e2 3 6 (.e 6 (.e 7 (.e 8 (.e 9 (.done))))) (.e 3 (.e 7 (.e 8 (.e 9 (.done)))))) (.e 2 (.e 3 (.e 7 (.e 8 (.e 9 (.done))))))))))) [0,1,3,5,6,7,8,9,10,11] J N fun w N=>?_
 refine go fun a J=>?_
 refine wN ?_ ?_
 refine qF fun n6 w N a J=>?_
 refine wN ?_ ?_
 refine qQ 3 mQ (fun w3 w N a J=>?_)
 rw [<- qY] at N
 refine d_e J rfl rfl rfl (mF (jC 2 (vs:=[.string m.con,.int .i64 (m.num),.slice z0 m.args.length p0]) J N.toSees rfl rfl isAgg42 sizeOf42 rfl rfl) ⟨fun _=>N.sn (Fz.Le.refl _),fun a J=>?_⟩)
 refine qF fun o6 w N a J=>?_
 refine qQ 6 pE (fun x3 w N a J=>?_)
 refine Sto 11 fun w N a J=>?_
 refine Sto 12 fun w N a J=>?_
 refine go fun a J=>?_
 replace N:=N.ar [5,3,2,1,0] [8,8,8,8,8,8,8,7,8]
 refine A _ _ _ (by subst F;omega) ⟨(E0),(i+1),(w3),((cl++[((g1 - U:Nat):Int)])),(x3),((cs++[.string m.con,.int .i64 (m.num),.slice z0 m.args.length p0])),(xs++[m]),(U),rfl,⟨J.pk,by exact N⟩,?_⟩
 refine ⟨(b).trans D,?_⟩
 refine ⟨hch.snoc rfl Z,by simp [H],by omega,by omega,by simp [G],?_,?_⟩
 rw [yX,n,yD (by omega)];omega
 rw [B,zA d]
 exact yL s f0
 refine d_e J rfl rfl rfl (mF (jC 2 (vs:=[.string m.con,.int .i64 (m.num),.slice z0 m.args.length p0]) J N.toSees rfl rfl isAgg42 sizeOf42 rfl rfl) ⟨fun _=>N.sn (Fz.Le.refl _),fun a J=>?_⟩)
 refine wN ?_ ?_
 refine qQ 3 mQ (fun y3 w N a J=>?_)
 rw [<- qY] at N
 refine qF fun p6 w N a J=>?_
 refine qQ 6 pE (fun z3 w N a J=>?_)
 refine Sto 11 fun w N a J=>?_
 refine Sto 12 fun w N a J=>?_
 refine go fun a J=>?_
 replace N:=N.ar [5,3,2,1,0] [8,8,8,8,8,8,8,7,8]
 refine A _ _ _ (by subst F;omega) ⟨(E0),(i+1),(y3),((cl++[((g1 - U:Nat):Int)])),(z3),((cs++[.string m.con,.int .i64 (m.num),.slice z0 m.args.length p0])),(xs++[m]),(U),rfl,⟨J.pk,by exact N⟩,?_⟩
 refine ⟨(b).trans D,?_⟩
 refine ⟨hch.snoc rfl Z,by simp [H],by omega,by omega,by simp [G],?_,?_⟩
 rw [yX,n,yD (by omega)];omega
 rw [B,zA d]
 exact yL s f0
 refine qF fun q6 w N a J=>?_
 refine qQ 4 mQ (fun A3 w N a J=>?_)
 rw [<- qY] at N
 refine qQ 6 pE (fun B3 w N a J=>?_)
 refine Sto 11 fun w N a J=>?_
 refine Sto 12 fun w N a J=>?_
 refine go fun a J=>?_
 replace N:=N.ar [5,3,2,1,0] [8,8,8,8,8,8,8,7,8]
 refine A _ _ _ (by subst F;omega) ⟨(E0),(i+1),(A3),((cl++[((g1 - U:Nat):Int)])),(B3),((cs++[.string m.con,.int .i64 (m.num),.slice z0 m.args.length p0])),(xs++[m]),(U),rfl,⟨J.pk,by exact N⟩,?_⟩
 refine ⟨(b).trans D,?_⟩
 refine ⟨hch.snoc rfl Z,by simp [H],by omega,by omega,by simp [G],?_,?_⟩
 rw [yX,n,yD (by omega)];omega
 rw [B,zA d]
 exact yL s f0
 refine d_e J rfl rfl rfl (mF (jC 1 (vs:=[.string m.con,.int .i64 (m.num),.slice z0 m.args.length p0]) J N.toSees rfl rfl isAgg42 sizeOf42 rfl rfl) ⟨fun _=>N.sn (Fz.Le.refl _),fun a J=>?_⟩)
 refine wN ?_ ?_
 refine qF fun r6 w N a J=>?_
 refine wN ?_ ?_
 refine qQ 3 mQ (fun C3 w N a J=>?_)
 rw [<- qY] at N
 refine qF fun s6 w N a J=>?_
 refine qQ 6 pE (fun D3 w N a J=>?_)
 refine Sto 11 fun w N a J=>?_
 refine Sto 12 fun w N a J=>?_
 refine go fun a J=>?_
 replace N:=N.ar [5,3,2,1,0] [8,8,8,8,8,8,8,7,8]
 refine A _ _ _ (by subst F;omega) ⟨(E0),(i+1),(C3),((cl++[((g1 - U:Nat):Int)])),(D3),((cs++[.string m.con,.int .i64 (m.num),.slice z0 m.args.length p0])),(xs++[m]),(U),rfl,⟨J.pk,by exact N⟩,?_⟩
 refine ⟨(b).trans D,?_⟩
 refine ⟨hch.snoc rfl Z,by simp [H],by omega,by omega,by simp [G],?_,?_⟩
 rw [yX,n,yD (by omega)];omega
 rw [B,zA d]
 exact yL s f0
 refine qF fun t6 w N a J=>?_
 refine qQ 4 mQ (fun E3 w N a J=>?_)
 rw [<- qY] at N
 refine qQ 6 pE (fun F3 w N a J=>?_)
 refine Sto 11 fun w N a J=>?_
 refine Sto 12 fun w N a J=>?_
 refine go fun a J=>?_
 replace N:=N.ar [5,3,2,1,0] [8,8,8,8,8,8,8,7,8]
 refine A _ _ _ (by subst F;omega) ⟨(E0),(i+1),(E3),((cl++[((g1 - U:Nat):Int)])),(F3),((cs++[.string m.con,.int .i64 (m.num),.slice z0 m.args.length p0])),(xs++[m]),(U),rfl,⟨J.pk,by exact N⟩,?_⟩
 refine ⟨(b).trans D,?_⟩
 refine ⟨hch.snoc rfl Z,by simp [H],by omega,by omega,by simp [G],?_,?_⟩
 rw [yX,n,yD (by omega)];omega
 rw [B,zA d]
 exact yL s f0
 refine qF fun u6 w N a J=>?_
 refine qF fun v6 w N a J=>?_
 refine qQ 4 mQ (fun G3 w N a J=>?_)
 rw [<- qY] at N
 refine qQ 6 pE (fun H3 w N a J=>?_)
 refine Sto 11 fun w N a J=>?_
 refine Sto 12 fun w N a J=>?_
 refine go fun a J=>?_
 replace N:=N.ar [5,3,2,1,0] [8,8,8,8,8,8,8,7,8]
 refine A _ _ _ (by subst F;omega) ⟨(E0),(i+1),(G3),((cl++[((g1 - U:Nat):Int)])),(H3),((cs++[.string m.con,.int .i64 (m.num),.slice z0 m.args.length p0])),(xs++[m]),(U),rfl,⟨J.pk,by exact N⟩,?_⟩
 refine ⟨(b).trans D,?_⟩
 refine ⟨hch.snoc rfl Z,by simp [H],by omega,by omega,by simp [G],?_,?_⟩
 rw [yX,n,yD (by omega)];omega
 rw [B,zA d]
 exact yL s f0
 have D1:=qW c1 t0
 replace N:=N.dl [11,10,9,8,7,6,5,4,3,2,1,0]
 exact z6k (aI (by rw [B,zA d];exact pN s D1)) ⟨.inr ⟨rfl,rfl⟩,N.le (b)⟩
 refine go fun a J=>?_
 have T0:=N
 clear N
 obtain ⟨O0,g0,N,r1⟩:=T0.freezeRow (i:=0) rfl
 clear T0
 replace i0:=i0.up g0
 replace L:=L.up g0
 replace rG:=RGiven.mono g0 rG
 replace t:=t.mono g0
 replace hch:=hch.mono fun _ _ h=>h.up g0
 replace N:=N.nf
 have u0:SliceOf RVal O0 3 _ (xs):=⟨_,r1,hch⟩
 obtain ⟨H2,u2,c2,s4,Z1⟩:=u0.form (by decide)
 have U0:=N
 clear N
 subst c2
 have N:=U0
 clear U0
 have o1:jI ⟨T.funs,inp⟩ c.outputs fuel=.ok xs g1:=by
  rw [B,zB z2];exact y1f
 refine zZ call49 (fun V0 w N a J=>?_) (fun V0 w N a J=>?_) (c:=q7n (V:=O0) (K:=.gs (u) 3 1 (z4k cl)::.blk b0 (ob [.slice p3 c.datas.length c4,.slice p9 c.inputs.length O1,.slice f2 c.funs.length P1,.slice J4 c.outputs.length c22] 27)::.blk b1 (ob [.pointer (some p)] 89)::.blk b2 (ob [mg] 94)::.blk b3 (ob [.int .i64 ((fuel:Nat):Int)] 3)::.blk b4 (ob [u] 93)::.blk b5 (ob [.slice H2 (xs).length u2] 38)::.blk b6 (ob [.slice none 0 0,.int .i64 ((0:Nat):Int)] 30)::K) (p:=vX) (fs:=[]) (cs:=[]) u0 call50 (fun x c w hx hc N=>z6w hc N) N)
 refine zF ?_
 replace N:=N.dl [7,6,5,4,3,2,1,0]
 exact z6k (y3y o1 V0) ⟨.inl rfl,N.le ((b).trans g0)⟩
 refine go fun a J=>?_
 have m1:=V0
 replace N:=N.nilRow 62 4
 replace N:=N.nf
 refine go fun a J=>?_
 refine zU (J.ks [0,6,48,49]) N (fun R mm a w=>∃(P0:Fz) (k:Nat) (uo:Value) (co:List Value),mm=xs.length - k/\R P0 [(50,.int .i64 ((k:Nat):Int))] [(0,.gs (uo) 62 4 co),(8,.blk b6 (ob [uo,.int .i64 ((0:Nat):Int)] 30))] a w/\(O0.Le P0/\(Chunks (RNamed P0) 4 co ((jN c.outputs xs).take k)))) (xs.length - 0) ⟨O0,0,.slice none 0 0,[],rfl,⟨J.pk,N⟩,⟨Fz.Le.refl _,rfl⟩⟩ ?_
 clear N J
 rintro mm a w ⟨P0,k,uo,co,F,⟨J,N⟩,W0⟩ N4 W1
 replace N:=N.nf
 obtain ⟨h0,W0⟩:=W0
 replace i0:=i0.up h0
 replace L:=L.up h0
 replace rG:=RGiven.mono h0 rG
 replace t:=t.mono h0
 replace u0:=u0.up h0
 have S0:=W0
 by_cases F1:k < (xs).length
 refine go fun a J=>?_
 obtain ⟨K5,rfl,J0,t1,U3,g4,k1,N0⟩:=u0.el Z1 F1
 obtain ⟨J5,V4,rfl,e4,m5,t4,G4⟩:=RVal.fm N0
 refine Alc fun U4 w N a J=>?_
 refine Sto 0 fun w N a J=>?_
 refine Reg [1,2,1,2,1,1,2,2,0,1,0,0,1,0] [0,2,3,4,5,6,7,8,9] fun w N a J=>?_
 refine go fun a J=>?_
 have X1:k < c.outputs.length:=by omega
 obtain ⟨L5,rfl,f1,d2,Q1,h4,l1,a2⟩:=i0.el G1 X1
 obtain rfl:Q1=[.string f1]:=a2
 refine yP call51 (fun N3 w V1 N a J=>?_) (c:=own_ok (j1p (by have h_:=List.any_eq_false.1 m1 _ (mgQ t1);simpa using h_)) N0 N)
 obtain ⟨v1,d5⟩:=N3
 obtain ⟨I,d1⟩:=V1
 simp only at I d1 N J
 replace L:=L.up I
 replace rG:=RGiven.mono I rG
 replace t:=t.mono I
 replace S0:=S0.mono fun _ _ h=>h.up I
 replace k1:=k1.mono I
 replace N0:=N0.up I
 replace l1:=l1.mono I
 replace N:=N.nf
 obtain ⟨H1,E1,rfl,f4,n5,u4,H4⟩:=RVal.fm d1
 refine dG fun a J=>?_
 refine qF fun w6 w N a J=>?_
 refine qQ 2 z2x (fun I3 w N a J=>?_) (hb:=by have h_:=S0.length;have H6:((jN c.outputs xs).take k).length<=xs.length:=(by simp [jN];omega);rw [h_];simp only [lcQ,lnQ];omega)
 refine Sto 10 fun w N a J=>?_
 refine go fun a J=>?_
 replace N:=N.dl [1,0]
 refine W1 _ _ _ (by subst F;omega) ⟨(v1),(k+1),(I3),((co++[.string f1,.string J0.con,.int .i64 (J0.num),.slice H1 J0.args.length E1])),rfl,⟨J.pk,by exact N⟩,?_⟩
 refine ⟨(h0).trans I,?_⟩
 rw [jY (x2e d2 t1)];exact S0.snoc rfl (show RNamed v1 [.string f1,.string J0.con,.int .i64 (J0.num),.slice H1 J0.args.length E1] (⟨f1,J0⟩:Named) from ⟨_,rfl,d1⟩)
 refine go fun a J=>?_
 rw [x2d F1] at S0
 have T0:=N
 clear N
 obtain ⟨w1,I0,N,s1,q1⟩:=T0.freezeRowN (i:=0) rfl
 clear T0
 replace L:=L.up I0
 replace rG:=RGiven.mono I0 rG
 replace t:=t.mono I0
 replace S0:=S0.mono fun _ _ h=>h.up I0
 replace N:=N.nf
 have e1:SliceOf RNamed w1 4 _ ((jN c.outputs xs)):=⟨_,s1,S0⟩
 obtain ⟨I2,v2,c2,v4,I4⟩:=e1.form (by decide)
 have U0:=N
 clear N
 subst c2
 have N:=U0
 clear U0
 replace q1:=q1.anti (((b).trans g0).trans h0)
 refine zF ?_
 replace N:=N.ar [6,4,3,2,1] [2,1,2]
 exact endOut (j7r o1 m1) ⟨(w1,u,cl,.slice I2 ((jN c.outputs xs)).length v2),rfl,⟨(((b).trans g0).trans h0).trans I0,by rw [n],(show cl.length<=1000 by omega),e1,q1⟩,N⟩
theorem vD {c:Core} (h:yR c=0):vO c=false/\qX c=true:=by
 unfold yR at h
 split at h
 ·cases h
 split at h
 ·cases h
 split at h
 ·rename_i a hr;exact ⟨by simpa using a,hr⟩
 ·cases h
theorem z4b {c:Core} (h:yR c=0):z1q (zE c):=by
 obtain ⟨hl,hr⟩:=vD h
 have b:wI c=true:=by simp only [qX,baQ] at hr;exact hr.1.1.1.1.1
 intro n f a
 exact ⟨z7r hl b n f a,nF hl (cC b a)⟩
theorem q1z {c:Core} (h:yR c=0):c.outputs.length<=1000:=by
 have hl:=(vD h).1
 simp only [vO,Bool.or_eq_false_iff,decide_eq_false_iff_not] at hl
 omega
theorem run_ns {c:Core} (h:yR c=0) {l:List Named} (a:kL (zE c) l c.inputs=true) (g:Nat):jI ⟨(zE c).funs,y2b l⟩ c.outputs g≠.stuck :=
 (j8t (pL h) (q5n (pL h) a) (fun _ h=>h) g).1
theorem x5g {r:Ev (List Val)} {c:Nat} (h:y1z r=.error c):c≠0:=by
 cases r with
 | ok vs g=>
  simp only [y1z] at h
  split at h
  ·cases h;decide
  ·cases h
 | spent=>cases h;decide
 | stuck=>cases h;decide
section
variable {P:Program} {n:Nat} {E:List (Nat×Value)} {D:List Deferred} {a:Act} {V:Fz} {K:List Res} {w:World}
variable {Kn:Value->World->Prop} {Qp:List PanicEntry->World->Prop} {dst:Option Tmp} {ty:TypeId} {pos:String} {aft:Array Edge} {g:Option (Nat×Bool)}
theorem jQ {α β ε:Type} {f:FuncId} {xs:Array Operand} {ts:Array TypeId} {vs:List Value} {r:Except ε α} {X:α->β->Value} {Z:ε->Value} {F1:α->β->Fz} {b:Fz} {KO:α->β->List Res} {KE:List Res} {G:α->β->Prop}
  (J:EnvR n E D a) (m:evs E xs.toList=some vs) (l:∀args w,(callFunc f args).run P w=.ok (.enter f args) w)
  (j:Calls P f vs.toArray w (fun e w'=>Out r (fun x=>∃y,e=.returned (X x y)/\G x y/\Mem (F1 x y) (KO x y) w') (fun c=>e=.returned (Z c)/\Mem b KE w')))
  (k:∀x y w',r=.ok x->G x y->Mem (F1 x y) (KO x y) w'->Kn (X x y) w') (kp:∀c w',r=.error c->Mem b KE w'->Kn (Z c) w') :
  Oper.eff P ⟨dst,.call { callee:=.value (.func f),args:=xs,argTypes:=ts },ty,pos,aft,g⟩ a w Kn Qp:=by
 refine cM J m l j (fun v w' h=>?_) (fun c w' h=>?_) (fun w' h=>?_)
 ·cases r with
  | ok x=>obtain ⟨y,h1,d,i⟩:=h;cases h1;exact k _ _ _ rfl d i
  | error c=>obtain ⟨h1,d⟩:=h;cases h1;exact kp _ _ rfl d
 ·cases r with
  | ok x=>obtain ⟨y,h1,_⟩:=h;cases h1
  | error c=>obtain ⟨h1,d⟩:=h;cases h1
 ·cases r with
  | ok x=>obtain ⟨y,h1,_⟩:=h;cases h1
  | error c=>obtain ⟨h1,_⟩:=h;cases h1
theorem xV {fn:Func} {R:Ending->World->Prop} {t u T b k i:Nat} {cs:List Value} {d:TypeId} {x:Value} (J:EnvR n E [] a) (N:Sees V K w) (hr:fn.results=#[.cell t T,.tmp u]) (c:get E t=some (.pointer (some ⟨b,0,none⟩)))
  (j:qS K i=some (.blk b (ob cs d))) (g:AggT P T) (f:SizeT P T k) (hl:cs.length=k) (l:get E u=some x) (h:R (.returned (.tuple #[.agg cs.toArray,x])) w):bodyPost P fn R .ret a w:=by
 refine ⟨J.defs,_,?_,h⟩
 have e:=j7m (P:=P) J N c j g f hl
 simp [results,hr,Array.getD_eq_getD_getElem?,J.env t _ c,J.env u _ l,asAddr,e,Sem.run_bind,Result.andThen]
theorem nG {fn:Func} {R:Ending->World->Prop} {t u d T b k i:Nat} {cs:List Value} {g:TypeId} {x f:Value} (J:EnvR n E [] a) (N:Sees V K w) (hr:fn.results=#[.cell t T,.tmp u,.tmp d]) (e:get E t=some (.pointer (some ⟨b,0,none⟩)))
  (o:qS K i=some (.blk b (ob cs g))) (m:AggT P T) (l:SizeT P T k) (hl:cs.length=k) (p:get E u=some x) (c:get E d=some f) (h:R (.returned (.tuple #[.agg cs.toArray,x,f])) w):bodyPost P fn R .ret a w:=by
 refine ⟨J.defs,_,?_,h⟩
 have j:=j7m (P:=P) J N e o m l hl
 simp [results,hr,Array.getD_eq_getD_getElem?,J.env t _ e,J.env u _ p,J.env d _ c,asAddr,j,Sem.run_bind,Result.andThen]
end
theorem j6a {V:Fz} {K:List Res} {w:World} {p:Addr} {T:Table} {d0:List Value} {c:Core} {mg:Value} {inp:List (Bs×Val)} {fuel m n o q d r f:Nat} (l:RCore V d0 c) (k:RTable V p T) (rG:RGiven V mg inp) (u:z1q T) (a:c.outputs.length<=1000) (g:fuel<=1000000)
  (j:jI ⟨T.funs,inp⟩ c.outputs fuel≠.stuck)
  (N:Mem V (.blk m (ob d0 27)::.blk n (ob [.pointer (some p)] 89)::.blk o (ob [mg] 94)::.blk q (ob [.int .i64 ((fuel:Nat):Int)] 3)::.blk d (ob [.slice none 0 0] 93)::.blk r (ob [.slice none 0 0] 38)::.blk f (ob [.slice none 0 0,.int .i64 ((0:Nat):Int)] 30)::K) w) :
  Calls Tryz.prog 45 #[.func (.func 46) #[] #[.pointer (some ⟨m,0,none⟩),.pointer (some ⟨n,0,none⟩),.pointer (some ⟨o,0,none⟩),.pointer (some ⟨q,0,none⟩),.pointer (some ⟨d,0,none⟩),.pointer (some ⟨r,0,none⟩),.pointer (some ⟨f,0,none⟩)]] w (fun e w'=>Out (y1z (jI ⟨T.funs,inp⟩ c.outputs fuel))
   (fun x=>∃y:Fz×Value×List Int×Value,e=.returned (.int .i64 ((0:Nat):Int))/\(V.Le y.1/\gY y.2.2.1=((fuel - x.2:Nat):Int)/\y.2.2.1.length<=1000/\SliceOf RNamed y.1 4 y.2.2.2 (jN c.outputs x.1)/\NewRow V y.2.2.2)/\Mem y.1 (.blk d (ob [y.2.1] 93)::.gs y.2.1 3 1 (z4k y.2.2.1)::.blk f (ob [y.2.2.2,.int .i64 ((0:Nat):Int)] 30)::K) w')
   (fun c=>e=.returned (.int .i64 ((c:Nat):Int))/\Mem V K w')):=by
 refine q2y (α:=List Val×Nat) (β:=Fz×Value×List Int×Value) (F:=fun _ y=>y.1) (KO:=fun _ y=>.blk d (ob [y.2.1] 93)::.gs y.2.1 3 1 (z4k y.2.2.1)::.blk f (ob [y.2.2.2,.int .i64 ((0:Nat):Int)] 30)::K)
  (G:=fun (x:List Val×Nat) y=>V.Le y.1/\gY y.2.2.1=((fuel - x.2:Nat):Int)/\y.2.2.1.length<=1000/\SliceOf RNamed y.1 4 y.2.2.2 (jN c.outputs x.1)/\NewRow V y.2.2.2) Tryz.call46 (fun b w N=>?_) N
 have N:=((((((N.pull (i:=7) rfl).pull (i:=7) rfl).pull (i:=7) rfl).pull (i:=7) rfl).pull (i:=7) rfl).pull (i:=7) rfl).pull (i:=7) rfl
 refine (run1_ok (K:=.blk b (ob [.int .i64 ((0:Nat):Int)] 31)::K) l k rG u a g j N).mono fun e w' h=>?_
 cases hr:y1z (jI ⟨T.funs,inp⟩ c.outputs fuel) with
 | ok x=>
  rw [hr] at h
  obtain ⟨y,h1,s,t⟩:=h
  exact ⟨y,h1,s,t.pull (i:=3) rfl⟩
 | error c'=>
  rw [hr] at h
  exact h
def vZ (es:Array MapEntry) (seen:Array Nat):List MapEntry:=es.toList.filter fun e=> !seen.contains e.born
theorem z9k (es:Array MapEntry):vZ es #[]=es.toList:=by simp [vZ]
theorem leftE_mem {es:Array MapEntry} {seen:Array Nat} {e:MapEntry}:e∈vZ es seen↔e∈es.toList/\e.born∉seen:=by simp [vZ]
theorem leftE_push {es:Array MapEntry} {seen:Array Nat} {e x:MapEntry}:x∈vZ es (seen.push e.born)↔x∈vZ es seen/\x.born≠e.born:=by
 simp only [leftE_mem,Array.mem_push,not_or,and_assoc]
theorem z2k {es:Array MapEntry} {seen:Array Nat} {e:MapEntry} (h:e∈vZ es seen):(vZ es (seen.push e.born)).length < (vZ es seen).length :=
 filter_lt (fun x:MapEntry=> !seen.contains x.born) (fun x:MapEntry=> !(seen.push e.born).contains x.born) (fun x a=>by simp at a ⊢;exact a.1) e (by have:=(leftE_mem.1 h).2;simpa using this) (by simp) es.toList (leftE_mem.1 h).1
section
variable {P:Program} {n:Nat} {E:List (Nat×Value)} {D:List Deferred} {a:Act} {V:Fz} {K:List Res} {w:World}
variable {Kn:Value->World->Prop} {Qp:List PanicEntry->World->Prop} {dst:Option Tmp} {ty:TypeId} {pos:String} {aft:Array Edge} {g:Option (Nat×Bool)}
theorem z8w (i:Nat) {t kt et:TypeId} {x:Operand} {b:Nat} {m:List (Bs×Value)} (f:Under P t (.map kt et)) (J:EnvR n E D a) (N:Mem V K w) (h:ev E x=some (.map (some b))) (e:qS K i=some (.mp b m))
  (k:∀r es clock w',MapOk es clock m->Mem V (.blk r (.mapIter (some b) clock #[] clock)::pB K i (.blk b (.map es clock))) w'->Kn (.pointer (some ⟨r,0,none⟩)) w'):Oper.eff P ⟨dst,.range t x,ty,pos,aft,g⟩ a w Kn Qp:=by
 obtain ⟨es,clock,hb,d⟩:=N.own _ (yU e)
 have h1:(getObj b).run P w=.ok (.map es clock) w:=by simp [getObj,Sem.run,hb]
 have c:Mem V (pB K i (.blk b (.map es clock))) w:=N.upd e rfl rfl (fun _ _ _=>rfl) hb (.inl rfl)
 unfold Oper.eff
 have:(execOp a.eval ⟨dst,.range t x,ty,pos,aft,g⟩).run P w=.ok (.value (.pointer (some ⟨w.heap.size,0,none⟩))) { w with heap:=w.heap.push (.mapIter (some b) clock #[] clock) }:=by
  simp only [execOp,J.ev h,Instr.range,Sem.run_bind,f w,Result.andThen_ok,h1]
  simp [newObj,Sem.run,Sem.run_bind,Result.andThen]
 rw [this]
 exact k _ _ _ _ d (c.push _)
theorem y3x (i j:Nat) {x:Operand} {r b clock:Nat} {es:Array MapEntry} {seen:Array Nat} {m:List (Bs×Value)} (J:EnvR n E D a) (N:Mem V K w) (s:ev E x=some (.pointer (some ⟨r,0,none⟩)))
  (C:qS K i=some (.blk r (.mapIter (some b) clock seen clock))) (H:qS K j=some (.blk b (.map es clock))) (u:MapOk es clock m)
  (I:vZ es seen=[]->∀w',Mem V K w'->Kn (.tuple #[.bool false]) w')
  (M:∀e w',e∈vZ es seen->Mem V (pB K i (.blk r (.mapIter (some b) clock (seen.push e.born) clock))) w'->Kn (.tuple #[.bool true,e.key,e.val]) w') :
  Oper.eff P ⟨dst,.next x false,ty,pos,aft,g⟩ a w Kn Qp:=by
 have hr:w.heap[r]? = some (.mapIter (some b) clock seen clock):=N.own _ (yU C)
 have hb:w.heap[b]? = some (.map es clock):=N.own _ (yU H)
 have p:(!seen.isEmpty && !es.isEmpty&&es.all (fun x=>decide (x.born≥clock)))=false:=next_test_false seen es clock clock u.old (Nat.le_refl _)
 have f:∀e∈es.toList,e.born < clock:=u.old
 have G:((es.filter fun e=> !seen.contains e.born).filter (fun x=>decide (x.born < clock)))=es.filter fun e=> !seen.contains e.born :=
  Array.filter_eq_self.2 (fun x s=>by
   have:=f x (by simp at s ⊢;exact s.1)
   simpa using this)
 have e2:((es.filter fun e=> !seen.contains e.born).filter (fun x=>decide (x.born≥clock)))=#[]:=by
  rw [Array.filter_eq_empty_iff]
  intro x s
  have:=f x (by simp at s ⊢;exact s.1)
  simp only [ge_iff_le,decide_eq_true_eq,Nat.not_le];omega
 have d:vZ es seen=(es.filter fun e=> !seen.contains e.born).toList:=by simp [vZ]
 unfold Oper.eff
 simp only [execOp,J.ev s,Instr.next,getObj,Sem.run_bind,Sem.run,hr,hb,Result.andThen,p,Bool.false_eq_true,if_false,G,e2,Array.append_empty]
 generalize Q:(es.filter fun e=> !seen.contains e.born)=L at *
 by_cases B:L.size=0
 ·have:L=#[]:=Array.eq_empty_of_size_eq_zero B
  subst this
  simp only [Array.isEmpty,Array.size_empty,decide_true,if_true]
  simp only [choose,Sem.run,Question.forced]
  simp
  exact I (by rw [d]) _ N
 ·have l:L.isEmpty=false:=by simp [Array.isEmpty,B]
  simp only [l,Bool.false_eq_true,if_false,Array.empty_append,Array.size_map]
  have hch:∃(q:Nat) (k:World),q < L.size/\Mem V K k/\k.heap=w.heap/\(choose (Question.mapNext L.size)).run P w=.ok q k:=by
   by_cases F:L.size<=1
   ·exact ⟨0,w,by omega,N,rfl,by simp [choose,Sem.run,Question.forced,F]⟩
   ·exact ⟨_,w.drew,Nat.mod_lt _ (by omega),N.drew,rfl,by
     simp only [choose,Sem.run,Question.forced,decide_eq_true_eq,F,if_false,Question.cut]
     rfl⟩
  obtain ⟨q,k,hq,A,y,v⟩:=hch
  have h:∀o,(setObj r o).run P k=.ok () { k with heap:=k.heap.setIfInBounds r o }:=fun o=>by simp only [setObj,Sem.run,y,hr]
  have z:r < k.heap.size:=by rw [y];exact (Array.getElem?_eq_some_iff.1 hr).1
  have t:L[q]∈vZ es seen:=by rw [d];simp
  have hrun':=v
  simp only [hrun',Sem.run_bind,Result.andThen,Array.getElem?_map,Array.getElem?_eq_getElem hq,Option.map_some,h,Sem.run_pure]
  simp [Sem.run_bind,h,Result.andThen,mK]
  refine M _ _ t (A.upd C rfl rfl (fun c R l=>?_) ?_ (.inl rfl))
  ·simp only;rw [Array.getElem?_setIfInBounds_ne (fun e=>l (by simp [Res.foot,e]))]
  ·simp [Res.sat,z]
theorem q7a {x:Operand} {i j:Nat} {r b clock:Nat} {es:Array MapEntry} {seen:Array Nat} {m:List (Bs×Value)} {e:MapEntry} (J:EnvR n E D a) (N:Sees V K w) (h:ev E x=some (.pointer (some ⟨r,0,none⟩)))
  (f:qS K i=some (.blk r (.mapIter (some b) clock (seen.push e.born) clock))) (d:qS K j=some (.blk b (.map es clock))) (c:MapOk es clock m) (hl:e∈vZ es seen) :
  Ok P a (.entry x) ty w (.tuple #[e.key,e.val]):=fun _ _ _ _=>by
 have hr:w.heap[r]? = some (.mapIter (some b) clock (seen.push e.born) clock):=N.own _ (yU f)
 have hb:w.heap[b]? = some (.map es clock):=N.own _ (yU d)
 have g:es.find? (·.born==e.born)=some e:=by rw [<- Array.find?_toList];exact find_born e es.toList c.nodup (leftE_mem.1 hl).1
 simp only [execOp,J.ev h,Instr.entry,getObj,Sem.run_bind,Sem.run,hr,hb,Result.andThen,Array.back?_push,bne_self_eq_false,Bool.false_eq_true,if_false,g]
 rfl
theorem z8z {es:Array MapEntry} {clock:Nat} {m:List (Bs×Value)} {e:MapEntry} (b:MapOk es clock m) (h:e∈es.toList):∃s v,e.key=.string s/\e.val=v/\(s,v)∈m:=by
 have h1:(e.key,e.val)∈m.map (fun p=>(Value.string p.1,p.2)):=by rw [<- b.eq];exact List.mem_map.2 ⟨e,h,rfl⟩
 obtain ⟨p,c,a⟩:=List.mem_map.1 h1
 simp only [Prod.mk.injEq] at a
 exact ⟨p.1,p.2,a.1.symm,a.2.symm,c⟩
theorem q1u {es:Array MapEntry} {clock:Nat} {m:List (Bs×Value)} {s:Bs} {v:Value} (a:MapOk es clock m) (h:(s,v)∈m):∃e∈es.toList,e.key=.string s:=by
 have h1:(Value.string s,v)∈es.toList.map (fun e=>(e.key,e.val)):=by rw [a.eq];exact List.mem_map.2 ⟨(s,v),h,rfl⟩
 obtain ⟨e,J,b⟩:=List.mem_map.1 h1
 simp only [Prod.mk.injEq] at b
 exact ⟨e,J,b.1⟩
end
structure QAt (off cap:Nat) (arr:Array Value) (l:List Bs):Prop where
 room:off+cap<=arr.size
 fits:l.length<=cap
 max:cap<=maxLen
 cells:∀(j:Nat) s,l[j]? = some s->arr[off+j]? = some (.string s)
abbrev qblk (b:Nat) (arr:Array Value):Res:=.blk b (.cells arr 9 (0,0))
abbrev qval (b off cap:Nat) (l:List Bs):Value:=.slice (some ⟨b,off,none⟩) l.length cap
def y6a (off cap:Nat):Nat:=if cap=1 then off else off+1
theorem QAt.tail {off cap:Nat} {arr:Array Value} {l:List Bs} (h:QAt off cap arr l) (c:0 < l.length):QAt (y6a off cap) (cap - 1) arr (l.drop 1):=by
 have:=h.fits;have:=h.room;have:=h.max
 refine ⟨?_,?_,by omega,fun j s a=>?_⟩
 ·unfold y6a;split <;> omega
 ·rw [List.length_drop];omega
 ·rw [List.getElem?_drop] at a
  have h1:=h.cells _ _ a
  have b:=(List.getElem?_eq_some_iff.1 a).1
  unfold y6a
  rw [if_neg (by omega)]
  rw [show off+1+j=off+(1+j) by omega];exact h1
theorem q3l (b off j:Nat):(⟨b,off,none⟩:Addr).add j=⟨b,off+j,none⟩:=by
 unfold Addr.add;split <;> simp_all
section
variable {P:Program} {n:Nat} {E:List (Nat×Value)} {D:List Deferred} {a:Act} {V:Fz} {K:List Res} {w:World} {ty:TypeId}
theorem v0e (i:Nat) {x:Operand} {b off cap:Nat} {arr:Array Value} {l:List Bs} {T:TypeId} {s:Bs} (J:EnvR n E D a) (N:Sees V K w) (hq:QAt off cap arr l) (c:ev E x=some (.pointer (some ((⟨b,off,none⟩:Addr).add (0 * 1)))))
  (g:qS K i=some (qblk b arr)) (O:l[0]? = some s) (f:Scalar P T):Ok P a (.load T x) ty w (.string s):=fun _ _ _ _=>by
 have h1:w.heap[b]? = some (.cells arr 9 (0,0)):=N.own _ (yU g)
 have d:w.cell? ⟨b,off,none⟩=some (.string s):=by simp [World.cell?,h1];exact hq.cells 0 s O
 have e:((⟨b,off,none⟩:Addr).add (0 * 1))=⟨b,off,none⟩:=by simp [Addr.add]
 rw [e] at c
 simp only [execOp,J.ev c]
 simp [Instr.loadAt,Instr.sureAddr,loadVar,Sem.run_bind,f w,Result.andThen,load,Sem.run,d]
theorem y0a {x lo:Operand} {t e:TypeId} {b off cap:Nat} {arr:Array Value} {l:List Bs} (J:EnvR n E D a) (hq:QAt off cap arr l) (i:ev E x=some (qval b off cap l)) (c:ev E lo=some (.int .i64 ((1:Nat):Int)))
  (g:Under P t (.slice e)) (O:SizeT P e 1) (j:0 < l.length):Ok P a (.slice t x (some lo) none none) ty w (qval b (y6a off cap) (cap - 1) (l.drop 1)):=fun _ _ _ _=>by
 have f:=hq.fits
 have h1:(1:Nat)<=cap:=by omega
 have d:(1:Int)<=(l.length:Int):=by omega
 have h:(if cap=1 then some (⟨b,off,none⟩:Addr) else some (Addr.add ⟨b,off,none⟩ 1))=some ⟨b,y6a off cap,none⟩:=by
  unfold y6a;split <;> simp [Addr.add]
 simp only [execOp,J.ev i,Option.map_some,Option.map_none,J.ev c,Instr.sliceAt]
 simp [Sem.run_bind,g w,O w,Instr.slice,Instr.sliceBounds,Instr.sliceBound,asIntOf,d,f,h1,Result.andThen,qval,h]
theorem z6j (i:Nat) {dst:Option Tmp} {pos:String} {aft:Array Edge} {g:Option (Nat×Bool)} {Kn:Value->World->Prop} {Qp:List PanicEntry->World->Prop} {x y:Operand} {t bytes:TypeId} {b off cap:Nat} {arr:Array Value} {l:List Bs} {v:Value} {s:Bs} (H:RowT P t 9 1 bytes) (J:EnvR n E D a) (N:Mem V K w) (hq:QAt off cap arr l)
  (hx:ev E x=some (qval b off cap l)) (S:qS K i=some (qblk b arr)) (hy:ev E y=some v) (hr:y9v w v 1 [.string s]) (hb:(l.length+1) * bytes<=140737488355328)
  (k:∀b' off' cap' arr' w',QAt off' cap' arr' (l++[s])->Mem V (pB K i (qblk b' arr')) w'->Kn (qval b' off' cap' (l++[s])) w') :
  Oper.eff P ⟨dst,.call { callee:=.builtin .append,args:=#[x,y],argTypes:=#[t,t] },ty,pos,aft,g⟩ a w Kn Qp:=by
 obtain ⟨inf,z,W,hz,r,I,U⟩:=H.info
 have L:w.heap[b]? = some (.cells arr 9 (0,0)):=N.own _ (yU S)
 have p:∀v' w',(Builtin.append_ #[t,t] ty #[qval b off cap l,v]).run P w=.ok v' w'->Kn v' w' ->
   Oper.eff P ⟨dst,.call { callee:=.builtin .append,args:=#[x,y],argTypes:=#[t,t] },ty,pos,aft,g⟩ a w Kn Qp:=by
  intro v' w' o Y
  unfold Oper.eff
  have:(execOp a.eval ⟨dst,.call { callee:=.builtin .append,args:=#[x,y],argTypes:=#[t,t] },ty,pos,aft,g⟩).run P w=.ok (.value v') w':=by
   simp only [execOp,resolve,invoke,builtin,Sem.run_bind,Sem.run_pure,Result.andThen_ok,List.map_toArray,List.map_cons,List.map_nil,J.ev hx,J.ev hy,o]
  rw [this]
  exact Y
 rcases hr with ⟨_,h⟩ | ⟨q,m',c,rfl,hl,B⟩
 ·cases h
 have T:m'=1:=by simpa using hl.symm
 subst T
 have Z:l.length+1<=140737488355328:=Nat.le_trans (Nat.le_mul_of_pos_right _ H.bpos) hb
 have hroom':=hq.room
 have d:(l++[s]).length=l.length+1:=by simp
 by_cases m:l.length+1<=cap
 ·have G:=run_storeCells_at P b (off+l.length) 9 [.string s] 0 arr w L (by simp only [lcQ,lnQ];omega) (by simp [Value.oneCell'])
  have hf:=run_firstCells_some (P:=P) w 1 1 q 1 c [.string s] (by simp) B
  have o:(Builtin.append_ #[t,t] ty #[qval b off cap l,.slice (some q) 1 c]).run P w=.ok (qval b off cap (l++[s])) (w.setRow b (arr.toList.take (off+l.length)++[Value.string s]++arr.toList.drop (off+l.length+1)).toArray):=by
   simp only [Nat.add_zero,lcQ,lnQ,Nat.zero_add] at G
   simp [Builtin.append_,run_underlying H.under,sizeOf,typeInfo,W,r,Builtin.lenOf,m,hf,q3l,qval,G]
  refine p _ _ o (k b off cap _ _ ⟨?_,?_,hq.max,?_⟩ (N.upd S rfl rfl (fun c C F=>setRow_other w b c _ (fun e=>F (by simp [Res.foot,e]))) (setRow_heap w b _ _ 9 _ L) (.inl rfl)))
  ·simp;omega
  ·rw [d];exact m
  ·intro j u f
   have Q:j < l.length+1:=by rw [<- d];exact (List.getElem?_eq_some_iff.1 f).1
   have A:off+l.length < arr.size:=by omega
   simp only [List.getElem?_toArray]
   by_cases R:j < l.length
   ·rw [List.append_assoc,List.getElem?_append_left (by simp;omega),List.getElem?_take_of_lt (by omega),Array.getElem?_toList]
    rw [List.getElem?_append_left R] at f
    exact hq.cells _ _ f
   ·have:j=l.length:=by omega
    subst this
    simp at f
    subst f
    rw [List.append_assoc,List.getElem?_append_right (by simp;omega)]
    simp [Nat.min_eq_left (Nat.le_of_lt A)]
 ·have holds:∀j u,(strs l)[j]? = some u->w.cell? ((⟨b,off,none⟩:Addr).add j)=some u:=fun j u f=>by
   simp only [strs,List.getElem?_map,Option.map_eq_some_iff] at f
   obtain ⟨s',h1,rfl⟩:=f
   have X:=hq.cells _ _ h1
   rw [q3l];simp [World.cell?,L,X]
  have hf':=hq.fits
  have hr:=run_append_grow (P:=P) w t ty 9 inf z H.under W hz ⟨b,off,none⟩ l.length cap (strs l) (by rw [r];simp [strs]) holds q 1 c [.string s] (by rw [r];rfl) B (by omega) (by omega) (by rw [I];exact growslice_fits (by omega) (by simpa using hb))
  have M:=grownCap_ge w (l.length+1) cap 9
  rw [show Value.slice (some (Addr.mk w.heap.size 0 none)) (l.length+1) (grownCap w (l.length+1) cap 9)=qval w.heap.size 0 (grownCap w (l.length+1) cap 9) (l++[s]) by simp [qval]] at hr
  refine p _ _ hr (k w.heap.size 0 _ ((strs l).toArray++#[Value.string s]++Builtin.zeroCells z.cells (grownCap w (l.length+1) cap 9 - (l.length+1))) _ ⟨?_,?_,?_,?_⟩ (N.upd S rfl rfl (fun c C F=>?_) ?_ (.inr fun c C=>by simp [Res.foot] at C;omega)))
  ·simp [size_zeroCells,U,strs];omega
  ·rw [d];exact M
  ·exact grownCap_le_maxLen w _ _ _ (by simp only [maxLen];omega)
  ·intro j u f
   have Q:j < l.length+1:=by rw [<- d];exact (List.getElem?_eq_some_iff.1 f).1
   rw [Nat.zero_add,Array.getElem?_append_left (by simp [strs];omega)]
   have:((strs l).toArray++[Value.string s].toArray)[j]? = (strs (l++[s]))[j]? := by rw [yW];simp [strs]
   rw [this]
   simp only [strs,List.getElem?_map,f];rfl
  ·show (w.heap.push _)[c]? = _
   rw [Array.getElem?_push_lt C,Array.getElem?_eq_getElem C]
  ·show (w.heap.push _)[w.heap.size]? = _
   simp
end
def ex0:Ex:=.mk 0 0 ⟨#[]⟩ [] []
def aR (T:Table) (n:Bs):Ex:=match zJ T.funs n with | some f=>f.body | none=>ex0
def jV (T:Table) (n:Bs):List Bs:=zY (aR T n)
theorem aJ {T:Table} {n:Bs} {f:Fun} (h:zJ T.funs n=some f):aR T n=f.body:=by simp [aR,h]
theorem z0c {T:Table} {n:Bs} (h:zJ T.funs n=none):aR T n=ex0:=by simp [aR,h]
theorem rex0 {V:Fz}:REx V [.int .i64 0,.int .i64 0,.string ⟨#[]⟩,.slice none 0 0,.slice none 0 0] ex0:=REx.iff.2 ⟨_,_,rfl,⟨by decide,by decide⟩,SliceOf.nil 5,SliceOf.nil 7⟩
theorem q2d:∀(m:List (Bs×Value)) (k:Bs) (x:Value) (s:Bs),(∃v,(s,v)∈cI m k x)↔s=k∨∃v,(s,v)∈m
 | [],k,x,s=>by simp [cI]
 | (k',y)::m,k,x,s=>by
  simp only [cI]
  split
  ·rename_i h;subst h
   simp only [List.mem_cons,Prod.mk.injEq]
   constructor
   ·rintro ⟨v,h | h⟩
    ·exact .inl h.1
    ·exact .inr ⟨v,.inr h⟩
   ·rintro (h | ⟨v,h | h⟩)
    ·exact ⟨x,.inl ⟨h,rfl⟩⟩
    ·exact ⟨x,.inl ⟨h.1,rfl⟩⟩
    ·exact ⟨v,.inr h⟩
  ·simp only [List.mem_cons,Prod.mk.injEq]
   have:=q2d m k x s
   constructor
   ·rintro ⟨v,h | h⟩
    ·exact .inr ⟨v,.inl h⟩
    ·rcases this.1 ⟨v,h⟩ with h | ⟨v,h⟩
     ·exact .inl h
     ·exact .inr ⟨v,.inr h⟩
   ·rintro (h | ⟨v,h | h⟩)
    ·obtain ⟨v,h⟩:=this.2 (.inl h);exact ⟨v,.inr h⟩
    ·exact ⟨v,.inl h⟩
    ·obtain ⟨v,h⟩:=this.2 (.inr ⟨v,h⟩);exact ⟨v,.inr h⟩
theorem j0j:∀(m:List (Bs×Value)) (k:Bs) (x:Value),(cI m k x).length<=m.length+1
 | [],k,x=>by simp [cI]
 | (k',y)::m,k,x=>by
  simp only [cI]
  split
  ·simp
  ·have:=j0j m k x;simp only [lcQ];omega
theorem y4h:∀(l:List Bs) (m:List (Bs×Value)) (s:Bs),(∃v,(s,v)∈l.foldl (fun m s=>cI m s (.bool true)) m)↔s∈l∨∃v,(s,v)∈m
 | [],m,s=>by simp
 | x::l,m,s=>by
  rw [List.foldl_cons,y4h l,q2d];simp only [List.mem_cons]
  constructor
  ·rintro (h | h | h)
   ·exact .inl (.inr h)
   ·exact .inl (.inl h)
   ·exact .inr h
  ·rintro ((h | h) | h)
   ·exact .inr (.inl h)
   ·exact .inl h
   ·exact .inr (.inr h)
theorem q1c:∀(l:List Bs) (m:List (Bs×Value)),(l.foldl (fun m s=>cI m s (.bool true)) m).length<=l.length+m.length
 | [],m=>by simp
 | x::l,m=>by
  have:=q1c l (cI m x (.bool true));have:=j0j m x (.bool true)
  simp only [List.foldl_cons,lcQ];omega
theorem z0u (l:List Bs) (s:Bs):(∃v,(s,v)∈jO l)↔s∈l:=by rw [jO,y4h];simp
theorem q2p (l:List Bs):(jO l).length<=l.length:=by have:=q1c l [];simpa [jO] using this
theorem has_mem {l:List Bs} {s:Bs}:has l s=true↔s∈l:=by simp [has]
theorem z2s {α:Type}:∀{l U:List α},l.Nodup->(∀x∈l,x∈U)->l.length<=U.length
 | [],_,_,_=>Nat.zero_le _
 | x::l,U,d,O=>by
  obtain ⟨b,c,rfl⟩:=List.append_of_mem (O x msQ)
  have hn':=List.nodup_cons.1 d
  have:=z2s (l:=l) (U:=b++c) hn'.2 (fun y a=>by
   have:=O y (mcQ _ a)
   simp only [List.mem_append,List.mem_cons] at this ⊢
   rcases this with h | rfl | h
   ·exact .inl h
   ·exact absurd a hn'.1
   ·exact .inr h)
  simp only [laQ,lcQ] at this ⊢;omega
structure RInv (T:Table) (U start ds l:List Bs):Prop where
 nodup:ds.Nodup
 dU:∀x∈ds,x∈U
 lU:∀x∈l,x∈U
 len:l.length<=1000+ds.length * 6000
 starts:∀x∈start,x∈ds∨x∈l
 closed:∀x∈ds,∀y∈jV T x,y∈ds∨y∈l
 least:∀Q:Bs->Prop,(∀x∈start,Q x)->(∀x,Q x->∀y∈jV T x,Q y)->(∀x∈ds,Q x)/\∀x∈l,Q x
structure Reached (T:Table) (start ds:List Bs):Prop where
 starts:∀x∈start,x∈ds
 closed:∀x∈ds,∀y∈jV T x,y∈ds
 least:∀Q:Bs->Prop,(∀x∈start,Q x)->(∀x,Q x->∀y∈jV T x,Q y)->∀x∈ds,Q x
def muR (U ds l:List Bs):Nat:=(U.length - ds.length) * 6001+l.length
theorem RInv.start {T:Table} {U start:List Bs} (a:∀x∈start,x∈U) (hl:start.length<=1000):RInv T U start [] start :=
 ⟨List.nodup_nil,by simp,a,by simpa using hl,fun x h=>.inr h,by simp,fun Q h1 b=>⟨by simp,h1⟩⟩
theorem RInv.fin {T:Table} {U start ds:List Bs} (h:RInv T U start ds []):Reached T start ds :=
 ⟨fun x a=>(h.starts x a).resolve_right (by simp),fun x a y c=>(h.closed x a y c).resolve_right (by simp),fun Q h1 b=>(h.least Q h1 b).1⟩
theorem RInv.skip {T:Table} {U start ds l:List Bs} {n:Bs} (h:RInv T U start ds l) (c:l[0]? = some n) (e:n∈ds):RInv T U start ds (l.drop 1)/\muR U ds (l.drop 1) < muR U ds l:=by
 obtain ⟨rest,rfl⟩:∃rest,l=n::rest:=by cases l with | nil=>simp at c | cons a r=>simp at c;exact ⟨r,by rw [c]⟩
 simp only [List.drop_succ_cons,List.drop_zero]
 refine ⟨⟨h.nodup,h.dU,fun x b=>h.lU x (mcQ _ b),?_,?_,?_,fun Q h1 d=>⟨(h.least Q h1 d).1,fun x b=>(h.least Q h1 d).2 x (mcQ _ b)⟩⟩,?_⟩
 ·have:=h.len;simp only [lcQ] at this;omega
 ·intro x b
  rcases h.starts x b with h | h
  ·exact .inl h
  ·rcases List.mem_cons.1 h with rfl | h
   ·exact .inl e
   ·exact .inr h
 ·intro x b y f
  rcases h.closed x b y f with h | h
  ·exact .inl h
  ·rcases List.mem_cons.1 h with rfl | h
   ·exact .inl e
   ·exact .inr h
 ·simp only [muR,lcQ];omega
structure RIn (T:Table) (n:Bs) (rest:List Bs) (es:Array MapEntry) (seen:Array Nat) (l:List Bs):Prop where
 new:∀x∈l,x∈rest∨x∈jV T n
 old:∀x∈rest,x∈l
 all:∀e∈es.toList,e∈vZ es seen∨∃s,e.key=.string s/\s∈l
 len:l.length+(vZ es seen).length<=rest.length+es.size
theorem RIn.start {T:Table} {n:Bs} {rest:List Bs} {es:Array MapEntry}:RIn T n rest es #[] rest :=
 ⟨fun x h=>.inl h,fun x h=>h,fun e h=>.inl (by rw [z9k];exact h),by rw [z9k];simp⟩
theorem RIn.next {T:Table} {n s:Bs} {v:Value} {rest l:List Bs} {es:Array MapEntry} {seen:Array Nat} {clock:Nat} {e:MapEntry} (h:RIn T n rest es seen l) (b:MapOk es clock (jO (jV T n))) (J:e∈vZ es seen)
  (g:e.key=.string s) (N:(s,v)∈jO (jV T n)):RIn T n rest es (seen.push e.born) (l++[s]):=by
 refine ⟨?_,fun x a=>List.mem_append_left _ (h.old x a),?_,?_⟩
 ·intro x a
  rcases List.mem_append.1 a with a | a
  ·exact h.new x a
  ·rw [List.mem_singleton] at a;subst a
   exact .inr ((z0u _ _).1 ⟨v,N⟩)
 ·intro x a
  rcases h.all x a with h1 | ⟨s',h1,d⟩
  ·by_cases hb:x.born=e.born
   ·have f:x=e:=by
     have c:=find_born x es.toList b.nodup a
     have a2:=find_born e es.toList b.nodup (leftE_mem.1 J).1
     rw [hb] at c;rw [c] at a2;exact Option.some.inj a2
    subst f
    exact .inr ⟨s,g,by simp⟩
   ·exact .inl (leftE_push.2 ⟨h1,hb⟩)
  ·exact .inr ⟨s',h1,List.mem_append_left _ d⟩
 ·have:=z2k J;have:=h.len;simp only [laQ,lcQ,lnQ];omega
theorem RInv.mark {T:Table} {U start ds l l':List Bs} {n:Bs} {es:Array MapEntry} {seen:Array Nat} {clock:Nat} (h:RInv T U start ds l) (q:l[0]? = some n) (C:n∉ds) (A:∀x,(jV T x).length<=6000) (z:∀x,∀y∈jV T x,y∈U)
  (m:MapOk es clock (jO (jV T n))) (f:RIn T n (l.drop 1) es seen l') (hl:vZ es seen=[]):RInv T U start (ds++[n]) l'/\muR U (ds++[n]) l' < muR U ds l:=by
 obtain ⟨rest,rfl⟩:∃rest,l=n::rest:=by cases l with | nil=>simp at q | cons a r=>simp at q;exact ⟨r,by rw [q]⟩
 simp only [List.drop_succ_cons,List.drop_zero] at f
 have D:es.size<=6000:=by
  have h1:=congrArg List.length m.eq
  simp only [List.length_map,Array.length_toList] at h1
  have:=q2p (jV T n);have:=A n;omega
 have d:=f.len
 rw [hl] at d
 simp only [lnQ,Nat.add_zero] at d
 have i:∀y∈jV T n,y∈l':=fun y p=>by
  obtain ⟨v,G⟩:=(z0u (jV T n) y).2 p
  obtain ⟨e,J,E⟩:=q1u m G
  rcases f.all e J with h1 | ⟨s,h1,o⟩
  ·rw [hl] at h1;cases h1
  ·rw [E] at h1;cases h1;exact o
 have F:n∈U:=h.lU n msQ
 have k:(ds++[n]).Nodup:=by
  rw [List.nodup_append]
  exact ⟨h.nodup,by simp,fun a B b hb=>by rw [List.mem_singleton] at hb;subst hb;intro e;subst e;exact C B⟩
 have j:∀x∈ds++[n],x∈U:=fun x c=>by
  rcases List.mem_append.1 c with c | c
  ·exact h.dU x c
  ·rw [List.mem_singleton] at c;subst c;exact F
 have w:(ds++[n]).length<=U.length:=z2s k j
 simp only [laQ,lcQ,lnQ] at w
 refine ⟨⟨k,j,?_,?_,?_,?_,?_⟩,?_⟩
 ·intro x c
  rcases f.new x c with h1 | h1
  ·exact h.lU x (mcQ _ h1)
  ·exact z n x h1
 ·have:=h.len;simp only [lcQ,laQ,lnQ] at this ⊢;omega
 ·intro x c
  rcases h.starts x c with h1 | h1
  ·exact .inl (List.mem_append_left _ h1)
  ·rcases List.mem_cons.1 h1 with rfl | h1
   ·exact .inl (by simp)
   ·exact .inr (f.old x h1)
 ·intro x c y p
  rcases List.mem_append.1 c with c | c
  ·rcases h.closed x c y p with h1 | h1
   ·exact .inl (List.mem_append_left _ h1)
   ·rcases List.mem_cons.1 h1 with rfl | h1
    ·exact .inl (by simp)
    ·exact .inr (f.old y h1)
  ·rw [List.mem_singleton] at c;subst c
   exact .inr (i y p)
 ·intro Q h1 o
  have t:=h.least Q h1 o
  have g:Q n:=t.2 n msQ
  refine ⟨fun x c=>?_,fun x c=>?_⟩
  ·rcases List.mem_append.1 c with c | c
   ·exact t.1 x c
   ·rw [List.mem_singleton] at c;subst c;exact g
  ·rcases f.new x c with u | u
   ·exact t.2 x (mcQ _ u)
   ·exact o n g x u
 ·simp only [muR,laQ,lcQ,lnQ]
  have:U.length - ds.length=(U.length - (ds.length+1))+1:=by omega
  rw [this,Nat.add_mul];omega
theorem y4n {V:Fz} {K:List Res} {w:World} {i:Nat} {v:Value} {l:List Bs} (N:Mem V K w) (d:qS K i=some (.gs v 9 1 (strs l))) (hl:l≠[]):∃b cap arr,v=qval b 0 cap l/\QAt 0 cap arr l/\Mem V (pB K i (qblk b arr)) w:=by
 obtain ⟨n,h1,e⟩:=N.own _ (yU d)
 have o:l.length=n:=by simpa [strs] using h1
 rcases e with ⟨_,p⟩ | ⟨b,cap,cur,rfl,_,f,g,h,q,k⟩
 ·exact absurd (List.eq_nil_of_length_eq_zero (by omega)) hl
 ·subst o
  refine ⟨b,cap,cur,rfl,⟨by omega,g,h,fun j s c=>?_⟩,N.upd d rfl rfl (fun _ _ _=>rfl) f (.inl rfl)⟩
  have m:=(List.getElem?_eq_some_iff.1 c).1
  have a:(cur.toList.take (l.length * 1))[j]? = some (.string s):=by rw [k];simp only [strs,List.getElem?_map,c];rfl
  rw [List.getElem?_take_of_lt (by omega),Array.getElem?_toList] at a
  rw [Nat.zero_add];exact a
theorem z7z {P:Program} {n:Nat} {E:List (Nat×Value)} {D:List Deferred} {a:Act} {w:World} {ty:TypeId} (off:Nat) {x:Operand} {t:TypeId} {fs:Array Field} {i k:Nat} {fd:Field} {cs vs:List Value} (g:Under P t (.struct fs)) (e:fs[i]? = some fd) (d:AggT P fd.type) (c:SizeT P fd.type k)
  (J:EnvR n E D a) (h:ev E x=some (.agg cs.toArray)) (f:fd.offset=off) (b:z4q (z4p cs off) k=vs):Ok P a (.field t x i) ty w (.agg vs.toArray):=fun _ _ _ _=>by
 rw [z2o,z2j] at b
 subst f
 simp only [execOp,J.ev h]
 simp [Instr.field,Sem.run_bind,g w,e,asAgg,part,d w,c w,Result.andThen,<- b]
theorem j7s {es:Array MapEntry} {clock:Nat} {l:List Bs} (a:MapOk es clock (jO l)) (h:l.length<=6000):es.size<=6000:=by
 have h1:=congrArg List.length a.eq
 simp only [List.length_map,Array.length_toList] at h1
 have:=q2p l;omega
theorem y2l {l:List Bs} {s:Bs} (h:has l s=false):s∉l:=fun N=>by rw [has_mem.2 N] at h;cases h
structure Typing where
 vars:List Param
 expr:Ex
def sH (l:List Bs) (s:Bs):Bool:=l.any fun x=>decide (x=s)
theorem z9e (x:Bs) (l:List Bs) (s:Bs):sH (x::l) s=(decide (x=s) || sH l s):=by simp [sH]
section
variable {c:Core} {ps:List Param} {e:Ex}
end
theorem j1x {l:List Ex} (hl:l.length=2):∃x y,l=[x,y]:=by
 cases l with
 | nil=>simp at hl
 | cons a l=>
  cases l with
  | nil=>simp at hl
  | cons b l=>
   simp only [lcQ] at hl
   have:l=[]:=List.eq_nil_of_length_eq_zero (by omega)
   subst this
   exact ⟨a,b,rfl⟩
theorem j8q {l:List Ex} (hl:l.length=1):∃x,l=[x]:=by
 cases l with
 | nil=>simp at hl
 | cons a l=>
  simp only [lcQ] at hl
  have:l=[]:=List.eq_nil_of_length_eq_zero (by omega)
  subst this
  exact ⟨a,rfl⟩
theorem y9y {nm:Bs->Bool}:∀{l ds:List Bs},l.Nodup->(∀n∈l,n∉ds)->(∀n∈l,nm n=true)->mD nm ds l=true
 | [],_,_,_,_=>rfl
 | s::l,ds,h1,b,c=>by
  have O:=List.nodup_cons.1 h1
  simp only [mD,baQ,Bool.not_eq_true']
  refine ⟨⟨c s msQ,?_⟩,y9y O.2 (fun n a N=>?_) fun n a=>c n (mcQ _ a)⟩
  ·cases hb:has ds s with
   | false=>rfl
   | true=>
    simp only [has,List.any_eq_true,decide_eq_true_eq] at hb
    obtain ⟨x,d,J⟩:=hb
    first | exact absurd (J▸d) (b s msQ) | exact absurd (J.symm▸d) (b s msQ)
  ·rcases List.mem_append.1 N with N | N
   ·exact b n (mcQ _ a) N
   ·simp only [List.mem_singleton] at N;subst N;exact O.1 a
theorem hasB_mem {l:List Bs} {s:Bs}:sH l s=true↔s∈l:=by
 simp only [sH,List.any_eq_true,decide_eq_true_eq]
 exact ⟨fun ⟨x,a,e⟩=>e▸a,fun h=>⟨s,h,rfl⟩⟩
structure Alike (T U:Table):Prop where
 datas:U.datas=T.datas
 cons:U.cons=T.cons
 inputs:U.inputs=T.inputs
 funs:∀n,zJ U.funs n=zJ T.funs n
mutual
theorem oU {T U:Table} (h:Alike T U):∀(e:Ex) (s:Scope),zG U e s=zG T e s
 | .mk kind num name args arms,s=>by
  simp only [zG,sI,h.cons,h.funs,h.datas,h.inputs,allQ_alike h args,letP_alike h name args,firstP_alike h args,splitP_alike h arms]
theorem allQ_alike {T U:Table} (h:Alike T U):∀(xs:List Ex) (s:Scope) (ts:List Bs),allQ U xs s ts=allQ T xs s ts
 | [],_,_=>rfl
 | x::xs,s,ts=>by simp only [allQ,oU h x,allQ_alike h xs]
theorem firstP_alike {T U:Table} (h:Alike T U):∀(xs:List Ex) (s:Scope),firstP U xs s=firstP T xs s
 | [],_=>rfl
 | a::_,s=>by simp only [firstP,oU h a]
theorem letP_alike {T U:Table} (h:Alike T U) (name:Bs):∀(xs:List Ex) (s:Scope),letP U name xs s=letP T name xs s
 | [],_=>rfl
 | a::l,s=>by simp only [letP,oU h a,firstP_alike h l]
theorem splitP_alike {T U:Table} (h:Alike T U):∀(az:List Arm) (cs:List Con) (first:Bool) (out:Bs) (s:Scope),splitP U az cs first out s=splitP T az cs first out s
 | [],_,_,_,_=>rfl
 | .mk con vars body::az,cs,first,out,s=>by simp only [splitP,oU h body,splitP_alike h az]
end
mutual
theorem y4q {T U:Table} (h:Alike T U):∀(v:Val) (n:Bs),mR U v n=mR T v n
 | .mk con num args,n=>by simp only [mR,h.cons,hasL_alike h args]
theorem hasL_alike {T U:Table} (h:Alike T U):∀(vs:List Val) (fs:List Bs),hasL U vs fs=hasL T vs fs
 | [],_=>rfl
 | v::vs,fs=>by simp only [hasL,y4q h v,hasL_alike h vs]
end
theorem j1r {C D:Ctx} (a:∀n,zJ D.funs n=zJ C.funs n) (b:∀n,zJ D.inp n=zJ C.inp n) (ev:Nat->Ex->Env->Ev Val) (g:Nat) (e:Ex) (env:Env):xE ev D g e env=xE ev C g e env:=by
 simp only [xE,a,b]
theorem y0s {C D:Ctx} (a:∀n,zJ D.funs n=zJ C.funs n) (b:∀n,zJ D.inp n=zJ C.inp n):∀n,z1h D n=z1h C n
 | 0=>by funext g e env;cases g <;> rfl
 | n+1=>by
  funext g e env
  cases g with
  | zero=>rfl
  | succ g=>simp only [z1h,y0s a b n,j1r a b]
theorem y0r {C D:Ctx} (a:∀n,zJ D.funs n=zJ C.funs n) (b:∀n,zJ D.inp n=zJ C.inp n):yM D=yM C:=by
 funext g e env;simp only [yM,y0s a b]
theorem y1e {C D:Ctx} (a:∀n,zJ D.funs n=zJ C.funs n) (b:∀n,zJ D.inp n=zJ C.inp n):∀(os:List Bs) (g:Nat),jI D os g=jI C os g
 | [],_=>rfl
 | o::os,g=>by simp only [jI,a,y0r a b,y1e a b os]
mutual
theorem z0l:∀(e:Ex) (l k:Int),(jB e l).1=false->0<=(jB e l).2+k->jB e (l+k)=(false,(jB e l).2+k)
 | .mk _ _ _ args arms,l,k=>by
  intro h a
  simp only [jB] at h a ⊢
  by_cases hl:l - 1 < 0
  ·rw [if_pos hl] at h;cases h
  ·rw [if_neg hl] at h a ⊢
   have m1:=meass_le args (l - 1)
   have m2:=meass_shift args (l - 1) k
   cases hq:meass args (l - 1) with
   | mk b q=>
    rw [hq] at h a m1 m2
    cases b with
    | true=>cases h
    | false=>
     have m1':=m1 rfl (by omega)
     simp only at h a m1' ⊢
     have m3:=measa_le arms q h (by omega)
     rw [if_neg (by omega),show l+k - 1=l - 1+k by omega,m2 rfl (show 0<=q+k by omega)]
     exact measa_shift arms q k h a
theorem meass_shift:∀(es:List Ex) (l k:Int),(meass es l).1=false->0<=(meass es l).2+k->meass es (l+k)=(false,(meass es l).2+k)
 | [],l,k=>fun _ _=>rfl
 | e::es,l,k=>by
  intro h a
  simp only [meass] at h a ⊢
  have m1:=wC e l
  have m2:=z0l e l k
  cases hq:jB e l with
  | mk b q=>
   rw [hq] at h a m1 m2
   cases b with
   | true=>cases h
   | false=>
    have m1':=m1 rfl
    simp only at h a m1' ⊢
    have m3:=meass_le es q h (by omega)
    rw [m2 rfl (show 0<=q+k by omega)]
    exact meass_shift es q k h a
theorem measa_shift:∀(es:List Arm) (l k:Int),(measa es l).1=false->0<=(measa es l).2+k->measa es (l+k)=(false,(measa es l).2+k)
 | [],l,k=>fun _ _=>rfl
 | .mk _ vs b::es,l,k=>by
  intro h a
  simp only [measa] at h a ⊢
  by_cases d:16 < vs.length
  ·rw [if_pos d] at h;cases h
  ·simp only [if_neg d] at h a ⊢
   have m1:=wC b l
   have m2:=z0l b l k
   cases hq:jB b l with
   | mk c q=>
    rw [hq] at h a m1 m2
    cases c with
    | true=>cases h
    | false=>
     have m1':=m1 rfl
     simp only at h a m1' ⊢
     have m3:=measa_le es q h (by omega)
     rw [m2 rfl (show 0<=q+k by omega)]
     exact measa_shift es q k h a
end
theorem j9f:∀{l:List Fun} {m:List (Bs×Fun)},(∀f∈l,qO f.name=true/\zJ m f.name=none)->(l.map Fun.name).Nodup->(tT true m l).1=true
 | [],_,_,_=>rfl
 | x::l,m,h,a=>by
  simp only [List.map_cons,List.nodup_cons] at a
  obtain ⟨h1,b⟩:=h x msQ
  simp only [tT,h1,Bool.and_self,if_true,b,Option.isNone_none]
  refine j9f (fun f c=>?_) a.2
  obtain ⟨g1,d⟩:=h f (mcQ _ c)
  refine ⟨g1,?_⟩
  rw [aU b,cO d]
  simp only [zJ]
  rw [if_neg]
  intro e
  exact a.1 (List.mem_map.2 ⟨f,c,e⟩)
end Go.Sw
