import Derived.Laws.IdiomRangeMap
import Derived.Test.YtgkhcfjooiekkaaGreatDoorX07
set_option linter.unusedVariables false
set_option linter.unusedSimpArgs false
namespace Go.Sw
open Go.Proofs Go.Proofs.Tryz
set_option maxRecDepth 20000
set_option maxHeartbeats 4000000
theorem run1_ok {V:Fz} {K:List Res} {w:World} {p:Addr} {T:Table} {d0:List Value} {c:Core} {mg:Value} {inp:List (Bs×Val)} {fuel b0 b1 b2 b3 b4 b5 b6:Nat} (L:RCore V d0 c) (B0:RTable V p T) (rG:RGiven V mg inp) (hF:z0s T) (q5:c.outputs.length<=1000) (O6:fuel<=1000000)
  (i1:vR ⟨T.funs,inp⟩ c.outputs fuel≠.stuck) (N:Mem V (.blk b0 (ob d0 27)::.blk b1 (ob [.pointer (some p)] 89)::.blk b2 (ob [mg] 94)::.blk b3 (ob [.int .i64 fuel] 3)::.blk b4 (ob [.slice none 0 0] 93)::.blk b5 (ob [.slice none 0 0] 38)::.blk b6 (ob [.slice none 0 0,.int .i64 ((0:Nat):Int)] 30)::K) w) :
  Calls prog 46 #[.pointer (some ⟨b0,0,none⟩),.pointer (some ⟨b1,0,none⟩),.pointer (some ⟨b2,0,none⟩),.pointer (some ⟨b3,0,none⟩),.pointer (some ⟨b4,0,none⟩),.pointer (some ⟨b5,0,none⟩),.pointer (some ⟨b6,0,none⟩)] w (fun e w'=>Out (y4e (vR ⟨T.funs,inp⟩ c.outputs fuel))
   (fun x=>∃y:Fz×Value×List Int×Value,e=.returned (.int .i64 ((0:Nat):Int))/\(V.Le y.1/\gH y.2.2.1=((fuel - x.2:Nat):Int)/\y.2.2.1.length<=1000/\SliceOf RNamed y.1 4 y.2.2.2 (mE c.outputs x.1)/\NewRow V y.2.2.2)/\Mem y.1 (.blk b4 (ob [y.2.1] 93)::.gs y.2.1 3 1 (z3i y.2.2.1)::.blk b6 (ob [y.2.2.2,.int .i64 ((0:Nat):Int)] 30)::K) w')
   (fun c=>(e=.returned (.int .i64 ((c:Nat):Int))∨c=4/\e=.panicked (sT ()))/\Mem V K w')):=by
 obtain ⟨p3,c4,p9,P1,i2,Q1,K4,c22,rfl,h2,h8,H6,j0,R6,S6,r5,y5,s5,z5,t5,H1⟩:=RCore.fm L
 obtain ⟨X4,T6,U6,V6,W6,D6,E6,y1,F6,t,W3,o1,E5,H5,F5,I5,H0,k0,G5,J5⟩:=B0.ex
 obtain ⟨X6,A6,Y6,B6,Z6,C6,a7,c66,rfl,J6,K6,L6,M6,u5,A5,v5,B5,w5,C5,x5,D5⟩:=RCore.fm o1
 have A1:=N
 clear A1
 refine zI func46 ntmps46 fun Q hQ a J=>?_
 refine go fun a J=>?_
 replace N:=N.nilRow 3 1
 replace N:=N.nf
 replace N:=N.nilRow 42 3
 replace N:=N.nf
 refine go fun a J=>?_
 refine zR (J.ks [0,1,2,3,4,5,6,16,17]) N (fun R mm a w=>∃(N0:Fz) (i:Nat) (u:Value) (cl:List Int) (uv:Value) (cs:List Value) (xs:List Val) (g1:Nat),mm=c.outputs.length - i/\R N0 [(18,.int .i64 i)] [(0,.gs (uv) 42 3 cs),(1,.gs (u) 3 1 (z3i cl)),(6,.blk b4 (ob [u] 93)),(7,.blk b5 (ob [uv] 38))] a w/\(V.Le N0/\(Chunks (RVal N0) 3 cs xs/\xs.length=i/\i<=c.outputs.length/\g1<=fuel/\cl.length=i/\gH cl=((fuel - g1:Nat):Int)/\vR ⟨T.funs,inp⟩ c.outputs fuel=(vR ⟨T.funs,inp⟩ (c.outputs.drop i) g1).bind fun vs g2=>.ok (xs++vs) g2))) (c.outputs.length - 0) ⟨V,0,.slice none 0 0,[],.slice none 0 0,[],[],fuel,rfl,⟨J.pk,N⟩,⟨Fz.Le.refl _,⟨rfl,rfl,Nat.zero_le _,Nat.le_refl _,rfl,by simp [gH],j5z _⟩⟩⟩ ?_
 clear N J
 rintro mm a w ⟨N0,i,u,cl,uv,cs,xs,g1,F,⟨J,N⟩,k1⟩ z6 A
 replace N:=N.nf
 obtain ⟨b,k1⟩:=k1
 replace j0:=j0.up b
 replace L:=L.up b
 replace B0:=B0.mono b
 replace rG:=RGiven.mono b rG
 replace t:=t.mono b
 replace H0:=H0.mono b
 replace k0:=k0.up b
 obtain ⟨hch,H,Q6,P6,G,n,B⟩:=k1
 by_cases A2:i < c.outputs.length
 refine go fun a J=>?_
 obtain ⟨K2,rfl,v1,d,x2,p5,G0,B2⟩:=j0.el H1 A2
 obtain rfl:x2=[.string v1]:=B2
 refine Alc fun L0 w N a J=>?_
 refine Sto 0 fun w N a J=>?_
 refine go fun a J=>?_
 refine qP [2,2,2,2,0,1,1,0,0] (.q 0 (.q 1 (.q 2 (.q 3 (.e2 4 7 (.q 5 (.q 6 (.e 7 (.e 8 (.done))))) (.e 4 (.q 5 (.q 6 (.e 8 (.done)))))))))) [0,1,3,4,5,6,7,8,9] J N fun w N=>?_
 refine go fun a J=>?_
 refine aT ?_ ?_
 replace N:=N.pl 2
 refine zO call47 (fun w N a J=>?_) (c:=y7l (l:=cl) (by omega) N)
 refine Qq (fun a J=>?_) (o:=by exact fun J O=>jT ((g1:Nat):Int) J rfl rfl (by rw [n,yB (by omega)];omega))
 refine Qq (fun a J=>?_) (o:=by exact fun J O=>z3e (vs:=[(0,.pointer (some p)),(1,mg),(2,.pointer (some ⟨L0,0,none⟩)),(3,.int .i64 g1)]) (cs:=[.pointer (some p),mg,.pointer (some ⟨L0,0,none⟩),.int .i64 g1]) J rfl (by rcases rG with ⟨_,_,h_,_⟩ | ⟨h_,_⟩ <;> rw [h_] <;> kernel_rfl))
 refine Alc fun T3 w N a J=>?_
 refine y8u J rfl rfl (qF 0 (cs:=[.pointer none,.map none,.pointer none,.int .i64 ((0:Nat):Int)]) (vs:=[.pointer (some p),mg,.pointer (some ⟨L0,0,none⟩),.int .i64 g1]) J N rfl rfl rfl rfl sizeOf99 rfl (by simp only [List.all_cons,RGiven.one rG];rfl) rfl fun w N=>⟨dK (by kernel_rfl),fun a J=>?_⟩)
 replace N:=N.nf
 refine go fun a J=>?_
 refine qP [2,2,1,1,2,1,2,0,0,0] (.q 0 (.q 1 (.q 2 (.q 3 (.q 4 (.q 5 (.q 6 (.e2 7 8 (.e 8 (.e 9 (.done))) (.e 7 (.e 9 (.done))))))))))) [0,1,3,4,5,6,7,8,9,10] J N fun w N=>?_
 replace N:Mem N0 (.blk T3 (ob [.pointer (some p),mg,.pointer (some ⟨L0,0,none⟩),.int .i64 g1] 99)::.gs (u) 3 1 (z3i cl)::.blk L0 (ob [.int .i64 ((g1 - g1:Nat):Int)] 3)::.gs (uv) 42 3 cs::.blk b0 (ob [.slice p3 c.datas.length c4,.slice p9 c.inputs.length P1,.slice i2 c.funs.length Q1,.slice (some K2) c.outputs.length c22] 27)::.blk b1 (ob [.pointer (some p)] 89)::.blk b2 (ob [mg] 94)::.blk b3 (ob [.int .i64 fuel] 3)::.blk b4 (ob [u] 93)::.blk b5 (ob [uv] 38)::.blk b6 (ob [.slice none 0 0,.int .i64 ((0:Nat):Int)] 30)::K) w:=by rw [Nat.sub_self];exact N
 refine go fun a J=>?_
 rcases q1:yV (y1) v1 with _ | y6
 exact absurd (by rw [B,zA d,y5v (MapRel.none k0 q1)];rfl) i1
 obtain ⟨M0,E,Y4,rfl,I0⟩:=k0.get q1
 obtain ⟨b7,P4,rfl,y2,R0⟩:=id I0
 obtain ⟨C2,p2,rfl,j4,x4⟩:=y2.fm
 obtain ⟨D2,q2,E2,r2,rfl,X3,f5,g5,k4,y4,l4,z4⟩:=REx.fm R0
 have Z1:=congrArg (zK false (.agg #[.string ⟨#[]⟩,.slice none 0 0,.string ⟨#[]⟩,.int .i64 ((0:Nat):Int),.int .i64 ((0:Nat):Int),.string ⟨#[]⟩,.slice none 0 0,.slice none 0 0])) q1
 refine Qq (fun a J=>?_) (o:=by exact fun J O=>Ok.cast (yC runUnderlying103 runUnderlying9 zeroValue68 J O rfl rfl H0) (show zK false (.agg #[.string ⟨#[]⟩,.slice none 0 0,.string ⟨#[]⟩,.int .i64 ((0:Nat):Int),.int .i64 ((0:Nat):Int),.string ⟨#[]⟩,.slice none 0 0,.slice none 0 0]) (yV (y1) v1)=.agg #[.string M0.name,.slice C2 M0.params.length p2,.string M0.result,.int .i64 (M0.body.kind),.int .i64 (M0.body.num),.string M0.body.name,.slice D2 M0.body.args.length q2,.slice E2 M0.body.arms.length r2] from Z1))
 refine aT ?_ ?_
 have r0:=i1
 rw [B,zA d,oA E] at r0
 replace r0:=jX (r:=vN (jR ⟨T.funs,inp⟩) M0 [] g1) (jX r0)
 replace N:=N.pl 2
 refine xV call48 (fun J1 K3 w Z0 S1 N a J=>?_) (fun J1 w Z0 N=>?_) (c:=z0w hF g1 B0 rG I0 (SliceOf.nil 3) (hF _ _ E).1 (hF _ _ E).2 (Nat.le_refl _) (by omega) r0 N)
 obtain ⟨f,M⟩:=J1
 obtain ⟨C0,Z4⟩:=K3
 obtain ⟨v,W⟩:=S1
 have a0:=wV Z0
 simp only at v W N J a0
 have P3:=sB a0
 replace j0:=j0.up v
 replace L:=L.up v
 replace B0:=B0.mono v
 replace rG:=RGiven.mono v rG
 replace t:=t.mono v
 replace H0:=H0.mono v
 replace k0:=k0.up v
 replace hch:=hch.mono fun _ _ h=>h.up v
 replace G0:=G0.mono v
 replace I0:=I0.up v
 replace R0:=R0.up v
 replace N:=N.nf
 obtain ⟨x0,n0,rfl,Y3,h5,m4,A4⟩:=RVal.fm W
 refine Alc fun Q4 w N a J=>?_
 refine Sto 0 fun w N a J=>?_
 refine go fun a J=>?_
 refine qP [2,2,0,0,2,0,0,0,0,0] (.q 0 (.q 1 (.q 4 (.e2 2 5 (.e2 3 5 (.e 5 (.e 6 (.e 7 (.e 8 (.e 9 (.done)))))) (.e2 3 6 (.e 6 (.e 7 (.e 8 (.e 9 (.done))))) (.e 3 (.e 7 (.e 8 (.e 9 (.done))))))) (.e2 2 6 (.e2 3 6 (.e 6 (.e 7 (.e 8 (.e 9 (.done))))) (.e 3 (.e 7 (.e 8 (.e 9 (.done)))))) (.e 2 (.e 3 (.e 7 (.e 8 (.e 9 (.done))))))))))) [0,1,2,5,6,7,8,9,10,11] J N fun w N=>?_
 refine go fun a J=>?_
 refine aT ?_ ?_
 refine yK fun O5 w N a J=>?_
 refine aT ?_ ?_
 refine yU 4 pQ (fun L2 w N a J=>?_)
 rw [<- qQ] at N
 refine d_e J rfl rfl rfl (pY (qY 1 (vs:=[.string f.con,.int .i64 (f.num),.slice x0 f.args.length n0]) J N.toSees rfl rfl isAgg42 sizeOf42 rfl rfl) ⟨fun _=>N.sn (Fz.Le.refl _),fun a J=>?_⟩)
 refine yK fun v143 w N a J=>?_
 refine yU 6 wU (fun M2 w N a J=>?_)
 refine Sto 11 fun w N a J=>?_
 refine Sto 12 fun w N a J=>?_
 refine go fun a J=>?_
 replace N:=N.ar [4,3,2,1,0] [8,8,8,8,8,8,8,7,8]
 refine A _ _ _ (by subst F;omega) ⟨(C0),(i+1),(L2),((cl++[((g1 - M:Nat):Int)])),(M2),((cs++[.string f.con,.int .i64 (f.num),.slice x0 f.args.length n0])),(xs++[f]),(M),rfl,⟨J.pk,by exact N⟩,?_⟩
 rotate_left
 refine d_e J rfl rfl rfl (pY (qY 1 (vs:=[.string f.con,.int .i64 (f.num),.slice x0 f.args.length n0]) J N.toSees rfl rfl isAgg42 sizeOf42 rfl rfl) ⟨fun _=>N.sn (Fz.Le.refl _),fun a J=>?_⟩)
 refine aT ?_ ?_
 refine yU 4 pQ (fun v145 w N a J=>?_)
 rw [<- qQ] at N
 refine yK fun v146 w N a J=>?_
 refine yU 6 wU (fun N2 w N a J=>?_)
 refine Sto 11 fun w N a J=>?_
 refine Sto 12 fun w N a J=>?_
 refine go fun a J=>?_
 replace N:=N.ar [4,3,2,1,0] [8,8,8,8,8,8,8,7,8]
 refine A _ _ _ (by subst F;omega) ⟨(C0),(i+1),(v145),((cl++[((g1 - M:Nat):Int)])),(N2),((cs++[.string f.con,.int .i64 (f.num),.slice x0 f.args.length n0])),(xs++[f]),(M),rfl,⟨J.pk,by exact N⟩,?_⟩
 rotate_left
 refine yK fun P5 w N a J=>?_
 refine yU 5 pQ (fun O2 w N a J=>?_)
 rw [<- qQ] at N
 refine yU 6 wU (fun P2 w N a J=>?_)
 refine Sto 11 fun w N a J=>?_
 refine Sto 12 fun w N a J=>?_
 refine go fun a J=>?_
 replace N:=N.ar [4,3,2,1,0] [8,8,8,8,8,8,8,7,8]
 refine A _ _ _ (by subst F;omega) ⟨(C0),(i+1),(O2),((cl++[((g1 - M:Nat):Int)])),(P2),((cs++[.string f.con,.int .i64 (f.num),.slice x0 f.args.length n0])),(xs++[f]),(M),rfl,⟨J.pk,by exact N⟩,?_⟩
 rotate_left
 refine d_e J rfl rfl rfl (pY (qY 0 (vs:=[.string f.con,.int .i64 (f.num),.slice x0 f.args.length n0]) J N.toSees rfl rfl isAgg42 sizeOf42 rfl rfl) ⟨fun _=>N.sn (Fz.Le.refl _),fun a J=>?_⟩)
 refine aT ?_ ?_
 refine yK fun Q5 w N a J=>?_
 refine aT ?_ ?_
 refine yU 4 pQ (fun Q2 w N a J=>?_)
 rw [<- qQ] at N
 refine yK fun R5 w N a J=>?_
 refine yU 6 wU (fun R2 w N a J=>?_)
 refine Sto 11 fun w N a J=>?_
 refine Sto 12 fun w N a J=>?_
 refine go fun a J=>?_
 replace N:=N.ar [4,3,2,1,0] [8,8,8,8,8,8,8,7,8]
 refine A _ _ _ (by subst F;omega) ⟨(C0),(i+1),(Q2),((cl++[((g1 - M:Nat):Int)])),(R2),((cs++[.string f.con,.int .i64 (f.num),.slice x0 f.args.length n0])),(xs++[f]),(M),rfl,⟨J.pk,by exact N⟩,?_⟩
 rotate_left
 refine yK fun S5 w N a J=>?_
 refine yU 5 pQ (fun S2 w N a J=>?_)
 rw [<- qQ] at N
 refine yU 6 wU (fun T2 w N a J=>?_)
 refine Sto 11 fun w N a J=>?_
 refine Sto 12 fun w N a J=>?_
 refine go fun a J=>?_
 replace N:=N.ar [4,3,2,1,0] [8,8,8,8,8,8,8,7,8]
 refine A _ _ _ (by subst F;omega) ⟨(C0),(i+1),(S2),((cl++[((g1 - M:Nat):Int)])),(T2),((cs++[.string f.con,.int .i64 (f.num),.slice x0 f.args.length n0])),(xs++[f]),(M),rfl,⟨J.pk,by exact N⟩,?_⟩
 rotate_left
 refine yK fun T5 w N a J=>?_
 refine yK fun U5 w N a J=>?_
 refine yU 5 pQ (fun U2 w N a J=>?_)
 rw [<- qQ] at N
 refine yU 6 wU (fun V2 w N a J=>?_)
 refine Sto 11 fun w N a J=>?_
 refine Sto 12 fun w N a J=>?_
 refine go fun a J=>?_
 replace N:=N.ar [4,3,2,1,0] [8,8,8,8,8,8,8,7,8]
 refine A _ _ _ (by subst F;omega) ⟨(C0),(i+1),(U2),((cl++[((g1 - M:Nat):Int)])),(V2),((cs++[.string f.con,.int .i64 (f.num),.slice x0 f.args.length n0])),(xs++[f]),(M),rfl,⟨J.pk,by exact N⟩,?_⟩
 rotate_left
 have B1:=vB Z0 r0
 replace N:=N.dl [10,9,8,7,6,5,4,3,2,1,0]
 exact z5s (uA (by rw [B,zA d];exact gY E B1)) ⟨.inr ⟨rfl,rfl⟩,N.le (b)⟩
 refine Alc fun R4 w N a J=>?_
 have s0:=i1
 rw [B,zA d,oA E] at s0
 replace s0:=jX (r:=vN (jR ⟨T.funs,inp⟩) M0 [] g1) (jX s0)
 replace N:=N.pl 3
 refine xV call48 (fun K1 L3 w a1 T1 N a J=>?_) (fun K1 w a1 N=>?_) (c:=z0w hF g1 B0 rG I0 (SliceOf.nil 3) (hF _ _ E).1 (hF _ _ E).2 (Nat.le_refl _) (by omega) s0 N)
 obtain ⟨g,P⟩:=K1
 obtain ⟨D0,a5⟩:=L3
 obtain ⟨z,X⟩:=T1
 have c0:=wV a1
 simp only at z X N J c0
 have Q3:=sB c0
 replace j0:=j0.up z
 replace L:=L.up z
 replace B0:=B0.mono z
 replace rG:=RGiven.mono z rG
 replace t:=t.mono z
 replace H0:=H0.mono z
 replace k0:=k0.up z
 replace hch:=hch.mono fun _ _ h=>h.up z
 replace G0:=G0.mono z
 replace I0:=I0.up z
 replace R0:=R0.up z
 replace N:=N.nf
 obtain ⟨y0,o0,rfl,Z3,i5,n4,B4⟩:=RVal.fm X
 refine Sto 1 fun w N a J=>?_
 refine go fun a J=>?_
 refine qP [2,2,0,0,2,0,0,0,0,0] (.q 0 (.q 1 (.q 4 (.e2 2 5 (.e2 3 5 (.e 5 (.e 6 (.e 7 (.e 8 (.e 9 (.done)))))) (.e2 3 6 (.e 6 (.e 7 (.e 8 (.e 9 (.done))))) (.e 3 (.e 7 (.e 8 (.e 9 (.done))))))) (.e2 2 6 (.e2 3 6 (.e 6 (.e 7 (.e 8 (.e 9 (.done))))) (.e 3 (.e 7 (.e 8 (.e 9 (.done)))))) (.e 2 (.e 3 (.e 7 (.e 8 (.e 9 (.done))))))))))) [0,1,2,5,6,7,8,9,10,11] J N fun w N=>?_
 refine go fun a J=>?_
 refine aT ?_ ?_
 refine yK fun V5 w N a J=>?_
 refine aT ?_ ?_
 refine yU 4 pQ (fun W2 w N a J=>?_)
 rw [<- qQ] at N
 refine d_e J rfl rfl rfl (pY (qY 2 (vs:=[.string g.con,.int .i64 (g.num),.slice y0 g.args.length o0]) J N.toSees rfl rfl isAgg42 sizeOf42 rfl rfl) ⟨fun _=>N.sn (Fz.Le.refl _),fun a J=>?_⟩)
 refine yK fun W5 w N a J=>?_
 refine yU 6 wU (fun X2 w N a J=>?_)
 refine Sto 11 fun w N a J=>?_
 refine Sto 12 fun w N a J=>?_
 refine go fun a J=>?_
 replace N:=N.ar [4,3,2,1,0] [8,8,8,8,8,8,8,7,8]
 refine A _ _ _ (by subst F;omega) ⟨(D0),(i+1),(W2),((cl++[((g1 - P:Nat):Int)])),(X2),((cs++[.string g.con,.int .i64 (g.num),.slice y0 g.args.length o0])),(xs++[g]),(P),rfl,⟨J.pk,by exact N⟩,?_⟩
 rotate_left
 refine d_e J rfl rfl rfl (pY (qY 2 (vs:=[.string g.con,.int .i64 (g.num),.slice y0 g.args.length o0]) J N.toSees rfl rfl isAgg42 sizeOf42 rfl rfl) ⟨fun _=>N.sn (Fz.Le.refl _),fun a J=>?_⟩)
 refine aT ?_ ?_
 refine yU 4 pQ (fun Y2 w N a J=>?_)
 rw [<- qQ] at N
 refine yK fun X5 w N a J=>?_
 refine yU 6 wU (fun Z2 w N a J=>?_)
 refine Sto 11 fun w N a J=>?_
 refine Sto 12 fun w N a J=>?_
 refine go fun a J=>?_
 replace N:=N.ar [4,3,2,1,0] [8,8,8,8,8,8,8,7,8]
 refine A _ _ _ (by subst F;omega) ⟨(D0),(i+1),(Y2),((cl++[((g1 - P:Nat):Int)])),(Z2),((cs++[.string g.con,.int .i64 (g.num),.slice y0 g.args.length o0])),(xs++[g]),(P),rfl,⟨J.pk,by exact N⟩,?_⟩
 rotate_left
 refine yK fun Y5 w N a J=>?_
 refine yU 5 pQ (fun a3 w N a J=>?_)
 rw [<- qQ] at N
 refine yU 6 wU (fun d3 w N a J=>?_)
 refine Sto 11 fun w N a J=>?_
 refine Sto 12 fun w N a J=>?_
 refine go fun a J=>?_
 replace N:=N.ar [4,3,2,1,0] [8,8,8,8,8,8,8,7,8]
 refine A _ _ _ (by subst F;omega) ⟨(D0),(i+1),(a3),((cl++[((g1 - P:Nat):Int)])),(d3),((cs++[.string g.con,.int .i64 (g.num),.slice y0 g.args.length o0])),(xs++[g]),(P),rfl,⟨J.pk,by exact N⟩,?_⟩
 rotate_left
 refine d_e J rfl rfl rfl (pY (qY 1 (vs:=[.string g.con,.int .i64 (g.num),.slice y0 g.args.length o0]) J N.toSees rfl rfl isAgg42 sizeOf42 rfl rfl) ⟨fun _=>N.sn (Fz.Le.refl _),fun a J=>?_⟩)
 refine aT ?_ ?_
 refine yK fun Z5 w N a J=>?_
 refine aT ?_ ?_
 refine yU 4 pQ (fun e3 w N a J=>?_)
 rw [<- qQ] at N
 refine yK fun a6 w N a J=>?_
 refine yU 6 wU (fun f3 w N a J=>?_)
 refine Sto 11 fun w N a J=>?_
 refine Sto 12 fun w N a J=>?_
 refine go fun a J=>?_
 replace N:=N.ar [4,3,2,1,0] [8,8,8,8,8,8,8,7,8]
 refine A _ _ _ (by subst F;omega) ⟨(D0),(i+1),(e3),((cl++[((g1 - P:Nat):Int)])),(f3),((cs++[.string g.con,.int .i64 (g.num),.slice y0 g.args.length o0])),(xs++[g]),(P),rfl,⟨J.pk,by exact N⟩,?_⟩
 rotate_left
 refine yK fun c6 w N a J=>?_
 refine yU 5 pQ (fun g3 w N a J=>?_)
 rw [<- qQ] at N
 refine yU 6 wU (fun h3 w N a J=>?_)
 refine Sto 11 fun w N a J=>?_
 refine Sto 12 fun w N a J=>?_
 refine go fun a J=>?_
 replace N:=N.ar [4,3,2,1,0] [8,8,8,8,8,8,8,7,8]
 refine A _ _ _ (by subst F;omega) ⟨(D0),(i+1),(g3),((cl++[((g1 - P:Nat):Int)])),(h3),((cs++[.string g.con,.int .i64 (g.num),.slice y0 g.args.length o0])),(xs++[g]),(P),rfl,⟨J.pk,by exact N⟩,?_⟩
 rotate_left
 refine yK fun d6 w N a J=>?_
 refine yK fun e6 w N a J=>?_
 refine yU 5 pQ (fun i3 w N a J=>?_)
 rw [<- qQ] at N
 refine yU 6 wU (fun j3 w N a J=>?_)
 refine Sto 11 fun w N a J=>?_
 refine Sto 12 fun w N a J=>?_
 refine go fun a J=>?_
 replace N:=N.ar [4,3,2,1,0] [8,8,8,8,8,8,8,7,8]
 refine A _ _ _ (by subst F;omega) ⟨(D0),(i+1),(i3),((cl++[((g1 - P:Nat):Int)])),(j3),((cs++[.string g.con,.int .i64 (g.num),.slice y0 g.args.length o0])),(xs++[g]),(P),rfl,⟨J.pk,by exact N⟩,?_⟩
 rotate_left
 have C1:=vB a1 s0
 replace N:=N.dl [11,10,9,8,7,6,5,4,3,2,1,0]
 exact z5s (uA (by rw [B,zA d];exact gY E C1)) ⟨.inr ⟨rfl,rfl⟩,N.le (b)⟩
 refine Alc fun n2 w N a J=>?_
 replace N:=N.pl 3
 refine zO call47 (fun w N a J=>?_) (c:=y7l (l:=cl) (by omega) N)
 refine Qq (fun a J=>?_) (o:=by exact fun J O=>jT ((g1:Nat):Int) J rfl rfl (by rw [n,yB (by omega)];omega))
 refine Qq (fun a J=>?_) (o:=by exact fun J O=>z3e (vs:=[(0,.pointer (some p)),(1,mg),(2,.pointer (some ⟨L0,0,none⟩)),(3,.int .i64 g1)]) (cs:=[.pointer (some p),mg,.pointer (some ⟨L0,0,none⟩),.int .i64 g1]) J rfl (by rcases rG with ⟨_,_,h_,_⟩ | ⟨h_,_⟩ <;> rw [h_] <;> kernel_rfl))
 refine y8u J rfl rfl (qF 1 (cs:=[.pointer none,.map none,.pointer none,.int .i64 ((0:Nat):Int)]) (vs:=[.pointer (some p),mg,.pointer (some ⟨L0,0,none⟩),.int .i64 g1]) J N rfl rfl rfl rfl sizeOf99 rfl (by simp only [List.all_cons,RGiven.one rG];rfl) rfl fun w N=>⟨dK (by kernel_rfl),fun a J=>?_⟩)
 replace N:=N.nf
 refine go fun a J=>?_
 refine qP [2,2,1,1,2,1,2,0,0,0] (.q 0 (.q 1 (.q 2 (.q 3 (.q 4 (.q 5 (.q 6 (.e2 7 8 (.e 8 (.e 9 (.done))) (.e 7 (.e 9 (.done))))))))))) [0,1,3,4,5,6,7,8,9,10] J N fun w N=>?_
 replace N:Mem N0 (.gs (u) 3 1 (z3i cl)::.blk n2 (ob [.pointer (some p),mg,.pointer (some ⟨L0,0,none⟩),.int .i64 g1] 99)::.blk L0 (ob [.int .i64 ((g1 - g1:Nat):Int)] 3)::.gs (uv) 42 3 cs::.blk b0 (ob [.slice p3 c.datas.length c4,.slice p9 c.inputs.length P1,.slice i2 c.funs.length Q1,.slice (some K2) c.outputs.length c22] 27)::.blk b1 (ob [.pointer (some p)] 89)::.blk b2 (ob [mg] 94)::.blk b3 (ob [.int .i64 fuel] 3)::.blk b4 (ob [u] 93)::.blk b5 (ob [uv] 38)::.blk b6 (ob [.slice none 0 0,.int .i64 ((0:Nat):Int)] 30)::K) w:=by rw [Nat.sub_self];exact N
 refine go fun a J=>?_
 rcases Y0:yV (y1) v1 with _ | N4
 exact absurd (by rw [B,zA d,y5v (MapRel.none k0 Y0)];rfl) i1
 obtain ⟨l0,s,U3,rfl,m0⟩:=k0.get Y0
 obtain ⟨N5,S4,rfl,z2,S0⟩:=id m0
 obtain ⟨F2,s2,rfl,o4,C4⟩:=z2.fm
 obtain ⟨G2,t2,H2,u2,rfl,a4,j5,k5,p4,D4,q4,E4⟩:=REx.fm S0
 have z1:=congrArg (zK false (.agg #[.string ⟨#[]⟩,.slice none 0 0,.string ⟨#[]⟩,.int .i64 ((0:Nat):Int),.int .i64 ((0:Nat):Int),.string ⟨#[]⟩,.slice none 0 0,.slice none 0 0])) Y0
 refine Qq (fun a J=>?_) (o:=by exact fun J O=>Ok.cast (yC runUnderlying103 runUnderlying9 zeroValue68 J O rfl rfl H0) (show zK false (.agg #[.string ⟨#[]⟩,.slice none 0 0,.string ⟨#[]⟩,.int .i64 ((0:Nat):Int),.int .i64 ((0:Nat):Int),.string ⟨#[]⟩,.slice none 0 0,.slice none 0 0]) (yV (y1) v1)=.agg #[.string l0.name,.slice F2 l0.params.length s2,.string l0.result,.int .i64 (l0.body.kind),.int .i64 (l0.body.num),.string l0.body.name,.slice G2 l0.body.args.length t2,.slice H2 l0.body.arms.length u2] from z1))
 refine aT ?_ ?_
 have t0:=i1
 rw [B,zA d,oA s] at t0
 replace t0:=jX (r:=vN (jR ⟨T.funs,inp⟩) l0 [] g1) (jX t0)
 replace N:=N.pl 2
 refine xV call48 (fun L1 M3 w c1 U1 N a J=>?_) (fun L1 w c1 N=>?_) (c:=z0w hF g1 B0 rG m0 (SliceOf.nil 3) (hF _ _ s).1 (hF _ _ s).2 (Nat.le_refl _) (by omega) t0 N)
 obtain ⟨j,S⟩:=L1
 obtain ⟨E0,c5⟩:=M3
 obtain ⟨C,Y⟩:=U1
 have f0:=wV c1
 simp only at C Y N J f0
 have R3:=sB f0
 replace j0:=j0.up C
 replace L:=L.up C
 replace B0:=B0.mono C
 replace rG:=RGiven.mono C rG
 replace t:=t.mono C
 replace hch:=hch.mono fun _ _ h=>h.up C
 replace G0:=G0.mono C
 replace m0:=m0.up C
 replace S0:=S0.up C
 replace N:=N.nf
 obtain ⟨z0,p0,rfl,d4,l5,r4,F4⟩:=RVal.fm Y
 refine Alc fun T4 w N a J=>?_
 refine Sto 0 fun w N a J=>?_
 refine go fun a J=>?_
 refine qP [2,2,0,0,2,0,0,0,0,0] (.q 0 (.q 1 (.q 4 (.e2 2 5 (.e2 3 5 (.e 5 (.e 6 (.e 7 (.e 8 (.e 9 (.done)))))) (.e2 3 6 (.e 6 (.e 7 (.e 8 (.e 9 (.done))))) (.e 3 (.e 7 (.e 8 (.e 9 (.done))))))) (.e2 2 6 (.e2 3 6 (.e 6 (.e 7 (.e 8 (.e 9 (.done))))) (.e 3 (.e 7 (.e 8 (.e 9 (.done)))))) (.e 2 (.e 3 (.e 7 (.e 8 (.e 9 (.done))))))))))) [0,1,3,5,6,7,8,9,10,11] J N fun w N=>?_
 refine go fun a J=>?_
 refine aT ?_ ?_
 refine yK fun f6 w N a J=>?_
 refine aT ?_ ?_
 refine yU 3 pQ (fun k3 w N a J=>?_)
 rw [<- qQ] at N
 refine d_e J rfl rfl rfl (pY (qY 1 (vs:=[.string j.con,.int .i64 (j.num),.slice z0 j.args.length p0]) J N.toSees rfl rfl isAgg42 sizeOf42 rfl rfl) ⟨fun _=>N.sn (Fz.Le.refl _),fun a J=>?_⟩)
 refine yK fun g6 w N a J=>?_
 refine yU 6 wU (fun l3 w N a J=>?_)
 refine Sto 11 fun w N a J=>?_
 refine Sto 12 fun w N a J=>?_
 refine go fun a J=>?_
 replace N:=N.ar [5,3,2,1,0] [8,8,8,8,8,8,8,7,8]
 refine A _ _ _ (by subst F;omega) ⟨(E0),(i+1),(k3),((cl++[((g1 - S:Nat):Int)])),(l3),((cs++[.string j.con,.int .i64 (j.num),.slice z0 j.args.length p0])),(xs++[j]),(S),rfl,⟨J.pk,by exact N⟩,?_⟩
 rotate_left
 refine d_e J rfl rfl rfl (pY (qY 1 (vs:=[.string j.con,.int .i64 (j.num),.slice z0 j.args.length p0]) J N.toSees rfl rfl isAgg42 sizeOf42 rfl rfl) ⟨fun _=>N.sn (Fz.Le.refl _),fun a J=>?_⟩)
 refine aT ?_ ?_
 refine yU 3 pQ (fun m3 w N a J=>?_)
 rw [<- qQ] at N
 refine yK fun h6 w N a J=>?_
 refine yU 6 wU (fun n3 w N a J=>?_)
 refine Sto 11 fun w N a J=>?_
 refine Sto 12 fun w N a J=>?_
 refine go fun a J=>?_
 replace N:=N.ar [5,3,2,1,0] [8,8,8,8,8,8,8,7,8]
 refine A _ _ _ (by subst F;omega) ⟨(E0),(i+1),(m3),((cl++[((g1 - S:Nat):Int)])),(n3),((cs++[.string j.con,.int .i64 (j.num),.slice z0 j.args.length p0])),(xs++[j]),(S),rfl,⟨J.pk,by exact N⟩,?_⟩
 rotate_left
 refine yK fun i6 w N a J=>?_
 refine yU 4 pQ (fun o3 w N a J=>?_)
 rw [<- qQ] at N
 refine yU 6 wU (fun q3 w N a J=>?_)
 refine Sto 11 fun w N a J=>?_
 refine Sto 12 fun w N a J=>?_
 refine go fun a J=>?_
 replace N:=N.ar [5,3,2,1,0] [8,8,8,8,8,8,8,7,8]
 refine A _ _ _ (by subst F;omega) ⟨(E0),(i+1),(o3),((cl++[((g1 - S:Nat):Int)])),(q3),((cs++[.string j.con,.int .i64 (j.num),.slice z0 j.args.length p0])),(xs++[j]),(S),rfl,⟨J.pk,by exact N⟩,?_⟩
 rotate_left
 refine d_e J rfl rfl rfl (pY (qY 0 (vs:=[.string j.con,.int .i64 (j.num),.slice z0 j.args.length p0]) J N.toSees rfl rfl isAgg42 sizeOf42 rfl rfl) ⟨fun _=>N.sn (Fz.Le.refl _),fun a J=>?_⟩)
 refine aT ?_ ?_
 refine yK fun j6 w N a J=>?_
 refine aT ?_ ?_
 refine yU 3 pQ (fun r3 w N a J=>?_)
 rw [<- qQ] at N
 refine yK fun k6 w N a J=>?_
 refine yU 6 wU (fun s3 w N a J=>?_)
 refine Sto 11 fun w N a J=>?_
 refine Sto 12 fun w N a J=>?_
 refine go fun a J=>?_
 replace N:=N.ar [5,3,2,1,0] [8,8,8,8,8,8,8,7,8]
 refine A _ _ _ (by subst F;omega) ⟨(E0),(i+1),(r3),((cl++[((g1 - S:Nat):Int)])),(s3),((cs++[.string j.con,.int .i64 (j.num),.slice z0 j.args.length p0])),(xs++[j]),(S),rfl,⟨J.pk,by exact N⟩,?_⟩
 rotate_left
 refine yK fun l6 w N a J=>?_
 refine yU 4 pQ (fun t3 w N a J=>?_)
 rw [<- qQ] at N
 refine yU 6 wU (fun u3 w N a J=>?_)
 refine Sto 11 fun w N a J=>?_
 refine Sto 12 fun w N a J=>?_
 refine go fun a J=>?_
 replace N:=N.ar [5,3,2,1,0] [8,8,8,8,8,8,8,7,8]
 refine A _ _ _ (by subst F;omega) ⟨(E0),(i+1),(t3),((cl++[((g1 - S:Nat):Int)])),(u3),((cs++[.string j.con,.int .i64 (j.num),.slice z0 j.args.length p0])),(xs++[j]),(S),rfl,⟨J.pk,by exact N⟩,?_⟩
 rotate_left
 refine yK fun m6 w N a J=>?_
 refine yK fun n6 w N a J=>?_
 refine yU 4 pQ (fun v3 w N a J=>?_)
 rw [<- qQ] at N
 refine yU 6 wU (fun w3 w N a J=>?_)
 refine Sto 11 fun w N a J=>?_
 refine Sto 12 fun w N a J=>?_
 refine go fun a J=>?_
 replace N:=N.ar [5,3,2,1,0] [8,8,8,8,8,8,8,7,8]
 refine A _ _ _ (by subst F;omega) ⟨(E0),(i+1),(v3),((cl++[((g1 - S:Nat):Int)])),(w3),((cs++[.string j.con,.int .i64 (j.num),.slice z0 j.args.length p0])),(xs++[j]),(S),rfl,⟨J.pk,by exact N⟩,?_⟩
 rotate_left
 have D1:=vB c1 t0
 replace N:=N.dl [10,9,8,7,6,5,4,3,2,1,0]
 exact z5s (uA (by rw [B,zA d];exact gY s D1)) ⟨.inr ⟨rfl,rfl⟩,N.le (b)⟩
 refine Alc fun U4 w N a J=>?_
 have u0:=i1
 rw [B,zA d,oA s] at u0
 replace u0:=jX (r:=vN (jR ⟨T.funs,inp⟩) l0 [] g1) (jX u0)
 replace N:=N.pl 3
 refine xV call48 (fun M1 N3 w d1 V1 N a J=>?_) (fun M1 w d1 N=>?_) (c:=z0w hF g1 B0 rG m0 (SliceOf.nil 3) (hF _ _ s).1 (hF _ _ s).2 (Nat.le_refl _) (by omega) u0 N)
 obtain ⟨m,U⟩:=M1
 obtain ⟨F0,d5⟩:=N3
 obtain ⟨D,Z⟩:=V1
 have g0:=wV d1
 simp only at D Z N J g0
 have S3:=sB g0
 replace j0:=j0.up D
 replace L:=L.up D
 replace rG:=RGiven.mono D rG
 replace t:=t.mono D
 replace hch:=hch.mono fun _ _ h=>h.up D
 replace G0:=G0.mono D
 replace m0:=m0.up D
 replace S0:=S0.up D
 replace N:=N.nf
 obtain ⟨A0,q0,rfl,e4,m5,s4,G4⟩:=RVal.fm Z
 refine Sto 1 fun w N a J=>?_
 refine go fun a J=>?_
 refine qP [2,2,0,0,2,0,0,0,0,0] (.q 0 (.q 1 (.q 4 (.e2 2 5 (.e2 3 5 (.e 5 (.e 6 (.e 7 (.e 8 (.e 9 (.done)))))) (.e2 3 6 (.e 6 (.e 7 (.e 8 (.e 9 (.done))))) (.e 3 (.e 7 (.e 8 (.e 9 (.done))))))) (.e2 2 6 (.e2 3 6 (.e 6 (.e 7 (.e 8 (.e 9 (.done))))) (.e 3 (.e 7 (.e 8 (.e 9 (.done)))))) (.e 2 (.e 3 (.e 7 (.e 8 (.e 9 (.done))))))))))) [0,1,3,5,6,7,8,9,10,11] J N fun w N=>?_
 refine go fun a J=>?_
 refine aT ?_ ?_
 refine yK fun o6 w N a J=>?_
 refine aT ?_ ?_
 refine yU 3 pQ (fun x3 w N a J=>?_)
 rw [<- qQ] at N
 refine d_e J rfl rfl rfl (pY (qY 2 (vs:=[.string m.con,.int .i64 (m.num),.slice A0 m.args.length q0]) J N.toSees rfl rfl isAgg42 sizeOf42 rfl rfl) ⟨fun _=>N.sn (Fz.Le.refl _),fun a J=>?_⟩)
 refine yK fun p6 w N a J=>?_
 refine yU 6 wU (fun y3 w N a J=>?_)
 refine Sto 11 fun w N a J=>?_
 refine Sto 12 fun w N a J=>?_
 refine go fun a J=>?_
 replace N:=N.ar [5,3,2,1,0] [8,8,8,8,8,8,8,7,8]
 refine A _ _ _ (by subst F;omega) ⟨(F0),(i+1),(x3),((cl++[((g1 - U:Nat):Int)])),(y3),((cs++[.string m.con,.int .i64 (m.num),.slice A0 m.args.length q0])),(xs++[m]),(U),rfl,⟨J.pk,by exact N⟩,?_⟩
 rotate_left
 refine d_e J rfl rfl rfl (pY (qY 2 (vs:=[.string m.con,.int .i64 (m.num),.slice A0 m.args.length q0]) J N.toSees rfl rfl isAgg42 sizeOf42 rfl rfl) ⟨fun _=>N.sn (Fz.Le.refl _),fun a J=>?_⟩)
 refine aT ?_ ?_
 refine yU 3 pQ (fun z3 w N a J=>?_)
 rw [<- qQ] at N
 refine yK fun q6 w N a J=>?_
 refine yU 6 wU (fun A3 w N a J=>?_)
 refine Sto 11 fun w N a J=>?_
 refine Sto 12 fun w N a J=>?_
 refine go fun a J=>?_
 replace N:=N.ar [5,3,2,1,0] [8,8,8,8,8,8,8,7,8]
 refine A _ _ _ (by subst F;omega) ⟨(F0),(i+1),(z3),((cl++[((g1 - U:Nat):Int)])),(A3),((cs++[.string m.con,.int .i64 (m.num),.slice A0 m.args.length q0])),(xs++[m]),(U),rfl,⟨J.pk,by exact N⟩,?_⟩
 rotate_left
 refine yK fun r6 w N a J=>?_
 refine yU 4 pQ (fun B3 w N a J=>?_)
 rw [<- qQ] at N
 refine yU 6 wU (fun C3 w N a J=>?_)
 refine Sto 11 fun w N a J=>?_
 refine Sto 12 fun w N a J=>?_
 refine go fun a J=>?_
 replace N:=N.ar [5,3,2,1,0] [8,8,8,8,8,8,8,7,8]
 refine A _ _ _ (by subst F;omega) ⟨(F0),(i+1),(B3),((cl++[((g1 - U:Nat):Int)])),(C3),((cs++[.string m.con,.int .i64 (m.num),.slice A0 m.args.length q0])),(xs++[m]),(U),rfl,⟨J.pk,by exact N⟩,?_⟩
 rotate_left
 refine d_e J rfl rfl rfl (pY (qY 1 (vs:=[.string m.con,.int .i64 (m.num),.slice A0 m.args.length q0]) J N.toSees rfl rfl isAgg42 sizeOf42 rfl rfl) ⟨fun _=>N.sn (Fz.Le.refl _),fun a J=>?_⟩)
 refine aT ?_ ?_
 refine yK fun s6 w N a J=>?_
 refine aT ?_ ?_
 refine yU 3 pQ (fun D3 w N a J=>?_)
 rw [<- qQ] at N
 refine yK fun t6 w N a J=>?_
 refine yU 6 wU (fun E3 w N a J=>?_)
 refine Sto 11 fun w N a J=>?_
 refine Sto 12 fun w N a J=>?_
 refine go fun a J=>?_
 replace N:=N.ar [5,3,2,1,0] [8,8,8,8,8,8,8,7,8]
 refine A _ _ _ (by subst F;omega) ⟨(F0),(i+1),(D3),((cl++[((g1 - U:Nat):Int)])),(E3),((cs++[.string m.con,.int .i64 (m.num),.slice A0 m.args.length q0])),(xs++[m]),(U),rfl,⟨J.pk,by exact N⟩,?_⟩
 rotate_left
 refine yK fun u6 w N a J=>?_
 refine yU 4 pQ (fun F3 w N a J=>?_)
 rw [<- qQ] at N
 refine yU 6 wU (fun G3 w N a J=>?_)
 refine Sto 11 fun w N a J=>?_
 refine Sto 12 fun w N a J=>?_
 refine go fun a J=>?_
 replace N:=N.ar [5,3,2,1,0] [8,8,8,8,8,8,8,7,8]
 refine A _ _ _ (by subst F;omega) ⟨(F0),(i+1),(F3),((cl++[((g1 - U:Nat):Int)])),(G3),((cs++[.string m.con,.int .i64 (m.num),.slice A0 m.args.length q0])),(xs++[m]),(U),rfl,⟨J.pk,by exact N⟩,?_⟩
 rotate_left
 refine yK fun v6 w N a J=>?_
 refine yK fun w6 w N a J=>?_
 refine yU 4 pQ (fun H3 w N a J=>?_)
 rw [<- qQ] at N
 refine yU 6 wU (fun I3 w N a J=>?_)
 refine Sto 11 fun w N a J=>?_
 refine Sto 12 fun w N a J=>?_
 refine go fun a J=>?_
 replace N:=N.ar [5,3,2,1,0] [8,8,8,8,8,8,8,7,8]
 refine A _ _ _ (by subst F;omega) ⟨(F0),(i+1),(H3),((cl++[((g1 - U:Nat):Int)])),(I3),((cs++[.string m.con,.int .i64 (m.num),.slice A0 m.args.length q0])),(xs++[m]),(U),rfl,⟨J.pk,by exact N⟩,?_⟩
 rotate_left
 have E1:=vB d1 u0
 replace N:=N.dl [11,10,9,8,7,6,5,4,3,2,1,0]
 exact z5s (uA (by rw [B,zA d];exact gY s E1)) ⟨.inr ⟨rfl,rfl⟩,N.le (b)⟩
 refine go fun a J=>?_
 have U0:=N
 clear N
 obtain ⟨P0,h0,N,s1⟩:=U0.freezeRow (i:=0) rfl
 clear U0
 replace j0:=j0.up h0
 replace L:=L.up h0
 replace rG:=RGiven.mono h0 rG
 replace t:=t.mono h0
 replace hch:=hch.mono fun _ _ h=>h.up h0
 replace N:=N.nf
 have w0:SliceOf RVal P0 3 _ (xs):=⟨_,s1,hch⟩
 obtain ⟨I2,v2,d2,t4,a2⟩:=w0.form (by decide)
 have V0:=N
 clear N
 subst d2
 have N:=V0
 clear V0
 have p1:vR ⟨T.funs,inp⟩ c.outputs fuel=.ok xs g1:=by
  rw [B,zE A2];exact q8p
 refine zX call49 (fun W0 w N a J=>?_) (fun W0 w N a J=>?_) (c:=q6b (V:=P0) (K:=.gs (u) 3 1 (z3i cl)::.blk b0 (ob [.slice p3 c.datas.length c4,.slice p9 c.inputs.length P1,.slice i2 c.funs.length Q1,.slice K4 c.outputs.length c22] 27)::.blk b1 (ob [.pointer (some p)] 89)::.blk b2 (ob [mg] 94)::.blk b3 (ob [.int .i64 fuel] 3)::.blk b4 (ob [u] 93)::.blk b5 (ob [.slice I2 (xs).length v2] 38)::.blk b6 (ob [.slice none 0 0,.int .i64 ((0:Nat):Int)] 30)::K) (p:=mD) (fs:=[]) (cs:=[]) w0 call50 (fun x c w hx hc N=>z6e hc N) N)
 refine zF ?_
 replace N:=N.dl [7,6,5,4,3,2,1,0]
 exact z5s (j1u p1 W0) ⟨.inl rfl,N.le ((b).trans h0)⟩
 refine go fun a J=>?_
 have n1:=W0
 replace N:=N.nilRow 62 4
 replace N:=N.nf
 refine go fun a J=>?_
 refine zR (J.ks [0,6,48,49]) N (fun R mm a w=>∃(Q0:Fz) (k:Nat) (uo:Value) (co:List Value),mm=xs.length - k/\R Q0 [(50,.int .i64 k)] [(0,.gs (uo) 62 4 co),(8,.blk b6 (ob [uo,.int .i64 ((0:Nat):Int)] 30))] a w/\(P0.Le Q0/\(Chunks (RNamed Q0) 4 co ((mE c.outputs xs).take k)))) (xs.length - 0) ⟨P0,0,.slice none 0 0,[],rfl,⟨J.pk,N⟩,⟨Fz.Le.refl _,rfl⟩⟩ ?_
 clear N J
 rintro mm a w ⟨Q0,k,uo,co,F,⟨J,N⟩,X0⟩ O4 X1
 replace N:=N.nf
 obtain ⟨i0,X0⟩:=X0
 replace j0:=j0.up i0
 replace L:=L.up i0
 replace rG:=RGiven.mono i0 rG
 replace t:=t.mono i0
 replace w0:=w0.up i0
 have T0:=X0
 by_cases G1:k < (xs).length
 refine go fun a J=>?_
 obtain ⟨L5,rfl,K0,u1,V3,h4,l1,O0⟩:=w0.el a2 G1
 obtain ⟨K5,W4,rfl,f4,n5,u4,H4⟩:=RVal.fm O0
 refine Alc fun V4 w N a J=>?_
 refine Sto 0 fun w N a J=>?_
 refine Reg [1,2,1,2,1,1,2,2,0,1,0,0,1,0] [0,2,3,4,5,6,7,8,9] fun w N a J=>?_
 refine go fun a J=>?_
 have Y1:k < c.outputs.length:=by omega
 obtain ⟨M5,rfl,h1,f2,R1,i4,m1,c2⟩:=j0.el H1 Y1
 obtain rfl:R1=[.string h1]:=c2
 refine zV call51 (fun O3 w W1 N a J=>?_) (c:=own_ok (q9u (by have h_:=List.any_eq_false.1 n1 _ (mgQ u1);simpa using h_)) O0 N)
 obtain ⟨w1,e5⟩:=O3
 obtain ⟨I,e1⟩:=W1
 simp only at I e1 N J
 replace L:=L.up I
 replace rG:=RGiven.mono I rG
 replace t:=t.mono I
 replace T0:=T0.mono fun _ _ h=>h.up I
 replace l1:=l1.mono I
 replace O0:=O0.up I
 replace m1:=m1.mono I
 replace N:=N.nf
 obtain ⟨I1,F1,rfl,g4,o5,v4,I4⟩:=RVal.fm e1
 refine z3v fun a J=>?_
 refine yK fun x6 w N a J=>?_
 refine yU 2 rt_28 (fun J3 w N a J=>?_) (hb:=by have h_:=T0.length;have I6:((mE c.outputs xs).take k).length<=xs.length:=(by simp [mE];omega);rw [h_];simp only [lcQ,lnQ];omega)
 refine Sto 10 fun w N a J=>?_
 refine go fun a J=>?_
 replace N:=N.dl [1,0]
 refine X1 _ _ _ (by subst F;omega) ⟨(w1),(k+1),(J3),((co++[.string h1,.string K0.con,.int .i64 (K0.num),.slice I1 K0.args.length F1])),rfl,⟨J.pk,by exact N⟩,?_⟩
 refine ⟨(i0).trans I,?_⟩
 rw [xK (x0o f2 u1)];exact T0.snoc rfl (show RNamed w1 [.string h1,.string K0.con,.int .i64 (K0.num),.slice I1 K0.args.length F1] (⟨h1,K0⟩:Named) from ⟨_,rfl,e1⟩)
 refine go fun a J=>?_
 rw [x0n G1] at T0
 have U0:=N
 clear N
 obtain ⟨x1,J0,N,t1,r1⟩:=U0.freezeRowN (i:=0) rfl
 clear U0
 replace L:=L.up J0
 replace rG:=RGiven.mono J0 rG
 replace t:=t.mono J0
 replace T0:=T0.mono fun _ _ h=>h.up J0
 replace N:=N.nf
 have f1:SliceOf RNamed x1 4 _ ((mE c.outputs xs)):=⟨_,t1,T0⟩
 obtain ⟨J2,w2,d2,w4,J4⟩:=f1.form (by decide)
 have V0:=N
 clear N
 subst d2
 have N:=V0
 clear V0
 replace r1:=r1.anti (((b).trans h0).trans i0)
 refine zF ?_
 replace N:=N.ar [6,4,3,2,1] [2,1,2]
 exact endOut (endP_ok p1 n1) ⟨(x1,u,cl,.slice J2 ((mE c.outputs xs)).length w2),rfl,⟨(((b).trans h0).trans i0).trans J0,by rw [n],(show cl.length<=1000 by omega),f1,r1⟩,N⟩
 all_goals first | (refine ⟨(b).trans v,?_⟩;refine ⟨hch.snoc rfl W,by simp [H],by omega,by omega,by simp [G],?_,?_⟩;rw [yS,n,yB (by omega)];omega;rw [B,zA d];exact yG E a0) | (refine ⟨(b).trans z,?_⟩;refine ⟨hch.snoc rfl X,by simp [H],by omega,by omega,by simp [G],?_,?_⟩;rw [yS,n,yB (by omega)];omega;rw [B,zA d];exact yG E c0) | (refine ⟨(b).trans C,?_⟩;refine ⟨hch.snoc rfl Y,by simp [H],by omega,by omega,by simp [G],?_,?_⟩;rw [yS,n,yB (by omega)];omega;rw [B,zA d];exact yG s f0) | (refine ⟨(b).trans D,?_⟩;refine ⟨hch.snoc rfl Z,by simp [H],by omega,by omega,by simp [G],?_,?_⟩;rw [yS,n,yB (by omega)];omega;rw [B,zA d];exact yG s g0)
theorem cN {c:Core} (h:qL c=0):kO c=false/\jA c=true:=by
 unfold qL at h
 split at h
 ·cases h
 split at h
 ·cases h
 split at h
 ·rename_i h2 hr;exact ⟨by simpa using h2,hr⟩
 ·cases h
theorem z2u {c:Core} (h:qL c=0):z0s (zN c):=by
 obtain ⟨hl,hr⟩:=cN h
 have b:pA c=true:=by simp only [jA,baQ] at hr;exact hr.1.1.1.1.1
 intro n f a
 exact ⟨z7a hl b n f a,oP hl (dP b a)⟩
theorem x0i {c:Core} (h:qL c=0):c.outputs.length<=1000:=by
 have hl:=(cN h).1
 simp only [kO,Bool.or_eq_false_iff,decide_eq_false_iff_not] at hl
 omega
theorem x3f {r:Ev (List Val)} {c:Nat} (h:y4e r=.error c):c≠0:=by
 cases r with
 | ok vs g=>
  simp only [y4e] at h
  split at h
  ·cases h;decide
  ·cases h
 | spent=>cases h;decide
 | stuck=>cases h;decide
section
variable {P:Program} {n:Nat} {E:List (Nat×Value)} {D:List Deferred} {a:Act} {V:Fz} {K:List Res} {w:World}
variable {Kn:Value->World->Prop} {Qp:List PanicEntry->World->Prop} {dst:Option Tmp} {ty:TypeId} {pos:String} {aft:Array Edge} {g:Option (Nat×Bool)}
theorem z8a {α β ε:Type} {f:FuncId} {xs:Array Operand} {ts:Array TypeId} {vs:List Value} {r:Except ε α} {X:α->β->Value} {Z:ε->Value} {F1:α->β->Fz} {b:Fz} {KO:α->β->List Res} {KE:List Res} {G:α->β->Prop}
  (J:EnvR n E D a) (l:evs E xs.toList=some vs) (j:∀args w,(callFunc f args).run P w=.ok (.enter f args) w)
  (i:Calls P f vs.toArray w (fun e w'=>Out r (fun x=>∃y,e=.returned (X x y)/\G x y/\Mem (F1 x y) (KO x y) w') (fun c=>e=.returned (Z c)/\Mem b KE w')))
  (k:∀x y w',r=.ok x->G x y->Mem (F1 x y) (KO x y) w'->Kn (X x y) w') (kp:∀c w',r=.error c->Mem b KE w'->Kn (Z c) w') :
  Oper.eff P ⟨dst,.call { callee:=.value (.func f),args:=xs,argTypes:=ts },ty,pos,aft,g⟩ a w Kn Qp:=by
 refine aD J l j i (fun v w' h=>?_) (fun c w' h=>?_) (fun w' h=>?_)
 ·cases r with
  | ok x=>obtain ⟨y,h1,h2,d⟩:=h;cases h1;exact k _ _ _ rfl h2 d
  | error c=>obtain ⟨h1,h2⟩:=h;cases h1;exact kp _ _ rfl h2
 ·cases r with
  | ok x=>obtain ⟨y,h1,_⟩:=h;cases h1
  | error c=>obtain ⟨h1,h2⟩:=h;cases h1
 ·cases r with
  | ok x=>obtain ⟨y,h1,_⟩:=h;cases h1
  | error c=>obtain ⟨h1,_⟩:=h;cases h1
theorem uQ {fn:Func} {R:Ending->World->Prop} {t u T b k i:Nat} {cs:List Value} {d:TypeId} {x:Value} (J:EnvR n E [] a) (N:Sees V K w) (hr:fn.results=#[.cell t T,.tmp u]) (c:get E t=some (.pointer (some ⟨b,0,none⟩)))
  (g:qH K i=some (.blk b (ob cs d))) (f:AggT P T) (e:SizeT P T k) (hl:cs.length=k) (j:get E u=some x) (h:R (.returned (.tuple #[.agg cs.toArray,x])) w):bodyPost P fn R .ret a w:=by
 refine ⟨J.defs,_,?_,h⟩
 have h2:=j5v (P:=P) J N c g f e hl
 simp [results,hr,Array.getD_eq_getD_getElem?,J.env t _ c,J.env u _ j,asAddr,h2,Sem.run_bind,Result.andThen]
theorem kC {fn:Func} {R:Ending->World->Prop} {t u d T b k i:Nat} {cs:List Value} {g:TypeId} {x f:Value} (J:EnvR n E [] a) (N:Sees V K w) (hr:fn.results=#[.cell t T,.tmp u,.tmp d]) (e:get E t=some (.pointer (some ⟨b,0,none⟩)))
  (m:qH K i=some (.blk b (ob cs g))) (l:AggT P T) (j:SizeT P T k) (hl:cs.length=k) (o:get E u=some x) (c:get E d=some f) (h:R (.returned (.tuple #[.agg cs.toArray,x,f])) w):bodyPost P fn R .ret a w:=by
 refine ⟨J.defs,_,?_,h⟩
 have h2:=j5v (P:=P) J N e m l j hl
 simp [results,hr,Array.getD_eq_getD_getElem?,J.env t _ e,J.env u _ o,J.env d _ c,asAddr,h2,Sem.run_bind,Result.andThen]
end
theorem j3x {V:Fz} {K:List Res} {w:World} {p:Addr} {T:Table} {d0:List Value} {c:Core} {mg:Value} {inp:List (Bs×Val)} {fuel m n o q d r f:Nat} (l:RCore V d0 c) (k:RTable V p T) (rG:RGiven V mg inp) (t:z0s T) (a:c.outputs.length<=1000) (g:fuel<=1000000)
  (j:vR ⟨T.funs,inp⟩ c.outputs fuel≠.stuck)
  (N:Mem V (.blk m (ob d0 27)::.blk n (ob [.pointer (some p)] 89)::.blk o (ob [mg] 94)::.blk q (ob [.int .i64 fuel] 3)::.blk d (ob [.slice none 0 0] 93)::.blk r (ob [.slice none 0 0] 38)::.blk f (ob [.slice none 0 0,.int .i64 ((0:Nat):Int)] 30)::K) w) :
  Calls Tryz.prog 45 #[.func (.func 46) #[] #[.pointer (some ⟨m,0,none⟩),.pointer (some ⟨n,0,none⟩),.pointer (some ⟨o,0,none⟩),.pointer (some ⟨q,0,none⟩),.pointer (some ⟨d,0,none⟩),.pointer (some ⟨r,0,none⟩),.pointer (some ⟨f,0,none⟩)]] w (fun e w'=>Out (y4e (vR ⟨T.funs,inp⟩ c.outputs fuel))
   (fun x=>∃y:Fz×Value×List Int×Value,e=.returned (.int .i64 ((0:Nat):Int))/\(V.Le y.1/\gH y.2.2.1=((fuel - x.2:Nat):Int)/\y.2.2.1.length<=1000/\SliceOf RNamed y.1 4 y.2.2.2 (mE c.outputs x.1)/\NewRow V y.2.2.2)/\Mem y.1 (.blk d (ob [y.2.1] 93)::.gs y.2.1 3 1 (z3i y.2.2.1)::.blk f (ob [y.2.2.2,.int .i64 ((0:Nat):Int)] 30)::K) w')
   (fun c=>e=.returned (.int .i64 ((c:Nat):Int))/\Mem V K w')):=by
 refine q2s (α:=List Val×Nat) (β:=Fz×Value×List Int×Value) (F:=fun _ y=>y.1) (KO:=fun _ y=>.blk d (ob [y.2.1] 93)::.gs y.2.1 3 1 (z3i y.2.2.1)::.blk f (ob [y.2.2.2,.int .i64 ((0:Nat):Int)] 30)::K)
  (G:=fun (x:List Val×Nat) y=>V.Le y.1/\gH y.2.2.1=((fuel - x.2:Nat):Int)/\y.2.2.1.length<=1000/\SliceOf RNamed y.1 4 y.2.2.2 (mE c.outputs x.1)/\NewRow V y.2.2.2) Tryz.call46 (fun b w N=>?_) N
 have N:=((((((N.pull (i:=7) rfl).pull (i:=7) rfl).pull (i:=7) rfl).pull (i:=7) rfl).pull (i:=7) rfl).pull (i:=7) rfl).pull (i:=7) rfl
 refine (run1_ok (K:=.blk b (ob [.int .i64 ((0:Nat):Int)] 31)::K) l k rG t a g j N).mono fun e w' h=>?_
 cases hr:y4e (vR ⟨T.funs,inp⟩ c.outputs fuel) with
 | ok x=>
  rw [hr] at h
  obtain ⟨y,h1,h2,s⟩:=h
  exact ⟨y,h1,h2,s.pull (i:=3) rfl⟩
 | error c'=>
  rw [hr] at h
  exact h
def vG (es:Array MapEntry) (seen:Array Nat):List MapEntry:=es.toList.filter fun e=> !seen.contains e.born
theorem z8p (es:Array MapEntry):vG es #[]=es.toList:=by simp [vG]
theorem leftE_mem {es:Array MapEntry} {seen:Array Nat} {e:MapEntry}:e∈vG es seen↔e∈es.toList/\e.born∉seen:=by simp [vG]
theorem leftE_push {es:Array MapEntry} {seen:Array Nat} {e x:MapEntry}:x∈vG es (seen.push e.born)↔x∈vG es seen/\x.born≠e.born:=by
 simp only [leftE_mem,Array.mem_push,not_or,and_assoc]
theorem z1j {es:Array MapEntry} {seen:Array Nat} {e:MapEntry} (h:e∈vG es seen):(vG es (seen.push e.born)).length < (vG es seen).length :=
 filter_lt (fun x:MapEntry=> !seen.contains x.born) (fun x:MapEntry=> !(seen.push e.born).contains x.born) (fun x a=>by simp at a ⊢;exact a.1) e (by have:=(leftE_mem.1 h).2;simpa using this) (by simp) es.toList (leftE_mem.1 h).1
section
variable {P:Program} {n:Nat} {E:List (Nat×Value)} {D:List Deferred} {a:Act} {V:Fz} {K:List Res} {w:World}
variable {Kn:Value->World->Prop} {Qp:List PanicEntry->World->Prop} {dst:Option Tmp} {ty:TypeId} {pos:String} {aft:Array Edge} {g:Option (Nat×Bool)}
theorem z8d (i:Nat) {t kt et:TypeId} {x:Operand} {b:Nat} {m:List (Bs×Value)} (f:Under P t (.map kt et)) (J:EnvR n E D a) (N:Mem V K w) (h:ev E x=some (.map (some b))) (e:qH K i=some (.mp b m))
  (k:∀r es clock w',MapOk es clock m->Mem V (.blk r (.mapIter (some b) clock #[] clock)::wI K i (.blk b (.map es clock))) w'->Kn (.pointer (some ⟨r,0,none⟩)) w'):Oper.eff P ⟨dst,.range t x,ty,pos,aft,g⟩ a w Kn Qp:=by
 obtain ⟨es,clock,hb,d⟩:=N.own _ (yQ e)
 have h1:(getObj b).run P w=.ok (.map es clock) w:=by simp [getObj,Sem.run,hb]
 have c:Mem V (wI K i (.blk b (.map es clock))) w:=N.upd e rfl rfl (fun _ _ _=>rfl) hb (.inl rfl)
 unfold Oper.eff
 have:(execOp a.eval ⟨dst,.range t x,ty,pos,aft,g⟩).run P w=.ok (.value (.pointer (some ⟨w.heap.size,0,none⟩))) { w with heap:=w.heap.push (.mapIter (some b) clock #[] clock) }:=by
  simp only [execOp,J.ev h,Instr.range,Sem.run_bind,f w,Result.andThen_ok,h1]
  simp [newObj,Sem.run,Sem.run_bind,Result.andThen]
 rw [this]
 exact k _ _ _ _ d (c.push _)
theorem y4c (i j:Nat) {x:Operand} {r b clock:Nat} {es:Array MapEntry} {seen:Array Nat} {m:List (Bs×Value)} (J:EnvR n E D a) (N:Mem V K w) (s:ev E x=some (.pointer (some ⟨r,0,none⟩)))
  (C:qH K i=some (.blk r (.mapIter (some b) clock seen clock))) (H:qH K j=some (.blk b (.map es clock))) (u:MapOk es clock m)
  (I:vG es seen=[]->∀w',Mem V K w'->Kn (.tuple #[.bool false]) w')
  (M:∀e w',e∈vG es seen->Mem V (wI K i (.blk r (.mapIter (some b) clock (seen.push e.born) clock))) w'->Kn (.tuple #[.bool true,e.key,e.val]) w') :
  Oper.eff P ⟨dst,.next x false,ty,pos,aft,g⟩ a w Kn Qp:=by
 have hr:w.heap[r]? = some (.mapIter (some b) clock seen clock):=N.own _ (yQ C)
 have hb:w.heap[b]? = some (.map es clock):=N.own _ (yQ H)
 have p:(!seen.isEmpty && !es.isEmpty&&es.all (fun x=>decide (x.born≥clock)))=false:=next_test_false seen es clock clock u.old (Nat.le_refl _)
 have f:∀e∈es.toList,e.born < clock:=u.old
 have G:((es.filter fun e=> !seen.contains e.born).filter (fun x=>decide (x.born < clock)))=es.filter fun e=> !seen.contains e.born :=
  Array.filter_eq_self.2 (fun x s=>by
   have:=f x (by simp at s ⊢;exact s.1)
   simpa using this)
 have e2:((es.filter fun e=> !seen.contains e.born).filter (fun x=>decide (x.born≥clock)))=#[]:=by
  rw [Array.filter_eq_empty_iff]
  intro x s
  have:=f x (by simp at s ⊢;exact s.1)
  simp only [ge_iff_le,decide_eq_true_eq,Nat.not_le];omega
 have d:vG es seen=(es.filter fun e=> !seen.contains e.born).toList:=by simp [vG]
 unfold Oper.eff
 simp only [execOp,J.ev s,Instr.next,getObj,Sem.run_bind,Sem.run,hr,hb,Result.andThen,p,Bool.false_eq_true,if_false,G,e2,Array.append_empty]
 generalize Q:(es.filter fun e=> !seen.contains e.born)=L at *
 by_cases B:L.size=0
 ·have:L=#[]:=Array.eq_empty_of_size_eq_zero B
  subst this
  simp only [Array.isEmpty,Array.size_empty,decide_true,if_true]
  simp only [choose,Sem.run,Question.forced]
  simp
  exact I (by rw [d]) _ N
 ·have l:L.isEmpty=false:=by simp [Array.isEmpty,B]
  simp only [l,Bool.false_eq_true,if_false,Array.empty_append,Array.size_map]
  have hch:∃(q:Nat) (k:World),q < L.size/\Mem V K k/\k.heap=w.heap/\(choose (Question.mapNext L.size)).run P w=.ok q k:=by
   by_cases F:L.size<=1
   ·exact ⟨0,w,by omega,N,rfl,by simp [choose,Sem.run,Question.forced,F]⟩
   ·exact ⟨_,w.drew,Nat.mod_lt _ (by omega),N.drew,rfl,by
     simp only [choose,Sem.run,Question.forced,decide_eq_true_eq,F,if_false,Question.cut]
     rfl⟩
  obtain ⟨q,k,hq,A,y,v⟩:=hch
  have h:∀o,(setObj r o).run P k=.ok () { k with heap:=k.heap.setIfInBounds r o }:=fun o=>by simp only [setObj,Sem.run,y,hr]
  have z:r < k.heap.size:=by rw [y];exact (Array.getElem?_eq_some_iff.1 hr).1
  have t:L[q]∈vG es seen:=by rw [d];simp
  have hrun':=v
  simp only [hrun',Sem.run_bind,Result.andThen,Array.getElem?_map,Array.getElem?_eq_getElem hq,Option.map_some,h,Sem.run_pure]
  simp [Sem.run_bind,h,Result.andThen,pO]
  refine M _ _ t (A.upd C rfl rfl (fun c R l=>?_) ?_ (.inl rfl))
  ·simp only;rw [Array.getElem?_setIfInBounds_ne (fun e=>l (by simp [Res.foot,e]))]
  ·simp [Res.sat,z]
theorem q5p {x:Operand} {i j:Nat} {r b clock:Nat} {es:Array MapEntry} {seen:Array Nat} {m:List (Bs×Value)} {e:MapEntry} (J:EnvR n E D a) (N:Sees V K w) (h:ev E x=some (.pointer (some ⟨r,0,none⟩)))
  (f:qH K i=some (.blk r (.mapIter (some b) clock (seen.push e.born) clock))) (d:qH K j=some (.blk b (.map es clock))) (c:MapOk es clock m) (hl:e∈vG es seen) :
  Ok P a (.entry x) ty w (.tuple #[e.key,e.val]):=fun _ _ _ _=>by
 have hr:w.heap[r]? = some (.mapIter (some b) clock (seen.push e.born) clock):=N.own _ (yQ f)
 have hb:w.heap[b]? = some (.map es clock):=N.own _ (yQ d)
 have g:es.find? (·.born==e.born)=some e:=by rw [<- Array.find?_toList];exact find_born e es.toList c.nodup (leftE_mem.1 hl).1
 simp only [execOp,J.ev h,Instr.entry,getObj,Sem.run_bind,Sem.run,hr,hb,Result.andThen,Array.back?_push,bne_self_eq_false,Bool.false_eq_true,if_false,g]
 rfl
theorem z8g {es:Array MapEntry} {clock:Nat} {m:List (Bs×Value)} {e:MapEntry} (a:MapOk es clock m) (h:e∈es.toList):∃s v,e.key=.string s/\e.val=v/\(s,v)∈m:=by
 have h1:(e.key,e.val)∈m.map (fun p=>(Value.string p.1,p.2)):=by rw [<- a.eq];exact List.mem_map.2 ⟨e,h,rfl⟩
 obtain ⟨p,b,h2⟩:=List.mem_map.1 h1
 simp only [Prod.mk.injEq] at h2
 exact ⟨p.1,p.2,h2.1.symm,h2.2.symm,b⟩
theorem q1j {es:Array MapEntry} {clock:Nat} {m:List (Bs×Value)} {s:Bs} {v:Value} (a:MapOk es clock m) (h:(s,v)∈m):∃e∈es.toList,e.key=.string s:=by
 have h1:(Value.string s,v)∈es.toList.map (fun e=>(e.key,e.val)):=by rw [a.eq];exact List.mem_map.2 ⟨(s,v),h,rfl⟩
 obtain ⟨e,J,h2⟩:=List.mem_map.1 h1
 simp only [Prod.mk.injEq] at h2
 exact ⟨e,J,h2.1⟩
end
structure QAt (off cap:Nat) (arr:Array Value) (l:List Bs):Prop where
 room:off+cap<=arr.size
 fits:l.length<=cap
 max:cap<=maxLen
 cells:∀(j:Nat) s,l[j]? = some s->arr[off+j]? = some (.string s)
abbrev qblk (b:Nat) (arr:Array Value):Res:=.blk b (.cells arr 9 (0,0))
abbrev qval (b off cap:Nat) (l:List Bs):Value:=.slice (some ⟨b,off,none⟩) l.length cap
def y6j (off cap:Nat):Nat:=if cap=1 then off else off+1
theorem QAt.tail {off cap:Nat} {arr:Array Value} {l:List Bs} (h:QAt off cap arr l) (c:0 < l.length):QAt (y6j off cap) (cap - 1) arr (l.drop 1):=by
 have:=h.fits;have:=h.room;have:=h.max
 refine ⟨?_,?_,by omega,fun j s a=>?_⟩
 ·unfold y6j;split <;> omega
 ·rw [List.length_drop];omega
 ·rw [List.getElem?_drop] at a
  have h1:=h.cells _ _ a
  have b:=(List.getElem?_eq_some_iff.1 a).1
  unfold y6j
  rw [if_neg (by omega)]
  rw [show off+1+j=off+(1+j) by omega];exact h1
theorem q3d (b off j:Nat):(⟨b,off,none⟩:Addr).add j=⟨b,off+j,none⟩:=by
 unfold Addr.add;split <;> simp_all
section
variable {P:Program} {n:Nat} {E:List (Nat×Value)} {D:List Deferred} {a:Act} {V:Fz} {K:List Res} {w:World} {ty:TypeId}
theorem x8n (i:Nat) {x:Operand} {b off cap:Nat} {arr:Array Value} {l:List Bs} {T:TypeId} {s:Bs} (J:EnvR n E D a) (N:Sees V K w) (hq:QAt off cap arr l) (c:ev E x=some (.pointer (some ((⟨b,off,none⟩:Addr).add (0 * 1)))))
  (f:qH K i=some (qblk b arr)) (O:l[0]? = some s) (e:Scalar P T):Ok P a (.load T x) ty w (.string s):=fun _ _ _ _=>by
 have h1:w.heap[b]? = some (.cells arr 9 (0,0)):=N.own _ (yQ f)
 have h2:w.cell? ⟨b,off,none⟩=some (.string s):=by simp [World.cell?,h1];exact hq.cells 0 s O
 have d:((⟨b,off,none⟩:Addr).add (0 * 1))=⟨b,off,none⟩:=by simp [Addr.add]
 rw [d] at c
 simp only [execOp,J.ev c]
 simp [Instr.loadAt,Instr.sureAddr,loadVar,Sem.run_bind,e w,Result.andThen,load,Sem.run,h2]
theorem z9h {x lo:Operand} {t e:TypeId} {b off cap:Nat} {arr:Array Value} {l:List Bs} (J:EnvR n E D a) (hq:QAt off cap arr l) (h:ev E x=some (qval b off cap l)) (c:ev E lo=some (.int .i64 ((1:Nat):Int)))
  (f:Under P t (.slice e)) (O:SizeT P e 1) (i:0 < l.length):Ok P a (.slice t x (some lo) none none) ty w (qval b (y6j off cap) (cap - 1) (l.drop 1)):=fun _ _ _ _=>by
 have d:=hq.fits
 have h1:(1:Nat)<=cap:=by omega
 have h2:(1:Int)<=(l.length:Int):=by omega
 have g:(if cap=1 then some (⟨b,off,none⟩:Addr) else some (Addr.add ⟨b,off,none⟩ 1))=some ⟨b,y6j off cap,none⟩:=by
  unfold y6j;split <;> simp [Addr.add]
 simp only [execOp,J.ev h,Option.map_some,Option.map_none,J.ev c,Instr.sliceAt]
 simp [Sem.run_bind,f w,O w,Instr.slice,Instr.sliceBounds,Instr.sliceBound,asIntOf,h2,d,h1,Result.andThen,qval,g]
theorem z5r (i:Nat) {dst:Option Tmp} {pos:String} {aft:Array Edge} {g:Option (Nat×Bool)} {Kn:Value->World->Prop} {Qp:List PanicEntry->World->Prop} {x y:Operand} {t bytes:TypeId} {b off cap:Nat} {arr:Array Value} {l:List Bs} {v:Value} {s:Bs} (H:RowT P t 9 1 bytes) (J:EnvR n E D a) (N:Mem V K w) (hq:QAt off cap arr l)
  (hx:ev E x=some (qval b off cap l)) (S:qH K i=some (qblk b arr)) (hy:ev E y=some v) (hr:y9p w v 1 [.string s]) (hb:(l.length+1) * bytes<=140737488355328)
  (k:∀b' off' cap' arr' w',QAt off' cap' arr' (l++[s])->Mem V (wI K i (qblk b' arr')) w'->Kn (qval b' off' cap' (l++[s])) w') :
  Oper.eff P ⟨dst,.call { callee:=.builtin .append,args:=#[x,y],argTypes:=#[t,t] },ty,pos,aft,g⟩ a w Kn Qp:=by
 obtain ⟨inf,z,W,hz,r,I,U⟩:=H.info
 have L:w.heap[b]? = some (.cells arr 9 (0,0)):=N.own _ (yQ S)
 have p:∀v' w',(Builtin.append_ #[t,t] ty #[qval b off cap l,v]).run P w=.ok v' w'->Kn v' w' ->
   Oper.eff P ⟨dst,.call { callee:=.builtin .append,args:=#[x,y],argTypes:=#[t,t] },ty,pos,aft,g⟩ a w Kn Qp:=by
  intro v' w' o X
  unfold Oper.eff
  have:(execOp a.eval ⟨dst,.call { callee:=.builtin .append,args:=#[x,y],argTypes:=#[t,t] },ty,pos,aft,g⟩).run P w=.ok (.value v') w':=by
   simp only [execOp,resolve,invoke,builtin,Sem.run_bind,Sem.run_pure,Result.andThen_ok,List.map_toArray,List.map_cons,List.map_nil,J.ev hx,J.ev hy,o]
  rw [this]
  exact X
 rcases hr with ⟨_,h⟩ | ⟨q,m',c,rfl,hl,B⟩
 ·cases h
 have T:m'=1:=by simpa using hl.symm
 subst T
 have Y:l.length+1<=140737488355328:=Nat.le_trans (Nat.le_mul_of_pos_right _ H.bpos) hb
 have hroom':=hq.room
 have d:(l++[s]).length=l.length+1:=by simp
 by_cases m:l.length+1<=cap
 ·have G:=run_storeCells_at P b (off+l.length) 9 [.string s] 0 arr w L (by simp only [lcQ,lnQ];omega) (by simp [Value.oneCell'])
  have Z:=run_firstCells_some (P:=P) w 1 1 q 1 c [.string s] (by simp) B
  have o:(Builtin.append_ #[t,t] ty #[qval b off cap l,.slice (some q) 1 c]).run P w=.ok (qval b off cap (l++[s])) (w.setRow b (arr.toList.take (off+l.length)++[Value.string s]++arr.toList.drop (off+l.length+1)).toArray):=by
   simp only [Nat.add_zero,lcQ,lnQ,Nat.zero_add] at G
   simp [Builtin.append_,run_underlying H.under,sizeOf,typeInfo,W,r,Builtin.lenOf,m,Z,q3d,qval,G]
  refine p _ _ o (k b off cap _ _ ⟨?_,?_,hq.max,?_⟩ (N.upd S rfl rfl (fun c C F=>setRow_other w b c _ (fun e=>F (by simp [Res.foot,e]))) (setRow_heap w b _ _ 9 _ L) (.inl rfl)))
  ·simp;omega
  ·rw [d];exact m
  ·intro j u f
   have Q:j < l.length+1:=by rw [<- d];exact (List.getElem?_eq_some_iff.1 f).1
   have A:off+l.length < arr.size:=by omega
   simp only [List.getElem?_toArray]
   by_cases R:j < l.length
   ·rw [List.append_assoc,List.getElem?_append_left (by simp;omega),List.getElem?_take_of_lt (by omega),Array.getElem?_toList]
    rw [List.getElem?_append_left R] at f
    exact hq.cells _ _ f
   ·have:j=l.length:=by omega
    subst this
    simp at f
    subst f
    rw [List.append_assoc,List.getElem?_append_right (by simp;omega)]
    simp [Nat.min_eq_left (Nat.le_of_lt A)]
 ·have holds:∀j u,(strs l)[j]? = some u->w.cell? ((⟨b,off,none⟩:Addr).add j)=some u:=fun j u f=>by
   simp only [strs,List.getElem?_map,Option.map_eq_some_iff] at f
   obtain ⟨s',h1,rfl⟩:=f
   have h2:=hq.cells _ _ h1
   rw [q3d];simp [World.cell?,L,h2]
  have hf':=hq.fits
  have hr:=run_append_grow (P:=P) w t ty 9 inf z H.under W hz ⟨b,off,none⟩ l.length cap (strs l) (by rw [r];simp [strs]) holds q 1 c [.string s] (by rw [r];rfl) B (by omega) (by omega) (by rw [I];exact growslice_fits (by omega) (by simpa using hb))
  have M:=grownCap_ge w (l.length+1) cap 9
  rw [show Value.slice (some (Addr.mk w.heap.size 0 none)) (l.length+1) (grownCap w (l.length+1) cap 9)=qval w.heap.size 0 (grownCap w (l.length+1) cap 9) (l++[s]) by simp [qval]] at hr
  refine p _ _ hr (k w.heap.size 0 _ ((strs l).toArray++#[Value.string s]++Builtin.zeroCells z.cells (grownCap w (l.length+1) cap 9 - (l.length+1))) _ ⟨?_,?_,?_,?_⟩ (N.upd S rfl rfl (fun c C F=>?_) ?_ (.inr fun c C=>by simp [Res.foot] at C;omega)))
  ·simp [size_zeroCells,U,strs];omega
  ·rw [d];exact M
  ·exact grownCap_le_maxLen w _ _ _ (by simp only [maxLen];omega)
  ·intro j u f
   have Q:j < l.length+1:=by rw [<- d];exact (List.getElem?_eq_some_iff.1 f).1
   rw [Nat.zero_add,Array.getElem?_append_left (by simp [strs];omega)]
   have:((strs l).toArray++[Value.string s].toArray)[j]? = (strs (l++[s]))[j]? := by rw [yE];simp [strs]
   rw [this]
   simp only [strs,List.getElem?_map,f];rfl
  ·show (w.heap.push _)[c]? = _
   rw [Array.getElem?_push_lt C,Array.getElem?_eq_getElem C]
  ·show (w.heap.push _)[w.heap.size]? = _
   simp
end
def ex0:Ex:=.mk 0 0 ⟨#[]⟩ [] []
def tF (T:Table) (n:Bs):Ex:=match zW T.funs n with | some f=>f.body | none=>ex0
def jY (T:Table) (n:Bs):List Bs:=qU (tF T n)
theorem z4f {T:Table} {n:Bs} {f:Fun} (h:zW T.funs n=some f):tF T n=f.body:=by simp [tF,h]
theorem z4e {T:Table} {n:Bs} (h:zW T.funs n=none):tF T n=ex0:=by simp [tF,h]
theorem rex0 {V:Fz}:REx V [.int .i64 0,.int .i64 0,.string ⟨#[]⟩,.slice none 0 0,.slice none 0 0] ex0:=REx.iff.2 ⟨_,_,rfl,⟨by decide,by decide⟩,SliceOf.nil 5,SliceOf.nil 7⟩
theorem q1r:∀(m:List (Bs×Value)) (k:Bs) (x:Value) (s:Bs),(∃v,(s,v)∈nX m k x)↔s=k∨∃v,(s,v)∈m
 | [],k,x,s=>by simp [nX]
 | (k',y)::m,k,x,s=>by
  simp only [nX]
  split
  ·rename_i h;subst h
   simp only [List.mem_cons,Prod.mk.injEq]
   constructor
   ·rintro ⟨v,h | h⟩
    ·exact .inl h.1
    ·exact .inr ⟨v,.inr h⟩
   ·rintro (h | ⟨v,h | h⟩)
    ·exact ⟨x,.inl ⟨h,rfl⟩⟩
    ·exact ⟨x,.inl ⟨h.1,rfl⟩⟩
    ·exact ⟨v,.inr h⟩
  ·simp only [List.mem_cons,Prod.mk.injEq]
   have:=q1r m k x s
   constructor
   ·rintro ⟨v,h | h⟩
    ·exact .inr ⟨v,.inl h⟩
    ·rcases this.1 ⟨v,h⟩ with h | ⟨v,h⟩
     ·exact .inl h
     ·exact .inr ⟨v,.inr h⟩
   ·rintro (h | ⟨v,h | h⟩)
    ·obtain ⟨v,h⟩:=this.2 (.inl h);exact ⟨v,.inr h⟩
    ·exact ⟨v,.inl h⟩
    ·obtain ⟨v,h⟩:=this.2 (.inr ⟨v,h⟩);exact ⟨v,.inr h⟩
theorem q8h:∀(m:List (Bs×Value)) (k:Bs) (x:Value),(nX m k x).length<=m.length+1
 | [],k,x=>by simp [nX]
 | (k',y)::m,k,x=>by
  simp only [nX]
  split
  ·simp
  ·have:=q8h m k x;simp only [lcQ];omega
theorem y4o:∀(l:List Bs) (m:List (Bs×Value)) (s:Bs),(∃v,(s,v)∈l.foldl (fun m s=>nX m s (.bool true)) m)↔s∈l∨∃v,(s,v)∈m
 | [],m,s=>by simp
 | x::l,m,s=>by
  rw [List.foldl_cons,y4o l,q1r];simp only [List.mem_cons]
  constructor
  ·rintro (h | h | h)
   ·exact .inl (.inr h)
   ·exact .inl (.inl h)
   ·exact .inr h
  ·rintro ((h | h) | h)
   ·exact .inr (.inl h)
   ·exact .inl h
   ·exact .inr (.inr h)
theorem q0v:∀(l:List Bs) (m:List (Bs×Value)),(l.foldl (fun m s=>nX m s (.bool true)) m).length<=l.length+m.length
 | [],m=>by simp
 | x::l,m=>by
  have:=q0v l (nX m x (.bool true));have:=q8h m x (.bool true)
  simp only [List.foldl_cons,lcQ];omega
theorem uT (l:List Bs) (s:Bs):(∃v,(s,v)∈jG l)↔s∈l:=by rw [jG,y4o];simp
theorem q2j (l:List Bs):(jG l).length<=l.length:=by have:=q0v l [];simpa [jG] using this
theorem has_mem {l:List Bs} {s:Bs}:has l s=true↔s∈l:=by simp [has]
theorem z6i {α:Type}:∀{l U:List α},l.Nodup->(∀x∈l,x∈U)->l.length<=U.length
 | [],_,_,_=>Nat.zero_le _
 | x::l,U,d,O=>by
  obtain ⟨b,c,rfl⟩:=List.append_of_mem (O x msQ)
  have hn':=List.nodup_cons.1 d
  have:=z6i (l:=l) (U:=b++c) hn'.2 (fun y a=>by
   have:=O y (mcQ _ a)
   simp only [List.mem_append,List.mem_cons] at this ⊢
   rcases this with h | rfl | h
   ·exact .inl h
   ·exact absurd a hn'.1
   ·exact .inr h)
  simp only [laQ,lcQ] at this ⊢;omega
structure RInv (T:Table) (U start ds l:List Bs):Prop where
 nodup:ds.Nodup
 dU:∀x∈ds,x∈U
 lU:∀x∈l,x∈U
 len:l.length<=1000+ds.length * 6000
 starts:∀x∈start,x∈ds∨x∈l
 closed:∀x∈ds,∀y∈jY T x,y∈ds∨y∈l
 least:∀Q:Bs->Prop,(∀x∈start,Q x)->(∀x,Q x->∀y∈jY T x,Q y)->(∀x∈ds,Q x)/\∀x∈l,Q x
structure Reached (T:Table) (start ds:List Bs):Prop where
 starts:∀x∈start,x∈ds
 closed:∀x∈ds,∀y∈jY T x,y∈ds
 least:∀Q:Bs->Prop,(∀x∈start,Q x)->(∀x,Q x->∀y∈jY T x,Q y)->∀x∈ds,Q x
def muR (U ds l:List Bs):Nat:=(U.length - ds.length) * 6001+l.length
theorem RInv.start {T:Table} {U start:List Bs} (a:∀x∈start,x∈U) (hl:start.length<=1000):RInv T U start [] start :=
 ⟨List.nodup_nil,by simp,a,by simpa using hl,fun x h=>.inr h,by simp,fun Q h1 h2=>⟨by simp,h1⟩⟩
theorem RInv.fin {T:Table} {U start ds:List Bs} (h:RInv T U start ds []):Reached T start ds :=
 ⟨fun x a=>(h.starts x a).resolve_right (by simp),fun x a y b=>(h.closed x a y b).resolve_right (by simp),fun Q h1 h2=>(h.least Q h1 h2).1⟩
theorem RInv.skip {T:Table} {U start ds l:List Bs} {n:Bs} (h:RInv T U start ds l) (c:l[0]? = some n) (d:n∈ds):RInv T U start ds (l.drop 1)/\muR U ds (l.drop 1) < muR U ds l:=by
 obtain ⟨rest,rfl⟩:∃rest,l=n::rest:=by cases l with | nil=>simp at c | cons a r=>simp at c;exact ⟨r,by rw [c]⟩
 simp only [List.drop_succ_cons,List.drop_zero]
 refine ⟨⟨h.nodup,h.dU,fun x b=>h.lU x (mcQ _ b),?_,?_,?_,fun Q h1 h2=>⟨(h.least Q h1 h2).1,fun x b=>(h.least Q h1 h2).2 x (mcQ _ b)⟩⟩,?_⟩
 ·have:=h.len;simp only [lcQ] at this;omega
 ·intro x b
  rcases h.starts x b with h | h
  ·exact .inl h
  ·rcases List.mem_cons.1 h with rfl | h
   ·exact .inl d
   ·exact .inr h
 ·intro x b y e
  rcases h.closed x b y e with h | h
  ·exact .inl h
  ·rcases List.mem_cons.1 h with rfl | h
   ·exact .inl d
   ·exact .inr h
 ·simp only [muR,lcQ];omega
structure RIn (T:Table) (n:Bs) (rest:List Bs) (es:Array MapEntry) (seen:Array Nat) (l:List Bs):Prop where
 new:∀x∈l,x∈rest∨x∈jY T n
 old:∀x∈rest,x∈l
 all:∀e∈es.toList,e∈vG es seen∨∃s,e.key=.string s/\s∈l
 len:l.length+(vG es seen).length<=rest.length+es.size
theorem RIn.start {T:Table} {n:Bs} {rest:List Bs} {es:Array MapEntry}:RIn T n rest es #[] rest :=
 ⟨fun x h=>.inl h,fun x h=>h,fun e h=>.inl (by rw [z8p];exact h),by rw [z8p];simp⟩
theorem RIn.next {T:Table} {n s:Bs} {v:Value} {rest l:List Bs} {es:Array MapEntry} {seen:Array Nat} {clock:Nat} {e:MapEntry} (h:RIn T n rest es seen l) (b:MapOk es clock (jG (jY T n))) (J:e∈vG es seen)
  (f:e.key=.string s) (N:(s,v)∈jG (jY T n)):RIn T n rest es (seen.push e.born) (l++[s]):=by
 refine ⟨?_,fun x a=>List.mem_append_left _ (h.old x a),?_,?_⟩
 ·intro x a
  rcases List.mem_append.1 a with a | a
  ·exact h.new x a
  ·rw [List.mem_singleton] at a;subst a
   exact .inr ((uT _ _).1 ⟨v,N⟩)
 ·intro x a
  rcases h.all x a with h1 | ⟨s',h1,h2⟩
  ·by_cases hb:x.born=e.born
   ·have d:x=e:=by
     have c:=find_born x es.toList b.nodup a
     have a2:=find_born e es.toList b.nodup (leftE_mem.1 J).1
     rw [hb] at c;rw [c] at a2;exact Option.some.inj a2
    subst d
    exact .inr ⟨s,f,by simp⟩
   ·exact .inl (leftE_push.2 ⟨h1,hb⟩)
  ·exact .inr ⟨s',h1,List.mem_append_left _ h2⟩
 ·have:=z1j J;have:=h.len;simp only [laQ,lcQ,lnQ];omega
theorem RInv.mark {T:Table} {U start ds l l':List Bs} {n:Bs} {es:Array MapEntry} {seen:Array Nat} {clock:Nat} (h:RInv T U start ds l) (p:l[0]? = some n) (B:n∉ds) (z:∀x,(jY T x).length<=6000) (w:∀x,∀y∈jY T x,y∈U)
  (m:MapOk es clock (jG (jY T n))) (f:RIn T n (l.drop 1) es seen l') (hl:vG es seen=[]):RInv T U start (ds++[n]) l'/\muR U (ds++[n]) l' < muR U ds l:=by
 obtain ⟨rest,rfl⟩:∃rest,l=n::rest:=by cases l with | nil=>simp at p | cons a r=>simp at p;exact ⟨r,by rw [p]⟩
 simp only [List.drop_succ_cons,List.drop_zero] at f
 have C:es.size<=6000:=by
  have h1:=congrArg List.length m.eq
  simp only [List.length_map,Array.length_toList] at h1
  have:=q2j (jY T n);have:=z n;omega
 have d:=f.len
 rw [hl] at d
 simp only [lnQ,Nat.add_zero] at d
 have i:∀y∈jY T n,y∈l':=fun y o=>by
  obtain ⟨v,F⟩:=(uT (jY T n) y).2 o
  obtain ⟨e,J,D⟩:=q1j m F
  rcases f.all e J with h1 | ⟨s,h1,h2⟩
  ·rw [hl] at h1;cases h1
  ·rw [D] at h1;cases h1;exact h2
 have E:n∈U:=h.lU n msQ
 have k:(ds++[n]).Nodup:=by
  rw [List.nodup_append]
  exact ⟨h.nodup,by simp,fun a A b hb=>by rw [List.mem_singleton] at hb;subst hb;intro e;subst e;exact B A⟩
 have j:∀x∈ds++[n],x∈U:=fun x c=>by
  rcases List.mem_append.1 c with c | c
  ·exact h.dU x c
  ·rw [List.mem_singleton] at c;subst c;exact E
 have u:(ds++[n]).length<=U.length:=z6i k j
 simp only [laQ,lcQ,lnQ] at u
 refine ⟨⟨k,j,?_,?_,?_,?_,?_⟩,?_⟩
 ·intro x c
  rcases f.new x c with h1 | h1
  ·exact h.lU x (mcQ _ h1)
  ·exact w n x h1
 ·have:=h.len;simp only [lcQ,laQ,lnQ] at this ⊢;omega
 ·intro x c
  rcases h.starts x c with h1 | h1
  ·exact .inl (List.mem_append_left _ h1)
  ·rcases List.mem_cons.1 h1 with rfl | h1
   ·exact .inl (by simp)
   ·exact .inr (f.old x h1)
 ·intro x c y o
  rcases List.mem_append.1 c with c | c
  ·rcases h.closed x c y o with h1 | h1
   ·exact .inl (List.mem_append_left _ h1)
   ·rcases List.mem_cons.1 h1 with rfl | h1
    ·exact .inl (by simp)
    ·exact .inr (f.old y h1)
  ·rw [List.mem_singleton] at c;subst c
   exact .inr (i y o)
 ·intro Q h1 h2
  have q:=h.least Q h1 h2
  have g:Q n:=q.2 n msQ
  refine ⟨fun x c=>?_,fun x c=>?_⟩
  ·rcases List.mem_append.1 c with c | c
   ·exact q.1 x c
   ·rw [List.mem_singleton] at c;subst c;exact g
  ·rcases f.new x c with t | t
   ·exact q.2 x (mcQ _ t)
   ·exact h2 n g x t
 ·simp only [muR,laQ,lcQ,lnQ]
  have:U.length - ds.length=(U.length - (ds.length+1))+1:=by omega
  rw [this,Nat.add_mul];omega
theorem y4s {V:Fz} {K:List Res} {w:World} {i:Nat} {v:Value} {l:List Bs} (N:Mem V K w) (d:qH K i=some (.gs v 9 1 (strs l))) (hl:l≠[]):∃b cap arr,v=qval b 0 cap l/\QAt 0 cap arr l/\Mem V (wI K i (qblk b arr)) w:=by
 obtain ⟨n,h1,h2⟩:=N.own _ (yQ d)
 have m:l.length=n:=by simpa [strs] using h1
 rcases h2 with ⟨_,o⟩ | ⟨b,cap,cur,rfl,_,e,f,g,p,h⟩
 ·exact absurd (List.eq_nil_of_length_eq_zero (by omega)) hl
 ·subst m
  refine ⟨b,cap,cur,rfl,⟨by omega,f,g,fun j s c=>?_⟩,N.upd d rfl rfl (fun _ _ _=>rfl) e (.inl rfl)⟩
  have k:=(List.getElem?_eq_some_iff.1 c).1
  have a:(cur.toList.take (l.length * 1))[j]? = some (.string s):=by rw [h];simp only [strs,List.getElem?_map,c];rfl
  rw [List.getElem?_take_of_lt (by omega),Array.getElem?_toList] at a
  rw [Nat.zero_add];exact a
theorem z7h {P:Program} {n:Nat} {E:List (Nat×Value)} {D:List Deferred} {a:Act} {w:World} {ty:TypeId} (off:Nat) {x:Operand} {t:TypeId} {fs:Array Field} {i k:Nat} {fd:Field} {cs vs:List Value} (g:Under P t (.struct fs)) (e:fs[i]? = some fd) (d:AggT P fd.type) (c:SizeT P fd.type k)
  (J:EnvR n E D a) (h:ev E x=some (.agg cs.toArray)) (f:fd.offset=off) (b:z3p (z3o cs off) k=vs):Ok P a (.field t x i) ty w (.agg vs.toArray):=fun _ _ _ _=>by
 rw [z1m,z1i] at b
 subst f
 simp only [execOp,J.ev h]
 simp [Instr.field,Sem.run_bind,g w,e,asAgg,part,d w,c w,Result.andThen,<- b]
theorem j6b {es:Array MapEntry} {clock:Nat} {l:List Bs} (a:MapOk es clock (jG l)) (h:l.length<=6000):es.size<=6000:=by
 have h1:=congrArg List.length a.eq
 simp only [List.length_map,Array.length_toList] at h1
 have:=q2j l;omega
theorem y1o {l:List Bs} {s:Bs} (h:has l s=false):s∉l:=fun N=>by rw [has_mem.2 N] at h;cases h
def gS (l:List Bs) (s:Bs):Bool:=l.any fun x=>decide (x=s)
theorem z8j (x:Bs) (l:List Bs) (s:Bs):gS (x::l) s=(decide (x=s) || gS l s):=by simp [gS]
section
variable {c:Core} {ps:List Param} {e:Ex}
end
theorem x7t {l:List Ex} (hl:l.length=2):∃x y,l=[x,y]:=by
 cases l with
 | nil=>simp at hl
 | cons a l=>
  cases l with
  | nil=>simp at hl
  | cons b l=>
   simp only [lcQ] at hl
   have:l=[]:=List.eq_nil_of_length_eq_zero (by omega)
   subst this
   exact ⟨a,b,rfl⟩
theorem one_arg {l:List Ex} (hl:l.length=1):∃x,l=[x]:=by
 cases l with
 | nil=>simp at hl
 | cons a l=>
  simp only [lcQ] at hl
  have:l=[]:=List.eq_nil_of_length_eq_zero (by omega)
  subst this
  exact ⟨a,rfl⟩
theorem y9q {nm:Bs->Bool}:∀{l ds:List Bs},l.Nodup->(∀n∈l,n∉ds)->(∀n∈l,nm n=true)->pK nm ds l=true
 | [],_,_,_,_=>rfl
 | s::l,ds,h1,h2,b=>by
  have O:=List.nodup_cons.1 h1
  simp only [pK,baQ,Bool.not_eq_true']
  refine ⟨⟨b s msQ,?_⟩,y9q O.2 (fun n a N=>?_) fun n a=>b n (mcQ _ a)⟩
  ·cases hb:has ds s with
   | false=>rfl
   | true=>
    simp only [has,List.any_eq_true,decide_eq_true_eq] at hb
    obtain ⟨x,c,J⟩:=hb
    first | exact absurd (J▸c) (h2 s msQ) | exact absurd (J.symm▸c) (h2 s msQ)
  ·rcases List.mem_append.1 N with N | N
   ·exact h2 n (mcQ _ a) N
   ·simp only [List.mem_singleton] at N;subst N;exact O.1 a
theorem z5y {l:List Bs} {s:Bs}:gS l s=true↔s∈l:=by
 simp only [gS,List.any_eq_true,decide_eq_true_eq]
 exact ⟨fun ⟨x,a,e⟩=>e▸a,fun h=>⟨s,h,rfl⟩⟩
theorem j7n:∀{l:List Fun} {m:List (Bs×Fun)},(∀f∈l,yT f.name=true/\zW m f.name=none)->(l.map Fun.name).Nodup->(uX true m l).1=true
 | [],_,_,_=>rfl
 | x::l,m,h,a=>by
  simp only [List.map_cons,List.nodup_cons] at a
  obtain ⟨h1,h2⟩:=h x msQ
  simp only [uX,h1,Bool.and_self,if_true,h2,Option.isNone_none]
  refine j7n (fun f b=>?_) a.2
  obtain ⟨g1,c⟩:=h f (mcQ _ b)
  refine ⟨g1,?_⟩
  rw [nN h2,oO c]
  simp only [zW]
  rw [if_neg]
  intro e
  exact a.1 (List.mem_map.2 ⟨f,b,e⟩)
def xG (s:Bs):Nat:=1+yR yN s s.size 1
def tS (s:Bs) (lo a:Nat):Bool :=
 if s.size < 1∨24 < s.size∨zC s 0 < lo∨a < zC s 0 then false
 else if xG s=s.size then true
 else if zC s (xG s)≠39∨xG s+1=s.size then false
 else decide (xG s+1+yR yD s s.size (xG s+1)=s.size)
def xT (s:Bs):Bool:=tS s 97 122 && !gS wordsL s
def nV (s:Bs):Bool:=tS s 65 90
def wA:List Data->Bs->Option Data
 | [],_=>none
 | d::l,n=>if d.name=n then some d else wA l n
def qV (ds:List Data) (name:Bs):Option Data:=if name=wG then some truthsD else wA ds name
def z4m:Data:=⟨sNo,[]⟩
def sC:List Con->Bs->Option Con
 | [],_=>none
 | x::l,n=>if x.name=n then some x else sC l n
def mM:List Data->Bs->Option Maker
 | [],_=>none
 | d::l,n=>match sC d.cons n with
  | some x=>some ⟨d.name,x⟩
  | none=>mM l n
def nC (ds:List Data) (name:Bs):Option Maker:=mM (truthsD::ds) name
def y0h:Con:=⟨sNo,[]⟩
def z0m:List Fun->Bs->Nat->Option Nat
 | [],_,_=>none
 | f::l,n,i=>if f.name=n then some i else z0m l n (i+1)
def gK (fs:List Fun) (name:Bs):Option Nat:=z0m fs name 0
def aE (fs:List Fun) (name:Bs):Int:=match gK fs name with | some i=>i | none=>-1
def jP (ds:List Data) (name:Bs):Bool:=(qV ds name).isSome || decide (name=yL)
def mI (name:Bs) (l:List Con):Bool:=l.any fun x=>x.fields.any fun s=> !decide (s=yL) && !decide (s=name)
def wL (name:Bs) (l:List Data):Bool:=l.any fun d=>decide (d.name=name)&&mI name d.cons
def kH (name:Bs) (l:List Data):Nat:=(l.filter fun d=>decide (d.name=name)).length
def xE (ds:List Data) (name:Bs):Bool :=
 if name=yL then true else !wL name ds&&(decide (kH name ds=1) && !decide (name=wG))
mutual
def jZ:Ex->Nat->Nat
 | .mk _ _ _ args arms,most=>sizeAr arms most (sizeRs args most 1)
def sizeRs:List Ex->Nat->Nat->Nat
 | [],_,n=>n
 | e::es,most,n=>if n<=most then sizeRs es most (n+jZ e (most - n)) else n
def sizeAr:List Arm->Nat->Nat->Nat
 | [],_,n=>n
 | .mk _ vs b::es,most,n=>if n<=most then (if 16 < vs.length then most+1 else sizeAr es most (n+jZ b (most - n))) else n
end
theorem x7g (e:Ex) (most:Nat):jZ e most=sizeAr e.arms most (sizeRs e.args most 1):=by cases e;rfl
theorem q9r (e:Ex) (es:List Ex) (most n:Nat):sizeRs (e::es) most n=if n<=most then sizeRs es most (n+jZ e (most - n)) else n:=rfl
theorem z1w (a:Arm) (es:List Arm) (most n:Nat):sizeAr (a::es) most n=if n<=most then (if 16 < a.vars.length then most+1 else sizeAr es most (n+jZ a.body (most - n))) else n:=by cases a;rfl
theorem z1x {es:List Ex} {most n:Nat} (h:¬n<=most):sizeRs es most n=n:=by cases es <;> simp [sizeRs,h]
theorem sL {es:List Arm} {most n:Nat} (h:¬n<=most):sizeAr es most n=n:=by
 cases es with
 | nil=>rfl
 | cons a es=>rw [z1w,if_neg h]
theorem y6z {l:List Ex} {i most n:Nat} (h:¬(i < l.length/\n<=most)):sizeRs (l.drop i) most n=n:=by
 by_cases a:i < l.length
 ·exact z1x (fun g=>h ⟨a,g⟩)
 ·rw [List.drop_of_length_le (by omega)];rfl
theorem y6y {l:List Arm} {i most n:Nat} (h:¬(i < l.length/\n<=most)):sizeAr (l.drop i) most n=n:=by
 by_cases a:i < l.length
 ·exact sL (fun g=>h ⟨a,g⟩)
 ·rw [List.drop_of_length_le (by omega)];rfl
mutual
theorem mG:∀(e:Ex) (most:Nat),1<=jZ e most/\jZ e most<=most+1
 | .mk _ _ _ args arms,most=>by
  have h1:=sizeRs_le args most 1 (by omega) (by omega)
  have h2:=sizeAr_le arms most (sizeRs args most 1) h1.1 h1.2
  exact h2
theorem sizeRs_le:∀(es:List Ex) (most n:Nat),1<=n->n<=most+1->1<=sizeRs es most n/\sizeRs es most n<=most+1
 | [],most,n,h,h'=>⟨h,h'⟩
 | e::es,most,n,h,h'=>by
  simp only [sizeRs]
  split
  ·have:=mG e (most - n)
   exact sizeRs_le es most _ (by omega) (by omega)
  ·exact ⟨h,h'⟩
theorem sizeAr_le:∀(es:List Arm) (most n:Nat),1<=n->n<=most+1->1<=sizeAr es most n/\sizeAr es most n<=most+1
 | [],most,n,h,h'=>⟨h,h'⟩
 | .mk _ vs b::es,most,n,h,h'=>by
  simp only [sizeAr]
  split
  ·split
   ·omega
   ·have:=mG b (most - n)
    exact sizeAr_le es most _ (by omega) (by omega)
  ·exact ⟨h,h'⟩
end
def gA (ps:List Param) (n:Bs):Option Bs:=ps.foldl (fun r p=>if p.name=n then some p.type else r) none
theorem z1h (ps:List Param) (p:Param) (n:Bs):gA (ps++[p]) n=if p.name=n then some p.type else gA ps n:=by simp [gA]
def z8k (ps:List Param) (n:Bs):Option Bs:=match ps with
 | []=>none
 | p::l=>if p.name=n then some p.type else z8k l n
def noT:Bs×Bool:=(sNo,false)
def opR (name:Bs):Option Bs :=
 if gS [⟨#[43]⟩,⟨#[45]⟩,⟨#[42]⟩,⟨#[47]⟩,⟨#[37]⟩] name=true then some yL
 else if name=⟨#[60]⟩∨name=⟨#[61]⟩ then some wG else none
def wP (c:Core) (kind:Int) (name:Bs):Option (List Bs×Bs) :=
 if kind=4 then (nC c.datas name).map fun m=>(m.con.fields,m.data)
 else if kind=5 then (match gK c.funs name with
  | none=>none
  | some i=>(c.funs[i]?).map fun f=>(f.params.map Param.type,f.result))
 else if kind=8 then (opR name).map fun t=>([yL,yL],t)
 else none
def jI (vs fs:List Bs):List Param:=(vs.zip fs).map fun x=>⟨x.1,x.2⟩
mutual
def zQ (c:Core):Ex->List Param->Bs×Bool
 | .mk kind num name args arms,vars=>
  if (kind≠7/\0 < arms.length)∨(kind≠1/\num≠0) then noT
  else if kind=1 then (yL,decide (name=sNo)&&decide (args.length=0))
  else if kind=2 then (match gA vars name with | some t=>(t,decide (args.length=0)) | none=>noT)
  else if kind=3 then (match z8k c.inputs name with | some t=>(t,decide (args.length=0)) | none=>noT)
  else if kind=6 then letR c name args vars
  else if kind=7 then
   if args.length≠1∨name≠sNo then noT
   else if (firstR c args vars).2=false then noT
   else match qV c.datas (firstR c args vars).1 with
    | none=>noT
    | some d=>if d.cons.length≠arms.length then noT else armsR c arms d.cons true sNo vars
  else if (typesR c args vars).2=false then noT
  else match wP c kind name with
   | none=>noT
   | some w=>if w.1=(typesR c args vars).1 then (w.2,true) else noT
def letR (c:Core) (name:Bs):List Ex->List Param->Bs×Bool
 | [],_=>noT
 | a::l,vars=>if (zQ c a vars).2=false∨l.length≠1 then noT else firstR c l (vars++[⟨name,(zQ c a vars).1⟩])
def firstR (c:Core):List Ex->List Param->Bs×Bool
 | [],_=>noT
 | a::_,vars=>zQ c a vars
def typesR (c:Core):List Ex->List Param->List Bs×Bool
 | [],_=>([],true)
 | e::es,vars=>if (zQ c e vars).2=false then ([],false) else ((zQ c e vars).1::(typesR c es vars).1,(typesR c es vars).2)
def armsR (c:Core):List Arm->List Con->Bool->Bs->List Param->Bs×Bool
 | [],_,_,out,_=>(out,true)
 | .mk con vs body::az,cs,first,out,vars=>
  if con≠(cs.headD y0h).name∨vs.length≠(cs.headD y0h).fields.length then noT
  else if (zQ c body (vars++jI vs (cs.headD y0h).fields)).2=false∨(first=false/\(zQ c body (vars++jI vs (cs.headD y0h).fields)).1≠out) then noT
  else armsR c az cs.tail false (zQ c body (vars++jI vs (cs.headD y0h).fields)).1 vars
end
def z0l (ds:List Data):List Con->List Bs->Bool
 | [],_=>true
 | x::xs,seen=>nV x.name && !gS seen x.name&&x.fields.all (jP ds)&&z0l ds xs (seen++[x.name])
def cH (ds:List Data):List Data->List Bs->List Bs->Bool
 | [],_,_=>true
 | d::l,names,cons=>nV d.name && !gS names d.name&&decide (d.cons.length≠0)&&z0l ds d.cons cons&&cH ds l (names++[d.name]) (cons++d.cons.map Con.name)
def z2j (ds:List Data):Bool:=cH ds ds [yL,wG] [z8w,q2f]
def gB:List Fun->Nat->Bool
 | [],n=>decide (6000 < n)
 | f::fs,n=>if 16 < f.params.length then true else gB fs (if n<=6000 then n+jZ f.body (6000 - n) else n)
def sI (c:Core):Bool :=
 decide (60 < c.datas.length) || decide (6 < c.inputs.length) || decide (300 < c.funs.length) || decide (6 < c.outputs.length) || c.datas.any sH || gB c.funs 0
def cB (l:List Bs):Bool:=pK xT [] l
def kN (ds:List Data) (f:Fun):Bool:=f.params.all (fun p=>jP ds p.type)&&jP ds f.result&&cB (f.params.map Param.name++yH f.body)
def mA (c:Core) (f:Fun):Bool:=(zQ c f.body f.params).2&&decide ((zQ c f.body f.params).1=f.result)
def y1e (fs:List Fun) (o:Bs):Bool:=match gK fs o with
 | none=>false
 | some i=>match fs[i]? with | some f=>decide (f.params.length=0) | none=>false
def vT (c:Core):Bool :=
 z2j c.datas&&decide (c.outputs.length≠0)&&c.inputs.all (fun p=>xE c.datas p.type)&&cB (c.inputs.map Param.name) &&
 c.funs.all (kN c.datas)&&cB (c.funs.map Fun.name)&&cB c.outputs&&c.funs.all (mA c)&&c.outputs.all (y1e c.funs)
def mO (c:Core):Int:=if c.funs.any (fun f=>xN 250 f.body) then 6 else if sI c then 2 else if vT c then 0 else 80
mutual
theorem z0x:∀(e:Ex) (l:Int),(jJ e l).1=false->((qU e).length:Int)<=l - (jJ e l).2
 | .mk k n s args arms,l=>by
  intro h
  simp only [jJ] at h ⊢
  split at h
  ·cases h
  ·rename_i hl
   rw [if_neg hl]
   cases N:meass args (l - 1) with
   | mk b q=>
    rw [N] at h
    cases b with
    | true=>cases h
    | false=>
     have a:=calledPs_len args (l - 1) (by rw [N])
     have d:=calledPa_len arms q h
     rw [N] at a
     simp only [qU,laQ] at a ⊢
     have i:(if k=5 then [s] else []).length<=1:=by split <;> simp
     omega
theorem calledPs_len:∀(es:List Ex) (l:Int),(meass es l).1=false->((calledPs es).length:Int)<=l - (meass es l).2
 | [],l=>by intro _;simp [calledPs,meass]
 | e::es,l=>by
  intro h
  simp only [meass] at h ⊢
  cases N:jJ e l with
  | mk b q=>
   rw [N] at h
   cases b with
   | true=>cases h
   | false=>
    have a:=z0x e l (by rw [N])
    have d:=calledPs_len es q h
    rw [N] at a
    simp only [calledPs,laQ] at a ⊢
    omega
theorem calledPa_len:∀(es:List Arm) (l:Int),(measa es l).1=false->((calledPa es).length:Int)<=l - (measa es l).2
 | [],l=>by intro _;simp [calledPa,measa]
 | .mk c vs b::es,l=>by
  intro h
  simp only [measa] at h ⊢
  split at h
  ·cases h
  ·rename_i f
   rw [if_neg f]
   cases N:jJ b l with
   | mk g q=>
    rw [N] at h
    cases g with
    | true=>cases h
    | false=>
     have a:=z0x b l (by rw [N])
     have d:=calledPa_len es q h
     rw [N] at a
     simp only [calledPa,laQ] at a ⊢
     omega
end
theorem uV {e:Ex} (h:pT e):(qU e).length<=6000:=by
 obtain ⟨l,h1,h2⟩:=h
 have:=z0x e l h2
 have:=(aI e l h2).1
 omega
inductive Reach (T:Table) (s:Bs):Bs->Prop
 | refl:Reach T s s
 | step {x y:Bs}:Reach T s x->y∈jY T x->Reach T s y
def cZ (T:Table) (n:Bs):Prop:=∃x,Reach T n x/\wD (tF T x)=true
theorem Reached.mem {T:Table} {n:Bs} {ds:List Bs} (h:Reached T [n] ds) {x:Bs} (a:Reach T n x):x∈ds:=by
 induction a with
 | refl=>exact h.starts n (by simp)
 | step _ b c=>exact h.closed _ c _ b
theorem Reached.reach {T:Table} {n:Bs} {ds:List Bs} (h:Reached T [n] ds) {x:Bs} (a:x∈ds):Reach T n x :=
 h.least (Reach T n) (by simp;exact .refl) (fun _ h1 _ h2=>.step h1 h2) x a
def wJ (r:Nat->Ev Val) (fu:Nat):Except Nat (Val×Nat) :=
 if fu < 1 then .error 4 else match r (fu - 1) with
  | .ok v g=>if mD v then .error 7 else .ok (v,g)
  | _=>.error 4
theorem q3l {r:Nat->Ev Val} {fu:Nat} (h:fu < 1):wJ r fu=.error 4:=by simp [wJ,h]
theorem y8f {r:Nat->Ev Val} {fu:Nat} (h:¬fu < 1) {v:Val} {g:Nat} (hr:r (fu - 1)=.ok v g) (hl:mD v=true):wJ r fu=.error 7:=by simp [wJ,h,hr,hl]
theorem j1e {r:Nat->Ev Val} {fu:Nat} (h:¬fu < 1) {v:Val} {g:Nat} (hr:r (fu - 1)=.ok v g) (hl:mD v=false):wJ r fu=.ok (v,g):=by simp [wJ,h,hr,hl]
theorem y8g {r:Nat->Ev Val} {fu:Nat} (h:¬fu < 1) (hr:r (fu - 1)=.spent):wJ r fu=.error 4:=by simp [wJ,h,hr]
theorem q6h {r:Nat->Ev Val} {fu c:Nat} (h:wJ r fu=.error c):c≠0:=by
 unfold wJ at h
 split at h
 ·cases h;decide
 ·split at h
  ·split at h
   ·cases h;decide
   ·cases h
  ·cases h;decide
theorem outE {α ε:Type} {r:Except ε α} {x:α} {A:α->Prop} {B:ε->Prop} (h:r=.ok x) (a:A x):Out r A B:=by subst h;exact a
theorem outEE {α ε:Type} {r:Except ε α} {x:ε} {A:α->Prop} {B:ε->Prop} (h:r=.error x) (a:B x):Out r A B:=by subst h;exact a
open Classical in
noncomputable def qR (c:Core) (name:Bs) (args:List Val) (fuel:Int):Val×Int×Int :=
 if qL c≠0 then (v0,0,qL c)
 else if fuel < 0∨200000 < fuel then (v0,0,1)
 else match zW (zN c).funs name with
  | none=>(v0,0,3)
  | some f=>
   if sQ (zN c) args f.params=false then (v0,0,8)
   else if cZ (zN c) name then (v0,0,8)
   else match wJ (vN (jR ⟨(zN c).funs,[]⟩) f args) fuel.toNat with
    | .ok (v,g)=>(v,((fuel.toNat - g:Nat):Int),0)
    | .error e=>(v0,0,((e:Nat):Int))
def univ (c:Core) (n:Bs):List Bs:=n::c.funs.flatMap fun f=>qU f.body
theorem y4m {α β:Type} {f:α->List β} {M:Nat}:∀{l:List α},(∀x∈l,(f x).length<=M)->(l.flatMap f).length<=l.length * M
 | [],_=>by simp
 | x::l,h=>by
  have h1:=h x msQ
  have h2:=y4m (l:=l) (fun y a=>h y (mcQ _ a))
  simp only [List.flatMap_cons,laQ,lcQ,Nat.add_mul];omega
theorem uH {c:Core} (h:qL c=0):(∀x,(jY (zN c) x).length<=6000)/\(∀n x,∀y∈jY (zN c) x,y∈univ c n)/\∀n,(univ c n).length<=2000000:=by
 obtain ⟨hl,hr⟩:=cN h
 have d:pA c=true:=by simp only [jA,baQ] at hr;exact hr.1.1.1.1.1
 have e:c.funs.length<=300:=by
  simp only [kO,Bool.or_eq_false_iff,decide_eq_false_iff_not] at hl
  omega
 refine ⟨fun x=>?_,fun n x y b=>?_,fun n=>?_⟩
 ·unfold jY tF
  cases a:zW (zN c).funs x with
  | none=>simp [ex0,qU,calledPs,calledPa]
  | some f=>exact uV (oP hl (dP d a))
 ·unfold jY tF at b
  cases a:zW (zN c).funs x with
  | none=>rw [a] at b;simp [ex0,qU,calledPs,calledPa] at b
  | some f=>
   rw [a] at b
   exact mcQ _ (List.mem_flatMap.2 ⟨f,dP d a,b⟩)
 ·have:=y4m (l:=c.funs) (f:=fun f=>qU f.body) (M:=6000) (fun f a=>uV (oP hl a))
  simp only [univ,lcQ]
  have:c.funs.length * 6000<=300 * 6000:=Nat.mul_le_mul_right _ e
  omega
structure RNo (T:Table) (es:Array MapEntry) (seen:Array Nat):Prop where
 no:∀e∈es.toList,e∈vG es seen∨∃s,e.key=.string s/\wD (tF T s)=false
theorem RNo.start {T:Table} {es:Array MapEntry}:RNo T es #[]:=⟨fun e h=>.inl (by rw [z8p];exact h)⟩
theorem RNo.next {T:Table} {es:Array MapEntry} {seen:Array Nat} {clock:Nat} {m:List (Bs×Value)} {e:MapEntry} {s:Bs} (h:RNo T es seen) (a:MapOk es clock m) (J:e∈vG es seen) (d:e.key=.string s) (hr:wD (tF T s)=false):RNo T es (seen.push e.born) :=
 ⟨fun x c=>by
  rcases h.no x c with h1 | h1
  ·by_cases hb:x.born=e.born
   ·have b:=find_born x es.toList a.nodup c
    have a2:=find_born e es.toList a.nodup (leftE_mem.1 J).1
    rw [hb] at b;rw [b] at a2
    have:=Option.some.inj a2
    subst this
    exact .inr ⟨s,d,hr⟩
   ·exact .inl (leftE_push.2 ⟨h1,hb⟩)
  ·exact .inr h1⟩
theorem RNo.none {T:Table} {n:Bs} {ds:List Bs} {es:Array MapEntry} {seen:Array Nat} {clock:Nat} (h:RNo T es seen) (b:MapOk es clock (jG ds)) (d:Reached T [n] ds) (hl:vG es seen=[]):¬cZ T n:=by
 rintro ⟨x,h1,h2⟩
 obtain ⟨v,g⟩:=(uT ds x).2 (d.mem h1)
 obtain ⟨e,J,f⟩:=q1j b g
 rcases h.no e J with a | ⟨s,a,c⟩
 ·rw [hl] at a;cases a
 ·rw [f] at a;cases a;rw [h2] at c;cases c
theorem q2c {T:Table} {n s:Bs} {v:Value} {ds:List Bs} (a:Reached T [n] ds) (N:(s,v)∈jG ds) (hr:wD (tF T s)=true):cZ T n :=
 ⟨s,a.reach ((uT ds s).1 ⟨v,N⟩),hr⟩
def j5i (c:Core) (l:List Named):Prop:=qL c=0->z1c (zN c) l c.inputs=true->∀g,vR ⟨(zN c).funs,inpP l⟩ c.outputs g≠.stuck
theorem y6s {V:Fz} {K:List Res} {w:World} {d0:List Value} {v1:Value} {c:Core} {l:List Named} {fuel:Int} (k:RCore V d0 c) (rl:SliceOf RNamed V 4 v1 l) (t0:j5i c l) (G:Glob V) (N:Mem V K w) :
  Calls prog 15 #[.agg d0.toArray,v1,.int .i64 fuel] w (fun ee w'=>∃y:Fz×List Value,ee=.returned (.tuple #[.agg y.2.toArray,.int .i64 (z3j c l fuel).2])/\(V.Le y.1/\ROutcome y.1 y.2 (z3j c l fuel).1/\∀v s,y.2=[v,s]->NewRow V v)/\Mem y.1 K w'):=by
 obtain ⟨p3,c4,p9,Z0,k1,a1,l1,c22,rfl,h2,h8,b1,e1,i1,j1,E0,I0,F0,J0,G0,K0⟩:=RCore.fm k
 obtain ⟨p1,c1,rfl,h1,s0⟩:=rl.fm
 refine zI func15 ntmps15 fun Q hQ a J=>?_
 refine Bx fun P0 w N a J=>?_
 refine Bx fun Q0 w N a J=>?_
 refine Alc fun R0 w N a J=>?_
 refine zV call43 (fun w0 w c0 N a J=>?_) (c:=q4m k G N)
 obtain ⟨h,m1⟩:=w0
 obtain ⟨d,F⟩:=c0
 simp only at d F N J
 replace k:=k.up d
 replace G:=G.mono d
 replace rl:=rl.up d
 replace N:=N.nf
 by_cases b:qL c=0
 obtain ⟨r,i0⟩:=F b
 rw [if_pos b,b] at J
 refine Alc fun S0 w N a J=>?_
 refine Sto 0 fun w N a J=>?_
 refine Qq (fun a J=>?_) (o:=by exact fun J O=>oV false J rfl rfl rfl)
 by_cases P:fuel < 0
 refine zU fun a J=>?_
 refine Sto 1 fun w N a J=>?_
 refine go fun a J=>?_
 have f:=N
 replace N:=N.dl [3,2,1,0]
 refine hQ _ _ _ (uQ (i:=1) (cs:=[.slice none 0 0,.int .i64 ((0:Nat):Int)]) J f.toSees results15 rfl rfl isAgg30 sizeOf30 rfl rfl ?_)
 have hr_:z3j c l (fuel)=(y9g,1):=by
  simp only [z3j,if_neg (not_not_intro b)];rw [if_pos (by have h_:=P;omega)] <;> rfl
 rotate_left
 by_cases S:200000 < fuel
 refine zU fun a J=>?_
 refine Sto 1 fun w N a J=>?_
 refine go fun a J=>?_
 have f:=N
 replace N:=N.dl [3,2,1,0]
 refine hQ _ _ _ (uQ (i:=1) (cs:=[.slice none 0 0,.int .i64 ((0:Nat):Int)]) J f.toSees results15 rfl rfl isAgg30 sizeOf30 rfl rfl ?_)
 have hr_:z3j c l (fuel)=(y9g,1):=by
  simp only [z3j,if_neg (not_not_intro b)];rw [if_pos (by have h_:=S;omega)] <;> rfl
 rotate_left
 refine zX call44 (fun C w N a J=>?_) (fun C w N a J=>?_) (c:=x4z r rl N)
 refine go fun a J=>?_
 have D:z1c (zN c) l c.inputs=true:=C
 have B0:fuel<=200000:=by have h_:=S;omega
 have h0:0<=fuel:=by have h_:=P;omega
 have L:=N
 have H:=J
 clear N J
 obtain ⟨fu,rfl⟩:=Int.eq_ofNat_of_zero_le h0
 have N:=L
 have J:=H
 clear L H
 refine Alc fun T0 w N a J=>?_
 refine Alc fun U0 w N a J=>?_
 refine Alc fun V0 w N a J=>?_
 refine MkM fun X w N a J=>?_
 refine Alc fun W0 w N a J=>?_
 refine Sto 0 fun w N a J=>?_
 refine go fun a J=>?_
 refine zR (J.ks [3,5,6,8,10,11,12,13,41,42]) N (fun R mm a w=>∃(i:Nat) (mv:List (Bs×Value)) (lv:List (Bs×Val)),mm=l.length - i/\R h [(43,.int .i64 i)] [(1,.mp X mv)] a w/\(inpP l=(l.drop i).foldl (fun m x=>nW m x.name x.value) lv/\MapRel (RVa RVal h) mv lv)) (l.length - 0) ⟨0,[],[],rfl,⟨J.pk,N⟩,⟨rfl,MapRel.nil⟩⟩ ?_
 clear N J
 rintro mm a w ⟨i,mv,lv,r0,⟨J,N⟩,q⟩ O0 g0
 replace N:=N.nf
 obtain ⟨q,rv⟩:=q
 by_cases a0:i < l.length
 refine go fun a J=>?_
 obtain ⟨n1,rfl,A,k0,z0,D0,A0,j0⟩:=rl.el s0 a0
 obtain ⟨X0,rfl,b0⟩:=id j0
 obtain ⟨u0,p0,rfl,C0,g1,H0,L0⟩:=RVal.fm b0
 refine Alc fun Y0 w N a J=>?_
 refine Sto 0 fun w N a J=>?_
 refine z5h 2 runUnderlying94 runUnderlying9 fun w N a J=>?_
 refine go fun a J=>?_
 replace N:=N.dl [0]
 refine g0 _ _ _ (by subst r0;omega) ⟨(i+1),((nX mv A.name (.agg #[.string A.value.con,.int .i64 (A.value.num),.slice u0 A.value.args.length p0]))),((nW lv A.name A.value)),rfl,⟨J.pk,N⟩,?_⟩
 refine ⟨?_,(rv.put ⟨_,rfl,b0⟩)⟩
 rw [q,zA k0];rfl
 refine go fun a J=>?_
 have I:=N
 clear N
 obtain ⟨M,g,N,T⟩:=I.freezeMap (i:=1) rfl
 clear I
 replace k:=k.up g
 replace G:=G.mono g
 replace r:=r.mono g
 replace rv:=rv.up g
 replace N:=N.nf
 have W:RGiven M (.map (some X)) (inpP l):=by
  have z:inpP l=lv:=by rw [q,zE a0];rfl
  rw [z];exact .inl ⟨_,_,rfl,T,rv⟩
 replace N:=N.nf
 refine go fun a J=>?_
 replace N:=N.ar [] [3,2,3,6,4,5,7]
 refine st J rfl rfl rfl (z8a J rfl call45 (j3x (inp:=inpP l) k r W (z2u b) (x0i b) (by omega) (t0 b D fu) N) (fun U x0 w u f0 N a J=>?_) (fun U w u N a J=>?_))
 obtain ⟨E,Z⟩:=U
 obtain ⟨m0,o1,B,N0⟩:=x0
 obtain ⟨p,n,t,j,e⟩:=f0
 simp only at p n t j e N J
 replace e:=e.anti ((d).trans g)
 obtain ⟨l0,Y,rfl,n0,o0⟩:=j.fm
 replace k:=k.up p
 replace G:=G.mono p
 replace W:=RGiven.mono p W
 replace N:=N.nf
 refine Qq (fun a J=>?_) (o:=by exact fun J O=>oV false J rfl rfl rfl)
 replace N:=N.pl 1
 refine zO call47 (fun w N a J=>?_) (c:=y7l (l:=B) (by have h_:=t;omega) N)
 refine Sto 2 fun w N a J=>?_
 refine Sto 3 fun w N a J=>?_
 refine go fun a J=>?_
 have f:=N
 replace N:=N.dl [3,2,1,0]
 refine hQ _ _ _ (uQ (i:=3) (cs:=[.slice l0 (mE c.outputs E).length Y,.int .i64 ((gH B))]) J f.toSees results15 rfl rfl isAgg30 sizeOf30 rfl rfl ?_)
 have hr_:z3j c l (((fu:Nat):Int))=(⟨mE c.outputs E,((fu - Z:Nat):Int)⟩,((0:Nat):Int)):=by
  simp only [z3j,if_neg (not_not_intro b)]
  rw [if_neg (by omega),if_neg (by rw [D];decide),Int.toNat_natCast,u] <;> rfl
 rw [hr_]
 exact ⟨(m0,_),rfl,⟨((d).trans g).trans p,⟨_,by rw [show (⟨mE c.outputs E,((fu - Z:Nat):Int)⟩:Outcome).steps=gH B from n.symm],j⟩,fun _ _ z=>by cases z;exact e⟩,N⟩
 have q0:=x3f u
 replace N:=N.nf
 refine zU fun a J=>?_
 refine Sto 0 fun w N a J=>?_
 refine go fun a J=>?_
 have f:=N
 replace N:=N.dl [0]
 refine hQ _ _ _ (uQ (i:=0) (cs:=[.slice none 0 0,.int .i64 ((0:Nat):Int)]) J f.toSees results15 rfl rfl isAgg30 sizeOf30 rfl rfl ?_)
 have hr_:z3j c l (((fu:Nat):Int))=(y9g,((U:Nat):Int)):=by
  simp only [z3j,if_neg (not_not_intro b)]
  rw [if_neg (by omega),if_neg (by rw [D];decide),Int.toNat_natCast,u] <;> rfl
 rw [hr_]
 exact ⟨(M,_),rfl,⟨(d).trans g,⟨_,rfl,SliceOf.nil 4⟩,fun _ _ z=>by cases z;exact NewRow.nil⟩,N⟩
 refine zU fun a J=>?_
 refine Sto 1 fun w N a J=>?_
 refine go fun a J=>?_
 have f:=N
 replace N:=N.dl [3,2,1,0]
 refine hQ _ _ _ (uQ (i:=1) (cs:=[.slice none 0 0,.int .i64 ((0:Nat):Int)]) J f.toSees results15 rfl rfl isAgg30 sizeOf30 rfl rfl ?_)
 have hr_:z3j c l (fuel)=(y9g,8):=by
  simp only [z3j,if_neg (not_not_intro b)];rw [if_neg (by have d1:=S;have f1:=P;omega),if_pos (show z1c (zN c) l c.inputs=false from C)] <;> rfl
 rotate_left
 rw [if_neg b] at J
 refine Alc fun y0 w N a J=>?_
 refine Sto 0 fun w N a J=>?_
 refine zU fun a J=>?_
 refine Sto 1 fun w N a J=>?_
 refine go fun a J=>?_
 have f:=N
 replace N:=N.dl [3,2,1,0]
 refine hQ _ _ _ (uQ (i:=1) (cs:=[.slice none 0 0,.int .i64 ((0:Nat):Int)]) J f.toSees results15 rfl rfl isAgg30 sizeOf30 rfl rfl ?_)
 have hr_:z3j c l (fuel)=(y9g,qL c):=by
  simp only [z3j,if_pos b]
 rotate_left
 all_goals (rw [hr_];exact ⟨(h,_),rfl,⟨d,⟨_,rfl,SliceOf.nil 4⟩,fun _ _ z=>by cases z;exact NewRow.nil⟩,N⟩)
end Go.Sw
