import Derived.Test.YtlfobekmmndchaaGreatDoorX14
set_option linter.unusedVariables false
set_option linter.unusedSimpArgs false
namespace Go.Sw
open Go.Proofs Go.Proofs.Tryz
set_option maxRecDepth 20000
set_option maxHeartbeats 4000000
theorem j3w {Φ:Fz} {K:List Res} {w:World} {pf:Addr} {T:Trc} {F:TFn} {c:List Value} {path:List Int} {up:List TE} {e:TE} {num:Int} (RF:RFnO Φ pf T F) (GP:GoodP T) (hF:F∈T.funs) (hx:(⟨path,up,e⟩:Fnd)∈zE [] [] F.body) (rf:RFnd Φ c ⟨path,up,e⟩) (G:Glob Φ) (hk:e.kind=3) (N:Mem Φ K w) :
  Calls prog 155 #[.pointer (some pf),.agg c.toArray,.int .i64 num] w (fun ee w'=>Out (xL (FnS.inline ⟨T,F⟩ e num)) (fun z=>∃q:Fz×List Value,ee=.returned (.agg q.2.toArray)/\(Φ.Le q.1/\RTE q.1 q.2 z)/\Mem q.1 K w') (fun _=>ee=.panicked vB/\Mem Φ K w')):=by
 have i0:=rf
 have J6:GI e:=nR (kZ (GP.gd F hF) hx)
 obtain ⟨qf1,g9,mu3,ms4,dd5,g0,f0,Q3,P5,n8,m8⟩:=RF.ex
 obtain ⟨cs12,e9,l,W2,L4⟩:=P5.ex
 have v:=W2
 obtain ⟨R5,c21,S5,l5,f9,m5,T5,n5,rfl,hi42,h19,h25,K6,h37,hm22,hn23,hm28,hn29,hm34,L5,hm40,hn41⟩:=RTrc.fm W2
 replace l:At Φ g9 [.slice R5 T.cons.length c21,.slice S5 T.inputs.length l5,.slice f9 T.funs.length m5,.slice T5 T.outputs.length n5,.map (some e9)]:=l
 obtain ⟨h9,i9,C0,d46,rfl,hc47,hc48,O2,X2,e0,d2⟩:=id rf
 replace O2:SliceOf RInt Φ 1 h9 path:=O2
 replace X2:SliceOf RPtE Φ 1 i9 up:=X2
 replace d2:RTE Φ _ e:=d2
 obtain ⟨D0,y0,rfl,o8,hn56⟩:=O2.fm
 obtain ⟨E0,z0,rfl,p8,hn60⟩:=X2.fm
 have h0:=d2
 obtain ⟨p64,c65,p70,c71,p76,c77,rfl,hi80,hi81,M6,h69,A0,hm66,M5,hm72,hn73,hm78,N5⟩:=RTE.fm d2
 have Gl:=G
 have J3:=GP.cl F hF _ hx (.inl hk)
 have hl82:e.body.length=1:=J6.ar.rest (by omega) (by omega)
 have N3:0 < e.body.length:=by omega
 have I:=Q3
 obtain ⟨p87,c88,b91,rfl,h86,p0,hm89,hn90⟩:=RTFn.fm Q3
 obtain ⟨p95,c96,p101,T9,p107,U9,rfl,U6,V6,h94,h100,h106,hm97,hn98,z7,q8,A7,r8⟩:=RTE.fm p0
 refine z6p func155 rfl ntmps155 rfl (fun Q hQ a J=>?_)
 refine sqB fun l9 f4=>?_
 refine qY ?_
 refine Bx fun n0 w N a J=>?_
 refine Alc fun Z w N a J=>?_
 refine go fun a J=>?_
 apply f4
 refine sqB fun m9 g4=>?_
 refine qY ?_
 by_cases D3:0<=num
 refine Qq (fun a J=>?_) (o:=by exact fun J O=>y_leqD J rfl rfl)
 refine go fun a J=>?_
 refine st J rfl rfl rfl (aZ J rfl call188 (xU (b:=(decide (num<=99999))) N) (fun j6 w M1 N a J=>?_) (fun j6 w M1 N=>fun a hd=>hQ _ _ _ (oV [.blk Z (ob [.int .i64 ((0:Nat):Int),.string ⟨#[]⟩,.string ⟨#[]⟩,.int .i64 ((0:Nat):Int),.int .i64 ((0:Nat):Int),.slice none 0 0,.slice none 0 0,.slice none 0 0] 48),.blk n0 (ob [.slice D0 path.length y0,.slice E0 up.length z0,.pointer (some C0)] 90)] (ds:=[]) hd N fun w N=>?_)))
 refine go fun a J=>?_
 apply g4
 refine sqB fun n9 h4=>?_
 refine qY ?_
 try dsimp only [zTE] at N
 refine jF [1,1,1,2,1,1,1,2,1,1,1,2,1,1,2,1,2,1,1,2,2,1,2,0,0] (.q 0 (.q 1 (.q 2 (.q 3 (.q 4 (.q 5 (.q 6 (.q 7 (.q 8 (.q 9 (.q 10 (.q 11 (.q 12 (.q 13 (.q 14 (.q 15 (.q 16 (.q 17 (.q 18 (.q 19 (.q 20 (.q 21 (.q 22 (.e 23 (.e 24 (.done)))))))))))))))))))))))))) [.blk Z (ob [.int .i64 ((0:Nat):Int),.string ⟨#[]⟩,.string ⟨#[]⟩,.int .i64 ((0:Nat):Int),.int .i64 ((0:Nat):Int),.slice none 0 0,.slice none 0 0,.slice none 0 0] 48),.blk n0 (ob [.slice D0 path.length y0,.slice E0 up.length z0,.pointer (some C0)] 90)] J N mixed (by kernel_rfl) (by simp) fun w N=>?_
 have O5:0<=num/\num<=99999:=⟨D3,of_decide_eq_true (zD M1)⟩
 refine Qq (fun a J=>?_) (o:=by exact fun J O=>Ok.cast (yT runUnderlying98 runUnderlying9 zeroValue3 J O rfl rfl L4) (vP (atM 0 T.funs []) e.op))
 obtain ⟨q121,S4,P2,N1⟩:=fun_at hF e.op
 rw [S4] at J
 have Y:=N
 have o0:=J
 clear N J
 obtain ⟨k6,rfl⟩:=L5 (zO P2)
 have N:=Y
 have J:=o0
 clear Y o0
 obtain ⟨d,Z0⟩:=zW P2
 obtain ⟨x6,q7,H,u⟩:=K6.elem Z0
 obtain ⟨h1,c1,O9,rfl,E5,a0,B7,M4⟩:=RTFn.fm u
 obtain ⟨V0,c143,X0,R0,Y0,S0,rfl,W6,X6,h141,h147,h153,C7,s8,D7,t8,E7,u8⟩:=RTE.fm a0
 refine Alc fun b1 w N a J=>?_
 refine Sto 0 fun w N a J=>?_
 refine go fun a J=>?_
 apply h4
 refine sqB fun o9 i4=>?_
 refine qY ?_
 have J2:d∈T.funs:=mgQ Z0
 have J5:d.name=e.op:=by obtain ⟨g2_,b4,L6⟩:=y3d J3.ex;rw [N1,Z0] at b4;cases b4;exact L6
 have hpl_:d.params.length=e.args.length:=J3.all _ J2 J5
 have I5:zC d.body<=20000:=by have h_:=(GP.fit.fn Z0).2;rw [lnQ] at h_;omega
 refine MkM fun k w N a J=>?_
 try dsimp only [zTE] at N
 replace N:=N.nf
 refine Alc fun l0 w N a J=>?_
 refine Sto 0 fun w N a J=>?_
 refine go fun a J=>?_
 apply i4
 refine sqB fun p9 j4=>?_
 refine sqB fun q9 k4=>?_
 refine qY ?_
 refine go fun a J=>?_
 apply k4
 refine z0a ?_
 refine qY ?_
 refine qD (J.ks [0,2,4,6,7,8,58,59]) N (fun R mm a w=>∃(i:Nat) (ml:Atoms),mm=d.params.length - i/\R Φ [(60,.int .i64 i)] [(1,.mp k (xZ ml))] a w/\(cJ d.params e.args=parM (d.params.drop i) (e.args.drop i) ml/\∀p∈ml,I64 p.2.num)) (d.params.length - 0) ⟨0,[],rfl,⟨J.pk,N⟩,⟨rfl,fun _ h_=>by simp at h_⟩⟩ ?_
 clear N J
 rintro mm a w ⟨i,ml,L2,⟨J,N⟩,m1⟩ r9 l4
 try dsimp only [zTE] at N
 replace N:=N.nf
 by_cases y2:i < d.params.length
 refine go fun a J=>?_
 have Y:=N
 have o0:=J
 clear N J
 obtain ⟨l6,rfl⟩:=M4 (zO y2)
 have N:=Y
 have J:=o0
 clear Y o0
 obtain ⟨H1,Y2⟩:=zW y2
 obtain ⟨y6,r7,Q6,T4⟩:=E5.elem Y2
 obtain rfl:=id T4
 refine Alc fun h5 w N a J=>?_
 refine Sto 0 fun w N a J=>?_
 refine Reg [2,1,2,1,2,1,1,2,1,1,2,0] [0,1,2,3,4,5] fun w N a J=>?_
 refine go fun a J=>?_
 have I2:i < e.args.length:=by omega
 have Y:=N
 have o0:=J
 clear N J
 obtain ⟨q182,rfl⟩:=M5 (zO I2)
 have N:=Y
 have J:=o0
 clear Y o0
 obtain ⟨o3,Z2⟩:=zW I2
 obtain ⟨z6,s7,R6,U4⟩:=M6.elem Z2
 obtain ⟨rfl,G4⟩:=id U4
 refine uF 2 runUnderlying151 runUnderlying9 fun w N a J=>?_
 replace N:Mem Φ (.blk h5 (ob [.string H1.name,.bool H1.mod] 125)::.blk l0 (ob [.map (some k)] 151)::.mp k (xZ (qJ ml H1.name o3))::.blk b1 (ob [.string d.name,.bool d.chg,.slice (some l6) d.params.length c1,.int .i64 (d.body.kind),.string d.body.name,.string d.body.op,.int .i64 (d.body.num),.int .i64 (d.body.site),.slice V0 d.body.args.length c143,.slice X0 d.body.arms.length R0,.slice Y0 d.body.body.length S0] 50)::.blk Z (ob [.int .i64 ((0:Nat):Int),.string ⟨#[]⟩,.string ⟨#[]⟩,.int .i64 ((0:Nat):Int),.int .i64 ((0:Nat):Int),.slice none 0 0,.slice none 0 0,.slice none 0 0] 48)::.blk n0 (ob [.slice D0 path.length y0,.slice E0 up.length z0,.pointer (some C0)] 90)::K) w:=by rw [<- wH ml H1.name o3];exact N
 refine go fun a J=>?_
 replace N:=N.dl [0]
 refine l4 _ _ _ (by subst L2;omega) ⟨(i+1),((qJ ml H1.name o3)),rfl,⟨J.pk,by exact N⟩,?_⟩
 exact ⟨m1.1.trans (j4q Y2 Z2),z9f m1.2 G4⟩
 refine go fun a J=>?_
 apply j4
 refine sqB fun s9 m4=>?_
 refine qY ?_
 have Q4:cJ d.params e.args=ml:=m1.1.trans (x0t y2)
 have C1:=m1.2
 refine MkM fun I0 w N a J=>?_
 replace N:Mem _ (.mp I0 (aP [])::_) w:=N
 try dsimp only [zTE] at N
 replace N:=N.nf
 refine go fun a J=>?_
 apply m4
 refine sqB fun t9 F2=>?_
 refine qY ?_
 try dsimp only [zTE] at N
 refine jF [1,1,1,2,1,1,2,1,1,1,2,1,1,2,0,1,1,1,1,1] (.q 0 (.q 1 (.q 2 (.q 3 (.q 4 (.q 5 (.q 6 (.q 7 (.q 8 (.q 9 (.q 10 (.q 11 (.q 12 (.q 13 (.e 14 (.q 15 (.q 16 (.q 17 (.q 18 (.q 19 (.done))))))))))))))))))))) [.mp I0 (aP []),.blk l0 (ob [.map (some k)] 151),.mp k (xZ ml),.blk b1 (ob [.string d.name,.bool d.chg,.slice h1 d.params.length c1,.int .i64 (d.body.kind),.string d.body.name,.string d.body.op,.int .i64 (d.body.num),.int .i64 (d.body.site),.slice V0 d.body.args.length c143,.slice X0 d.body.arms.length R0,.slice Y0 d.body.body.length S0] 50),.blk Z (ob [.int .i64 ((0:Nat):Int),.string ⟨#[]⟩,.string ⟨#[]⟩,.int .i64 ((0:Nat):Int),.int .i64 ((0:Nat):Int),.slice none 0 0,.slice none 0 0,.slice none 0 0] 48),.blk n0 (ob [.slice D0 path.length y0,.slice E0 up.length z0,.pointer (some C0)] 90)] J N mixed (by kernel_rfl) (by simp) fun w N=>?_
 refine Qq (fun a J=>?_) (o:=by exact fun J O=>kB 0 (vs:=[.slice R5 T.cons.length c21,.slice S5 T.inputs.length l5,.slice (some k6) T.funs.length m5,.slice T5 T.outputs.length n5]) J O rfl l isAgg26 sizeOf26 rfl rfl)
 refine go fun a J=>?_
 refine d_e J rfl rfl rfl (mZ J rfl call191 (x0f v Gl N) (fun U3 q3 w O1 N6 N=>⟨fun _=>N.sn (Fz.Le.refl _),fun a J=>?_⟩) (fun U3 q3 w O1 N=>⟨fun _=>N.sn (Fz.Le.refl _),fun a J=>?_⟩))
 try dsimp only [zTE] at N
 replace N:=N.nf
 refine go fun a J=>?_
 apply F2
 refine sqB fun u9 n4=>?_
 refine qY ?_
 refine Qq (fun a J=>?_) (o:=by exact fun J O=>xY true J rfl rfl rfl)
 refine zF call188 (fun w N a J=>?_) (c:=xU (b:=true) N)
 refine go fun a J=>?_
 apply n4
 refine sqB fun v9 o4=>?_
 refine sqB fun w9 p4=>?_
 refine qY ?_
 refine go fun a J=>?_
 obtain ⟨b2,K5⟩:∃k_,k_=U3:=⟨_,rfl⟩
 have L3:=zR O1
 rw [<- K5] at N L3
 try dsimp only [zTE] at N
 replace N:=N.nf
 have G0:=N
 clear N
 obtain ⟨s0,X,N,T2,F5⟩:=G0.freezeRowC (i:=0) rfl
 clear G0
 replace g0:=g0.mono X
 replace f0:=f0.mono X
 replace RF:=RF.mono X
 replace v:=RTrc.mono _ _ _ _ X v
 replace l:=l.mono X
 replace A0:=A0.mono RTE.mono X
 replace e0:=e0.mono X
 replace h0:=RTE.mono _ _ _ _ X h0
 replace i0:=RFnd.mono _ _ _ _ X i0
 replace Gl:=Gl.mono X
 replace p0:=RTE.mono _ _ _ _ X p0
 replace I:=RTFn.mono _ _ _ _ X I
 replace H:=H.mono X
 replace u:=RTFn.mono _ _ _ _ X u
 replace a0:=RTE.mono _ _ _ _ X a0
 try dsimp only [zTE] at N
 replace N:=N.nf
 have f2:SliceOf RTPar s0 2 _ (b2):=⟨_,T2,sY _⟩
 obtain ⟨p206,V9,a2,t6,N4⟩:=f2.form (by decide)
 have Y:=N
 clear N
 subst a2
 have N:=Y
 clear Y
 have J1:=j3v (F:=F) O5 N1 Z0 L3
 refine go fun a J=>?_
 apply p4
 refine z0a ?_
 refine qY ?_
 refine qD (J.ks [0,2,4,6,7,8,11,99,100]) N (fun R mm a w=>∃(k2:Nat) (e1:List (Bs×Bool)),mm=b2.length - k2/\R s0 [(101,.int .i64 k2)] [(0,.mp I0 (aP e1))] a w/\(OwnL e1 ((b2.take k2).map TPar.name))) (b2.length - 0) ⟨0,[],rfl,⟨J.pk,N⟩,OwnL.start⟩ ?_
 clear N J
 rintro mm a w ⟨k2,e1,L2,⟨J,N⟩,D2⟩ x9 q4
 try dsimp only [zTE] at N
 replace N:=N.nf
 by_cases z2:k2 < (b2).length
 refine go fun a J=>?_
 have Y:=N
 have o0:=J
 clear N J
 obtain ⟨q217,rfl⟩:=N4 (zO z2)
 have N:=Y
 have J:=o0
 clear Y o0
 obtain ⟨I1,a3⟩:=zW z2
 obtain ⟨A6,t7,S6,V4⟩:=f2.elem a3
 obtain rfl:=id V4
 refine Alc fun i5 w N a J=>?_
 refine Sto 0 fun w N a J=>?_
 refine uF 1 runUnderlying99 runUnderlying9 fun w N a J=>?_
 replace N:Mem s0 (.blk i5 (ob [.string I1.name,.bool I1.mod] 125)::.mp I0 (aP (qJ e1 I1.name true))::.blk l0 (ob [.map (some k)] 151)::.mp k (xZ ml)::.blk b1 (ob [.string d.name,.bool d.chg,.slice h1 d.params.length c1,.int .i64 (d.body.kind),.string d.body.name,.string d.body.op,.int .i64 (d.body.num),.int .i64 (d.body.site),.slice V0 d.body.args.length c143,.slice X0 d.body.arms.length R0,.slice Y0 d.body.body.length S0] 50)::.blk Z (ob [.int .i64 ((0:Nat):Int),.string ⟨#[]⟩,.string ⟨#[]⟩,.int .i64 ((0:Nat):Int),.int .i64 ((0:Nat):Int),.slice none 0 0,.slice none 0 0,.slice none 0 0] 48)::.blk n0 (ob [.slice D0 path.length y0,.slice E0 up.length z0,.pointer (some C0)] 90)::K) w:=by rw [<- z7v e1 I1.name true];exact N
 refine go fun a J=>?_
 replace N:=N.dl [0]
 refine q4 _ _ _ (by subst L2;omega) ⟨(k2+1),((qJ e1 I1.name true)),rfl,⟨J.pk,by exact N⟩,?_⟩
 exact OwnL.next D2 a3
 refine go fun a J=>?_
 apply o4
 refine sqB fun y9 r4=>?_
 refine qY ?_
 have N2:=OwnL.done D2 z2
 refine go fun a J=>?_
 apply r4
 refine sqB fun z9 s4=>?_
 refine qY ?_
 refine Alc fun i1 w N a J=>?_
 refine Sto 0 fun w N a J=>?_
 refine go fun a J=>?_
 apply s4
 refine sqB fun A9 t4=>?_
 refine z0a ?_
 refine qY ?_
 replace N:=N.nilRow 48 8
 try dsimp only [zTE] at N
 replace N:=N.nf
 refine qD (J.ks [0,2,4,6,8,11,17]) N (fun R mm a w=>∃(k_:Nat) (f:TE) (Z3:List Value) (j:Atoms) (u0:List TE) (B0:Value) (H0:List Value),mm=zC f/\R s0 [(16,B0)] [(0,.gs (B0) 48 8 H0),(1,.blk i1 (ob Z3 48)),(4,.mp k (xZ j))] a w/\(cW (b2.map TPar.name) num (zC d.body) d.body (cJ d.params e.args) []=cW (b2.map TPar.name) num k_ f j u0/\zC f<=k_/\u0.length+zC f<=20000/\gdT f/\smT f/\(∀y∈u0,smT y)/\(∀p∈j,I64 p.2.num)/\Chunks (RTE s0) 8 H0 u0/\RTE s0 Z3 f)) (zC d.body) ⟨zC d.body,d.body,[.int .i64 (d.body.kind),.string d.body.name,.string d.body.op,.int .i64 (d.body.num),.int .i64 (d.body.site),.slice V0 d.body.args.length c143,.slice X0 d.body.arms.length R0,.slice Y0 d.body.body.length S0],ml,[],.slice none 0 0,[],rfl,⟨J.pk,N⟩,⟨by rw [Q4],Nat.le_refl _,by rw [lnQ];omega,GP.gd _ J2,q9v (GP.gd _ J2) I5,(fun _ h_=>by simp at h_),C1,rfl,a0⟩⟩ ?_
 clear N J
 rintro mm a w ⟨k_,f,Z3,j,u0,B0,H0,L2,⟨J,N⟩,d4⟩ B9 u4
 try dsimp only [zTE] at N
 replace N:=N.nf
 refine go fun a J=>?_
 obtain ⟨t1,h2,hfl_,K3,P3,O3,C1,b0,l1⟩:=d4
 have D5:=nR K3
 have U:=l1
 obtain ⟨D1,w1,E1,x1,i2,c2,rfl,H4,I4,d0,j0,k0,F7,O4,G7,v8,H7,P4⟩:=RTE.fm l1
 try dsimp only [zTE] at N
 replace N:=N.nf
 refine go fun a J=>?_
 by_cases j1:f.kind=8
 refine go fun a J=>?_
 apply t4
 refine sqB fun C9 v4=>?_
 refine qY ?_
 have f1:=inl_end t1 h2 j1
 have hl1_:f.args.length=1:=D5.ar.one (.inr (.inr (.inl j1)))
 have M3:0 < f.args.length:=by omega
 refine go fun a J=>?_
 have Y:=N
 have o0:=J
 clear N J
 obtain ⟨q256,rfl⟩:=O4 (zO M3)
 have N:=Y
 have J:=o0
 clear Y o0
 obtain ⟨d1,u1⟩:=zW M3
 obtain ⟨B6,u7,S,M⟩:=d0.elem u1
 obtain ⟨rfl,K2⟩:=id M
 refine Alc fun Q0 w N a J=>?_
 refine Sto 0 fun w N a J=>?_
 refine go fun a J=>?_
 apply v4
 refine sqB fun e5 w4=>?_
 have L1:∀a w,(∃(t0:Atom),EnvR 209 [(0,.pointer (some pf)),(4,.pointer (some ⟨n0,0,none⟩)),(6,.pointer (some ⟨Z,0,none⟩)),(8,.pointer (some ⟨l0,0,none⟩)),(16,B0),(20,.pointer (some ⟨Q0,0,none⟩))] [] a/\Mem s0 (.blk Q0 (ob [.string t0.name,.int .i64 (t0.num)] 75)::.gs (B0) 48 8 H0::.blk l0 (ob [.map (some k)] 151)::.mp k (xZ j)::.blk Z (ob [.int .i64 ((0:Nat):Int),.string ⟨#[]⟩,.string ⟨#[]⟩,.int .i64 ((0:Nat):Int),.int .i64 ((0:Nat):Int),.slice none 0 0,.slice none 0 0,.slice none 0 0] 48)::.blk n0 (ob [.slice D0 path.length y0,.slice E0 up.length z0,.pointer (some C0)] 90)::K) w/\(mM j (xD f 0)=t0/\I64 t0.num))->e5 a w:=by
  clear N J
  rintro a w ⟨t0,J,N,e4⟩
  refine go fun a J=>?_
  obtain ⟨A1,q1⟩:=e4
  apply w4
  refine sqB fun f5 x4=>?_
  have n1:∀a w,(∃(v1:Fz) (j2:Nat) (t3:List Value) (n3:TE),EnvR 209 [(6,.pointer (some ⟨Z,0,none⟩)),(8,.pointer (some ⟨l0,0,none⟩)),(16,B0),(23,.pointer (some ⟨j2,0,none⟩))] [] a/\Mem v1 (.blk j2 (ob t3 48)::.gs (B0) 48 8 H0::.blk l0 (ob [.map (some k)] 151)::.mp k (xZ j)::.blk Z (ob [.int .i64 ((0:Nat):Int),.string ⟨#[]⟩,.string ⟨#[]⟩,.int .i64 ((0:Nat):Int),.int .i64 ((0:Nat):Int),.slice none 0 0,.slice none 0 0,.slice none 0 0] 48)::K) w/\(s0.Le v1/\(xL (FnS.put ⟨T,F⟩ [(e.name,t0)] (xT e))=.ok n3/\RTE v1 t3 n3)))->f5 a w:=by
   clear N J
   rintro a w ⟨v1,j2,t3,n3,J,N,K1⟩
   obtain ⟨W,K1⟩:=K1
   replace g0:=g0.mono W
   replace f0:=f0.mono W
   replace RF:=RF.mono W
   replace v:=RTrc.mono _ _ _ _ W v
   replace l:=l.mono W
   replace A0:=A0.mono RTE.mono W
   replace e0:=e0.mono W
   replace h0:=RTE.mono _ _ _ _ W h0
   replace i0:=RFnd.mono _ _ _ _ W i0
   replace Gl:=Gl.mono W
   replace p0:=RTE.mono _ _ _ _ W p0
   replace I:=RTFn.mono _ _ _ _ W I
   replace H:=H.mono W
   replace u:=RTFn.mono _ _ _ _ W u
   replace a0:=RTE.mono _ _ _ _ W a0
   replace d0:=d0.mono RAtom.mono W
   replace j0:=j0.mono RTA.mono W
   replace k0:=k0.mono RTE.mono W
   replace b0:=b0.mono fun _ _ h=>RTE.mono _ _ _ _ W h
   replace U:=RTE.mono _ _ _ _ W U
   replace S:=S.mono W
   replace M:=RAtom.mono _ _ _ _ W M
   refine go fun a J=>?_
   obtain ⟨R4,x0⟩:=K1
   apply x4
   refine sqB fun D9 y4=>?_
   refine sqB fun E9 z4=>?_
   refine qY ?_
   refine go fun a J=>?_
   have G0:=N
   clear N
   obtain ⟨k9,V,N,w0⟩:=G0.freezeMap (i:=3) rfl
   clear G0
   replace g0:=g0.mono V
   replace f0:=f0.mono V
   replace RF:=RF.mono V
   replace v:=RTrc.mono _ _ _ _ V v
   replace l:=l.mono V
   replace A0:=A0.mono RTE.mono V
   replace e0:=e0.mono V
   replace h0:=RTE.mono _ _ _ _ V h0
   replace i0:=RFnd.mono _ _ _ _ V i0
   replace Gl:=Gl.mono V
   replace p0:=RTE.mono _ _ _ _ V p0
   replace I:=RTFn.mono _ _ _ _ V I
   replace H:=H.mono V
   replace u:=RTFn.mono _ _ _ _ V u
   replace a0:=RTE.mono _ _ _ _ V a0
   replace d0:=d0.mono RAtom.mono V
   replace j0:=j0.mono RTA.mono V
   replace k0:=k0.mono RTE.mono V
   replace b0:=b0.mono fun _ _ h=>RTE.mono _ _ _ _ V h
   replace U:=RTE.mono _ _ _ _ V U
   replace S:=S.mono V
   replace M:=RAtom.mono _ _ _ _ V M
   replace x0:=RTE.mono _ _ _ _ V x0
   try dsimp only [zTE] at N
   replace N:=N.nf
   have G0:=N
   clear N
   obtain ⟨b5,P,N,U2,G5⟩:=G0.freezeRowC (i:=1) rfl
   clear G0
   replace g0:=g0.mono P
   replace f0:=f0.mono P
   replace RF:=RF.mono P
   replace v:=RTrc.mono _ _ _ _ P v
   replace l:=l.mono P
   replace A0:=A0.mono RTE.mono P
   replace e0:=e0.mono P
   replace h0:=RTE.mono _ _ _ _ P h0
   replace i0:=RFnd.mono _ _ _ _ P i0
   replace Gl:=Gl.mono P
   replace p0:=RTE.mono _ _ _ _ P p0
   replace I:=RTFn.mono _ _ _ _ P I
   replace H:=H.mono P
   replace u:=RTFn.mono _ _ _ _ P u
   replace a0:=RTE.mono _ _ _ _ P a0
   replace d0:=d0.mono RAtom.mono P
   replace j0:=j0.mono RTA.mono P
   replace k0:=k0.mono RTE.mono P
   replace b0:=b0.mono fun _ _ h=>RTE.mono _ _ _ _ P h
   replace U:=RTE.mono _ _ _ _ P U
   replace S:=S.mono P
   replace M:=RAtom.mono _ _ _ _ P M
   replace x0:=RTE.mono _ _ _ _ P x0
   replace w0:=w0.mono P
   try dsimp only [zTE] at N
   replace N:=N.nf
   have U0:SliceOf RTE b5 8 _ (u0):=⟨_,U2,b0⟩
   obtain ⟨p283,W9,a2,u6,w8⟩:=U0.form (by decide)
   have Y:=N
   clear N
   subst a2
   have N:=Y
   clear Y
   refine yF call193 (fun y287 w r N a J=>?_) (c:=j6m U0 N)
   replace g0:=g0.mono r.1
   replace f0:=f0.mono r.1
   replace RF:=RF.mono r.1
   replace v:=RTrc.mono _ _ _ _ r.1 v
   replace l:=l.mono r.1
   replace A0:=A0.mono RTE.mono r.1
   replace e0:=e0.mono r.1
   replace h0:=RTE.mono _ _ _ _ r.1 h0
   replace i0:=RFnd.mono _ _ _ _ r.1 i0
   replace Gl:=Gl.mono r.1
   replace p0:=RTE.mono _ _ _ _ r.1 p0
   replace I:=RTFn.mono _ _ _ _ r.1 I
   replace H:=H.mono r.1
   replace u:=RTFn.mono _ _ _ _ r.1 u
   replace a0:=RTE.mono _ _ _ _ r.1 a0
   replace d0:=d0.mono RAtom.mono r.1
   replace j0:=j0.mono RTA.mono r.1
   replace k0:=k0.mono RTE.mono r.1
   replace b0:=b0.mono fun _ _ h=>RTE.mono _ _ _ _ r.1 h
   replace U:=RTE.mono _ _ _ _ r.1 U
   replace S:=S.mono r.1
   replace M:=RAtom.mono _ _ _ _ r.1 M
   replace x0:=RTE.mono _ _ _ _ r.1 x0
   replace w0:=w0.mono r.1
   replace U0:=U0.mono RTE.mono r.1
   have u3:=r.2
   try dsimp only [zTE] at N
   replace N:=N.nf
   refine go fun a J=>?_
   apply z4
   refine z0a ?_
   refine j5m (p1:=199) (p2:=200) RBkV (vN u0 u0.length) (fun c0 y_=>mO (zT j y_.2) c0) (fun Ψ_ s_ z_=>RTE Ψ_ z_ s_) (fun _ z_=>.blk j2 (ob z_ 48)::.blk l0 (ob [.map (some k)] 151)::.blk Z (ob [.int .i64 ((0:Nat):Int),.string ⟨#[]⟩,.string ⟨#[]⟩,.int .i64 ((0:Nat):Int),.int .i64 ((0:Nat):Int),.slice none 0 0,.slice none 0 0,.slice none 0 0] 48)::K) n3 t3 func155 J x0 N rfl call217 rfl rfl (fun _ _ _ _ x7 h_=>RTE.mono _ _ _ _ x7 h_) (fun Ψr_ s_ z_ v1_ v2_ x_ l_ o1_ o2_ K1_ a w g Q5 a5 k1 J N=>?_) (q4y u3 U0) (fun Dk Ψr_ s6 a w g k1 J N=>?_)
   obtain ⟨i_,y_⟩:=x_
   obtain ⟨R3,c_,a2,l1⟩:=a5
   simp only at R3 l1
   subst R3 a2
   have S3:=dY Q5
   simp only at S3
   have g1:=l1
   have O0:=k1
   replace g0:=g0.mono g
   replace f0:=f0.mono g
   replace RF:=RF.mono g
   replace v:=RTrc.mono _ _ _ _ g v
   replace l:=l.mono g
   replace A0:=A0.mono RTE.mono g
   replace e0:=e0.mono g
   replace h0:=RTE.mono _ _ _ _ g h0
   replace i0:=RFnd.mono _ _ _ _ g i0
   replace Gl:=Gl.mono g
   replace p0:=RTE.mono _ _ _ _ g p0
   replace I:=RTFn.mono _ _ _ _ g I
   replace H:=H.mono g
   replace u:=RTFn.mono _ _ _ _ g u
   replace a0:=RTE.mono _ _ _ _ g a0
   replace d0:=d0.mono RAtom.mono g
   replace j0:=j0.mono RTA.mono g
   replace k0:=k0.mono RTE.mono g
   replace b0:=b0.mono fun _ _ h=>RTE.mono _ _ _ _ g h
   replace U:=RTE.mono _ _ _ _ g U
   replace S:=S.mono g
   replace M:=RAtom.mono _ _ _ _ g M
   replace x0:=RTE.mono _ _ _ _ g x0
   replace w0:=w0.mono g
   try dsimp only [zTE] at N
   replace N:=N.nf
   obtain ⟨d3,n2,e3,o2,f3,q2,rfl,Y6,Z6,h291,h297,h303,I7,x8,J7,y8,K7,z8⟩:=RTE.fm l1
   obtain ⟨g3,r2,h3,s2,i3,t2,rfl,a7,b7,h311,h317,h323,L7,A8,M7,B8,N7,C8⟩:=RTE.fm k1
   try dsimp only [zTE] at N
   replace N:=N.nf
   refine xG ?_
   refine vS J rfl rfl rfl (by intro c h;cases h) (qP (cs:=[.int .i64 ((0:Nat):Int),.string ⟨#[]⟩,.string ⟨#[]⟩,.int .i64 ((0:Nat):Int),.int .i64 ((0:Nat):Int),.slice none 0 0,.slice none 0 0,.slice none 0 0]) N zeroValue48 rfl fun P9 w N a J=>?_)
   refine jY J rfl rfl (by intro c h;cases h) (zQ 0 (cs:=[.int .i64 ((0:Nat):Int),.string ⟨#[]⟩,.string ⟨#[]⟩,.int .i64 ((0:Nat):Int),.int .i64 ((0:Nat):Int),.slice none 0 0,.slice none 0 0,.slice none 0 0]) (vs:=[.int .i64 (y_.kind),.string y_.name,.string y_.op,.int .i64 (y_.num),.int .i64 (y_.site),.slice d3 y_.args.length n2,.slice e3 y_.arms.length o2,.slice f3 y_.body.length q2]) J N rfl rfl rfl rfl sizeOf48 rfl rfl rfl fun w N a J=>?_)
   try dsimp only [zTE] at N
   replace N:=N.nf
   refine zY ?_
   replace N:=N.pl 1
   refine ⟨_,N,fun w N=>?_⟩
   try dsimp only [zTE] at N
   replace N:=N.nf
   refine gA ?_
   refine sqI fun F9 A4=>?_
   refine xG ?_
   refine zH J (by intro c h;cases h) (qA 1 (vs:=[.int .i64 (y_.kind),.string y_.name,.string y_.op,.int .i64 (y_.num),.int .i64 (y_.site),.slice d3 y_.args.length n2,.slice e3 y_.arms.length o2,.slice f3 y_.body.length q2]) J N.toSees rfl rfl isAgg48 sizeOf48 rfl rfl) rfl fun a J=>
     zH J (by intro c h;cases h) (yH 3 J N.toSees rfl rfl rfl isAgg151) rfl fun a J=>?_
   refine vS J rfl rfl rfl (by intro c h;cases h) (tR J rfl call41 (j1f w0 C1 g1 (O3 _ (mgQ S3)) N) (fun r6 w s N a J=>?_))
   replace g0:=g0.mono s.1
   replace f0:=f0.mono s.1
   replace RF:=RF.mono s.1
   replace v:=RTrc.mono _ _ _ _ s.1 v
   replace l:=l.mono s.1
   replace A0:=A0.mono RTE.mono s.1
   replace e0:=e0.mono s.1
   replace h0:=RTE.mono _ _ _ _ s.1 h0
   replace i0:=RFnd.mono _ _ _ _ s.1 i0
   replace Gl:=Gl.mono s.1
   replace p0:=RTE.mono _ _ _ _ s.1 p0
   replace I:=RTFn.mono _ _ _ _ s.1 I
   replace H:=H.mono s.1
   replace u:=RTFn.mono _ _ _ _ s.1 u
   replace a0:=RTE.mono _ _ _ _ s.1 a0
   replace d0:=d0.mono RAtom.mono s.1
   replace j0:=j0.mono RTA.mono s.1
   replace k0:=k0.mono RTE.mono s.1
   replace b0:=b0.mono fun _ _ h=>RTE.mono _ _ _ _ s.1 h
   replace U:=RTE.mono _ _ _ _ s.1 U
   replace S:=S.mono s.1
   replace M:=RAtom.mono _ _ _ _ s.1 M
   replace x0:=RTE.mono _ _ _ _ s.1 x0
   replace g1:=RTE.mono _ _ _ _ s.1 g1
   replace O0:=RTE.mono _ _ _ _ s.1 O0
   have V1:=s.2
   obtain ⟨C6,v3⟩:∃x_,x_=r6.2:=⟨_,rfl⟩
   rw [<- v3] at V1 J
   have R2:=V1
   obtain ⟨F1,y1,G1,z1,T3,C3,rfl,J4,K4,A2,B2,h351,O7,D8,P7,E8,Q7,F8⟩:=RTE.fm V1
   try dsimp only [zTE] at N
   replace N:=N.nf
   refine jY J rfl rfl (by intro c h;cases h) (zQ 1 (cs:=[.int .i64 (y_.kind),.string y_.name,.string y_.op,.int .i64 (y_.num),.int .i64 (y_.site),.slice d3 y_.args.length n2,.slice e3 y_.arms.length o2,.slice f3 y_.body.length q2]) (vs:=[.int .i64 ((zT j y_).kind),.string (zT j y_).name,.string (zT j y_).op,.int .i64 ((zT j y_).num),.int .i64 ((zT j y_).site),.slice F1 (zT j y_).args.length y1,.slice G1 (zT j y_).arms.length z1,.slice T3 (zT j y_).body.length C3]) J N rfl rfl rfl rfl sizeOf48 rfl rfl rfl fun w N a J=>?_)
   try dsimp only [zTE] at N
   replace N:=N.nf
   refine zY ?_
   apply A4
   refine sqI fun G9 B4=>?_
   refine xG ?_
   refine zH J (by intro c h;cases h) (qA 2 (vs:=[.int .i64 (s_.kind),.string s_.name,.string s_.op,.int .i64 (s_.num),.int .i64 (s_.site),.slice g3 s_.args.length r2,.slice h3 s_.arms.length s2,.slice i3 s_.body.length t2]) J N.toSees rfl rfl isAgg48 sizeOf48 rfl rfl) rfl fun a J=>?_
   refine vS J rfl rfl rfl (by intro c h;cases h) (yY (sz:=8) (cs:=[.int .i64 (s_.kind),.string s_.name,.string s_.op,.int .i64 (s_.num),.int .i64 (s_.site),.slice g3 s_.args.length r2,.slice h3 s_.arms.length s2,.slice i3 s_.body.length t2]) J N rfl (pG runUnderlying46 sizeOf48 zeroValue48 rfl (by decide) (by kernel_rfl)) rfl (by decide) fun p6 w N _ a J=>?_)
   refine zH J (by intro c h;cases h) (qK J rfl q9k rfl) rfl fun a J=>?_
   refine jY J rfl rfl (by intro c h;cases h) (zQ 2 (cs:=[.int .i64 ((zT j y_).kind),.string (zT j y_).name,.string (zT j y_).op,.int .i64 ((zT j y_).num),.int .i64 ((zT j y_).site),.slice F1 (zT j y_).args.length y1,.slice G1 (zT j y_).arms.length z1,.slice T3 (zT j y_).body.length C3]) (vs:=[p6]) J N rfl rfl rfl (N.toSees.gsCells (i:=0) rfl) sizeOf46 rfl (N.toSees.gsOne (i:=0) rfl) rfl fun w N a J=>?_)
   try dsimp only [zTE] at N
   replace N:=N.nf
   refine zY ?_
   apply B4
   refine xG ?_
   have G0:=N
   clear N
   obtain ⟨s3,m,N,V2,H5⟩:=G0.freezeRowC (i:=0) rfl
   clear G0
   replace g0:=g0.mono m
   replace f0:=f0.mono m
   replace RF:=RF.mono m
   replace v:=RTrc.mono _ _ _ _ m v
   replace l:=l.mono m
   replace A0:=A0.mono RTE.mono m
   replace e0:=e0.mono m
   replace h0:=RTE.mono _ _ _ _ m h0
   replace i0:=RFnd.mono _ _ _ _ m i0
   replace Gl:=Gl.mono m
   replace p0:=RTE.mono _ _ _ _ m p0
   replace I:=RTFn.mono _ _ _ _ m I
   replace H:=H.mono m
   replace u:=RTFn.mono _ _ _ _ m u
   replace a0:=RTE.mono _ _ _ _ m a0
   replace d0:=d0.mono RAtom.mono m
   replace j0:=j0.mono RTA.mono m
   replace k0:=k0.mono RTE.mono m
   replace b0:=b0.mono fun _ _ h=>RTE.mono _ _ _ _ m h
   replace U:=RTE.mono _ _ _ _ m U
   replace S:=S.mono m
   replace M:=RAtom.mono _ _ _ _ m M
   replace x0:=RTE.mono _ _ _ _ m x0
   replace g1:=RTE.mono _ _ _ _ m g1
   replace O0:=RTE.mono _ _ _ _ m O0
   replace A2:=A2.mono RAtom.mono m
   replace B2:=B2.mono RTA.mono m
   replace R2:=RTE.mono _ _ _ _ m R2
   try dsimp only [zTE] at N
   replace N:=N.nf
   have g2:SliceOf RTE s3 8 _ ([s_]):=⟨_,V2,yQ rfl O0⟩
   obtain ⟨j3,u2,a2,v6,G8⟩:=g2.form (by decide)
   have Y:=N
   clear N
   subst a2
   have N:=Y
   clear Y
   refine zH J (by intro c h;cases h) (qA 1 (vs:=[.int .i64 ((zT j y_).kind),.string (zT j y_).name,.string (zT j y_).op,.int .i64 ((zT j y_).num),.int .i64 ((zT j y_).site),.slice F1 (zT j y_).args.length y1,.slice G1 (zT j y_).arms.length z1,.slice j3 ([s_]).length u2]) J N.toSees rfl rfl isAgg48 sizeOf48 rfl rfl) rfl fun a J=>?_
   refine jY J rfl rfl (by intro c h;cases h) (zQ 2 (cs:=[.int .i64 (s_.kind),.string s_.name,.string s_.op,.int .i64 (s_.num),.int .i64 (s_.site),.slice g3 s_.args.length r2,.slice h3 s_.arms.length s2,.slice i3 s_.body.length t2]) (vs:=[.int .i64 ((zT j y_).kind),.string (zT j y_).name,.string (zT j y_).op,.int .i64 ((zT j y_).num),.int .i64 ((zT j y_).site),.slice F1 (zT j y_).args.length y1,.slice G1 (zT j y_).arms.length z1,.slice j3 ([s_]).length u2]) J N rfl rfl rfl rfl sizeOf48 rfl rfl rfl fun w N a J=>?_)
   try dsimp only [zTE] at N
   replace N:=N.nf
   refine zY ?_
   replace N:=N.dl [1]
   exact ⟨rfl,s3,[.int .i64 ((zT j y_).kind),.string (zT j y_).name,.string (zT j y_).op,.int .i64 ((zT j y_).num),.int .i64 ((zT j y_).site),.slice F1 (zT j y_).args.length y1,.slice G1 (zT j y_).arms.length z1,.slice j3 ([s_]).length u2],(s.1).trans m,RTE.iff.2 ⟨_,_,_,rfl,J4,K4,A2,B2,g2⟩,N⟩
   replace g0:=g0.mono g
   replace f0:=f0.mono g
   replace RF:=RF.mono g
   replace v:=RTrc.mono _ _ _ _ g v
   replace l:=l.mono g
   replace A0:=A0.mono RTE.mono g
   replace e0:=e0.mono g
   replace h0:=RTE.mono _ _ _ _ g h0
   replace i0:=RFnd.mono _ _ _ _ g i0
   replace Gl:=Gl.mono g
   replace p0:=RTE.mono _ _ _ _ g p0
   replace I:=RTFn.mono _ _ _ _ g I
   replace H:=H.mono g
   replace u:=RTFn.mono _ _ _ _ g u
   replace a0:=RTE.mono _ _ _ _ g a0
   replace d0:=d0.mono RAtom.mono g
   replace j0:=j0.mono RTA.mono g
   replace k0:=k0.mono RTE.mono g
   replace b0:=b0.mono fun _ _ h=>RTE.mono _ _ _ _ g h
   replace U:=RTE.mono _ _ _ _ g U
   replace S:=S.mono g
   replace M:=RAtom.mono _ _ _ _ g M
   replace x0:=RTE.mono _ _ _ _ g x0
   replace N:Mem Ψr_ (.blk j2 (ob s6 48)::.blk l0 (ob [.map (some k)] 151)::.blk Z (ob [.int .i64 ((0:Nat):Int),.string ⟨#[]⟩,.string ⟨#[]⟩,.int .i64 ((0:Nat):Int),.int .i64 ((0:Nat):Int),.slice none 0 0,.slice none 0 0,.slice none 0 0] 48)::yA (Dk::[])++K) w:=Mem.mid (A:=[.blk Dk (.deferred (some []))]) (B:=[.blk j2 (ob s6 48),.blk l0 (ob [.map (some k)] 151),.blk Z (ob [.int .i64 ((0:Nat):Int),.string ⟨#[]⟩,.string ⟨#[]⟩,.int .i64 ((0:Nat):Int),.int .i64 ((0:Nat):Int),.slice none 0 0,.slice none 0 0,.slice none 0 0] 48)]) (C:=K) N
   replace N:=N.nm
   obtain ⟨c0,M2⟩:∃o_,o_=(vN u0 u0.length).foldl (fun c0 y_=>mO (zT j y_.2) c0) n3:=⟨_,rfl⟩
   rw [<- M2] at k1
   have O0:=k1
   obtain ⟨k3,v2,l3,w2,m3,x2,rfl,c7,d7,h370,h376,h382,R7,H8,S7,I8,T7,J8⟩:=RTE.fm k1
   try dsimp only [zTE] at N
   replace N:=N.nf
   refine go fun a J=>?_
   apply y4
   refine sqB fun H9 C4=>?_
   refine qY ?_
   refine Sto 2 fun w N a J=>?_
   refine go fun a J=>?_
   apply C4
   refine qY ?_
   refine go fun a J=>?_
   replace N:=N.dl [1,0]
   replace N:Mem Ψr_ (yA [Dk]++(.blk Z (ob [.int .i64 (c0.kind),.string c0.name,.string c0.op,.int .i64 (c0.num),.int .i64 (c0.site),.slice k3 c0.args.length v2,.slice l3 c0.arms.length w2,.slice m3 c0.body.length x2] 48)::K)) w:=Mem.mid (A:=[.blk Z (ob [.int .i64 (c0.kind),.string c0.name,.string c0.op,.int .i64 (c0.num),.int .i64 (c0.site),.slice k3 c0.args.length v2,.slice l3 c0.arms.length w2,.slice m3 c0.body.length x2] 48)]) (B:=yA [Dk]) (C:=K) N
   refine hQ _ _ _ (y8v (ds:=[Dk]) J results155 rfl isAgg48 (by exact sizeOf48) N fun w N=>?_)
   rw [q6m J1 f1 A1 rfl R4,<- M2]
   exact ⟨(Ψr_,[.int .i64 (c0.kind),.string c0.name,.string c0.op,.int .i64 (c0.num),.int .i64 (c0.site),.slice k3 c0.args.length v2,.slice l3 c0.arms.length w2,.slice m3 c0.body.length x2]),rfl,⟨(((((X).trans W).trans V).trans P).trans r.1).trans g,O0⟩,N⟩
  refine qY ?_
  try dsimp only [zTE] at N
  refine yN [1,1,2,1,1,2,1,2,0,1,2,1,1,2,2,0,1,0,0,0] (.q 0 (.q 1 (.q 2 (.q 3 (.q 4 (.q 5 (.q 6 (.q 7 (.q 9 (.q 10 (.q 11 (.q 12 (.q 13 (.q 14 (.e2 8 18 (.e2 15 18 (.q 16 (.e2 17 18 (.e 18 (.e 19 (.done))) (.e 17 (.e 19 (.done))))) (.e 15 (.q 16 (.e 17 (.e 19 (.done)))))) (.e 8 (.e 15 (.q 16 (.e 17 (.e 19 (.done))))))))))))))))))))) [0,1,2,3,4,5] J N fun w N=>?_
  refine go fun a J=>?_
  have Y:=N
  have o0:=J
  clear N J
  obtain ⟨q390,rfl⟩:=N5 (zO N3)
  have N:=Y
  have J:=o0
  clear Y o0
  obtain ⟨x391,r0⟩:=zW N3
  obtain ⟨D6,v7,F0,q0⟩:=A0.elem r0
  obtain ⟨p399,X9,p405,Y9,p411,Z9,rfl,e7,f7,h398,h404,h410,U7,K8,V7,L8,W7,M8⟩:=RTE.fm q0
  refine go fun a J=>?_
  refine kY ?_ ?_
  refine MkM fun A3 w N a J=>?_
  try dsimp only [zTE] at N
  replace N:=N.nf
  refine kY ?_ ?_
  refine aE J rfl rfl (pM 0 runUnderlying151 runUnderlying9 J N rfl rfl rfl rfl fun w N=>⟨fun _=>N.sn (Fz.Le.refl _),fun a J=>?_⟩)
  replace N:Mem s0 (.mp A3 (xZ (qJ [] e.name t0))::.blk Q0 (ob [.string t0.name,.int .i64 (t0.num)] 75)::.gs (B0) 48 8 H0::.blk l0 (ob [.map (some k)] 151)::.mp k (xZ j)::.blk Z (ob [.int .i64 ((0:Nat):Int),.string ⟨#[]⟩,.string ⟨#[]⟩,.int .i64 ((0:Nat):Int),.int .i64 ((0:Nat):Int),.slice none 0 0,.slice none 0 0,.slice none 0 0] 48)::.blk n0 (ob [.slice D0 path.length y0,.slice E0 up.length z0,.pointer (some C0)] 90)::K) w:=by rw [<- wH [] e.name t0];exact N
  refine go fun a J=>?_
  refine kY ?_ ?_
  refine d_e J rfl rfl rfl (wA J rfl call186 (oD RF (cI (GP.gd F hF)) (dL q1) q0 (aV (GP.sm hF hx) r0) N) (fun J0 V3 w P1 t N=>⟨fun _=>N.sn ((Fz.Le.refl _).trans (t.1)),fun a J=>?_⟩) (fun J0 w P1 N=>fun a hd=>hQ _ _ _ (oV [.blk Q0 (ob [.string t0.name,.int .i64 (t0.num)] 75),.gs (B0) 48 8 H0,.blk l0 (ob [.map (some k)] 151),.mp k (xZ j),.blk Z (ob [.int .i64 ((0:Nat):Int),.string ⟨#[]⟩,.string ⟨#[]⟩,.int .i64 ((0:Nat):Int),.int .i64 ((0:Nat):Int),.slice none 0 0,.slice none 0 0,.slice none 0 0] 48),.blk n0 (ob [.slice D0 path.length y0,.slice E0 up.length z0,.pointer (some C0)] 90)] (ds:=[]) hd N fun w N=>?_)))
  replace g0:=g0.mono t.1
  replace f0:=f0.mono t.1
  replace RF:=RF.mono t.1
  replace v:=RTrc.mono _ _ _ _ t.1 v
  replace l:=l.mono t.1
  replace e0:=e0.mono t.1
  replace h0:=RTE.mono _ _ _ _ t.1 h0
  replace i0:=RFnd.mono _ _ _ _ t.1 i0
  replace Gl:=Gl.mono t.1
  replace p0:=RTE.mono _ _ _ _ t.1 p0
  replace I:=RTFn.mono _ _ _ _ t.1 I
  replace H:=H.mono t.1
  replace u:=RTFn.mono _ _ _ _ t.1 u
  replace a0:=RTE.mono _ _ _ _ t.1 a0
  replace d0:=d0.mono RAtom.mono t.1
  replace j0:=j0.mono RTA.mono t.1
  replace k0:=k0.mono RTE.mono t.1
  replace b0:=b0.mono fun _ _ h=>RTE.mono _ _ _ _ t.1 h
  replace U:=RTE.mono _ _ _ _ t.1 U
  replace S:=S.mono t.1
  replace M:=RAtom.mono _ _ _ _ t.1 M
  replace F0:=F0.mono t.1
  replace q0:=RTE.mono _ _ _ _ t.1 q0
  have W1:=t.2
  obtain ⟨E6,w3⟩:∃x_,x_=V3.2:=⟨_,rfl⟩
  rw [<- w3] at W1 J
  have W4:=W1
  obtain ⟨U5,o5,V5,p5,W5,q5,rfl,g7,h7,h427,h433,h439,X7,N8,Y7,O8,Z7,P8⟩:=RTE.fm W1
  try dsimp only [zTE] at N
  replace N:=N.nf
  have y7:=(Fz.Le.refl _).trans t.1
  refine Alc fun j5 w N a J=>?_
  refine Sto 0 fun w N a J=>?_
  refine go fun a J=>?_
  replace N:=N.dl [6,1]
  exact n1 _ _ ⟨V3.1,j5,[.int .i64 (J0.kind),.string J0.name,.string J0.op,.int .i64 (J0.num),.int .i64 (J0.site),.slice U5 J0.args.length o5,.slice V5 J0.arms.length p5,.slice W5 J0.body.length q5],J0,J.pk,N,⟨t.1,⟨by rw [(kT r0)];exact P1,W4⟩⟩⟩
  try dsimp only [zTE] at N
  replace N:=N.nf
  replace N:=N.le (X)
  rw [aR J1 f1 A1 (kT r0) P1];exact ⟨rfl,N⟩
  refine Alc fun B3 w N a J=>?_
  replace N:=N.pl 1
  refine d_e J rfl rfl rfl (wA J rfl call186 (oD RF (cI (GP.gd F hF)) (dL q1) q0 (aV (GP.sm hF hx) r0) N) (fun K0 W3 w Q1 D N=>⟨fun _=>N.sn ((Fz.Le.refl _).trans (D.1)),fun a J=>?_⟩) (fun K0 w Q1 N=>fun a hd=>hQ _ _ _ (oV [.blk B3 (ob [.int .i64 ((0:Nat):Int),.string ⟨#[]⟩,.string ⟨#[]⟩,.int .i64 ((0:Nat):Int),.int .i64 ((0:Nat):Int),.slice none 0 0,.slice none 0 0,.slice none 0 0] 48),.blk Q0 (ob [.string t0.name,.int .i64 (t0.num)] 75),.gs (B0) 48 8 H0,.blk l0 (ob [.map (some k)] 151),.mp k (xZ j),.blk Z (ob [.int .i64 ((0:Nat):Int),.string ⟨#[]⟩,.string ⟨#[]⟩,.int .i64 ((0:Nat):Int),.int .i64 ((0:Nat):Int),.slice none 0 0,.slice none 0 0,.slice none 0 0] 48),.blk n0 (ob [.slice D0 path.length y0,.slice E0 up.length z0,.pointer (some C0)] 90)] (ds:=[]) hd N fun w N=>?_)))
  replace g0:=g0.mono D.1
  replace f0:=f0.mono D.1
  replace RF:=RF.mono D.1
  replace v:=RTrc.mono _ _ _ _ D.1 v
  replace l:=l.mono D.1
  replace e0:=e0.mono D.1
  replace h0:=RTE.mono _ _ _ _ D.1 h0
  replace i0:=RFnd.mono _ _ _ _ D.1 i0
  replace Gl:=Gl.mono D.1
  replace p0:=RTE.mono _ _ _ _ D.1 p0
  replace I:=RTFn.mono _ _ _ _ D.1 I
  replace H:=H.mono D.1
  replace u:=RTFn.mono _ _ _ _ D.1 u
  replace a0:=RTE.mono _ _ _ _ D.1 a0
  replace d0:=d0.mono RAtom.mono D.1
  replace j0:=j0.mono RTA.mono D.1
  replace k0:=k0.mono RTE.mono D.1
  replace b0:=b0.mono fun _ _ h=>RTE.mono _ _ _ _ D.1 h
  replace U:=RTE.mono _ _ _ _ D.1 U
  replace S:=S.mono D.1
  replace M:=RAtom.mono _ _ _ _ D.1 M
  replace F0:=F0.mono D.1
  replace q0:=RTE.mono _ _ _ _ D.1 q0
  have X1:=D.2
  obtain ⟨F6,x3⟩:∃x_,x_=W3.2:=⟨_,rfl⟩
  rw [<- x3] at X1 J
  have X4:=X1
  obtain ⟨X5,r5,Y5,s5,Z5,t5,rfl,i7,j7,h457,h463,h469,a8,Q8,b8,R8,c8,S8⟩:=RTE.fm X1
  try dsimp only [zTE] at N
  replace N:=N.nf
  refine Sto 0 fun w N a J=>?_
  refine go fun a J=>?_
  replace N:=N.dl [6,1]
  exact n1 _ _ ⟨W3.1,B3,[.int .i64 (K0.kind),.string K0.name,.string K0.op,.int .i64 (K0.num),.int .i64 (K0.site),.slice X5 K0.args.length r5,.slice Y5 K0.arms.length s5,.slice Z5 K0.body.length t5],K0,J.pk,N,⟨D.1,⟨by rw [(kT r0)];exact Q1,X4⟩⟩⟩
  try dsimp only [zTE] at N
  replace N:=N.nf
  replace N:=N.le (X)
  rw [aR J1 f1 A1 (kT r0) Q1];exact ⟨rfl,N⟩
  refine Alc fun l2 w N a J=>?_
  refine aE J rfl rfl (pM 1 runUnderlying151 runUnderlying9 J N rfl rfl rfl rfl fun w N=>⟨fun _=>N.sn (Fz.Le.refl _),fun a J=>?_⟩)
  replace N:Mem s0 (.blk l2 (ob [.int .i64 ((0:Nat):Int),.string ⟨#[]⟩,.string ⟨#[]⟩,.int .i64 ((0:Nat):Int),.int .i64 ((0:Nat):Int),.slice none 0 0,.slice none 0 0,.slice none 0 0] 48)::.mp A3 (xZ (qJ [] e.name t0))::.blk Q0 (ob [.string t0.name,.int .i64 (t0.num)] 75)::.gs (B0) 48 8 H0::.blk l0 (ob [.map (some k)] 151)::.mp k (xZ j)::.blk Z (ob [.int .i64 ((0:Nat):Int),.string ⟨#[]⟩,.string ⟨#[]⟩,.int .i64 ((0:Nat):Int),.int .i64 ((0:Nat):Int),.slice none 0 0,.slice none 0 0,.slice none 0 0] 48)::.blk n0 (ob [.slice D0 path.length y0,.slice E0 up.length z0,.pointer (some C0)] 90)::K) w:=by rw [<- wH [] e.name t0];exact N
  refine go fun a J=>?_
  replace N:=N.pl 1
  refine d_e J rfl rfl rfl (wA J rfl call186 (oD RF (cI (GP.gd F hF)) (dL q1) q0 (aV (GP.sm hF hx) r0) N) (fun L0 X3 w R1 E N=>⟨fun _=>N.sn ((Fz.Le.refl _).trans (E.1)),fun a J=>?_⟩) (fun L0 w R1 N=>fun a hd=>hQ _ _ _ (oV [.blk l2 (ob [.int .i64 ((0:Nat):Int),.string ⟨#[]⟩,.string ⟨#[]⟩,.int .i64 ((0:Nat):Int),.int .i64 ((0:Nat):Int),.slice none 0 0,.slice none 0 0,.slice none 0 0] 48),.blk Q0 (ob [.string t0.name,.int .i64 (t0.num)] 75),.gs (B0) 48 8 H0,.blk l0 (ob [.map (some k)] 151),.mp k (xZ j),.blk Z (ob [.int .i64 ((0:Nat):Int),.string ⟨#[]⟩,.string ⟨#[]⟩,.int .i64 ((0:Nat):Int),.int .i64 ((0:Nat):Int),.slice none 0 0,.slice none 0 0,.slice none 0 0] 48),.blk n0 (ob [.slice D0 path.length y0,.slice E0 up.length z0,.pointer (some C0)] 90)] (ds:=[]) hd N fun w N=>?_)))
  replace g0:=g0.mono E.1
  replace f0:=f0.mono E.1
  replace RF:=RF.mono E.1
  replace v:=RTrc.mono _ _ _ _ E.1 v
  replace l:=l.mono E.1
  replace e0:=e0.mono E.1
  replace h0:=RTE.mono _ _ _ _ E.1 h0
  replace i0:=RFnd.mono _ _ _ _ E.1 i0
  replace Gl:=Gl.mono E.1
  replace p0:=RTE.mono _ _ _ _ E.1 p0
  replace I:=RTFn.mono _ _ _ _ E.1 I
  replace H:=H.mono E.1
  replace u:=RTFn.mono _ _ _ _ E.1 u
  replace a0:=RTE.mono _ _ _ _ E.1 a0
  replace d0:=d0.mono RAtom.mono E.1
  replace j0:=j0.mono RTA.mono E.1
  replace k0:=k0.mono RTE.mono E.1
  replace b0:=b0.mono fun _ _ h=>RTE.mono _ _ _ _ E.1 h
  replace U:=RTE.mono _ _ _ _ E.1 U
  replace S:=S.mono E.1
  replace M:=RAtom.mono _ _ _ _ E.1 M
  replace F0:=F0.mono E.1
  replace q0:=RTE.mono _ _ _ _ E.1 q0
  have Y1:=E.2
  obtain ⟨G6,y3⟩:∃x_,x_=X3.2:=⟨_,rfl⟩
  rw [<- y3] at Y1 J
  have Y4:=Y1
  obtain ⟨a6,u5,b6,v5,c6,w5,rfl,k7,l7,h486,h492,h498,d8,T8,e8,U8,f8,V8⟩:=RTE.fm Y1
  try dsimp only [zTE] at N
  replace N:=N.nf
  refine Sto 0 fun w N a J=>?_
  refine go fun a J=>?_
  replace N:=N.dl [6,1]
  exact n1 _ _ ⟨X3.1,l2,[.int .i64 (L0.kind),.string L0.name,.string L0.op,.int .i64 (L0.num),.int .i64 (L0.site),.slice a6 L0.args.length u5,.slice b6 L0.arms.length v5,.slice c6 L0.body.length w5],L0,J.pk,N,⟨E.1,⟨by rw [(kT r0)];exact R1,Y4⟩⟩⟩
  try dsimp only [zTE] at N
  replace N:=N.nf
  replace N:=N.le (X)
  rw [aR J1 f1 A1 (kT r0) R1];exact ⟨rfl,N⟩
  refine Alc fun m2 w N a J=>?_
  refine MkM fun k5 w N a J=>?_
  try dsimp only [zTE] at N
  replace N:=N.nf
  refine aE J rfl rfl (pM 0 runUnderlying151 runUnderlying9 J N rfl rfl rfl rfl fun w N=>⟨fun _=>N.sn (Fz.Le.refl _),fun a J=>?_⟩)
  replace N:Mem s0 (.mp k5 (xZ (qJ [] e.name t0))::.blk m2 (ob [.int .i64 ((0:Nat):Int),.string ⟨#[]⟩,.string ⟨#[]⟩,.int .i64 ((0:Nat):Int),.int .i64 ((0:Nat):Int),.slice none 0 0,.slice none 0 0,.slice none 0 0] 48)::.blk Q0 (ob [.string t0.name,.int .i64 (t0.num)] 75)::.gs (B0) 48 8 H0::.blk l0 (ob [.map (some k)] 151)::.mp k (xZ j)::.blk Z (ob [.int .i64 ((0:Nat):Int),.string ⟨#[]⟩,.string ⟨#[]⟩,.int .i64 ((0:Nat):Int),.int .i64 ((0:Nat):Int),.slice none 0 0,.slice none 0 0,.slice none 0 0] 48)::.blk n0 (ob [.slice D0 path.length y0,.slice E0 up.length z0,.pointer (some C0)] 90)::K) w:=by rw [<- wH [] e.name t0];exact N
  refine go fun a J=>?_
  refine d_e J rfl rfl rfl (wA J rfl call186 (oD RF (cI (GP.gd F hF)) (dL q1) q0 (aV (GP.sm hF hx) r0) N) (fun M0 Y3 w S1 L N=>⟨fun _=>N.sn ((Fz.Le.refl _).trans (L.1)),fun a J=>?_⟩) (fun M0 w S1 N=>fun a hd=>hQ _ _ _ (oV [.blk m2 (ob [.int .i64 ((0:Nat):Int),.string ⟨#[]⟩,.string ⟨#[]⟩,.int .i64 ((0:Nat):Int),.int .i64 ((0:Nat):Int),.slice none 0 0,.slice none 0 0,.slice none 0 0] 48),.blk Q0 (ob [.string t0.name,.int .i64 (t0.num)] 75),.gs (B0) 48 8 H0,.blk l0 (ob [.map (some k)] 151),.mp k (xZ j),.blk Z (ob [.int .i64 ((0:Nat):Int),.string ⟨#[]⟩,.string ⟨#[]⟩,.int .i64 ((0:Nat):Int),.int .i64 ((0:Nat):Int),.slice none 0 0,.slice none 0 0,.slice none 0 0] 48),.blk n0 (ob [.slice D0 path.length y0,.slice E0 up.length z0,.pointer (some C0)] 90)] (ds:=[]) hd N fun w N=>?_)))
  replace g0:=g0.mono L.1
  replace f0:=f0.mono L.1
  replace v:=RTrc.mono _ _ _ _ L.1 v
  replace l:=l.mono L.1
  replace e0:=e0.mono L.1
  replace h0:=RTE.mono _ _ _ _ L.1 h0
  replace i0:=RFnd.mono _ _ _ _ L.1 i0
  replace Gl:=Gl.mono L.1
  replace p0:=RTE.mono _ _ _ _ L.1 p0
  replace I:=RTFn.mono _ _ _ _ L.1 I
  replace H:=H.mono L.1
  replace u:=RTFn.mono _ _ _ _ L.1 u
  replace a0:=RTE.mono _ _ _ _ L.1 a0
  replace d0:=d0.mono RAtom.mono L.1
  replace j0:=j0.mono RTA.mono L.1
  replace k0:=k0.mono RTE.mono L.1
  replace b0:=b0.mono fun _ _ h=>RTE.mono _ _ _ _ L.1 h
  replace U:=RTE.mono _ _ _ _ L.1 U
  replace S:=S.mono L.1
  replace M:=RAtom.mono _ _ _ _ L.1 M
  replace F0:=F0.mono L.1
  replace q0:=RTE.mono _ _ _ _ L.1 q0
  have Z1:=L.2
  obtain ⟨H6,z3⟩:∃x_,x_=Y3.2:=⟨_,rfl⟩
  rw [<- z3] at Z1 J
  have Z4:=Z1
  obtain ⟨d6,x5,e6,y5,f6,z5,rfl,m7,n7,h516,h522,h528,g8,W8,h8,X8,i8,Y8⟩:=RTE.fm Z1
  try dsimp only [zTE] at N
  replace N:=N.nf
  refine Sto 0 fun w N a J=>?_
  refine go fun a J=>?_
  replace N:=N.dl [6,1]
  exact n1 _ _ ⟨Y3.1,m2,[.int .i64 (M0.kind),.string M0.name,.string M0.op,.int .i64 (M0.num),.int .i64 (M0.site),.slice d6 M0.args.length x5,.slice e6 M0.arms.length y5,.slice f6 M0.body.length z5],M0,J.pk,N,⟨L.1,⟨by rw [(kT r0)];exact S1,Z4⟩⟩⟩
  try dsimp only [zTE] at N
  replace N:=N.nf
  replace N:=N.le (X)
  rw [aR J1 f1 A1 (kT r0) S1];exact ⟨rfl,N⟩
 refine sqB fun I9 G2=>?_
 refine qY ?_
 refine go fun a J=>?_
 rcases r1:jJ (xZ j) d1.name with _ | j9
 have s1:=congrArg (zZ true (.agg #[.string ⟨#[]⟩,.int .i64 0])) r1
 refine Qq (fun a J=>?_) (o:=by exact fun J O=>Ok.cast (yZ 5 runUnderlying151 runUnderlying9 zeroValue75 J O rfl rfl rfl) (show zZ true (.agg #[.string ⟨#[]⟩,.int .i64 0]) (jJ (xZ j) d1.name)=.tuple #[.agg #[.string ⟨#[]⟩,.int .i64 ((0:Nat):Int)],.bool false] from s1))
 refine Alc fun Q9 w N a J=>?_
 refine Sto 0 fun w N a J=>?_
 refine go fun a J=>?_
 apply G2
 refine sqB fun J9 D4=>?_
 refine qY ?_
 refine go fun a J=>?_
 apply D4
 refine qY ?_
 refine go fun a J=>?_
 replace N:=N.dl [7,4,3,0]
 exact L1 _ _ ⟨d1,J.pk,N,⟨(show mM j (xD f 0)=_ from by rw [qX u1];exact x1c r1),K2⟩⟩
 obtain ⟨r3,b3,rfl⟩:=y2m r1
 have s1:=congrArg (zZ true (.agg #[.string ⟨#[]⟩,.int .i64 0])) r1
 refine Qq (fun a J=>?_) (o:=by exact fun J O=>Ok.cast (yZ 5 runUnderlying151 runUnderlying9 zeroValue75 J O rfl rfl rfl) (show zZ true (.agg #[.string ⟨#[]⟩,.int .i64 0]) (jJ (xZ j) d1.name)=.tuple #[.agg #[.string r3.name,.int .i64 (r3.num)],.bool true] from s1))
 refine Alc fun R9 w N a J=>?_
 refine Sto 0 fun w N a J=>?_
 refine go fun a J=>?_
 apply G2
 refine sqB fun K9 H2=>?_
 refine qY ?_
 by_cases E3:d1.name=(⟨#[]⟩:Bs)
 refine go fun a J=>?_
 apply H2
 refine qY ?_
 refine go fun a J=>?_
 replace N:=N.dl [7,4,3,0]
 exact L1 _ _ ⟨d1,J.pk,N,⟨(show mM j (xD f 0)=_ from by rw [qX u1];exact j0q (show d1.name=sNo from E3)),K2⟩⟩
 refine go fun a J=>?_
 apply H2
 refine qY ?_
 refine Sto 1 fun w N a J=>?_
 refine go fun a J=>?_
 replace N:=N.dl [7,4,3,0]
 exact L1 _ _ ⟨r3,J.pk,N,⟨(show mM j (xD f 0)=_ from by rw [qX u1];exact j4t (show ¬d1.name=sNo from E3) b3),C1 _ (z2h b3)⟩⟩
 refine goJ 21 fun a J=>?_
 refine sq fun g5 E4=>?_
 have o1:∀a w,(EnvR 209 [(0,.pointer (some pf)),(2,.int .i64 (num)),(4,.pointer (some ⟨n0,0,none⟩)),(6,.pointer (some ⟨Z,0,none⟩)),(8,.pointer (some ⟨l0,0,none⟩)),(11,.map (some I0)),(16,B0),(17,.pointer (some ⟨i1,0,none⟩))] [] a/\Mem s0 (.gs (B0) 48 8 H0::.blk i1 (ob [.int .i64 (f.kind),.string f.name,.string f.op,.int .i64 (f.num),.int .i64 (f.site),.slice D1 f.args.length w1,.slice E1 f.arms.length x1,.slice i2 f.body.length c2] 48)::.mp I0 (aP e1)::.blk l0 (ob [.map (some k)] 151)::.mp k (xZ j)::.blk b1 (ob [.string d.name,.bool d.chg,.slice h1 d.params.length c1,.int .i64 (d.body.kind),.string d.body.name,.string d.body.op,.int .i64 (d.body.num),.int .i64 (d.body.site),.slice V0 d.body.args.length c143,.slice X0 d.body.arms.length R0,.slice Y0 d.body.body.length S0] 50)::.blk Z (ob [.int .i64 ((0:Nat):Int),.string ⟨#[]⟩,.string ⟨#[]⟩,.int .i64 ((0:Nat):Int),.int .i64 ((0:Nat):Int),.slice none 0 0,.slice none 0 0,.slice none 0 0] 48)::.blk n0 (ob [.slice D0 path.length y0,.slice E0 up.length z0,.pointer (some C0)] 90)::K) w/\(y6k f.kind=true))->g5 a w:=by
  clear N J
  rintro a w ⟨J,N,E2⟩
  apply E4
  refine Qq (fun a J=>?_) (o:=by exact fun J O=>mR 0 (u0.length) J O rfl rfl (by rw [b0.length]) (by decide) runUnderlying46)
  refine Qq (fun a J=>?_) (o:=by exact fun J O=>tJ ((num+((u0.length:Nat):Int))) J rfl rfl (I64.wrap (by unfold I64;omega)))
  refine zF call192 (fun w N a J=>?_) (c:=j0a (by unfold I64;omega) Gl.tabs N)
  refine Qq (fun a J=>?_) (o:=by exact fun J O=>y_sadd J rfl rfl (by have h_:=z0l (n:=num+((u0.length:Nat):Int)) (by unfold I64;omega);have a4:(⟨#[111]⟩:Bs).size=1:=rfl;omega))
  refine Qq (fun a J=>?_) (o:=by exact fun J O=>y_sadd J rfl rfl (by have h_:=z0l (n:=num+((u0.length:Nat):Int)) (by unfold I64;omega);have a4:(⟨#[111]⟩:Bs).size=1:=rfl;have b4:(⟨#[39,48]⟩:Bs).size=2:=rfl;rw [ByteArray.size_append];omega))
  refine go fun a J=>?_
  rw [show (((⟨#[111]⟩:Bs)++(q1m (num+((u0.length:Nat):Int))))++(⟨#[39,48]⟩:Bs))=dK (num+((u0.length:Nat):Int)) from rfl] at J
  refine Qq (fun a J=>?_) (o:=by exact fun J O=>Ok.cast (yZ 2 runUnderlying99 runUnderlying9 zeroValue4 J O rfl rfl rfl) (y2r e1 (dK (num+((u0.length:Nat):Int)))))
  refine go fun a J=>?_
  refine st J rfl rfl rfl (aZ J rfl call188 (xU (b:=(!((yC e1 (dK (num+((u0.length:Nat):Int)))).getD false))) N) (fun m6 w T1 N a J=>?_) (fun m6 w T1 N=>fun a hd=>hQ _ _ _ (oV [.gs (B0) 48 8 H0,.blk i1 (ob [.int .i64 (f.kind),.string f.name,.string f.op,.int .i64 (f.num),.int .i64 (f.site),.slice D1 f.args.length w1,.slice E1 f.arms.length x1,.slice i2 f.body.length c2] 48),.mp I0 (aP e1),.blk l0 (ob [.map (some k)] 151),.mp k (xZ j),.blk b1 (ob [.string d.name,.bool d.chg,.slice h1 d.params.length c1,.int .i64 (d.body.kind),.string d.body.name,.string d.body.op,.int .i64 (d.body.num),.int .i64 (d.body.site),.slice V0 d.body.args.length c143,.slice X0 d.body.arms.length R0,.slice Y0 d.body.body.length S0] 50),.blk Z (ob [.int .i64 ((0:Nat):Int),.string ⟨#[]⟩,.string ⟨#[]⟩,.int .i64 ((0:Nat):Int),.int .i64 ((0:Nat):Int),.slice none 0 0,.slice none 0 0,.slice none 0 0] 48),.blk n0 (ob [.slice D0 path.length y0,.slice E0 up.length z0,.pointer (some C0)] 90)] (ds:=[]) hd N fun w N=>?_)))
  refine yE fun a J=>?_
  refine uF 4 runUnderlying151 runUnderlying9 fun w N a J=>?_
  replace N:Mem s0 (.gs (B0) 48 8 H0::.blk i1 (ob [.int .i64 (f.kind),.string f.name,.string f.op,.int .i64 (f.num),.int .i64 (f.site),.slice D1 f.args.length w1,.slice E1 f.arms.length x1,.slice i2 f.body.length c2] 48)::.mp I0 (aP e1)::.blk l0 (ob [.map (some k)] 151)::.mp k (xZ (qJ j f.name (⟨(dK (num+((u0.length:Nat):Int))),((0:Nat):Int)⟩:Atom)))::.blk b1 (ob [.string d.name,.bool d.chg,.slice h1 d.params.length c1,.int .i64 (d.body.kind),.string d.body.name,.string d.body.op,.int .i64 (d.body.num),.int .i64 (d.body.site),.slice V0 d.body.args.length c143,.slice X0 d.body.arms.length R0,.slice Y0 d.body.body.length S0] 50)::.blk Z (ob [.int .i64 ((0:Nat):Int),.string ⟨#[]⟩,.string ⟨#[]⟩,.int .i64 ((0:Nat):Int),.int .i64 ((0:Nat):Int),.slice none 0 0,.slice none 0 0,.slice none 0 0] 48)::.blk n0 (ob [.slice D0 path.length y0,.slice E0 up.length z0,.pointer (some C0)] 90)::K) w:=by rw [<- wH j f.name (⟨(dK (num+((u0.length:Nat):Int))),((0:Nat):Int)⟩:Atom)];exact N
  refine Alc fun S9 w N a J=>?_
  refine Sto 0 fun w N a J=>?_
  refine Sto 0 fun w N a J=>?_
  refine Sto 0 fun w N a J=>?_
  refine qG fun v557 w N a J=>?_
  refine vL 2 rt_46 (fun q6 w N a J=>?_) (hb:=by have h_:=b0.length;have a4:=nF f;simp only [lcQ,lnQ];omega)
  refine go fun a J=>?_
  have I3:0 < f.body.length:=by have h_:=j3u E2;have a4:=D5.ar.rest (by omega) (by omega);omega
  have Y:=N
  have o0:=J
  clear N J
  obtain ⟨q559,rfl⟩:=P4 (zO I3)
  have N:=Y
  have J:=o0
  clear Y o0
  obtain ⟨N0,a1⟩:=zW I3
  obtain ⟨I6,w7,T6,S2⟩:=k0.elem a1
  obtain ⟨g6,A5,h6,B5,i6,C5,rfl,o7,p7,h567,h573,h579,j8,Z8,k8,a9,l8,b9⟩:=RTE.fm S2
  refine Sto 3 fun w N a J=>?_
  refine go fun a J=>?_
  replace N:=N.dl [1,0]
  refine u4 (zC N0) _ _ (by subst L2;have h_:=kD (mgQ a1);omega) ⟨((k_ - 1)),(N0),([.int .i64 (N0.kind),.string N0.name,.string N0.op,.int .i64 (N0.num),.int .i64 (N0.site),.slice g6 N0.args.length A5,.slice h6 N0.arms.length B5,.slice i6 N0.body.length C5]),((qJ j f.name (⟨(dK (num+((u0.length:Nat):Int))),((0:Nat):Int)⟩:Atom))),(u0++[inlY num u0 f]),(q6),((H0++[.int .i64 (f.kind),.string (dK (num+((u0.length:Nat):Int))),.string f.op,.int .i64 (f.num),.int .i64 (f.site),.slice D1 f.args.length w1,.slice E1 f.arms.length x1,.slice none 0 0])),rfl,⟨J.pk,by exact N⟩,?_⟩
  have hlt_:=kD (mgQ a1)
  exact ⟨(by rw [<- (kT a1)];exact x0b t1 h2 j1 E2 (by have h_:=zD T1;rw [N2] at h_;simpa using h_)),by omega,by rw [laQ,List.length_singleton];omega,nI K3 (mgQ a1),aV P3 a1,(fun y_ d9=>(List.mem_append.1 d9).elim (O3 y_) fun h_=>by rw [List.mem_singleton] at h_;rw [h_];exact smT_inl P3),lput_nm C1,b0.append (yQ rfl (RTE.iff.2 ⟨_,_,_,rfl,H4,I4,d0,j0,SliceOf.nil _⟩)),S2⟩
  replace N:=N.le (X)
  rw [z8u J1 (inl_no2 t1 h2 j1 (by have h_:=zP T1;rw [N2] at h_;simpa using h_))];exact ⟨rfl,N⟩
 by_cases F3:f.kind=1
 refine zF call188 (fun w N a J=>?_) (c:=xU (b:=true) N)
 refine go fun a J=>?_
 exact o1 _ _ ⟨J.pk,N,(show y6k f.kind=true from decide_eq_true (by simp [F3]))⟩
 by_cases G3:f.kind=2
 refine zF call188 (fun w N a J=>?_) (c:=xU (b:=true) N)
 refine go fun a J=>?_
 exact o1 _ _ ⟨J.pk,N,(show y6k f.kind=true from decide_eq_true (by simp [G3]))⟩
 by_cases H3:f.kind=3
 refine zF call188 (fun w N a J=>?_) (c:=xU (b:=true) N)
 refine go fun a J=>?_
 exact o1 _ _ ⟨J.pk,N,(show y6k f.kind=true from decide_eq_true (by simp [H3]))⟩
 refine Qq (fun a J=>?_) (o:=by exact fun J O=>vW J rfl rfl)
 refine go fun a J=>?_
 refine st J rfl rfl rfl (aZ J rfl call188 (xU (b:=(decide (f.kind=6))) N) (fun n6 w U1 N a J=>?_) (fun n6 w U1 N=>fun a hd=>hQ _ _ _ (oV [.gs (B0) 48 8 H0,.blk i1 (ob [.int .i64 (f.kind),.string f.name,.string f.op,.int .i64 (f.num),.int .i64 (f.site),.slice D1 f.args.length w1,.slice E1 f.arms.length x1,.slice i2 f.body.length c2] 48),.mp I0 (aP e1),.blk l0 (ob [.map (some k)] 151),.mp k (xZ j),.blk b1 (ob [.string d.name,.bool d.chg,.slice h1 d.params.length c1,.int .i64 (d.body.kind),.string d.body.name,.string d.body.op,.int .i64 (d.body.num),.int .i64 (d.body.site),.slice V0 d.body.args.length c143,.slice X0 d.body.arms.length R0,.slice Y0 d.body.body.length S0] 50),.blk Z (ob [.int .i64 ((0:Nat):Int),.string ⟨#[]⟩,.string ⟨#[]⟩,.int .i64 ((0:Nat):Int),.int .i64 ((0:Nat):Int),.slice none 0 0,.slice none 0 0,.slice none 0 0] 48),.blk n0 (ob [.slice D0 path.length y0,.slice E0 up.length z0,.pointer (some C0)] 90)] (ds:=[]) hd N fun w N=>?_)))
 refine go fun a J=>?_
 exact o1 _ _ ⟨J.pk,N,(show y6k f.kind=true from decide_eq_true (by simp [of_decide_eq_true (zD U1)]))⟩
 replace N:=N.le (X)
 rw [z8u J1 (inl_no1 t1 h2 j1 (decide_eq_false (by simp [j1,F3,G3,H3,of_decide_eq_false (zP U1)])))];exact ⟨rfl,N⟩
 try dsimp only [zTE] at N
 replace N:=N.nf
 refine go fun a J=>?_
 apply F2
 refine sqB fun L9 F4=>?_
 refine qY ?_
 refine Qq (fun a J=>?_) (o:=by exact fun J O=>vW J rfl rfl)
 refine st J rfl rfl rfl (aZ J rfl call188 (xU (b:=(decide (q3.1=0))) N) (fun o6 w Q2 N a J=>?_) (fun o6 w Q2 N=>fun a hd=>hQ _ _ _ (oV [.mp I0 (aP []),.blk l0 (ob [.map (some k)] 151),.mp k (xZ ml),.blk b1 (ob [.string d.name,.bool d.chg,.slice h1 d.params.length c1,.int .i64 (d.body.kind),.string d.body.name,.string d.body.op,.int .i64 (d.body.num),.int .i64 (d.body.site),.slice V0 d.body.args.length c143,.slice X0 d.body.arms.length R0,.slice Y0 d.body.body.length S0] 50),.blk Z (ob [.int .i64 ((0:Nat):Int),.string ⟨#[]⟩,.string ⟨#[]⟩,.int .i64 ((0:Nat):Int),.int .i64 ((0:Nat):Int),.slice none 0 0,.slice none 0 0,.slice none 0 0] 48),.blk n0 (ob [.slice D0 path.length y0,.slice E0 up.length z0,.pointer (some C0)] 90)] (ds:=[]) hd N fun w N=>?_)))
 refine go fun a J=>?_
 apply F4
 refine sqB fun M9 O6=>?_
 refine sqB fun N9 P6=>?_
 refine qY ?_
 refine go fun a J=>?_
 exact absurd (of_decide_eq_true (zD Q2)) q3.2
 rw [q1j N1 Z0 (yL O1)];exact ⟨rfl,N⟩
 rw [z8v (fun h_=>(of_decide_eq_false (zP M1)) h_.2)];exact ⟨rfl,N⟩
 refine go fun a J=>?_
 refine st J rfl rfl rfl (cA J rfl call188 (xU (b:=false) N) (fun w N=>fun a hd=>hQ _ _ _ (oV [.blk Z (ob [.int .i64 ((0:Nat):Int),.string ⟨#[]⟩,.string ⟨#[]⟩,.int .i64 ((0:Nat):Int),.int .i64 ((0:Nat):Int),.slice none 0 0,.slice none 0 0,.slice none 0 0] 48),.blk n0 (ob [.slice D0 path.length y0,.slice E0 up.length z0,.pointer (some C0)] 90)] (ds:=[]) hd N fun w N=>?_)))
 rw [z8v (fun h_=>D3 h_.1)];exact ⟨rfl,N⟩
theorem j1d {Φ:Fz} {K:List Res} {w:World} {pf:Addr} {T:Trc} {F:TFn} {c:List Value} {path:List Int} {up:List TE} {e:TE} {num r:Int} (RF:RFnO Φ pf T F) (GP:GoodP T) (b:F∈T.funs) (d:(⟨path,up,e⟩:Fnd)∈zE [] [] F.body) (rf:RFnd Φ c ⟨path,up,e⟩) (G:Glob Φ) (i:r=1∨r=2∨r=3∨r=4∨r=5∨r=6) (N:Mem Φ K w) :
  Calls prog 69 #[.pointer (some pf),.int .i64 r,.agg c.toArray,.int .i64 num] w (fun ee w'=>Out (xL (FnS.try6 ⟨T,F⟩ r e up path num)) (fun z=>∃q:Fz×List Value,ee=.returned (.tuple #[.agg q.2.toArray,.bool true])/\(Φ.Le q.1/\RTE q.1 q.2 z)/\Mem q.1 K w') (fun _=>ee=.returned (.tuple #[.agg zTE.toArray,.bool false])/\Mem Φ K w')):=by
 by_cases f:r=6
 subst f
 cases a:FnS.may ⟨T,F⟩ 6 e up with
 | false=>
  rw [show FnS.try6 ⟨T,F⟩ 6 e up path num=none from by unfold FnS.try6;rw [if_pos rfl,a];rfl]
  exact j1e RF GP b d rf a N
 | true=>
  have g:e.kind=3:=by have h:=a;unfold FnS.may at h;simp at h;exact h
  rw [show FnS.try6 ⟨T,F⟩ 6 e up path num=FnS.inline ⟨T,F⟩ e num from by unfold FnS.try6;rw [if_pos rfl,a];rfl]
  exact uA RF GP b d rf a rfl call155 (fun K w N=>j3w RF GP b d rf G g N) N
 rw [show FnS.try6 ⟨T,F⟩ r e up path num=FnS.try5 ⟨T,F⟩ r e up path from by unfold FnS.try6;rw [if_neg f]]
 exact j1c RF GP b d rf G (by omega) N
theorem y9m {Φ:Fz} {K:List Res} {w:World} {tc rc:List Value} {T:Trc} {ru fn nu:Int} {path:List Int} (M2:RTrc Φ tc T) (GP:GoodP T) (rx:RRw Φ rc ⟨ru,fn,path,nu⟩) (G:Glob Φ) (N:Mem Φ K w) :
  Calls prog 33 #[.agg tc.toArray,.agg rc.toArray] w (fun ee w'=>Out (jW T ⟨ru,fn,path,nu⟩) (fun U=>∃q:Fz×List Value,ee=.returned (.tuple #[.agg q.2.toArray,.int .i64 0])/\(Φ.Le q.1/\RTrc q.1 q.2 U)/\Mem q.1 K w') (fun c=>ee=.returned (.tuple #[.agg zTrc.toArray,.int .i64 c])/\Mem Φ K w')):=by
 have b:=M2
 obtain ⟨p3,c4,p9,d0,w5,h3,j0,c22,rfl,i1,h2,h8,A,s,G7,H7,P6,S6,Q6,T6,R6,U6⟩:=RTrc.fm M2
 have Gl:=G
 have F3:=GP.fit
 obtain ⟨I7,w2,a1,X6,Y6,Z6,d⟩:=rx
 subst w2
 obtain ⟨x5,i3,rfl,G4,V6⟩:=d.fm
 refine zJ func33 ntmps33 fun Q hQ a J=>?_
 refine Bx fun Y1 w N a J=>?_
 refine Bx fun Z1 w N a J=>?_
 refine Alc fun a2 w N a J=>?_
 by_cases v3:ru < 1
 refine yE fun a J=>?_
 refine Sto 0 fun w N a J=>?_
 refine go fun a J=>?_
 have g:=N
 replace N:=N.dl [2,1,0]
 refine hQ _ _ _ (qO (i:=0) (cs:=[.slice none 0 0,.slice none 0 0,.slice none 0 0,.slice none 0 0]) J g.toSees results33 rfl rfl isAgg26 sizeOf26 rfl rfl ?_)
 replace N:=N.le (Fz.Le.refl _)
 rw [q8q (.inl v3)];exact ⟨rfl,N⟩
 by_cases E7:7 < ru
 refine yE fun a J=>?_
 refine Sto 0 fun w N a J=>?_
 refine go fun a J=>?_
 have g:=N
 replace N:=N.dl [2,1,0]
 refine hQ _ _ _ (qO (i:=0) (cs:=[.slice none 0 0,.slice none 0 0,.slice none 0 0,.slice none 0 0]) J g.toSees results33 rfl rfl isAgg26 sizeOf26 rfl rfl ?_)
 replace N:=N.le (Fz.Le.refl _)
 rw [q8q (.inr (by omega))];exact ⟨rfl,N⟩
 by_cases w3:fn < 0
 refine yE fun a J=>?_
 refine Sto 0 fun w N a J=>?_
 refine go fun a J=>?_
 have g:=N
 replace N:=N.dl [2,1,0]
 refine hQ _ _ _ (qO (i:=0) (cs:=[.slice none 0 0,.slice none 0 0,.slice none 0 0,.slice none 0 0]) J g.toSees results33 rfl rfl isAgg26 sizeOf26 rfl rfl ?_)
 replace N:=N.le (Fz.Le.refl _)
 rw [ap_fn (by omega) (.inl w3)];exact ⟨rfl,N⟩
 refine go fun a J=>?_
 by_cases F7:((T.funs.length:Nat):Int)<=fn
 refine yE fun a J=>?_
 refine Sto 0 fun w N a J=>?_
 refine go fun a J=>?_
 have g:=N
 replace N:=N.dl [2,1,0]
 refine hQ _ _ _ (qO (i:=0) (cs:=[.slice none 0 0,.slice none 0 0,.slice none 0 0,.slice none 0 0]) J g.toSees results33 rfl rfl isAgg26 sizeOf26 rfl rfl ?_)
 replace N:=N.le (Fz.Le.refl _)
 rw [ap_fn (by omega) (.inr (by omega))];exact ⟨rfl,N⟩
 refine go fun a J=>?_
 have B0:=N
 have H1:=J
 clear N J
 obtain ⟨n_,rfl⟩:∃n_:Nat,fn=(n_:Int):=⟨fn.toNat,by omega⟩
 have N:=B0
 have J:=H1
 clear B0 H1
 have X:n_ < T.funs.length:=by omega
 obtain ⟨H,t⟩:=zW X
 have n0:=mgQ t
 have L:¬(ru < 1∨7 < ru):=by omega
 refine yF call26 (fun K7 w k N a J=>?_) (c:=z2b b N)
 replace h2:=h2.mono RTCon.mono k.1
 replace h8:=h8.mono RStr.mono k.1
 replace A:=A.mono RTFn.mono k.1
 replace s:=s.mono RStr.mono k.1
 replace b:=RTrc.mono _ _ _ _ k.1 b
 replace Gl:=Gl.mono k.1
 replace d:=d.mono RInt.mono k.1
 have ROP49:=k.2
 replace N:=N.nf
 by_cases P:ru=7
 by_cases r2:0 < path.length
 refine yE fun a J=>?_
 refine Sto 0 fun w N a J=>?_
 refine go fun a J=>?_
 have g:=N
 replace N:=N.dl [2,1,0]
 refine hQ _ _ _ (qO (i:=0) (cs:=[.slice none 0 0,.slice none 0 0,.slice none 0 0,.slice none 0 0]) J g.toSees results33 rfl rfl isAgg26 sizeOf26 rfl rfl ?_)
 replace N:=N.le (k.1)
 rw [uT P X (.inl (zO r2))];exact ⟨rfl,N⟩
 by_cases s2:nu=0
 refine zF call49 (fun w N a J=>?_) (c:=q0n ROP49 t GP.fit N)
 refine go fun a J=>?_
 generalize G1:(!(vG T n_))=d2 at J
 cases d2
 refine go fun a J=>?_
 refine yN [1,2,0,1,2,1,2,1,0,1,0] (.q 0 (.q 1 (.q 3 (.q 4 (.q 5 (.q 6 (.q 7 (.e 2 (.e 8 (.q 9 (.e 10 (.done)))))))))))) [0,1,2] J N fun w N=>?_
 refine yF call68 (fun L7 w t2 N a J=>?_) (c:=z3p A (by have:=z1v GP.fit;omega) N)
 refine yF call67 (fun A5 w Z0 N a J=>?_) (c:=j3c t2 X N)
 obtain ⟨J7,h6⟩:=A5
 simp only at Z0 N J
 refine Sto 3 fun w N a J=>?_
 refine go fun a J=>?_
 have W:=N
 clear N
 obtain ⟨L1,M,N,B1,V2⟩:=W.freezeRowC (i:=0) rfl
 clear W
 replace h2:=h2.mono RTCon.mono M
 replace h8:=h8.up M
 replace A:=A.mono RTFn.mono M
 replace s:=s.up M
 replace b:=RTrc.mono _ _ _ _ M b
 replace Gl:=Gl.mono M
 replace d:=d.mono RInt.mono M
 replace ROP49:=ROP49.mono M
 replace Z0:=Z0.mono fun _ _ h=>RTFn.mono _ _ _ _ M h
 replace N:=N.nf
 have o1:SliceOf RTFn L1 11 _ ((T.funs.eraseIdx n_)):=⟨_,B1,Z0⟩
 obtain ⟨J2,q2,s5,H4,W6⟩:=o1.form (by decide)
 have B0:=N
 clear N
 subst s5
 have N:=B0
 clear B0
 refine Sto 0 fun w N a J=>?_
 refine go fun a J=>?_
 have g:=N
 replace N:=N.dl [2,1,0]
 refine hQ _ _ _ (qO (i:=0) (cs:=[.slice p3 T.cons.length c4,.slice p9 T.inputs.length d0,.slice J2 ((T.funs.eraseIdx n_)).length q2,.slice j0 T.outputs.length c22]) J g.toSees results33 rfl rfl isAgg26 sizeOf26 rfl rfl ?_)
 rw [ap_drop P X (fun h_=>h_.elim (fun P1=>r2 (List.length_pos_iff.2 P1)) fun P1=>P1.elim (fun Q1=>Q1 s2) fun Q1=>by have h_:=G1;rw [Q1] at h_;cases h_)]
 exact ⟨(L1,[.slice p3 T.cons.length c4,.slice p9 T.inputs.length d0,.slice J2 ((T.funs.eraseIdx n_)).length q2,.slice j0 T.outputs.length c22]),rfl,⟨(k.1).trans M,⟨_,_,_,_,rfl,i1,h2,h8,o1,s⟩⟩,N⟩
 refine yE fun a J=>?_
 refine Sto 0 fun w N a J=>?_
 refine go fun a J=>?_
 have g:=N
 replace N:=N.dl [2,1,0]
 refine hQ _ _ _ (qO (i:=0) (cs:=[.slice none 0 0,.slice none 0 0,.slice none 0 0,.slice none 0 0]) J g.toSees results33 rfl rfl isAgg26 sizeOf26 rfl rfl ?_)
 replace N:=N.le (k.1)
 rw [uT P X (.inr (.inr (by have h_:=G1;simpa using h_)))];exact ⟨rfl,N⟩
 refine yE fun a J=>?_
 refine Sto 0 fun w N a J=>?_
 refine go fun a J=>?_
 have g:=N
 replace N:=N.dl [2,1,0]
 refine hQ _ _ _ (qO (i:=0) (cs:=[.slice none 0 0,.slice none 0 0,.slice none 0 0,.slice none 0 0]) J g.toSees results33 rfl rfl isAgg26 sizeOf26 rfl rfl ?_)
 replace N:=N.le (k.1)
 rw [uT P X (.inr (.inl s2))];exact ⟨rfl,N⟩
 refine yF call44 (fun U2 w n N a J=>?_) (c:=j0g ROP49 t GP.fit (fun y_ t5 Y3=>cI (GP.gd H n0) y_ t5 Y3) N)
 replace h2:=h2.mono RTCon.mono n.1
 replace h8:=h8.mono RStr.mono n.1
 replace A:=A.mono RTFn.mono n.1
 replace s:=s.mono RStr.mono n.1
 replace b:=RTrc.mono _ _ _ _ n.1 b
 replace Gl:=Gl.mono n.1
 replace d:=d.mono RInt.mono n.1
 have RF82:=n.2
 replace N:=N.nf
 refine goJ 13 fun a J=>?_
 refine sq fun g3 h1=>?_
 have F1:∀a w,(∃(e1:Fz) (M1:Nat) (W1:Value) (X1:Value) (V1:Addr) (s1:List TE) (x_:TE),EnvR 138 [(2,.pointer (some ⟨Y1,0,none⟩)),(3,.pointer (some ⟨Z1,0,none⟩)),(4,.pointer (some ⟨a2,0,none⟩)),(7,.pointer (some ⟨U2.2,0,none⟩)),(8,.pointer (some ⟨M1,0,none⟩)),(9,.bool true)] [] a/\Mem e1 (.blk M1 (ob [W1,X1,.pointer (some V1)] 90)::.blk a2 (ob [.slice none 0 0,.slice none 0 0,.slice none 0 0,.slice none 0 0] 26)::.blk Z1 (ob [.int .i64 (ru),.int .i64 n_,.slice x5 path.length i3,.int .i64 (nu)] 36)::.blk Y1 (ob [.slice p3 T.cons.length c4,.slice p9 T.inputs.length d0,.slice w5 T.funs.length h3,.slice j0 T.outputs.length c22] 26)::K) w/\(U2.1.Le e1/\(yJ [] H.body path=some (s1,x_)/\RFnd e1 [W1,X1,.pointer (some V1)] ⟨path,s1,x_⟩)))->g3 a w:=by
  clear N J
  rintro a w ⟨e1,M1,W1,X1,V1,s1,x_,J,N,g1⟩
  obtain ⟨r,g1⟩:=g1
  replace h2:=h2.mono RTCon.mono r
  replace h8:=h8.up r
  replace A:=A.mono RTFn.mono r
  replace s:=s.up r
  replace b:=RTrc.mono _ _ _ _ r b
  replace Gl:=Gl.mono r
  replace d:=d.mono RInt.mono r
  replace RF82:=RF82.mono r
  apply h1
  obtain ⟨D,v⟩:=g1
  have I1:=y2j GP n0 D
  by_cases f1:nu=0
  refine cY call69 (fun Y B5 w C0 z N a J=>?_) (fun Y w C0 N a J=>?_) (c:=j1d (path:=path) (up:=s1) (e:=x_) RF82 GP n0 I1 v Gl (by omega) N)
  replace h2:=h2.mono RTCon.mono z.1
  replace h8:=h8.mono RStr.mono z.1
  replace A:=A.mono RTFn.mono z.1
  replace s:=s.mono RStr.mono z.1
  replace b:=RTrc.mono _ _ _ _ z.1 b
  replace Gl:=Gl.mono z.1
  replace d:=d.mono RInt.mono z.1
  replace RF82:=RF82.mono z.1
  replace v:=RFnd.mono _ _ _ _ z.1 v
  have l1:=z.2
  obtain ⟨i6,t1⟩:∃x_,x_=B5.2:=⟨_,rfl⟩
  rw [<- t1] at l1 J
  have h0:=l1
  obtain ⟨a7,K5,b7,L5,c7,M5,rfl,G3,H3,l6,m6,n6,b4,I4,d4,J4,e4,K4⟩:=RTE.fm l1
  replace N:=N.nf
  refine Alc fun C5 w N a J=>?_
  refine Sto 0 fun w N a J=>?_
  have p1:zC H.body<=20000:=by have h_:=(GP.fit.fn t).2;rw [lnQ] at h_;omega
  refine yF call68 (fun R2 w S N a J=>?_) (c:=z3p A (by have:=z1v GP.fit;omega) N)
  obtain ⟨A7,N1⟩:=R2
  simp only at S N J
  obtain ⟨d7,k0,rfl,Y2,T1⟩:=N.toSees.gsLen (i:=0) rfl S (by decide)
  replace N:=N.nf
  refine Sto 5 fun w N a J=>?_
  refine Reg [1,2,1,2,1,2,1,2,1,1,2,1,2,2,0,1,1,0] [0,1,2,3,4,5] fun w N a J=>?_
  refine go fun a J=>?_
  obtain ⟨o0,rfl⟩:=T1 (zO X)
  refine go fun a J=>?_
  obtain ⟨K0,R1⟩:=S.at t
  generalize z1:(N1.drop (n_ * 11)).take 11=r3 at K0 R1
  have a0:=K0
  obtain ⟨e7,c143,D5,rfl,o6,l0,f4,L4⟩:=RTFn.fm K0
  obtain ⟨f7,N5,g7,O5,h7,P5,rfl,I3,J3,p6,q6,r6,g4,M4,h4,N4,i4,O4⟩:=RTE.fm l0
  refine Qq (fun a J=>?_) (o:=by exact fun J O=>mC 0 n_ 3 J O rfl rfl z1 isAgg48 sizeOf48 rfl rfl)
  refine yF call70 (fun J1 w f N a J=>?_) (c:=z9z path H.body l0 d a1 h0 (GP.gd _ n0) p1 D N)
  replace h2:=h2.mono RTCon.mono f.1
  replace h8:=h8.mono RStr.mono f.1
  replace A:=A.mono RTFn.mono f.1
  replace s:=s.mono RStr.mono f.1
  replace b:=RTrc.mono _ _ _ _ f.1 b
  replace Gl:=Gl.mono f.1
  replace d:=d.mono RInt.mono f.1
  replace RF82:=RF82.mono f.1
  replace v:=RFnd.mono _ _ _ _ f.1 v
  replace h0:=RTE.mono _ _ _ _ f.1 h0
  replace S:=S.mono fun _ _ h=>RTFn.mono _ _ _ _ f.1 h
  replace l0:=RTE.mono _ _ _ _ f.1 l0
  replace a0:=RTFn.mono _ _ _ _ f.1 a0
  have L0:=f.2
  obtain ⟨j3,u1⟩:∃x_,x_=J1.2:=⟨_,rfl⟩
  rw [<- u1] at L0 J
  have M0:=L0
  obtain ⟨x2,f2,y2,g2,z2,i2,rfl,K3,L3,s6,t6,u6,j4,P4,k4,Q4,l4,R4⟩:=RTE.fm L0
  replace N:=N.nf
  refine go fun a J=>?_
  refine aE J rfl rfl (qU (R:=RTFn J1.1) (vs:=[.int .i64 ((yO H.body path Y).kind),.string (yO H.body path Y).name,.string (yO H.body path Y).op,.int .i64 ((yO H.body path Y).num),.int .i64 ((yO H.body path Y).site),.slice x2 (yO H.body path Y).args.length f2,.slice y2 (yO H.body path Y).arms.length g2,.slice z2 (yO H.body path Y).body.length i2]) (u:=H) (u':=({ H with body:=yO H.body path Y }:TFn)) 0 n_ 3 J N rfl (pB (N.toSees.rowCell (i:=0) rfl).1) rfl rfl S t rfl sizeOf48 rfl rfl (by decide) (fun t3 Z3 hr_=>q3l hr_ M0) fun k3 w r0 N=>⟨jM (by kernel_rfl),fun a J=>?_⟩)
  replace N:=N.nf
  refine go fun a J=>?_
  have W:=N
  clear N
  obtain ⟨y0,j,N,m1,u2⟩:=W.freezeRowC (i:=0) rfl
  clear W
  replace h2:=h2.mono RTCon.mono j
  replace h8:=h8.up j
  replace A:=A.mono RTFn.mono j
  replace s:=s.up j
  replace b:=RTrc.mono _ _ _ _ j b
  replace Gl:=Gl.mono j
  replace d:=d.mono RInt.mono j
  replace RF82:=RF82.mono j
  replace v:=RFnd.mono _ _ _ _ j v
  replace h0:=RTE.mono _ _ _ _ j h0
  replace l0:=RTE.mono _ _ _ _ j l0
  replace a0:=RTFn.mono _ _ _ _ j a0
  replace M0:=RTE.mono _ _ _ _ j M0
  replace r0:=r0.mono fun _ _ h=>RTFn.mono _ _ _ _ j h
  replace N:=N.nf
  have C1:SliceOf RTFn y0 11 (.slice (some o0) T.funs.length k0) ((T.funs.set n_ { H with body:=yO H.body path Y })):=⟨_,m1,r0⟩
  have x0:RTrc y0 [.slice p3 T.cons.length c4,.slice p9 T.inputs.length d0,.slice (some o0) T.funs.length k0,.slice j0 T.outputs.length c22] (jO T n_ (yO H.body path Y)):=by rw [y0i t];exact ⟨_,_,_,_,rfl,i1,h2,h8,C1,s⟩
  by_cases E1:ru=6
  refine cY call25 (fun K2 C7 w G0 x3 N a J=>?_) (fun K2 w G0 N a J=>?_) (c:=pZ x0 Gl N)
  replace N:=N.nf
  refine Qq (fun a J=>?_) (o:=by exact fun J O=>jG false J rfl rfl rfl)
  refine Sto 2 fun w N a J=>?_
  refine go fun a J=>?_
  have g:=N
  replace N:=N.dl [4,3,2,1,0]
  refine hQ _ _ _ (qO (i:=2) (cs:=[.slice p3 T.cons.length c4,.slice p9 T.inputs.length d0,.slice (some o0) T.funs.length k0,.slice j0 T.outputs.length c22]) J g.toSees results33 rfl rfl isAgg26 sizeOf26 rfl rfl ?_)
  rw [y5j L P t D (fun h_=>h_.1 f1) C0 (fun _=>zD G0)]
  rotate_left
  replace N:=N.nf
  refine Qq (fun a J=>?_) (o:=by exact fun J O=>jG true J rfl rfl rfl)
  refine yE fun a J=>?_
  refine Sto 2 fun w N a J=>?_
  refine go fun a J=>?_
  have g:=N
  replace N:=N.dl [4,3,2,1,0]
  refine hQ _ _ _ (qO (i:=2) (cs:=[.slice none 0 0,.slice none 0 0,.slice none 0 0,.slice none 0 0]) J g.toSees results33 rfl rfl isAgg26 sizeOf26 rfl rfl ?_)
  replace N:=N.le ((((((k.1).trans n.1).trans r).trans z.1).trans f.1).trans j)
  rw [ap_bad L P t D (fun h_=>h_.1 f1) C0 E1 (zP G0)];exact ⟨rfl,N⟩
  refine Sto 2 fun w N a J=>?_
  refine go fun a J=>?_
  have g:=N
  replace N:=N.dl [4,3,2,1,0]
  refine hQ _ _ _ (qO (i:=2) (cs:=[.slice p3 T.cons.length c4,.slice p9 T.inputs.length d0,.slice (some o0) T.funs.length k0,.slice j0 T.outputs.length c22]) J g.toSees results33 rfl rfl isAgg26 sizeOf26 rfl rfl ?_)
  rw [y5j L P t D (fun h_=>h_.1 f1) C0 (fun h_=>absurd h_ E1)]
  rotate_left
  replace N:=N.nf
  refine Alc fun E5 w N a J=>?_
  refine Sto 0 fun w N a J=>?_
  refine yE fun a J=>?_
  refine Sto 2 fun w N a J=>?_
  refine go fun a J=>?_
  have g:=N
  replace N:=N.dl [4,3,2,1,0]
  refine hQ _ _ _ (qO (i:=2) (cs:=[.slice none 0 0,.slice none 0 0,.slice none 0 0,.slice none 0 0]) J g.toSees results33 rfl rfl isAgg26 sizeOf26 rfl rfl ?_)
  replace N:=N.le (((k.1).trans n.1).trans r)
  rw [ap_not L P t D (fun h_=>h_.1 f1) C0];exact ⟨rfl,N⟩
  by_cases A0:ru=6
  refine cY call69 (fun B S2 w t0 p N a J=>?_) (fun B w t0 N a J=>?_) (c:=j1d (path:=path) (up:=s1) (e:=x_) RF82 GP n0 I1 v Gl (by omega) N)
  replace h2:=h2.mono RTCon.mono p.1
  replace h8:=h8.mono RStr.mono p.1
  replace A:=A.mono RTFn.mono p.1
  replace s:=s.mono RStr.mono p.1
  replace b:=RTrc.mono _ _ _ _ p.1 b
  replace Gl:=Gl.mono p.1
  replace d:=d.mono RInt.mono p.1
  replace RF82:=RF82.mono p.1
  replace v:=RFnd.mono _ _ _ _ p.1 v
  have N0:=p.2
  obtain ⟨l3,v1⟩:∃x_,x_=S2.2:=⟨_,rfl⟩
  rw [<- v1] at N0 J
  have i0:=N0
  obtain ⟨i7,Q5,j7,R5,k7,S5,rfl,M3,N3,v6,w6,x6,m4,S4,n4,T4,o4,U4⟩:=RTE.fm N0
  replace N:=N.nf
  refine Alc fun F5 w N a J=>?_
  refine Sto 0 fun w N a J=>?_
  have p1:zC H.body<=20000:=by have h_:=(GP.fit.fn t).2;rw [lnQ] at h_;omega
  refine yF call68 (fun T2 w V N a J=>?_) (c:=z3p A (by have:=z1v GP.fit;omega) N)
  obtain ⟨B7,O1⟩:=T2
  simp only at V N J
  obtain ⟨l7,Y0,rfl,Z2,U1⟩:=N.toSees.gsLen (i:=0) rfl V (by decide)
  replace N:=N.nf
  refine Sto 5 fun w N a J=>?_
  refine Reg [1,2,1,2,1,2,1,2,1,1,2,1,2,2,0,1,1,0] [0,1,2,3,4,5] fun w N a J=>?_
  refine go fun a J=>?_
  obtain ⟨d1,rfl⟩:=U1 (zO X)
  refine go fun a J=>?_
  obtain ⟨O0,S1⟩:=V.at t
  generalize A1:(O1.drop (n_ * 11)).take 11=s3 at O0 S1
  have b0:=O0
  obtain ⟨m7,T5,G5,rfl,y6,m0,p4,V4⟩:=RTFn.fm O0
  obtain ⟨n7,U5,o7,V5,p7,W5,rfl,O3,P3,z6,A6,B6,q4,W4,r4,X4,s4,Y4⟩:=RTE.fm m0
  refine Qq (fun a J=>?_) (o:=by exact fun J O=>mC 0 n_ 3 J O rfl rfl A1 isAgg48 sizeOf48 rfl rfl)
  refine yF call70 (fun K1 w l N a J=>?_) (c:=z9z path H.body m0 d a1 i0 (GP.gd _ n0) p1 D N)
  replace h2:=h2.mono RTCon.mono l.1
  replace h8:=h8.mono RStr.mono l.1
  replace s:=s.mono RStr.mono l.1
  replace b:=RTrc.mono _ _ _ _ l.1 b
  replace Gl:=Gl.mono l.1
  replace d:=d.mono RInt.mono l.1
  replace RF82:=RF82.mono l.1
  replace v:=RFnd.mono _ _ _ _ l.1 v
  replace i0:=RTE.mono _ _ _ _ l.1 i0
  replace V:=V.mono fun _ _ h=>RTFn.mono _ _ _ _ l.1 h
  replace m0:=RTE.mono _ _ _ _ l.1 m0
  replace b0:=RTFn.mono _ _ _ _ l.1 b0
  have P0:=l.2
  obtain ⟨m3,w1⟩:∃x_,x_=K1.2:=⟨_,rfl⟩
  rw [<- w1] at P0 J
  have Q0:=P0
  obtain ⟨A2,j2,B2,k2,C2,l2,rfl,Q3,R3,C6,D6,E6,t4,Z4,u4,a5,v4,b5⟩:=RTE.fm P0
  replace N:=N.nf
  refine go fun a J=>?_
  refine aE J rfl rfl (qU (R:=RTFn K1.1) (vs:=[.int .i64 ((yO H.body path B).kind),.string (yO H.body path B).name,.string (yO H.body path B).op,.int .i64 ((yO H.body path B).num),.int .i64 ((yO H.body path B).site),.slice A2 (yO H.body path B).args.length j2,.slice B2 (yO H.body path B).arms.length k2,.slice C2 (yO H.body path B).body.length l2]) (u:=H) (u':=({ H with body:=yO H.body path B }:TFn)) 0 n_ 3 J N rfl (pB (N.toSees.rowCell (i:=0) rfl).1) rfl rfl V t rfl sizeOf48 rfl rfl (by decide) (fun t3 Z3 hr_=>q3l hr_ Q0) fun n3 w s0 N=>⟨jM (by kernel_rfl),fun a J=>?_⟩)
  replace N:=N.nf
  refine go fun a J=>?_
  have W:=N
  clear N
  obtain ⟨X0,m,N,n1,v2⟩:=W.freezeRowC (i:=0) rfl
  clear W
  replace h2:=h2.mono RTCon.mono m
  replace h8:=h8.up m
  replace s:=s.up m
  replace b:=RTrc.mono _ _ _ _ m b
  replace Gl:=Gl.mono m
  replace d:=d.mono RInt.mono m
  replace RF82:=RF82.mono m
  replace v:=RFnd.mono _ _ _ _ m v
  replace i0:=RTE.mono _ _ _ _ m i0
  replace m0:=RTE.mono _ _ _ _ m m0
  replace b0:=RTFn.mono _ _ _ _ m b0
  replace Q0:=RTE.mono _ _ _ _ m Q0
  replace s0:=s0.mono fun _ _ h=>RTFn.mono _ _ _ _ m h
  replace N:=N.nf
  have D1:SliceOf RTFn X0 11 (.slice (some d1) T.funs.length Y0) ((T.funs.set n_ { H with body:=yO H.body path B })):=⟨_,n1,s0⟩
  have c1:RTrc X0 [.slice p3 T.cons.length c4,.slice p9 T.inputs.length d0,.slice (some d1) T.funs.length Y0,.slice j0 T.outputs.length c22] (jO T n_ (yO H.body path B)):=by rw [y0i t];exact ⟨_,_,_,_,rfl,i1,h2,h8,D1,s⟩
  refine cY call25 (fun L2 D7 w H0 y3 N a J=>?_) (fun L2 w H0 N a J=>?_) (c:=pZ c1 Gl N)
  replace N:=N.nf
  refine Qq (fun a J=>?_) (o:=by exact fun J O=>jG false J rfl rfl rfl)
  refine Sto 2 fun w N a J=>?_
  refine go fun a J=>?_
  have g:=N
  replace N:=N.dl [4,3,2,1,0]
  refine hQ _ _ _ (qO (i:=2) (cs:=[.slice p3 T.cons.length c4,.slice p9 T.inputs.length d0,.slice (some d1) T.funs.length Y0,.slice j0 T.outputs.length c22]) J g.toSees results33 rfl rfl isAgg26 sizeOf26 rfl rfl ?_)
  rw [y5j L P t D (fun h_=>h_.2 A0) t0 (fun _=>zD H0)]
  exact ⟨(X0,[.slice p3 T.cons.length c4,.slice p9 T.inputs.length d0,.slice (some d1) T.funs.length Y0,.slice j0 T.outputs.length c22]),rfl,⟨(((((k.1).trans n.1).trans r).trans p.1).trans l.1).trans m,c1⟩,N⟩
  replace N:=N.nf
  refine Qq (fun a J=>?_) (o:=by exact fun J O=>jG true J rfl rfl rfl)
  refine yE fun a J=>?_
  refine Sto 2 fun w N a J=>?_
  refine go fun a J=>?_
  have g:=N
  replace N:=N.dl [4,3,2,1,0]
  refine hQ _ _ _ (qO (i:=2) (cs:=[.slice none 0 0,.slice none 0 0,.slice none 0 0,.slice none 0 0]) J g.toSees results33 rfl rfl isAgg26 sizeOf26 rfl rfl ?_)
  replace N:=N.le ((((((k.1).trans n.1).trans r).trans p.1).trans l.1).trans m)
  rw [ap_bad L P t D (fun h_=>h_.2 A0) t0 A0 (zP H0)];exact ⟨rfl,N⟩
  replace N:=N.nf
  refine Alc fun H5 w N a J=>?_
  refine Sto 0 fun w N a J=>?_
  refine yE fun a J=>?_
  refine Sto 2 fun w N a J=>?_
  refine go fun a J=>?_
  have g:=N
  replace N:=N.dl [4,3,2,1,0]
  refine hQ _ _ _ (qO (i:=2) (cs:=[.slice none 0 0,.slice none 0 0,.slice none 0 0,.slice none 0 0]) J g.toSees results33 rfl rfl isAgg26 sizeOf26 rfl rfl ?_)
  replace N:=N.le (((k.1).trans n.1).trans r)
  rw [ap_not L P t D (fun h_=>h_.2 A0) t0];exact ⟨rfl,N⟩
  refine yE fun a J=>?_
  refine Sto 1 fun w N a J=>?_
  refine go fun a J=>?_
  have g:=N
  replace N:=N.dl [3,2,1,0]
  refine hQ _ _ _ (qO (i:=1) (cs:=[.slice none 0 0,.slice none 0 0,.slice none 0 0,.slice none 0 0]) J g.toSees results33 rfl rfl isAgg26 sizeOf26 rfl rfl ?_)
  replace N:=N.le (((k.1).trans n.1).trans r)
  rw [ap_num L P t D f1 A0];exact ⟨rfl,N⟩
  all_goals (exact ⟨(y0,[.slice p3 T.cons.length c4,.slice p9 T.inputs.length d0,.slice (some o0) T.funs.length k0,.slice j0 T.outputs.length c22]),rfl,⟨(((((k.1).trans n.1).trans r).trans z.1).trans f.1).trans j,x0⟩,N⟩)
 refine yN [1,1,1,2,1,1,1,1,2,0,1,1,1,0,0,1] (.q 0 (.q 1 (.q 2 (.q 3 (.q 4 (.q 5 (.q 6 (.q 7 (.q 8 (.e2 9 13 (.q 10 (.q 11 (.q 12 (.e 13 (.e 14 (.q 15 (.done))))))) (.e 9 (.q 10 (.q 11 (.q 12 (.e 14 (.q 15 (.done))))))))))))))))) [0,1,2] J N fun w N=>?_
 obtain ⟨y5,z5,v5,u5,u3,Z,I,b1,f3,X2,W2⟩:=RF82.ex
 have c0:=b1
 obtain ⟨q7,X5,I5,rfl,F6,f0,w4,c5⟩:=RTFn.fm b1
 obtain ⟨r7,Y5,s7,Z5,t7,a6,rfl,S3,T3,G6,H6,I6,x4,d5,y4,e5,z4,f5⟩:=RTE.fm f0
 refine yE fun a J=>?_
 refine go fun a J=>?_
 refine kY ?_ ?_
 refine d_e J rfl rfl rfl (mZ J rfl call40 (z7f (At.part3 I) f0 (by have h_:=(GP.fit.fn t).2;rw [lnQ] at h_;omega) d N) (fun p0 E w I0 y N=>⟨fun _=>N.sn ((Fz.Le.refl _).trans (y.1)),fun a J=>?_⟩) (fun p0 E w I0 N=>⟨fun _=>N.sn (Fz.Le.refl _),fun a J=>?_⟩))
 replace b:=RTrc.mono _ _ _ _ y.1 b
 replace d:=d.mono RInt.mono y.1
 replace Z:=Z.mono y.1
 replace I:=I.mono y.1
 replace f0:=RTE.mono _ _ _ _ y.1 f0
 replace c0:=RTFn.mono _ _ _ _ y.1 c0
 have R0:=y.2
 obtain ⟨o3,x1⟩:∃x_,x_=E.2:=⟨_,rfl⟩
 rw [<- x1] at R0 J
 have j1:=R0
 obtain ⟨N2,O2,D2,j6,rfl,B3,C3,E0,U0,z3,u0⟩:=id R0
 replace E0:SliceOf RInt E.1 1 N2 path:=E0
 replace U0:SliceOf RPtE E.1 1 O2 p0.1:=U0
 replace u0:RTE E.1 _ p0.2:=u0
 obtain ⟨E2,m2,rfl,a3,g5⟩:=E0.fm
 obtain ⟨F2,n2,rfl,b3,h5⟩:=U0.fm
 have q5:=u0
 obtain ⟨u7,b6,v7,c6,w7,d6,rfl,U3,V3,J6,K6,L6,A4,i5,B4,j5,C4,k5⟩:=RTE.fm u0
 replace N:=N.nf
 have a4:=(Fz.Le.refl _).trans y.1
 refine Alc fun b2 w N a J=>?_
 refine Sto 0 fun w N a J=>?_
 refine go fun a J=>?_
 exact F1 _ _ ⟨E.1,b2,.slice E2 path.length m2,.slice F2 p0.1.length n2,D2,p0.1,p0.2,J.pk,N,⟨y.1,⟨zR I0,j1⟩⟩⟩
 replace N:=N.nf
 refine Alc fun J5 w N a J=>?_
 refine aE J rfl rfl (zQ 0 (cs:=[.slice none 0 0,.slice none 0 0,.pointer none]) (vs:=[E.1.1,E.1.2.1,.pointer (some E.1.2.2)]) J N rfl rfl rfl rfl sizeOf90 rfl (vU E.2.1 (vU E.2.2 (vU rfl rfl))) rfl fun w N=>⟨jM (by kernel_rfl),fun a J=>?_⟩)
 replace N:=N.nf
 refine go fun a J=>?_
 apply h1
 refine yE fun a J=>?_
 refine Sto 1 fun w N a J=>?_
 refine go fun a J=>?_
 have g:=N
 replace N:=N.dl [3,2,1,0]
 refine hQ _ _ _ (qO (i:=1) (cs:=[.slice none 0 0,.slice none 0 0,.slice none 0 0,.slice none 0 0]) J g.toSees results33 rfl rfl isAgg26 sizeOf26 rfl rfl ?_)
 replace N:=N.le ((k.1).trans n.1)
 rw [y9k L P t (yL I0)];exact ⟨rfl,N⟩
 refine Alc fun c2 w N a J=>?_
 refine d_e J rfl rfl rfl (mZ J rfl call40 (z7f (At.part3 I) f0 (by have h_:=(GP.fit.fn t).2;rw [lnQ] at h_;omega) d N) (fun q0 F w J0 C N=>⟨fun _=>N.sn ((Fz.Le.refl _).trans (C.1)),fun a J=>?_⟩) (fun q0 F w J0 N=>⟨fun _=>N.sn (Fz.Le.refl _),fun a J=>?_⟩))
 replace b:=RTrc.mono _ _ _ _ C.1 b
 replace Z:=Z.mono C.1
 replace I:=I.mono C.1
 replace f0:=RTE.mono _ _ _ _ C.1 f0
 replace c0:=RTFn.mono _ _ _ _ C.1 c0
 have S0:=C.2
 obtain ⟨q3,y1⟩:∃x_,x_=F.2:=⟨_,rfl⟩
 rw [<- y1] at S0 J
 have k1:=S0
 obtain ⟨P2,Q2,G2,k6,rfl,D3,E3,F0,V0,A3,w0⟩:=id S0
 replace F0:SliceOf RInt F.1 1 P2 path:=F0
 replace V0:SliceOf RPtE F.1 1 Q2 q0.1:=V0
 replace w0:RTE F.1 _ q0.2:=w0
 obtain ⟨H2,o2,rfl,d3,l5⟩:=F0.fm
 obtain ⟨I2,p2,rfl,e3,m5⟩:=V0.fm
 have r5:=w0
 obtain ⟨x7,e6,y7,f6,z7,g6,rfl,W3,X3,M6,N6,O6,D4,n5,E4,o5,F4,p5⟩:=RTE.fm w0
 replace N:=N.nf
 refine Sto 0 fun w N a J=>?_
 refine go fun a J=>?_
 exact F1 _ _ ⟨F.1,c2,.slice H2 path.length o2,.slice I2 q0.1.length p2,G2,q0.1,q0.2,J.pk,N,⟨C.1,⟨zR J0,k1⟩⟩⟩
 replace N:=N.nf
 refine go fun a J=>?_
 refine aE J rfl rfl (zQ 0 (cs:=[.slice none 0 0,.slice none 0 0,.pointer none]) (vs:=[F.1.1,F.1.2.1,.pointer (some F.1.2.2)]) J N rfl rfl rfl rfl sizeOf90 rfl (vU F.2.1 (vU F.2.2 (vU rfl rfl))) rfl fun w N=>⟨jM (by kernel_rfl),fun a J=>?_⟩)
 replace N:=N.nf
 refine go fun a J=>?_
 apply h1
 refine yE fun a J=>?_
 refine Sto 1 fun w N a J=>?_
 refine go fun a J=>?_
 have g:=N
 replace N:=N.dl [3,2,1,0]
 refine hQ _ _ _ (qO (i:=1) (cs:=[.slice none 0 0,.slice none 0 0,.slice none 0 0,.slice none 0 0]) J g.toSees results33 rfl rfl isAgg26 sizeOf26 rfl rfl ?_)
 replace N:=N.le ((k.1).trans n.1)
 rw [y9k L P t (yL J0)];exact ⟨rfl,N⟩
end Go.Sw
