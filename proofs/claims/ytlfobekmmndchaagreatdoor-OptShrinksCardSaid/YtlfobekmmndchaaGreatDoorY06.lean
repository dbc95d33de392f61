import Derived.Test.YtlfobekmmndchaaGreatDoorY05
set_option linter.unusedVariables false
set_option linter.unusedSimpArgs false
namespace Go.Sw
open Go.Proofs Go.Proofs.Tryz
set_option maxRecDepth 20000
set_option maxHeartbeats 4000000
section
variable {T:Trc} {c m:Bool} {nm:Bs} {e x:TE} {l:List TE} {i:Nat} {s s1 si y z q:BS} {A:Option BS}
theorem q7p (h:z9r T c e s=some z) (a:s1.Eqv z):OEqv (jH T c e s) (restT T c e.name (decide (e.kind=4∨e.kind=6)) (e.body.drop 0) s1):=by
 rw [z2h,h];exact BS.Eqv.rest T c _ _ _ a.symm
theorem vE (h:z9r T c e s=none):jH T c e s=none:=by rw [z2h,h];rfl
theorem y6p (a:OEqv A (restT T c nm m (l.drop i) si)) (b:l[i]? = some x) (hb:si.bind nm m=some z) (J:jH T c x z=some q) (hq:y.Eqv q):OEqv A (restT T c nm m (l.drop (i+1)) y):=by
 rw [y9n b,hb,Option.bind_some,J,Option.bind_some] at a;exact a.trans (BS.Eqv.rest T c _ _ _ hq.symm)
theorem q4g (a:OEqv A (restT T c nm m (l.drop i) si)) (b:l[i]? = some x) (hb:si.bind nm m=none):OEqv A none:=by
 rw [y9n b,hb] at a;exact a
theorem q4h (a:OEqv A (restT T c nm m (l.drop i) si)) (b:l[i]? = some x) (hb:si.bind nm m=some z) (J:jH T c x z=none):OEqv A none:=by
 rw [y9n b,hb,Option.bind_some,J] at a;exact a
theorem x3l (a:OEqv A (restT T c nm m (l.drop i) si)) (h:¬i < l.length):OEqv A (some si):=by rw [x3m h] at a;exact a
theorem kinds11 {k:Int} (h:0<=k) (a:k < 11):k=0∨k=1∨k=2∨k=3∨k=4∨k=5∨k=6∨k=7∨k=8∨k=9∨k=10:=by omega
theorem jL (h:e.kind≠7):z9r T c e s=yY T c e s:=if_neg h
theorem z9s (h:e.kind=7):z9r T c e s=jO T c e s:=if_pos h
theorem z4r (h:e.kind < 1∨10 < e.kind):z9r T c e s=none:=by
 rw [jL (by omega)];unfold yY;rw [if_neg (by omega),if_neg (by omega),if_neg (by omega),if_neg (by omega),if_neg (by omega),if_neg (by omega),if_neg (by omega),if_neg (by omega),if_neg (by omega)]
theorem kZ {z:BS} (h:yY T c e s=some z):z.kinds=s.kinds:=by
 unfold yY at h
 repeat' split at h
 all_goals first | (cases h;rfl) | exact (z1g h).2 | cases h
end
theorem j9p {Φ:Fz} {K:List Res} {w:World} {v:Value} (N:Mem Φ K w):Calls prog 158 #[v] w (fun ee w'=>ee=.panicked jK/\Mem Φ K w'):=by
 refine zJ func158 ntmps158 fun Q hQ a J=>?_;refine go fun a J=>?_;refine st J rfl rfl rfl (cE J rfl call83 (zI N) (fun w N=>fun a b=>hQ _ _ _ (zT b ?_)));exact ⟨rfl,N⟩
theorem q6m {T:Trc} {e:TE} (u1:∀a∈e.arms,y4o T a.body) (O0:∀x∈e.body,y4o T x):y4o T e:=by
 intro Φ K w bb mb mk ms pa fa R1 lv s fd d F RP k rf n re G hn N;have g:=rf;obtain ⟨Y2,N1,O1,k0,R0,r2,s2⟩:=RP.ex;obtain ⟨s8,i3,j3,k3,rfl,b2,h9,g1,h1,i1⟩:=id R0;obtain ⟨P1,b1,rfl,g2,t2⟩:=h9.fm;obtain ⟨Q1,c1,rfl,h2,u2⟩:=g1.fm;obtain ⟨S1,c23,rfl,i2,v2⟩:=h1.fm;obtain ⟨T1,d1,rfl,j2,w2⟩:=i1.fm;replace k0:At Φ pa [.slice P1 T.cons.length b1,.slice Q1 T.inputs.length c1,.slice S1 T.funs.length c23,.slice T1 T.outputs.length d1,.map (some N1),.map (some O1),.map (some ms)]:=k0;obtain ⟨l3,U2,rfl,j1,k1⟩:=id rf;obtain ⟨a3,c36,rfl,k2,x2⟩:=j1.fm;obtain ⟨m3,n3,o3,rfl,c2,d2,l1,m1,n1⟩:=RTE.iff.1 k1;obtain ⟨b3,c44,rfl,l2,y2⟩:=l1.fm;obtain ⟨d3,c50,rfl,m2,z2⟩:=m1.fm;obtain ⟨e3,V2,rfl,n2,A2⟩:=n1.fm;have j:=re;obtain ⟨p3,q3,r3,rfl,e2,f2,o1,p1,C0⟩:=RTE.iff.1 re;obtain ⟨f3,W2,rfl,o2,B2⟩:=o1.fm;obtain ⟨g3,X2,rfl,p2,C2⟩:=p1.fm;obtain ⟨h3,c76,rfl,q2,l0⟩:=C0.fm;refine zJ func128 ntmps128 fun Q hQ a J=>?_;refine yE fun a J=>?_;refine Alc fun B0 w N a J=>?_;refine Sto 0 fun w N a J=>?_;by_cases q1:0<=e.kind;refine Qq (fun a J=>?_) (o:=by exact fun J O=>j0h J rfl rfl);refine yF call83 (fun U1 w b0 N a J=>?_) (fun U1 w b0 N=>?_) (c:=yC (b:=(decide (e.kind < 11))) N);refine goJ 3 fun a J=>?_;refine sq fun a1 N0=>?_
 have i:∀a w,(∃(s1:BS) (h0:Value),EnvR 83 [(0,.pointer (some ⟨bb,0,none⟩)),(1,.pointer (some R1))] [] a/\Mem Φ (.blk B0 (ob [.func (.func 158) #[] #[],.func (.func 159) #[.pointer (some ⟨bb,0,none⟩)] #[],.func (.func 160) #[.pointer (some ⟨bb,0,none⟩)] #[],.func (.func 161) #[.pointer (some ⟨bb,0,none⟩)] #[],.func (.func 162) #[.pointer (some ⟨bb,0,none⟩)] #[],.func (.func 163) #[.pointer (some ⟨bb,0,none⟩)] #[],.func (.func 164) #[.pointer (some ⟨bb,0,none⟩)] #[],.func (.func 165) #[.pointer (some ⟨bb,0,none⟩)] #[],.func (.func 166) #[.pointer (some ⟨bb,0,none⟩)] #[],.func (.func 167) #[.pointer (some ⟨bb,0,none⟩)] #[],.func (.func 168) #[.pointer (some ⟨bb,0,none⟩)] #[]] 226)::.blk bb (ob [.pointer (some pa),.pointer (some fa),.map (some mb),.map (some mk),h0] 199)::.mp mb (yB (vV s1.list))::.mp mk (yB s1.kinds)::.gs (h0) 125 2 (vL s1.list)::.imp ms (xZ s1.sites)::K) w/\((∃z,z9r T F.chg e s=some z/\s1.Eqv z)/\NoK s1.kinds))->a1 a w:=by
  clear N J;rintro a w ⟨s1,h0,J,N,M0⟩;apply N0;obtain ⟨⟨s3,S0,U0⟩,Q0⟩:=M0;refine go fun a J=>?_;refine yO (J.ks [0,1,52]) N (fun R mm a w=>∃(i_:Nat) (si:BS) (i0:Value),mm=e.body.length - i_/\R Φ [(53,.int .i64 i_)] [(1,.blk bb (ob [.pointer (some pa),.pointer (some fa),.map (some mb),.map (some mk),i0] 199)),(2,.mp mb (yB (vV si.list))),(3,.mp mk (yB si.kinds)),(4,.gs (i0) 125 2 (vL si.list)),(5,.imp ms (xZ si.sites))] a w/\(OEqv (jH T F.chg e s) (restT T F.chg e.name (decide (e.kind=4∨e.kind=6)) (e.body.drop i_) si)/\NoK si.kinds)) (e.body.length - 0) ⟨0,s1,h0,rfl,⟨J.pk,N⟩,⟨q7p S0 U0,Q0⟩⟩ ?_;clear N J;rintro mm a w ⟨i_,si,i0,P0,⟨J,N⟩,h⟩ T2 j0;replace N:=N.nf;by_cases W:i_ < e.body.length;refine Reg [1,1,1,1,2,1,1,1,2,1,1,1,1,1,2,1,1,0] [0] fun w N a J=>?_;refine go fun a J=>?_;by_cases g0:e.kind=4;replace N:=N.ar [] [4,4,4,4];refine dB call127 (fun p w0 w u r1 N a J=>?_) (fun p w u N=>?_) (c:=z1v (s:=si) (nm:=e.name) (m:=true) G N)
  replace N:Mem Φ (.blk bb (ob [.pointer (some pa),.pointer (some fa),.map (some mb),.map (some mk),w0] 199)::.mp mb (yB (vV p.list))::.mp mk (yB p.kinds)::.gs (w0) 125 2 (vL p.list)::.blk B0 (ob [.func (.func 158) #[] #[],.func (.func 159) #[.pointer (some ⟨bb,0,none⟩)] #[],.func (.func 160) #[.pointer (some ⟨bb,0,none⟩)] #[],.func (.func 161) #[.pointer (some ⟨bb,0,none⟩)] #[],.func (.func 162) #[.pointer (some ⟨bb,0,none⟩)] #[],.func (.func 163) #[.pointer (some ⟨bb,0,none⟩)] #[],.func (.func 164) #[.pointer (some ⟨bb,0,none⟩)] #[],.func (.func 165) #[.pointer (some ⟨bb,0,none⟩)] #[],.func (.func 166) #[.pointer (some ⟨bb,0,none⟩)] #[],.func (.func 167) #[.pointer (some ⟨bb,0,none⟩)] #[],.func (.func 168) #[.pointer (some ⟨bb,0,none⟩)] #[]] 226)::.imp ms (xZ p.sites)::K) w:=by rw [oE (zS u)];exact N
  have r:si.bind e.name (decide (e.kind=4∨e.kind=6))=some p:=by rw [<- zS u];congr 1;simp [g0]
  refine go fun a J=>?_;obtain ⟨J2,rfl,R2,U,e1,z1,D0,c0⟩:=C0.el l0 W;obtain ⟨L2,M2,N2,rfl,v1,w1,G0,H0,I0⟩:=RTE.iff.1 c0;obtain ⟨D2,W1,rfl,B1,H1⟩:=G0.fm;obtain ⟨E2,X1,rfl,C1,I1⟩:=H0.fm;obtain ⟨F2,c127,rfl,D1,J1⟩:=I0.fm;replace N:=N.ar [] [5,4,4,4,4];refine dB call128 (fun X0 x0 w M X N a J=>?_) (fun X0 w M N=>?_) (c:=O0 _ (mgQ U) RP k g D0 c0 G (z1x r h.2) N);refine go fun a J=>?_;replace N:=N.ar [] [4,4,4,4,4,5];refine j0 _ _ _ (by subst P0;omega) ⟨(i_+1),(x0.2),(x0.1),rfl,⟨J.pk,N⟩,?_⟩;exact ⟨y6p h.1 U r (zS M) X.1,X.2⟩;replace N:=N.dl [0];rw [show jH T F.chg e s=none from (q4h h.1 U r (yK M)).none_iff.2 rfl];exact ⟨rfl,N⟩;replace N:=N.dl [1,0];have a0:si.bind e.name (decide (e.kind=4∨e.kind=6))=none:=by rw [<- yK u];congr 1;simp [g0]
  obtain ⟨V1,e0⟩:=zW W;rw [show jH T F.chg e s=none from (q4g h.1 e0 a0).none_iff.2 rfl];exact ⟨rfl,N⟩;refine Qq (fun a J=>?_) (o:=by exact fun J O=>vQ J rfl rfl);replace N:=N.ar [] [4,4,4,4];refine dB call127 (fun q y0 w v t1 N a J=>?_) (fun q w v N=>?_) (c:=z1v (s:=si) (nm:=e.name) (m:=(decide (e.kind=6))) G N);replace N:Mem Φ (.blk bb (ob [.pointer (some pa),.pointer (some fa),.map (some mb),.map (some mk),y0] 199)::.mp mb (yB (vV q.list))::.mp mk (yB q.kinds)::.gs (y0) 125 2 (vL q.list)::.blk B0 (ob [.func (.func 158) #[] #[],.func (.func 159) #[.pointer (some ⟨bb,0,none⟩)] #[],.func (.func 160) #[.pointer (some ⟨bb,0,none⟩)] #[],.func (.func 161) #[.pointer (some ⟨bb,0,none⟩)] #[],.func (.func 162) #[.pointer (some ⟨bb,0,none⟩)] #[],.func (.func 163) #[.pointer (some ⟨bb,0,none⟩)] #[],.func (.func 164) #[.pointer (some ⟨bb,0,none⟩)] #[],.func (.func 165) #[.pointer (some ⟨bb,0,none⟩)] #[],.func (.func 166) #[.pointer (some ⟨bb,0,none⟩)] #[],.func (.func 167) #[.pointer (some ⟨bb,0,none⟩)] #[],.func (.func 168) #[.pointer (some ⟨bb,0,none⟩)] #[]] 226)::.imp ms (xZ q.sites)::K) w:=by rw [oE (zS v)];exact N
  have t:si.bind e.name (decide (e.kind=4∨e.kind=6))=some q:=by rw [<- zS v];congr 1;simp [g0]
  refine go fun a J=>?_;obtain ⟨K2,rfl,S2,V,f1,A1,E0,d0⟩:=C0.el l0 W;obtain ⟨O2,P2,Q2,rfl,x1,y1,J0,K0,L0⟩:=RTE.iff.1 d0;obtain ⟨G2,Y1,rfl,E1,K1⟩:=J0.fm;obtain ⟨H2,Z1,rfl,F1,L1⟩:=K0.fm;obtain ⟨I2,a2,rfl,G1,M1⟩:=L0.fm;replace N:=N.ar [] [5,4,4,4,4];refine dB call128 (fun Y0 z0 w P Y N a J=>?_) (fun Y0 w P N=>?_) (c:=O0 _ (mgQ V) RP k g E0 d0 G (z1x t h.2) N);refine go fun a J=>?_;replace N:=N.ar [] [4,4,4,4,4,5];refine j0 _ _ _ (by subst P0;omega) ⟨(i_+1),(z0.2),(z0.1),rfl,⟨J.pk,N⟩,?_⟩;exact ⟨y6p h.1 V t (zS P) Y.1,Y.2⟩;replace N:=N.dl [0];rw [show jH T F.chg e s=none from (q4h h.1 V t (yK P)).none_iff.2 rfl];exact ⟨rfl,N⟩;replace N:=N.dl [1,0];have a0:si.bind e.name (decide (e.kind=4∨e.kind=6))=none:=by rw [<- yK v];congr 1;simp [g0]
  obtain ⟨V1,e0⟩:=zW W;rw [show jH T F.chg e s=none from (q4g h.1 e0 a0).none_iff.2 rfl];exact ⟨rfl,N⟩;refine go fun a J=>?_;replace N:=N.dl [0];refine hQ _ _ _ (yN J results128 ?_);refine j2m (x3l h.1 W) fun z_ V0=>⟨(i0,si),rfl,⟨V0,h.2⟩,N⟩
 refine go fun a J=>?_;rcases kinds11 q1 (of_decide_eq_true (zC b0)) with f | f | f | f | f | f | f | f | f | f | f
 rw [f] at J;refine Qq (fun a J=>?_) (o:=by exact fun J O=>qZ 0 J rfl rfl runUnderlying226 sizeOf201 (by decide) rfl);refine go fun a J=>?_;refine st J rfl rfl rfl (q7m J rfl rfl call158 (j9p N) (fun w N=>fun a l=>hQ _ _ _ (zT l ?_)));replace N:=N.dl [5,4,3,2,1,0];rw [show jH T F.chg e s=none from vE (z4r (by rw [f];decide))];exact ⟨rfl,N⟩;rw [f] at J;refine Qq (fun a J=>?_) (o:=by exact fun J O=>qZ 1 J rfl rfl runUnderlying226 sizeOf201 (by decide) rfl);refine go fun a J=>?_;replace N:=N.ar [] [5,5,5,5,5];refine st J rfl rfl rfl (kY J rfl rfl call159 (bop_ok RP k g n j f N) (fun m0 w y N a J=>?_) (fun m0 w y N=>fun a l=>hQ _ _ _ (zT l ?_)));refine go fun a J=>?_;replace N:=N.ar [] [4,4,4,4,4,5];exact i _ _ ⟨m0,lv,J.pk,N,⟨⟨_,(jL (by rw [f];decide)).trans (zS y),.refl _⟩,(by rw [kZ (zS y)];exact hn)⟩⟩;replace N:=N.dl [0];rw [show jH T F.chg e s=none from vE ((jL (by rw [f];decide)).trans (yK y))];exact ⟨rfl,N⟩;rw [f] at J;refine Qq (fun a J=>?_) (o:=by exact fun J O=>qZ 2 J rfl rfl runUnderlying226 sizeOf201 (by decide) rfl);refine go fun a J=>?_;replace N:=N.ar [] [5,5,5,5,5];refine st J rfl rfl rfl (kY J rfl rfl call160 (bcon_ok RP k g n j f N) (fun n0 w A N a J=>?_) (fun n0 w A N=>fun a l=>hQ _ _ _ (zT l ?_)));refine go fun a J=>?_;replace N:=N.ar [] [4,4,4,4,4,5];exact i _ _ ⟨n0,lv,J.pk,N,⟨⟨_,(jL (by rw [f];decide)).trans (zS A),.refl _⟩,(by rw [kZ (zS A)];exact hn)⟩⟩;replace N:=N.dl [0]
 rw [show jH T F.chg e s=none from vE ((jL (by rw [f];decide)).trans (yK A))];exact ⟨rfl,N⟩;rw [f] at J;refine Qq (fun a J=>?_) (o:=by exact fun J O=>qZ 3 J rfl rfl runUnderlying226 sizeOf201 (by decide) rfl);refine go fun a J=>?_;replace N:=N.ar [] [5,5,5,5,5];refine st J rfl rfl rfl (kY J rfl rfl call161 (q6p RP k g n j f N) (fun o0 w B N a J=>?_) (fun o0 w B N=>fun a l=>hQ _ _ _ (zT l ?_)));refine go fun a J=>?_;replace N:=N.ar [] [4,4,4,4,4,5];exact i _ _ ⟨o0,lv,J.pk,N,⟨⟨_,(jL (by rw [f];decide)).trans (zS B),.refl _⟩,(by rw [kZ (zS B)];exact hn)⟩⟩;replace N:=N.dl [0];rw [show jH T F.chg e s=none from vE ((jL (by rw [f];decide)).trans (yK B))];exact ⟨rfl,N⟩;rw [f] at J;refine Qq (fun a J=>?_) (o:=by exact fun J O=>qZ 4 J rfl rfl runUnderlying226 sizeOf201 (by decide) rfl);refine go fun a J=>?_;replace N:=N.ar [] [5,5,5,5,5];refine st J rfl rfl rfl (kY J rfl rfl call162 (bmod_ok RP k g n j f N) (fun p0 w C N a J=>?_) (fun p0 w C N=>fun a l=>hQ _ _ _ (zT l ?_)));refine go fun a J=>?_;replace N:=N.ar [] [4,4,4,4,4,5];exact i _ _ ⟨p0,lv,J.pk,N,⟨⟨_,(jL (by rw [f];decide)).trans (zS C),.refl _⟩,(by rw [kZ (zS C)];exact hn)⟩⟩;replace N:=N.dl [0];rw [show jH T F.chg e s=none from vE ((jL (by rw [f];decide)).trans (yK C))];exact ⟨rfl,N⟩;rw [f] at J;refine Qq (fun a J=>?_) (o:=by exact fun J O=>qZ 5 J rfl rfl runUnderlying226 sizeOf201 (by decide) rfl);refine go fun a J=>?_;replace N:=N.ar [] [5,5,5,5,5]
 refine st J rfl rfl rfl (kY J rfl rfl call163 (j8z RP k g n j f N) (fun q0 w D N a J=>?_) (fun q0 w D N=>fun a l=>hQ _ _ _ (zT l ?_)));refine go fun a J=>?_;replace N:=N.ar [] [4,4,4,4,4,5];exact i _ _ ⟨q0,lv,J.pk,N,⟨⟨_,(jL (by rw [f];decide)).trans (zS D),.refl _⟩,(by rw [kZ (zS D)];exact hn)⟩⟩;replace N:=N.dl [0];rw [show jH T F.chg e s=none from vE ((jL (by rw [f];decide)).trans (yK D))];exact ⟨rfl,N⟩;rw [f] at J;refine Qq (fun a J=>?_) (o:=by exact fun J O=>qZ 6 J rfl rfl runUnderlying226 sizeOf201 (by decide) rfl);refine go fun a J=>?_;replace N:=N.ar [] [5,5,5,5,5];refine st J rfl rfl rfl (kY J rfl rfl call164 (j4k RP k g n j f N) (fun r0 w E N a J=>?_) (fun r0 w E N=>fun a l=>hQ _ _ _ (zT l ?_)));refine go fun a J=>?_;replace N:=N.ar [] [4,4,4,4,4,5];exact i _ _ ⟨r0,lv,J.pk,N,⟨⟨_,(jL (by rw [f];decide)).trans (zS E),.refl _⟩,(by rw [kZ (zS E)];exact hn)⟩⟩;replace N:=N.dl [0];rw [show jH T F.chg e s=none from vE ((jL (by rw [f];decide)).trans (yK E))];exact ⟨rfl,N⟩;rw [f] at J;refine Qq (fun a J=>?_) (o:=by exact fun J O=>qZ 7 J rfl rfl runUnderlying226 sizeOf201 (by decide) rfl);refine go fun a J=>?_;replace N:=N.ar [] [5,5,5,5,5];refine st J rfl rfl rfl (z9d J rfl rfl call165 (j4g RP k g n j f u1 G hn N) (fun Z0 A0 w S Z N a J=>?_) (fun Z0 w S N=>fun a l=>hQ _ _ _ (zT l ?_)));refine go fun a J=>?_;replace N:=N.ar [] [4,4,4,4,4,5];exact i _ _ ⟨A0.2,A0.1,J.pk,N,⟨⟨_,(z9s f).trans (zS S),Z.1⟩,Z.2⟩⟩;replace N:=N.dl [0]
 rw [show jH T F.chg e s=none from vE ((z9s f).trans (yK S))];exact ⟨rfl,N⟩;rw [f] at J;refine Qq (fun a J=>?_) (o:=by exact fun J O=>qZ 8 J rfl rfl runUnderlying226 sizeOf201 (by decide) rfl);refine go fun a J=>?_;replace N:=N.ar [] [5,5,5,5,5];refine st J rfl rfl rfl (kY J rfl rfl call166 (bret_ok RP k g n j f N) (fun s0 w H N a J=>?_) (fun s0 w H N=>fun a l=>hQ _ _ _ (zT l ?_)));refine go fun a J=>?_;replace N:=N.ar [] [4,4,4,4,4,5];exact i _ _ ⟨s0,lv,J.pk,N,⟨⟨_,(jL (by rw [f];decide)).trans (zS H),.refl _⟩,(by rw [kZ (zS H)];exact hn)⟩⟩;replace N:=N.dl [0];rw [show jH T F.chg e s=none from vE ((jL (by rw [f];decide)).trans (yK H))];exact ⟨rfl,N⟩;rw [f] at J;refine Qq (fun a J=>?_) (o:=by exact fun J O=>qZ 9 J rfl rfl runUnderlying226 sizeOf201 (by decide) rfl);refine go fun a J=>?_;replace N:=N.ar [] [5,5,5,5,5];refine st J rfl rfl rfl (kY J rfl rfl call167 (j4s RP k g n j f N) (fun t0 w I N a J=>?_) (fun t0 w I N=>fun a l=>hQ _ _ _ (zT l ?_)));refine go fun a J=>?_;replace N:=N.ar [] [4,4,4,4,4,5];exact i _ _ ⟨t0,lv,J.pk,N,⟨⟨_,(jL (by rw [f];decide)).trans (zS I),.refl _⟩,(by rw [kZ (zS I)];exact hn)⟩⟩;replace N:=N.dl [0];rw [show jH T F.chg e s=none from vE ((jL (by rw [f];decide)).trans (yK I))];exact ⟨rfl,N⟩;rw [f] at J;refine Qq (fun a J=>?_) (o:=by exact fun J O=>qZ 10 J rfl rfl runUnderlying226 sizeOf201 (by decide) rfl);refine go fun a J=>?_;replace N:=N.ar [] [5,5,5,5,5]
 refine st J rfl rfl rfl (kY J rfl rfl call168 (j9a RP k g n j f N) (fun u0 w L N a J=>?_) (fun u0 w L N=>fun a l=>hQ _ _ _ (zT l ?_)));refine go fun a J=>?_;replace N:=N.ar [] [4,4,4,4,4,5];exact i _ _ ⟨u0,lv,J.pk,N,⟨⟨_,(jL (by rw [f];decide)).trans (zS L),.refl _⟩,(by rw [kZ (zS L)];exact hn)⟩⟩;replace N:=N.dl [0];rw [show jH T F.chg e s=none from vE ((jL (by rw [f];decide)).trans (yK L))];exact ⟨rfl,N⟩;replace N:=N.dl [5,4,3,2,1,0];have V0:=of_decide_eq_false (zP b0);rw [show jH T F.chg e s=none from vE (z4r (by omega))];exact ⟨rfl,N⟩;refine go fun a J=>?_;refine st J rfl rfl rfl (cE J rfl call83 (zI N) (fun w N=>fun a l=>hQ _ _ _ (zT l ?_)));replace N:=N.dl [5,4,3,2,1,0];rw [show jH T F.chg e s=none from vE (z4r (by omega))];exact ⟨rfl,N⟩
theorem z4o (T:Trc):∀(n:Nat) (e:TE),zA e < n->y4o T e
 | 0,_,h=>absurd h (Nat.not_lt_zero _)
 | n+1,e,h=>q6m (fun a b=>z4o T n a.body (by have:=kM b;omega)) (fun x c=>z4o T n x (by have:=vN c;omega))
theorem j8w (T:Trc) (e:TE):y4o T e:=z4o T _ e (Nat.lt_succ_self _)
section
variable {T:Trc} {f:TFn} {m:List (Int×Int)} {sk y z:BS}
theorem fun_yes (a:OEqv ((⟨[],[],m⟩:BS).binds (f.params.map TPar.name) (f.params.map TPar.mod)) (some sk)) (J:jH T f.chg f.body sk=some z) (b:y.Eqv z):OEqv (aK T f m) (some y):=by
 refine (a.bind fun p q h=>BS.Eqv.expr T f.chg f.body h).trans ?_;rw [Option.bind_some,J];exact b.symm
theorem fun_bno (a:OEqv ((⟨[],[],m⟩:BS).binds (f.params.map TPar.name) (f.params.map TPar.mod)) none):aK T f m=none:=by
 rw [aK,a.none_iff.2 rfl];rfl
theorem fun_eno (a:OEqv ((⟨[],[],m⟩:BS).binds (f.params.map TPar.name) (f.params.map TPar.mod)) (some sk)) (J:jH T f.chg f.body sk=none):aK T f m=none:=by
 have h:=a.bind fun p q h=>BS.Eqv.expr T f.chg f.body h;rw [Option.bind_some,J] at h;exact h.none_iff.2 rfl
end
theorem j0r {Φ:Fz} {K:List Res} {w:World} {ms:Nat} {pa fa:Addr} {T:Trc} {m:List (Int×Int)} (RP:RProg Φ pa T ms) {fd:List Value} {F:TFn} (r:At Φ fa fd) (rf:RTFn Φ fd F) (G:Glob Φ) (N:Mem Φ (.imp ms (xZ m)::K) w) :
  Calls prog 86 #[.pointer (some pa),.pointer (some fa)] w (fun ee w'=>Out (xQ (aK T F m)) (fun z=>∃y:Value×BS,ee=.returned y.1/\y.2.Eqv z/\Mem Φ (.gs y.1 125 2 (vL y.2.list)::.imp ms (xZ y.2.sites)::K) w') (fun _=>ee=.panicked jK/\Mem Φ K w')):=by
 have A:=rf;obtain ⟨E0,P,S,g,v,q0,r0⟩:=RP.ex;obtain ⟨U,D,V,E,W,c23,X,H,rfl,e0,h9,F0,G0,H0,i0,s0,j0,t0,k0,u0,l0,w0⟩:=RTrc.fm v;replace g:At Φ pa [.slice U T.cons.length D,.slice V T.inputs.length E,.slice W T.funs.length c23,.slice X T.outputs.length H,.map (some P),.map (some S),.map (some ms)]:=g;obtain ⟨L0,c36,B0,rfl,I,l,m0,t⟩:=RTFn.fm rf;obtain ⟨M0,c44,N0,c50,O0,D0,rfl,f0,g0,I0,J0,K0,n0,x0,o0,y0,p0,z0⟩:=RTE.fm l;refine zJ func86 ntmps86 fun Q hQ a J=>?_;refine MkM fun j w N a J=>?_;replace N:=N.nf;refine MkM fun k w N a J=>?_;replace N:=N.nf;refine yE fun a J=>?_;refine Bx fun C w N a J=>?_;refine go fun a J=>?_;replace N:=N.nilRow 125 2;replace N:=N.nf;refine go fun a J=>?_;refine yO (J.ks [1,5,17,18]) N (fun R mm a w=>∃(h:Nat) (sk:BS) (i:Value),mm=F.params.length - h/\R Φ [(19,.int .i64 h)] [(0,.gs (i) 125 2 (vL sk.list)),(1,.blk C (ob [.pointer (some pa),.pointer (some fa),.map (some j),.map (some k),i] 199)),(2,.mp k (yB sk.kinds)),(3,.mp j (yB (vV sk.list))),(4,.imp ms (xZ sk.sites))] a w/\(OEqv ((⟨[],[],m⟩:BS).binds (F.params.map TPar.name) (F.params.map TPar.mod)) (sk.binds ((F.params.map TPar.name).drop h) ((F.params.map TPar.mod).drop h))/\NoK sk.kinds)) (F.params.length - 0) ⟨0,⟨[],[],m⟩,ZB,rfl,⟨J.pk,N⟩,⟨.refl _,List.nodup_nil⟩⟩ ?_;clear N J;rintro mm a w ⟨h,sk,i,L,⟨J,N⟩,b⟩ A0 q;replace N:=N.nf;by_cases n:h < F.params.length;refine go fun a J=>?_;obtain ⟨P0,rfl,B,e,b0,h0,d0,u⟩:=I.el t n;obtain rfl:=id u;refine Alc fun C0 w N a J=>?_;refine Sto 0 fun w N a J=>?_
 replace N:=N.ar [] [1,3,4,4];refine dB call127 (fun x Z w d c0 N a J=>?_) (fun x w d N=>?_) (c:=z1v (s:=sk) (nm:=B.name) (m:=B.mod) G N);rw [<- oE (zS d)] at N;refine go fun a J=>?_;replace N:=N.ar [4] [4,2,3,3,4];refine q _ _ _ (by subst L;omega) ⟨(h+1),(x),(Z),rfl,⟨J.pk,N⟩,?_⟩;exact ⟨z8q b.1 (by rw [List.getElem?_map,e];rfl) (by rw [List.getElem?_map,e];rfl) (zS d),z1x (zS d) b.2⟩;replace N:=N.dl [1,0];rw [show aK T F m=none from fun_bno (q0u b.1 (by rw [List.getElem?_map,e];rfl) (by rw [List.getElem?_map,e];rfl) (yK d))];exact ⟨rfl,N⟩;refine go fun a J=>?_;have o:=y5b b.1 (by rw [List.length_map];exact n);replace N:=N.ar [] [4,1,3,4,4];refine dB call128 (fun Y a0 w f p N a J=>?_) (fun Y w f N=>?_) (c:=j8w T F.body RP r A (At.part3 r) l G b.2 N);refine yG ?_;replace N:=N.dl [2,1,0];exact j2m (fun_yes o (zS f) p.1) fun z_ M=>⟨a0,rfl,M,N⟩;rw [show aK T F m=none from fun_eno o (yK f)];exact ⟨rfl,N⟩
theorem y7b {deep:Nat}:∀{l:List TE} {n m:Nat},n<=20000->(∀x∈l,∀n m,kJ x deep n=some m->m<=20000)->sizeTs l deep n=some m->m<=20000
 | [],n,m,h,_,e=>by simp only [sizeTs,Option.some.injEq] at e;omega
 | x::l,n,m,h,a,e=>by
  rw [sizeTs] at e;obtain ⟨k,b,c⟩:=Option.bind_eq_some_iff.1 e;exact y7b (a x msQ _ _ b) (fun y d=>a y (mcQ _ d)) c
theorem y6z {deep:Nat}:∀{l:List TA} {n m:Nat},n<=20000->(∀x∈l,∀n m,kJ x.body deep n=some m->m<=20000)->sizeTa l deep n=some m->m<=20000
 | [],n,m,h,_,e=>by simp only [sizeTa,Option.some.injEq] at e;omega
 | x::l,n,m,h,a,e=>by
  rw [tR] at e;obtain ⟨k,b,c⟩:=Option.bind_eq_some_iff.1 e;exact y6z (a x msQ _ _ b) (fun y d=>a y (mcQ _ d)) c
theorem z5k:∀(k:Nat) (e:TE),zA e < k->∀(deep n m:Nat),kJ e deep n=some m->m<=20000
 | 0,_,h=>absurd h (Nat.not_lt_zero _)
 | k+1,e,f=>fun deep n m h=>by
  rw [z3v] at h;split at h
  rename_i d;obtain ⟨q,b,c⟩:=Option.bind_eq_some_iff.1 h;exact y6z (y7b d.1 (fun x a n m J=>z5k k x (by have:=vN a;omega) _ _ _ J) b) (fun x a n m J=>z5k k x.body (by have:=kM a;omega) _ _ _ J) c;cases h
theorem y2q {e:TE} {deep n m:Nat} (h:kJ e deep n=some m):m<=20000:=z5k _ e (Nat.lt_succ_self _) _ _ _ h
theorem y7a {l:List TE} {i:Nat} {x:TE} {deep n:Nat} (h:l[i]? = some x):sizeTs (l.drop i) deep n=(kJ x deep n).bind (sizeTs (l.drop (i+1)) deep):=by rw [yM h,sizeTs]
theorem y6y {l:List TA} {i:Nat} {x:TA} {deep n:Nat} (h:l[i]? = some x):sizeTa (l.drop i) deep n=(kJ x.body deep n).bind (sizeTa (l.drop (i+1)) deep):=by rw [yM h,tR]
theorem q5a {e:TE} {deep n:Nat} (h:n+1<=20000) (a:deep<=20000):kJ e deep n=(sizeTs (e.body.drop 0) (deep+1) (n+1)).bind (sizeTa e.arms (deep+1)):=by rw [z3v,if_pos ⟨h,a⟩];rfl
theorem q4z {e:TE} {deep n:Nat} (h:¬(n+1<=20000/\deep<=20000)):kJ e deep n=none:=by rw [z3v,if_neg h]
def q0b (e:TE):Prop:=∀{Φ:Fz} {K:List Res} {w:World} {bc:Nat} {a:Addr} {d:List Value} {deep n:Nat},At Φ a d->RTE Φ d e->n<=20000->deep<=20001->Mem Φ (.blk bc (ob [.int .i64 n] 3)::K) w ->
  Calls prog 84 #[.pointer (some a),.int .i64 deep,.pointer (some ⟨bc,0,none⟩)] w (fun ee w'=>Out (xQ (kJ e deep n)) (fun m=>ee=.returned (.tuple #[])/\Mem Φ (.blk bc (ob [.int .i64 ((m:Nat):Int)] 3)::K) w') (fun _=>ee=.panicked jK/\Mem Φ K w'))
theorem j7f {e:TE} (P:∀a∈e.arms,q0b a.body) (S:∀x∈e.body,q0b x):q0b e:=by
 intro Φ K w bc U0 d deep n P0 re hn hd N;obtain ⟨p3,c4,p9,C0,V0,D0,rfl,d0,e0,h2,h8,M,Q0,R0,j0,E,k0,F⟩:=RTE.fm re;refine zJ func84 ntmps84 fun Q hQ a J=>?_;refine Sto 0 fun w N a J=>?_;by_cases H0:(n+1)<=20000;refine Qq (fun a J=>?_) (o:=by exact fun J O=>mZ (i:=deep) (j:=20000) J rfl rfl);refine yF call83 (fun X w k N a J=>?_) (fun X w k N=>?_) (c:=yC (b:=(decide (deep<=20000))) N);refine go fun a J=>?_;have c0:=of_decide_eq_true (zC k);refine yO (J.ks [0,1,2,26]) N (fun R mm a w=>∃(t:Nat) (H:Nat),mm=e.body.length - t/\R Φ [(27,.int .i64 t)] [(0,.blk bc (ob [.int .i64 H] 3))] a w/\(kJ e deep n=(sizeTs (e.body.drop t) (deep+1) H).bind (sizeTa e.arms (deep+1))/\H<=20000)) (e.body.length - 0) ⟨0,n+1,rfl,⟨J.pk,N⟩,⟨q5a (by omega) (of_decide_eq_true (zC k)),by omega⟩⟩ ?_;clear N J;rintro mm a w ⟨t,H,s,⟨J,N⟩,g⟩ z0 A;replace N:=N.nf;by_cases v:t < e.body.length;refine go fun a J=>?_;obtain ⟨d1,rfl,f1,m,Z,h0,C,q⟩:=M.el F v;obtain ⟨X0,c45,Y0,c51,Z0,E0,rfl,f0,g0,I0,J0,K0,l0,r0,m0,s0,n0,t0⟩:=RTE.fm q;refine yF call84 (fun L w l N a J=>?_) (fun L w l N=>?_) (c:=S _ (mgQ m) C q g.2 (by omega) N);refine go fun a J=>?_;refine A _ _ _ (by subst s;omega) ⟨(t+1),(L),rfl,⟨J.pk,N⟩,?_⟩;exact ⟨by rw [g.1,y7a m,zS l];rfl,y2q (zS l)⟩;rw [show kJ e deep n=none from (by rw [g.1,y7a m,yK l];rfl)];exact ⟨rfl,N⟩;refine go fun a J=>?_
 refine yO (J.ks [0,1,2,45]) N (fun R mm a w=>∃(u:Nat) (I:Nat),mm=e.arms.length - u/\R Φ [(46,.int .i64 u)] [(0,.blk bc (ob [.int .i64 I] 3))] a w/\(kJ e deep n=sizeTa (e.arms.drop u) (deep+1) I/\I<=20000)) (e.arms.length - 0) ⟨0,H,rfl,⟨J.pk,N⟩,⟨by rw [g.1,qV v];rfl,g.2⟩⟩ ?_;clear N J;rintro mm a w ⟨u,I,s,⟨J,N⟩,h⟩ A0 B;replace N:=N.nf;by_cases y:u < e.arms.length;refine go fun a J=>?_;obtain ⟨e1,rfl,g1,p,a0,i0,D,G⟩:=h8.el E y;obtain ⟨a1,c83,B0,rfl,M0,z,o0,u0⟩:=RTA.fm G;obtain ⟨b1,F0,c1,G0,y0,Y,rfl,T,U,N0,O0,b0,p0,w0,q0,x0,V,W⟩:=RTE.fm z;refine yF call84 (fun r w f N a J=>?_) (fun r w f N=>?_) (c:=P _ (mgQ p) (At.part2 D) z h.2 (by omega) N);refine go fun a J=>?_;refine B _ _ _ (by subst s;omega) ⟨(u+1),(r),rfl,⟨J.pk,N⟩,?_⟩;exact ⟨by rw [h.1,y6y p,zS f];rfl,y2q (zS f)⟩;rw [show kJ e deep n=none from (by rw [h.1,y6y p,yK f];rfl)];exact ⟨rfl,N⟩;refine go fun a J=>?_;refine hQ _ _ _ (yN J results84 ?_);rw [show kJ e deep n=some I from by rw [h.1,qV y];rfl];exact ⟨rfl,N⟩;replace N:=N.dl [0];have S0:=of_decide_eq_false (zP k);rw [show kJ e deep n=none from q4z (by omega)];exact ⟨rfl,N⟩;refine qI call83 (fun w N=>?_) (c:=zI N);replace N:=N.dl [0];rw [show kJ e deep n=none from q4z (by omega)];exact ⟨rfl,N⟩
theorem z5j:∀(k:Nat) (e:TE),zA e < k->q0b e
 | 0,_,h=>absurd h (Nat.not_lt_zero _)
 | k+1,e,h=>j7f (fun a b=>z5j k a.body (by have:=kM b;omega)) (fun x c=>z5j k x (by have:=vN c;omega))
theorem size_ok (e:TE):q0b e:=z5j _ e (Nat.lt_succ_self _)
theorem x4m {Φ:Fz} {l:List Bs} {q:Option Addr} {c i:Nat} (h:SliceOf RStr Φ 1 (.slice q l.length c) l) (hi:i < l.length):SliceOf RStr Φ 1 (.slice q i c) (l.take i):=by
 rw [SliceOf.strs] at h ⊢;rcases h with ⟨h,b⟩ | ⟨p,m,c',e,b,f,g⟩
 ·injection h with r b f;omega
 ·injection e with d e2 e3
  subst d;subst e2;subst e3;rw [pF] at b;refine .inr ⟨p,i,_,rfl,by simp [pF];omega,by omega,fun o=>?_⟩;have hl:strs l≠[]:=fun e=>by have:=congrArg List.length e;rw [pF] at this;simp only [lnQ] at this;omega
  obtain ⟨O,arr,T,fr,k,n⟩:=g hl;refine ⟨O,arr,T,fr,k,fun j v a=>n j v ?_⟩;rw [strs,List.map_take] at a;rw [List.getElem?_take] at a;split at a
  ·exact a
  ·cases a
theorem j0i {n:Nat} {E:List (Nat×Value)} {D:List Deferred} {a:Act} {x hi:Operand} {t e ty:TypeId} {q:Option Addr} {m c i:Nat} {w:World} {P:Program} (J:EnvR n E D a) (g:ev E x=some (.slice q m c)) (d:ev E hi=some (.int .i64 i))
  (f:Under P t (.slice e)) (O:SizeT P e 1) (b:i<=c):Ok P a (.slice t x none (some hi) none) ty w (.slice q i c):=fun _ _ _ _=>by
 simp only [execOp,J.ev g,Option.map_some,Option.map_none,J.ev d,Instr.sliceAt]
 simp [Sem.run_bind,f w,O w,Instr.slice,Instr.sliceBounds,Instr.sliceBound,asIntOf,Result.andThen,Addr.add,b]
theorem ixM_any {α:Type} {nm:α->Bs} {n:Bs}:∀{l:List α} {i:Nat},zK (ixM nm i l) n=none↔(l.any fun x=>decide (nm x=n))=false
 | [],_=>by simp [ixM,zK]
 | x::l,i=>by
  rw [ixM,zK,List.any_cons];by_cases h:n=nm x
  ·rw [if_pos h,decide_eq_true h.symm];simp
  ·rw [if_neg h,decide_eq_false (fun e=>h e.symm),Bool.false_or];exact ixM_any
theorem j2a {α:Type} {nm:α->Bs} {x:α}:∀{l:List α} {i:Nat},zK (ixM nm i l) (nm x)=none->qT (ixM nm i l) (nm x) ((i+l.length:Nat):Int)=ixM nm i (l++[x])
 | [],i,_=>by simp [ixM,qT]
 | y::l,i,h=>by
  rw [ixM,zK] at h;split at h
  ·cases h
  ·rename_i a
   rw [ixM,qT,if_neg a,List.cons_append,ixM,<- j2a h];rw [show i+(y::l).length=i+1+l.length by simp only [lcQ];omega]
theorem z2u {α:Type} {nm:α->Bs} {x:α} {l:List α} {i:Nat} (b:l[i]? = some x) (h:zK (ixM nm 0 (l.take i)) (nm x)=none):qT (ixM nm 0 (l.take i)) (nm x) (i:Int)=ixM nm 0 (l.take (i+1)):=by
 have hi:i < l.length:=(List.getElem?_eq_some_iff.1 b).1;have a:=j2a (x:=x) h;rw [List.length_take,Nat.min_eq_left (Nat.le_of_lt hi),Nat.zero_add] at a;rw [a,jJ b]
def TyN (l:List TCon) (t:List (Bs×Int)):Prop:=∀n,(zK t n).getD 0=(((l.filter fun c=>decide (c.type=n)).length:Nat):Int)
theorem TyN.start:TyN [] []:=fun _=>rfl
theorem TyN.le {l:List TCon} {t:List (Bs×Int)} (h:TyN l t) (n:Bs):0<=(zK t n).getD 0/\(zK t n).getD 0<=(l.length:Int):=by
 rw [h n];exact ⟨Int.natCast_nonneg _,by have:=List.length_filter_le (fun c:TCon=>decide (c.type=n)) l;omega⟩
theorem TyN.next {l:List TCon} {t:List (Bs×Int)} {c:TCon} (h:TyN l t):TyN (l++[c]) (qT t c.type ((zK t c.type).getD 0+1)):=fun n=>by
 rw [yJ,List.filter_append,laQ];by_cases e:n=c.type
 ·subst e;rw [if_pos rfl,h];simp
 ·rw [if_neg e,h];rw [List.filter_cons,if_neg (by simpa using fun q:c.type=n=>e q.symm)];simp
theorem TyN.zero {l:List TCon} {t:List (Bs×Int)} {n:Bs} (h:TyN l t):((zK t n).getD 0=0)↔(l.any fun c=>decide (c.type=n))=false:=by
 rw [h n,List.any_eq_false];constructor
 ·intro q x a b
  have:(l.filter fun c=>decide (c.type=n)).length=0:=by omega
  have:=List.eq_nil_of_length_eq_zero this;have N:x∈l.filter fun c=>decide (c.type=n):=List.mem_filter.2 ⟨a,b⟩;rw [this] at N;cases N
 ·intro q
  have:l.filter (fun c=>decide (c.type=n))=[]:=List.filter_eq_nil_iff.2 fun x a=>q x a;rw [this];rfl
def z0n (l:List TCon) (i:Nat) (c:TCon):Bool := !((l.take i).any fun d=>decide (d.name=c.name))&&z0s c.name&&z0s c.type&&decide (c.fields.length<=16)
section
variable {l:List TCon} {i:Nat} {c d:TCon}
theorem conOk_0:nB l 0 c=z0n l 0 c:=by simp [nB,z0n]
theorem j9h (hi:¬i=0) (a:l[i - 1]? = some d) (h:d.type=c.type):nB l i c=z0n l i c:=by
 cases i with
 | zero=>exact absurd rfl hi
 | succ k=>rw [Nat.add_sub_cancel] at a;simp [nB,z0n,a,h]
theorem q1g (hi:¬i=0) (a:l[i - 1]? = some d) (h:¬d.type=c.type):nB l i c=(z0n l i c && !((l.take i).any fun d=>decide (d.type=c.type))):=by
 cases i with
 | zero=>exact absurd rfl hi
 | succ k=>rw [Nat.add_sub_cancel] at a;simp [nB,z0n,a,h]
theorem z2e (h:z0n l i c=false):nB l i c=false:=by
 unfold nB;unfold z0n at h;rw [h,Bool.false_and]
end
def inOk (T:Trc) (i:Nat) (n:Bs):Bool:=vC n && !(T.inputs.take i).contains n
def z9j (T:Trc) (i:Nat) (f:TFn):Bool := !((T.funs.take i).any fun g=>decide (g.name=f.name))&&vC f.name&&decide (f.params.length<=16)
section
variable {T:Trc}
theorem j5u (a:∀i c,i < T.cons.length->T.cons[i]? = some c->nB T.cons i c=true) (b:∀i n,i < T.inputs.length->T.inputs[i]? = some n->inOk T i n=true)
  (d:∀i f,i < T.funs.length->T.funs[i]? = some f->z9j T i f=true) (e:T.outputs.all (mT T)=true):qC T=true:=by
 simp only [qC,baQ];refine ⟨⟨⟨List.all_eq_true.2 fun i hi=>?_,List.all_eq_true.2 fun i hi=>?_⟩,List.all_eq_true.2 fun i hi=>?_⟩,e⟩
 ·rw [List.mem_range] at hi;simp only [List.getElem?_eq_getElem hi];exact a i _ hi (List.getElem?_eq_getElem hi)
 ·rw [List.mem_range] at hi;simp only [List.getElem?_eq_getElem hi];exact b i _ hi (List.getElem?_eq_getElem hi)
 ·rw [List.mem_range] at hi;simp only [List.getElem?_eq_getElem hi];exact d i _ hi (List.getElem?_eq_getElem hi)
theorem gM {i:Nat} {c:TCon} (b:T.cons[i]? = some c) (h:nB T.cons i c=false):qC T=false:=by
 rw [<- Bool.not_eq_true];intro a;rw [z4s a b] at h;cases h
theorem y5q {i:Nat} {n:Bs} (c:T.inputs[i]? = some n) (h:inOk T i n=false):qC T=false:=by
 rw [<- Bool.not_eq_true];intro b;simp only [qC,baQ] at b;have a:=List.all_eq_true.1 b.1.1.2 i (List.mem_range.2 (List.getElem?_eq_some_iff.1 c).1);simp only [c] at a;rw [inOk] at h;rw [h] at a;cases a
theorem z4t {i:Nat} {f:TFn} (c:T.funs[i]? = some f) (h:z9j T i f=false):qC T=false:=by
 rw [<- Bool.not_eq_true];intro b;simp only [qC,baQ] at b;have a:=List.all_eq_true.1 b.1.2 i (List.mem_range.2 (List.getElem?_eq_some_iff.1 c).1);simp only [c] at a;rw [z9j] at h;rw [h] at a;cases a
theorem z4u {i:Nat} {n:Bs} (b:T.outputs[i]? = some n) (h:mT T n=false):qC T=false:=by
 rw [<- Bool.not_eq_true];intro a;simp only [qC,baQ] at a;rw [List.all_eq_true.1 a.2 n (mgQ b)] at h;cases h
theorem x2v {n:Bs} (h:zK (aP T) n=none):mT T n=false:=by rw [mT,j1f (gQ h)]
theorem q8y {n:Bs} {j:Nat} {f:TFn} (h:T.funs.findIdx? (fun f=>decide (f.name=n))=some j) (a:T.funs[j]? = some f):mT T n=(f.chg&&decide (f.params.length=0)):=by rw [mT,j1e h a]
theorem j6q {i:Nat} {n:Bs} (h:T.outputs.all (mT T)=(T.outputs.drop i).all (mT T)) (b:T.outputs[i]? = some n) (a:mT T n=true):T.outputs.all (mT T)=(T.outputs.drop (i+1)).all (mT T):=by
 rw [h,yM b,List.all_cons,a,Bool.true_and]
end
theorem hO {α:Type} {p:Nat->α->Bool} {l:List α} {i:Nat} {x:α} (h:∀k y,k < i->l[k]? = some y->p k y=true) (c:l[i]? = some x) (b:p i x=true):∀k y,k < i+1->l[k]? = some y->p k y=true:=fun k y d a=>by
 by_cases e:k=i
 ·subst e;rw [c] at a;cases a;exact b
 ·exact h k y (by omega) a
theorem z1l {α:Type} {p:Nat->α->Bool} {l:List α}:∀k y,k < 0->l[k]? = some y->p k y=true:=fun k _ h=>absurd h (Nat.not_lt_zero k)
theorem y2z {α:Type} {p:Nat->α->Bool} {l:List α} {i:Nat} (h:∀k y,k < i->l[k]? = some y->p k y=true) (hi:¬i < l.length):∀k y,k < l.length->l[k]? = some y->p k y=true:=fun k y b a=>h k y (by omega) a
theorem q7c {l:List TCon} {i:Nat} {c:TCon} {y:Int} (h:zK (ixM TCon.name 0 (l.take i)) c.name=some y):z0n l i c=false:=by
 have:((l.take i).any fun d=>decide (d.name=c.name))=true:=by
  rw [<- Bool.not_eq_false,<- ixM_any (i:=0),h];intro q;cases q
 rw [z0n,this];rfl
theorem q7r {T:Trc} {i:Nat} {f:TFn} {y:Int} (h:zK (ixM TFn.name 0 (T.funs.take i)) f.name=some y):z9j T i f=false:=by
 have:((T.funs.take i).any fun g=>decide (g.name=f.name))=true:=by
  rw [<- Bool.not_eq_false,<- ixM_any (i:=0),h];intro q;cases q
 rw [z9j,this];rfl
theorem x1u {Φ:Fz} {K:List Res} {w:World} {bp mc mf ms:Nat} {tc:List Value} {T:Trc} (M1:RTrc Φ tc T) (G:Glob Φ) (N:Mem Φ (.blk bp (ob (tc++[.map (some mc),.map (some mf),.map (some ms)]) 160)::.mp mc []::.mp mf []::K) w) :
  Calls prog 85 #[.pointer (some ⟨bp,0,none⟩)] w (fun ee w'=>Out (dem (qC T)) (fun _=>ee=.returned (.tuple #[])/\Mem Φ (.blk bp (ob (tc++[.map (some mc),.map (some mf),.map (some ms)]) 160)::.mp mc (yB (dF T))::.mp mf (yB (aP T))::K) w') (fun _=>ee=.panicked jK/\Mem Φ K w')):=by
 obtain ⟨p3,c4,p9,c1,X2,R2,Y2,c22,rfl,O0,h2,h8,H0,f1,W2,I1,u2,P0,v2,i0,w2,Q0⟩:=RTrc.fm M1;replace N:=N.nf;refine zJ func85 ntmps85 fun Q hQ a J=>?_;refine MkM fun b1 w N a J=>?_;replace N:=N.nf;refine go fun a J=>?_;refine yO (J.ks [0,2,22,23]) N (fun R mm a w=>∃(i:Nat) (ty:List (Bs×Int)),mm=T.cons.length - i/\R Φ [(24,.int .i64 i)] [(0,.mp b1 (yB ty)),(2,.mp mc (yB (ixM TCon.name 0 (T.cons.take i))))] a w/\((∀k y,k < i->T.cons[k]? = some y->nB T.cons k y=true)/\TyN (T.cons.take i) ty)) (T.cons.length - 0) ⟨0,[],rfl,⟨J.pk,N⟩,⟨z1l,TyN.start⟩⟩ ?_;clear N J;rintro mm a w ⟨i,ty,t,⟨J,N⟩,g⟩ O2 Y;replace N:=N.nf;by_cases p0:i < T.cons.length;refine go fun a J=>?_;obtain ⟨b3,rfl,e,f,d2,s2,q2,R0⟩:=h2.el I1 p0;obtain ⟨Z2,S2,rfl,U2,x2,z2⟩:=RTCon.fm R0;refine Alc fun Q2 w N a J=>?_;refine Sto 0 fun w N a J=>?_;refine Reg [1,1,1,2,1,2,2,1,1,1,1,1] [0,1,2,3,4] fun w N a J=>?_;refine go fun a J=>?_;rcases m:jR ((yB (ixM TCon.name 0 (T.cons.take i)))) e.name with _ | M2
 have A:=congrArg (yA true (ZA)) m;refine Qq (fun a J=>?_) (o:=by exact fun J O=>Ok.cast (qB 3 runUnderlying98 runUnderlying9 zeroValue3 J O rfl rfl rfl) (show yA true (ZA) (jR ((yB (ixM TCon.name 0 (T.cons.take i)))) e.name)=.tuple #[ZA,.bool false] from A));refine zE call125 (fun w N a J=>?_) (c:=y5s G N);refine go fun a J=>?_;generalize I:(z0s e.name)=E0 at J;cases E0;refine qI call83 (fun w N=>?_) (c:=zI N);replace N:=N.dl [4,3,2,1,0];rw [show qC T=false from gM f (z2e (by simp [z0n,I])),show dem false=.error () from rfl];exact ⟨rfl,N⟩;refine zE call125 (fun w N a J=>?_) (c:=y5s G N);refine go fun a J=>?_;generalize a0:(z0s e.type)=F0 at J;cases F0;refine qI call83 (fun w N=>?_) (c:=zI N);replace N:=N.dl [4,3,2,1,0];rw [show qC T=false from gM f (z2e (by simp [z0n,I,a0])),show dem false=.error () from rfl];exact ⟨rfl,N⟩;refine Qq (fun a J=>?_) (o:=by exact fun J O=>mZ (i:=e.fields.length) (j:=16) J rfl rfl);refine yF call83 (fun J1 w b0 N a J=>?_) (fun J1 w b0 N=>?_) (c:=yC (b:=(decide (e.fields.length<=16))) N);refine Reg [1,1,1,2,1,2,1,0] [0,1,2,3,4] fun w N a J=>?_;have V:z0n T.cons i e=true:=by have P:=ixM_any.1 (vY m);have v:=zC b0;simp only [z0n,P,v,I,a0];rfl
 refine uU 3 runUnderlying98 runUnderlying9 fun w N a J=>?_;rw [pB (ixM TCon.name 0 (T.cons.take i)) e.name ((i:Nat):Int)] at N;refine Reg [1,1,1,1,1,1,1,2,1,1,1,1,2,1,2,1,1] [0,1,2,3,4] fun w N a J=>?_;by_cases U:i=0;refine Qq (fun a J=>?_) (o:=by exact fun J O=>Ok.cast (qB 1 runUnderlying98 runUnderlying9 zeroValue3 J O rfl rfl rfl) (vX ty e.type));refine Qq (fun a J=>?_) (o:=by exact fun J O=>vQ J rfl rfl);refine yF call83 (fun K1 w j0 N a J=>?_) (fun K1 w j0 N=>?_) (c:=yC (b:=(decide (((zK ty e.type).getD 0)=0))) N);refine Qq (fun a J=>?_) (o:=by exact fun J O=>Ok.cast (qB 1 runUnderlying98 runUnderlying9 zeroValue3 J O rfl rfl rfl) (vX ty e.type));refine Qq (fun a J=>?_) (o:=by exact fun J O=>tW ((zK ty e.type).getD 0+1) J rfl rfl (by have h_:=g.2.le e.type;rw [List.length_take] at h_;rw [aM (by omega)]));refine uU 1 runUnderlying98 runUnderlying9 fun w N a J=>?_;rw [pB ty e.type ((zK ty e.type).getD 0+1)] at N;refine go fun a J=>?_;rw [z2u f (vY m)] at N;replace N:=N.dl [0];refine Y _ _ _ (by subst t;omega) ⟨(i+1),((qT ty e.type ((zK ty e.type).getD 0+1))),rfl,⟨J.pk,N⟩,?_⟩;exact ⟨hO g.1 f (by have h_:=V;rw [U] at h_ ⊢;rw [conOk_0];exact h_),by rw [jJ f];exact g.2.next⟩;replace N:=N.dl [4,3,2,1,0];exact absurd (g.2.zero.2 (by rw [U];rfl)) (show ¬(zK ty e.type).getD 0=0 from of_decide_eq_false (zP j0));refine Qq (fun a J=>?_) (o:=by exact fun J O=>z4f ((i - 1:Nat):Int) J rfl rfl (by rw [aM (by omega)];omega));have K0:i - 1 < T.cons.length:=by omega
 obtain ⟨P1,L⟩:=zW K0;obtain ⟨e2,t2,r2,S0⟩:=h2.elem L;obtain ⟨a3,T2,rfl,V2,y2,A2⟩:=RTCon.fm S0;by_cases q0:P1.type=e.type;refine Qq (fun a J=>?_) (o:=by exact fun J O=>Ok.cast (qB 1 runUnderlying98 runUnderlying9 zeroValue3 J O rfl rfl rfl) (vX ty e.type));refine Qq (fun a J=>?_) (o:=by exact fun J O=>tW ((zK ty e.type).getD 0+1) J rfl rfl (by have h_:=g.2.le e.type;rw [List.length_take] at h_;rw [aM (by omega)]));refine uU 1 runUnderlying98 runUnderlying9 fun w N a J=>?_;rw [pB ty e.type ((zK ty e.type).getD 0+1)] at N;refine go fun a J=>?_;rw [z2u f (vY m)] at N;replace N:=N.dl [0];refine Y _ _ _ (by subst t;omega) ⟨(i+1),((qT ty e.type ((zK ty e.type).getD 0+1))),rfl,⟨J.pk,N⟩,?_⟩;exact ⟨hO g.1 f (by rw [j9h U L q0];exact V),by rw [jJ f];exact g.2.next⟩;refine Qq (fun a J=>?_) (o:=by exact fun J O=>Ok.cast (qB 1 runUnderlying98 runUnderlying9 zeroValue3 J O rfl rfl rfl) (vX ty e.type));refine Qq (fun a J=>?_) (o:=by exact fun J O=>vQ J rfl rfl);refine yF call83 (fun L1 w c0 N a J=>?_) (fun L1 w c0 N=>?_) (c:=yC (b:=(decide (((zK ty e.type).getD 0)=0))) N);refine Qq (fun a J=>?_) (o:=by exact fun J O=>Ok.cast (qB 1 runUnderlying98 runUnderlying9 zeroValue3 J O rfl rfl rfl) (vX ty e.type));refine Qq (fun a J=>?_) (o:=by exact fun J O=>tW ((zK ty e.type).getD 0+1) J rfl rfl (by have h_:=g.2.le e.type;rw [List.length_take] at h_;rw [aM (by omega)]));refine uU 1 runUnderlying98 runUnderlying9 fun w N a J=>?_;rw [pB ty e.type ((zK ty e.type).getD 0+1)] at N;refine go fun a J=>?_
 rw [z2u f (vY m)] at N;replace N:=N.dl [0];refine Y _ _ _ (by subst t;omega) ⟨(i+1),((qT ty e.type ((zK ty e.type).getD 0+1))),rfl,⟨J.pk,N⟩,?_⟩;exact ⟨hO g.1 f (by have P:=g.2.zero.1 (of_decide_eq_true (zC c0));rw [q1g U L q0,V,P];rfl),by rw [jJ f];exact g.2.next⟩;replace N:=N.dl [4,3,2,1,0];rw [show qC T=false from gM f (by rw [q1g U L q0,(by simpa using mt g.2.zero.2 (show ¬(zK ty e.type).getD 0=0 from of_decide_eq_false (zP c0)):((T.cons.take i).any fun d=>decide (d.type=e.type))=true),Bool.not_true,Bool.and_false]),show dem false=.error () from rfl];exact ⟨rfl,N⟩;replace N:=N.dl [4,3,2,1,0];have H:=zP b0;rw [show qC T=false from gM f (z2e (by simp [z0n,H,I,a0])),show dem false=.error () from rfl];exact ⟨rfl,N⟩;obtain ⟨Q1,U0,rfl⟩:=mG m;have A:=congrArg (yA true (ZA)) m;refine Qq (fun a J=>?_) (o:=by exact fun J O=>Ok.cast (qB 3 runUnderlying98 runUnderlying9 zeroValue3 J O rfl rfl rfl) (show yA true (ZA) (jR ((yB (ixM TCon.name 0 (T.cons.take i)))) e.name)=.tuple #[.int .i64 (Q1),.bool true] from A));refine qI call83 (fun w N=>?_) (c:=zI N);replace N:=N.dl [4,3,2,1,0];rw [show qC T=false from gM f (z2e (q7c U0)),show dem false=.error () from rfl];exact ⟨rfl,N⟩;refine go fun a J=>?_;replace N:=N.dl [0];rw [<- show dF T=ixM TCon.name 0 (T.cons.take i) from by rw [dF,List.take_of_length_le (Nat.le_of_not_lt p0)]] at N;have L0:=y2z (p:=nB T.cons) g.1 p0;refine go fun a J=>?_
 refine yO (J.ks [0,98,99]) N (fun R mm a w=>∃(i:Nat),mm=T.inputs.length - i/\R Φ [(100,.int .i64 i)] [] a w/\(∀k y,k < i->T.inputs[k]? = some y->inOk T k y=true)) (T.inputs.length - 0) ⟨0,rfl,⟨J.pk,N⟩,z1l⟩ ?_;clear N J;rintro mm a w ⟨i,t,⟨J,N⟩,h0⟩ P2 J0;by_cases f0:i < T.inputs.length;refine go fun a J=>?_;obtain ⟨d3,rfl,D0,d0,n0,o1,g1,w0⟩:=h8.el P0 f0;obtain rfl:n0=[.string D0]:=w0;refine zE call126 (fun w N a J=>?_) (c:=z0t G N);refine go fun a J=>?_;generalize x:(vC D0)=k0 at J;cases k0;refine qI call83 (fun w N=>?_) (c:=zI N);replace N:=N.dl [2,1,0];rw [show qC T=false from y5q d0 (by simp [inOk,x]),show dem false=.error () from rfl];exact ⟨rfl,N⟩;have A0:=x4m h8 f0;refine Qq (fun a J=>?_) (o:=by exact fun J O=>j0i J rfl rfl runUnderlying23 sizeOf9 (Nat.le_of_lt (Nat.lt_of_lt_of_le f0 (show T.inputs.length<=c1 from O0))));refine zE call87 (fun w N a J=>?_) (c:=oV A0 N);refine yF call83 (fun X0 w C N a J=>?_) (fun X0 w C N=>?_) (c:=yC (b:=(!((((T.inputs.take i)).contains D0)))) N);refine go fun a J=>?_;refine J0 _ _ _ (by subst t;omega) ⟨(i+1),rfl,⟨J.pk,N⟩,?_⟩;exact hO h0 d0 (by have v:=zC C;simp only [inOk,v,x];rfl);replace N:=N.dl [2,1,0];have H:=zP C;rw [show qC T=false from y5q d0 (by simp [inOk,H,x]),show dem false=.error () from rfl];exact ⟨rfl,N⟩;have M0:=y2z (p:=inOk T) h0 f0;refine go fun a J=>?_
 refine yO (J.ks [0,125,126]) N (fun R mm a w=>∃(i:Nat),mm=T.funs.length - i/\R Φ [(127,.int .i64 i)] [(2,.mp mf (yB (ixM TFn.name 0 (T.funs.take i))))] a w/\(∀k y,k < i->T.funs[k]? = some y->z9j T k y=true)) (T.funs.length - 0) ⟨0,rfl,⟨J.pk,N⟩,z1l⟩ ?_;clear N J;rintro mm a w ⟨i,t,⟨J,N⟩,W⟩ R1 s0;replace N:=N.nf;by_cases S:i < T.funs.length;refine go fun a J=>?_;obtain ⟨J2,rfl,h,n,d1,p1,h1,x0⟩:=H0.el i0 S;obtain ⟨B2,W1,T1,rfl,f2,G0,s1,A1⟩:=RTFn.fm x0;obtain ⟨C2,X1,D2,c143,E2,Y1,rfl,k1,l1,g2,i2,j2,t1,B1,u1,C1,v1,D1⟩:=RTE.fm G0;refine Alc fun U1 w N a J=>?_;refine Sto 0 fun w N a J=>?_;refine Reg [1,1,1,2,1,2,2,1,1,1,1,1] [0,1,2,3] fun w N a J=>?_;refine go fun a J=>?_;rcases l:jR ((yB (ixM TFn.name 0 (T.funs.take i)))) h.name with _ | N1
 have q:=congrArg (yA true (ZA)) l;refine Qq (fun a J=>?_) (o:=by exact fun J O=>Ok.cast (qB 3 runUnderlying98 runUnderlying9 zeroValue3 J O rfl rfl rfl) (show yA true (ZA) (jR ((yB (ixM TFn.name 0 (T.funs.take i)))) h.name)=.tuple #[ZA,.bool false] from q));refine zE call126 (fun w N a J=>?_) (c:=z0t G N);refine go fun a J=>?_;generalize z:(vC h.name)=l0 at J;cases l0;refine qI call83 (fun w N=>?_) (c:=zI N);replace N:=N.dl [3,2,1,0];rw [show qC T=false from z4t n (by simp [z9j,z]),show dem false=.error () from rfl];exact ⟨rfl,N⟩;refine Qq (fun a J=>?_) (o:=by exact fun J O=>mZ (i:=h.params.length) (j:=16) J rfl rfl);refine yF call83 (fun Y0 w D N a J=>?_) (fun Y0 w D N=>?_) (c:=yC (b:=(decide (h.params.length<=16))) N);refine Reg [1,1,1,2,1,2,1,0] [0,1,2,3] fun w N a J=>?_;have r0:z9j T i h=true:=by have P:=ixM_any.1 (vY l);have v:=zC D;simp only [z9j,P,v,z];rfl
 refine uU 3 runUnderlying98 runUnderlying9 fun w N a J=>?_;rw [pB (ixM TFn.name 0 (T.funs.take i)) h.name ((i:Nat):Int)] at N;refine go fun a J=>?_;rw [z2u n (vY l)] at N;replace N:=N.dl [0];refine s0 _ _ _ (by subst t;omega) ⟨(i+1),rfl,⟨J.pk,N⟩,?_⟩;exact hO W n r0;replace N:=N.dl [3,2,1,0];have H:=zP D;rw [show qC T=false from z4t n (by simp [z9j,H,z]),show dem false=.error () from rfl];exact ⟨rfl,N⟩;obtain ⟨a1,B0,rfl⟩:=mG l;have q:=congrArg (yA true (ZA)) l;refine Qq (fun a J=>?_) (o:=by exact fun J O=>Ok.cast (qB 3 runUnderlying98 runUnderlying9 zeroValue3 J O rfl rfl rfl) (show yA true (ZA) (jR ((yB (ixM TFn.name 0 (T.funs.take i)))) h.name)=.tuple #[.int .i64 (a1),.bool true] from q));refine qI call83 (fun w N=>?_) (c:=zI N);replace N:=N.dl [3,2,1,0];rw [show qC T=false from z4t n (q7r B0),show dem false=.error () from rfl];exact ⟨rfl,N⟩;refine go fun a J=>?_;rw [<- show aP T=ixM TFn.name 0 (T.funs.take i) from by rw [aP,List.take_of_length_le (Nat.le_of_not_lt S)]] at N;have N0:=y2z (p:=z9j T) W S;refine go fun a J=>?_;refine yO (J.ks [0,168,169]) N (fun R mm a w=>∃(i:Nat),mm=T.outputs.length - i/\R Φ [(170,.int .i64 i)] [] a w/\(T.outputs.all (mT T)=(T.outputs.drop i).all (mT T))) (T.outputs.length - 0) ⟨0,rfl,⟨J.pk,N⟩,rfl⟩ ?_;clear N J;rintro mm a w ⟨i,t,⟨J,N⟩,X⟩ S1 t0;by_cases g0:i < T.outputs.length;refine go fun a J=>?_;obtain ⟨K2,rfl,M,u,o0,q1,i1,y0⟩:=f1.el Q0 g0;obtain rfl:o0=[.string M]:=y0;refine go fun a J=>?_;rcases r:jR ((yB (aP T))) M with _ | O1
 have s:=congrArg (yA true (ZA)) r;refine Qq (fun a J=>?_) (o:=by exact fun J O=>Ok.cast (qB 2 runUnderlying98 runUnderlying9 zeroValue3 J O rfl rfl rfl) (show yA true (ZA) (jR ((yB (aP T))) M)=.tuple #[ZA,.bool false] from s));refine qI call83 (fun w N=>?_) (c:=zI N);replace N:=N.dl [2,1,0];rw [show qC T=false from z4u u (x2v (vY r)),show dem false=.error () from rfl];exact ⟨rfl,N⟩;obtain ⟨N2,C0,rfl⟩:=mG r;obtain ⟨V0,rfl,B,u0⟩:=gR C0;have s:=congrArg (yA true (ZA)) r;refine Qq (fun a J=>?_) (o:=by exact fun J O=>Ok.cast (qB 2 runUnderlying98 runUnderlying9 zeroValue3 J O rfl rfl rfl) (show yA true (ZA) (jR ((yB (aP T))) M)=.tuple #[.int .i64 V0,.bool true] from s));refine go fun a J=>?_;obtain ⟨L2,rfl,e0,F,e1,r1,j1,z0⟩:=H0.el i0 u0;obtain ⟨F2,Z1,V1,rfl,k2,I0,w1,E1⟩:=RTFn.fm z0;obtain ⟨G2,a2,H2,b2,I2,c2,rfl,m1,n1,m2,n2,o2,x1,F1,y1,G1,z1,H1⟩:=RTE.fm I0;refine go fun a J=>?_;generalize Z:e0.chg=m0 at J;cases m0;refine qI call83 (fun w N=>?_) (c:=zI N);replace N:=N.dl [2,1,0];rw [show qC T=false from z4u u (by rw [q8y B F];simp [Z]),show dem false=.error () from rfl];exact ⟨rfl,N⟩;refine Qq (fun a J=>?_) (o:=by exact fun J O=>wE (i:=e0.params.length) (j:=0) J rfl rfl);refine yF call83 (fun Z0 w E N a J=>?_) (fun Z0 w E N=>?_) (c:=yC (b:=(decide (e0.params.length=0))) N);refine go fun a J=>?_;refine t0 _ _ _ (by subst t;omega) ⟨(i+1),rfl,⟨J.pk,N⟩,?_⟩;exact j6q X u (by have v:=zC E;rw [q8y B F];simp only [v,Z];rfl);replace N:=N.dl [2,1,0];have H:=zP E
 rw [show qC T=false from z4u u (by rw [q8y B F];rw [H,Bool.and_false]),show dem false=.error () from rfl];exact ⟨rfl,N⟩;refine go fun a J=>?_;refine hQ _ _ _ (yN J results85 ?_);rw [show qC T=true from j5u L0 M0 N0 (by rw [X,qV g0];rfl)];exact ⟨rfl,N⟩
theorem y8g {P:Program} {n:Nat} {w:World} {f:FuncId} {fn:Func} {c:Code} {vs:List Value} {R:Ending->World->Prop} (g:P.funcs[f]? = some fn) (hb:fn.body=some c) (i:fn.ntmps=n) (hl:Nat.ble vs.length n=true)
  (k:∀Q:Exit->Act->World->Prop,(∀e a w,bodyPostD P fn R e a w->Q e a w)->∀a,EnvR n (aT 0 vs) [] a->c.wp P Q a w):Calls P f vs.toArray w R:=by
 have hl':vs.length<=n:=by simpa using hl
 refine calls_of_wp_defers g hb (k _ (fun _ _ _ h=>h) _ ⟨by simp [i];omega,fun t v j=>?_,rfl⟩);obtain ⟨_,b⟩:=nR vs 0 t v j;simp only [Nat.sub_zero] at b;have d:t < vs.length:=(List.getElem?_eq_some_iff.1 b).1;simp only [List.getElem?_toArray,Array.getElem?_append,List.size_toArray,d,↓reduceIte];exact b
abbrev wrongVT:Value:=.iface 137 (.agg #[.int .i64 120,.int .i64 0])
abbrev W0:List Value:=[.int .i64 0,.int .i64 0]
set_option maxRecDepth 20000 in
set_option maxHeartbeats 4000000 in
theorem y7z {Φ:Fz} {K:List Res} {w:World} {b:Nat} (N:Mem Φ (.blk b (ob W0 137)::K) w) :
  CallsD prog 109 #[.pointer (some ⟨b,0,none⟩)] (.panicking jK) w fun e u' w'=>
   e=.returned (.tuple #[])/\u'=.panicking [{ v:=wrongVT,recovered:=true }]/\Mem Φ (.blk b (ob [.int .i64 120,.int .i64 0] 137)::K) w':=by
 generalize j:(fun (e:Ending) (u':FrameMode) (w':World)=>e=.returned (.tuple #[])/\u'=.panicking [{ v:=wrongVT,recovered:=true }]/\Mem Φ (.blk b (ob [.int .i64 120,.int .i64 0] 137)::K) w')=R;refine callsD_of_wpS func109 rfl fun c₀ cs m=>?_;apply wpS_seq;apply wpS_region;show wpOpsS prog _ _ [0] _ _ _
 simp [wpOpsS,go_sem,recoverD,m,ntmps109,Exit.thenS,jK]
 refine wpS_of_wp ?_;generalize k:(_::cs:List Frame)=cs'
 have hQ:∀(a:Act) (w':World),a.defers=[]->Mem Φ (.blk b (ob [.int .i64 120,.int .i64 0] 137)::K) w'->bodyPostS prog Tryz.f109 c₀ cs R .normal a cs' w':=fun a w' l N=>
  ⟨l,.panicking [{ v:=wrongVT,recovered:=true }],k.symm,.tuple #[],results_none rfl _ _ _,by subst j;exact ⟨rfl,rfl,N⟩⟩
 generalize c:(Act.mk _ [])=a
 have J:EnvR 11 [(4,wrongVT),(0,.pointer (some ⟨b,0,none⟩))] [] a:=by
  subst c;refine ⟨by simp,fun t v h=>?_,rfl⟩;obtain ⟨rfl,rfl⟩ | ⟨_,h⟩:=xW h
  ·rfl
  ·obtain ⟨rfl,rfl⟩ | ⟨_,h⟩:=xW h
   ·rfl
   ·cases h
 clear c;refine wp_block ?_;refine sq fun n d=>?_;refine wp_region_lit ?_;refine xP J (jB (v:=.bool false) J rfl rfl rfl (by kernel_rfl)) rfl fun a J=>?_;refine wpList_nil ?_;apply d;refine if_f J rfl ?_;refine sq fun o f=>?_;refine wp_region_lit ?_;refine xP J (y3l J rfl runUnderlying137 (by intro ms h;cases h)) rfl fun a J=>?_
 refine xP J (xO J rfl rfl) rfl fun a J=>
  xP J (xO J rfl rfl) rfl fun a J=>?_
 refine wpList_nil ?_;apply f;refine if_t J rfl ?_;refine sq fun p g=>?_;refine wp_region_lit ?_;refine st J rfl rfl rfl (qW (cs:=W0) N zeroValue137 rfl fun i w N a J=>?_);refine st0 J rfl rfl (zQ 0 (cs:=W0) (vs:=[.int .i64 120,.int .i64 0]) J N rfl rfl rfl rfl sizeOf137 rfl rfl rfl fun w N a J=>?_);replace N:Mem Φ (.blk i (ob [.int .i64 120,.int .i64 0] 137)::.blk b (ob W0 137)::K) w:=N;refine wpList_nil ?_;apply g;refine wp_region_lit ?_;refine xP J (qG 0 (vs:=[.int .i64 120,.int .i64 0]) J N.toSees rfl rfl isAgg137 sizeOf137 rfl rfl) rfl fun a J=>?_;refine st0 J rfl rfl (zQ 1 (cs:=W0) (vs:=[.int .i64 120,.int .i64 0]) J N rfl rfl rfl rfl sizeOf137 rfl rfl rfl fun w N a J=>?_);refine wpList_nil ?_;replace N:Mem Φ (.blk b (ob [.int .i64 120,.int .i64 0] 137)::K) w:=N.del 0;exact hQ _ _ J.defs N
set_option maxRecDepth 20000 in
theorem catch_still {w:World} {b:Nat} :
  CallsD prog 109 #[.pointer (some ⟨b,0,none⟩)] .returning w fun e u' w'=>e=.returned (.tuple #[])/\u'=.returning/\w'=w:=by
 generalize g:(fun (e:Ending) (u':FrameMode) (w':World)=>e=.returned (.tuple #[])/\u'=.returning/\w'=w)=R;refine callsD_of_wpS func109 rfl fun c₀ cs f=>?_;apply wpS_seq;apply wpS_region;show wpOpsS prog _ _ [0] _ _ _
 simp [wpOpsS,go_sem,recoverD,f,ntmps109,Exit.thenS,jK]
 refine wpS_of_wp ?_
 have hQ:∀(a:Act),a.defers=[]->bodyPostS prog Tryz.f109 c₀ cs R .normal a (c₀::cs) w:=fun a i=>
  ⟨i,.returning,by cases c₀;simp only at f;subst f;rfl,.tuple #[],results_none rfl _ _ _,by subst g;exact ⟨rfl,rfl,rfl⟩⟩
 generalize c:(Act.mk _ [])=a
 have J:EnvR 11 [(4,.nilIface),(0,.pointer (some ⟨b,0,none⟩))] [] a:=by
  subst c;refine ⟨by simp,fun t v h=>?_,rfl⟩;obtain ⟨rfl,rfl⟩ | ⟨_,h⟩:=xW h
  ·rfl
  ·obtain ⟨rfl,rfl⟩ | ⟨_,h⟩:=xW h
   ·rfl
   ·cases h
 clear c;refine wp_block ?_;refine sq fun j d=>?_;refine wp_region_lit ?_;refine xP J (jB (v:=.bool true) J rfl rfl rfl (by kernel_rfl)) rfl fun a J=>?_;refine wpList_nil ?_;apply d;refine if_t J rfl ?_;refine wp_region_lit ?_;refine xP J (jE J rfl) rfl fun a J=>?_;refine wpList_nil ?_;exact hQ _ J.defs
theorem dZ {P:Program} {fn:Func} {n:Nat} {E:List (Nat×Value)} {D:List Deferred} {a:Act} {Φ:Fz} {K:List Res} {w:World} {t T b i k:Nat} {cs:List Value} {T0:TypeId} (J:EnvR n E D a) (N:Sees Φ K w) (h:fn.results=#[.cell t T]) (c:get E t=some (.pointer (some ⟨b,0,none⟩)))
  (g:yU K i=some (.blk b (ob cs T0))) (f:AggT P T) (e:SizeT P T k) (hl:cs.length=k):(results fn a.tmps).run P w=.ok (.agg cs.toArray) w:=by
 have d:=q1a (P:=P) J N c g f e hl
 simp [results,h,Array.getD_eq_getD_getElem?,J.env t _ c,asAddr,d,Sem.run_bind,Result.andThen]
set_option maxRecDepth 20000 in
set_option maxHeartbeats 1000000 in
theorem z9p {α β:Type} {r:Except Unit α} {g:FuncId} {cs:List Value} {Φ:Fz} {K0 K:List Res} {w:World} {F:α->β->Fz} {KO:α->β->List Res} {G:α->β->Prop}
  (k:∀args w,(callFunc g args).run prog w=.ok (.enter g args) w)
  (A:∀b w,Mem Φ (.blk b (ob W0 137)::K0) w->Calls prog g cs.toArray w (fun e w'=>Out r
   (fun x=>∃y,e=.returned (.tuple #[])/\G x y/\Mem (F x y) (.blk b (ob W0 137)::KO x y) w')
   (fun _=>e=.panicked jK/\Mem Φ (.blk b (ob W0 137)::K) w')))
  (N:Mem Φ K0 w):Calls prog 64 #[.func (.func g) #[] cs.toArray] w (fun e w'=>Out r
   (fun x=>∃y,e=.returned (.agg (List.toArray W0))/\G x y/\Mem (F x y) (KO x y) w')
   (fun _=>e=.returned (.agg #[.int .i64 120,.int .i64 0])/\Mem Φ K w')):=by
 refine y8g func64 rfl ntmps64 rfl (fun Q hQ a J=>?_);refine sq fun B o=>?_;refine wp_region_lit ?_;refine st J rfl rfl rfl (qW (cs:=W0) N zeroValue137 rfl fun b w N a J=>?_);refine wpList_nil ?_;apply o;refine sq fun C p=>?_;refine wp_region_lit ?_;refine xP J (z1q (vfs:=[]) (vcs:=[.pointer (some ⟨b,0,none⟩)]) J rfl rfl) rfl fun a J=>?_;refine tT (fs:=[]) (cs:=[.pointer (some ⟨b,0,none⟩)]) (vs:=[]) J rfl rfl fun a J=>?_;refine wpList_nil ?_;apply p;refine sq fun D q=>?_;refine wp_region_lit ?_;refine xP J (yZ J rfl) rfl fun a J=>?_
 have m:∀(a:Act) (w:World) (n:Fz) (K1:List Res) (E:List (Nat×Value)),EnvR 7 E [{ target:=.fn (.func 109) #[.pointer (some ⟨b,0,none⟩)],args:=#[] }] a->get E 2=some (.pointer (some ⟨b,0,none⟩)) ->
   Mem n (.blk b (ob W0 137)::K1) w ->
   (Out r (fun x=>∃y,Ending.returned (.agg (List.toArray W0))=.returned (.agg (List.toArray W0))/\G x y/\Mem (F x y) (KO x y) w) (fun _=>Ending.returned (.agg (List.toArray W0))=.returned (.agg #[.int .i64 120,.int .i64 0])/\Mem Φ K w))->Q .ret a w:=by
  intro a w n K1 E J k N z;refine hQ _ _ _ ?_;show Leaves _ _ _ _ a.defers _ _;rw [J.defs];refine leaves_cons (f:=109) (args:=#[.pointer (some ⟨b,0,none⟩)]) (by simp) (call109 _ _) ?_;refine catch_still.mono ?_;rintro e u' w'' ⟨rfl,rfl,rfl⟩;exact ⟨.agg (List.toArray W0),dZ (i:=0) J N.toSees results64 k rfl isAgg137 sizeOf137 rfl,z⟩
 have l:∀(a:Act) (w:World) (E:List (Nat×Value)),EnvR 7 E [{ target:=.fn (.func 109) #[.pointer (some ⟨b,0,none⟩)],args:=#[] }] a->get E 2=some (.pointer (some ⟨b,0,none⟩)) ->
   Mem Φ (.blk b (ob W0 137)::K) w->(∃u,r=.error u)->Q (.panic jK) a w:=by
  intro a w E J k N d;refine hQ _ _ _ ?_;show Leaves _ _ _ _ a.defers _ _;rw [J.defs];refine leaves_cons (f:=109) (args:=#[.pointer (some ⟨b,0,none⟩)]) (by simp) (call109 _ _) ?_;refine (y7z N).mono ?_;rintro e u' w'' ⟨rfl,rfl,N⟩;refine ⟨.agg #[.int .i64 120,.int .i64 0],dZ (i:=0) J N.toSees results64 k rfl isAgg137 sizeOf137 rfl,?_⟩;obtain ⟨u,rfl⟩:=d;exact ⟨rfl,N.del 0⟩
 refine stP J rfl rfl rfl (cF J rfl rfl k (A b w N) (fun v w h a J=>?_) (fun c w h a J=>?_) (fun w h=>?_))
 ·cases d:r with
  | ok x=>
   rw [d] at h;obtain ⟨y,j,t,N⟩:=h;cases j;refine wpList_nil ?_;apply q;refine sq fun H s=>?_;refine wp_region_lit ?_;refine xP J (jV (vs:=[]) (cs:=W0) J rfl (by kernel_rfl)) rfl fun a J=>?_;refine st0 J rfl rfl (zQ 0 (cs:=W0) (vs:=W0) J N rfl rfl rfl rfl sizeOf137 rfl rfl rfl fun w N a J=>?_);refine wpList_nil ?_;apply s;refine wp_ret ?_;exact m a w _ (KO x y) _ J rfl N (by rw [d];exact ⟨y,rfl,t,N.del 0⟩)
  | error c=>rw [d] at h;cases h.1
 ·cases d:r with
  | ok x=>rw [d] at h;obtain ⟨y,j,_⟩:=h;cases j
  | error c'=>
   rw [d] at h;obtain ⟨j,N⟩:=h;cases j;exact l a w _ J rfl N ⟨_,d⟩
 ·cases d:r with
  | ok x=>rw [d] at h;obtain ⟨y,j,_⟩:=h;cases j
  | error c'=>rw [d] at h;cases h.1
theorem q4c {Φ:Fz} {K:List Res} {w:World} {bp mc mf ms:Nat} {tc:List Value} {T:Trc} (c:RTrc Φ tc T) (k:qC T=true)
  (N:Mem Φ (.blk bp (ob (tc++[.map (some mc),.map (some mf),.map (some ms)]) 160)::.mp mc (yB (dF T))::.mp mf (yB (aP T))::K) w):∃Ψ,Φ.Le Ψ/\Mem Ψ K w/\RProg Ψ ⟨bp,0,none⟩ T ms:=by
 obtain ⟨l,e,g,f⟩:=N.freezeBlk (i:=0) rfl;obtain ⟨m,b,h,a2⟩:=g.freezeMap (i:=0) rfl;obtain ⟨d,a,j,a3⟩:=h.freezeMap (i:=0) rfl;exact ⟨d,e.trans (b.trans a),j,k,tc,mc,mf,f.mono (b.trans a),RTrc.mono _ _ _ _ (e.trans (b.trans a)) c,a2.mono a,a3⟩
section
variable {T:Trc}
theorem uD (h:¬(T.cons.length<=300/\T.inputs.length<=6/\T.funs.length<=400/\T.outputs.length<=6)):zM T=false:=by
 rw [<- Bool.not_eq_true];intro a;simp only [zM,baQ,decide_eq_true_eq] at a;exact h ⟨a.1.1.1.1.1.1,a.1.1.1.1.1.2,a.1.1.1.1.2,a.1.1.1.2⟩
theorem q6y (h:pX T.funs 0=none):zM T=false:=by
 rw [<- Bool.not_eq_true];intro a;simp only [zM,baQ,decide_eq_true_eq] at a;have:=a.1.1.2;rw [h] at this;cases this
theorem q1c (h:qC T=false):zM T=false:=by
 rw [<- Bool.not_eq_true];intro a;simp only [zM,baQ,decide_eq_true_eq] at a;rw [a.1.2] at h;cases h
theorem q6x (h:wY T T.funs []=none):zM T=false:=by
 rw [<- Bool.not_eq_true];intro a;simp only [zM,baQ,decide_eq_true_eq] at a;have:=a.2;rw [h] at this;cases this
theorem j5a {n:Nat} {m:List (Int×Int)} (a:T.cons.length<=300/\T.inputs.length<=6/\T.funs.length<=400/\T.outputs.length<=6) (b:pX T.funs 0=some n) (c:qC T=true) (d:wY T T.funs []=some m):zM T=true:=by
 simp only [zM,baQ,decide_eq_true_eq];exact ⟨⟨⟨⟨⟨⟨a.1,a.2.1⟩,a.2.2.1⟩,a.2.2.2⟩,by rw [b];rfl⟩,c⟩,by rw [d];rfl⟩
theorem y6x {l:List TFn} {i n:Nat} {f:TFn} (h:l[i]? = some f):pX (l.drop i) n=(kJ f.body 1 n).bind (pX (l.drop (i+1))):=by rw [yM h,pX]
theorem q1u {l:List TFn} {i:Nat} {m:List (Int×Int)} {f:TFn} (h:l[i]? = some f):wY T (l.drop i) m=(aK T f m).bind fun s=>wY T (l.drop (i+1)) s.sites:=by rw [yM h,wY]
end
theorem Row.one {Φ:Fz} {v:Value} {k:Nat} {cs:List Value} (h:Row Φ v k cs):Value.oneCell' v=true:=by
 rcases h with ⟨rfl,_⟩ | ⟨q,m,c,rfl,_⟩ <;> rfl
theorem SliceOf.one {α:Type} {R:Fz->List Value->α->Prop} {Φ:Fz} {k:Nat} {v:Value} {xs:List α} (h:SliceOf R Φ k v xs):Value.oneCell' v=true :=
 let ⟨_,a,_⟩:=h;a.one
def z7v {α:Type} (R:Fz->List Value->α->Prop):Prop:=∀Φ c x,R Φ c x->c.all Value.oneCell'=true
theorem Chunks.ones {α:Type} {R:Fz->List Value->α->Prop} (a:z7v R) {Φ:Fz} {k:Nat}:∀{xs:List α} {cs:List Value},Chunks (R Φ) k cs xs->cs.all Value.oneCell'=true
 | [],cs,h=>by simp only [Chunks] at h;subst h;rfl
 | x::xs,cs,⟨c,rest,b,_,d,e⟩=>by
  subst b;rw [List.all_append,a _ _ _ d,Chunks.ones a e];rfl
theorem RStr.ones:z7v RStr:=fun _ c x h=>by cases h;rfl
theorem RBoo.ones:z7v RBoo:=fun _ c x h=>by cases h;rfl
theorem RAtom.ones:z7v RAtom:=fun _ c x h=>by obtain ⟨rfl,_⟩:=h;rfl
theorem RTPar.ones:z7v RTPar:=fun _ c x h=>by cases h;rfl
theorem RTE.ones:z7v RTE:=fun _ c x h=>by
 obtain ⟨s,t,u,rfl,_,_,a,b,d⟩:=RTE.iff.1 h;simp only [List.all_cons,a.one,b.one,d.one];rfl
theorem RTA.ones:z7v RTA:=fun Φ c x h=>by
 obtain ⟨s,b,rfl,a,d⟩:=RTA.iff.1 h;have:=RTE.ones Φ b x.body d;simp only [List.all_cons,a.one,this];rfl
theorem RTCon.ones:z7v RTCon:=fun _ c x h=>by
 obtain ⟨s,rfl,a⟩:=h;simp only [List.all_cons,a.one];rfl
theorem RTFn.ones:z7v RTFn:=fun Φ c x h=>by
 obtain ⟨s,b,rfl,a,d⟩:=h;have:=RTE.ones Φ b x.body d;simp only [List.all_cons,a.one,this];rfl
def RInt (_:Fz) (cs:List Value) (x:Int):Prop:=cs=[.int .i64 x]
theorem RInt.mono (Φ Ψ:Fz) (c:List Value) (x:Int) (_:Φ.Le Ψ) (h:RInt Φ c x):RInt Ψ c x:=h
theorem RInt.ones:z7v RInt:=fun _ c x h=>by cases h;rfl
def RPtE (Φ:Fz) (cs:List Value) (x:TE):Prop:=∃p d,cs=[.pointer (some p)]/\At Φ p d/\RTE Φ d x
theorem RPtE.mono (Φ Ψ:Fz) (c:List Value) (x:TE) (hl:Φ.Le Ψ) (h:RPtE Φ c x):RPtE Ψ c x:=let ⟨p,d,a,b,e⟩:=h;⟨p,d,a,b.mono hl,RTE.mono _ _ _ _ hl e⟩
theorem RPtE.ones:z7v RPtE:=fun _ c x h=>by obtain ⟨p,d,rfl,_⟩:=h;rfl
theorem kT {α:Type} {R:List Value->α->Prop} {k n m b:Nat} {cs:List Value} {l:List α} (g:Chunks R k cs l) (a:0 < k) (c:([]:List Value).length=n * k) (h:cs.length=m * k) (hb:l.length * b<=140737488355328):(n+m) * b<=140737488355328:=by
 have d:=g.length;have e:m=l.length:=Nat.eq_of_mul_eq_mul_right a (h.symm.trans d)
 have f:n=0:=by
  cases n with
  | zero=>rfl
  | succ n=>exact absurd c (Nat.ne_of_lt (Nat.mul_pos (Nat.succ_pos n) a))
 subst e;subst f;rw [Nat.zero_add];exact hb
theorem z2c {Φ:Fz}:∀{l:List Bool} {cs:List Value},Chunks (RBoo Φ) 1 cs l->cs=gK l
 | [],cs,h=>h
 | x::l,cs,⟨c,rest,a,_,b,d⟩=>by
  obtain rfl:=b;rw [a,z2c d];rfl
theorem kV {α:Type} {l:List α} (h:l≠[]->∃q:Addr,(none:Option Addr)=some q):l=[]:=by
 cases l with
 | nil=>rfl
 | cons x l=>obtain ⟨q,h⟩:=h (by simp);cases h
section
variable {P:Program} {n:Nat} {E:List (Nat×Value)} {D:List Deferred} {a:Act} {Φ Ψ:Fz} {K:List Res} {w:World}
variable {Kn:Value->World->Prop} {Qp:List PanicEntry->World->Prop} {dst:Option Tmp} {ty:TypeId} {pos:String} {aft:Array Edge} {g:Option (Nat×Bool)}
theorem nG {α β ε δ:Type} {f:FuncId} {xs:Array Operand} {ts:Array TypeId} {vs:List Value} {r:Except ε α} {X:α->β->Value} {Z:ε->δ->Value} {F1:α->β->Fz} {d:Fz} {KO:α->β->List Res} {KE:ε->δ->List Res} {G:α->β->Prop}
  (J:EnvR n E D a) (o:evs E xs.toList=some vs) (m:∀args w,(callFunc f args).run P w=.ok (.enter f args) w)
  (l:Calls P f vs.toArray w (fun e w'=>Out r (fun x=>∃y,e=.returned (X x y)/\G x y/\Mem (F1 x y) (KO x y) w') (fun c=>∃y,e=.returned (Z c y)/\Mem d (KE c y) w')))
  (k:∀x y w',r=.ok x->G x y->Mem (F1 x y) (KO x y) w'->Kn (X x y) w') (kp:∀c y w',r=.error c->Mem d (KE c y) w'->Kn (Z c y) w') :
  Oper.eff P ⟨dst,.call { callee:=.value (.func f),args:=xs,argTypes:=ts },ty,pos,aft,g⟩ a w Kn Qp:=by
 refine mQ J o m l (fun v w' h=>?_) (fun c w' h=>?_) (fun w' h=>?_)
 ·cases r with
  | ok x=>obtain ⟨y,b,i,j⟩:=h;cases b;exact k _ _ _ rfl i j
  | error c=>obtain ⟨y,b,i⟩:=h;cases b;exact kp _ _ _ rfl i
 ·cases r with
  | ok x=>obtain ⟨y,b,_⟩:=h;cases b
  | error c=>obtain ⟨y,b,_⟩:=h;cases b
 ·cases r with
  | ok x=>obtain ⟨y,b,_⟩:=h;cases b
  | error c=>obtain ⟨y,b,_⟩:=h;cases b
end
def zL {α σ:Type} (step:σ->α->σ×Bool):σ->List α->σ×Bool
 | s,[]=>(s,true)
 | s,x::l=>bif (step s x).2 then zL step (step s x).1 l else ((step s x).1,false)
theorem aC {α σ:Type} (step:σ->α->σ×Bool):∀(l m:List α) (s:σ),zL step s (l++m)=bif (zL step s l).2 then zL step (zL step s l).1 m else ((zL step s l).1,false)
 | [],_,_=>rfl
 | x::l,m,s=>by
  rw [List.cons_append,zL,zL];cases h:(step s x).2
  ·rfl
  ·simp only [cond_true];exact aC step l m _
theorem z3q {α σ:Type} {step:σ->α->σ×Bool} {s:σ} {x:α} {l:List α} (h:(step s x).2=true):zL step s (x::l)=zL step (step s x).1 l:=by rw [zL,h];rfl
theorem uO {α σ:Type} {step:σ->α->σ×Bool} {s:σ} {x:α} {l:List α} (h:(step s x).2=false):zL step s (x::l)=((step s x).1,false):=by rw [zL,h];rfl
theorem y6t {α σ:Type} {f:σ->α->σ}:∀(l:List α) (s:σ),zL (fun s x=>(f s x,true)) s l=(l.foldl f s,true)
 | [],_=>rfl
 | _::l,s=>y6t l _
structure Steps {α σ β:Type} (P:Program) (y:Value) (Φ:Fz) (RA:Fz->List Value->α->Prop) (items:List α) (step:σ->α->σ×Bool) (G:Fz->σ->Bool->β->Prop) (KV:σ->Bool->β->List Res):Prop where
 fn:∃f fs cs,y=.func f fs cs
 mono:∀Ψ Ψ' s b z,Ψ.Le Ψ'->G Ψ s b z->G Ψ' s b z
 go:∀Ψ s z c x K0 w,Φ.Le Ψ->x∈items->RA Ψ c x->G Ψ s true z->Mem Ψ (K0++KV s true z) w ->
  Fires P y [.agg c.toArray] w (fun e w'=>e=.returned (.bool (step s x).2)/\∃Ψ' z',Ψ.Le Ψ'/\G Ψ' (step s x).1 (step s x).2 z'/\Mem Ψ' (K0++KV (step s x).1 (step s x).2 z') w')
theorem Steps.sub {α σ β:Type} {P:Program} {y:Value} {Φ Φ':Fz} {RA:Fz->List Value->α->Prop} {items l:List α} {step:σ->α->σ×Bool} {G:Fz->σ->Bool->β->Prop} {KV:σ->Bool->β->List Res}
  (h:Steps P y Φ RA items step G KV) (hl:Φ.Le Φ') (O:∀x∈l,x∈items):Steps P y Φ' RA l step G KV :=
 ⟨h.fn,h.mono,fun Ψ s z c x K0 w a b=>h.go Ψ s z c x K0 w (hl.trans a) (O x b)⟩
def Iter {α:Type} (P:Program) (Φ:Fz) (gf:FuncId) (fs cs:List Value) (RA:Fz->List Value->α->Prop) (items:List α):Prop :=
 ∀{σ β:Type} (y:Value) (Ψ:Fz) (step:σ->α->σ×Bool) (G:Fz->σ->Bool->β->Prop) (KV:σ->Bool->β->List Res) (s0:σ) (z0:β) (w:World),Φ.Le Ψ->Steps P y Ψ RA items step G KV->G Ψ s0 true z0->Mem Ψ (KV s0 true z0) w ->
  Calls P gf (fs++[y]++cs).toArray w (fun e w'=>∃v Ψ' z,e=.returned v/\Ψ.Le Ψ'/\G Ψ' (zL step s0 items).1 (zL step s0 items).2 z/\Mem Ψ' (KV (zL step s0 items).1 (zL step s0 items).2 z) w')
inductive Jmp where
 | ret
 | exit (id:Nat)
def Jmp.code:Jmp->Code
 | .ret=>.ret
 | .exit id=>.exit id
def Jmp.ex:Jmp->Exit
 | .ret=>.ret
 | .exit id=>.exit id
def z9f (j:Jmp) (c:Bool) (e:Exit):Prop:=e=bif c then .normal else j.ex
def nO (r:Loop) (j:Jmp) (c:Bool):Loop:=bif c then r else { r with state:=.done,pending:=some j.code }
section
variable {P:Program} {Φ:Fz} {K:List Res} {w:World}
theorem j6z {l:Nat} {r:Loop} {tmps:Array Value} {j:Jmp} {c:Bool} {X:Obj->World->Prop} (b:r.state=.ready) (f:r.pending=none)
  (v:∀o w,X o w->w.heap[l]? = some o) (g:∀o o' w,X o w->X o' (w.putObj l o'))
  (u:r.assign.wpIn (FO (some l)) 2 P (Exit.then (fun p n=>∃K1,Mem Φ (.blk l (.loop r)::K1) n/\∀k,Mem Φ (.blk l (.loop { r with state:=.busy })::K1) k ->
   r.body.wpIn (FO (some l)) 2 P (fun e _ w=>z9f j c e/\X (.loop { r with state:=.busy }) w) p k) (fun _ _ _=>False)) ⟨tmps,[]⟩ w) :
  RoundIn Fence.wide 2 P l r.fn tmps r.assign r.body w (fun e w'=>e=.returned (.bool c)/\X (.loop (nO r j c)) w'):=by
 refine roundIn_of_wpIn trivial (Code.wpIn_mono (fun e p n h=>?_) u);cases e with
 | normal=>
  obtain ⟨K1,q,s⟩:=h;have hl:n.heap[l]? = some (.loop r):=q.own _ msQ;refine ⟨_,run_beginRound hl b,?_⟩;refine Code.wpIn_mono (fun e a2 k h=>?_) (s _ (q.putObj (i:=0) (o':=.loop { r with state:=.busy }) rfl));obtain ⟨J,m⟩:=h;have a:k.heap[l]? = some (.loop { r with state:=.busy }):=v _ _ m;cases c with
  | true=>
   obtain rfl:e=.normal:=J;refine ⟨_,_,run_endRound none a,rfl,?_⟩;have t:({ ({ r with state:=.busy }:Loop) with state:=.ready,pending:=none }:Loop)=r:=by cases r;simp only at b f;subst b;subst f;rfl
   have d:=g _ (.loop { ({ r with state:=.busy }:Loop) with state:=.ready,pending:=none }) _ m;simp only [nO,cond_true,Option.isNone_none,if_true];rw [t] at d ⊢;exact d
  | false=>
   have d:=g _ (.loop { ({ r with state:=.busy }:Loop) with state:=.done,pending:=some j.code }) _ m;cases j with
   | ret=>
    obtain rfl:e=.ret:=J;exact ⟨_,_,run_endRound (some .ret) a,rfl,d⟩
   | exit id=>
    obtain rfl:e=.exit id:=J;exact ⟨_,_,run_endRound (some (.exit id)) a,rfl,d⟩
 | exit id=>exact h.elim
 | goto l=>exact h.elim
 | ret=>exact h.elim
 | panic c=>exact h.elim
 | outgrown=>exact h.elim
theorem y7n {α σ β:Type} {n gf p:Nat} {E:List (Nat×Value)} {Dd:List Deferred} {a:Act} {g:Operand} {assign body:Code} {Q:Exit->Act->World->Prop} {fs cs:List Value}
  (RA:Fz->List Value->α->Prop) (items:List α) (j:Jmp) (step:σ->α->σ×Bool) (G:Fz->σ->Bool->β->Prop) (KV:σ->Bool->β->List Res) (s0:σ) (z0:β)
  (J:EnvR n E Dd a) (hG:G Φ s0 true z0) (N:Mem Φ (KV s0 true z0) w) (hg:ev E g=some (.func (.func gf) fs.toArray cs.toArray)) (hf:∀args w,(callFunc gf args).run P w=.ok (.enter gf args) w) (hp:Nat.blt p n=true)
  (B:∀Ψ Ψ' s b z,Ψ.Le Ψ'->G Ψ s b z->G Ψ' s b z)
  (hr:∀Ψ s z c x l T U K' a w,Φ.Le Ψ->x∈items->RA Ψ c x->G Ψ s true z->EnvR n ((p,.agg c.toArray)::E) [] a->Mem Ψ (.blk l T::(KV s true z++K')) w ->
   assign.wpIn (FO (some l)) 2 P (Exit.then (fun W t=>∃K1,Mem Ψ (.blk l T::K1) t/\∀V,Mem Ψ (.blk l U::K1) V ->
    body.wpIn (FO (some l)) 2 P (fun e _ w=>z9f j (step s x).2 e/\∃Ψ' z',Ψ.Le Ψ'/\G Ψ' (step s x).1 (step s x).2 z'/\Mem Ψ' (.blk l U::(KV (step s x).1 (step s x).2 z'++K')) w) W V) (fun _ _ _=>False)) a w)
  (hc:Iter P Φ gf fs cs RA items)
  (kn:∀Dk Ψ z a w,Φ.Le Ψ->G Ψ (zL step s0 items).1 (zL step s0 items).2 z->EnvR n E ({ target:=.collected Dk,args:=#[] }::Dd) a->Mem Ψ (.blk Dk (.deferred (some []))::KV (zL step s0 items).1 (zL step s0 items).2 z) w ->
   Q (bif (zL step s0 items).2 then .normal else j.ex) a w):(Code.rangeFunc g #[p] assign body).wp P Q a w:=by
 refine (wpIn_wide (n:=3)).1 (wpIn_rangeFunc fun fn _=>?_)
 let r:Loop:={ state:=.ready,pending:=none,fn,tmps:=a.tmps,params:=#[p],assign,body,defers:=w.heap.size }
 generalize D:((w.alloc (.deferred (some []))).alloc (.loop r))=t
 have k:Mem Φ (.blk (w.heap.size+1) (.loop r)::.blk w.heap.size (.deferred (some []))::KV s0 true z0) t:=by
  have u:=N.push (.deferred (some []));have m:=u.push (.loop r);have F:({ w with heap:=w.heap.push (.deferred (some [])) }:World).heap.size=w.heap.size+1:=Array.size_push _;rw [F] at m;rw [<- D];exact m
 have H:EnvR n E [] ⟨r.tmps,[]⟩:=⟨J.size,J.env,rfl⟩;have R:EnvR n E ({ target:=.collected w.heap.size,args:=#[] }::Dd) { a with defers:=[{ target:=.collected w.heap.size,args:=#[] }]++a.defers }:=⟨J.size,J.env,by simp [J.defs]⟩;generalize hL:w.heap.size+1=l at *;generalize Z:w.heap.size=Dk at *;have y:=hc (.func (.yield l) #[] #[]) Φ step G (fun s b z=>.blk l (.loop (nO r j b))::.blk Dk (.deferred (some []))::KV s b z) s0 z0 t (Fz.Le.refl _) ⟨⟨_,_,_,rfl⟩,B,fun Ψ s z c x K0 w f hx L I N=>.inr ⟨l,rfl,?_⟩⟩ hG k
 ·refine ⟨l,[{ target:=.collected Dk,args:=#[] }],t,{ target:=.fn (.func gf) cs.toArray,args:=(fs++[Value.func (.yield l) #[] #[]]).toArray },t,gf,(fs++[Value.func (.yield l) #[] #[]]++cs).toArray,t,?_,?_,fun f' _=>trivial,?_,fun hd=>(by cases hd),?_⟩
  ·rw [show Fence.wide.round=none from rfl,run_enterLoop_outer]
   subst Z;subst hL;rw [<- D]
  ·have u:=J.ev hg
   have m:a.eval (.const (.func (.yield l) #[] #[]))=.func (.yield l) #[] #[]:=rfl;simp only [resolve,Sem.run_bind,u,m,List.map_toArray,List.map_cons,List.map_nil]
   simp [Deferred.ofValue]
  ·have:=hf (fs++[Value.func (.yield l) #[] #[]]++cs).toArray t
   simp only [invoke]
   simpa using this
  ·refine callsIn_wide.2 (y.mono fun e w3 h=>?_)
   obtain ⟨v,Ψ,z,rfl,f,C,A⟩:=h;generalize hq:zL step s0 items=q at *;obtain ⟨s2,M⟩:=q;have hl:w3.heap[l]? = some (.loop (nO r j M)):=A.own _ msQ;cases M with
   | true=>
    refine ⟨_,_,run_endLoop hl (by intro h;cases h),?_⟩;exact kn _ _ z _ _ f C R (A.putObj (i:=0) rfl).tail
   | false=>
    have S:=kn _ _ z _ _ f C R (A.putObj (i:=0) (o':=.loop { nO r j false with state:=.exhausted }) rfl).tail;refine ⟨_,_,run_endLoop hl (by intro h;cases h),?_⟩;cases j with
    | ret=>exact wpIn_ret S
    | exit id=>exact wpIn_exit S
 ·have k:Mem Ψ (.blk l (.loop r)::(KV s true z++(.blk Dk (.deferred (some []))::K0))) w:=N.perm (List.perm_middle.trans (List.Perm.cons _ (List.perm_middle.trans ((List.Perm.cons _ List.perm_append_comm).trans List.perm_middle.symm))))
  have hl:w.heap[l]? = some (.loop r):=k.own _ msQ;refine ⟨r.fn,r.tmps.setIfInBounds p (.agg c.toArray),r.assign,r.body,?_,?_⟩
  ·rw [run_yield hl rfl]
   simp [r]
  ·have K:EnvR n ((p,.agg c.toArray)::E) [] ⟨r.tmps.setIfInBounds p (.agg c.toArray),[]⟩:=H.put (d:=p) hp
   have h:=j6z (P:=P) (Φ:=Ψ) (l:=l) (r:=r) (j:=j) (c:=(step s x).2) (tmps:=r.tmps.setIfInBounds p (.agg c.toArray))
    (X:=fun o w=>∃Ψ' z',Ψ.Le Ψ'/\G Ψ' (step s x).1 (step s x).2 z'/\Mem Ψ' (.blk l o::(KV (step s x).1 (step s x).2 z'++(.blk Dk (.deferred (some []))::K0))) w) rfl rfl
    (fun o w h=>by obtain ⟨_,_,_,_,h⟩:=h;exact h.own _ msQ)
    (fun o o' w h=>by obtain ⟨Ψ',z',u,m,h⟩:=h;exact ⟨Ψ',z',u,m,h.putObj (i:=0) rfl⟩)
    (hr Ψ s z c x l _ _ _ _ _ f hx L I K k)
   refine h.mono fun e w' hh=>?_;obtain ⟨u,Ψ',z',m,F,Y⟩:=hh;refine ⟨u,Ψ',z',m,F,Y.perm ?_⟩;exact ((List.Perm.cons _ ((List.perm_middle.trans (List.Perm.cons _ List.perm_append_comm)).trans List.perm_middle.symm)).trans List.perm_middle.symm)
end
def RRw (Φ:Fz) (c:List Value) (r:Rw):Prop:=∃s,c=[.int .i64 r.rule,.int .i64 r.fn,s,.int .i64 r.num]/\z2a s/\I64 r.rule/\I64 r.fn/\I64 r.num/\SliceOf RInt Φ 1 s r.path
theorem RRw.mono (Φ Ψ:Fz) (c:List Value) (r:Rw) (hl:Φ.Le Ψ) (h:RRw Φ c r):RRw Ψ c r:=let ⟨s,b,a,d,e,f,g⟩:=h;⟨s,b,a,d,e,f,g.mono RInt.mono hl⟩
theorem RRw.len {Φ:Fz} {c:List Value} {r:Rw} (h:RRw Φ c r):c.length=4:=by obtain ⟨s,rfl,_⟩:=h;rfl
def z6w (m m':List (Int×Int)):Prop:=∀x,oB m' x=none->oB m x=none
theorem dD (s:BS) (m:List (Int×Int)):∀(l:List Atom) (b:List Bool),({ s with sites:=m }:BS).atomL l b=s.atomL l b
 | [],[]=>rfl
 | [],_::_=>rfl
 | _::_,[]=>rfl
 | a::l,b::bs=>by rw [BS.atomL,BS.atomL,dD s m l bs];rfl
theorem q6r (T:Trc) (s:BS) (m:List (Int×Int)) (e:TE) (c:Bool):BS.call T { s with sites:=m } e c=s.call T e c:=by
 unfold BS.call;cases T.funs.find? (fun f=>decide (f.name=e.op)) with
 | none=>rfl
 | some f=>simp only [dD]
theorem y7o (k v x:Int):∀m:List (Int×Int),oB (m++[(k,v)]) x=(oB m x).orElse fun _=>if k=x then some v else none
 | []=>by simp [oB]
 | (q,w)::m=>by
  rw [List.cons_append,oB,oB];split
  ·rfl
  ·exact y7o k v x m
theorem y2p {s z:BS} {m:List (Int×Int)} {e:TE} {n:Int} (O:z6w m s.sites) (h:s.site e n=some z):∃m',({ s with sites:=m }:BS).site e n=some { z with sites:=m' }/\z6w m' z.sites:=by
 unfold BS.site at h ⊢;split at h
 ·rename_i c
  cases h;refine ⟨m++[(e.site,n)],by rw [if_pos ⟨O _ c.1,c.2⟩],fun x a=>?_⟩;rw [y7o] at a ⊢;cases b:oB s.sites x with
  | some v=>rw [b] at a;cases a
  | none=>
   rw [b] at a;rw [O x b];exact a
 ·cases h
theorem q8a {T:Trc} {chg:Bool} {e:TE} {s z:BS} {m:List (Int×Int)} (O:z6w m s.sites) (h:yY T chg e s=some z):∃m',yY T chg e { s with sites:=m }=some { z with sites:=m' }/\z6w m' z.sites:=by
 have keep:∀{c:Bool},(if c=true then some s else none)=some z->∃m',(if c=true then some ({ s with sites:=m }:BS) else none)=some { z with sites:=m' }/\z6w m' z.sites:=fun {c} h=>by
  cases c with
  | true=>simp only [if_true] at h;cases h;exact ⟨m,rfl,O⟩
  | false=>simp at h
 unfold yY at h ⊢;simp only [dD,q6r];split at h
 ·rename_i a;simp only [if_pos a];exact keep h
 rename_i b;rw [if_neg b];split at h
 ·rename_i a;rw [if_pos a]
  split at h
  ·rename_i q;rw [if_pos q]
   split at h
   ·rename_i c n;exact keep h
   ·cases h
  ·cases h
 rename_i d;rw [if_neg d];split at h
 ·rename_i a;rw [if_pos a];exact keep h
 rename_i f;rw [if_neg f];split at h
 ·rename_i a;rw [if_pos a]
  split at h
  ·rename_i q;rw [if_pos q];exact y2p O h
  ·cases h
 rename_i g;rw [if_neg g];split at h
 ·rename_i a;rw [if_pos a]
  split at h
  ·rename_i q;rw [if_pos q];exact y2p O h
  ·cases h
 rename_i i;rw [if_neg i];split at h
 ·rename_i a;rw [if_pos a];exact keep h
 rename_i j;rw [if_neg j];split at h
 ·rename_i a;rw [if_pos a];exact keep h
 rename_i k;rw [if_neg k];split at h
 ·rename_i a;rw [if_pos a];exact keep h
 rename_i l;rw [if_neg l];split at h
 ·rename_i a;rw [if_pos a];exact keep h
 ·cases h
theorem z5y {s z:BS} {n:Bs} {mod:Bool} {m:List (Int×Int)} (h:s.bind n mod=some z):({ s with sites:=m }:BS).bind n mod=some { z with sites:=m }/\z.sites=s.sites:=by
 unfold BS.bind at h ⊢;split at h
 ·rename_i a
  cases h;exact ⟨by rw [if_pos a],rfl⟩
 ·cases h
theorem sQ {m:List (Int×Int)}:∀{vs:List Bs} {ms:List Bool} {s z:BS},s.binds vs ms=some z->({ s with sites:=m }:BS).binds vs ms=some { z with sites:=m }/\z.sites=s.sites
 | [],_,s,z,h=>by rw [BS.binds] at h ⊢;cases h;exact ⟨rfl,rfl⟩
 | v::vs,[],s,z,h=>by cases h
 | v::vs,b::ms,s,z,h=>by
  rw [BS.binds] at h ⊢;obtain ⟨s1,a,c⟩:=Option.bind_eq_some_iff.1 h;obtain ⟨d,e⟩:=z5y (m:=m) a;obtain ⟨f,g⟩:=sQ (m:=m) c;exact ⟨by rw [d,Option.bind_some];exact f,g.trans e⟩
mutual
theorem z0r {T:Trc} {chg:Bool}:∀{e:TE} {s z:BS} {m:List (Int×Int)},z6w m s.sites->jH T chg e s=some z->∃m',jH T chg e { s with sites:=m }=some { z with sites:=m' }/\z6w m' z.sites
 | .mk k nm op num site args arms body,s,z,m,O,h=>by
  unfold jH at h ⊢;obtain ⟨s1,d,p⟩:=Option.bind_eq_some_iff.1 h
  have key:∃m',(if k=7 then
   (if zB (.mk k nm op num site args arms body) false false false false true true false&&({ s with sites:=m }:BS).atomL args [false] then
    (match args,arms with
    | a::_,.mk c _ _::_=>if a.name=sNo then none else (match wH T c with
     | some first=>(armsT T chg first s.kinds 0 arms { s with sites:=m }).bind fun t=>if jN T first arms.length then some { t with kinds:=s.kinds } else none
     | none=>none)
    | _,_=>none)
   else none)
   else yY T chg (.mk k nm op num site args arms body) { s with sites:=m })=some { s1 with sites:=m' }/\z6w m' s1.sites:=by
   rw [dD];split at d
   ·rename_i y
    rw [if_pos y];split at d
    ·rename_i q
     rw [if_pos q];cases args with
     | nil=>cases d
     | cons a l=>
      cases arms with
      | nil=>cases d
      | cons b r=>
       obtain ⟨c,vs,bo⟩:=b;simp only at d ⊢;split at d
       ·cases d
       ·rename_i A
        rw [if_neg A];split at d
        ·rename_i first w
         obtain ⟨t,g,f⟩:=Option.bind_eq_some_iff.1 d;obtain ⟨m',j,n⟩:=arms_sites O g;simp only [w,j,Option.bind_some];split at f
         ·rename_i v
          cases f;exact ⟨m',by rw [if_pos v],n⟩
         ·cases f
        ·cases d
    ·cases d
   ·rename_i y
    rw [if_neg y];exact q8a O d
  obtain ⟨m',g,f⟩:=key;obtain ⟨C,j,n⟩:=rest_sites f p;exact ⟨C,(congrArg (fun o=>Option.bind o (restT T chg nm (decide (k=4∨k=6)) body)) g).trans j,n⟩
theorem rest_sites {T:Trc} {chg:Bool} {nm:Bs} {mod:Bool}:∀{l:List TE} {s z:BS} {m:List (Int×Int)},z6w m s.sites->restT T chg nm mod l s=some z->∃m',restT T chg nm mod l { s with sites:=m }=some { z with sites:=m' }/\z6w m' z.sites
 | [],s,z,m,O,h=>by rw [restT] at h ⊢;cases h;exact ⟨m,rfl,O⟩
 | x::xs,s,z,m,O,h=>by
  rw [restT] at h ⊢;obtain ⟨s1,d,h⟩:=Option.bind_eq_some_iff.1 h;obtain ⟨t,p,g⟩:=Option.bind_eq_some_iff.1 h;obtain ⟨f,j⟩:=z5y (m:=m) d;rw [f,Option.bind_some];obtain ⟨B,n,u⟩:=z0r (m:=m) (by rw [j];exact O) p;rw [n,Option.bind_some];exact rest_sites u g
theorem arms_sites {T:Trc} {chg:Bool} {first:Nat} {outer:List (Bs×Int)}:∀{l:List TA} {i:Nat} {s z:BS} {m:List (Int×Int)},z6w m s.sites->armsT T chg first outer i l s=some z->∃m',armsT T chg first outer i l { s with sites:=m }=some { z with sites:=m' }/\z6w m' z.sites
 | [],i,s,z,m,O,h=>by rw [armsT] at h ⊢;cases h;exact ⟨m,rfl,O⟩
 | .mk c vs b::xs,i,s,z,m,O,h=>by
  rw [armsT] at h ⊢;split at h
  ·rename_i q
   rw [if_pos q];obtain ⟨s1,d,h⟩:=Option.bind_eq_some_iff.1 h;obtain ⟨t,p,g⟩:=Option.bind_eq_some_iff.1 h;obtain ⟨f,j⟩:=sQ (m:=m) d;rw [show ({ ({ s with sites:=m }:BS) with kinds:=outer }:BS)={ ({ s with kinds:=outer }:BS) with sites:=m } from rfl,f,Option.bind_some];obtain ⟨B,n,u⟩:=z0r (m:=m) (by rw [j];exact O) p;rw [n,Option.bind_some];exact arms_sites u g
  ·cases h
end
theorem j5p {T:Trc} {f:TFn} {m:List (Int×Int)} {s:BS} (h:aK T f m=some s):∃m',aK T f []=some { s with sites:=m' }:=by
 unfold aK at h ⊢;obtain ⟨s1,a,b⟩:=Option.bind_eq_some_iff.1 h;obtain ⟨c,e⟩:=sQ (m:=[]) a;obtain ⟨m',d,_⟩:=z0r (m:=[]) (fun x _=>rfl) b;exact ⟨m',by rw [show (⟨[],[],[]⟩:BS)={ (⟨[],[],m⟩:BS) with sites:=[] } from rfl,c,Option.bind_some];exact d⟩
theorem y5n {T:Trc}:∀{l:List TFn} {m z:List (Int×Int)},wY T l m=some z->∀f∈l,∃s,aK T f []=some s
 | [],_,_,_,_,h=>by cases h
 | g::l,m,z,h,f,a=>by
  rw [wY] at h;obtain ⟨s,b,c⟩:=Option.bind_eq_some_iff.1 h;rcases List.mem_cons.1 a with rfl | a
  ·obtain ⟨m',d⟩:=j5p b;exact ⟨_,d⟩
  ·exact y5n c f a
theorem q6w {T:Trc} (h:zM T=true):∀f∈T.funs,∃s,aK T f []=some s:=by
 simp only [zM,baQ] at h;obtain ⟨z,a⟩:=Option.isSome_iff_exists.1 h.2;exact y5n a
theorem z3p {α β σ:Type} (step:σ->β->σ×Bool) (g:α->List β):∀(l:List α) (s:σ),zL step s (l.flatMap g)=zL (fun s x=>zL step s (g x)) s l
 | [],_=>rfl
 | x::l,s=>by
  rw [List.flatMap_cons,aC,zL];cases h:(zL step s (g x)).2 with
  | true=>simp only [cond_true];exact z3p step g l _
  | false=>rfl
def jZ (f:FnS) (i:Nat) (y:Fnd) (r:Nat):List Rw:=((([1,2,3,4,5]:List Int).drop (r - 1)).filter fun r=>(f.try5 r y.x y.up y.path).isSome).map fun r=>⟨r,i,y.path,0⟩
theorem y4m (f:FnS) (i:Nat) (y:Fnd) {r:Nat} (h:¬r<=5):jZ f i y r=[]:=by
 unfold jZ;rw [List.drop_of_length_le (by simp;omega)];rfl
theorem tU {r:Nat} (a:1<=r) (b:r<=5):(([1,2,3,4,5]:List Int).drop (r - 1))=(r:Int)::([1,2,3,4,5]:List Int).drop (r+1 - 1):=by
 match r,a,b with
 | 1,_,_=>rfl
 | 2,_,_=>rfl
 | 3,_,_=>rfl
 | 4,_,_=>rfl
 | 5,_,_=>rfl
theorem gC {f:FnS} {i:Nat} {y:Fnd} {r:Nat} {t:TE} (a:1<=r) (b:r<=5) (h:f.try5 (r:Int) y.x y.up y.path=some t):jZ f i y r=⟨r,i,y.path,0⟩::jZ f i y (r+1):=by
 unfold jZ;rw [tU a b,List.filter_cons,if_pos (by rw [h];rfl)];rfl
theorem y9v {f:FnS} {i:Nat} {y:Fnd} {r:Nat} (a:1<=r) (b:r<=5) (h:f.try5 (r:Int) y.x y.up y.path=none):jZ f i y r=jZ f i y (r+1):=by
 unfold jZ;rw [tU a b,List.filter_cons,if_neg (by rw [h];simp)]
section
variable {Φ:Fz} {K:List Res} {w:World}
theorem z8z {v0:Value} {l:List Bool} (h:SliceOf RBoo Φ 1 v0 l) (hb:l.length * 1<=140737488355328) (N:Mem Φ K w) :
  Calls prog 72 #[v0] w (fun ee w'=>∃y:Value×List Value,ee=.returned y.1/\Chunks (RBoo Φ) 1 y.2 l/\Mem Φ (.gs y.1 4 1 y.2::K) w'):=by
 obtain ⟨j,k,rfl,i,c⟩:=h.fm;refine zJ func72 ntmps72 fun Q hQ a J=>?_;refine go fun a J=>?_;obtain _ | p:=j;refine Qq (fun a J=>?_) (o:=by exact fun J O=>jB (v:=.bool true) J rfl rfl rfl (by kernel_rfl));refine yG ?_;obtain rfl:=kV c;exact ⟨(ZB,[]),rfl,rfl,N.nilRow 4 1⟩;refine Qq (fun a J=>?_) (o:=by exact fun J O=>jB (v:=.bool false) J rfl rfl rfl (by kernel_rfl));refine go fun a J=>?_;refine st J rfl rfl rfl (qA (sz:=1) (cs:=[]) J N rfl (mA runUnderlying83 sizeOf4) rfl (by decide) fun q w N _ a J=>?_);refine go fun a J=>?_;obtain ⟨e,d,b⟩:=id h;refine st J rfl rfl rfl (vZ 0 (xs:=[]) (news:=e) j2w J N rfl rfl rfl (d.rowIn N.toSees) (b.ones RBoo.ones) (fun n m c f=>kT b (by decide) c f hb) fun g w N a J=>?_);replace N:=N.nf;refine yG ?_;exact ⟨(g,e),rfl,b,N⟩
theorem nU {v0:Value} {l:List Bs} (h:SliceOf RStr Φ 1 v0 l) (hb:l.length * 16<=140737488355328) (N:Mem Φ K w) :
  Calls prog 71 #[v0] w (fun ee w'=>∃y:Value×List Value,ee=.returned y.1/\Chunks (RStr Φ) 1 y.2 l/\Mem Φ (.gs y.1 9 1 y.2::K) w'):=by
 obtain ⟨j,k,rfl,i,c⟩:=h.fm;refine zJ func71 ntmps71 fun Q hQ a J=>?_;refine go fun a J=>?_;obtain _ | p:=j;refine Qq (fun a J=>?_) (o:=by exact fun J O=>jB (v:=.bool true) J rfl rfl rfl (by kernel_rfl));refine yG ?_;obtain rfl:=kV c;exact ⟨(ZB,[]),rfl,rfl,N.nilRow 9 1⟩;refine Qq (fun a J=>?_) (o:=by exact fun J O=>jB (v:=.bool false) J rfl rfl rfl (by kernel_rfl));refine go fun a J=>?_;refine st J rfl rfl rfl (qA (sz:=1) (cs:=[]) J N rfl (mA runUnderlying23 sizeOf9) rfl (by decide) fun q w N _ a J=>?_);refine go fun a J=>?_;obtain ⟨e,d,b⟩:=id h;refine st J rfl rfl rfl (vZ 0 (xs:=[]) (news:=e) j2t J N rfl rfl rfl (d.rowIn N.toSees) (b.ones RStr.ones) (fun n m c f=>kT b (by decide) c f hb) fun g w N a J=>?_);replace N:=N.nf;refine yG ?_;exact ⟨(g,e),rfl,b,N⟩
theorem q7a {v0:Value} {l:List TPar} (h:SliceOf RTPar Φ 2 v0 l) (hb:l.length * 24<=140737488355328) (N:Mem Φ K w) :
  Calls prog 73 #[v0] w (fun ee w'=>∃y:Value×List Value,ee=.returned y.1/\Chunks (RTPar Φ) 2 y.2 l/\Mem Φ (.gs y.1 125 2 y.2::K) w'):=by
 obtain ⟨j,k,rfl,i,c⟩:=h.fm;refine zJ func73 ntmps73 fun Q hQ a J=>?_;refine go fun a J=>?_;obtain _ | p:=j;refine Qq (fun a J=>?_) (o:=by exact fun J O=>jB (v:=.bool true) J rfl rfl rfl (by kernel_rfl));refine yG ?_;obtain rfl:=kV c;exact ⟨(ZB,[]),rfl,rfl,N.nilRow 125 2⟩;refine Qq (fun a J=>?_) (o:=by exact fun J O=>jB (v:=.bool false) J rfl rfl rfl (by kernel_rfl));refine go fun a J=>?_;refine st J rfl rfl rfl (qA (sz:=2) (cs:=[]) J N rfl (mA runUnderlying43 sizeOf125) rfl (by decide) fun q w N _ a J=>?_);refine go fun a J=>?_;obtain ⟨e,d,b⟩:=id h;refine st J rfl rfl rfl (vZ 0 (xs:=[]) (news:=e) j2u J N rfl rfl rfl (d.rowIn N.toSees) (b.ones RTPar.ones) (fun n m c f=>kT b (by decide) c f hb) fun g w N a J=>?_);replace N:=N.nf;refine yG ?_;exact ⟨(g,e),rfl,b,N⟩
theorem j5b {v0:Value} {l:List Int} (h:SliceOf RInt Φ 1 v0 l) (hb:l.length * 8<=140737488355328) (N:Mem Φ K w) :
  Calls prog 76 #[v0] w (fun ee w'=>∃y:Value×List Value,ee=.returned y.1/\Chunks (RInt Φ) 1 y.2 l/\Mem Φ (.gs y.1 3 1 y.2::K) w'):=by
 obtain ⟨j,k,rfl,i,c⟩:=h.fm;refine zJ func76 ntmps76 fun Q hQ a J=>?_;refine go fun a J=>?_;obtain _ | p:=j;refine Qq (fun a J=>?_) (o:=by exact fun J O=>jB (v:=.bool true) J rfl rfl rfl (by kernel_rfl));refine yG ?_;obtain rfl:=kV c;exact ⟨(ZB,[]),rfl,rfl,N.nilRow 3 1⟩;refine Qq (fun a J=>?_) (o:=by exact fun J O=>jB (v:=.bool false) J rfl rfl rfl (by kernel_rfl));refine go fun a J=>?_;refine st J rfl rfl rfl (qA (sz:=1) (cs:=[]) J N rfl (mA runUnderlying34 sizeOf3) rfl (by decide) fun q w N _ a J=>?_);refine go fun a J=>?_;obtain ⟨e,d,b⟩:=id h;refine st J rfl rfl rfl (vZ 0 (xs:=[]) (news:=e) dQ J N rfl rfl rfl (d.rowIn N.toSees) (b.ones RInt.ones) (fun n m c f=>kT b (by decide) c f hb) fun g w N a J=>?_);replace N:=N.nf;refine yG ?_;exact ⟨(g,e),rfl,b,N⟩
theorem q6z {v0:Value} {l:List Atom} (h:SliceOf RAtom Φ 2 v0 l) (hb:l.length * 24<=140737488355328) (N:Mem Φ K w) :
  Calls prog 78 #[v0] w (fun ee w'=>∃y:Value×List Value,ee=.returned y.1/\Chunks (RAtom Φ) 2 y.2 l/\Mem Φ (.gs y.1 75 2 y.2::K) w'):=by
 obtain ⟨j,k,rfl,i,c⟩:=h.fm;refine zJ func78 ntmps78 fun Q hQ a J=>?_;refine go fun a J=>?_;obtain _ | p:=j;refine Qq (fun a J=>?_) (o:=by exact fun J O=>jB (v:=.bool true) J rfl rfl rfl (by kernel_rfl));refine yG ?_;obtain rfl:=kV c;exact ⟨(ZB,[]),rfl,rfl,N.nilRow 75 2⟩;refine Qq (fun a J=>?_) (o:=by exact fun J O=>jB (v:=.bool false) J rfl rfl rfl (by kernel_rfl));refine go fun a J=>?_;refine st J rfl rfl rfl (qA (sz:=2) (cs:=[]) J N rfl (mA runUnderlying44 sizeOf75) rfl (by decide) fun q w N _ a J=>?_);refine go fun a J=>?_;obtain ⟨e,d,b⟩:=id h;refine st J rfl rfl rfl (vZ 0 (xs:=[]) (news:=e) j2v J N rfl rfl rfl (d.rowIn N.toSees) (b.ones RAtom.ones) (fun n m c f=>kT b (by decide) c f hb) fun g w N a J=>?_);replace N:=N.nf;refine yG ?_;exact ⟨(g,e),rfl,b,N⟩
theorem q1f {v0:Value} {l:List TA} (h:SliceOf RTA Φ 10 v0 l) (hb:l.length * 168<=140737488355328) (N:Mem Φ K w) :
  Calls prog 79 #[v0] w (fun ee w'=>∃y:Value×List Value,ee=.returned y.1/\Chunks (RTA Φ) 10 y.2 l/\Mem Φ (.gs y.1 79 10 y.2::K) w'):=by
 obtain ⟨j,k,rfl,i,c⟩:=h.fm;refine zJ func79 ntmps79 fun Q hQ a J=>?_;refine go fun a J=>?_;obtain _ | p:=j;refine Qq (fun a J=>?_) (o:=by exact fun J O=>jB (v:=.bool true) J rfl rfl rfl (by kernel_rfl));refine yG ?_;obtain rfl:=kV c;exact ⟨(ZB,[]),rfl,rfl,N.nilRow 79 10⟩;refine Qq (fun a J=>?_) (o:=by exact fun J O=>jB (v:=.bool false) J rfl rfl rfl (by kernel_rfl));refine go fun a J=>?_;refine st J rfl rfl rfl (qA (sz:=10) (cs:=[]) J N rfl (mA runUnderlying45 sizeOf79) rfl (by decide) fun q w N _ a J=>?_);refine go fun a J=>?_;obtain ⟨e,d,b⟩:=id h;refine st J rfl rfl rfl (vZ 0 (xs:=[]) (news:=e) q4n J N rfl rfl rfl (d.rowIn N.toSees) (b.ones RTA.ones) (fun n m c f=>kT b (by decide) c f hb) fun g w N a J=>?_);replace N:=N.nf;refine yG ?_;exact ⟨(g,e),rfl,b,N⟩
theorem j9g {v0:Value} {l:List TE} (h:SliceOf RTE Φ 8 v0 l) (hb:l.length * 128<=140737488355328) (N:Mem Φ K w) :
  Calls prog 80 #[v0] w (fun ee w'=>∃y:Value×List Value,ee=.returned y.1/\Chunks (RTE Φ) 8 y.2 l/\Mem Φ (.gs y.1 48 8 y.2::K) w'):=by
 obtain ⟨j,k,rfl,i,c⟩:=h.fm;refine zJ func80 ntmps80 fun Q hQ a J=>?_;refine go fun a J=>?_;obtain _ | p:=j;refine Qq (fun a J=>?_) (o:=by exact fun J O=>jB (v:=.bool true) J rfl rfl rfl (by kernel_rfl));refine yG ?_;obtain rfl:=kV c;exact ⟨(ZB,[]),rfl,rfl,N.nilRow 48 8⟩;refine Qq (fun a J=>?_) (o:=by exact fun J O=>jB (v:=.bool false) J rfl rfl rfl (by kernel_rfl));refine go fun a J=>?_;refine st J rfl rfl rfl (qA (sz:=8) (cs:=[]) J N rfl (mA runUnderlying46 sizeOf48) rfl (by decide) fun q w N _ a J=>?_);refine go fun a J=>?_;obtain ⟨e,d,b⟩:=id h;refine st J rfl rfl rfl (vZ 0 (xs:=[]) (news:=e) rt_46 J N rfl rfl rfl (d.rowIn N.toSees) (b.ones RTE.ones) (fun n m c f=>kT b (by decide) c f hb) fun g w N a J=>?_);replace N:=N.nf;refine yG ?_;exact ⟨(g,e),rfl,b,N⟩
theorem z4m {v0:Value} {l:List TFn} (h:SliceOf RTFn Φ 11 v0 l) (hb:l.length * 176<=140737488355328) (N:Mem Φ K w) :
  Calls prog 68 #[v0] w (fun ee w'=>∃y:Value×List Value,ee=.returned y.1/\Chunks (RTFn Φ) 11 y.2 l/\Mem Φ (.gs y.1 50 11 y.2::K) w'):=by
 obtain ⟨j,k,rfl,i,c⟩:=h.fm;refine zJ func68 ntmps68 fun Q hQ a J=>?_;refine go fun a J=>?_;obtain _ | p:=j;refine Qq (fun a J=>?_) (o:=by exact fun J O=>jB (v:=.bool true) J rfl rfl rfl (by kernel_rfl));refine yG ?_;obtain rfl:=kV c;exact ⟨(ZB,[]),rfl,rfl,N.nilRow 50 11⟩;refine Qq (fun a J=>?_) (o:=by exact fun J O=>jB (v:=.bool false) J rfl rfl rfl (by kernel_rfl));refine go fun a J=>?_;refine st J rfl rfl rfl (qA (sz:=11) (cs:=[]) J N rfl (mA runUnderlying24 sizeOf50) rfl (by decide) fun q w N _ a J=>?_);refine go fun a J=>?_;obtain ⟨e,d,b⟩:=id h;refine st J rfl rfl rfl (vZ 0 (xs:=[]) (news:=e) q4m J N rfl rfl rfl (d.rowIn N.toSees) (b.ones RTFn.ones) (fun n m c f=>kT b (by decide) c f hb) fun g w N a J=>?_);replace N:=N.nf;refine yG ?_;exact ⟨(g,e),rfl,b,N⟩
end
end Go.Sw
