import Derived.Test.YtlfobekmmndchaaGreatDoorX09
set_option linter.unusedVariables false
set_option linter.unusedSimpArgs false
namespace Go.Sw
open Go.Proofs Go.Proofs.Tryz
set_option maxRecDepth 20000
set_option maxHeartbeats 4000000
section
variable {Φ:Fz} {K:List Res} {w:World}
theorem y6e {a c bp mc mf ms:Nat} {tc:List Value} {T:Trc} (i:RTrc Φ tc T) (G:Glob Φ) (N:Mem Φ (.blk a (ob tc 26)::.blk c (ob [.pointer (some ⟨bp,0,none⟩)] 105)::.blk bp (ob (tc++[.map (some mc),.map (some mf),.map (some ms)]) 160)::.mp mc []::.mp mf []::.imp ms []::K) w) :
  Calls prog 64 #[.func (.func 82) #[] #[.pointer (some ⟨a,0,none⟩),.pointer (some ⟨c,0,none⟩)]] w (fun ee w'=>Out (dem (zL T))
   (fun _=>∃y:Fz×List (Int×Int),ee=.returned (.agg (List.toArray W0))/\(Φ.Le y.1/\RProg y.1 ⟨bp,0,none⟩ T ms/\mI T T.funs []=some y.2)/\Mem y.1 (.blk a (ob tc 26)::.blk c (ob [.pointer (some ⟨bp,0,none⟩)] 105)::.imp ms (xN y.2)::K) w') (fun _=>ee=.returned (.agg #[.int .i64 120,.int .i64 0])/\Mem Φ (.blk a (ob tc 26)::.blk c (ob [.pointer (some ⟨bp,0,none⟩)] 105)::K) w')):=by
 refine z8o (r:=dem (zL T)) (cs:=[.pointer (some ⟨a,0,none⟩),.pointer (some ⟨c,0,none⟩)]) (G:=fun _ (y:Fz×List (Int×Int))=>(Φ.Le y.1/\RProg y.1 ⟨bp,0,none⟩ T ms/\mI T T.funs []=some y.2)) (F:=fun _ y=>y.1) (KO:=fun _ y=>.blk a (ob tc 26)::.blk c (ob [.pointer (some ⟨bp,0,none⟩)] 105)::.imp ms (xN y.2)::K) call82 (fun b w N=>?_) N
 have g:Mem Φ (.blk a (ob tc 26)::.blk c (ob [.pointer (some ⟨bp,0,none⟩)] 105)::.blk bp (ob (tc++[.map (some mc),.map (some mf),.map (some ms)]) 160)::.mp mc []::.mp mf []::.imp ms []::.blk b (ob W0 137)::K) w:=N.perm (List.perm_middle (l₁:=([.blk a (ob tc 26),.blk c (ob [.pointer (some ⟨bp,0,none⟩)] 105),.blk bp (ob (tc++[.map (some mc),.map (some mf),.map (some ms)]) 160),.mp mc [],.mp mf [],.imp ms []]:List Res))).symm
 refine (x1f i G g).mono fun e w' h=>?_
 revert h
 cases dem (zL T) with
 | ok x=>
  rintro ⟨y,d,j,f⟩
  exact ⟨y,d,j,f.perm (List.perm_middle (l₁:=([.blk a (ob tc 26),.blk c (ob [.pointer (some ⟨bp,0,none⟩)] 105),.imp ms (xN y.2)]:List Res)))⟩
 | error x=>
  rintro ⟨d,f⟩
  exact ⟨d,f.perm (List.perm_middle (l₁:=([.blk a (ob tc 26),.blk c (ob [.pointer (some ⟨bp,0,none⟩)] 105)]:List Res)))⟩
theorem y8q {tc:List Value} {T:Trc} (h:RTrc Φ tc T) (G:Glob Φ) (N:Mem Φ K w) :
  Calls prog 47 #[.agg tc.toArray] w (fun ee w'=>Out (dem (zL T)) (fun _=>∃y:(Fz×List (Int×Int))×(Nat×Nat),ee=.returned (.tuple #[.pointer (some ⟨y.2.1,0,none⟩),.bool true])/\((Φ.Le y.1.1/\RProg y.1.1 ⟨y.2.1,0,none⟩ T y.2.2/\mI T T.funs []=some y.1.2))/\Mem y.1.1 (.imp y.2.2 (xN y.1.2)::K) w')
   (fun _=>∃b:Nat,ee=.returned (.tuple #[.pointer (some ⟨b,0,none⟩),.bool false])/\Mem Φ K w')):=by
 have d:=h
 obtain ⟨S,c4,U,C,L,D,M,c22,rfl,l,P,R,E,F,H,I,m,q,n,r,p,s⟩:=RTrc.fm h
 refine zJ func47 ntmps47 fun Q hQ a J=>?_
 refine Bx fun t w N a J=>?_
 refine MkM fun u w N a J=>?_
 replace N:=N.nf
 refine MkM fun v w N a J=>?_
 replace N:=N.nf
 refine st J rfl rfl rfl (z1q N fun i w N a J=>?_)
 replace N:=N.nf
 refine BldT fun a J=>?_
 refine Bx fun g w N a J=>?_
 refine Alc fun z w N a J=>?_
 refine Sto 0 fun w N a J=>?_
 replace N:=N.ar [] [2,3,4,4,4,5]
 refine cY call64 (fun j k w f e N a J=>?_) (fun j w f N a J=>?_) (c:=y6e d G N)
 replace d:=RTrc.mono _ _ _ _ e.1 d
 replace G:=G.mono e.1
 replace N:=N.nf
 refine Alc fun A w N a J=>?_
 refine Sto 0 fun w N a J=>?_
 refine Reg [2,1,2,1,1,1] [0,1,2,3] fun w N a J=>?_
 refine Qq (fun a J=>?_) (o:=by exact fun J O=>xY true J rfl rfl rfl)
 refine z3k ?_
 replace N:=N.dl [2,1,0]
 rw [f];exact ⟨(k,(g,i)),rfl,e,N⟩
 replace N:=N.nf
 refine Alc fun B w N a J=>?_
 refine Sto 0 fun w N a J=>?_
 refine Reg [2,1,2,1,1,1] [0,1,2] fun w N a J=>?_
 refine Qq (fun a J=>?_) (o:=by exact fun J O=>xY false J rfl rfl rfl)
 refine z3k ?_
 replace N:=N.dl [2,1,0]
 rw [f];exact ⟨g,rfl,N⟩
theorem pZ {tc:List Value} {T:Trc} (j:RTrc Φ tc T) (G:Glob Φ) (N:Mem Φ K w) :
  Calls prog 25 #[.agg tc.toArray] w (fun ee w'=>Out (dem (zL T)) (fun _=>∃y:Unit,ee=.returned (.int .i64 0)/\True/\Mem Φ K w') (fun _=>ee=.returned (.int .i64 120)/\Mem Φ K w')):=by
 have c:=j
 obtain ⟨p3,c4,p9,W,g0,X,h0,c22,rfl,u,h2,h8,Y,Z,e0,f0,z,H,A,I,B,L⟩:=RTrc.fm j
 refine zJ func25 ntmps25 fun Q hQ a J=>?_
 refine Bx fun V w N a J=>?_
 refine go fun a J=>?_
 refine st J rfl rfl rfl (mZ J rfl call47 (y8q c G N) (fun s f w e d N a J=>?_) (fun s f w e N a J=>?_))
 replace c:=RTrc.mono _ _ _ _ d.1 c
 replace G:=G.mono d.1
 have RP34:=d.2.1
 replace N:=N.nf
 obtain ⟨t,h,i,b,g,m,n⟩:=RP34.ex
 obtain ⟨o,c45,p,c51,q,k,r,l,rfl,v,a0,b0,c0,d0,C,M,D,P,E,R,F,S⟩:=RTrc.fm g
 replace b:At f.1.1 ⟨f.2.1,0,none⟩ [.slice o T.cons.length c45,.slice p T.inputs.length c51,.slice q T.funs.length k,.slice r T.outputs.length l,.map (some h),.map (some i),.map (some f.2.2)]:=b
 generalize U:(⟨f.2.1,0,none⟩:Addr)=i0 at J b
 refine yK ?_
 replace N:=N.le (d.1)
 replace N:=N.dl [1,0]
 rw [e];exact ⟨(),rfl,trivial,N⟩
 refine yK ?_
 replace N:=N.dl [0]
 rw [e];exact ⟨rfl,N⟩
theorem q6e {T:Trc} {n:Bs} (h:zL T=false):wD T n=none:=by rw [wD,h];rfl
theorem q0t {T:Trc} {n:Bs} (a:zL T=true) (h:T.cons.findIdx? (fun c=>decide (c.name=n))=none):wD T n=none:=by rw [wD,a,if_pos rfl,show oT T n=none from h];rfl
theorem q0u {T:Trc} {n:Bs} {j:Nat} {c:TCon} (a:zL T=true) (h:T.cons.findIdx? (fun c=>decide (c.name=n))=some j) (b:T.cons[j]? = some c):wD T n=some c.fields:=by
 rw [wD,a,if_pos rfl,show oT T n=some j from h,Option.bind_some,b];rfl
theorem y2z {tc:List Value} {T:Trc} {n:Bs} (A:RTrc Φ tc T) (G:Glob Φ) (N:Mem Φ K w) :
  Calls prog 187 #[.agg tc.toArray,.string n] w (fun ee w'=>Out (xL (wD T n)) (fun l=>∃v:Value,ee=.returned (.tuple #[v,.bool true])/\True/\Mem Φ (.gs v 4 1 (gB l)::K) w') (fun _=>ee=.returned (.tuple #[.slice none 0 0,.bool false])/\Mem Φ K w')):=by
 have f:=A
 obtain ⟨p3,c4,p9,t0,E0,u0,F0,c22,rfl,Y,h2,h8,x0,y0,C0,D0,b0,j0,c0,k0,d0,l0⟩:=RTrc.fm A
 refine zJ func187 ntmps187 fun Q hQ a J=>?_
 refine Bx fun s0 w N a J=>?_
 refine go fun a J=>?_
 refine st J rfl rfl rfl (mZ J rfl call47 (y8q f G N) (fun R j w h b N a J=>?_) (fun R j w h N a J=>?_))
 replace f:=RTrc.mono _ _ _ _ b.1 f
 replace G:=G.mono b.1
 have RP33:=b.2.1
 replace N:=N.nf
 obtain ⟨V,y,z,d,m,i,F⟩:=RP33.ex
 obtain ⟨I,c44,L,c50,M,B,P,C,rfl,Z,D,z0,A0,B0,e0,s,f0,m0,g0,n0,h0,o0⟩:=RTrc.fm m
 replace d:At j.1.1 ⟨j.2.1,0,none⟩ [.slice I T.cons.length c44,.slice L T.inputs.length c50,.slice M T.funs.length B,.slice P T.outputs.length C,.map (some y),.map (some z),.map (some j.2.2)]:=d
 generalize q0:(⟨j.2.1,0,none⟩:Addr)=H0 at J d
 refine go fun a J=>?_
 rcases g:jJ ((zN (mT T))) n with _ | r0
 have e:=congrArg (zZ true (.int .i64 ((0:Nat):Int))) g
 refine Qq (fun a J=>?_) (o:=by exact fun J O=>Ok.cast (yT runUnderlying98 runUnderlying9 zeroValue3 J O rfl rfl i) (show zZ true (.int .i64 ((0:Nat):Int)) (jJ ((zN (mT T))) n)=.tuple #[.int .i64 ((0:Nat):Int),.bool false] from e))
 refine z3k ?_
 replace N:=N.le (b.1)
 replace N:=N.dl [1,0]
 rw [show wD T n=none from q0t (zD h) (gG (vQ g))];exact ⟨rfl,N⟩
 obtain ⟨J0,u,rfl⟩:=pW g
 obtain ⟨H,rfl,q,r⟩:=gH u
 have e:=congrArg (zZ true (.int .i64 ((0:Nat):Int))) g
 refine Qq (fun a J=>?_) (o:=by exact fun J O=>Ok.cast (yT runUnderlying98 runUnderlying9 zeroValue3 J O rfl rfl i) (show zZ true (.int .i64 ((0:Nat):Int)) (jJ ((zN (mT T))) n)=.tuple #[.int .i64 H,.bool true] from e))
 refine go fun a J=>?_
 obtain ⟨I0,rfl,S,k,W,a0,X,t⟩:=D.el s r
 obtain ⟨G0,w0,rfl,E,i0,p0⟩:=RTCon.fm t
 refine yF call72 (fun U w p N a J=>?_) (c:=z8c E (by have:=z1z RP33.ok k;omega) N)
 refine z3k ?_
 replace N:=N.le (b.1)
 replace N:=N.dl [2,1]
 rw [show wD T n=some S.fields from q0u (zD h) q k]
 exact ⟨U.1,rfl,trivial,by rw [<- z1n p];exact N⟩
 refine z3k ?_
 replace N:=N.dl [0]
 rw [show wD T n=none from q6e (zP h)];exact ⟨rfl,N⟩
end
def y9i (m:Atoms) (e:TE):Prop:=∀{Φ:Fz} {K:List Res} {w:World} {a b:Nat} {va:Value} {d:List Value},At Φ ⟨a,0,none⟩ [va]->MV Φ va m->At Φ ⟨b,0,none⟩ [.func (.func 77) #[] #[.pointer (some ⟨a,0,none⟩),.pointer (some ⟨b,0,none⟩)]]->(∀p∈m,I64 p.2.num)->RTE Φ d e->smT e->Mem Φ K w ->
  Calls prog 77 #[.agg d.toArray,.pointer (some ⟨a,0,none⟩),.pointer (some ⟨b,0,none⟩)] w (fun ee w'=>∃q:Fz×List Value,ee=.returned (.agg q.2.toArray)/\(Φ.Le q.1/\RTE q.1 q.2 (zT m e))/\Mem q.1 K w')
theorem q8f {m:Atoms} {e:TE} (R1:∀a∈e.arms,y9i m a.body) (z3:∀x∈e.body,y9i m x):y9i m e:=by
 intro Φ K w b3 b5 va d A z B hI re O N
 have g:=re
 have L:=(z0x e).1 O
 obtain ⟨s1,s7,O6,rfl,T2,U2,h2,h8,E⟩:=RTE.iff.1 re
 obtain ⟨p3,c4,rfl,I6,J6⟩:=h2.fm
 obtain ⟨p9,F6,rfl,v5,y5⟩:=h8.fm
 obtain ⟨K6,G6,rfl,w5,z5⟩:=E.fm
 refine zJ func77 ntmps77 fun Q hQ a J=>?_
 refine Bx fun A6 w N a J=>?_
 refine Alc fun B6 w N a J=>?_
 refine yF call78 (fun N4 w U0 N a J=>?_) (c:=q5p h2 (by have:=L.1;omega) N)
 obtain ⟨Q6,k2⟩:=N4
 simp only at U0 N J
 obtain ⟨b2,F1,rfl,k4,X2⟩:=N.toSees.gsLen (i:=0) rfl U0 (by decide)
 replace N:=N.nf
 refine Sto 2 fun w N a J=>?_
 refine go fun a J=>?_
 refine qD (J.ks [1,2,3,4,16,17]) N (fun R mm a w=>∃(S:Fz) (i:Nat) (ca:List Value),mm=e.args.length - i/\R S [(18,.int .i64 i)] [(0,.gs (.slice b2 e.args.length F1) 75 2 ca)] a w/\(Φ.Le S/\(Chunks (RAtom S) 2 ca ((e.args.take i).map (mM m)++e.args.drop i)))) (e.args.length - 0) ⟨Φ,0,k2,rfl,⟨J.pk,N⟩,⟨Fz.Le.refl _,U0⟩⟩ ?_
 clear N J
 rintro mm a w ⟨S,i,ca,l0,⟨J,N⟩,X0⟩ y6 Z0
 replace N:=N.nf
 obtain ⟨M,X0⟩:=X0
 replace h8:=h8.mono RTA.mono M
 replace E:=E.mono RTE.mono M
 replace g:=RTE.mono _ _ _ _ M g
 replace A:=A.mono M
 replace z:=z.mono M
 replace B:=B.mono M
 have t0:=X0
 by_cases P1:i < e.args.length
 refine go fun a J=>?_
 obtain ⟨M6,rfl⟩:=X2 (zO P1)
 refine go fun a J=>?_
 obtain ⟨r0,w0⟩:=zW P1
 obtain ⟨b1,V2⟩:=t0.at (vI (f:=mM m) w0)
 generalize T1:(ca.drop (i * 2)).take 2=r5 at b1 V2
 have M4:=b1
 obtain ⟨rfl,u5⟩:=id b1
 refine Qq (fun a J=>?_) (o:=by exact fun J O=>z3i 0 i J O rfl rfl T1 isAgg75 sizeOf75 rfl)
 refine Alc fun C6 w N a J=>?_
 refine Sto 0 fun w N a J=>?_
 refine go fun a J=>?_
 rcases N0:jJ (xZ m) r0.name with _ | x6
 have C0:=congrArg (zZ true (.agg #[.string ⟨#[]⟩,.int .i64 0])) N0
 refine Qq (fun a J=>?_) (o:=by exact fun J O=>Ok.cast (z5u runUnderlying151 runUnderlying9 zeroValue75 J O rfl rfl z) (show zZ true (.agg #[.string ⟨#[]⟩,.int .i64 0]) (jJ (xZ m) r0.name)=.tuple #[.agg #[.string ⟨#[]⟩,.int .i64 ((0:Nat):Int)],.bool false] from C0))
 refine Alc fun D6 w N a J=>?_
 refine Sto 0 fun w N a J=>?_
 refine go fun a J=>?_
 replace N:=N.dl [1,0]
 refine Z0 _ _ _ (by subst l0;omega) ⟨(S),(i+1),(ca),rfl,⟨J.pk,N⟩,?_⟩
 refine ⟨M,?_⟩
 have h_:=t0
 rw [q1v w0 (y4c (y2l N0))] at h_;exact h_
 obtain ⟨l1,A1,rfl⟩:=y2m N0
 have C0:=congrArg (zZ true (.agg #[.string ⟨#[]⟩,.int .i64 0])) N0
 refine Qq (fun a J=>?_) (o:=by exact fun J O=>Ok.cast (z5u runUnderlying151 runUnderlying9 zeroValue75 J O rfl rfl z) (show zZ true (.agg #[.string ⟨#[]⟩,.int .i64 0]) (jJ (xZ m) r0.name)=.tuple #[.agg #[.string l1.name,.int .i64 (l1.num)],.bool true] from C0))
 refine Alc fun E6 w N a J=>?_
 refine Sto 0 fun w N a J=>?_
 by_cases L2:r0.name=(⟨#[]⟩:Bs)
 refine go fun a J=>?_
 replace N:=N.dl [1,0]
 refine Z0 _ _ _ (by subst l0;omega) ⟨(S),(i+1),(ca),rfl,⟨J.pk,N⟩,?_⟩
 refine ⟨M,?_⟩
 have h_:=t0
 rw [q1v w0 (j0q (show r0.name=sNo from L2))] at h_;exact h_
 refine go fun a J=>?_
 have a2:mM m r0=l1:=x1d (show ¬r0.name=sNo from L2) A1
 refine st0 J rfl rfl (qU (R:=RAtom S) (vs:=[.string l1.name,.int .i64 (l1.num)]) (u:=r0) (u':=(mM m r0)) 2 i 0 J N rfl (tB (N.toSees.rowCell (i:=2) rfl).1) rfl rfl t0 (vI (f:=mM m) w0) rfl sizeOf75 rfl rfl (by decide) (fun x0 k0 hr_=>by rw [a2];exact ⟨z6x (by rw [k0];rfl),hI _ (z2h A1)⟩) fun l2 w S1 N a J=>?_)
 replace N:=N.nf
 refine go fun a J=>?_
 replace N:=N.dl [1,0]
 refine Z0 _ _ _ (by subst l0;omega) ⟨(S),(i+1),(l2),rfl,⟨J.pk,N⟩,?_⟩
 refine ⟨M,?_⟩
 have h_:=S1
 rw [z2i w0] at h_;exact h_
 refine go fun a J=>?_
 have b:=t0
 rw [y6p P1] at b
 refine yF call79 (fun O4 w V0 N a J=>?_) (c:=q0l h8 (by have:=L.2.1;omega) N)
 obtain ⟨R6,m2⟩:=O4
 simp only at V0 N J
 obtain ⟨c2,G1,rfl,l4,Y2⟩:=N.toSees.gsLen (i:=0) rfl V0 (by decide)
 replace N:=N.nf
 refine Sto 3 fun w N a J=>?_
 refine go fun a J=>?_
 refine qD (J.ks [2,3,4,48]) N (fun R mm a w=>∃(g0:Fz) (V:Nat) (cb:List Value),mm=e.arms.length - V/\R g0 [(49,.int .i64 V)] [(0,.gs (.slice c2 e.arms.length G1) 79 10 cb)] a w/\(S.Le g0/\(Chunks (RTA g0) 10 cb ((e.arms.take V).map (cV m)++e.arms.drop V)))) (e.arms.length - 0) ⟨S,0,m2,rfl,⟨J.pk,N⟩,⟨Fz.Le.refl _,V0⟩⟩ ?_
 clear N J
 rintro mm a w ⟨g0,V,cb,l0,⟨J,N⟩,Y0⟩ z6 a1
 replace N:=N.nf
 obtain ⟨P,Y0⟩:=Y0
 replace E:=E.mono RTE.mono P
 replace g:=RTE.mono _ _ _ _ P g
 replace A:=A.mono P
 replace z:=z.mono P
 replace B:=B.mono P
 replace b:=b.mono fun _ _ h=>RAtom.mono _ _ _ _ P h
 have p:=Y0
 by_cases o1:V < e.arms.length
 refine go fun a J=>?_
 refine yN [1,2,1,1,2,1,1,2,1,1,1,0,0,2,1,2,1,1,1,0,0,1,1,0,1,1,0] (.q 0 (.q 1 (.q 2 (.q 3 (.q 4 (.q 5 (.q 6 (.q 7 (.q 8 (.q 9 (.q 10 (.q 13 (.q 14 (.q 15 (.q 16 (.q 17 (.q 18 (.e2 11 19 (.e2 12 19 (.e 19 (.e 20 (.q 21 (.q 22 (.e 23 (.q 24 (.q 25 (.e 26 (.done))))))))) (.e 12 (.e 20 (.q 21 (.q 22 (.e 23 (.q 24 (.q 25 (.e 26 (.done)))))))))) (.e 11 (.e 12 (.e 20 (.q 21 (.q 22 (.e 23 (.q 24 (.q 25 (.e 26 (.done)))))))))))))))))))))))))))) [1,2,3] J N fun w N=>?_
 refine go fun a J=>?_
 obtain ⟨N6,rfl⟩:=Y2 (zO o1)
 refine go fun a J=>?_
 refine kY ?_ ?_
 obtain ⟨U,y⟩:=zW o1
 obtain ⟨c1,W2⟩:=p.at (vI (f:=cV m) y)
 generalize B0:(cb.drop (V * 10)).take 10=s5 at c1 W2
 have H:=c1
 obtain ⟨P6,Q4,rfl,y0,F⟩:=RTA.iff.1 c1
 obtain ⟨L6,H6,rfl,x5,m4⟩:=y0.fm
 obtain ⟨X5,Y5,Z5,rfl,A3,B3,n2,o2,p2⟩:=RTE.iff.1 F
 obtain ⟨A5,V4,rfl,M3,n4⟩:=n2.fm
 obtain ⟨B5,W4,rfl,N3,o4⟩:=o2.fm
 obtain ⟨C5,X4,rfl,O3,p4⟩:=p2.fm
 refine d_e J rfl rfl rfl (pE (z5t 0 V 1 J N.toSees rfl rfl B0 isAgg23 rfl) ⟨fun _=>N.sn (Fz.Le.refl _),fun a J=>?_⟩)
 refine kY ?_ ?_
 refine yF call71 (fun Z2 w X N a J=>?_) (c:=nO y0 (by have:=(nZ L.2.2.2.1 (mgQ y)).1;omega) N)
 obtain ⟨t6,r3⟩:=Z2
 simp only at X N J
 obtain ⟨B1,w1,rfl,j3,q4⟩:=N.toSees.gsLen (i:=0) rfl X (by decide)
 replace N:=N.nf
 have v:=N
 clear N
 obtain ⟨d2,k,N,d1,N2⟩:=v.freezeRowC (i:=0) rfl
 clear v
 replace E:=E.mono RTE.mono k
 replace g:=RTE.mono _ _ _ _ k g
 replace A:=A.mono k
 replace z:=z.mono k
 replace B:=B.mono k
 replace b:=b.mono fun _ _ h=>RAtom.mono _ _ _ _ k h
 replace p:=p.mono fun _ _ h=>RTA.mono _ _ _ _ k h
 replace y0:=y0.up k
 replace F:=RTE.mono _ _ _ _ k F
 replace H:=RTA.mono _ _ _ _ k H
 replace X:=X.mono fun _ _ h=>RStr.mono _ _ _ _ k h
 replace N:=N.nf
 have n0:SliceOf RStr d2 1 (.slice B1 U.vars.length w1) (U.vars):=⟨_,d1,X⟩
 refine d_e J rfl rfl rfl (pE (mC 0 V 2 J N.toSees rfl rfl B0 isAgg48 sizeOf48 rfl rfl) ⟨fun _=>N.sn ((Fz.Le.refl _).trans k),fun a J=>?_⟩)
 refine d_e J rfl rfl rfl (vX J rfl rfl call77 (R1 _ (mgQ y) A z B hI F ((nZ L.2.2.2.1 (mgQ y)).2) N) (fun O0 w j N=>⟨fun _=>N.sn (((Fz.Le.refl _).trans k).trans (j.1)),fun a J=>?_⟩))
 replace E:=E.mono RTE.mono j.1
 replace g:=RTE.mono _ _ _ _ j.1 g
 replace A:=A.mono j.1
 replace z:=z.mono j.1
 replace B:=B.mono j.1
 replace b:=b.mono fun _ _ h=>RAtom.mono _ _ _ _ j.1 h
 replace p:=p.mono fun _ _ h=>RTA.mono _ _ _ _ j.1 h
 replace y0:=y0.mono RStr.mono j.1
 replace F:=RTE.mono _ _ _ _ j.1 F
 replace H:=RTA.mono _ _ _ _ j.1 H
 replace n0:=n0.mono RStr.mono j.1
 have D0:=j.2
 replace N:=N.nf
 refine go fun a J=>?_
 refine aE J rfl rfl (qU (R:=RTA O0.1) (vs:=[.slice B1 U.vars.length w1]) (u:=U) (u':=U) 0 V 1 J N rfl (pB (N.toSees.rowCell (i:=0) rfl).1) rfl rfl p (vI (f:=cV m) y) rfl sizeOf23 rfl rfl (by decide) (fun x0 k0 hr_=>y0d hr_ n0) fun H1 w h0 N=>⟨fun _=>N.sn (((Fz.Le.refl _).trans k).trans j.1),fun a J=>?_⟩)
 replace N:=N.nf
 rw [y0k (vI (f:=cV m) y)] at h0
 refine go fun a J=>?_
 obtain ⟨E0,U1⟩:=h0.at (vI (f:=cV m) y)
 generalize g3:(H1.drop (V * 10)).take 10=u3 at E0 U1
 have n3:=E0
 obtain ⟨a6,R4,rfl,q2,r2⟩:=RTA.iff.1 E0
 obtain ⟨D5,Y4,rfl,P3,r4⟩:=q2.fm
 obtain ⟨b6,c6,d6,rfl,C3,D3,s2,t2,u2⟩:=RTE.iff.1 r2
 obtain ⟨E5,Z4,rfl,Q3,s4⟩:=s2.fm
 obtain ⟨F5,a5,rfl,R3,t4⟩:=t2.fm
 obtain ⟨G5,c168,rfl,S3,u4⟩:=u2.fm
 refine aE J rfl rfl (qU (R:=RTA O0.1) (vs:=O0.2) (u:=U) (u':=(cV m U)) 0 V 2 J N rfl (pB (N.toSees.rowCell (i:=0) rfl).1) rfl rfl h0 (vI (f:=cV m) y) rfl sizeOf48 D0.len (RTE.ones _ _ _ D0) (by decide) (fun x0 k0 hr_=>z2q hr_ D0) fun I1 w p1 N=>⟨jM (by kernel_rfl),fun a J=>?_⟩)
 replace N:=N.nf
 refine go fun a J=>?_
 refine a1 _ _ _ (by subst l0;omega) ⟨(O0.1),(V+1),(I1),rfl,⟨J.pk,N⟩,?_⟩
 refine ⟨((P).trans k).trans j.1,?_⟩
 have h_:=p1
 rw [z2i y] at h_;exact h_
 refine d_e J rfl rfl rfl (pE (mC 0 V 2 J N.toSees rfl rfl B0 isAgg48 sizeOf48 rfl rfl) ⟨fun _=>N.sn (Fz.Le.refl _),fun a J=>?_⟩)
 refine yF call71 (fun a3 w Y N a J=>?_) (c:=nO y0 (by have:=(nZ L.2.2.2.1 (mgQ y)).1;omega) N)
 obtain ⟨u6,s3⟩:=a3
 simp only at Y N J
 obtain ⟨C1,x1,rfl,k3,v4⟩:=N.toSees.gsLen (i:=0) rfl Y (by decide)
 replace N:=N.nf
 have v:=N
 clear N
 obtain ⟨f2,r,N,e1,O2⟩:=v.freezeRowC (i:=0) rfl
 clear v
 replace E:=E.mono RTE.mono r
 replace g:=RTE.mono _ _ _ _ r g
 replace A:=A.mono r
 replace z:=z.mono r
 replace B:=B.mono r
 replace b:=b.mono fun _ _ h=>RAtom.mono _ _ _ _ r h
 replace p:=p.mono fun _ _ h=>RTA.mono _ _ _ _ r h
 replace F:=RTE.mono _ _ _ _ r F
 replace H:=RTA.mono _ _ _ _ r H
 replace Y:=Y.mono fun _ _ h=>RStr.mono _ _ _ _ r h
 replace N:=N.nf
 have o0:SliceOf RStr f2 1 (.slice C1 U.vars.length x1) (U.vars):=⟨_,e1,Y⟩
 refine d_e J rfl rfl rfl (vX J rfl rfl call77 (R1 _ (mgQ y) A z B hI F ((nZ L.2.2.2.1 (mgQ y)).2) N) (fun P0 w l N=>⟨fun _=>N.sn (((Fz.Le.refl _).trans r).trans (l.1)),fun a J=>?_⟩))
 replace E:=E.mono RTE.mono l.1
 replace g:=RTE.mono _ _ _ _ l.1 g
 replace A:=A.mono l.1
 replace z:=z.mono l.1
 replace B:=B.mono l.1
 replace b:=b.mono fun _ _ h=>RAtom.mono _ _ _ _ l.1 h
 replace p:=p.mono fun _ _ h=>RTA.mono _ _ _ _ l.1 h
 replace F:=RTE.mono _ _ _ _ l.1 F
 replace H:=RTA.mono _ _ _ _ l.1 H
 replace o0:=o0.mono RStr.mono l.1
 have F0:=l.2
 replace N:=N.nf
 refine go fun a J=>?_
 refine aE J rfl rfl (qU (R:=RTA P0.1) (vs:=[.slice C1 U.vars.length x1]) (u:=U) (u':=U) 0 V 1 J N rfl (pB (N.toSees.rowCell (i:=0) rfl).1) rfl rfl p (vI (f:=cV m) y) rfl sizeOf23 rfl rfl (by decide) (fun x0 k0 hr_=>y0d hr_ o0) fun J1 w i0 N=>⟨fun _=>N.sn (((Fz.Le.refl _).trans r).trans l.1),fun a J=>?_⟩)
 replace N:=N.nf
 rw [y0k (vI (f:=cV m) y)] at i0
 refine go fun a J=>?_
 obtain ⟨G0,V1⟩:=i0.at (vI (f:=cV m) y)
 generalize h3:(J1.drop (V * 10)).take 10=v3 at G0 V1
 have o3:=G0
 obtain ⟨e6,S4,rfl,v2,w2⟩:=RTA.iff.1 G0
 obtain ⟨H5,c5,rfl,T3,w4⟩:=v2.fm
 obtain ⟨f6,g6,h6,rfl,E3,F3,x2,y2,z2⟩:=RTE.iff.1 w2
 obtain ⟨I5,d5,rfl,U3,x4⟩:=x2.fm
 obtain ⟨J5,e5,rfl,V3,y4⟩:=y2.fm
 obtain ⟨K5,f5,rfl,W3,z4⟩:=z2.fm
 refine aE J rfl rfl (qU (R:=RTA P0.1) (vs:=P0.2) (u:=U) (u':=(cV m U)) 0 V 2 J N rfl (pB (N.toSees.rowCell (i:=0) rfl).1) rfl rfl i0 (vI (f:=cV m) y) rfl sizeOf48 F0.len (RTE.ones _ _ _ F0) (by decide) (fun x0 k0 hr_=>z2q hr_ F0) fun K1 w q1 N=>⟨jM (by kernel_rfl),fun a J=>?_⟩)
 replace N:=N.nf
 refine go fun a J=>?_
 refine a1 _ _ _ (by subst l0;omega) ⟨(P0.1),(V+1),(K1),rfl,⟨J.pk,N⟩,?_⟩
 refine ⟨((P).trans r).trans l.1,?_⟩
 have h_:=q1
 rw [z2i y] at h_;exact h_
 obtain ⟨e0,D⟩:=zW o1
 obtain ⟨H0,W1⟩:=p.at (vI (f:=cV m) D)
 generalize M0:(cb.drop (V * 10)).take 10=w3 at H0 W1
 have W:=H0
 obtain ⟨i6,T4,rfl,z1,f0⟩:=RTA.iff.1 H0
 obtain ⟨L5,g5,rfl,X3,A4⟩:=z1.fm
 obtain ⟨j6,k6,l6,rfl,G3,H3,A2,B2,C2⟩:=RTE.iff.1 f0
 obtain ⟨M5,h5,rfl,Y3,B4⟩:=A2.fm
 obtain ⟨N5,i5,rfl,Z3,C4⟩:=B2.fm
 obtain ⟨O5,j5,rfl,a4,D4⟩:=C2.fm
 refine d_e J rfl rfl rfl (pE (mC 0 V 2 J N.toSees rfl rfl M0 isAgg48 sizeOf48 rfl rfl) ⟨fun _=>N.sn (Fz.Le.refl _),fun a J=>?_⟩)
 refine d_e J rfl rfl rfl (pE (z5t 0 V 1 J N.toSees rfl rfl M0 isAgg23 rfl) ⟨fun _=>N.sn (Fz.Le.refl _),fun a J=>?_⟩)
 refine yF call71 (fun d3 w Z N a J=>?_) (c:=nO z1 (by have:=(nZ L.2.2.2.1 (mgQ D)).1;omega) N)
 obtain ⟨v6,t3⟩:=d3
 simp only at Z N J
 obtain ⟨D1,y1,rfl,l3,E4⟩:=N.toSees.gsLen (i:=0) rfl Z (by decide)
 replace N:=N.nf
 have v:=N
 clear N
 obtain ⟨g2,s,N,f1,P2⟩:=v.freezeRowC (i:=0) rfl
 clear v
 replace E:=E.mono RTE.mono s
 replace g:=RTE.mono _ _ _ _ s g
 replace A:=A.mono s
 replace z:=z.mono s
 replace B:=B.mono s
 replace b:=b.mono fun _ _ h=>RAtom.mono _ _ _ _ s h
 replace p:=p.mono fun _ _ h=>RTA.mono _ _ _ _ s h
 replace f0:=RTE.mono _ _ _ _ s f0
 replace W:=RTA.mono _ _ _ _ s W
 replace Z:=Z.mono fun _ _ h=>RStr.mono _ _ _ _ s h
 replace N:=N.nf
 have p0:SliceOf RStr g2 1 (.slice D1 e0.vars.length y1) (e0.vars):=⟨_,f1,Z⟩
 refine d_e J rfl rfl rfl (vX J rfl rfl call77 (R1 _ (mgQ D) A z B hI f0 ((nZ L.2.2.2.1 (mgQ D)).2) N) (fun Q0 w n N=>⟨fun _=>N.sn (((Fz.Le.refl _).trans s).trans (n.1)),fun a J=>?_⟩))
 replace E:=E.mono RTE.mono n.1
 replace g:=RTE.mono _ _ _ _ n.1 g
 replace A:=A.mono n.1
 replace z:=z.mono n.1
 replace B:=B.mono n.1
 replace b:=b.mono fun _ _ h=>RAtom.mono _ _ _ _ n.1 h
 replace p:=p.mono fun _ _ h=>RTA.mono _ _ _ _ n.1 h
 replace f0:=RTE.mono _ _ _ _ n.1 f0
 replace W:=RTA.mono _ _ _ _ n.1 W
 replace p0:=p0.mono RStr.mono n.1
 have I0:=n.2
 replace N:=N.nf
 refine go fun a J=>?_
 refine aE J rfl rfl (qU (R:=RTA Q0.1) (vs:=[.slice D1 e0.vars.length y1]) (u:=e0) (u':=e0) 0 V 1 J N rfl (pB (N.toSees.rowCell (i:=0) rfl).1) rfl rfl p (vI (f:=cV m) D) rfl sizeOf23 rfl rfl (by decide) (fun x0 k0 hr_=>y0d hr_ p0) fun L1 w j0 N=>⟨fun _=>N.sn (((Fz.Le.refl _).trans s).trans n.1),fun a J=>?_⟩)
 replace N:=N.nf
 rw [y0k (vI (f:=cV m) D)] at j0
 refine go fun a J=>?_
 obtain ⟨J0,X1⟩:=j0.at (vI (f:=cV m) D)
 generalize i3:(L1.drop (V * 10)).take 10=x3 at J0 X1
 have q3:=J0
 obtain ⟨m6,U4,rfl,D2,E2⟩:=RTA.iff.1 J0
 obtain ⟨P5,k5,rfl,b4,F4⟩:=D2.fm
 obtain ⟨n6,o6,p6,rfl,I3,J3,F2,G2,H2⟩:=RTE.iff.1 E2
 obtain ⟨Q5,l5,rfl,d4,G4⟩:=F2.fm
 obtain ⟨R5,m5,rfl,e4,H4⟩:=G2.fm
 obtain ⟨S5,n5,rfl,f4,I4⟩:=H2.fm
 refine aE J rfl rfl (qU (R:=RTA Q0.1) (vs:=Q0.2) (u:=e0) (u':=(cV m e0)) 0 V 2 J N rfl (pB (N.toSees.rowCell (i:=0) rfl).1) rfl rfl j0 (vI (f:=cV m) D) rfl sizeOf48 I0.len (RTE.ones _ _ _ I0) (by decide) (fun x0 k0 hr_=>z2q hr_ I0) fun M1 w r1 N=>⟨jM (by kernel_rfl),fun a J=>?_⟩)
 replace N:=N.nf
 refine go fun a J=>?_
 refine a1 _ _ _ (by subst l0;omega) ⟨(Q0.1),(V+1),(M1),rfl,⟨J.pk,N⟩,?_⟩
 refine ⟨((P).trans s).trans n.1,?_⟩
 have h_:=r1
 rw [z2i D] at h_;exact h_
 refine go fun a J=>?_
 have t:=p
 rw [y6p o1] at t
 refine yF call80 (fun e3 w z0 N a J=>?_) (c:=j7a E (by have:=L.2.2.1;omega) N)
 obtain ⟨w6,N1⟩:=e3
 simp only at z0 N J
 obtain ⟨j1,R0,rfl,m3,Z1⟩:=N.toSees.gsLen (i:=0) rfl z0 (by decide)
 replace N:=N.nf
 refine Sto 4 fun w N a J=>?_
 refine go fun a J=>?_
 refine qD (J.ks [2,3,4,84]) N (fun R mm a w=>∃(s0:Fz) (k_:Nat) (cc:List Value),mm=e.body.length - k_/\R s0 [(85,.int .i64 k_)] [(0,.gs (.slice j1 e.body.length R0) 48 8 cc)] a w/\(g0.Le s0/\(Chunks (RTE s0) 8 cc ((e.body.take k_).map (zT m)++e.body.drop k_)))) (e.body.length - 0) ⟨g0,0,N1,rfl,⟨J.pk,N⟩,⟨Fz.Le.refl _,z0⟩⟩ ?_
 clear N J
 rintro mm a w ⟨s0,k_,cc,l0,⟨J,N⟩,A0⟩ P4 Q1
 replace N:=N.nf
 obtain ⟨I,A0⟩:=A0
 replace g:=RTE.mono _ _ _ _ I g
 replace A:=A.mono I
 replace z:=z.mono I
 replace B:=B.mono I
 replace b:=b.mono fun _ _ h=>RAtom.mono _ _ _ _ I h
 replace t:=t.mono fun _ _ h=>RTA.mono _ _ _ _ I h
 have u0:=A0
 by_cases S0:k_ < e.body.length
 refine Reg [1,2,1,2,1,2,1,1,0,0,1,0] [1,2,3,4] fun w N a J=>?_
 refine go fun a J=>?_
 obtain ⟨W5,rfl⟩:=Z1 (zO S0)
 refine go fun a J=>?_
 obtain ⟨E1,a0⟩:=zW S0
 obtain ⟨K0,Y1⟩:=u0.at (vI (f:=zT m) a0)
 generalize u1:(cc.drop (k_ * 8)).take 8=y3 at K0 Y1
 have m0:=K0
 obtain ⟨q6,r6,s6,rfl,K3,L3,I2,J2,K2⟩:=RTE.iff.1 K0
 obtain ⟨T5,o5,rfl,g4,J4⟩:=I2.fm
 obtain ⟨U5,p5,rfl,h4,K4⟩:=J2.fm
 obtain ⟨V5,q5,rfl,i4,L4⟩:=K2.fm
 refine d_e J rfl rfl rfl (pE (z3i 0 k_ J N.toSees rfl rfl u1 isAgg48 sizeOf48 rfl) ⟨fun _=>N.sn (Fz.Le.refl _),fun a J=>?_⟩)
 refine d_e J rfl rfl rfl (vX J rfl rfl call77 (z3 _ (mgQ a0) A z B hI m0 (y0v L.2.2.2.2 (mgQ a0)) N) (fun k1 w G N=>⟨fun _=>N.sn ((Fz.Le.refl _).trans (G.1)),fun a J=>?_⟩))
 replace g:=RTE.mono _ _ _ _ G.1 g
 replace b:=b.mono fun _ _ h=>RAtom.mono _ _ _ _ G.1 h
 replace t:=t.mono fun _ _ h=>RTA.mono _ _ _ _ G.1 h
 replace u0:=u0.mono fun _ _ h=>RTE.mono _ _ _ _ G.1 h
 replace m0:=RTE.mono _ _ _ _ G.1 m0
 have L0:=G.2
 replace N:=N.nf
 refine go fun a J=>?_
 refine aE J rfl rfl (qU (R:=RTE k1.1) (vs:=k1.2) (u:=E1) (u':=(zT m E1)) 0 k_ 0 J N rfl (tB (N.toSees.rowCell (i:=0) rfl).1) rfl rfl u0 (vI (f:=zT m) a0) rfl sizeOf48 L0.len (RTE.ones _ _ _ L0) (by decide) (fun x0 k0 hr_=>rte_all k0 L0) fun O1 w t1 N=>⟨jM (by kernel_rfl),fun a J=>?_⟩)
 replace N:=N.nf
 refine go fun a J=>?_
 refine Q1 _ _ _ (by subst l0;omega) ⟨(k1.1),(k_+1),(O1),rfl,⟨J.pk,N⟩,?_⟩
 refine ⟨(I).trans G.1,?_⟩
 have h_:=t1
 rw [z2i a0] at h_;exact h_
 refine go fun a J=>?_
 have C:=u0
 rw [y6p S0] at C
 have v:=N
 clear N
 obtain ⟨i2,b0,N,g1,Q2⟩:=v.freezeRowC (i:=2) rfl
 clear v
 replace g:=RTE.mono _ _ _ _ b0 g
 replace b:=b.mono fun _ _ h=>RAtom.mono _ _ _ _ b0 h
 replace t:=t.mono fun _ _ h=>RTA.mono _ _ _ _ b0 h
 replace C:=C.mono fun _ _ h=>RTE.mono _ _ _ _ b0 h
 replace N:=N.nf
 have T:SliceOf RAtom i2 2 (.slice b2 e.args.length F1) (e.args.map (mM m)):=⟨_,g1,b⟩
 have v:=N
 clear N
 obtain ⟨j2,c0,N,h1,R2⟩:=v.freezeRowC (i:=1) rfl
 clear v
 replace g:=RTE.mono _ _ _ _ c0 g
 replace t:=t.mono fun _ _ h=>RTA.mono _ _ _ _ c0 h
 replace C:=C.mono fun _ _ h=>RTE.mono _ _ _ _ c0 h
 replace T:=T.mono RAtom.mono c0
 replace N:=N.nf
 have q0:SliceOf RTA j2 10 (.slice c2 e.arms.length G1) (e.arms.map (cV m)):=⟨_,h1,t⟩
 have v:=N
 clear N
 obtain ⟨m1,d0,N,i1,S2⟩:=v.freezeRowC (i:=0) rfl
 clear v
 replace g:=RTE.mono _ _ _ _ d0 g
 replace C:=C.mono fun _ _ h=>RTE.mono _ _ _ _ d0 h
 replace T:=T.mono RAtom.mono d0
 replace q0:=q0.mono RTA.mono d0
 replace N:=N.nf
 have v1:SliceOf RTE m1 8 (.slice j1 e.body.length R0) (e.body.map (zT m)):=⟨_,i1,C⟩
 refine Sto 0 fun w N a J=>?_
 refine go fun a J=>?_
 have j4:=N
 replace N:=N.dl [1,0]
 refine kE (N:=j4) ?_
 refine ⟨(m1,[.int .i64 (e.kind),.string e.name,.string e.op,.int .i64 (e.num),.int .i64 (e.site),.slice b2 e.args.length F1,.slice c2 e.arms.length G1,.slice j1 e.body.length R0]),rfl,⟨(((((M).trans P).trans I).trans b0).trans c0).trans d0,?_⟩,N⟩
 rw [y1f];exact RTE.iff.2 ⟨_,_,_,rfl,T2,U2,T,q0,v1⟩
theorem z4o (m:Atoms):∀(k:Nat) (e:TE),zC e < k->y9i m e
 | 0,_,h=>absurd h (Nat.not_lt_zero _)
 | k+1,e,h=>q8f (fun a b=>z4o m k a.body (by have:=wG b;omega)) (fun x c=>z4o m k x (by have:=kD c;omega))
theorem q4i (m:Atoms) (e:TE):y9i m e:=z4o m _ e (Nat.lt_succ_self _)
section
variable {Φ:Fz} {K:List Res} {w:World}
theorem q4j {d:List Value} {e:TE} (re:RTE Φ d e) (O:smT e) (N:Mem Φ K w) :
  Calls prog 41 #[.agg d.toArray,.map none] w (fun ee w'=>∃q:Fz×List Value,ee=.returned (.agg q.2.toArray)/\(Φ.Le q.1/\RTE q.1 q.2 (zT [] e))/\Mem q.1 K w'):=by
 have c:=re
 obtain ⟨s1,s7,i0,rfl,C,D,h2,h8,r⟩:=RTE.iff.1 re
 obtain ⟨p3,c4,rfl,f0,g0⟩:=h2.fm
 obtain ⟨p9,b0,rfl,G,P⟩:=h8.fm
 obtain ⟨h0,c0,rfl,H,R⟩:=r.fm
 refine zJ func41 ntmps41 fun Q hQ a J=>?_
 refine Bx fun X w N a J=>?_
 refine Bx fun Y w N a J=>?_
 refine Alc fun Z w N a J=>?_
 refine Alc fun a0 w N a J=>?_
 refine Sto 0 fun w N a J=>?_
 refine go fun a J=>?_
 have g:=N
 clear N
 obtain ⟨V,l,N,b⟩:=g.freezeBlk (i:=2) rfl
 clear g
 replace c:=RTE.mono _ _ _ _ l c
 replace N:=N.nf
 have g:=N
 clear N
 obtain ⟨W,k,N,h⟩:=g.freezeBlk (i:=0) rfl
 clear g
 replace c:=RTE.mono _ _ _ _ k c
 replace b:=b.mono k
 replace N:=N.nf
 refine st J rfl rfl rfl (vX J rfl rfl call77 (q4i [] e b (.inl ⟨rfl,rfl⟩) h (fun _ h_=>by simp at h_) c O N) (fun o w f N a J=>?_))
 replace c:=RTE.mono _ _ _ _ f.1 c
 replace b:=b.mono f.1
 replace h:=h.mono f.1
 have j:=f.2
 obtain ⟨B,m⟩:∃x_,x_=o.2:=⟨_,rfl⟩
 rw [<- m] at j J
 have n:=j
 obtain ⟨j0,k0,l0,rfl,E,F,s,t,u⟩:=RTE.iff.1 j
 obtain ⟨y,c44,rfl,I,S⟩:=s.fm
 obtain ⟨z,c50,rfl,L,T⟩:=t.fm
 obtain ⟨A,p,rfl,M,U⟩:=u.fm
 replace N:=N.nf
 refine Sto 0 fun w N a J=>?_
 refine go fun a J=>?_
 have v:=N
 replace N:=N.dl [1,0]
 refine kE (N:=v) ?_
 refine ⟨(o.1,[.int .i64 ((zT [] e).kind),.string (zT [] e).name,.string (zT [] e).op,.int .i64 ((zT [] e).num),.int .i64 ((zT [] e).site),.slice y (zT [] e).args.length c44,.slice z (zT [] e).arms.length c50,.slice A (zT [] e).body.length p]),rfl,⟨((l).trans k).trans f.1,?_⟩,N⟩
 exact n
theorem j1f {d:List Value} {e:TE} {bm:Nat} {m:Atoms} (k:MapAt Φ bm (xZ m)) (hI:∀p∈m,I64 p.2.num) (re:RTE Φ d e) (O:smT e) (N:Mem Φ K w) :
  Calls prog 41 #[.agg d.toArray,.map (some bm)] w (fun ee w'=>∃q:Fz×List Value,ee=.returned (.agg q.2.toArray)/\(Φ.Le q.1/\RTE q.1 q.2 (zT m e))/\Mem q.1 K w'):=by
 have c:=re
 obtain ⟨s1,s7,m0,rfl,F,G,h2,h8,u⟩:=RTE.iff.1 re
 obtain ⟨p3,c4,rfl,j0,k0⟩:=h2.fm
 obtain ⟨p9,e0,rfl,L,T⟩:=h8.fm
 obtain ⟨l0,f0,rfl,M,U⟩:=u.fm
 refine zJ func41 ntmps41 fun Q hQ a J=>?_
 refine Bx fun a0 w N a J=>?_
 refine Bx fun b0 w N a J=>?_
 refine Alc fun c0 w N a J=>?_
 refine Alc fun d0 w N a J=>?_
 refine Sto 0 fun w N a J=>?_
 refine go fun a J=>?_
 have g:=N
 clear N
 obtain ⟨Y,n,N,b⟩:=g.freezeBlk (i:=2) rfl
 clear g
 replace c:=RTE.mono _ _ _ _ n c
 replace k:=k.mono n
 replace N:=N.nf
 have g:=N
 clear N
 obtain ⟨Z,j,N,h⟩:=g.freezeBlk (i:=0) rfl
 clear g
 replace c:=RTE.mono _ _ _ _ j c
 replace k:=k.mono j
 replace b:=b.mono j
 replace N:=N.nf
 refine st J rfl rfl rfl (vX J rfl rfl call77 (q4i m e b (.inr ⟨_,rfl,k⟩) h hI c O N) (fun s w f N a J=>?_))
 replace c:=RTE.mono _ _ _ _ f.1 c
 replace b:=b.mono f.1
 replace h:=h.mono f.1
 have l:=f.2
 obtain ⟨E,o⟩:∃x_,x_=s.2:=⟨_,rfl⟩
 rw [<- o] at l J
 have r:=l
 obtain ⟨n0,o0,p0,rfl,H,I,v,y,z⟩:=RTE.iff.1 l
 obtain ⟨B,c44,rfl,P,V⟩:=v.fm
 obtain ⟨C,c50,rfl,R,W⟩:=y.fm
 obtain ⟨D,t,rfl,S,X⟩:=z.fm
 replace N:=N.nf
 refine Sto 0 fun w N a J=>?_
 refine go fun a J=>?_
 have A:=N
 replace N:=N.dl [1,0]
 refine kE (N:=A) ?_
 refine ⟨(s.1,[.int .i64 ((zT m e).kind),.string (zT m e).name,.string (zT m e).op,.int .i64 ((zT m e).num),.int .i64 ((zT m e).site),.slice B (zT m e).args.length c44,.slice C (zT m e).arms.length c50,.slice D (zT m e).body.length t]),rfl,⟨((n).trans j).trans f.1,?_⟩,N⟩
 exact r
theorem oD {pf:Addr} {T:Trc} {F:TFn} {d:List Value} {e:TE} {bm:Nat} {m:Atoms} (RF:RFnO Φ pf T F) (a0:HarF F) (hI:∀p∈m,I64 p.2.num) (re:RTE Φ d e) (O:smT e) (N:Mem Φ (.mp bm (xZ m)::K) w) :
  Calls prog 186 #[.pointer (some pf),.agg d.toArray,.map (some bm)] w (fun ee w'=>Out (xL (FnS.put ⟨T,F⟩ m e)) (fun z=>∃q:Fz×List Value,ee=.returned (.agg q.2.toArray)/\(Φ.Le q.1/\RTE q.1 q.2 z)/\Mem q.1 K w') (fun _=>ee=.panicked vB/\Mem Φ K w')):=by
 have s:=re
 obtain ⟨i1,j1,h1,g1,e1,y,v,A,Z0,y0,h⟩:=RF.ex
 obtain ⟨k1,l1,m1,rfl,H0,I0,q0,r0,s0⟩:=RTE.iff.1 re
 obtain ⟨z0,l0,rfl,L0,R0⟩:=q0.fm
 obtain ⟨A0,c21,rfl,M0,S0⟩:=r0.fm
 obtain ⟨B0,m0,rfl,N0,U0⟩:=s0.fm
 refine zJ func186 ntmps186 fun Q hQ a J=>?_
 refine Bx fun j0 w N a J=>?_
 refine Alc fun k0 w N a J=>?_
 refine go fun a J=>?_
 refine st J rfl rfl rfl (y2v 2 runUnderlying151 J N rfl rfl fun h0 r u w f N a J=>?_)
 refine go fun a J=>?_
 refine qD (J.ks [0,2,4,6,10]) N (fun R mm a w=>∃(seen:Array Nat),mm=(wF r seen).length/\R Φ [] [(0,.blk h0 (.mapIter (some bm) u seen u))] a w/\(AllSeen r seen m (y2h F))) ((wF r #[]).length) ⟨#[],rfl,⟨J.pk,N⟩,AllSeen.start⟩ ?_
 clear N J
 rintro mm a w ⟨seen,c0,⟨J,N⟩,Z⟩ c1 L
 replace N:=N.nf
 have S:=Z
 refine go fun a J=>?_
 refine st J rfl rfl rfl (q0q 0 3 J N rfl rfl rfl f (fun b0 w N a J=>?_) (fun n w k N a J=>?_))
 refine go fun a J=>?_
 replace N:Mem Φ (.blk h0 (.mapIter (some bm) u seen u)::.blk k0 (ob [.int .i64 ((0:Nat):Int),.string ⟨#[]⟩,.string ⟨#[]⟩,.int .i64 ((0:Nat):Int),.int .i64 ((0:Nat):Int),.slice none 0 0,.slice none 0 0,.slice none 0 0] 48)::.blk j0 (ob [.int .i64 (e.kind),.string e.name,.string e.op,.int .i64 (e.num),.int .i64 (e.site),.slice z0 e.args.length l0,.slice A0 e.arms.length c21,.slice B0 e.body.length m0] 48)::.mp bm (xZ m)::K) w:=q1u (i:=3) N rfl f
 have U:=S.done f b0
 have M:=N
 clear N
 obtain ⟨b1,l,N,H⟩:=M.freezeMap (i:=3) rfl
 clear M
 replace y:=y.mono l
 replace v:=v.mono l
 replace A:=RTFn.mono _ _ _ _ l A
 replace h:=h.mono l
 replace s:=RTE.mono _ _ _ _ l s
 replace N:=N.nf
 refine yF call41 (fun i0 w g N a J=>?_) (c:=j1f H hI s O N)
 replace y:=y.mono g.1
 replace v:=v.mono g.1
 replace A:=RTFn.mono _ _ _ _ g.1 A
 replace h:=h.mono g.1
 replace s:=RTE.mono _ _ _ _ g.1 s
 have D:=g.2
 obtain ⟨G0,V⟩:∃x_,x_=i0.2:=⟨_,rfl⟩
 rw [<- V] at D J
 have d0:=D
 obtain ⟨n1,o1,p1,rfl,J0,K0,t0,u0,w0⟩:=RTE.iff.1 D
 obtain ⟨C0,n0,rfl,O0,V0⟩:=t0.fm
 obtain ⟨D0,o0,rfl,P0,X0⟩:=u0.fm
 obtain ⟨E0,p0,rfl,Q0,Y0⟩:=w0.fm
 replace N:=N.nf
 refine Sto 1 fun w N a J=>?_
 refine go fun a J=>?_
 have x0:=N
 replace N:=N.dl [2,1,0]
 refine kE (N:=x0) ?_
 rw [put_yes a0 U]
 refine ⟨(i0.1,[.int .i64 ((zT m e).kind),.string (zT m e).name,.string (zT m e).op,.int .i64 ((zT m e).num),.int .i64 ((zT m e).site),.slice C0 (zT m e).args.length n0,.slice D0 (zT m e).arms.length o0,.slice E0 (zT m e).body.length p0]),rfl,⟨(l).trans g.1,?_⟩,N⟩
 exact d0
 obtain ⟨E,a1,B,e0,I⟩:=y2w f (leftE_mem.1 k).1
 have W:Value.tuple #[n.key,n.val]=Value.tuple #[.string E,n.val]:=by rw [B]
 refine Qq (fun a J=>?_) (o:=by exact fun J O=>Ok.cast (j1g (i:=0) (j:=3) J O rfl rfl rfl f k) W)
 obtain ⟨G,f0,g0⟩:=j5w I
 have t:n.val=.agg #[.string G.name,.int .i64 G.num]:=e0.trans f0
 rw [t] at J
 refine Alc fun d1 w N a J=>?_
 refine Sto 0 fun w N a J=>?_
 by_cases Y:G.name=(⟨#[]⟩:Bs)
 refine Qq (fun a J=>?_) (o:=by exact fun J O=>Ok.cast (yT runUnderlying99 runUnderlying9 zeroValue4 J O rfl rfl h) (y2r ((aK F).2) E))
 refine yG call188 (fun F0 w C N a J=>?_) (fun F0 w C N=>?_) (c:=xU (b:=(!((yC ((aK F).2) E).getD false))) N)
 refine go fun a J=>?_
 replace N:=N.dl [0]
 refine L ((wF r ((seen.push n.born))).length) _ _ (by subst c0;exact z9a k) ⟨((seen.push n.born)),rfl,⟨J.pk,N⟩,?_⟩
 exact S.next f k B t (.inr (by have h_:=C;simpa [dem] using h_))
 replace N:=N.dl [4,3,2,1,0]
 rw [put_not a0 g0 (show ¬y2h F _ from fun h_=>h_.elim (fun P=>P (show G.name=sNo from Y)) (fun P=>by have X:=C;rw [P] at X;simp [dem] at X))];exact ⟨rfl,N⟩
 refine zF call188 (fun w N a J=>?_) (c:=xU (b:=true) N)
 refine go fun a J=>?_
 replace N:=N.dl [0]
 refine L ((wF r ((seen.push n.born))).length) _ _ (by subst c0;exact z9a k) ⟨((seen.push n.born)),rfl,⟨J.pk,N⟩,?_⟩
 exact S.next f k B t (.inl (show ¬G.name=sNo from Y))
theorem kT {e x:TE} (h:e.body[0]? = some x):xT e=x:=by rw [xT,List.headD_eq_head?_getD,List.head?_eq_getElem?,h];rfl
theorem qX {e:TE} {i:Nat} {a:Atom} (h:e.args[i]? = some a):xD e i=a:=by rw [xD,h];rfl
theorem dead_ok {pf:Addr} {T:Trc} {F:TFn} {c:List Value} {path:List Int} {up:List TE} {e:TE} {num:Int} (RF:RFnO Φ pf T F) (GP:GoodP T) (hF:F∈T.funs) (hx:(⟨path,up,e⟩:Fnd)∈zE [] [] F.body) (rf:RFnd Φ c ⟨path,up,e⟩) (G:Glob Φ) (W:1<=e.kind/\e.kind<=6) (N:Mem Φ K w) :
  Calls prog 151 #[.pointer (some pf),.agg c.toArray,.int .i64 num] w (fun ee w'=>Out (xL (some (xT e))) (fun z=>∃q:Fz×List Value,ee=.returned (.agg q.2.toArray)/\(Φ.Le q.1/\RTE q.1 q.2 z)/\Mem q.1 K w') (fun _=>ee=.panicked vB/\Mem Φ K w')):=by
 have p0:=rf
 have n:GI e:=nR (kZ (GP.gd F hF) hx)
 obtain ⟨N0,O0,F0,E0,w0,L,I,o0,m0,s,r⟩:=RF.ex
 obtain ⟨B,C,G0,u0,rfl,M,P,f,g,E,d⟩:=id rf
 replace f:SliceOf RInt Φ 1 B path:=f
 replace g:SliceOf RPtE Φ 1 C up:=g
 replace d:RTE Φ _ e:=d
 obtain ⟨H0,c23,rfl,t,f0⟩:=f.fm
 obtain ⟨I0,s0,rfl,u,g0⟩:=g.fm
 have n0:=d
 obtain ⟨J0,c34,K0,t0,L0,c46,rfl,R,S,x0,y0,o,Z,h0,a0,i0,b0,j⟩:=RTE.fm d
 have X:e.body.length=1:=n.ar.rest W.1 W.2
 have i:0 < e.body.length:=by omega
 refine zJ func151 ntmps151 fun Q hQ a J=>?_
 refine Bx fun q0 w N a J=>?_
 refine Alc fun r0 w N a J=>?_
 refine go fun a J=>?_
 obtain ⟨M0,rfl,b,k,D,Y,H,h⟩:=o.el j i
 obtain ⟨v,l,y,m,A,c79,rfl,U,V,z0,A0,B0,c0,j0,d0,k0,e0,l0⟩:=RTE.fm h
 refine Sto 0 fun w N a J=>?_
 refine go fun a J=>?_
 have p:=N
 replace N:=N.dl [1,0]
 refine kE (N:=p) ?_
 refine ⟨(Φ,[.int .i64 (b.kind),.string b.name,.string b.op,.int .i64 (b.num),.int .i64 (b.site),.slice v b.args.length l,.slice y b.arms.length m,.slice A b.body.length c79]),rfl,⟨Fz.Le.refl _,?_⟩,N⟩
 exact by rw [(kT k)];exact h
theorem may_ok {pf:Addr} {T:Trc} {F:TFn} {c:List Value} {path:List Int} {up:List TE} {e:TE} {r:Int} (RF:RFnO Φ pf T F) (GP:GoodP T) (l:F∈T.funs) (hx:(⟨path,up,e⟩:Fnd)∈zE [] [] F.body) (rf:RFnd Φ c ⟨path,up,e⟩) (N:Mem Φ K w) :
  Calls prog 120 #[.pointer (some pf),.int .i64 r,.agg c.toArray] w (fun ee w'=>ee=.returned (.bool (FnS.may ⟨T,F⟩ r e up))/\Mem Φ K w'):=by
 have z0:=rf
 have L:GI e:=nR (kZ (GP.gd F l) hx)
 obtain ⟨M0,N0,H0,G0,C0,f0,e0,y0,w0,y,M⟩:=RF.ex
 obtain ⟨W,X,S,B0,rfl,g0,h0,m,n,b0,k⟩:=id rf
 replace m:SliceOf RInt Φ 1 W path:=m
 replace n:SliceOf RPtE Φ 1 X up:=n
 replace k:RTE Φ _ e:=k
 obtain ⟨U,c23,rfl,P,r0⟩:=m.fm
 obtain ⟨V,I,rfl,R,s0⟩:=n.fm
 have x0:=k
 obtain ⟨I0,c34,J0,A0,K0,c46,rfl,i0,j0,z,D0,E0,o0,D,p0,t0,q0,u0⟩:=RTE.fm k
 have g:e.kind=1->0 < e.args.length/\1 < e.args.length:=fun h_=>by have:=L.ar.two h_;omega
 refine zJ func120 ntmps120 fun Q hQ a J=>?_
 refine Bx fun H w N a J=>?_
 by_cases b:r=1
 by_cases f:e.kind=1
 refine go fun a J=>?_
 obtain ⟨L0,rfl⟩:=D (zO (g f).1)
 obtain ⟨Y,p⟩:=zW (g f).1
 obtain ⟨Z,m0,c0,E⟩:=z.elem p
 obtain ⟨rfl,k0⟩:=id E
 refine Qq (fun a J=>?_) (o:=by exact fun J O=>xO 0 J rfl rfl runUnderlying44 sizeOf75 (g f).1)
 by_cases A:Y.name=(⟨#[]⟩:Bs)
 refine go fun a J=>?_
 obtain ⟨O0,t⟩:=zW (g f).2
 obtain ⟨a0,n0,d0,G⟩:=z.elem t
 obtain ⟨rfl,l0⟩:=id G
 refine Qq (fun a J=>?_) (o:=by exact fun J O=>xO 1 J rfl rfl runUnderlying44 sizeOf75 (g f).2)
 refine Qq (fun a J=>?_) (o:=by exact fun J O=>z3j J rfl rfl)
 refine yK ?_
 replace N:=N.dl [0]
 refine ⟨congrArg (fun d=>Ending.returned (.bool d)) ?_,N⟩
 simp [FnS.may,FnS.uses,pI GP l,sNo,b,f,A,qX p,qX t]
 refine yK ?_
 replace N:=N.dl [0]
 refine ⟨congrArg (fun d=>Ending.returned (.bool d)) ?_,N⟩
 simp [FnS.may,FnS.uses,pI GP l,sNo,b,f,A,qX p]
 refine yK ?_
 replace N:=N.dl [0]
 refine ⟨congrArg (fun d=>Ending.returned (.bool d)) ?_,N⟩
 simp [FnS.may,FnS.uses,pI GP l,sNo,b,f]
 by_cases h:r=2
 refine go fun a J=>?_
 refine jF [1,2,1,1,2,1,1,1,2,1,1,2,1,1,1,1,1,1,2,1,2,1,1,2,2,1,1,1] (.q 0 (.q 1 (.q 2 (.q 3 (.q 4 (.q 5 (.q 6 (.q 7 (.q 8 (.q 9 (.q 10 (.q 11 (.q 12 (.q 13 (.q 14 (.q 15 (.q 16 (.q 17 (.q 18 (.q 19 (.q 20 (.q 21 (.q 22 (.q 23 (.q 24 (.q 25 (.q 26 (.q 27 (.done))))))))))))))))))))))))))))) [.blk H (ob [.slice U path.length c23,.slice V up.length I,.pointer (some S)] 90)] J N mixed (by kernel_rfl) (by simp) fun w N=>?_
 by_cases u:1<=e.kind
 by_cases B:e.kind<=6
 refine Qq (fun a J=>?_) (o:=by exact fun J O=>Ok.cast (yT runUnderlying98 runUnderlying9 zeroValue3 J O rfl rfl y) (vP ((aK F).1) e.name))
 refine Qq (fun a J=>?_) (o:=by exact fun J O=>vW J rfl rfl)
 refine yK ?_
 replace N:=N.dl [0]
 refine ⟨congrArg (fun d=>Ending.returned (.bool d)) ?_,N⟩
 simp [FnS.may,FnS.uses,pI GP l,sNo,h,u,B,b]
 refine yK ?_
 replace N:=N.dl [0]
 refine ⟨congrArg (fun d=>Ending.returned (.bool d)) ?_,N⟩
 simp [FnS.may,FnS.uses,pI GP l,sNo,h,u,b,B]
 refine yK ?_
 replace N:=N.dl [0]
 refine ⟨congrArg (fun d=>Ending.returned (.bool d)) ?_,N⟩
 simp [FnS.may,FnS.uses,pI GP l,sNo,h,b,u]
 by_cases s:r=4
 refine Qq (fun a J=>?_) (o:=by exact fun J O=>vW J rfl rfl)
 refine yK ?_
 replace N:=N.dl [0]
 refine ⟨congrArg (fun d=>Ending.returned (.bool d)) ?_,N⟩
 simp [FnS.may,FnS.uses,pI GP l,sNo,s,b,h]
 refine go fun a J=>?_
 by_cases v:r=6
 refine Qq (fun a J=>?_) (o:=by exact fun J O=>vW J rfl rfl)
 refine yK ?_
 replace N:=N.dl [0]
 refine ⟨congrArg (fun d=>Ending.returned (.bool d)) ?_,N⟩
 simp [FnS.may,FnS.uses,pI GP l,sNo,v,b,h,s]
 by_cases C:e.kind=5
 refine Qq (fun a J=>?_) (o:=by exact fun J O=>y_gtrN (i:=up.length) (j:=0) J rfl rfl)
 refine yK ?_
 replace N:=N.dl [0]
 refine ⟨congrArg (fun d=>Ending.returned (.bool d)) ?_,N⟩
 simp [FnS.may,FnS.uses,pI GP l,sNo,C,b,h,s,v]
 refine yK ?_
 replace N:=N.dl [0]
 refine ⟨congrArg (fun d=>Ending.returned (.bool d)) ?_,N⟩
 simp [FnS.may,FnS.uses,pI GP l,sNo,b,h,s,v,C]
theorem I64_op {op:Bs} {a b:Int} (g:I64 a) (hb:I64 b):I64 (zX op a b).num:=by
 have c:I64 0:=by unfold I64;omega
 unfold zX
 repeat' split
 all_goals try exact I64.of_wrap _
 all_goals try exact c
 show I64 (a.tmod b)
 have f:(a.tmod b).natAbs<=a.natAbs:=by rw [Int.natAbs_tmod];exact Nat.mod_le _ _
 have d:0<=a->0<=a.tmod b:=fun h=>Int.tmod_nonneg b h
 have e:¬0<=a->a.tmod b<=0:=fun h=>by
  have:=Int.tmod_nonneg b (a:=-a) (by omega)
  rw [Int.neg_tmod] at this;omega
 unfold I64 at *
 by_cases h:0<=a
 have:=d h;omega
 have:=e h;omega
theorem z1u {f:FnS} {x y:TE} {a b:Atom} (c:x.args[0]? = some a) (hb:x.args[1]? = some b) (d:x.body[0]? = some y) (h:(zX x.op a.num b.num).con=sNo):f.fold x=f.put [(x.name,⟨sNo,(zX x.op a.num b.num).num⟩)] y:=by
 unfold FnS.fold;simp only [qX c,qX hb,kT d];rw [if_pos h]
theorem q0v {f:FnS} {x:TE} {a b:Atom} {l:List Bool} (d:x.args[0]? = some a) (hb:x.args[1]? = some b) (h:¬(zX x.op a.num b.num).con=sNo) (hl:xL (wD f.prog (zX x.op a.num b.num).con)=.ok l) (c:l.length=0):f.fold x=some (.mk 2 x.name (zX x.op a.num b.num).con 0 0 [] [] x.body):=by
 unfold FnS.fold;simp only [qX d,qX hb];rw [if_neg h,zR hl];simp only;rw [if_pos c]
theorem q9o {f:FnS} {x:TE} {a b:Atom} {l:List Bool} (d:x.args[0]? = some a) (hb:x.args[1]? = some b) (h:¬(zX x.op a.num b.num).con=sNo) (hl:xL (wD f.prog (zX x.op a.num b.num).con)=.ok l) (c:¬l.length=0):f.fold x=none:=by
 unfold FnS.fold;simp only [qX d,qX hb];rw [if_neg h,zR hl];simp only;rw [if_neg c]
theorem q0w {f:FnS} {x:TE} {a b:Atom} {c:Unit} (d:x.args[0]? = some a) (hb:x.args[1]? = some b) (h:¬(zX x.op a.num b.num).con=sNo) (hl:xL (wD f.prog (zX x.op a.num b.num).con)=.error c):f.fold x=none:=by
 unfold FnS.fold;simp only [qX d,qX hb];rw [if_neg h,yL hl]
theorem dL {n:Bs} {a:Atom} (h:I64 a.num):∀p∈[(n,a)],I64 p.2.num:=fun p b=>by rw [List.mem_singleton] at b;subst b;exact h
theorem aV {e x:TE} {i:Nat} (h:smT e) (a:e.body[i]? = some x):smT x:=y0v ((z0x e).1 h).2.2.2.2 (mgQ a)
theorem fold_ok {pf:Addr} {T:Trc} {F:TFn} {c:List Value} {path:List Int} {up:List TE} {e:TE} {num:Int} (RF:RFnO Φ pf T F) (GP:GoodP T) (hF:F∈T.funs) (hx:(⟨path,up,e⟩:Fnd)∈zE [] [] F.body) (rf:RFnd Φ c ⟨path,up,e⟩) (G:Glob Φ) (hk:e.kind=1) (N:Mem Φ K w) :
  Calls prog 150 #[.pointer (some pf),.agg c.toArray,.int .i64 num] w (fun ee w'=>Out (xL (FnS.fold ⟨T,F⟩ e)) (fun z=>∃q:Fz×List Value,ee=.returned (.agg q.2.toArray)/\(Φ.Le q.1/\RTE q.1 q.2 z)/\Mem q.1 K w') (fun _=>ee=.panicked vB/\Mem Φ K w')):=by
 have g0:=rf
 have r0:GI e:=nR (kZ (GP.gd F hF) hx)
 obtain ⟨H3,n2,D3,C3,w3,a0,Z,d0,e1,V1,U1⟩:=RF.ex
 obtain ⟨w2,m2,m,l0,T1⟩:=e1.ex
 have s:=l0
 obtain ⟨K0,c21,L0,F0,M0,G0,N0,H0,rfl,M2,x3,y3,z3,A3,S2,Z2,T2,a3,U2,b3,V2,d3⟩:=RTrc.fm l0
 replace m:At Φ n2 [.slice K0 T.cons.length c21,.slice L0 T.inputs.length F0,.slice M0 T.funs.length G0,.slice N0 T.outputs.length H0,.map (some m2)]:=m
 obtain ⟨o2,p2,u0,v3,rfl,K2,L2,k0,m0,X,b0⟩:=id rf
 replace k0:SliceOf RInt Φ 1 o2 path:=k0
 replace m0:SliceOf RPtE Φ 1 p2 up:=m0
 replace b0:RTE Φ _ e:=b0
 obtain ⟨w0,p0,rfl,W1,e3⟩:=k0.fm
 obtain ⟨x0,q0,rfl,X1,f3⟩:=m0.fm
 have c0:=b0
 obtain ⟨E3,t3,F3,u3,l1,X0,rfl,N2,O2,Y0,B3,E,W2,d1,X2,g3,Y2,C0⟩:=RTE.fm b0
 have a1:=r0.ar.two hk
 have P2:e.args.length=2:=a1
 have b1:0 < e.args.length:=by omega
 have c1:1 < e.args.length:=by omega
 have Q2:e.body.length=1:=r0.ar.rest (by omega) (by omega)
 have B0:0 < e.body.length:=by omega
 refine zJ func150 ntmps150 fun Q hQ a J=>?_
 refine Bx fun n0 w N a J=>?_
 refine Alc fun o0 w N a J=>?_
 refine go fun a J=>?_
 refine yN [1,2,1,1,2,1,2,1,1,2,1,1,2,1,2,1,1,2,1,1,2,0,1,1,1,0,0,1] (.q 0 (.q 1 (.q 2 (.q 3 (.q 4 (.q 5 (.q 6 (.q 7 (.q 8 (.q 9 (.q 10 (.q 11 (.q 12 (.q 13 (.q 14 (.q 15 (.q 16 (.q 17 (.q 18 (.q 19 (.q 20 (.e2 21 25 (.q 22 (.q 23 (.q 24 (.e 25 (.e 26 (.q 27 (.done))))))) (.e 21 (.q 22 (.q 23 (.q 24 (.e 26 (.q 27 (.done))))))))))))))))))))))))))))) [0,1] J N fun w N=>?_
 refine go fun a J=>?_
 obtain ⟨G3,rfl,h,n,x2,R2,Y,H⟩:=Y0.el d1 b1
 obtain ⟨rfl,A0⟩:=id H
 refine go fun a J=>?_
 obtain ⟨k,l⟩:=zW c1
 obtain ⟨o1,E1,u,t⟩:=Y0.elem l
 obtain ⟨rfl,j0⟩:=id t
 refine go fun a J=>?_
 refine kY ?_ ?_
 refine zF call185 (fun w N a J=>?_) (c:=(y2y (r0.op hk) N))
 refine Alc fun y0 w N a J=>?_
 refine Sto 0 fun w N a J=>?_
 dsimp only [z4n,z0r] at N
 by_cases C:(zX e.op h.num k.num).con=(⟨#[]⟩:Bs)
 refine go fun a J=>?_
 refine jF [1,1,2,1,1,2,1,2,0,1,2,1,1,2,1,2,1,0,1,0,0] (.q 0 (.q 1 (.q 2 (.q 3 (.q 4 (.q 5 (.q 6 (.q 7 (.q 9 (.q 10 (.q 11 (.q 12 (.q 13 (.q 14 (.q 15 (.q 16 (.e 8 (.e 17 (.q 18 (.e 19 (.e 20 (.done)))))))))))))))))))))) [.blk y0 (ob [.string (zX e.op h.num k.num).con,.int .i64 ((zX e.op h.num k.num).num),.slice none 0 0] 209),.blk o0 (ob [.int .i64 ((0:Nat):Int),.string ⟨#[]⟩,.string ⟨#[]⟩,.int .i64 ((0:Nat):Int),.int .i64 ((0:Nat):Int),.slice none 0 0,.slice none 0 0,.slice none 0 0] 48),.blk n0 (ob [.slice w0 path.length p0,.slice x0 up.length q0,.pointer (some u0)] 90)] J N mixed (by kernel_rfl) (by simp) fun w N=>?_
 refine go fun a J=>?_
 obtain ⟨n3,rfl,p3,V,p1,F1,h0,A⟩:=E.el C0 B0
 obtain ⟨h3,r2,i3,c127,j3,s2,rfl,v1,w1,y2,z2,A2,H1,Y1,I1,Z1,J1,a2⟩:=RTE.fm A
 refine yE fun a J=>?_
 refine MkM fun O0 w N a J=>?_
 replace N:=N.nf
 refine aE J rfl rfl (pM 0 runUnderlying151 runUnderlying9 J N rfl rfl rfl rfl fun w N=>⟨fun _=>N.sn (Fz.Le.refl _),fun a J=>?_⟩)
 replace N:Mem Φ (.mp O0 (xZ (qJ [] e.name (⟨sNo,((zX e.op h.num k.num).num)⟩:Atom)))::.blk y0 (ob [.string (zX e.op h.num k.num).con,.int .i64 ((zX e.op h.num k.num).num),.slice none 0 0] 209)::.blk o0 (ob [.int .i64 ((0:Nat):Int),.string ⟨#[]⟩,.string ⟨#[]⟩,.int .i64 ((0:Nat):Int),.int .i64 ((0:Nat):Int),.slice none 0 0,.slice none 0 0,.slice none 0 0] 48)::.blk n0 (ob [.slice w0 path.length p0,.slice x0 up.length q0,.pointer (some u0)] 90)::K) w:=by rw [<- wH [] e.name (⟨sNo,((zX e.op h.num k.num).num)⟩:Atom)];exact N
 refine cZ call186 (fun p D0 w L d N a J=>?_) (fun p w L N=>?_) (c:=oD RF (cI (GP.gd F hF)) (dL (I64_op A0 j0)) A (aV (GP.sm hF hx) V) N)
 replace a0:=a0.mono d.1
 replace Z:=Z.mono d.1
 replace d0:=RTFn.mono _ _ _ _ d.1 d0
 replace RF:=RF.mono d.1
 replace s:=RTrc.mono _ _ _ _ d.1 s
 replace m:=m.mono d.1
 replace E:=E.mono RTE.mono d.1
 replace X:=X.mono d.1
 replace c0:=RTE.mono _ _ _ _ d.1 c0
 replace g0:=RFnd.mono _ _ _ _ d.1 g0
 replace Y:=Y.mono d.1
 replace H:=RAtom.mono _ _ _ _ d.1 H
 replace u:=u.mono d.1
 replace t:=RAtom.mono _ _ _ _ d.1 t
 replace h0:=h0.mono d.1
 replace A:=RTE.mono _ _ _ _ d.1 A
 have S:=d.2
 obtain ⟨q1,s0⟩:∃x_,x_=D0.2:=⟨_,rfl⟩
 rw [<- s0] at S J
 have I0:=S
 obtain ⟨f1,Q0,g1,R0,h1,S0,rfl,x1,y1,B2,C2,D2,K1,b2,L1,c2,M1,d2⟩:=RTE.fm S
 replace N:=N.nf
 refine Sto 1 fun w N a J=>?_
 refine go fun a J=>?_
 have I:=N
 replace N:=N.dl [2,1,0]
 refine kE (N:=I) ?_
 rw [z1u (f:=⟨T,F⟩) n l V (show (zX e.op h.num k.num).con=sNo from C),L]
 refine ⟨(D0.1,[.int .i64 (p.kind),.string p.name,.string p.op,.int .i64 (p.num),.int .i64 (p.site),.slice f1 p.args.length Q0,.slice g1 p.arms.length R0,.slice h1 p.body.length S0]),rfl,⟨d.1,?_⟩,N⟩
 exact I0
 replace N:=N.dl [2,1,0]
 rw [z1u (f:=⟨T,F⟩) n l V (show (zX e.op h.num k.num).con=sNo from C),L]
 exact ⟨rfl,N⟩
 refine Reg [1,1,1,2,1,1,2,1,2,0,1,1,1,1,1] [0,1,2] fun w N a J=>?_
 refine Qq (fun a J=>?_) (o:=by exact fun J O=>kB 0 (vs:=[.slice K0 T.cons.length c21,.slice L0 T.inputs.length F0,.slice M0 T.funs.length G0,.slice N0 T.outputs.length H0]) J O rfl m isAgg26 sizeOf26 rfl rfl)
 refine cY call187 (fun e0 r3 w v t1 N a J=>?_) (fun e0 w v N a J=>?_) (c:=y2z s G N)
 replace N:=N.nf
 refine Qq (fun a J=>?_) (o:=by exact fun J O=>mR 0 (e0.length) J O rfl rfl (by rw [gX];omega) (by decide) runUnderlying83)
 refine Qq (fun a J=>?_) (o:=by exact fun J O=>kW (i:=e0.length) (j:=0) J rfl rfl)
 refine yG call188 (fun m1 w M N a J=>?_) (fun m1 w M N=>?_) (c:=xU (b:=(decide (e0.length=0))) N)
 refine Reg [1,2,1,1,2,1,2,1,2,1,1,2,1,0] [0,1,2,3] fun w N a J=>?_
 refine yE fun a J=>?_
 refine Sto 2 fun w N a J=>?_
 refine go fun a J=>?_
 have I:=N
 replace N:=N.dl [3,2,1,0]
 refine kE (N:=I) ?_
 rw [q0v (f:=⟨T,F⟩) n l (show ¬(zX e.op h.num k.num).con=sNo from C) v (of_decide_eq_true (zD M))]
 rotate_left
 replace N:=N.dl [3,2,1,0]
 rw [q9o (f:=⟨T,F⟩) n l (show ¬(zX e.op h.num k.num).con=sNo from C) v (of_decide_eq_false (zP M))];exact ⟨rfl,N⟩
 replace N:=N.nf
 refine qC call188 (fun w N=>?_) (c:=xU (b:=false) N)
 replace N:=N.dl [2,1,0]
 rw [q0w (f:=⟨T,F⟩) n l (show ¬(zX e.op h.num k.num).con=sNo from C) v];exact ⟨rfl,N⟩
 refine Alc fun z0 w N a J=>?_
 refine zF call185 (fun w N a J=>?_) (c:=(y2y (r0.op hk) N))
 refine Sto 0 fun w N a J=>?_
 dsimp only [z4n,z0r] at N
 by_cases D:(zX e.op h.num k.num).con=(⟨#[]⟩:Bs)
 refine go fun a J=>?_
 refine jF [1,1,2,1,1,2,1,2,0,1,2,1,1,2,1,2,1,0,1,0,0] (.q 0 (.q 1 (.q 2 (.q 3 (.q 4 (.q 5 (.q 6 (.q 7 (.q 9 (.q 10 (.q 11 (.q 12 (.q 13 (.q 14 (.q 15 (.q 16 (.e 8 (.e 17 (.q 18 (.e 19 (.e 20 (.done)))))))))))))))))))))) [.blk z0 (ob [.string (zX e.op h.num k.num).con,.int .i64 ((zX e.op h.num k.num).num),.slice none 0 0] 209),.blk o0 (ob [.int .i64 ((0:Nat):Int),.string ⟨#[]⟩,.string ⟨#[]⟩,.int .i64 ((0:Nat):Int),.int .i64 ((0:Nat):Int),.slice none 0 0,.slice none 0 0,.slice none 0 0] 48),.blk n0 (ob [.slice w0 path.length p0,.slice x0 up.length q0,.pointer (some u0)] 90)] J N mixed (by kernel_rfl) (by simp) fun w N=>?_
 refine go fun a J=>?_
 obtain ⟨o3,rfl,q3,W,r1,G1,i0,B⟩:=E.el C0 B0
 obtain ⟨k3,t2,l3,u2,m3,v2,rfl,z1,A1,E2,F2,G2,N1,f2,O1,g2,P1,h2⟩:=RTE.fm B
 refine yE fun a J=>?_
 refine MkM fun P0 w N a J=>?_
 replace N:=N.nf
 refine aE J rfl rfl (pM 0 runUnderlying151 runUnderlying9 J N rfl rfl rfl rfl fun w N=>⟨fun _=>N.sn (Fz.Le.refl _),fun a J=>?_⟩)
 replace N:Mem Φ (.mp P0 (xZ (qJ [] e.name (⟨sNo,((zX e.op h.num k.num).num)⟩:Atom)))::.blk z0 (ob [.string (zX e.op h.num k.num).con,.int .i64 ((zX e.op h.num k.num).num),.slice none 0 0] 209)::.blk o0 (ob [.int .i64 ((0:Nat):Int),.string ⟨#[]⟩,.string ⟨#[]⟩,.int .i64 ((0:Nat):Int),.int .i64 ((0:Nat):Int),.slice none 0 0,.slice none 0 0,.slice none 0 0] 48)::.blk n0 (ob [.slice w0 path.length p0,.slice x0 up.length q0,.pointer (some u0)] 90)::K) w:=by rw [<- wH [] e.name (⟨sNo,((zX e.op h.num k.num).num)⟩:Atom)];exact N
 refine cZ call186 (fun r E0 w P g N a J=>?_) (fun r w P N=>?_) (c:=oD RF (cI (GP.gd F hF)) (dL (I64_op A0 j0)) B (aV (GP.sm hF hx) W) N)
 replace a0:=a0.mono g.1
 replace Z:=Z.mono g.1
 replace d0:=RTFn.mono _ _ _ _ g.1 d0
 replace s:=RTrc.mono _ _ _ _ g.1 s
 replace m:=m.mono g.1
 replace E:=E.mono RTE.mono g.1
 replace X:=X.mono g.1
 replace c0:=RTE.mono _ _ _ _ g.1 c0
 replace g0:=RFnd.mono _ _ _ _ g.1 g0
 replace Y:=Y.mono g.1
 replace H:=RAtom.mono _ _ _ _ g.1 H
 replace u:=u.mono g.1
 replace t:=RAtom.mono _ _ _ _ g.1 t
 replace i0:=i0.mono g.1
 replace B:=RTE.mono _ _ _ _ g.1 B
 have U:=g.2
 obtain ⟨s1,t0⟩:∃x_,x_=E0.2:=⟨_,rfl⟩
 rw [<- t0] at U J
 have J0:=U
 obtain ⟨i1,U0,j1,V0,k1,c233,rfl,B1,C1,H2,I2,J2,Q1,i2,R1,j2,S1,k2⟩:=RTE.fm U
 replace N:=N.nf
 refine Sto 1 fun w N a J=>?_
 refine go fun a J=>?_
 have I:=N
 replace N:=N.dl [2,1,0]
 refine kE (N:=I) ?_
 rw [z1u (f:=⟨T,F⟩) n l W (show (zX e.op h.num k.num).con=sNo from D),P]
 refine ⟨(E0.1,[.int .i64 (r.kind),.string r.name,.string r.op,.int .i64 (r.num),.int .i64 (r.site),.slice i1 r.args.length U0,.slice j1 r.arms.length V0,.slice k1 r.body.length c233]),rfl,⟨g.1,?_⟩,N⟩
 exact J0
 replace N:=N.dl [2,1,0]
 rw [z1u (f:=⟨T,F⟩) n l W (show (zX e.op h.num k.num).con=sNo from D),P]
 exact ⟨rfl,N⟩
 refine Reg [1,1,1,2,1,1,2,1,2,0,1,1,1,1,1] [0,1,2] fun w N a J=>?_
 refine Qq (fun a J=>?_) (o:=by exact fun J O=>kB 0 (vs:=[.slice K0 T.cons.length c21,.slice L0 T.inputs.length F0,.slice M0 T.funs.length G0,.slice N0 T.outputs.length H0]) J O rfl m isAgg26 sizeOf26 rfl rfl)
 refine cY call187 (fun f0 s3 w y u1 N a J=>?_) (fun f0 w y N a J=>?_) (c:=y2z s G N)
 replace N:=N.nf
 refine Qq (fun a J=>?_) (o:=by exact fun J O=>mR 0 (f0.length) J O rfl rfl (by rw [gX];omega) (by decide) runUnderlying83)
 refine Qq (fun a J=>?_) (o:=by exact fun J O=>kW (i:=f0.length) (j:=0) J rfl rfl)
 refine yG call188 (fun n1 w R N a J=>?_) (fun n1 w R N=>?_) (c:=xU (b:=(decide (f0.length=0))) N)
 refine Reg [1,2,1,1,2,1,2,1,2,1,1,2,1,0] [0,1,2,3] fun w N a J=>?_
 refine yE fun a J=>?_
 refine Sto 2 fun w N a J=>?_
 refine go fun a J=>?_
 have I:=N
 replace N:=N.dl [3,2,1,0]
 refine kE (N:=I) ?_
 rw [q0v (f:=⟨T,F⟩) n l (show ¬(zX e.op h.num k.num).con=sNo from D) y (of_decide_eq_true (zD R))]
 rotate_left
 replace N:=N.dl [3,2,1,0]
 rw [q9o (f:=⟨T,F⟩) n l (show ¬(zX e.op h.num k.num).con=sNo from D) y (of_decide_eq_false (zP R))];exact ⟨rfl,N⟩
 replace N:=N.nf
 refine qC call188 (fun w N=>?_) (c:=xU (b:=false) N)
 replace N:=N.dl [2,1,0]
 rw [q0w (f:=⟨T,F⟩) n l (show ¬(zX e.op h.num k.num).con=sNo from D) y];exact ⟨rfl,N⟩
 all_goals (refine ⟨(Φ,[.int .i64 ((2:Nat):Int),.string e.name,.string (zX e.op h.num k.num).con,.int .i64 ((0:Nat):Int),.int .i64 ((0:Nat):Int),.slice none 0 0,.slice none 0 0,.slice l1 e.body.length X0]),rfl,⟨Fz.Le.refl _,?_⟩,N⟩;exact RTE.iff.2 ⟨_,_,_,rfl,(show I64 0 from by unfold I64;omega),(show I64 0 from by unfold I64;omega),SliceOf.nil _,SliceOf.nil _,E⟩)
theorem y6j {Φ:Fz} {w:World} {σ:Type} {step:σ->TA->Bool×σ} {Kf:σ->List Res} {g:Nat} {fs cs:List Value} {s0:σ} {v0:Value} {l:List TA} (hl:SliceOf RTA Φ 10 v0 l)
  (T:∀args w,(callFunc g args).run prog w=.ok (.enter g args) w)
  (S:∀s x c w,x∈l->RTA Φ c x->Mem Φ (Kf s) w->Calls prog g (fs++[Value.agg c.toArray]++cs).toArray w (fun e w'=>e=.returned (.bool (step s x).1)/\Mem Φ (Kf (step s x).2) w'))
  (N:Mem Φ (Kf s0) w):Calls prog 214 #[v0,.func (.func g) fs.toArray cs.toArray] w (fun e w'=>e=.returned (.int .i64 (uJ step s0 l 0).1)/\Mem Φ (Kf (uJ step s0 l 0).2) w'):=by
 obtain ⟨V,c0,rfl,U,o⟩:=hl.fm
 refine zJ func214 ntmps214 fun Q hQ a J=>?_
 refine go fun a J=>?_
 refine pX (fun mm a w=>∃(i:Nat) (s:σ),mm=l.length - i/\EnvR 19 [(0,.slice V l.length c0),(1,.func (.func g) (List.toArray fs) (List.toArray cs)),(7,.int .i64 l.length),(8,.int .i64 i)] [] a/\Mem Φ (Kf s) w/\(uJ step s0 l 0=uJ step s (l.drop i) i)) (l.length - 0) ⟨0,s0,rfl,J.pk,N,rfl⟩ ?_
 clear N J
 rintro mm a w ⟨i,s,n,J,N,j⟩ L4 m
 by_cases r:i < l.length
 refine go fun a J=>?_
 obtain ⟨a0,rfl,p,f,q,y,t,h⟩:=hl.el o r
 obtain ⟨W,c22,H,rfl,L,k,z,D⟩:=RTA.fm h
 obtain ⟨X,I,Y,c36,Z,K,rfl,u,v,M,P,R,A,E,B,F,C,G⟩:=RTE.fm k
 refine FunB T (fun d w N a J=>?_) (fun d w N a J=>?_) (c:=by exact S s _ _ _ (mgQ f) h N)
 refine yK ?_
 have b:=j
 rw [yI f] at b
 simp only [uJ,d,if_true] at b
 rw [b]
 exact ⟨rfl,N⟩
 refine go fun a J=>?_
 refine m _ _ _ (by subst n;omega) ⟨(i+1),((step s p).2),rfl,J.pk,N,?_⟩
 rw [j,yI f];simp [uJ,d]
 refine yK ?_
 have b:=j
 rw [qE r] at b
 simp only [uJ] at b
 rw [b]
 exact ⟨rfl,N⟩
def armQ (con:Bs) (n:Nat) (a:TA):Bool:=decide (a.con=con/\a.vars.length=n)
theorem y3a {α:Type} {p:α->Bool}:∀(l:List α) (k:Nat),(uJ (fun (s:Unit) x=>(p x,s)) () l k).1=match l.findIdx? p with | some i=>((i+k:Nat):Int) | none=>-1
 | [],k=>rfl
 | x::l,k=>by
  rw [uJ,List.findIdx?_cons]
  cases a:p x with
  | true=>simp
  | false=>
   simp only [Bool.false_eq_true,if_false]
   rw [y3a l (k+1)]
   cases l.findIdx? p with
   | none=>rfl
   | some i=>simp only [Option.map_some];congr 1;omega
theorem firstA {p:TA->Bool} {g:Nat} {fs cs:List Value} {v0:Value} {l:List TA} (hl:SliceOf RTA Φ 10 v0 l) (j:∀args w,(callFunc g args).run prog w=.ok (.enter g args) w)
  (f:∀x c w,x∈l->RTA Φ c x->Mem Φ K w->Calls prog g (fs++[Value.agg c.toArray]++cs).toArray w (fun e w'=>e=.returned (.bool (p x))/\Mem Φ K w')) (N:Mem Φ K w) :
  Calls prog 214 #[v0,.func (.func g) fs.toArray cs.toArray] w (fun ee w'=>Out (xL (l.findIdx? p)) (fun i=>∃_y:Unit,ee=.returned (.int .i64 ((i:Nat):Int))/\True/\Mem Φ K w') (fun _=>ee=.returned (.int .i64 (-1))/\Mem Φ K w')):=by
 refine (y6j (σ:=Unit) (step:=fun s x=>(p x,s)) (Kf:=fun _=>K) (s0:=()) hl j (fun _ x c w k d N=>f x c w k d N) N).mono (fun e w' h=>?_)
 obtain ⟨a,b⟩:=h
 rw [y3a] at a
 cases hi:l.findIdx? p with
 | none=>rw [hi] at a;exact ⟨a,b⟩
 | some i=>rw [hi] at a;exact ⟨(),a,trivial,b⟩
theorem arm1_ok {f d:Nat} {con:Bs} {n:Nat} {pa:Option Addr} {ca:Nat} {c:List Value} {ta:TA} (I:At Φ ⟨f,0,none⟩ [.string con]) (L:At Φ ⟨d,0,none⟩ [.slice pa n ca]) (ra:RTA Φ c ta) (N:Mem Φ K w) :
  Calls prog 215 #[.agg c.toArray,.pointer (some ⟨f,0,none⟩),.pointer (some ⟨d,0,none⟩)] w (fun ee w'=>ee=.returned (.bool (armQ con n ta))/\Mem Φ K w'):=by
 have s:=ra
 obtain ⟨M,c4,d,rfl,H,B,C,D⟩:=RTA.fm ra
 obtain ⟨E,u,F,v,G,c24,rfl,g,h,y,z,A,k,p,l,q,m,r⟩:=RTE.fm B
 refine zJ func215 ntmps215 fun Q hQ a J=>?_
 refine Bx fun t w N a J=>?_
 by_cases b:ta.con=con
 refine Qq (fun a J=>?_) (o:=by exact fun J O=>kW (i:=ta.vars.length) (j:=n) J rfl rfl)
 refine yK ?_
 replace N:=N.dl [0]
 refine ⟨congrArg (fun e=>Ending.returned (.bool e)) ?_,N⟩
 simp [armQ,b]
 refine yK ?_
 replace N:=N.dl [0]
 refine ⟨congrArg (fun e=>Ending.returned (.bool e)) ?_,N⟩
 simp [armQ,b]
def zipM (vs:List Bs) (zs:List Atom) (m:Atoms):Atoms:=(vs.zip zs).foldl (fun m p=>qJ m p.1 p.2) m
theorem j5p {vs:List Bs} {zs:List Atom} {m:Atoms} {i:Nat} {v:Bs} {y:Atom} (a:vs[i]? = some v) (b:zs[i]? = some y):zipM (vs.drop i) (zs.drop i) m=zipM (vs.drop (i+1)) (zs.drop (i+1)) (qJ m v y):=by
 rw [yI a,yI b];rfl
theorem q4o {vs:List Bs} {zs:List Atom} {m:Atoms} {i:Nat} (h:¬i < vs.length):zipM (vs.drop i) (zs.drop i) m=m:=by rw [qE h];rfl
theorem j0h {α:Type}:∀{m:List (Bs×α)} {k:Bs} {x:α} {p:Bs×α},p∈qJ m k x->p=(k,x)∨p∈m
 | [],k,x,p,h=>by simp only [qJ,List.mem_singleton] at h;exact .inl h
 | (q,y)::m,k,x,p,h=>by
  simp only [qJ] at h
  split at h
  rename_i a
  rcases List.mem_cons.1 h with h | h
  subst a;exact .inl h
  exact .inr (mcQ _ h)
  rcases List.mem_cons.1 h with h | h
  exact .inr (by rw [h];exact msQ)
  rcases j0h h with h | h
  exact .inl h
  exact .inr (mcQ _ h)
theorem z9f {m:Atoms} {k:Bs} {x:Atom} (h:∀p∈m,I64 p.2.num) (b:I64 x.num):∀p∈qJ m k x,I64 p.2.num:=fun p a=>by
 rcases j0h a with rfl | a
 exact b
 exact h p a
theorem idx_lt {α:Type} {p:α->Bool} {l:List α} {i:Nat} (h:xL (l.findIdx? p)=.ok i):i < l.length:=by
 have a:=zR h
 rw [List.findIdx?_eq_some_iff_getElem] at a
 exact a.1
theorem z8s {α:Type} {p:α->Bool}:∀{l:List α} {i:Nat} {x:α},l.findIdx? p=some i->l[i]? = some x->l.find? p=some x/\p x=true
 | [],i,x,h,_=>by simp at h
 | y::l,i,x,h,b=>by
  rw [List.findIdx?_cons] at h
  cases a:p y with
  | true=>
   rw [a] at h
   simp only [if_true,Option.some.injEq] at h
   subst h
   rw [List.getElem?_cons_zero] at b
   cases b
   exact ⟨by rw [List.find?_cons,a],a⟩
  | false=>
   rw [a] at h
   simp only [Bool.false_eq_true,if_false] at h
   cases hq:l.findIdx? p with
   | none=>rw [hq] at h;cases h
   | some j=>
    rw [hq] at h
    simp only [Option.map_some,Option.some.injEq] at h
    subst h
    rw [List.getElem?_cons_succ] at b
    rw [List.find?_cons,a]
    exact z8s hq b
theorem j9w {α:Type} {p:α->Bool} {l:List α} {c:Unit} (h:xL (l.findIdx? p)=.error c):l.find? p=none:=by
 have a:=yL h
 rw [List.findIdx?_eq_none_iff] at a
 rw [List.find?_eq_none];intro x b;simp [a x b]
theorem j6d {e:TE} {con:Bs} {n i:Nat} {x:TA} (h:xL (e.arms.findIdx? (armQ con n))=.ok i) (a:e.arms[i]? = some x):x.vars.length=n:=(of_decide_eq_true (z8s (zR h) a).2).2
theorem y9o {f:FnS} {e:TE} {con:Bs} {args:List Atom} {i:Nat} {x:TA} (h:xL (e.arms.findIdx? (armQ con args.length))=.ok i) (b:e.arms[i]? = some x):f.arm e con args=f.put (zipM x.vars args []) x.body:=by
 unfold FnS.arm
 rw [show (e.arms.find? fun a=>decide (a.con=con/\a.vars.length=args.length))=some x from (z8s (zR h) b).1];rfl
theorem j6c {f:FnS} {e:TE} {con:Bs} {args:List Atom} {c:Unit} (h:xL (e.arms.findIdx? (armQ con args.length))=.error c):f.arm e con args=none:=by
 unfold FnS.arm
 rw [show (e.arms.find? fun a=>decide (a.con=con/\a.vars.length=args.length))=none from j9w h];rfl
theorem sm_arm {e:TE} {a:TA} {i:Nat} (h:smT e) (b:e.arms[i]? = some a):smT a.body:=(nZ ((z0x e).1 h).2.2.2.1 (mgQ b)).2
theorem q4v {pf:Addr} {T:Trc} {F:TFn} {c:List Value} {path:List Int} {up:List TE} {e:TE} {con:Bs} {args:List Atom} {va:Value} (RF:RFnO Φ pf T F) (GP:GoodP T) (hF:F∈T.funs) (hx:(⟨path,up,e⟩:Fnd)∈zE [] [] F.body) (rf:RFnd Φ c ⟨path,up,e⟩) (ha:SliceOf RAtom Φ 2 va args) (N:Mem Φ K w) :
  Calls prog 190 #[.pointer (some pf),.agg c.toArray,.string con,va] w (fun ee w'=>Out (xL (FnS.arm ⟨T,F⟩ e con args)) (fun z=>∃q:Fz×List Value,ee=.returned (.agg q.2.toArray)/\(Φ.Le q.1/\RTE q.1 q.2 z)/\Mem q.1 K w') (fun _=>ee=.panicked vB/\Mem Φ K w')):=by
 have C:=rf
 have h2:GI e:=nR (kZ (GP.gd F hF) hx)
 obtain ⟨x2,y2,n2,m2,g2,v,u,B,R1,h1,f1⟩:=RF.ex
 obtain ⟨s1,t1,o2,f2,rfl,C1,D1,V,Y,t,M⟩:=id rf
 replace V:SliceOf RInt Φ 1 s1 path:=V
 replace Y:SliceOf RPtE Φ 1 t1 up:=Y
 replace M:RTE Φ _ e:=M
 obtain ⟨p2,c23,rfl,i1,M1⟩:=V.fm
 obtain ⟨q2,b2,rfl,j1,N1⟩:=Y.fm
 have A:=M
 obtain ⟨r2,c34,s2,c2,t2,c46,rfl,E1,F1,i2,P,j2,H1,O1,I1,w0,J1,P1⟩:=RTE.fm M
 obtain ⟨u2,d2,rfl,k1,x0⟩:=ha.fm
 refine zJ func190 ntmps190 fun Q hQ a J=>?_
 refine Bx fun Y1 w N a J=>?_
 refine Bx fun G0 w N a J=>?_
 refine Bx fun H0 w N a J=>?_
 refine Alc fun Z1 w N a J=>?_
 refine go fun a J=>?_
 have D:=N
 clear N
 obtain ⟨X1,h,N,s⟩:=D.freezeBlk (i:=2) rfl
 clear D
 replace v:=v.mono h
 replace u:=u.mono h
 replace B:=RTFn.mono _ _ _ _ h B
 replace RF:=RF.mono h
 replace P:=P.mono RTA.mono h
 replace t:=t.mono h
 replace A:=RTE.mono _ _ _ _ h A
 replace C:=RFnd.mono _ _ _ _ h C
 replace ha:=ha.mono RAtom.mono h
 replace N:=N.nf
 have D:=N
 clear N
 obtain ⟨F0,g,N,G⟩:=D.freezeBlk (i:=1) rfl
 clear D
 replace v:=v.mono g
 replace u:=u.mono g
 replace B:=RTFn.mono _ _ _ _ g B
 replace RF:=RF.mono g
 replace P:=P.mono RTA.mono g
 replace t:=t.mono g
 replace A:=RTE.mono _ _ _ _ g A
 replace C:=RFnd.mono _ _ _ _ g C
 replace ha:=ha.mono RAtom.mono g
 replace s:=s.mono g
 replace N:=N.nf
 refine cY call214 (fun p0 z2 w y B1 N a J=>?_) (fun p0 w y N a J=>?_) (c:=firstA (p:=armQ con args.length) (fs:=[]) (cs:=[.pointer (some ⟨G0,0,none⟩),.pointer (some ⟨H0,0,none⟩)]) P call215 (fun x_ c_ w_ l2 Q0 N=>arm1_ok s G Q0 N) N)
 have f0:=idx_lt y
 refine Qq (fun a J=>?_) (o:=by exact fun J O=>y_geqN (i:=p0) (j:=0) J rfl rfl)
 refine yG call188 (fun r1 w g0 N a J=>?_) (fun r1 w g0 N=>?_) (c:=xU (b:=(decide (0<=p0))) N)
 refine MkM fun I0 w N a J=>?_
 replace N:=N.nf
 refine go fun a J=>?_
 have n:=N
 have m:=J
 clear N J
 obtain ⟨w2,rfl⟩:=w0 (zO f0)
 have N:=n
 have J:=m
 clear n m
 obtain ⟨k,E⟩:=zW f0
 obtain ⟨v1,G1,S,X⟩:=P.elem E
 obtain ⟨v2,e2,a2,rfl,M0,c0,K1,y0⟩:=RTA.fm X
 obtain ⟨q1,J0,z0,q0,A0,r0,rfl,R0,S0,k2,w1,x1,L1,Q1,Z0,l1,a1,m1⟩:=RTE.fm c0
 have S1:=j6d y E
 refine go fun a J=>?_
 refine qD (J.ks [0,5,7,8,9,10,32,33]) N (fun R mm a w=>∃(i:Nat) (ml:Atoms),mm=k.vars.length - i/\R F0 [(34,.int .i64 i)] [(0,.mp I0 (xZ ml))] a w/\(zipM k.vars args []=zipM (k.vars.drop i) (args.drop i) ml/\∀p∈ml,I64 p.2.num)) (k.vars.length - 0) ⟨0,[],rfl,⟨J.pk,N⟩,⟨rfl,fun _ h_=>by simp at h_⟩⟩ ?_
 clear N J
 rintro mm a w ⟨i,ml,g1,⟨J,N⟩,r⟩ u1 k0
 replace N:=N.nf
 by_cases L:i < k.vars.length
 refine go fun a J=>?_
 have n:=N
 have m:=J
 clear N J
 obtain ⟨U1,rfl⟩:=y0 (zO L)
 have N:=n
 have J:=m
 clear n m
 obtain ⟨b0,Z⟩:=zW L
 obtain ⟨j0,X0,O0,m0⟩:=M0.elem Z
 obtain rfl:j0=[.string b0]:=m0
 refine go fun a J=>?_
 have U:i < args.length:=by omega
 have n:=N
 have m:=J
 clear N J
 obtain ⟨V1,rfl⟩:=x0 (zO U)
 have N:=n
 have J:=m
 clear n m
 obtain ⟨h0,a0⟩:=zW U
 obtain ⟨K0,Y0,P0,n0⟩:=ha.elem a0
 obtain ⟨rfl,l0⟩:=id n0
 refine uF 0 runUnderlying151 runUnderlying9 fun w N a J=>?_
 rw [wH ml b0 h0] at N
 refine go fun a J=>?_
 refine k0 _ _ _ (by subst g1;omega) ⟨(i+1),((qJ ml b0 h0)),rfl,⟨J.pk,N⟩,?_⟩
 exact ⟨r.1.trans (j5p Z a0),z9f r.2 l0⟩
 refine Qq (fun a J=>?_) (o:=by exact fun J O=>kB 2 (vs:=[.int .i64 (k.body.kind),.string k.body.name,.string k.body.op,.int .i64 (k.body.num),.int .i64 (k.body.site),.slice q1 k.body.args.length J0,.slice z0 k.body.arms.length q0,.slice A0 k.body.body.length r0]) J O rfl S isAgg48 sizeOf48 rfl rfl)
 refine cZ call186 (fun l i0 w H d N a J=>?_) (fun l w H N=>?_) (c:=oD RF (cI (GP.gd F hF)) r.2 c0 (sm_arm (GP.sm hF hx) E) N)
 replace v:=v.mono d.1
 replace u:=u.mono d.1
 replace B:=RTFn.mono _ _ _ _ d.1 B
 replace t:=t.mono d.1
 replace A:=RTE.mono _ _ _ _ d.1 A
 replace C:=RFnd.mono _ _ _ _ d.1 C
 replace ha:=ha.mono RAtom.mono d.1
 replace s:=s.mono d.1
 replace G:=G.mono d.1
 replace S:=S.mono d.1
 replace X:=RTA.mono _ _ _ _ d.1 X
 replace c0:=RTE.mono _ _ _ _ d.1 c0
 have I:=d.2
 obtain ⟨L0,d0⟩:∃x_,x_=i0.2:=⟨_,rfl⟩
 rw [<- d0] at I J
 have o0:=I
 obtain ⟨B0,s0,C0,t0,D0,u0,rfl,U0,V0,y1,z1,A1,b1,n1,c1,o1,d1,p1⟩:=RTE.fm I
 replace N:=N.nf
 refine Sto 0 fun w N a J=>?_
 refine go fun a J=>?_
 have e1:=N
 replace N:=N.dl [1,0]
 refine kE (N:=e1) ?_
 rw [y9o (f:=⟨T,F⟩) y E,show zipM k.vars args []=ml from r.1.trans (q4o L),H]
 refine ⟨(i0.1,[.int .i64 (l.kind),.string l.name,.string l.op,.int .i64 (l.num),.int .i64 (l.site),.slice B0 l.args.length s0,.slice C0 l.arms.length t0,.slice D0 l.body.length u0]),rfl,⟨((h).trans g).trans d.1,?_⟩,N⟩
 exact o0
 replace N:=N.nf
 replace N:=N.le ((h).trans g)
 replace N:=N.dl [1,0]
 rw [y9o (f:=⟨T,F⟩) y E,show zipM k.vars args []=ml from r.1.trans (q4o L),H]
 exact ⟨rfl,N⟩
 replace N:=N.le ((h).trans g)
 replace N:=N.dl [1,0]
 exact absurd (of_decide_eq_false (zP g0)) (by omega)
 refine Qq (fun a J=>?_) (o:=by exact fun J O=>y_geqD J rfl rfl)
 refine yG call188 (fun E0 w W N a J=>?_) (fun E0 w W N=>?_) (c:=xU (b:=(decide (0<=(-1)))) N)
 refine go fun a J=>?_
 exact absurd (of_decide_eq_true (zD W)) (by omega)
 replace N:=N.le ((h).trans g)
 replace N:=N.dl [1,0]
 rw [j6c (f:=⟨T,F⟩) y];exact ⟨rfl,N⟩
end
theorem uY {Φ:Fz} {b:Nat} {v:Value} {l:List TE} (hb:At Φ ⟨b,0,none⟩ [v]) (O:SliceOf RPtE Φ 1 v l):q8o prog vB Φ 213 [] [.pointer (some ⟨b,0,none⟩)] RBk (vN l l.length):=by
 intro σ β y Ψ step bad G KV KP s0 z0 w hl H q N
 obtain ⟨R,M,P,L⟩:=H.fn
 subst L
 replace hb:=hb.mono hl
 replace O:=O.mono RPtE.mono hl
 obtain ⟨p1,c2,rfl,d0,V⟩:=O.fm
 show Calls prog 213 #[.func R M P,.pointer (some ⟨b,0,none⟩)] w _
 refine zJ func213 ntmps213 fun Q hQ a J=>?_
 refine Qq (fun a J=>?_) (o:=by exact fun J O=>z5w ((((l.length:Nat):Int) - 1)) J rfl rfl (I64.wrap (by unfold I64;omega)))
 refine go fun a J=>?_
 refine pX (fun mm a w=>∃(A:Fz) (m:Nat) (si:σ) (zi:β),mm=m/\EnvR 19 [(0,.func R M P),(1,.pointer (some ⟨b,0,none⟩)),(3,.int .i64 ((((m:Nat):Int) - 1)))] [] a/\Mem A (KV si true zi) w/\(Ψ.Le A/\(m<=l.length/\aU step bad s0 (vN l l.length)=aU step bad si (vN l m)/\G A si true zi))) (l.length) ⟨Ψ,l.length,s0,z0,rfl,J.pk,N,⟨Fz.Le.refl _,⟨Nat.le_refl _,rfl,q⟩⟩⟩ ?_
 clear N J
 rintro mm a w ⟨A,m,si,zi,U,J,N,f⟩ L8 T
 obtain ⟨p,f⟩:=f
 replace O:=O.mono RPtE.mono p
 replace hb:=hb.mono p
 replace q:=H.mono _ _ _ _ _ p q
 have i:=f.2.2
 refine go fun a J=>?_
 by_cases j0:0<=(((m:Nat):Int) - 1)
 refine go1 fun a J=>?_
 refine mQ ?_
 obtain ⟨r,rfl⟩:∃r,m=r+1:=⟨m - 1,by omega⟩
 rw [show (((r+1:Nat):Int) - 1)=((r:Nat):Int) from by omega] at J
 have C:r < l.length:=by have h_:=f.1;omega
 refine zH J (by intro c h;cases h) (yX J rfl) rfl fun a J=>
   zH J (by intro c h;cases h) (yX J rfl) rfl fun a J=>
   zH J (by intro c h;cases h) (pO J N.toSees rfl hb rfl isAgg87) rfl fun a J=>
   zH J (by intro c h;cases h) (yX J rfl) rfl fun a J=>?_
 obtain ⟨r0,rfl,s,u,W,Z,j,k⟩:=O.el V C
 obtain ⟨n0,i0,rfl,e,D⟩:=id k
 have n:=D
 obtain ⟨o0,h0,p0,c37,q0,c43,rfl,X,Y,k0,l0,m0,a0,e0,b0,f0,c0,g0⟩:=RTE.fm D
 refine zH J (by intro c h;cases h) (xO r J rfl rfl runUnderlying87 sizeOf88 C) rfl fun a J=>
   zH J (by intro c h;cases h) (pO J N.toSees rfl j rfl isAgg88) rfl fun a J=>?_
 refine y6i J rfl rfl rfl (by intro c h;cases h) (z4x J rfl rfl (H.fire (K0:=[]) (p) (z3m u (by omega)) ⟨rfl,_,_,rfl,e,n⟩ i N) (fun w F a J=>?_) (fun w F=>?_))
 obtain ⟨g,z,S,d,t,N⟩:=F
 replace O:=O.mono RPtE.mono d
 replace hb:=hb.mono d
 replace q:=H.mono _ _ _ _ _ d q
 replace i:=H.mono _ _ _ _ _ d i
 replace j:=j.mono d
 replace k:=RPtE.mono _ _ _ _ d k
 replace e:=e.mono d
 replace n:=RTE.mono _ _ _ _ d n
 replace N:=N.nf
 refine zH J (by intro c h;cases h) (z5v J rfl) rfl fun a J=>?_
 refine zY ?_
 refine go fun a J=>?_
 generalize B:(!(step si (r,s)).2)=I at J
 cases I
 refine Qq (fun a J=>?_) (o:=by exact fun J O=>z5w ((((r:Nat):Int) - 1)) J rfl rfl (I64.wrap (by unfold I64;omega)))
 refine go fun a J=>?_
 have E:(step si (r,s)).2=true:=by have h_:=B;revert h_;cases ((step si (r,s)).2) <;> simp
 rw [E] at t N
 refine T _ _ _ (by subst U;omega) ⟨(z),(r),((step si (r,s)).1),(S),rfl,J.pk,N,?_⟩
 refine ⟨(p).trans d,?_⟩
 exact ⟨by have h_:=f.1;omega,f.2.1.trans (by rw [kN u];exact z2s g E),t⟩
 refine go fun a J=>?_
 refine hQ _ _ _ (ret0 J results213 ?_)
 have K:(step si (r,s)).2=false:=by have h_:=B;revert h_;cases ((step si (r,s)).2) <;> simp
 rw [K] at t N
 exact .inr ⟨((step si (r,s)).1,false),_,z,S,f.2.1.trans (by rw [kN u];exact z6v g K),rfl,(p).trans d,t,N⟩
 obtain ⟨g,z,d,N⟩:=F
 refine hQ _ _ _ (zS J.defs ?_)
 replace hb:=hb.mono d
 replace q:=H.mono _ _ _ _ _ d q
 replace i:=H.mono _ _ _ _ _ d i
 replace j:=j.mono d
 replace k:=RPtE.mono _ _ _ _ d k
 replace e:=e.mono d
 replace n:=RTE.mono _ _ _ _ d n
 replace N:=N.nf
 exact .inl ⟨f.2.1.trans (by rw [kN u];exact z2r g),rfl,z,(p).trans d,N⟩
 refine go fun a J=>?_
 refine hQ _ _ _ (yP J results213 ?_)
 obtain rfl:m=0:=by omega
 exact .inr ⟨(si,true),_,A,zi,f.2.1,rfl,p,f.2.2,N⟩
theorem z7q {Φ:Fz} {K:List Res} {w:World} {v:Value} {l:List TE} (O:SliceOf RPtE Φ 1 v l) (N:Mem Φ K w) :
  Calls prog 189 #[v] w (fun ee w'=>∃q:Fz×Nat,ee=.returned (.func (.func 213) #[] #[.pointer (some ⟨q.2,0,none⟩)])/\(Φ.Le q.1/\At q.1 ⟨q.2,0,none⟩ [v])/\Mem q.1 K w'):=by
 obtain ⟨p1,c2,rfl,f,h⟩:=O.fm
 refine zJ func189 ntmps189 fun Q hQ a J=>?_
 refine Bx fun g w N a J=>?_
 refine go fun a J=>?_
 have b:=N
 clear N
 obtain ⟨e,d,N,c⟩:=b.freezeBlk (i:=0) rfl
 clear b
 replace N:=N.nf
 refine yK ?_
 exact ⟨(e,g),rfl,⟨d,c⟩,N⟩
end Go.Sw
