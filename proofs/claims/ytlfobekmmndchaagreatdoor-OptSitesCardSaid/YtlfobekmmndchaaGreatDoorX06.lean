import Derived.Test.YtlfobekmmndchaaGreatDoorX05
set_option linter.unusedVariables false
set_option linter.unusedSimpArgs false
namespace Go.Sw
open Go.Proofs Go.Proofs.Tryz
set_option maxRecDepth 20000
set_option maxHeartbeats 4000000
section
variable {Φ:Fz} {K:List Res} {w:World}
theorem x2h {s:BS} {e:TE} {n:Int} (a:tI s.sites e.site=none) (b:1<=e.site) (c:e.site<=20000):s.site e n=some ⟨s.list,s.kinds,s.sites++[(e.site,n)]⟩:=by rw [BS.site,if_pos ⟨a,b,c⟩]
theorem z0v {s z:BS} {e:TE} {n:Int} (h:s.site e n=some z):z.list=s.list/\z.kinds=s.kinds:=by
 rw [BS.site] at h
 split at h
 cases h;exact ⟨rfl,rfl⟩
 cases h
theorem z2x {s:BS} {e:TE} {n:Int} (h:¬(tI s.sites e.site=none/\1<=e.site/\e.site<=20000)):s.site e n=none:=by rw [BS.site,if_neg h]
theorem q0d {bb mb mk ms:Nat} {pa fa:Addr} {lv:Value} {T:Trc} {s:BS} {n:Int} (RP:RProg Φ pa T ms) {fd:List Value} {F:TFn} (H0:At Φ fa fd) (rf:RTFn Φ fd F) {l:Addr} {d:List Value} {e:TE} (G0:At Φ l d) (re:RTE Φ d e) (N:Mem Φ (.blk bb (ob [.pointer (some pa),.pointer (some fa),.map (some mb),.map (some mk),lv] 199)::.imp ms (xN s.sites)::K) w) :
  Calls prog 197 #[.pointer (some ⟨bb,0,none⟩),.pointer (some l),.int .i64 n] w (fun ee w'=>Out (xL (s.site e n)) (fun z=>ee=.returned (.tuple #[])/\Mem Φ (.blk bb (ob [.pointer (some pa),.pointer (some fa),.map (some mb),.map (some mk),lv] 199)::.imp ms (xN z.sites)::K) w') (fun _=>ee=.panicked jB/\Mem Φ K w')):=by
 obtain ⟨u0,y,A,h,k,c0,d0⟩:=RP.ex
 obtain ⟨B,p,C,q,D,c23,E,r,rfl,G,h9,w0,x0,y0,P,e0,R,f0,S,g0,U,h0⟩:=RTrc.fm k
 replace h:At Φ pa [.slice B T.cons.length p,.slice C T.inputs.length q,.slice D T.funs.length c23,.slice E T.outputs.length r,.map (some y),.map (some A),.map (some ms)]:=h
 obtain ⟨I0,c36,q0,rfl,z0,t,V,i0⟩:=RTFn.fm rf
 obtain ⟨J0,c44,K0,c50,L0,r0,rfl,H,I,A0,B0,C0,W,j0,X,k0,Y,l0⟩:=RTE.fm t
 have p0:=re
 obtain ⟨M0,s0,N0,t0,O0,c76,rfl,L,M,D0,E0,F0,Z,m0,a0,n0,b0,o0⟩:=RTE.fm re
 refine zJ func197 ntmps197 fun Q hQ a J=>?_
 refine Reg [1,1,1,2,1,1,2,1,1,1,2,2,1,1,1,1,1] [0,1] fun w N a J=>?_
 refine go fun a J=>?_
 rcases b:tI s.sites e.site with _ | m
 have f:zZ true (.int .i64 0) (z8t (xN s.sites) e.site)=.tuple #[.int .i64 0,.bool false]:=by rw [y1k,b];rfl
 refine Qq (fun a J=>?_) (o:=by exact fun J O=>Ok.cast (dX 1 runUnderlying158 runUnderlying3 zeroValue3 J O rfl rfl rfl) f)
 by_cases i:1<=e.site
 by_cases j:e.site<=20000
 refine zF call83 (fun w N a J=>?_) (c:=pL N)
 refine Reg [1,1,1,2,1,1,2,1,1,1,2,1,0] [0,1] fun w N a J=>?_
 refine go fun a J=>?_
 refine aE J rfl rfl (sK 1 runUnderlying158 runUnderlying3 J N rfl rfl rfl rfl fun w N=>⟨jM (by kernel_rfl),fun a J=>?_⟩)
 rw [q4k n b] at N
 refine go fun a J=>?_
 refine hQ _ _ _ (yP J results197 ?_)
 rw [x2h b i j];exact ⟨rfl,N⟩
 refine qC call83 (fun w N=>?_) (c:=zI N)
 replace N:=N.dl [1,0]
 rw [z2x fun g=>j g.2.2];exact ⟨rfl,N⟩
 refine qC call83 (fun w N=>?_) (c:=zI N)
 replace N:=N.dl [1,0]
 rw [z2x fun g=>i g.2.1];exact ⟨rfl,N⟩
 have f:zZ true (.int .i64 0) (z8t (xN s.sites) e.site)=.tuple #[.int .i64 m,.bool true]:=by rw [y1k,b];rfl
 refine Qq (fun a J=>?_) (o:=by exact fun J O=>Ok.cast (dX 1 runUnderlying158 runUnderlying3 zeroValue3 J O rfl rfl rfl) f)
 by_cases u:1<=e.site
 by_cases v:e.site<=20000
 refine qC call83 (fun w N=>?_) (c:=zI N)
 replace N:=N.dl [1,0]
 rw [z2x fun g=>absurd (b.symm.trans g.1) (by simp)];exact ⟨rfl,N⟩
 refine qC call83 (fun w N=>?_) (c:=zI N)
 replace N:=N.dl [1,0]
 rw [z2x fun g=>v g.2.2];exact ⟨rfl,N⟩
 refine qC call83 (fun w N=>?_) (c:=zI N)
 replace N:=N.dl [1,0]
 rw [z2x fun g=>u g.2.1];exact ⟨rfl,N⟩
theorem dF {T:Trc} {c:Bool} {e:TE} {s:BS} (a:e.kind=1):qZ T c e s=(if zB e true true false false true false true&&gF e.op&&s.atomL e.args [false,false] then some s else none):=by
 unfold qZ;simp only [a];simp
theorem z2c {T:Trc} {c:Bool} {e:TE} {s:BS} (a:e.kind=2):qZ T c e s=(if zB e true true false false true false true then (match (oT T e.op).bind fun i=>T.cons[i]? with | some c=>(if s.atomL e.args c.fields then some s else none) | none=>none) else none):=by
 unfold qZ;rw [if_neg (by omega),if_pos a];rfl
theorem pV {T:Trc} {c:Bool} {e:TE} {s:BS} (a:e.kind=3):qZ T c e s=(if zB e true true false false true false true&&s.call T e false then some s else none):=by
 unfold qZ;simp only [a];simp
theorem gE {T:Trc} {c:Bool} {e:TE} {s:BS} (a:e.kind=4):qZ T c e s=(if zB e true true false true true false true&&s.call T e true then s.site e e.args.length else none):=by
 unfold qZ;simp only [a];simp
theorem pU {T:Trc} {c:Bool} {e:TE} {s:BS} (a:e.kind=5):qZ T c e s=(if zB e true false false true true false true&&c&&s.atomL e.args [true] then s.site e (-1) else none):=by
 unfold qZ;simp only [a];simp
theorem wN {T:Trc} {c:Bool} {e:TE} {s:BS} (a:e.kind=6):qZ T c e s=(if zB e true false true false false false true&&decide (0<=e.num)&&decide (e.num < T.inputs.length) then some s else none):=by
 unfold qZ;simp only [a];simp
theorem nS {T:Trc} {c:Bool} {e:TE} {s:BS} (a:e.kind=8):qZ T c e s=(if zB e false false false false true false false && !c&&s.atomL e.args [false] then some s else none):=by
 unfold qZ;simp only [a];simp
theorem wO {T:Trc} {c:Bool} {e:TE} {s:BS} (a:e.kind=9):qZ T c e s=(if zB e false false false false true false false&&c&&s.atomL e.args [false] then some s else none):=by
 unfold qZ;simp only [a];simp
theorem cC {T:Trc} {c:Bool} {e:TE} {s:BS} (a:e.kind=10):qZ T c e s=(if zB e false true false false true false false&&s.call T e c then some s else none):=by
 unfold qZ;simp only [a];simp
theorem q1k {T:Trc} {c:Bool} {e:TE} {s:BS} (a:e.kind=2) (h:T.cons.findIdx? (fun c=>decide (c.name=e.op))=none):qZ T c e s=none:=by
 rw [z2c a,show oT T e.op=none from h];simp
theorem dE {T:Trc} {c:Bool} {e:TE} {s:BS} {j:Nat} {x:TCon} (a:e.kind=2) (h:T.cons.findIdx? (fun c=>decide (c.name=e.op))=some j) (b:T.cons[j]? = some x):qZ T c e s=(if zB e true true false false true false true&&s.atomL e.args x.fields then some s else none):=by
 rw [z2c a,show oT T e.op=some j from h]
 simp only [Option.bind_some,b]
 cases zB e true true false false true false true <;> simp
theorem bop_ok {bb mb mk ms:Nat} {pa fa:Addr} {lv:Value} {T:Trc} {s:BS} (RP:RProg Φ pa T ms) {fd:List Value} {F:TFn} (V0:At Φ fa fd) (rf:RTFn Φ fd F) {D:Addr} {d:List Value} {e:TE} (B:At Φ D d) (re:RTE Φ d e) (r:e.kind=1) (N:Mem Φ (.blk bb (ob [.pointer (some pa),.pointer (some fa),.map (some mb),.map (some mk),lv] 199)::.mp mb (zN (xW s.list))::.mp mk (zN s.kinds)::.gs lv 125 2 (xX s.list)::.imp ms (xN s.sites)::K) w) :
  Calls prog 159 #[.pointer (some ⟨bb,0,none⟩),.pointer (some D)] w (fun ee w'=>Out (xL (qZ T F.chg e s)) (fun z=>ee=.returned (.tuple #[])/\Mem Φ (.blk bb (ob [.pointer (some pa),.pointer (some fa),.map (some mb),.map (some mk),lv] 199)::.mp mb (zN (xW z.list))::.mp mk (zN z.kinds)::.gs lv 125 2 (xX z.list)::.imp ms (xN z.sites)::K) w') (fun _=>ee=.panicked jB/\Mem Φ K w')):=by
 have v:=rf
 obtain ⟨K0,M,P,k,C,q0,r0⟩:=RP.ex
 obtain ⟨R,G,S,H,U,c23,V,I,rfl,Z,h9,L0,M0,N0,e0,s0,f0,t0,g0,u0,h0,w0⟩:=RTrc.fm C
 replace k:At Φ pa [.slice R T.cons.length G,.slice S T.inputs.length H,.slice U T.funs.length c23,.slice V T.outputs.length I,.map (some M),.map (some P),.map (some ms)]:=k
 obtain ⟨X0,c36,F0,rfl,O0,y,i0,x0⟩:=RTFn.fm rf
 obtain ⟨Y0,c44,Z0,c50,a1,G0,rfl,a0,b0,P0,Q0,R0,j0,y0,k0,z0,l0,A0⟩:=RTE.fm y
 have p:=re
 obtain ⟨b1,H0,c1,I0,d1,c76,rfl,c0,d0,A,S0,U0,m0,B0,n0,C0,o0,D0⟩:=RTE.fm re
 refine zJ func159 ntmps159 fun Q hQ a J=>?_
 refine yG call194 (fun W w j N a J=>?_) (fun W w j N=>?_) (c:=y6s B p N)
 refine zF call183 (fun w N a J=>?_) (c:=q9z N)
 refine yG call83 (fun X w l N a J=>?_) (fun X w l N=>?_) (c:=yD (b:=(gF e.op)) N)
 refine qG fun f1 w N a J=>?_
 replace N:=N.nf
 have t:=N
 clear N
 obtain ⟨E,f,N,q⟩:=t.freezeRow (i:=0) rfl
 clear t
 replace k:=k.mono f
 replace y:=RTE.mono _ _ _ _ f y
 replace A:=A.mono RAtom.mono f
 replace B:=B.mono f
 replace p:=RTE.mono _ _ _ _ f p
 replace v:=RTFn.mono _ _ _ _ f v
 replace N:=N.nf
 have o:SliceOf RBoo E 1 _ ([false,false]):=⟨_,q,(kO ([false,false]))⟩
 obtain ⟨e1,J0,L,p0,E0⟩:=o.form (by decide)
 have u:=N
 clear N
 subst L
 have N:=u
 clear u
 replace N:=N.ar [] [2,1]
 refine yG call195 (fun Y w n N a J=>?_) (fun Y w n N=>?_) (c:=mW (s:=s) A o N)
 refine go fun a J=>?_
 replace N:=N.le (f)
 replace N:=N.ar [] [4,4,3,4,4]
 refine hQ _ _ _ (yP J results159 ?_)
 have g:=zD j
 have h:=zD l
 have m:=zD n
 first | (rw [dF r,if_pos (by simp [g,h,m])];exact ⟨rfl,N⟩) | (rw [dF r,if_pos (by simp [g,h,m] <;> omega)];exact ⟨rfl,N⟩)
 replace N:=N.le (f)
 replace N:=N.dl [2,1,0]
 have g:=zD j
 have h:=zD l
 have m:=zP n
 first | (rw [dF r,if_neg (by simp [g,h,m])];exact ⟨rfl,N⟩) | (rw [dF r,if_neg (by simp [g,h,m] <;> omega)];exact ⟨rfl,N⟩)
 replace N:=N.dl [4,3,2,1,0]
 have g:=zD j
 have h:=zP l
 first | (rw [dF r,if_neg (by simp [g,h])];exact ⟨rfl,N⟩) | (rw [dF r,if_neg (by simp [g,h] <;> omega)];exact ⟨rfl,N⟩)
 replace N:=N.dl [4,3,2,1,0]
 have g:=zP j
 first | (rw [dF r,if_neg (by simp [g])];exact ⟨rfl,N⟩) | (rw [dF r,if_neg (by simp [g] <;> omega)];exact ⟨rfl,N⟩)
theorem bcon_ok {bb mb mk ms:Nat} {pa fa:Addr} {lv:Value} {T:Trc} {s:BS} (RP:RProg Φ pa T ms) {fd:List Value} {F:TFn} (a1:At Φ fa fd) (rf:RTFn Φ fd F) {A:Addr} {d:List Value} {e:TE} (L:At Φ A d) (re:RTE Φ d e) (p:e.kind=2) (N:Mem Φ (.blk bb (ob [.pointer (some pa),.pointer (some fa),.map (some mb),.map (some mk),lv] 199)::.mp mb (zN (xW s.list))::.mp mk (zN s.kinds)::.gs lv 125 2 (xX s.list)::.imp ms (xN s.sites)::K) w) :
  Calls prog 160 #[.pointer (some ⟨bb,0,none⟩),.pointer (some A)] w (fun ee w'=>Out (xL (qZ T F.chg e s)) (fun z=>ee=.returned (.tuple #[])/\Mem Φ (.blk bb (ob [.pointer (some pa),.pointer (some fa),.map (some mb),.map (some mk),lv] 199)::.mp mb (zN (xW z.list))::.mp mk (zN z.kinds)::.gs lv 125 2 (xX z.list)::.imp ms (xN z.sites)::K) w') (fun _=>ee=.panicked jB/\Mem Φ K w')):=by
 have H0:=rf
 obtain ⟨N0,S,U,m,v,n,u0⟩:=RP.ex
 obtain ⟨V,D,W,E,X,c23,Y,G,rfl,d0,h9,O0,P0,Q0,j0,u,k0,w0,l0,x0,m0,y0⟩:=RTrc.fm v
 replace m:At Φ pa [.slice V T.cons.length D,.slice W T.inputs.length E,.slice X T.funs.length c23,.slice Y T.outputs.length G,.map (some S),.map (some U),.map (some ms)]:=m
 obtain ⟨b1,c36,J0,rfl,R0,H,n0,z0⟩:=RTFn.fm rf
 obtain ⟨c1,c44,d1,c50,e1,K0,rfl,e0,f0,S0,U0,V0,o0,A0,p0,B0,q0,C0⟩:=RTE.fm H
 have C:=re
 obtain ⟨f1,L0,g1,M0,h1,c76,rfl,g0,h0,I,X0,Y0,r0,D0,s0,E0,t0,F0⟩:=RTE.fm re
 refine zJ func160 ntmps160 fun Q hQ a J=>?_
 refine yG call194 (fun Z w j N a J=>?_) (fun Z w j N=>?_) (c:=y6s L C N)
 refine Reg [1,1,1,2,1,1,2,1,1,1,2,2,1,1,1,1,1] [0,1,2,3,4] fun w N a J=>?_
 refine go fun a J=>?_
 rcases h:jJ ((zN (mT T))) e.op with _ | I0
 have f:=congrArg (zZ true (.int .i64 ((0:Nat):Int))) h
 refine Qq (fun a J=>?_) (o:=by exact fun J O=>Ok.cast (yT runUnderlying98 runUnderlying9 zeroValue3 J O rfl rfl n) (show zZ true (.int .i64 ((0:Nat):Int)) (jJ ((zN (mT T))) e.op)=.tuple #[.int .i64 ((0:Nat):Int),.bool false] from f))
 refine qC call83 (fun w N=>?_) (c:=zI N)
 replace N:=N.dl [4,3,2,1,0]
 rw [q1k p (gG (vQ h))];exact ⟨rfl,N⟩
 obtain ⟨k1,y,rfl⟩:=pW h
 obtain ⟨R,rfl,i,t⟩:=gH y
 have f:=congrArg (zZ true (.int .i64 ((0:Nat):Int))) h
 refine Qq (fun a J=>?_) (o:=by exact fun J O=>Ok.cast (yT runUnderlying98 runUnderlying9 zeroValue3 J O rfl rfl n) (show zZ true (.int .i64 ((0:Nat):Int)) (jJ ((zN (mT T))) e.op)=.tuple #[.int .i64 R,.bool true] from f))
 refine zF call83 (fun w N a J=>?_) (c:=pL N)
 refine Reg [1,1,1,1,2,1,1,1,2,1,1,1,2,1,1,1,2,0] [0,1,2,3,4] fun w N a J=>?_
 refine go fun a J=>?_
 obtain ⟨i1,rfl,j1,k,b0,i0,c0,q⟩:=h9.el u t
 obtain ⟨G0,a0,rfl,r,M,P⟩:=RTCon.fm q
 replace N:=N.ar [] [2,1]
 refine yG call195 (fun B w g N a J=>?_) (fun B w g N=>?_) (c:=mW (s:=s) I r N)
 refine go fun a J=>?_
 replace N:=N.ar [] [4,4,3,4,4]
 refine hQ _ _ _ (yP J results160 ?_)
 have b:=zD j
 have l:=zD g
 first | (rw [dE p i k,if_pos (by simp [b,l])];exact ⟨rfl,N⟩) | (rw [dE p i k,if_pos (by simp [b,l] <;> omega)];exact ⟨rfl,N⟩)
 replace N:=N.dl [2,1,0]
 have b:=zD j
 have l:=zP g
 first | (rw [dE p i k,if_neg (by simp [b,l])];exact ⟨rfl,N⟩) | (rw [dE p i k,if_neg (by simp [b,l] <;> omega)];exact ⟨rfl,N⟩)
 replace N:=N.dl [4,3,2,1,0]
 have b:=zP j
 first | (rw [z2c p,if_neg (by simp [b])];exact ⟨rfl,N⟩) | (rw [z2c p,if_neg (by simp [b] <;> omega)];exact ⟨rfl,N⟩)
theorem q5g {bb mb mk ms:Nat} {pa fa:Addr} {lv:Value} {T:Trc} {s:BS} (RP:RProg Φ pa T ms) {fd:List Value} {F:TFn} (u:At Φ fa fd) (rf:RTFn Φ fd F) {n:Addr} {d:List Value} {e:TE} (l:At Φ n d) (re:RTE Φ d e) (k:e.kind=3) (N:Mem Φ (.blk bb (ob [.pointer (some pa),.pointer (some fa),.map (some mb),.map (some mk),lv] 199)::.mp mb (zN (xW s.list))::.mp mk (zN s.kinds)::.gs lv 125 2 (xX s.list)::.imp ms (xN s.sites)::K) w) :
  Calls prog 161 #[.pointer (some ⟨bb,0,none⟩),.pointer (some n)] w (fun ee w'=>Out (xL (qZ T F.chg e s)) (fun z=>ee=.returned (.tuple #[])/\Mem Φ (.blk bb (ob [.pointer (some pa),.pointer (some fa),.map (some mb),.map (some mk),lv] 199)::.mp mb (zN (xW z.list))::.mp mk (zN z.kinds)::.gs lv 125 2 (xX z.list)::.imp ms (xN z.sites)::K) w') (fun _=>ee=.panicked jB/\Mem Φ K w')):=by
 have o:=rf
 obtain ⟨u0,v,y,i,m,d0,e0⟩:=RP.ex
 obtain ⟨A,p,B,q,C,c23,D,r,rfl,H,h9,w0,x0,y0,R,f0,S,g0,U,h0,V,i0⟩:=RTrc.fm m
 replace i:At Φ pa [.slice A T.cons.length p,.slice B T.inputs.length q,.slice C T.funs.length c23,.slice D T.outputs.length r,.map (some v),.map (some y),.map (some ms)]:=i
 obtain ⟨G0,c36,q0,rfl,z0,t,W,j0⟩:=RTFn.fm rf
 obtain ⟨H0,c44,I0,c50,J0,r0,rfl,I,L,A0,B0,C0,X,k0,Y,l0,Z,m0⟩:=RTE.fm t
 have j:=re
 obtain ⟨K0,s0,L0,t0,M0,c76,rfl,M,P,D0,E0,F0,a0,n0,b0,o0,c0,p0⟩:=RTE.fm re
 refine zJ func161 ntmps161 fun Q hQ a J=>?_
 refine yG call194 (fun E w f N a J=>?_) (fun E w f N=>?_) (c:=y6s l j N)
 replace N:=N.ar [] [2,1]
 refine yG call196 (fun G w h N a J=>?_) (fun G w h N=>?_) (c:=z7r (s:=s) (c:=false) RP u o l j N)
 refine go fun a J=>?_
 replace N:=N.ar [] [4,4,3,4,4]
 refine hQ _ _ _ (yP J results161 ?_)
 have b:=zD f
 have g:=zD h
 first | (rw [pV k,if_pos (by simp [b,g])];exact ⟨rfl,N⟩) | (rw [pV k,if_pos (by simp [b,g] <;> omega)];exact ⟨rfl,N⟩)
 replace N:=N.dl [2,1,0]
 have b:=zD f
 have g:=zP h
 first | (rw [pV k,if_neg (by simp [b,g])];exact ⟨rfl,N⟩) | (rw [pV k,if_neg (by simp [b,g] <;> omega)];exact ⟨rfl,N⟩)
 replace N:=N.dl [4,3,2,1,0]
 have b:=zP f
 first | (rw [pV k,if_neg (by simp [b])];exact ⟨rfl,N⟩) | (rw [pV k,if_neg (by simp [b] <;> omega)];exact ⟨rfl,N⟩)
theorem bmod_ok {bb mb mk ms:Nat} {pa fa:Addr} {lv:Value} {T:Trc} {s:BS} (RP:RProg Φ pa T ms) {fd:List Value} {F:TFn} (p:At Φ fa fd) (rf:RTFn Φ fd F) {r:Addr} {d:List Value} {e:TE} (m:At Φ r d) (re:RTE Φ d e) (o:e.kind=4) (N:Mem Φ (.blk bb (ob [.pointer (some pa),.pointer (some fa),.map (some mb),.map (some mk),lv] 199)::.mp mb (zN (xW s.list))::.mp mk (zN s.kinds)::.gs lv 125 2 (xX s.list)::.imp ms (xN s.sites)::K) w) :
  Calls prog 162 #[.pointer (some ⟨bb,0,none⟩),.pointer (some r)] w (fun ee w'=>Out (xL (qZ T F.chg e s)) (fun z=>ee=.returned (.tuple #[])/\Mem Φ (.blk bb (ob [.pointer (some pa),.pointer (some fa),.map (some mb),.map (some mk),lv] 199)::.mp mb (zN (xW z.list))::.mp mk (zN z.kinds)::.gs lv 125 2 (xX z.list)::.imp ms (xN z.sites)::K) w') (fun _=>ee=.panicked jB/\Mem Φ K w')):=by
 have l:=rf
 obtain ⟨A0,C,D,k,q,i0,j0⟩:=RP.ex
 obtain ⟨E,t,G,u,H,c23,I,v,rfl,R,h9,B0,C0,D0,X,k0,Y,l0,Z,m0,a0,n0⟩:=RTrc.fm q
 replace k:At Φ pa [.slice E T.cons.length t,.slice G T.inputs.length u,.slice H T.funs.length c23,.slice I T.outputs.length v,.map (some C),.map (some D),.map (some ms)]:=k
 obtain ⟨L0,c36,w0,rfl,E0,y,b0,o0⟩:=RTFn.fm rf
 obtain ⟨M0,c44,N0,c50,O0,x0,rfl,S,U,F0,G0,H0,c0,p0,d0,q0,e0,r0⟩:=RTE.fm y
 have j:=re
 obtain ⟨P0,y0,Q0,z0,R0,c76,rfl,V,W,I0,J0,K0,f0,s0,g0,t0,h0,u0⟩:=RTE.fm re
 refine zJ func162 ntmps162 fun Q hQ a J=>?_
 refine yG call194 (fun L w f N a J=>?_) (fun L w f N=>?_) (c:=x0o m j N)
 replace N:=N.ar [] [2,1]
 refine yG call196 (fun M w g N a J=>?_) (fun M w g N=>?_) (c:=z7r (s:=s) (c:=true) RP p l m j N)
 replace N:=N.ar [] [4,1]
 refine yG call197 (fun P w h N a J=>?_) (fun P w h N=>?_) (c:=q0d (s:=s) (n:=((e.args.length:Nat):Int)) RP p l m j N)
 refine go fun a J=>?_
 replace N:=N.ar [] [1,4,3,4,4]
 refine hQ _ _ _ (yP J results162 ?_)
 have b:=zD f
 have i:=zD g
 rw [gE o,if_pos (by simp [b,i])]
 obtain ⟨B,A⟩:=z0v (zR h)
 rw [h];refine ⟨rfl,?_⟩;rw [B,A];exact N
 replace N:=N.dl [2,1,0]
 have b:=zD f
 have i:=zD g
 rw [gE o,if_pos (by simp [b,i])]
 rw [h];exact ⟨rfl,N⟩
 replace N:=N.dl [2,1,0]
 have b:=zD f
 have i:=zP g
 first | (rw [gE o,if_neg (by simp [b,i])];exact ⟨rfl,N⟩) | (rw [gE o,if_neg (by simp [b,i] <;> omega)];exact ⟨rfl,N⟩)
 replace N:=N.dl [4,3,2,1,0]
 have b:=zP f
 first | (rw [gE o,if_neg (by simp [b])];exact ⟨rfl,N⟩) | (rw [gE o,if_neg (by simp [b] <;> omega)];exact ⟨rfl,N⟩)
theorem j6t {bb mb mk ms:Nat} {pa fa:Addr} {lv:Value} {T:Trc} {s:BS} (RP:RProg Φ pa T ms) {fd:List Value} {F:TFn} (E:At Φ fa fd) (rf:RTFn Φ fd F) {H:Addr} {d:List Value} {e:TE} (u:At Φ H d) (re:RTE Φ d e) (y:e.kind=5) (N:Mem Φ (.blk bb (ob [.pointer (some pa),.pointer (some fa),.map (some mb),.map (some mk),lv] 199)::.mp mb (zN (xW s.list))::.mp mk (zN s.kinds)::.gs lv 125 2 (xX s.list)::.imp ms (xN s.sites)::K) w) :
  Calls prog 163 #[.pointer (some ⟨bb,0,none⟩),.pointer (some H)] w (fun ee w'=>Out (xL (qZ T F.chg e s)) (fun z=>ee=.returned (.tuple #[])/\Mem Φ (.blk bb (ob [.pointer (some pa),.pointer (some fa),.map (some mb),.map (some mk),lv] 199)::.mp mb (zN (xW z.list))::.mp mk (zN z.kinds)::.gs lv 125 2 (xX z.list)::.imp ms (xN z.sites)::K) w') (fun _=>ee=.panicked jB/\Mem Φ K w')):=by
 have t:=rf
 obtain ⟨Q0,V,W,m,G,x0,y0⟩:=RP.ex
 obtain ⟨X,L,Y,M,Z,c23,a0,P,rfl,f0,h9,R0,S0,U0,k0,z0,l0,A0,m0,B0,n0,C0⟩:=RTrc.fm G
 replace m:At Φ pa [.slice X T.cons.length L,.slice Y T.inputs.length M,.slice Z T.funs.length c23,.slice a0 T.outputs.length P,.map (some V),.map (some W),.map (some ms)]:=m
 obtain ⟨c1,c36,L0,rfl,V0,C,o0,D0⟩:=RTFn.fm rf
 obtain ⟨d1,c44,e1,c50,f1,M0,rfl,g0,h0,X0,Y0,Z0,p0,E0,q0,F0,r0,G0⟩:=RTE.fm C
 have p:=re
 obtain ⟨g1,N0,h1,O0,i1,c76,rfl,i0,j0,D,a1,b1,s0,H0,t0,I0,u0,J0⟩:=RTE.fm re
 refine zJ func163 ntmps163 fun Q hQ a J=>?_
 refine yG call194 (fun b0 w h N a J=>?_) (fun b0 w h N=>?_) (c:=j4m u p N)
 refine yG call83 (fun c0 w l N a J=>?_) (fun c0 w l N=>?_) (c:=yD (b:=F.chg) N)
 refine qG fun k1 w N a J=>?_
 replace N:=N.nf
 have A:=N
 clear N
 obtain ⟨I,f,N,v⟩:=A.freezeRow (i:=0) rfl
 clear A
 replace RP:=RP.mono f
 replace m:=m.mono f
 replace C:=RTE.mono _ _ _ _ f C
 replace E:=E.mono f
 replace D:=D.mono RAtom.mono f
 replace u:=u.mono f
 replace p:=RTE.mono _ _ _ _ f p
 replace t:=RTFn.mono _ _ _ _ f t
 replace N:=N.nf
 have r:SliceOf RBoo I 1 _ ([true]):=⟨_,v,(kO [true])⟩
 obtain ⟨j1,P0,U,w0,K0⟩:=r.form (by decide)
 have B:=N
 clear N
 subst U
 have N:=B
 clear B
 replace N:=N.ar [] [2,1]
 refine yG call195 (fun d0 w o N a J=>?_) (fun d0 w o N=>?_) (c:=mW (s:=s) D r N)
 replace N:=N.ar [] [4,1]
 refine yG call197 (fun e0 w k N a J=>?_) (fun e0 w k N=>?_) (c:=q0d (s:=s) (n:=-1) RP E t u p N)
 refine go fun a J=>?_
 replace N:=N.le (f)
 replace N:=N.ar [] [1,4,3,4,4]
 refine hQ _ _ _ (yP J results163 ?_)
 have g:=zD h
 have j:=zD l
 have q:=zD o
 rw [pU y,if_pos (by simp [g,j,q])]
 obtain ⟨S,R⟩:=z0v (zR k)
 rw [k];refine ⟨rfl,?_⟩;rw [S,R];exact N
 replace N:=N.le (f)
 replace N:=N.dl [2,1,0]
 have g:=zD h
 have j:=zD l
 have q:=zD o
 rw [pU y,if_pos (by simp [g,j,q])]
 rw [k];exact ⟨rfl,N⟩
 replace N:=N.le (f)
 replace N:=N.dl [2,1,0]
 have g:=zD h
 have j:=zD l
 have q:=zP o
 first | (rw [pU y,if_neg (by simp [g,j,q])];exact ⟨rfl,N⟩) | (rw [pU y,if_neg (by simp [g,j,q] <;> omega)];exact ⟨rfl,N⟩)
 replace N:=N.dl [4,3,2,1,0]
 have g:=zD h
 have j:=zP l
 first | (rw [pU y,if_neg (by simp [g,j])];exact ⟨rfl,N⟩) | (rw [pU y,if_neg (by simp [g,j] <;> omega)];exact ⟨rfl,N⟩)
 replace N:=N.dl [4,3,2,1,0]
 have g:=zP h
 first | (rw [pU y,if_neg (by simp [g])];exact ⟨rfl,N⟩) | (rw [pU y,if_neg (by simp [g] <;> omega)];exact ⟨rfl,N⟩)
theorem j2h {bb mb mk ms:Nat} {pa fa:Addr} {lv:Value} {T:Trc} {s:BS} (RP:RProg Φ pa T ms) {fd:List Value} {F:TFn} (I0:At Φ fa fd) (rf:RTFn Φ fd F) {n:Addr} {d:List Value} {e:TE} (v:At Φ n d) (re:RTE Φ d e) (l:e.kind=6) (N:Mem Φ (.blk bb (ob [.pointer (some pa),.pointer (some fa),.map (some mb),.map (some mk),lv] 199)::.mp mb (zN (xW s.list))::.mp mk (zN s.kinds)::.gs lv 125 2 (xX s.list)::.imp ms (xN s.sites)::K) w) :
  Calls prog 164 #[.pointer (some ⟨bb,0,none⟩),.pointer (some n)] w (fun ee w'=>Out (xL (qZ T F.chg e s)) (fun z=>ee=.returned (.tuple #[])/\Mem Φ (.blk bb (ob [.pointer (some pa),.pointer (some fa),.map (some mb),.map (some mk),lv] 199)::.mp mb (zN (xW z.list))::.mp mk (zN z.kinds)::.gs lv 125 2 (xX z.list)::.imp ms (xN z.sites)::K) w') (fun _=>ee=.panicked jB/\Mem Φ K w')):=by
 have r0:=rf
 obtain ⟨x0,y,A,k,m,e0,f0⟩:=RP.ex
 obtain ⟨B,q,C,r,D,c23,E,t,rfl,I,h9,y0,z0,A0,S,g0,U,h0,V,i0,W,j0⟩:=RTrc.fm m
 replace k:At Φ pa [.slice B T.cons.length q,.slice C T.inputs.length r,.slice D T.funs.length c23,.slice E T.outputs.length t,.map (some y),.map (some A),.map (some ms)]:=k
 obtain ⟨J0,c36,s0,rfl,B0,u,X,k0⟩:=RTFn.fm rf
 obtain ⟨K0,c44,L0,c50,M0,t0,rfl,L,M,C0,D0,E0,Y,l0,Z,m0,a0,n0⟩:=RTE.fm u
 have p:=re
 obtain ⟨N0,u0,O0,w0,P0,c76,rfl,P,R,F0,G0,H0,b0,o0,c0,p0,d0,q0⟩:=RTE.fm re
 refine zJ func164 ntmps164 fun Q hQ a J=>?_
 refine yG call194 (fun G w g N a J=>?_) (fun G w g N=>?_) (c:=q6x v p N)
 refine Reg [1,1,1,2,1,1,1,1,1,2,1,1,1,2,1,1,1,2,1,1,1,0] [0,1,2,3,4] fun w N a J=>?_
 by_cases h:0<=e.num
 refine Qq (fun a J=>?_) (o:=by exact fun J O=>q8j J rfl rfl)
 refine yG call83 (fun H w j N a J=>?_) (fun H w j N=>?_) (c:=yD (b:=(decide (e.num < ((T.inputs.length:Nat):Int)))) N)
 refine go fun a J=>?_
 refine hQ _ _ _ (yP J results164 ?_)
 have f:=zD g
 have i:=zD j
 first | (rw [wN l,if_pos (by simp [f,i,h])];exact ⟨rfl,N⟩) | (rw [wN l,if_pos (by simp [f,i,h] <;> omega)];exact ⟨rfl,N⟩)
 replace N:=N.dl [4,3,2,1,0]
 have f:=zD g
 have i:=zP j
 first | (rw [wN l,if_neg (by simp [f,i,h])];exact ⟨rfl,N⟩) | (rw [wN l,if_neg (by simp [f,i,h] <;> omega)];exact ⟨rfl,N⟩)
 refine qC call83 (fun w N=>?_) (c:=zI N)
 replace N:=N.dl [4,3,2,1,0]
 have f:=zD g
 first | (rw [wN l,if_neg (by simp [f,h])];exact ⟨rfl,N⟩) | (rw [wN l,if_neg (by simp [f,h] <;> omega)];exact ⟨rfl,N⟩)
 replace N:=N.dl [4,3,2,1,0]
 have f:=zP g
 first | (rw [wN l,if_neg (by simp [f])];exact ⟨rfl,N⟩) | (rw [wN l,if_neg (by simp [f] <;> omega)];exact ⟨rfl,N⟩)
theorem bret_ok {bb mb mk ms:Nat} {pa fa:Addr} {lv:Value} {T:Trc} {s:BS} (RP:RProg Φ pa T ms) {fd:List Value} {F:TFn} (V0:At Φ fa fd) (rf:RTFn Φ fd F) {D:Addr} {d:List Value} {e:TE} (B:At Φ D d) (re:RTE Φ d e) (r:e.kind=8) (N:Mem Φ (.blk bb (ob [.pointer (some pa),.pointer (some fa),.map (some mb),.map (some mk),lv] 199)::.mp mb (zN (xW s.list))::.mp mk (zN s.kinds)::.gs lv 125 2 (xX s.list)::.imp ms (xN s.sites)::K) w) :
  Calls prog 166 #[.pointer (some ⟨bb,0,none⟩),.pointer (some D)] w (fun ee w'=>Out (xL (qZ T F.chg e s)) (fun z=>ee=.returned (.tuple #[])/\Mem Φ (.blk bb (ob [.pointer (some pa),.pointer (some fa),.map (some mb),.map (some mk),lv] 199)::.mp mb (zN (xW z.list))::.mp mk (zN z.kinds)::.gs lv 125 2 (xX z.list)::.imp ms (xN z.sites)::K) w') (fun _=>ee=.panicked jB/\Mem Φ K w')):=by
 have v:=rf
 obtain ⟨K0,M,P,k,C,q0,r0⟩:=RP.ex
 obtain ⟨R,G,S,H,U,c23,V,I,rfl,Z,h9,L0,M0,N0,e0,s0,f0,t0,g0,u0,h0,w0⟩:=RTrc.fm C
 replace k:At Φ pa [.slice R T.cons.length G,.slice S T.inputs.length H,.slice U T.funs.length c23,.slice V T.outputs.length I,.map (some M),.map (some P),.map (some ms)]:=k
 obtain ⟨X0,c36,F0,rfl,O0,y,i0,x0⟩:=RTFn.fm rf
 obtain ⟨Y0,c44,Z0,c50,a1,G0,rfl,a0,b0,P0,Q0,R0,j0,y0,k0,z0,l0,A0⟩:=RTE.fm y
 have p:=re
 obtain ⟨b1,H0,c1,I0,d1,c76,rfl,c0,d0,A,S0,U0,m0,B0,n0,C0,o0,D0⟩:=RTE.fm re
 refine zJ func166 ntmps166 fun Q hQ a J=>?_
 refine yG call194 (fun W w j N a J=>?_) (fun W w j N=>?_) (c:=q1z B p N)
 refine yG call83 (fun X w l N a J=>?_) (fun X w l N=>?_) (c:=yD (b:=(!F.chg)) N)
 refine qG fun f1 w N a J=>?_
 replace N:=N.nf
 have t:=N
 clear N
 obtain ⟨E,f,N,q⟩:=t.freezeRow (i:=0) rfl
 clear t
 replace k:=k.mono f
 replace y:=RTE.mono _ _ _ _ f y
 replace A:=A.mono RAtom.mono f
 replace B:=B.mono f
 replace p:=RTE.mono _ _ _ _ f p
 replace v:=RTFn.mono _ _ _ _ f v
 replace N:=N.nf
 have o:SliceOf RBoo E 1 _ ([false]):=⟨_,q,(kO [false])⟩
 obtain ⟨e1,J0,L,p0,E0⟩:=o.form (by decide)
 have u:=N
 clear N
 subst L
 have N:=u
 clear u
 replace N:=N.ar [] [2,1]
 refine yG call195 (fun Y w n N a J=>?_) (fun Y w n N=>?_) (c:=mW (s:=s) A o N)
 refine go fun a J=>?_
 replace N:=N.le (f)
 replace N:=N.ar [] [4,4,3,4,4]
 refine hQ _ _ _ (yP J results166 ?_)
 have g:=zD j
 have h:=zD l
 have m:=zD n
 first | (rw [nS r,if_pos (by simp [g,h,m])];exact ⟨rfl,N⟩) | (rw [nS r,if_pos (by simp [g,h,m] <;> omega)];exact ⟨rfl,N⟩)
 replace N:=N.le (f)
 replace N:=N.dl [2,1,0]
 have g:=zD j
 have h:=zD l
 have m:=zP n
 first | (rw [nS r,if_neg (by simp [g,h,m])];exact ⟨rfl,N⟩) | (rw [nS r,if_neg (by simp [g,h,m] <;> omega)];exact ⟨rfl,N⟩)
 replace N:=N.dl [4,3,2,1,0]
 have g:=zD j
 have h:=zP l
 first | (rw [nS r,if_neg (by simp [g,h])];exact ⟨rfl,N⟩) | (rw [nS r,if_neg (by simp [g,h] <;> omega)];exact ⟨rfl,N⟩)
 replace N:=N.dl [4,3,2,1,0]
 have g:=zP j
 first | (rw [nS r,if_neg (by simp [g])];exact ⟨rfl,N⟩) | (rw [nS r,if_neg (by simp [g] <;> omega)];exact ⟨rfl,N⟩)
theorem j2p {bb mb mk ms:Nat} {pa fa:Addr} {lv:Value} {T:Trc} {s:BS} (RP:RProg Φ pa T ms) {fd:List Value} {F:TFn} (V0:At Φ fa fd) (rf:RTFn Φ fd F) {D:Addr} {d:List Value} {e:TE} (B:At Φ D d) (re:RTE Φ d e) (r:e.kind=9) (N:Mem Φ (.blk bb (ob [.pointer (some pa),.pointer (some fa),.map (some mb),.map (some mk),lv] 199)::.mp mb (zN (xW s.list))::.mp mk (zN s.kinds)::.gs lv 125 2 (xX s.list)::.imp ms (xN s.sites)::K) w) :
  Calls prog 167 #[.pointer (some ⟨bb,0,none⟩),.pointer (some D)] w (fun ee w'=>Out (xL (qZ T F.chg e s)) (fun z=>ee=.returned (.tuple #[])/\Mem Φ (.blk bb (ob [.pointer (some pa),.pointer (some fa),.map (some mb),.map (some mk),lv] 199)::.mp mb (zN (xW z.list))::.mp mk (zN z.kinds)::.gs lv 125 2 (xX z.list)::.imp ms (xN z.sites)::K) w') (fun _=>ee=.panicked jB/\Mem Φ K w')):=by
 have v:=rf
 obtain ⟨K0,M,P,k,C,q0,r0⟩:=RP.ex
 obtain ⟨R,G,S,H,U,c23,V,I,rfl,Z,h9,L0,M0,N0,e0,s0,f0,t0,g0,u0,h0,w0⟩:=RTrc.fm C
 replace k:At Φ pa [.slice R T.cons.length G,.slice S T.inputs.length H,.slice U T.funs.length c23,.slice V T.outputs.length I,.map (some M),.map (some P),.map (some ms)]:=k
 obtain ⟨X0,c36,F0,rfl,O0,y,i0,x0⟩:=RTFn.fm rf
 obtain ⟨Y0,c44,Z0,c50,a1,G0,rfl,a0,b0,P0,Q0,R0,j0,y0,k0,z0,l0,A0⟩:=RTE.fm y
 have p:=re
 obtain ⟨b1,H0,c1,I0,d1,c76,rfl,c0,d0,A,S0,U0,m0,B0,n0,C0,o0,D0⟩:=RTE.fm re
 refine zJ func167 ntmps167 fun Q hQ a J=>?_
 refine yG call194 (fun W w j N a J=>?_) (fun W w j N=>?_) (c:=q1z B p N)
 refine yG call83 (fun X w l N a J=>?_) (fun X w l N=>?_) (c:=yD (b:=F.chg) N)
 refine qG fun f1 w N a J=>?_
 replace N:=N.nf
 have t:=N
 clear N
 obtain ⟨E,f,N,q⟩:=t.freezeRow (i:=0) rfl
 clear t
 replace k:=k.mono f
 replace y:=RTE.mono _ _ _ _ f y
 replace A:=A.mono RAtom.mono f
 replace B:=B.mono f
 replace p:=RTE.mono _ _ _ _ f p
 replace v:=RTFn.mono _ _ _ _ f v
 replace N:=N.nf
 have o:SliceOf RBoo E 1 _ ([false]):=⟨_,q,(kO [false])⟩
 obtain ⟨e1,J0,L,p0,E0⟩:=o.form (by decide)
 have u:=N
 clear N
 subst L
 have N:=u
 clear u
 replace N:=N.ar [] [2,1]
 refine yG call195 (fun Y w n N a J=>?_) (fun Y w n N=>?_) (c:=mW (s:=s) A o N)
 refine go fun a J=>?_
 replace N:=N.le (f)
 replace N:=N.ar [] [4,4,3,4,4]
 refine hQ _ _ _ (yP J results167 ?_)
 have g:=zD j
 have h:=zD l
 have m:=zD n
 first | (rw [wO r,if_pos (by simp [g,h,m])];exact ⟨rfl,N⟩) | (rw [wO r,if_pos (by simp [g,h,m] <;> omega)];exact ⟨rfl,N⟩)
 replace N:=N.le (f)
 replace N:=N.dl [2,1,0]
 have g:=zD j
 have h:=zD l
 have m:=zP n
 first | (rw [wO r,if_neg (by simp [g,h,m])];exact ⟨rfl,N⟩) | (rw [wO r,if_neg (by simp [g,h,m] <;> omega)];exact ⟨rfl,N⟩)
 replace N:=N.dl [4,3,2,1,0]
 have g:=zD j
 have h:=zP l
 first | (rw [wO r,if_neg (by simp [g,h])];exact ⟨rfl,N⟩) | (rw [wO r,if_neg (by simp [g,h] <;> omega)];exact ⟨rfl,N⟩)
 replace N:=N.dl [4,3,2,1,0]
 have g:=zP j
 first | (rw [wO r,if_neg (by simp [g])];exact ⟨rfl,N⟩) | (rw [wO r,if_neg (by simp [g] <;> omega)];exact ⟨rfl,N⟩)
theorem j6u {bb mb mk ms:Nat} {pa fa:Addr} {lv:Value} {T:Trc} {s:BS} (RP:RProg Φ pa T ms) {fd:List Value} {F:TFn} (u:At Φ fa fd) (rf:RTFn Φ fd F) {n:Addr} {d:List Value} {e:TE} (l:At Φ n d) (re:RTE Φ d e) (k:e.kind=10) (N:Mem Φ (.blk bb (ob [.pointer (some pa),.pointer (some fa),.map (some mb),.map (some mk),lv] 199)::.mp mb (zN (xW s.list))::.mp mk (zN s.kinds)::.gs lv 125 2 (xX s.list)::.imp ms (xN s.sites)::K) w) :
  Calls prog 168 #[.pointer (some ⟨bb,0,none⟩),.pointer (some n)] w (fun ee w'=>Out (xL (qZ T F.chg e s)) (fun z=>ee=.returned (.tuple #[])/\Mem Φ (.blk bb (ob [.pointer (some pa),.pointer (some fa),.map (some mb),.map (some mk),lv] 199)::.mp mb (zN (xW z.list))::.mp mk (zN z.kinds)::.gs lv 125 2 (xX z.list)::.imp ms (xN z.sites)::K) w') (fun _=>ee=.panicked jB/\Mem Φ K w')):=by
 have o:=rf
 obtain ⟨u0,v,y,i,m,d0,e0⟩:=RP.ex
 obtain ⟨A,p,B,q,C,c23,D,r,rfl,H,h9,w0,x0,y0,R,f0,S,g0,U,h0,V,i0⟩:=RTrc.fm m
 replace i:At Φ pa [.slice A T.cons.length p,.slice B T.inputs.length q,.slice C T.funs.length c23,.slice D T.outputs.length r,.map (some v),.map (some y),.map (some ms)]:=i
 obtain ⟨G0,c36,q0,rfl,z0,t,W,j0⟩:=RTFn.fm rf
 obtain ⟨H0,c44,I0,c50,J0,r0,rfl,I,L,A0,B0,C0,X,k0,Y,l0,Z,m0⟩:=RTE.fm t
 have j:=re
 obtain ⟨K0,s0,L0,t0,M0,c76,rfl,M,P,D0,E0,F0,a0,n0,b0,o0,c0,p0⟩:=RTE.fm re
 refine zJ func168 ntmps168 fun Q hQ a J=>?_
 refine yG call194 (fun E w f N a J=>?_) (fun E w f N=>?_) (c:=j4n l j N)
 replace N:=N.ar [] [2,1]
 refine yG call196 (fun G w h N a J=>?_) (fun G w h N=>?_) (c:=z7r (s:=s) (c:=F.chg) RP u o l j N)
 refine go fun a J=>?_
 replace N:=N.ar [] [4,4,3,4,4]
 refine hQ _ _ _ (yP J results168 ?_)
 have b:=zD f
 have g:=zD h
 first | (rw [cC k,if_pos (by simp [b,g])];exact ⟨rfl,N⟩) | (rw [cC k,if_pos (by simp [b,g] <;> omega)];exact ⟨rfl,N⟩)
 replace N:=N.dl [2,1,0]
 have b:=zD f
 have g:=zP h
 first | (rw [cC k,if_neg (by simp [b,g])];exact ⟨rfl,N⟩) | (rw [cC k,if_neg (by simp [b,g] <;> omega)];exact ⟨rfl,N⟩)
 replace N:=N.dl [4,3,2,1,0]
 have b:=zP f
 first | (rw [cC k,if_neg (by simp [b])];exact ⟨rfl,N⟩) | (rw [cC k,if_neg (by simp [b] <;> omega)];exact ⟨rfl,N⟩)
end
theorem j2z {Φ:Fz} {K:List Res} {w:World} {mk:Nat} {ks:List (Bs×Int)} (F:NoK ks) (N:Mem Φ (.mp mk (zN ks)::K) w) :
  Calls prog 198 #[.map (some mk)] w (fun ee w'=>∃y:Nat×List (Bs×Int),ee=.returned (.map (some y.1))/\((∀n,yC y.2 n=yC ks n)/\NoK y.2)/\Mem Φ (.mp y.1 (zN y.2)::.mp mk (zN ks)::K) w'):=by
 refine zJ func198 ntmps198 fun Q hQ a J=>?_
 refine Qq (fun a J=>?_) (o:=by exact fun J O=>x2z 0 J O rfl rfl runUnderlying98)
 refine st J rfl rfl rfl (y5u runUnderlying98 J rfl N fun A w N a J=>?_)
 replace N:=N.nf
 refine go fun a J=>?_
 refine st J rfl rfl rfl (y2v 1 runUnderlying98 J N rfl rfl fun C g f w b N a J=>?_)
 refine go fun a J=>?_
 refine qD (J.ks [3,10]) N (fun R mm a w=>∃(seen:Array Nat) (q:List (Bs×Int)),mm=(wF g seen).length/\R Φ [] [(0,.blk C (.mapIter (some mk) f seen f)),(1,.mp A (zN q))] a w/\(Copying g seen ks q)) ((wF g #[]).length) ⟨#[],[],rfl,⟨J.pk,N⟩,Copying.start⟩ ?_
 clear N J
 rintro mm a w ⟨seen,q,B,⟨J,N⟩,r⟩ E s
 replace N:=N.nf
 have l:=r
 refine go fun a J=>?_
 refine st J rfl rfl rfl (q0q 0 2 J N rfl rfl rfl b (fun t w N a J=>?_) (fun d w c N a J=>?_))
 refine go fun a J=>?_
 replace N:Mem Φ (.blk C (.mapIter (some mk) f seen f)::.mp A (zN q)::.mp mk (zN ks)::K) w:=q1u (i:=2) N rfl b
 refine yK ?_
 replace N:=N.dl [0]
 exact ⟨(A,q),rfl,⟨l.done b t,l.nok⟩,N⟩
 obtain ⟨e,D,k,u,h⟩:=y2w b (leftE_mem.1 c).1
 have m:Value.tuple #[d.key,d.val]=Value.tuple #[.string e,d.val]:=by rw [k]
 refine Qq (fun a J=>?_) (o:=by exact fun J O=>Ok.cast (j1g (i:=0) (j:=2) J O rfl rfl rfl b c) m)
 obtain ⟨p,v,z⟩:=x0g h
 rw [show d.val=.int .i64 p from u.trans v] at J
 refine uF 1 runUnderlying98 runUnderlying9 fun w N a J=>?_
 rw [wP q e p] at N
 refine go fun a J=>?_
 refine s ((wF g ((seen.push d.born))).length) _ _ (by subst B;exact z9a c) ⟨((seen.push d.born)),((qJ q e p)),rfl,⟨J.pk,N⟩,?_⟩
 exact l.next F b c k z
theorem qT {P:Program} {n:Nat} {E:List (Nat×Value)} {D:List Deferred} {a:Act} {w:World} {ty:TypeId} (i:Nat) {x ix:Operand} {t e:TypeId} {kk:IntKind} {b off len k z:Nat} (J:EnvR n E D a) (d:ev E x=some (.pointer (some ⟨b,off,none⟩)))
  (hi:ev E ix=some (.int kk (i:Int))) (c:Under P t (.array len e)) (O:SizeT P e k) (hb:i < len) (f:off+i * k=z) :
  Ok P a (.indexAddr t x ix) ty w (.pointer (some ⟨b,z,none⟩)):=fun _ _ _ _=>by
 subst f
 simp only [execOp,J.ev d,J.ev hi]
 simp [Instr.indexAt,Instr.sureAddr,asIntOf,Sem.run_bind,c w,O w,Result.andThen,hb,Addr.add]
theorem At.part {Φ:Fz} {p:Addr} {l ds:List Value} (h:At Φ p (l++ds)):At Φ (p.add l.length) ds:=h.sub fun j v a=>by
 rw [List.getElem?_append_right (by omega),Nat.add_sub_cancel_left];exact a
theorem At.part2 {Φ:Fz} {p:Addr} {a b:Value} {ds:List Value} (h:At Φ p (a::b::ds)):At Φ (p.add 2) ds:=At.part (l:=[a,b]) h
theorem At.part3 {Φ:Fz} {p:Addr} {a b c:Value} {ds:List Value} (h:At Φ p (a::b::c::ds)):At Φ (p.add 3) ds:=At.part (l:=[a,b,c]) h
theorem gW {s z:BS} {n:Bs} {m:Bool} (h:s.bind n m=some z):z.sites=s.sites:=by
 rw [BS.bind] at h
 split at h
 ·cases h;rfl
 ·cases h
theorem z1k {s z:BS} {n:Bs} {m:Bool} (h:s.bind n m=some z) (a:NoK s.kinds):NoK z.kinds:=by
 rw [BS.bind] at h
 split at h
 ·cases h;exact a.put _ _
 ·cases h
theorem y9y {s:BS} {vs:List Bs} {ms:List Bool} {k:Nat} {v:Bs} {m:Bool} (a:vs[k]? = some v) (b:ms[k]? = some m):s.binds (vs.drop k) (ms.drop k)=(s.bind v m).bind fun s=>s.binds (vs.drop (k+1)) (ms.drop (k+1)):=by
 rw [yI a,yI b,BS.binds]
theorem j2g {s:BS} {vs:List Bs} {ms:List Bool} {k:Nat} (h:¬k < vs.length):s.binds (vs.drop k) (ms.drop k)=some s:=by rw [qE h,BS.binds]
section
variable {T:Trc} {c:Bool} {first:Nat} {o:List (Bs×Int)} {l:List TA} {i:Nat} {s sk y z:BS} {a:TA} {d:TCon} {A:Option BS}
theorem y5l (e:l[i]? = some a) (f:T.cons[first+i]? = some d):armsT T c first o i (l.drop i) s=if uH T first i a then ((⟨s.list,o,s.sites⟩:BS).binds a.vars d.fields).bind fun s=>(jL T c a.body s).bind (armsT T c first o (i+1) (l.drop (i+1))) else none:=by
 rw [yI e]
 cases a with
 | mk n vs b=>rw [armsT,f];rfl
theorem j1w (e:OEqv A (armsT T c first o i (l.drop i) s)) (f:l[i]? = some a) (b:uH T first i a=true) (g:T.cons[first+i]? = some d) (hb:OEqv ((⟨s.list,o,s.sites⟩:BS).binds a.vars d.fields) (some sk)) (J:jL T c a.body sk=some z) (j:y.Eqv z):OEqv A (armsT T c first o (i+1) (l.drop (i+1)) y):=by
 rw [y5l f g,if_pos b] at e
 refine e.trans ((hb.bind fun p q h=>(BS.Eqv.expr T c a.body h).bind fun _ _ h=>BS.Eqv.arms T c first (i+1) (l.drop (i+1)) (fun _=>rfl) h).trans ?_)
 rw [Option.bind_some,J,Option.bind_some]
 exact BS.Eqv.arms T c first (i+1) _ (fun _=>rfl) j.symm
theorem z6l (d:OEqv A (armsT T c first o i (l.drop i) s)) (f:l[i]? = some a) (e:uH T first i a=false):OEqv A none:=by
 rw [yI f] at d
 cases a with
 | mk n vs b=>rw [armsT,if_neg (by rw [e];decide)] at d;exact d
theorem j6e (b:OEqv A (armsT T c first o i (l.drop i) s)) (e:l[i]? = some a) (f:T.cons[first+i]? = some d) (hb:OEqv ((⟨s.list,o,s.sites⟩:BS).binds a.vars d.fields) none):OEqv A none:=by
 rw [y5l e f] at b
 refine b.trans ?_
 split
 ·rw [hb.none_iff.2 rfl];exact trivial
 ·exact trivial
theorem j6f (b:OEqv A (armsT T c first o i (l.drop i) s)) (e:l[i]? = some a) (f:T.cons[first+i]? = some d) (hb:OEqv ((⟨s.list,o,s.sites⟩:BS).binds a.vars d.fields) (some sk)) (J:jL T c a.body sk=none):OEqv A none:=by
 rw [y5l e f] at b
 refine b.trans ?_
 split
 ·refine (hb.bind fun p q h=>(BS.Eqv.expr T c a.body h).bind fun _ _ h=>BS.Eqv.arms T c first (i+1) (l.drop (i+1)) (fun _=>rfl) h).trans ?_
  rw [Option.bind_some,J];exact trivial
 ·exact trivial
theorem z1i (a:OEqv A (armsT T c first o i (l.drop i) s)) (h:¬i < l.length):OEqv A (some s):=by
 rw [qE h,armsT] at a;exact a
theorem z7u {B:Option BS} {vs:List Bs} {ms:List Bool} {k:Nat} {v:Bs} {m:Bool} (a:OEqv B (s.binds (vs.drop k) (ms.drop k))) (b:vs[k]? = some v) (c:ms[k]? = some m) (h:s.bind v m=some z):OEqv B (z.binds (vs.drop (k+1)) (ms.drop (k+1))):=by
 rw [y9y b c,h,Option.bind_some] at a;exact a
theorem y9z {B:Option BS} {vs:List Bs} {ms:List Bool} {k:Nat} {v:Bs} {m:Bool} (a:OEqv B (s.binds (vs.drop k) (ms.drop k))) (b:vs[k]? = some v) (c:ms[k]? = some m) (h:s.bind v m=none):OEqv B none:=by
 rw [y9y b c,h] at a;exact a
theorem y2q {B:Option BS} {vs:List Bs} {ms:List Bool} {k:Nat} (a:OEqv B (s.binds (vs.drop k) (ms.drop k))) (h:¬k < vs.length):OEqv B (some s):=by
 rw [j2g h] at a;exact a
theorem q0a {q:List (Bs×Int)} (h:∀n,yC q n=yC o n) (vs:List Bs) (ms:List Bool):OEqv ((⟨s.list,o,s.sites⟩:BS).binds vs ms) ((⟨s.list,q,s.sites⟩:BS).binds (vs.drop 0) (ms.drop 0)) :=
 BS.Eqv.binds vs ms ⟨rfl,rfl,fun n=>(h n).symm⟩
end
theorem z1h {T:Trc} {first i:Nat} {a:TA} {c d:TCon} (b:T.cons[first]? = some c) (e:T.cons[first+i]? = some d):uH T first i a=(decide (d.name=a.con)&&decide (d.type=c.type)&&decide (a.vars.length=d.fields.length)):=by
 unfold uH;simp only [b,e]
theorem q4t {T:Trc} {first i:Nat} {a:TA} (h:¬first+i < T.cons.length):uH T first i a=false:=by
 have b:T.cons[first+i]? = none:=List.getElem?_eq_none (Nat.le_of_not_lt h)
 unfold uH;rw [b];split
 ·rename_i h;cases h
 ·rfl
theorem wK (T:Trc) (f n:Nat):xE T f n=((decide (f=0) || (match T.cons[f - 1]?,T.cons[f]? with | some c,some d=> !decide (c.type=d.type) | _,_=>false)) &&
  (decide (f+n=T.cons.length) || (match T.cons[f]?,T.cons[f+n]? with | some c,some d=> !decide (d.type=c.type) | _,_=>false))):=by
 cases f <;> rfl
section
variable {T:Trc} {c:Bool} {e:TE} {s:BS} {a:Atom} {b:TA} {j:Nat}
theorem j2r (h:zB e false false false false true true false=false):jH T c e s=none:=by rw [jH,h];rfl
theorem j2s (h:s.atomL e.args [false]=false):jH T c e s=none:=by rw [jH,h,Bool.and_false];rfl
theorem q5j {g:Bool} {args:List Atom} {arms:List TA} (b:args[0]? = some a) (h:a.name=sNo):dP T c s g args arms=none:=by
 cases g with
 | false=>rfl
 | true=>cases args with
  | nil=>rfl
  | cons x l=>cases b;cases arms with
   | nil=>rfl
   | cons y r=>cases y;rw [dP,if_pos h]
theorem j2t (b:e.args[0]? = some a) (h:a.name=sNo):jH T c e s=none:=q5j b h
theorem q5k {g:Bool} {args:List Atom} {arms:List TA} (h:¬0 < arms.length):dP T c s g args arms=none:=by
 cases arms with
 | nil=>cases g <;> cases args <;> rfl
 | cons y r=>simp at h
theorem j2u (h:¬0 < e.arms.length):jH T c e s=none:=q5k h
theorem q5l {g:Bool} {args:List Atom} {arms:List TA} (hb:arms[0]? = some b) (h:T.cons.findIdx? (fun c=>decide (c.name=b.con))=none):dP T c s g args arms=none:=by
 cases g with
 | false=>rfl
 | true=>cases args with
  | nil=>rfl
  | cons x l=>cases arms with
   | nil=>rfl
   | cons y r=>
    cases y;cases hb
    have h':oT T _=none:=h
    dsimp only [TA.con] at h'
    rw [dP,h']
    split <;> rfl
theorem j2v (hb:e.arms[0]? = some b) (h:T.cons.findIdx? (fun c=>decide (c.name=b.con))=none):jH T c e s=none:=q5l hb h
theorem j2q {args:List Atom} {arms:List TA} (d:args[0]? = some a) (e:¬a.name=sNo) (hb:arms[0]? = some b) (h:T.cons.findIdx? (fun c=>decide (c.name=b.con))=some j) :
  dP T c s true args arms=(armsT T c j s.kinds 0 (arms.drop 0) s).bind fun f=>if xE T j arms.length then some { f with kinds:=s.kinds } else none:=by
 cases args with
 | nil=>cases d
 | cons x l=>cases d;cases arms with
  | nil=>cases hb
  | cons y r=>
   cases y;cases hb
   have h':oT T _=some j:=h
   dsimp only [TA.con] at h'
   rw [dP,if_neg e,h'];rfl
theorem j6y (d:zB e false false false false true true false=true) (f:s.atomL e.args [false]=true) (g:e.args[0]? = some a) (i:¬a.name=sNo) (hb:e.arms[0]? = some b) (h:T.cons.findIdx? (fun c=>decide (c.name=b.con))=some j) :
  jH T c e s=(armsT T c j s.kinds 0 (e.arms.drop 0) s).bind fun k=>if xE T j e.arms.length then some { k with kinds:=s.kinds } else none:=by
 rw [jH,d,f];exact j2q g i hb h
theorem mY (h:jH T c e s=(armsT T c j s.kinds 0 (e.arms.drop 0) s).bind fun b=>if xE T j e.arms.length then some { b with kinds:=s.kinds } else none) (a:OEqv (armsT T c j s.kinds 0 (e.arms.drop 0) s) none):jH T c e s=none:=by
 rw [h,a.none_iff.2 rfl];rfl
theorem gY {z:BS} (h:jH T c e s=(armsT T c j s.kinds 0 (e.arms.drop 0) s).bind fun d=>if xE T j e.arms.length then some { d with kinds:=s.kinds } else none) (a:OEqv (armsT T c j s.kinds 0 (e.arms.drop 0) s) (some z)) (b:xE T j e.arms.length=true):∃y,jH T c e s=some y/\(⟨z.list,s.kinds,z.sites⟩:BS).Eqv y:=by
 rw [h]
 cases hq:armsT T c j s.kinds 0 (e.arms.drop 0) s with
 | none=>rw [hq] at a;exact a.elim
 | some y=>rw [hq] at a;exact ⟨{ y with kinds:=s.kinds },by rw [Option.bind_some,if_pos b],⟨a.1.symm,a.2.symm,fun _=>rfl⟩⟩
theorem z3o (h:jH T c e s=(armsT T c j s.kinds 0 (e.arms.drop 0) s).bind fun b=>if xE T j e.arms.length then some { b with kinds:=s.kinds } else none) (a:xE T j e.arms.length=false):jH T c e s=none:=by
 rw [h,a];cases armsT T c j s.kinds 0 (e.arms.drop 0) s <;> rfl
end
def eOk (m:Nat) (o:Oper):Bool:=o.after.toList.all fun e=>bif m.testBit e.on then true else !Region.binds .any e
def q0x (ops:Array Oper) (oi:Oper) (i m:Nat):Nat->List Oper->Bool
 | _,[]=>true
 | j,o::r=>(bif m.testBit j then true else bif Nat.beq j i then true else bif o.after.toList.any (fun e=>Region.binds .any e&&Nat.beq e.on i) then true else oi.apart ops o)&&q0x ops oi i m (j+1) r
def z7d (i m:Nat):Nat->List Oper->Bool
 | _,[]=>true
 | j,o::r=>(bif m.testBit j then true else bif Nat.beq j i then true else o.after.toList.any (fun e=>Region.binds .any e && !m.testBit e.on))&&z7d i m (j+1) r
def z5e (ops:Array Oper) (l:List Oper) (kd:List Nat):Plan->Nat->Bool
 | .done,m=>Nat.beq m (2 ^ l.length - 1)
 | .q i p,m=>match l[i]? with
  | some o=> !m.testBit i&&eOk m o&&q0x ops o i m 0 l&&yR kd i != 0&&z5e ops l kd p (m ||| (1 <<< i))
  | none=>false
 | .e i p,m=>match l[i]? with
  | some o=> !m.testBit i&&eOk m o&&z7d i m 0 l&&yR kd i==0&&z5e ops l kd p (m ||| (1 <<< i))
  | none=>false
 | .e2 _ _ _ _,_=>false
structure Bits (n:Nat) (l:Array Bool) (m:Nat):Prop where
 size:l.size=n
 bit:∀i,i < n->l[i]? = some (m.testBit i)
 hi:∀i,n<=i->m.testBit i=false
theorem Bits.getD {n:Nat} {l:Array Bool} {m i:Nat} (h:Bits n l m) (b:Bool) (hi:i < n):l.getD i b=m.testBit i:=by
 have a:=h.bit i hi
 have c:i < l.size:=by rw [h.size];exact hi
 simp [Array.getD,c]
 rw [Array.getElem?_eq_getElem c] at a
 exact Option.some.inj a
theorem Bits.getD_hi {n:Nat} {l:Array Bool} {m i:Nat} (h:Bits n l m) (b:Bool) (hi:¬i < n):l.getD i b=b:=by
 have a:¬i < l.size:=by rw [h.size];exact hi
 simp [Array.getD,a]
theorem Bits.set {n:Nat} {l:Array Bool} {m i:Nat} (h:Bits n l m) (hi:i < n):Bits n (l.setIfInBounds i true) (m ||| (1 <<< i)):=by
 refine ⟨by simp [h.size],fun j a=>?_,fun j a=>?_⟩
 ·by_cases e:i=j
  ·subst e
   rw [Array.getElem?_setIfInBounds_self_of_lt (by rw [h.size];exact hi)]
   simp [Nat.testBit_or,Nat.testBit_shiftLeft]
  ·rw [Array.getElem?_setIfInBounds_ne e,h.bit j a]
   congr 1
   rw [Nat.testBit_or,Nat.testBit_shiftLeft]
   by_cases q:i<=j
   ·have:(1:Nat).testBit (j - i)=false:=by
     cases b:j - i with
     | zero=>omega
     | succ k=>simp [Nat.testBit_succ]
    simp [this]
   ·simp [q]
 ·rw [Nat.testBit_or,Nat.testBit_shiftLeft,h.hi j a]
  have:(1:Nat).testBit (j - i)=false:=by
   cases b:j - i with
   | zero=>omega
   | succ k=>simp [Nat.testBit_succ]
  simp [this]
theorem z8m {ops:Array Oper} {oi:Oper} {i m:Nat}:∀{r:List Oper} {s:Nat},q0x ops oi i m s r=true->∀k o,r[k]? = some o->m.testBit (s+k)=false->s+k≠i->(∀e∈o.after,Region.binds .any e=true->e.on≠i)->oi.apart ops o=true
 | [],_,_,k,o,h,_,_,_=>by simp at h
 | x::r,s,h,0,o,c,N,b,a=>by
  simp only [List.getElem?_cons_zero,Option.some.injEq] at c
  subst c
  rw [q0x,Nat.add_zero] at *
  simp only [baQ] at h
  have d:=h.1
  rw [N,cond_false,show Nat.beq s i=false from Bool.eq_false_iff.2 fun h=>b (Nat.eq_of_beq_eq_true h),cond_false] at d
  have:x.after.toList.any (fun e=>Region.binds .any e&&Nat.beq e.on i)=false:=by
   rw [List.any_eq_false]
   intro e J
   rw [Array.mem_toList_iff] at J
   have:=a e J
   intro f
   simp only [baQ] at f
   exact this f.1 (Nat.eq_of_beq_eq_true f.2)
  rw [this,cond_false] at d
  exact d
 | x::r,s,h,k+1,o,c,N,b,a=>by
  rw [q0x] at h
  simp only [baQ] at h
  exact z8m h.2 k o (by simpa using c) (by rw [<- N];congr 1;omega) (by omega) a
theorem z4s {i m:Nat}:∀{r:List Oper} {s:Nat},z7d i m s r=true->∀k o,r[k]? = some o->m.testBit (s+k)=false->s+k≠i->∃e∈o.after,Region.binds .any e=true/\m.testBit e.on=false
 | [],_,_,k,o,h,_,_=>by simp at h
 | x::r,s,h,0,o,b,N,a=>by
  simp only [List.getElem?_cons_zero,Option.some.injEq] at b
  subst b
  rw [z7d,Nat.add_zero] at *
  simp only [baQ] at h
  have c:=h.1
  rw [N,cond_false,show Nat.beq s i=false from Bool.eq_false_iff.2 fun h=>a (Nat.eq_of_beq_eq_true h),cond_false] at c
  obtain ⟨e,J,d⟩:=List.any_eq_true.1 c
  simp only [baQ,Bool.not_eq_true'] at d
  exact ⟨e,Array.mem_toList_iff.1 J,d⟩
 | x::r,s,h,k+1,o,b,N,a=>by
  rw [z7d] at h
  simp only [baQ] at h
  exact z4s h.2 k o (by simpa using b) (by rw [<- N];congr 1;omega) (by omega)
theorem q0o {m n:Nat} {l:Array Bool} {o:Oper} (hb:Bits n l m) (h:eOk m o=true):∀e∈o.after,Region.binds .any e=true->l.getD e.on false=true:=fun e J hq=>by
 have a:=List.all_eq_true.1 h e (Array.mem_toList_iff.2 J)
 have a:m.testBit e.on=true:=by
  rw [hq] at a
  cases c:m.testBit e.on with
  | true=>rfl
  | false=>rw [c] at a;cases a
 by_cases b:e.on < n
 ·rw [hb.getD false b];exact a
 ·rw [hb.hi _ (Nat.le_of_not_lt b)] at a;cases a
section
variable {P:Program} {ops:Array Oper} {B:World->Prop} {kd:List Nat} {Qp:List PanicEntry->World->Prop} {D:List Deferred}
theorem nK {Q:Act->World->Prop} {l:List Oper} (hl:ops=l.toArray) (O:Region.noSelect ops=true):∀(p:Plan) (listed:Array Bool) (m:Nat) (a:Act) (w:World),Bits ops.size listed m->z5e ops l kd p m=true ->
  zU P .any ops B kd Qp Q p a w->z6j P .any ops B kd Qp Q p.len listed a w
 | .done,L,m,a,w,hb,c,h=>by
  refine ⟨?_,h⟩
  simp only [z5e] at c
  have N:m=2 ^ l.length - 1:=by simpa using c
  rw [List.eq_nil_iff_forall_not_mem]
  intro j r
  obtain ⟨n,o,k,_⟩:=mem_ready.1 r
  have b:j < ops.size:=(Array.getElem?_eq_some_iff.1 k).1
  rw [hb.getD true b,N,Nat.testBit_two_pow_sub_one] at n
  simp only [decide_eq_false_iff_not] at n
  exact n (by rw [hl] at b;simpa using b)
 | .q i p,L,m,a,w,hb,c,h=>by
  simp only [z5e] at c
  cases d:l[i]? with
  | none=>rw [d] at c;cases c
  | some o=>
   rw [d] at c
   simp only [baQ,Bool.not_eq_true',bne_iff_ne,ne_eq] at c
   obtain ⟨⟨⟨⟨n,y⟩,F⟩,D⟩,c⟩:=c
   have k:ops[i]? = some o:=by rw [hl];simpa using d
   have b:i < ops.size:=(Array.getElem?_eq_some_iff.1 k).1
   have A:i∈Region.ready .any ops L:=mem_ready.2 ⟨by rw [hb.getD true b];exact n,o,k,q0o hb y⟩
   have f:∀j oj,ops[j]? = some oj->j≠i->L.getD j true=false->(∀e∈oj.after,Region.binds .any e=true->e.on≠i)->o.apart ops oj=true:=fun j oj r t g K=>by
    have hj':l[j]? = some oj:=by rw [hl] at r;simpa using r
    have s:j < ops.size:=(Array.getElem?_eq_some_iff.1 r).1
    rw [hb.getD true s] at g
    exact z8m F j oj hj' (by rw [Nat.zero_add];exact g) (by rw [Nat.zero_add];exact t) K
   unfold zU vM at h
   simp only [k] at h
   by_cases E:Region.wanted o (yielded ops a.tmps)=true
   ·rw [if_pos E,if_neg D] at h
    obtain ⟨v,n,y⟩:=h
    exact nG k (Region.noSelect_spec O) D _ _ _ _ f A (.inl ⟨E,n⟩) (nK hl O p _ _ _ _ (hb.set b) c y)
   ·rw [if_neg E] at h
    exact nG k (Region.noSelect_spec O) D _ _ _ _ f A (.inr ⟨by simpa using E,rfl⟩) (nK hl O p _ _ _ _ (hb.set b) c h)
 | .e i p,L,m,a,w,hb,c,h=>by
  simp only [z5e] at c
  cases d:l[i]? with
  | none=>rw [d] at c;cases c
  | some o=>
   rw [d] at c
   simp only [baQ,Bool.not_eq_true',beq_iff_eq] at c
   obtain ⟨⟨⟨⟨n,y⟩,F⟩,D⟩,c⟩:=c
   have k:ops[i]? = some o:=by rw [hl];simpa using d
   have b:i < ops.size:=(Array.getElem?_eq_some_iff.1 k).1
   have A:i∈Region.ready .any ops L:=mem_ready.2 ⟨by rw [hb.getD true b];exact n,o,k,q0o hb y⟩
   simp only [Plan.len,z6j]
   refine ⟨fun M=>(by rw [M] at A;cases A),fun j r=>?_⟩
   have H:j=i:=by
    refine Decidable.byContradiction fun t=>?_
    obtain ⟨g,oj,u,z⟩:=mem_ready.1 r
    have s:j < ops.size:=(Array.getElem?_eq_some_iff.1 u).1
    rw [hb.getD true s] at g
    have hj':l[j]? = some oj:=by rw [hl] at u;simpa using u
    obtain ⟨e,J,G,I⟩:=z4s F j oj hj' (by rw [Nat.zero_add];exact g) (by rw [Nat.zero_add];exact t)
    have C:=z e J G
    by_cases b:e.on < ops.size
    ·rw [hb.getD false b,I] at C;cases C
    ·rw [hb.getD_hi false b] at C;cases C
   subst H
   exact kG (fun a' w' _ R=>nK hl O p _ _ _ _ (hb.set b) c R) h
 | .e2 _ _ _ _,_,_,_,_,_,c,_=>by simp [z5e] at c
def planG (l:List Oper) (kd:List Nat) (p:Plan):Bool:=Region.noSelect l.toArray&&Nat.beq p.len l.length&&z5e l.toArray l kd p 0
theorem z6k {id:Nat} {l:List Oper} {Q:Exit->Act->World->Prop} {a:Act} {w:World} (kd:List Nat) (p:Plan) (B:World->Prop) (Qp:List PanicEntry->World->Prop)
  (N:P.follows .mixedOrders=true) (d:planG l kd p=true) (f:∀c a w,a.defers=D->Qp c w->Q (.panic c) a w) (e:a.defers=D) (g:B { w with drawn:=w.drawn+1 })
  (h:zU P .any l.toArray B kd Qp (Q .normal) p a { w with drawn:=w.drawn+1 }):(Code.region id l.toArray true).wp P Q a w:=by
 simp only [planG,baQ] at d
 obtain ⟨⟨O,hl⟩,b⟩:=d
 replace hl:=Nat.eq_of_beq_eq_true hl
 refine (wpIn_wide (n:=3)).1 (wpIn_region_any N (kI (r:=none) (Inv:=fun a=>a.defers=D) (kd:=kd) (B:=B) (Qp:=Qp) (Q:=Q .normal) (fun h=>absurd rfl h) (fun i o a v _ J=>by cases j:o.dst <;> exact J) (fun _ _ h=>h) (fun c a w J h=>f c a w J h) _ _ _ _ e (fun _=>g) ?_))
 have:=nK rfl O p (Array.replicate l.toArray.size false) 0 a { w with drawn:=w.drawn+1 } ⟨by simp,fun i hi=>by simp at hi;simp [hi],fun i _=>by simp⟩ b h
 rw [hl] at this
 simpa using this
end
theorem jF {P:Program} {n:Nat} {E:List (Nat×Value)} {D:List Deferred} {a:Act} {Φ:Fz} {K:List Res} {w:World} {id:Nat} {l:List Oper} {Q:Exit->Act->World->Prop} (kd:List Nat) (p:Plan) (K':List Res) (J:EnvR n E D a) (N:Mem Φ K w) (g:P.follows .mixedOrders=true) (b:planG l kd p=true) (d:∀r∈K',r∈K)
  (h:∀w,Mem Φ K w->zU P .any l.toArray (Sees Φ K') kd (fun c w=>∀a,a.defers=D->Q (.panic c) a w) (Q .normal) p a w):(Code.region id l.toArray true).wp P Q a w:=by
 have hm':=N.drew
 exact z6k (D:=D) kd p (Sees Φ K') (fun c w=>∀a,a.defers=D->Q (.panic c) a w) g b (fun c a w e h=>h a e) J.defs ⟨hm'.fz,fun r f=>hm'.own r (d r f)⟩ (h _ hm')
def y2g (T:Trc) (e:TE):Prop:=∀{Φ:Fz} {K:List Res} {w:World} {bb mb mk ms:Nat} {pa fa a:Addr} {lv:Value} {s:BS} {fd d:List Value} {F:TFn},RProg Φ pa T ms->At Φ fa fd->RTFn Φ fd F->At Φ a d->RTE Φ d e->Glob Φ->NoK s.kinds->Mem Φ (.blk bb (ob [.pointer (some pa),.pointer (some fa),.map (some mb),.map (some mk),lv] 199)::.mp mb (zN (xW s.list))::.mp mk (zN s.kinds)::.gs lv 125 2 (xX s.list)::.imp ms (xN s.sites)::K) w ->
  Calls prog 128 #[.pointer (some ⟨bb,0,none⟩),.pointer (some a)] w (fun ee w'=>Out (xL (jL T F.chg e s)) (fun z=>∃y:Value×BS,ee=.returned (.tuple #[])/\(y.2.Eqv z/\NoK y.2.kinds)/\Mem Φ (.blk bb (ob [.pointer (some pa),.pointer (some fa),.map (some mb),.map (some mk),y.1] 199)::.mp mb (zN (xW y.2.list))::.mp mk (zN y.2.kinds)::.gs y.1 125 2 (xX y.2.list)::.imp ms (xN y.2.sites)::K) w') (fun _=>ee=.panicked jB/\Mem Φ K w'))
theorem j2d {Φ:Fz} {K:List Res} {w:World} {bb mb mk ms:Nat} {pa fa:Addr} {lv:Value} {T:Trc} {s:BS} (RP:RProg Φ pa T ms) {fd:List Value} {F:TFn} (g1:At Φ fa fd) (rf:RTFn Φ fd F) {J1:Addr} {d:List Value} {e:TE} (d1:At Φ J1 d) (re:RTE Φ d e) (hk:e.kind=7) (hx:∀a∈e.arms,y2g T a.body) (G:Glob Φ) (hn:NoK s.kinds) (N:Mem Φ (.blk bb (ob [.pointer (some pa),.pointer (some fa),.map (some mb),.map (some mk),lv] 199)::.mp mb (zN (xW s.list))::.mp mk (zN s.kinds)::.gs lv 125 2 (xX s.list)::.imp ms (xN s.sites)::K) w) :
  Calls prog 165 #[.pointer (some ⟨bb,0,none⟩),.pointer (some J1)] w (fun ee w'=>Out (xL (jH T F.chg e s)) (fun z=>∃y:Value×BS,ee=.returned (.tuple #[])/\(y.2.Eqv z/\NoK y.2.kinds)/\Mem Φ (.blk bb (ob [.pointer (some pa),.pointer (some fa),.map (some mb),.map (some mk),y.1] 199)::.mp mb (zN (xW y.2.list))::.mp mk (zN y.2.kinds)::.gs y.1 125 2 (xX y.2.list)::.imp ms (xN y.2.sites)::K) w') (fun _=>ee=.panicked jB/\Mem Φ K w')):=by
 have C0:=rf
 obtain ⟨k5,o3,p3,j0,H1,k0,y4⟩:=RP.ex
 obtain ⟨q3,U1,r3,V1,s3,c23,t3,W1,rfl,f4,h9,l5,m5,n5,m4,s0,n4,z4,o4,A4,p4,B4⟩:=RTrc.fm H1
 replace j0:At Φ pa [.slice q3 T.cons.length U1,.slice r3 T.inputs.length V1,.slice s3 T.funs.length c23,.slice t3 T.outputs.length W1,.map (some o3),.map (some p3),.map (some ms)]:=j0
 obtain ⟨u5,c36,f5,rfl,o5,Y0,q4,C4⟩:=RTFn.fm rf
 obtain ⟨v5,c44,w5,c50,x5,g5,rfl,g4,h4,p5,q5,r5,r4,D4,s4,E4,t4,F4⟩:=RTE.fm Y0
 have B0:=re
 obtain ⟨y5,h5,z5,i5,A5,c76,rfl,i4,j4,F0,G0,s5,u4,E1,v4,F1,w4,G4⟩:=RTE.fm re
 refine zJ func165 ntmps165 fun Q hQ a J=>?_
 refine yG call194 (fun u3 w t0 N a J=>?_) (fun u3 w t0 N=>?_) (c:=q6w d1 B0 N)
 refine qG fun v85 w N a J=>?_
 replace N:=N.nf
 have N0:=N
 clear N
 obtain ⟨m0,f,N,I0⟩:=N0.freezeRow (i:=0) rfl
 clear N0
 replace h9:=h9.mono RTCon.mono f
 replace RP:=RP.mono f
 replace j0:=j0.mono f
 replace k0:=k0.mono f
 replace Y0:=RTE.mono _ _ _ _ f Y0
 replace g1:=g1.mono f
 replace F0:=F0.mono RAtom.mono f
 replace G0:=G0.mono RTA.mono f
 replace d1:=d1.mono f
 replace B0:=RTE.mono _ _ _ _ f B0
 replace C0:=RTFn.mono _ _ _ _ f C0
 replace G:=G.mono f
 replace N:=N.nf
 have u0:SliceOf RBoo m0 1 _ ([false]):=⟨_,I0,(kO [false])⟩
 obtain ⟨B5,j5,n3,x4,H4⟩:=u0.form (by decide)
 have O0:=N
 clear N
 subst n3
 have N:=O0
 clear O0
 replace N:=N.ar [] [2,1]
 refine yG call195 (fun v3 w l0 N a J=>?_) (fun v3 w l0 N=>?_) (c:=mW (s:=s) F0 u0 N)
 have C1:0 < e.args.length:=by rw [xF (zD l0)];decide
 refine go fun a J=>?_
 obtain ⟨C5,rfl,x3,w0,X1,y2,i2,l1⟩:=F0.el E1 C1
 obtain ⟨rfl,t2⟩:=id l1
 by_cases J0:x3.name=(⟨#[]⟩:Bs)
 refine qC call83 (fun w N=>?_) (c:=zI N)
 replace N:=N.le (f)
 replace N:=N.dl [4,3,2,1,0]
 rw [show jH T F.chg e s=none from j2t w0 J0];exact ⟨rfl,N⟩
 refine Qq (fun a J=>?_) (o:=by exact fun J O=>y_gtrN (i:=e.arms.length) (j:=0) J rfl rfl)
 refine yG call83 (fun K1 w b0 N a J=>?_) (fun K1 w b0 N=>?_) (c:=yD (b:=(decide (0 < e.arms.length))) N)
 refine go fun a J=>?_
 refine jF [1,1,1,2,1,1,2,1,1,1,2,1,1,2,2,1,1,1,1,1] (.q 0 (.q 1 (.q 2 (.q 3 (.q 4 (.q 5 (.q 6 (.q 7 (.q 8 (.q 9 (.q 10 (.q 11 (.q 12 (.q 13 (.q 14 (.q 15 (.q 16 (.q 17 (.q 18 (.q 19 (.done))))))))))))))))))))) [.blk bb (ob [.pointer (some pa),.pointer (some fa),.map (some mb),.map (some mk),lv] 199),.mp mk (zN s.kinds),.mp mb (zN (xW s.list)),.gs (lv) 125 2 (xX s.list),.imp ms (xN s.sites)] J N mixed (by kernel_rfl) (by simp) fun w N=>?_
 have e1:0 < e.arms.length:=of_decide_eq_true (zD b0)
 refine go fun a J=>?_
 obtain ⟨Y4,rfl,D0,x0,Y1,z2,j2,m1⟩:=G0.el F1 e1
 obtain ⟨J4,D3,B3,rfl,R3,z1,K2,Z2⟩:=RTA.fm m1
 obtain ⟨K4,E3,L4,F3,M4,G3,rfl,u2,v2,S3,T3,U3,L2,a3,M2,b3,N2,d3⟩:=RTE.fm z1
 refine go fun a J=>?_
 rcases P:jJ ((zN (mT T))) D0.con with _ | w3
 have S:=congrArg (zZ true (.int .i64 ((0:Nat):Int))) P
 refine Qq (fun a J=>?_) (o:=by exact fun J O=>Ok.cast (yT runUnderlying98 runUnderlying9 zeroValue3 J O rfl rfl k0) (show zZ true (.int .i64 ((0:Nat):Int)) (jJ ((zN (mT T))) D0.con)=.tuple #[.int .i64 ((0:Nat):Int),.bool false] from S))
 refine qC call83 (fun w N=>?_) (c:=zI N)
 replace N:=N.le (f)
 replace N:=N.dl [4,3,2,1,0]
 rw [show jH T F.chg e s=none from j2v x0 (gG (vQ P))];exact ⟨rfl,N⟩
 obtain ⟨e5,x1,rfl⟩:=pW P
 obtain ⟨h,rfl,h1,l⟩:=gH x1
 have S:=congrArg (zZ true (.int .i64 ((0:Nat):Int))) P
 refine Qq (fun a J=>?_) (o:=by exact fun J O=>Ok.cast (yT runUnderlying98 runUnderlying9 zeroValue3 J O rfl rfl k0) (show zZ true (.int .i64 ((0:Nat):Int)) (jJ ((zN (mT T))) D0.con)=.tuple #[.int .i64 h,.bool true] from S))
 refine zF call83 (fun w N a J=>?_) (c:=pL N)
 have g:=j6y (T:=T) (c:=F.chg) (e:=e) (s:=s) (zD t0) (zD l0) w0 J0 x0 h1
 refine go fun a J=>?_
 refine qD (J.ks [0,1,4,6,66]) N (fun R mm a w=>∃(i:Nat) (si:BS) (A:Value) (kv:Value),mm=e.arms.length - i/\R m0 [(67,.int .i64 i)] [(0,.blk bb (ob [.pointer (some pa),.pointer (some fa),.map (some mb),kv,A] 199)),(2,.mp mb (zN (xW si.list))),(3,.gs (A) 125 2 (xX si.list)),(4,.imp ms (xN si.sites))] a w/\(OEqv (armsT T F.chg h s.kinds 0 (e.arms.drop 0) s) (armsT T F.chg h s.kinds i (e.arms.drop i) si)/\i<=e.arms.length/\h+i<=T.cons.length)) (e.arms.length - 0) ⟨0,s,lv,.map (some mk),rfl,⟨J.pk,N⟩,⟨.refl _,Nat.zero_le _,Nat.le_of_lt l⟩⟩ ?_
 clear N J
 rintro mm a w ⟨i,si,A,kv,i1,⟨J,N⟩,k⟩ z3 a1
 replace N:=N.nf
 by_cases Y:i < e.arms.length
 refine go fun a J=>?_
 obtain ⟨r,p⟩:=zW Y
 obtain ⟨Z1,A2,c1,n1⟩:=G0.elem p
 obtain ⟨N4,H3,C3,rfl,A1,K0,O2,j1⟩:=RTA.fm n1
 obtain ⟨O4,I3,P4,J3,Q4,K3,rfl,w2,x2,V3,W3,X3,P2,e3,Q2,f3,R2,g3⟩:=RTE.fm K0
 refine go fun a J=>?_
 refine jF [1,1,1,1,1,1,2,1,1,1,2,1,1,1,1,1,1,2,1,1,1,2,1,1,1,1,1,2,1,1,1,2,1,1,1,1,1,1,2,1,1,1,2,1,1,1,1,1,2,1,1,1,2,1,1,1,2,1,1,1,2,1,1,1,1,1,1,2,1,1,1,1,2,1,1,1,2,1,1,1,1,1,2,1,1,1,0] (.q 0 (.q 1 (.q 2 (.q 3 (.q 4 (.q 5 (.q 6 (.q 7 (.q 8 (.q 9 (.q 10 (.q 11 (.q 12 (.q 13 (.q 14 (.q 15 (.q 16 (.q 17 (.q 18 (.q 19 (.q 20 (.q 21 (.q 22 (.q 23 (.q 24 (.q 25 (.q 26 (.q 27 (.q 28 (.q 29 (.q 30 (.q 31 (.q 32 (.q 33 (.q 34 (.q 35 (.q 36 (.q 37 (.q 38 (.q 39 (.q 40 (.q 41 (.q 42 (.q 43 (.q 44 (.q 45 (.q 46 (.q 47 (.q 48 (.q 49 (.q 50 (.q 51 (.q 52 (.q 53 (.q 54 (.q 55 (.q 56 (.q 57 (.q 58 (.q 59 (.q 60 (.q 61 (.q 62 (.q 63 (.q 64 (.q 65 (.q 66 (.q 67 (.q 68 (.q 69 (.q 70 (.q 71 (.q 72 (.q 73 (.q 74 (.q 75 (.q 76 (.q 77 (.q 78 (.q 79 (.q 80 (.q 81 (.q 82 (.q 83 (.q 84 (.q 85 (.e 86 (.done)))))))))))))))))))))))))))))))))))))))))))))))))))))))))))))))))))))))))))))))))))))))) [.blk bb (ob [.pointer (some pa),.pointer (some fa),.map (some mb),kv,A] 199),.mp mk (zN s.kinds),.mp mb (zN (xW si.list)),.gs (A) 125 2 (xX si.list),.imp ms (xN si.sites)] J N mixed (by kernel_rfl) (by simp) fun w N=>?_
 refine Qq (fun a J=>?_) (o:=by exact fun J O=>vH (i:=h) (j:=i) J rfl rfl (by omega))
 by_cases L0:(h+i) < T.cons.length
 refine Qq (fun a J=>?_) (o:=by exact fun J O=>vH (i:=h) (j:=i) J rfl rfl (by omega))
 obtain ⟨Z4,rfl,v,t,a2,B2,k2,o1⟩:=h9.el s0 L0
 obtain ⟨R4,c213,rfl,B1,S2,k1⟩:=RTCon.fm o1
 by_cases h0:v.name=r.con
 refine Qq (fun a J=>?_) (o:=by exact fun J O=>vH (i:=h) (j:=i) J rfl rfl (by omega))
 refine go fun a J=>?_
 obtain ⟨P1,V⟩:=zW l
 obtain ⟨b2,C2,l2,p1⟩:=h9.elem V
 obtain ⟨S4,L3,rfl,Y3,T2,h3⟩:=RTCon.fm p1
 by_cases n0:v.type=P1.type
 refine Qq (fun a J=>?_) (o:=by exact fun J O=>vH (i:=h) (j:=i) J rfl rfl (by omega))
 refine Qq (fun a J=>?_) (o:=by exact fun J O=>kW (i:=r.vars.length) (j:=v.fields.length) J rfl rfl)
 refine yG call83 (fun L1 w U N a J=>?_) (fun L1 w U N=>?_) (c:=yD (b:=(decide (r.vars.length=v.fields.length))) N)
 replace N:=N.pl 1
 refine yF call198 (fun M w r0 N a J=>?_) (c:=j2z hn N)
 refine Sto 2 fun w N a J=>?_
 refine go fun a J=>?_
 refine qD (J.ks [0,1,4,6,7,8,66,67,171,172]) N (fun R mm a w=>∃(k_:Nat) (sk:BS) (y1:Value),mm=r.vars.length - k_/\R m0 [(173,.int .i64 k_)] [(0,.mp M.1 (zN sk.kinds)),(2,.blk bb (ob [.pointer (some pa),.pointer (some fa),.map (some mb),.map (some M.1),y1] 199)),(3,.mp mb (zN (xW sk.list))),(4,.gs (y1) 125 2 (xX sk.list)),(5,.imp ms (xN sk.sites))] a w/\(OEqv ((⟨si.list,s.kinds,si.sites⟩:BS).binds r.vars v.fields) (sk.binds (r.vars.drop k_) (v.fields.drop k_))/\NoK sk.kinds)) (r.vars.length - 0) ⟨0,⟨si.list,M.2,si.sites⟩,A,rfl,⟨J.pk,N⟩,⟨q0a r0.1 _ _,r0.2⟩⟩ ?_
 clear N J
 rintro mm a w ⟨k_,sk,y1,i1,⟨J,N⟩,B⟩ A3 b1
 replace N:=N.nf
 by_cases M0:k_ < r.vars.length
 refine go fun a J=>?_
 obtain ⟨a5,rfl,Q0,y0,V0,D2,m2,q1⟩:=A1.el j1 M0
 obtain rfl:V0=[.string Q0]:=q1
 have I4:r.vars.length=v.fields.length:=of_decide_eq_true (zD U)
 refine Qq (fun a J=>?_) (o:=by exact fun J O=>vH (i:=h) (j:=i) J rfl rfl (by omega))
 refine go fun a J=>?_
 have f1:k_ < v.fields.length:=by omega
 obtain ⟨b5,rfl,R0,z0,X0,E2,n2,r1⟩:=B1.el k1 f1
 obtain rfl:X0=[.bool R0]:=r1
 replace N:=N.ar [] [4,1,4,4]
 refine cZ call127 (fun L E0 w D h2 N a J=>?_) (fun L w D N=>?_) (c:=z1j (s:=sk) (nm:=Q0) (m:=R0) G N)
 replace N:Mem m0 (.blk bb (ob [.pointer (some pa),.pointer (some fa),.map (some mb),.map (some M.1),E0] 199)::.mp mb (zN (xW L.list))::.mp M.1 (zN L.kinds)::.gs (E0) 125 2 (xX L.list)::.mp mk (zN s.kinds)::.imp ms (xN L.sites)::K) w:=by rw [gW (zR D)];exact N
 refine go fun a J=>?_
 replace N:=N.ar [] [5,4,3,3,5,5]
 refine b1 _ _ _ (by subst i1;omega) ⟨(k_+1),(L),(E0),rfl,⟨J.pk,N⟩,?_⟩
 exact ⟨z7u B.1 y0 z0 (zR D),z1k (zR D) B.2⟩
 replace N:=N.le (f)
 replace N:=N.dl [1,0]
 rw [show jH T F.chg e s=none from mY g (j6e k.1 p t (y9z B.1 y0 z0 (yL D)))];exact ⟨rfl,N⟩
 refine go fun a J=>?_
 have q0:=y2q B.1 M0
 replace N:=N.ar [] [5,5,2,5,5]
 refine cZ call128 (fun M1 U0 w c0 Z0 N a J=>?_) (fun M1 w c0 N=>?_) (c:=hx _ (mgQ p) RP g1 C0 (At.part2 c1) K0 G B.2 N)
 refine go fun a J=>?_
 replace N:=N.ar [2] [3,3,3,4,4]
 refine a1 _ _ _ (by subst i1;omega) ⟨(i+1),(U0.2),(U0.1),(.map (some M.1)),rfl,⟨J.pk,N⟩,?_⟩
 have G1:uH T h i r=true:=(by rw [z1h V t];simp only [baQ,decide_eq_true_eq];exact ⟨⟨h0,n0⟩,of_decide_eq_true (zD U)⟩)
 exact ⟨j1w k.1 p G1 t q0 (zR c0) Z0.1,by omega,by omega⟩
 replace N:=N.le (f)
 replace N:=N.dl [0]
 rw [show jH T F.chg e s=none from mY g (j6f k.1 p t q0 (yL c0))];exact ⟨rfl,N⟩
 replace N:=N.le (f)
 replace N:=N.dl [4,3,2,1,0]
 have X:=zP U
 rw [show jH T F.chg e s=none from mY g (z6l k.1 p (by rw [z1h V t];simp [h0,n0,X]))];exact ⟨rfl,N⟩
 refine qC call83 (fun w N=>?_) (c:=zI N)
 replace N:=N.le (f)
 replace N:=N.dl [4,3,2,1,0]
 rw [show jH T F.chg e s=none from mY g (z6l k.1 p (by rw [z1h V t];simp [h0,n0]))];exact ⟨rfl,N⟩
 refine qC call83 (fun w N=>?_) (c:=zI N)
 replace N:=N.le (f)
 replace N:=N.dl [4,3,2,1,0]
 obtain ⟨D5,I1⟩:=zW l
 rw [show jH T F.chg e s=none from mY g (z6l k.1 p (by rw [z1h I1 t];simp [h0]))];exact ⟨rfl,N⟩
 refine qC call83 (fun w N=>?_) (c:=zI N)
 replace N:=N.le (f)
 replace N:=N.dl [4,3,2,1,0]
 rw [show jH T F.chg e s=none from mY g (z6l k.1 p (q4t L0))];exact ⟨rfl,N⟩
 have k4:i=e.arms.length:=by have:=k.2.1;omega
 have l4:=k.2.2
 refine Sto 0 fun w N a J=>?_
 refine Qq (fun a J=>?_) (o:=by exact fun J O=>vH (i:=h) (j:=e.arms.length) J rfl rfl (by omega))
 refine go fun a J=>?_
 refine jF [1,1,1,1,1,1,2,1,1,1,2,1,1,1,1,2,1,1,1,2,1,1,1,2,1,1,1,2,1,1,1,1,1,1,1,2,1,1,1,2,1,1,1,1,1,1,2,1,1,1,2,1,1,1,2,1,1,1,2,1,1,1,2,1,1,1,2,1,1,1,0] (.q 0 (.q 1 (.q 2 (.q 3 (.q 4 (.q 5 (.q 6 (.q 7 (.q 8 (.q 9 (.q 10 (.q 11 (.q 12 (.q 13 (.q 14 (.q 15 (.q 16 (.q 17 (.q 18 (.q 19 (.q 20 (.q 21 (.q 22 (.q 23 (.q 24 (.q 25 (.q 26 (.q 27 (.q 28 (.q 29 (.q 30 (.q 31 (.q 32 (.q 33 (.q 34 (.q 35 (.q 36 (.q 37 (.q 38 (.q 39 (.q 40 (.q 41 (.q 42 (.q 43 (.q 44 (.q 45 (.q 46 (.q 47 (.q 48 (.q 49 (.q 50 (.q 51 (.q 52 (.q 53 (.q 54 (.q 55 (.q 56 (.q 57 (.q 58 (.q 59 (.q 60 (.q 61 (.q 62 (.q 63 (.q 64 (.q 65 (.q 66 (.q 67 (.q 68 (.q 69 (.e 70 (.done)))))))))))))))))))))))))))))))))))))))))))))))))))))))))))))))))))))))) [.blk bb (ob [.pointer (some pa),.pointer (some fa),.map (some mb),.map (some mk),A] 199),.mp mk (zN s.kinds),.mp mb (zN (xW si.list)),.gs (A) 125 2 (xX si.list),.imp ms (xN si.sites)] J N mixed (by kernel_rfl) (by simp) fun w N=>?_
 by_cases u:h=0
 by_cases o0:(h+e.arms.length)=T.cons.length
 refine zF call83 (fun w N a J=>?_) (c:=pL N)
 refine go fun a J=>?_
 replace N:=N.le (f)
 replace N:=N.ar [] [4,4,3,4,4]
 refine hQ _ _ _ (yP J results165 ?_)
 have n:xE T h e.arms.length=true:=(by rw [wK];first | (simp [l,u,o0];done) | (simp_all;done))
 obtain ⟨z_,H,I⟩:=gY g (z1i k.1 Y) n
 rw [H];exact ⟨(A,⟨si.list,s.kinds,si.sites⟩),rfl,⟨I,hn⟩,N⟩
 refine go fun a J=>?_
 have Z:(h+e.arms.length) < T.cons.length:=by omega
 obtain ⟨c5,rfl,Q1,A0,c2,F2,o2,s1⟩:=h9.el s0 Z
 obtain ⟨T4,M3,rfl,Z3,U2,i3⟩:=RTCon.fm s1
 refine go fun a J=>?_
 obtain ⟨R1,f0⟩:=zW l
 obtain ⟨d2,G2,p2,t1⟩:=h9.elem f0
 obtain ⟨U4,N3,rfl,a4,V2,j3⟩:=RTCon.fm t1
 refine Qq (fun a J=>?_) (o:=by exact fun J O=>j1h J rfl rfl)
 refine yG call83 (fun N1 w d0 N a J=>?_) (fun N1 w d0 N=>?_) (c:=yD (b:=((!decide (Q1.type=R1.type)))) N)
 refine go fun a J=>?_
 replace N:=N.le (f)
 replace N:=N.ar [] [4,4,3,4,4]
 refine hQ _ _ _ (yP J results165 ?_)
 have n:xE T h e.arms.length=true:=(by have X:=zD d0;rw [wK];first | (simp [A0,f0,l,u,Z,o0,X];done) | (simp_all;done))
 obtain ⟨z_,H,I⟩:=gY g (z1i k.1 Y) n
 rw [H];exact ⟨(A,⟨si.list,s.kinds,si.sites⟩),rfl,⟨I,hn⟩,N⟩
 replace N:=N.le (f)
 replace N:=N.dl [4,3,2,1,0]
 have n:xE T h e.arms.length=false:=(by have X:=zP d0;rw [wK];first | (simp [A0,f0,l,u,Z,o0,X];done) | (simp_all;done))
 rw [show jH T F.chg e s=none from z3o g n];exact ⟨rfl,N⟩
 refine Qq (fun a J=>?_) (o:=by exact fun J O=>z5w ((h - 1:Nat):Int) J rfl rfl (by have:=u;rw [cU (by omega)];omega))
 have C:h - 1 < T.cons.length:=by omega
 obtain ⟨d5,rfl,S1,W,e2,H2,q2,u1⟩:=h9.el s0 C
 obtain ⟨V4,O3,rfl,b4,W2,k3⟩:=RTCon.fm u1
 refine go fun a J=>?_
 obtain ⟨S0,E⟩:=zW l
 obtain ⟨f2,I2,r2,v1⟩:=h9.elem E
 obtain ⟨W4,P3,rfl,d4,X2,l3⟩:=RTCon.fm v1
 by_cases i0:S1.type=S0.type
 refine qC call83 (fun w N=>?_) (c:=zI N)
 replace N:=N.le (f)
 replace N:=N.dl [4,3,2,1,0]
 have n:xE T h e.arms.length=false:=(by rw [wK];first | (simp [W,E,l,C,i0,u];done) | (simp_all;done))
 rw [show jH T F.chg e s=none from z3o g n];exact ⟨rfl,N⟩
 by_cases p0:(h+e.arms.length)=T.cons.length
 refine zF call83 (fun w N a J=>?_) (c:=pL N)
 refine go fun a J=>?_
 replace N:=N.le (f)
 replace N:=N.ar [] [4,4,3,4,4]
 refine hQ _ _ _ (yP J results165 ?_)
 have n:xE T h e.arms.length=true:=(by rw [wK];first | (simp [W,E,l,C,p0,u,i0];done) | (simp_all;done))
 obtain ⟨z_,H,I⟩:=gY g (z1i k.1 Y) n
 rw [H];exact ⟨(A,⟨si.list,s.kinds,si.sites⟩),rfl,⟨I,hn⟩,N⟩
 refine go fun a J=>?_
 have a0:(h+e.arms.length) < T.cons.length:=by omega
 obtain ⟨T1,g0⟩:=zW a0
 obtain ⟨g2,J2,s2,w1⟩:=h9.elem g0
 obtain ⟨X4,Q3,rfl,e4,Y2,m3⟩:=RTCon.fm w1
 refine Qq (fun a J=>?_) (o:=by exact fun J O=>j1h J rfl rfl)
 refine yG call83 (fun O1 w e0 N a J=>?_) (fun O1 w e0 N=>?_) (c:=yD (b:=((!decide (T1.type=S0.type)))) N)
 refine go fun a J=>?_
 replace N:=N.le (f)
 replace N:=N.ar [] [4,4,3,4,4]
 refine hQ _ _ _ (yP J results165 ?_)
 have n:xE T h e.arms.length=true:=(by have X:=zD e0;rw [wK];first | (simp [W,E,g0,l,C,a0,u,i0,p0,X];done) | (simp_all;done))
 obtain ⟨z_,H,I⟩:=gY g (z1i k.1 Y) n
 rw [H];exact ⟨(A,⟨si.list,s.kinds,si.sites⟩),rfl,⟨I,hn⟩,N⟩
 replace N:=N.le (f)
 replace N:=N.dl [4,3,2,1,0]
 have n:xE T h e.arms.length=false:=(by have X:=zP e0;rw [wK];first | (simp [W,E,g0,l,C,a0,u,i0,p0,X];done) | (simp_all;done))
 rw [show jH T F.chg e s=none from z3o g n];exact ⟨rfl,N⟩
 replace N:=N.le (f)
 replace N:=N.dl [4,3,2,1,0]
 rw [show jH T F.chg e s=none from j2u (of_decide_eq_false (zP b0))];exact ⟨rfl,N⟩
 replace N:=N.le (f)
 replace N:=N.dl [2,1,0]
 rw [show jH T F.chg e s=none from j2s (zP l0)];exact ⟨rfl,N⟩
 replace N:=N.dl [4,3,2,1,0]
 rw [show jH T F.chg e s=none from j2r (zP t0)];exact ⟨rfl,N⟩
section
variable {T:Trc} {c m:Bool} {nm:Bs} {e x:TE} {l:List TE} {i:Nat} {s s1 si y z q:BS} {A:Option BS}
theorem q6d (h:z8q T c e s=some z) (a:s1.Eqv z):OEqv (jL T c e s) (restT T c e.name (decide (e.kind=4∨e.kind=6)) (e.body.drop 0) s1):=by
 rw [z1r,h];exact BS.Eqv.rest T c _ _ _ a.symm
theorem vD (h:z8q T c e s=none):jL T c e s=none:=by rw [z1r,h];rfl
theorem y4h (a:OEqv A (restT T c nm m (l.drop i) si)) (b:l[i]? = some x) (hb:si.bind nm m=some z) (J:jL T c x z=some q) (hq:y.Eqv q):OEqv A (restT T c nm m (l.drop (i+1)) y):=by
 rw [y8t b,hb,Option.bind_some,J,Option.bind_some] at a
 exact a.trans (BS.Eqv.rest T c _ _ _ hq.symm)
theorem q3c (a:OEqv A (restT T c nm m (l.drop i) si)) (b:l[i]? = some x) (hb:si.bind nm m=none):OEqv A none:=by
 rw [y8t b,hb] at a;exact a
theorem q3d (a:OEqv A (restT T c nm m (l.drop i) si)) (b:l[i]? = some x) (hb:si.bind nm m=some z) (J:jL T c x z=none):OEqv A none:=by
 rw [y8t b,hb,Option.bind_some,J] at a;exact a
theorem x1h (a:OEqv A (restT T c nm m (l.drop i) si)) (h:¬i < l.length):OEqv A (some si):=by rw [x1i h] at a;exact a
theorem kinds11 {k:Int} (h:0<=k) (a:k < 11):k=0∨k=1∨k=2∨k=3∨k=4∨k=5∨k=6∨k=7∨k=8∨k=9∨k=10:=by omega
theorem jD (h:e.kind≠7):z8q T c e s=qZ T c e s:=if_neg h
theorem z8r (h:e.kind=7):z8q T c e s=jH T c e s:=if_pos h
theorem z3t (h:e.kind < 1∨10 < e.kind):z8q T c e s=none:=by
 rw [jD (by omega)]
 unfold qZ
 rw [if_neg (by omega),if_neg (by omega),if_neg (by omega),if_neg (by omega),if_neg (by omega),if_neg (by omega),if_neg (by omega),if_neg (by omega),if_neg (by omega)]
theorem kR {z:BS} (h:qZ T c e s=some z):z.kinds=s.kinds:=by
 unfold qZ at h
 repeat' split at h
 all_goals first | (cases h;rfl) | exact (z0v h).2 | cases h
end
theorem j7i {Φ:Fz} {K:List Res} {w:World} {v:Value} (N:Mem Φ K w):Calls prog 158 #[v] w (fun ee w'=>ee=.panicked jB/\Mem Φ K w'):=by
 refine zJ func158 ntmps158 fun Q hQ a J=>?_
 refine go fun a J=>?_
 refine st J rfl rfl rfl (cA J rfl call83 (zI N) (fun w N=>fun a b=>hQ _ _ _ (zS b ?_)))
 exact ⟨rfl,N⟩
theorem q5d {T:Trc} {e:TE} (u1:∀a∈e.arms,y2g T a.body) (O0:∀x∈e.body,y2g T x):y2g T e:=by
 intro Φ K w bb mb mk ms pa fa R1 lv s fd d F RP k rf n re G hn N
 have g:=rf
 obtain ⟨Y2,N1,O1,k0,R0,r2,s2⟩:=RP.ex
 obtain ⟨s8,i3,j3,k3,rfl,b2,h9,g1,h1,i1⟩:=id R0
 obtain ⟨P1,b1,rfl,g2,t2⟩:=h9.fm
 obtain ⟨Q1,c1,rfl,h2,u2⟩:=g1.fm
 obtain ⟨S1,c23,rfl,i2,v2⟩:=h1.fm
 obtain ⟨T1,d1,rfl,j2,w2⟩:=i1.fm
 replace k0:At Φ pa [.slice P1 T.cons.length b1,.slice Q1 T.inputs.length c1,.slice S1 T.funs.length c23,.slice T1 T.outputs.length d1,.map (some N1),.map (some O1),.map (some ms)]:=k0
 obtain ⟨l3,U2,rfl,j1,k1⟩:=id rf
 obtain ⟨a3,c36,rfl,k2,x2⟩:=j1.fm
 obtain ⟨m3,n3,o3,rfl,c2,d2,l1,m1,n1⟩:=RTE.iff.1 k1
 obtain ⟨b3,c44,rfl,l2,y2⟩:=l1.fm
 obtain ⟨d3,c50,rfl,m2,z2⟩:=m1.fm
 obtain ⟨e3,V2,rfl,n2,A2⟩:=n1.fm
 have j:=re
 obtain ⟨p3,q3,r3,rfl,e2,f2,o1,p1,C0⟩:=RTE.iff.1 re
 obtain ⟨f3,W2,rfl,o2,B2⟩:=o1.fm
 obtain ⟨g3,X2,rfl,p2,C2⟩:=p1.fm
 obtain ⟨h3,c76,rfl,q2,l0⟩:=C0.fm
 refine zJ func128 ntmps128 fun Q hQ a J=>?_
 refine yE fun a J=>?_
 refine Alc fun B0 w N a J=>?_
 refine Sto 0 fun w N a J=>?_
 by_cases q1:0<=e.kind
 refine Qq (fun a J=>?_) (o:=by exact fun J O=>q8j J rfl rfl)
 refine yG call83 (fun U1 w b0 N a J=>?_) (fun U1 w b0 N=>?_) (c:=yD (b:=(decide (e.kind < 11))) N)
 refine goJ 3 fun a J=>?_
 refine sq fun a1 N0=>?_
 have i:∀a w,(∃(s1:BS) (h0:Value),EnvR 83 [(0,.pointer (some ⟨bb,0,none⟩)),(1,.pointer (some R1))] [] a/\Mem Φ (.blk B0 (ob [.func (.func 158) #[] #[],.func (.func 159) #[.pointer (some ⟨bb,0,none⟩)] #[],.func (.func 160) #[.pointer (some ⟨bb,0,none⟩)] #[],.func (.func 161) #[.pointer (some ⟨bb,0,none⟩)] #[],.func (.func 162) #[.pointer (some ⟨bb,0,none⟩)] #[],.func (.func 163) #[.pointer (some ⟨bb,0,none⟩)] #[],.func (.func 164) #[.pointer (some ⟨bb,0,none⟩)] #[],.func (.func 165) #[.pointer (some ⟨bb,0,none⟩)] #[],.func (.func 166) #[.pointer (some ⟨bb,0,none⟩)] #[],.func (.func 167) #[.pointer (some ⟨bb,0,none⟩)] #[],.func (.func 168) #[.pointer (some ⟨bb,0,none⟩)] #[]] 226)::.blk bb (ob [.pointer (some pa),.pointer (some fa),.map (some mb),.map (some mk),h0] 199)::.mp mb (zN (xW s1.list))::.mp mk (zN s1.kinds)::.gs (h0) 125 2 (xX s1.list)::.imp ms (xN s1.sites)::K) w/\((∃z,z8q T F.chg e s=some z/\s1.Eqv z)/\NoK s1.kinds))->a1 a w:=by
  clear N J
  rintro a w ⟨s1,h0,J,N,M0⟩
  apply N0
  obtain ⟨⟨s3,S0,U0⟩,Q0⟩:=M0
  refine go fun a J=>?_
  refine qD (J.ks [0,1,52]) N (fun R mm a w=>∃(i_:Nat) (si:BS) (i0:Value),mm=e.body.length - i_/\R Φ [(53,.int .i64 i_)] [(1,.blk bb (ob [.pointer (some pa),.pointer (some fa),.map (some mb),.map (some mk),i0] 199)),(2,.mp mb (zN (xW si.list))),(3,.mp mk (zN si.kinds)),(4,.gs (i0) 125 2 (xX si.list)),(5,.imp ms (xN si.sites))] a w/\(OEqv (jL T F.chg e s) (restT T F.chg e.name (decide (e.kind=4∨e.kind=6)) (e.body.drop i_) si)/\NoK si.kinds)) (e.body.length - 0) ⟨0,s1,h0,rfl,⟨J.pk,N⟩,⟨q6d S0 U0,Q0⟩⟩ ?_
  clear N J
  rintro mm a w ⟨i_,si,i0,P0,⟨J,N⟩,h⟩ T2 j0
  replace N:=N.nf
  by_cases W:i_ < e.body.length
  refine Reg [1,1,1,1,2,1,1,1,2,1,1,1,1,1,2,1,1,0] [0] fun w N a J=>?_
  refine go fun a J=>?_
  by_cases g0:e.kind=4
  replace N:=N.ar [] [4,4,4,4]
  refine cZ call127 (fun p w0 w u r1 N a J=>?_) (fun p w u N=>?_) (c:=z1j (s:=si) (nm:=e.name) (m:=true) G N)
  replace N:Mem Φ (.blk bb (ob [.pointer (some pa),.pointer (some fa),.map (some mb),.map (some mk),w0] 199)::.mp mb (zN (xW p.list))::.mp mk (zN p.kinds)::.gs (w0) 125 2 (xX p.list)::.blk B0 (ob [.func (.func 158) #[] #[],.func (.func 159) #[.pointer (some ⟨bb,0,none⟩)] #[],.func (.func 160) #[.pointer (some ⟨bb,0,none⟩)] #[],.func (.func 161) #[.pointer (some ⟨bb,0,none⟩)] #[],.func (.func 162) #[.pointer (some ⟨bb,0,none⟩)] #[],.func (.func 163) #[.pointer (some ⟨bb,0,none⟩)] #[],.func (.func 164) #[.pointer (some ⟨bb,0,none⟩)] #[],.func (.func 165) #[.pointer (some ⟨bb,0,none⟩)] #[],.func (.func 166) #[.pointer (some ⟨bb,0,none⟩)] #[],.func (.func 167) #[.pointer (some ⟨bb,0,none⟩)] #[],.func (.func 168) #[.pointer (some ⟨bb,0,none⟩)] #[]] 226)::.imp ms (xN p.sites)::K) w:=by rw [gW (zR u)];exact N
  have r:si.bind e.name (decide (e.kind=4∨e.kind=6))=some p:=by rw [<- zR u];congr 1;simp [g0]
  refine go fun a J=>?_
  obtain ⟨J2,rfl,R2,U,e1,z1,D0,c0⟩:=C0.el l0 W
  obtain ⟨L2,M2,N2,rfl,v1,w1,G0,H0,I0⟩:=RTE.iff.1 c0
  obtain ⟨D2,W1,rfl,B1,H1⟩:=G0.fm
  obtain ⟨E2,X1,rfl,C1,I1⟩:=H0.fm
  obtain ⟨F2,c127,rfl,D1,J1⟩:=I0.fm
  replace N:=N.ar [] [5,4,4,4,4]
  refine cZ call128 (fun X0 x0 w M X N a J=>?_) (fun X0 w M N=>?_) (c:=O0 _ (mgQ U) RP k g D0 c0 G (z1k r h.2) N)
  refine go fun a J=>?_
  replace N:=N.ar [] [4,4,4,4,4,5]
  refine j0 _ _ _ (by subst P0;omega) ⟨(i_+1),(x0.2),(x0.1),rfl,⟨J.pk,N⟩,?_⟩
  exact ⟨y4h h.1 U r (zR M) X.1,X.2⟩
  replace N:=N.dl [0]
  rw [show jL T F.chg e s=none from (q3d h.1 U r (yL M)).none_iff.2 rfl];exact ⟨rfl,N⟩
  replace N:=N.dl [1,0]
  have a0:si.bind e.name (decide (e.kind=4∨e.kind=6))=none:=by rw [<- yL u];congr 1;simp [g0]
  obtain ⟨V1,e0⟩:=zW W
  rw [show jL T F.chg e s=none from (q3c h.1 e0 a0).none_iff.2 rfl];exact ⟨rfl,N⟩
  refine Qq (fun a J=>?_) (o:=by exact fun J O=>vW J rfl rfl)
  replace N:=N.ar [] [4,4,4,4]
  refine cZ call127 (fun q y0 w v t1 N a J=>?_) (fun q w v N=>?_) (c:=z1j (s:=si) (nm:=e.name) (m:=(decide (e.kind=6))) G N)
  replace N:Mem Φ (.blk bb (ob [.pointer (some pa),.pointer (some fa),.map (some mb),.map (some mk),y0] 199)::.mp mb (zN (xW q.list))::.mp mk (zN q.kinds)::.gs (y0) 125 2 (xX q.list)::.blk B0 (ob [.func (.func 158) #[] #[],.func (.func 159) #[.pointer (some ⟨bb,0,none⟩)] #[],.func (.func 160) #[.pointer (some ⟨bb,0,none⟩)] #[],.func (.func 161) #[.pointer (some ⟨bb,0,none⟩)] #[],.func (.func 162) #[.pointer (some ⟨bb,0,none⟩)] #[],.func (.func 163) #[.pointer (some ⟨bb,0,none⟩)] #[],.func (.func 164) #[.pointer (some ⟨bb,0,none⟩)] #[],.func (.func 165) #[.pointer (some ⟨bb,0,none⟩)] #[],.func (.func 166) #[.pointer (some ⟨bb,0,none⟩)] #[],.func (.func 167) #[.pointer (some ⟨bb,0,none⟩)] #[],.func (.func 168) #[.pointer (some ⟨bb,0,none⟩)] #[]] 226)::.imp ms (xN q.sites)::K) w:=by rw [gW (zR v)];exact N
  have t:si.bind e.name (decide (e.kind=4∨e.kind=6))=some q:=by rw [<- zR v];congr 1;simp [g0]
  refine go fun a J=>?_
  obtain ⟨K2,rfl,S2,V,f1,A1,E0,d0⟩:=C0.el l0 W
  obtain ⟨O2,P2,Q2,rfl,x1,y1,J0,K0,L0⟩:=RTE.iff.1 d0
  obtain ⟨G2,Y1,rfl,E1,K1⟩:=J0.fm
  obtain ⟨H2,Z1,rfl,F1,L1⟩:=K0.fm
  obtain ⟨I2,a2,rfl,G1,M1⟩:=L0.fm
  replace N:=N.ar [] [5,4,4,4,4]
  refine cZ call128 (fun Y0 z0 w P Y N a J=>?_) (fun Y0 w P N=>?_) (c:=O0 _ (mgQ V) RP k g E0 d0 G (z1k t h.2) N)
  refine go fun a J=>?_
  replace N:=N.ar [] [4,4,4,4,4,5]
  refine j0 _ _ _ (by subst P0;omega) ⟨(i_+1),(z0.2),(z0.1),rfl,⟨J.pk,N⟩,?_⟩
  exact ⟨y4h h.1 V t (zR P) Y.1,Y.2⟩
  replace N:=N.dl [0]
  rw [show jL T F.chg e s=none from (q3d h.1 V t (yL P)).none_iff.2 rfl];exact ⟨rfl,N⟩
  replace N:=N.dl [1,0]
  have a0:si.bind e.name (decide (e.kind=4∨e.kind=6))=none:=by rw [<- yL v];congr 1;simp [g0]
  obtain ⟨V1,e0⟩:=zW W
  rw [show jL T F.chg e s=none from (q3c h.1 e0 a0).none_iff.2 rfl];exact ⟨rfl,N⟩
  refine go fun a J=>?_
  replace N:=N.dl [0]
  refine hQ _ _ _ (yP J results128 ?_)
  refine j0m (x1h h.1 W) fun z_ V0=>⟨(i0,si),rfl,⟨V0,h.2⟩,N⟩
 refine go fun a J=>?_
 rcases kinds11 q1 (of_decide_eq_true (zD b0)) with f | f | f | f | f | f | f | f | f | f | f
 rw [f] at J
 refine Qq (fun a J=>?_) (o:=by exact fun J O=>qT 0 J rfl rfl runUnderlying226 sizeOf201 (by decide) rfl)
 refine go fun a J=>?_
 refine st J rfl rfl rfl (q6a J rfl rfl call158 (j7i N) (fun w N=>fun a l=>hQ _ _ _ (zS l ?_)))
 replace N:=N.dl [5,4,3,2,1,0]
 rw [show jL T F.chg e s=none from vD (z3t (by rw [f];decide))];exact ⟨rfl,N⟩
 rw [f] at J
 refine Qq (fun a J=>?_) (o:=by exact fun J O=>qT 1 J rfl rfl runUnderlying226 sizeOf201 (by decide) rfl)
 refine go fun a J=>?_
 replace N:=N.ar [] [5,5,5,5,5]
 refine st J rfl rfl rfl (kQ J rfl rfl call159 (bop_ok RP k g n j f N) (fun m0 w y N a J=>?_) (fun m0 w y N=>fun a l=>hQ _ _ _ (zS l ?_)))
 refine go fun a J=>?_
 replace N:=N.ar [] [4,4,4,4,4,5]
 exact i _ _ ⟨m0,lv,J.pk,N,⟨⟨_,(jD (by rw [f];decide)).trans (zR y),.refl _⟩,(by rw [kR (zR y)];exact hn)⟩⟩
 replace N:=N.dl [0]
 rw [show jL T F.chg e s=none from vD ((jD (by rw [f];decide)).trans (yL y))];exact ⟨rfl,N⟩
 rw [f] at J
 refine Qq (fun a J=>?_) (o:=by exact fun J O=>qT 2 J rfl rfl runUnderlying226 sizeOf201 (by decide) rfl)
 refine go fun a J=>?_
 replace N:=N.ar [] [5,5,5,5,5]
 refine st J rfl rfl rfl (kQ J rfl rfl call160 (bcon_ok RP k g n j f N) (fun n0 w A N a J=>?_) (fun n0 w A N=>fun a l=>hQ _ _ _ (zS l ?_)))
 refine go fun a J=>?_
 replace N:=N.ar [] [4,4,4,4,4,5]
 exact i _ _ ⟨n0,lv,J.pk,N,⟨⟨_,(jD (by rw [f];decide)).trans (zR A),.refl _⟩,(by rw [kR (zR A)];exact hn)⟩⟩
 replace N:=N.dl [0]
 rw [show jL T F.chg e s=none from vD ((jD (by rw [f];decide)).trans (yL A))];exact ⟨rfl,N⟩
 rw [f] at J
 refine Qq (fun a J=>?_) (o:=by exact fun J O=>qT 3 J rfl rfl runUnderlying226 sizeOf201 (by decide) rfl)
 refine go fun a J=>?_
 replace N:=N.ar [] [5,5,5,5,5]
 refine st J rfl rfl rfl (kQ J rfl rfl call161 (q5g RP k g n j f N) (fun o0 w B N a J=>?_) (fun o0 w B N=>fun a l=>hQ _ _ _ (zS l ?_)))
 refine go fun a J=>?_
 replace N:=N.ar [] [4,4,4,4,4,5]
 exact i _ _ ⟨o0,lv,J.pk,N,⟨⟨_,(jD (by rw [f];decide)).trans (zR B),.refl _⟩,(by rw [kR (zR B)];exact hn)⟩⟩
 replace N:=N.dl [0]
 rw [show jL T F.chg e s=none from vD ((jD (by rw [f];decide)).trans (yL B))];exact ⟨rfl,N⟩
 rw [f] at J
 refine Qq (fun a J=>?_) (o:=by exact fun J O=>qT 4 J rfl rfl runUnderlying226 sizeOf201 (by decide) rfl)
 refine go fun a J=>?_
 replace N:=N.ar [] [5,5,5,5,5]
 refine st J rfl rfl rfl (kQ J rfl rfl call162 (bmod_ok RP k g n j f N) (fun p0 w C N a J=>?_) (fun p0 w C N=>fun a l=>hQ _ _ _ (zS l ?_)))
 refine go fun a J=>?_
 replace N:=N.ar [] [4,4,4,4,4,5]
 exact i _ _ ⟨p0,lv,J.pk,N,⟨⟨_,(jD (by rw [f];decide)).trans (zR C),.refl _⟩,(by rw [kR (zR C)];exact hn)⟩⟩
 replace N:=N.dl [0]
 rw [show jL T F.chg e s=none from vD ((jD (by rw [f];decide)).trans (yL C))];exact ⟨rfl,N⟩
 rw [f] at J
 refine Qq (fun a J=>?_) (o:=by exact fun J O=>qT 5 J rfl rfl runUnderlying226 sizeOf201 (by decide) rfl)
 refine go fun a J=>?_
 replace N:=N.ar [] [5,5,5,5,5]
 refine st J rfl rfl rfl (kQ J rfl rfl call163 (j6t RP k g n j f N) (fun q0 w D N a J=>?_) (fun q0 w D N=>fun a l=>hQ _ _ _ (zS l ?_)))
 refine go fun a J=>?_
 replace N:=N.ar [] [4,4,4,4,4,5]
 exact i _ _ ⟨q0,lv,J.pk,N,⟨⟨_,(jD (by rw [f];decide)).trans (zR D),.refl _⟩,(by rw [kR (zR D)];exact hn)⟩⟩
 replace N:=N.dl [0]
 rw [show jL T F.chg e s=none from vD ((jD (by rw [f];decide)).trans (yL D))];exact ⟨rfl,N⟩
 rw [f] at J
 refine Qq (fun a J=>?_) (o:=by exact fun J O=>qT 6 J rfl rfl runUnderlying226 sizeOf201 (by decide) rfl)
 refine go fun a J=>?_
 replace N:=N.ar [] [5,5,5,5,5]
 refine st J rfl rfl rfl (kQ J rfl rfl call164 (j2h RP k g n j f N) (fun r0 w E N a J=>?_) (fun r0 w E N=>fun a l=>hQ _ _ _ (zS l ?_)))
 refine go fun a J=>?_
 replace N:=N.ar [] [4,4,4,4,4,5]
 exact i _ _ ⟨r0,lv,J.pk,N,⟨⟨_,(jD (by rw [f];decide)).trans (zR E),.refl _⟩,(by rw [kR (zR E)];exact hn)⟩⟩
 replace N:=N.dl [0]
 rw [show jL T F.chg e s=none from vD ((jD (by rw [f];decide)).trans (yL E))];exact ⟨rfl,N⟩
 rw [f] at J
 refine Qq (fun a J=>?_) (o:=by exact fun J O=>qT 7 J rfl rfl runUnderlying226 sizeOf201 (by decide) rfl)
 refine go fun a J=>?_
 replace N:=N.ar [] [5,5,5,5,5]
 refine st J rfl rfl rfl (z8g J rfl rfl call165 (j2d RP k g n j f u1 G hn N) (fun Z0 A0 w S Z N a J=>?_) (fun Z0 w S N=>fun a l=>hQ _ _ _ (zS l ?_)))
 refine go fun a J=>?_
 replace N:=N.ar [] [4,4,4,4,4,5]
 exact i _ _ ⟨A0.2,A0.1,J.pk,N,⟨⟨_,(z8r f).trans (zR S),Z.1⟩,Z.2⟩⟩
 replace N:=N.dl [0]
 rw [show jL T F.chg e s=none from vD ((z8r f).trans (yL S))];exact ⟨rfl,N⟩
 rw [f] at J
 refine Qq (fun a J=>?_) (o:=by exact fun J O=>qT 8 J rfl rfl runUnderlying226 sizeOf201 (by decide) rfl)
 refine go fun a J=>?_
 replace N:=N.ar [] [5,5,5,5,5]
 refine st J rfl rfl rfl (kQ J rfl rfl call166 (bret_ok RP k g n j f N) (fun s0 w H N a J=>?_) (fun s0 w H N=>fun a l=>hQ _ _ _ (zS l ?_)))
 refine go fun a J=>?_
 replace N:=N.ar [] [4,4,4,4,4,5]
 exact i _ _ ⟨s0,lv,J.pk,N,⟨⟨_,(jD (by rw [f];decide)).trans (zR H),.refl _⟩,(by rw [kR (zR H)];exact hn)⟩⟩
 replace N:=N.dl [0]
 rw [show jL T F.chg e s=none from vD ((jD (by rw [f];decide)).trans (yL H))];exact ⟨rfl,N⟩
 rw [f] at J
 refine Qq (fun a J=>?_) (o:=by exact fun J O=>qT 9 J rfl rfl runUnderlying226 sizeOf201 (by decide) rfl)
 refine go fun a J=>?_
 replace N:=N.ar [] [5,5,5,5,5]
 refine st J rfl rfl rfl (kQ J rfl rfl call167 (j2p RP k g n j f N) (fun t0 w I N a J=>?_) (fun t0 w I N=>fun a l=>hQ _ _ _ (zS l ?_)))
 refine go fun a J=>?_
 replace N:=N.ar [] [4,4,4,4,4,5]
 exact i _ _ ⟨t0,lv,J.pk,N,⟨⟨_,(jD (by rw [f];decide)).trans (zR I),.refl _⟩,(by rw [kR (zR I)];exact hn)⟩⟩
 replace N:=N.dl [0]
 rw [show jL T F.chg e s=none from vD ((jD (by rw [f];decide)).trans (yL I))];exact ⟨rfl,N⟩
 rw [f] at J
 refine Qq (fun a J=>?_) (o:=by exact fun J O=>qT 10 J rfl rfl runUnderlying226 sizeOf201 (by decide) rfl)
 refine go fun a J=>?_
 replace N:=N.ar [] [5,5,5,5,5]
 refine st J rfl rfl rfl (kQ J rfl rfl call168 (j6u RP k g n j f N) (fun u0 w L N a J=>?_) (fun u0 w L N=>fun a l=>hQ _ _ _ (zS l ?_)))
 refine go fun a J=>?_
 replace N:=N.ar [] [4,4,4,4,4,5]
 exact i _ _ ⟨u0,lv,J.pk,N,⟨⟨_,(jD (by rw [f];decide)).trans (zR L),.refl _⟩,(by rw [kR (zR L)];exact hn)⟩⟩
 replace N:=N.dl [0]
 rw [show jL T F.chg e s=none from vD ((jD (by rw [f];decide)).trans (yL L))];exact ⟨rfl,N⟩
 replace N:=N.dl [5,4,3,2,1,0]
 have V0:=of_decide_eq_false (zP b0)
 rw [show jL T F.chg e s=none from vD (z3t (by omega))];exact ⟨rfl,N⟩
 refine go fun a J=>?_
 refine st J rfl rfl rfl (cA J rfl call83 (zI N) (fun w N=>fun a l=>hQ _ _ _ (zS l ?_)))
 replace N:=N.dl [5,4,3,2,1,0]
 rw [show jL T F.chg e s=none from vD (z3t (by omega))];exact ⟨rfl,N⟩
theorem z3r (T:Trc):∀(n:Nat) (e:TE),zC e < n->y2g T e
 | 0,_,h=>absurd h (Nat.not_lt_zero _)
 | n+1,e,h=>q5d (fun a b=>z3r T n a.body (by have:=wG b;omega)) (fun x c=>z3r T n x (by have:=kD c;omega))
theorem j6p (T:Trc) (e:TE):y2g T e:=z3r T _ e (Nat.lt_succ_self _)
end Go.Sw
