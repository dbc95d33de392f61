import Derived.Test.YtlfobekmmndchaaGreatDoorX10
set_option linter.unusedVariables false
set_option linter.unusedSimpArgs false
namespace Go.Sw
open Go.Proofs Go.Proofs.Tryz
set_option maxRecDepth 20000
set_option maxHeartbeats 4000000
def zTE:List Value:=[.int .i64 ((0:Nat):Int),.string ⟨#[]⟩,.string ⟨#[]⟩,.int .i64 ((0:Nat):Int),.int .i64 ((0:Nat):Int),.slice none 0 0,.slice none 0 0,.slice none 0 0]
def GRes (Ψ:Fz) (s:Option TE) (b:Bool) (z:List Value):Prop:=match b with | true=>z=zTE | false=>∃t,s=some t/\RTE Ψ z t
theorem GRes.mono (Ψ Ψ':Fz) (s:Option TE) (b:Bool) (z:List Value) (hl:Ψ.Le Ψ') (h:GRes Ψ s b z):GRes Ψ' s b z:=by
 cases b with
 | true=>exact h
 | false=>obtain ⟨t,a,c⟩:=h;exact ⟨t,a,RTE.mono _ _ _ _ hl c⟩
theorem y9x {e:TE}:∀{p:List Int} {up:List TE} {y:Fnd},y∈zE p up e->∀u∈y.up,u∈up∨∃z∈zE p up e,z.x=u:=by
 refine wV (C:=fun e=>∀{p:List Int} {up:List TE} {y:Fnd},y∈zE p up e->∀u∈y.up,u∈up∨∃z∈zE p up e,z.x=u) (fun e i hb p up y k u f=>?_) e
 have self:(⟨p,up,e⟩:Fnd)∈zE p up e:=by rw [jK];exact msQ
 have go:∀(q:List Int) (x:TE),(∀z,z∈zE q (up++[e]) x->z∈zE p up e)->(u∈up++[e]∨∃z∈zE q (up++[e]) x,z.x=u)->u∈up∨∃z∈zE p up e,z.x=u:=fun q x d h=>by
  rcases h with h | ⟨z,b,c⟩
  rcases List.mem_append.1 h with h | h
  exact .inl h
  rw [List.mem_singleton] at h;exact .inr ⟨_,self,h.symm⟩
  exact .inr ⟨z,d z b,c⟩
 rcases wI k with rfl | ⟨j,a,b,c⟩ | ⟨j,x,b,c⟩
 exact .inl f
 refine go _ _ (fun z g=>?_) (i a (mgQ b) c u f)
 rw [jK];exact mcQ _ (List.mem_append_left _ (mem_belowTa.2 ⟨j,a,b,by rw [Int.zero_add];exact g⟩))
 refine go _ _ (fun z g=>?_) (hb x (mgQ b) c u f)
 rw [jK];exact mcQ _ (List.mem_append_right _ (mem_belowTs.2 ⟨j,x,b,by rw [Int.zero_add];exact g⟩))
theorem y0z {T:Trc} {F:TFn} {path:List Int} {up:List TE} {e y:TE} {i:Nat} (GP:GoodP T) (c:F∈T.funs) (d:(⟨path,up,e⟩:Fnd)∈zE [] [] F.body) (h:up[i]? = some y):gdT y:=by
 rcases y9x d y (mgQ h) with a | ⟨z,a,b⟩
 simp at a
 rw [<- b];exact kZ (GP.gd F c) a
def uK (e y:TE):Prop:=y.kind=5/\xD y 0=xD e 0
instance (e y:TE):Decidable (uK e y):=by unfold uK;exact inferInstance
def cH (f:FnS) (e:TE) (s:Option TE) (y:Nat×TE):Option TE×Bool:=if uK e y.2 then (f.put [(e.name,⟨y.2.name,0⟩)] (xT e),false) else (s,true)
def mJ (f:FnS) (e:TE) (_:Option TE) (y:Nat×TE):Bool:=decide (uK e y.2)&&(f.put [(e.name,⟨y.2.name,0⟩)] (xT e)).isNone
theorem z3s {f:FnS} {e y:TE} {s:Option TE} {i:Nat} (h:¬uK e y):mJ f e s (i,y)=false/\cH f e s (i,y)=(s,true):=⟨by unfold mJ;rw [decide_eq_false h];rfl,if_neg h⟩
theorem q1a {f:FnS} {e y z t:TE} {s:Option TE} {i:Nat} (h:uK e y) (b:xT e=z) (c:xL (f.put [(e.name,⟨y.name,0⟩)] z)=.ok t):mJ f e s (i,y)=false/\cH f e s (i,y)=(some t,false):=by
 have a:=zR c
 constructor
 unfold mJ;rw [decide_eq_true h,b];simp only [a];rfl
 unfold cH;rw [if_pos h,b];simp only [a]
theorem q0z {f:FnS} {e y z:TE} {s:Option TE} {i:Nat} {c:Unit} (h:uK e y) (b:xT e=z) (a:xL (f.put [(e.name,⟨y.name,0⟩)] z)=.error c):mJ f e s (i,y)=true:=by
 unfold mJ;rw [decide_eq_true h,b];simp only [yL a];rfl
theorem z1w (f:FnS) (e:TE):∀L:List (Nat×TE),(aU (cH f e) (mJ f e) none L=none->f.fuse e (L.map Prod.snd)=none)/\(∀t,aU (cH f e) (mJ f e) none L=some (t,true)->f.fuse e (L.map Prod.snd)=none)/\(∀t,aU (cH f e) (mJ f e) none L=some (t,false)->f.fuse e (L.map Prod.snd)=t)
 | []=>⟨(fun h=>by cases h),(fun t _=>rfl),(fun t h=>by cases h)⟩
 | (i,y)::L=>by
  by_cases N:uK e y
  rw [List.map_cons]
  have g:f.fuse e (y::L.map Prod.snd)=f.put [(e.name,⟨y.name,0⟩)] (xT e):=by rw [FnS.fuse,if_pos (show y.kind=5/\xD y 0=xD e 0 from N)]
  rw [g]
  cases d:f.put [(e.name,⟨y.name,0⟩)] (xT e) with
  | none=>
   have hb:mJ f e none (i,y)=true:=q0z (c:=()) N rfl (by rw [d];rfl)
   rw [z2r hb]
   exact ⟨(fun _=>rfl),(fun t h=>by cases h),(fun t h=>by cases h)⟩
  | some z=>
   obtain ⟨b,a⟩:=q1a (f:=f) (s:=none) (i:=i) N rfl (t:=z) (by rw [d];rfl)
   rw [z6v b (by rw [a]),a]
   exact ⟨(fun h=>by cases h),(fun t h=>by cases h),(fun t h=>by cases h;rfl)⟩
  obtain ⟨b,a⟩:=z3s (f:=f) (s:=none) (i:=i) N
  rw [z2s b (by rw [a]),a,List.map_cons,show f.fuse e (y::L.map Prod.snd)=f.fuse e (L.map Prod.snd) from by rw [FnS.fuse,if_neg (show ¬(y.kind=5/\xD y 0=xD e 0) from N)]]
  exact z1w f e L
theorem cD {α:Type} (l:List α):(vN l l.length).map Prod.snd=l.reverse:=by rw [y2p l _ (Nat.le_refl _),List.take_length]
theorem fuse_ok {Φ:Fz} {K:List Res} {w:World} {pf:Addr} {T:Trc} {F:TFn} {c:List Value} {path:List Int} {up:List TE} {e:TE} {num:Int} (RF:RFnO Φ pf T F) (GP:GoodP T) (hF:F∈T.funs) (hx:(⟨path,up,e⟩:Fnd)∈zE [] [] F.body) (rf:RFnd Φ c ⟨path,up,e⟩) (G:Glob Φ) (hk:e.kind=5) (N:Mem Φ K w) :
  Calls prog 152 #[.pointer (some pf),.agg c.toArray,.int .i64 num] w (fun ee w'=>Out (xL (FnS.fuse ⟨T,F⟩ e up.reverse)) (fun z=>∃q:Fz×List Value,ee=.returned (.agg q.2.toArray)/\(Φ.Le q.1/\RTE q.1 q.2 z)/\Mem q.1 K w') (fun _=>ee=.panicked vB/\Mem Φ K w')):=by
 have r:=rf
 have I0:GI e:=nR (kZ (GP.gd F hF) hx)
 obtain ⟨a3,b3,Q2,P2,J2,l,k,n,v2,u1,t1⟩:=RF.ex
 obtain ⟨H1,I1,M,I2,rfl,Y1,Z1,k0,D,j,b0⟩:=id rf
 replace k0:SliceOf RInt Φ 1 H1 path:=k0
 replace D:SliceOf RPtE Φ 1 I1 up:=D
 replace b0:RTE Φ _ e:=b0
 obtain ⟨P,c23,rfl,v1,q2⟩:=k0.fm
 obtain ⟨R,I,rfl,w1,r2⟩:=D.fm
 have m:=b0
 obtain ⟨S2,c34,T2,F2,U2,c46,rfl,a2,b2,f0,K2,g0,j2,R0,k2,s2,l2,S0⟩:=RTE.fm b0
 have N0:=I0.ar.one (.inl hk)
 have f2:e.args.length=1:=N0
 have O0:0 < e.args.length:=by omega
 have g2:e.body.length=1:=I0.ar.rest (by omega) (by omega)
 have P0:0 < e.body.length:=by omega
 refine z6p func152 rfl ntmps152 rfl (fun Q hQ a J=>?_)
 refine sqB fun B2 K0=>?_
 refine qY ?_
 refine Bx fun E w N a J=>?_
 refine Bx fun H w N a J=>?_
 refine Alc fun v w N a J=>?_
 refine go fun a J=>?_
 apply K0
 refine sqB fun C2 L0=>?_
 refine sqB fun D2 M0=>?_
 refine qY ?_
 refine yF call189 (fun f3 w g N a J=>?_) (c:=z7q D N)
 replace l:=l.mono g.1
 replace k:=k.mono g.1
 replace n:=RTFn.mono _ _ _ _ g.1 n
 replace RF:=RF.mono g.1
 replace D:=D.mono RPtE.mono g.1
 replace f0:=f0.mono RAtom.mono g.1
 replace g0:=g0.mono RTE.mono g.1
 replace j:=j.mono g.1
 replace m:=RTE.mono _ _ _ _ g.1 m
 replace r:=RFnd.mono _ _ _ _ g.1 r
 have A0:=g.2
 try dsimp only [zTE] at N
 replace N:=N.nf
 refine go fun a J=>?_
 apply M0
 refine z0a ?_
 refine oO (p1:=12) (p2:=13) RBk (vN up up.length) .ret (cH ⟨T,F⟩ e) (mJ ⟨T,F⟩ e) GRes (fun _ _ z_=>.blk v (ob z_ 48)::.blk H (ob [.slice P path.length c23,.slice R up.length I,.pointer (some M)] 90)::.blk E (ob [.pointer (some pf)] 102)::K) (K) none zTE func152 J rfl N rfl call213 rfl rfl GRes.mono (fun Ψr_ s_ z_ d3 e3 x_ l_ R2 G1 b1 a w b V0 C0 S J N=>?_) (uY A0 D) (fun J1 hr_ Dk Ψr_ a0 a w b S J N=>?_) (fun J1 hr_ Dk Ψr_ a0 a w b S J N=>?_) (fun hr_ Dk Ψr_ a w b J N=>?_)
 obtain ⟨i_,y_⟩:=x_
 obtain ⟨w0,p_,d_,D0,t0,n0⟩:=C0
 simp only at w0 n0
 injection D0 with D0 _
 subst w0 D0
 obtain rfl:z_=zTE:=S
 have x0:=dY V0
 simp only at x0
 have m0:=n0
 replace l:=l.mono b
 replace k:=k.mono b
 replace n:=RTFn.mono _ _ _ _ b n
 replace RF:=RF.mono b
 replace f0:=f0.mono RAtom.mono b
 replace g0:=g0.mono RTE.mono b
 replace j:=j.mono b
 replace m:=RTE.mono _ _ _ _ b m
 replace r:=RFnd.mono _ _ _ _ b r
 try dsimp only [zTE] at N
 replace N:=N.nf
 obtain ⟨V2,G2,W2,H2,X2,c79,rfl,c2,d2,e1,L2,M2,m2,U0,n2,t2,o2,u2⟩:=RTE.fm n0
 refine xG ?_
 refine zH J (by intro c h;cases h) (qW J rfl) rfl fun a J=>?_
 refine zY ?_
 refine ⟨_,N,fun w N=>?_⟩
 try dsimp only [zTE] at N
 replace N:=N.nf
 refine gA ?_
 refine sqI fun E2 h0=>?_
 try dsimp only [zTE] at N
 refine qR [1,1,1,2,1,1,1,1,1,2,1,2,1,2,1,1,2,1,2,1,1] (.q 0 (.q 1 (.q 2 (.q 3 (.q 4 (.q 5 (.q 6 (.q 7 (.q 8 (.q 9 (.q 10 (.q 11 (.q 12 (.q 13 (.q 14 (.q 15 (.q 16 (.q 17 (.q 18 (.q 19 (.q 20 (.done)))))))))))))))))))))) [.blk v (ob [.int .i64 ((0:Nat):Int),.string ⟨#[]⟩,.string ⟨#[]⟩,.int .i64 ((0:Nat):Int),.int .i64 ((0:Nat):Int),.slice none 0 0,.slice none 0 0,.slice none 0 0] 48),.blk H (ob [.slice P path.length c23,.slice R up.length I,.pointer (some M)] 90),.blk E (ob [.pointer (some pf)] 102)] J N mixed (by kernel_rfl) (by simp) (by kernel_rfl) fun w N=>?_
 by_cases q0:y_.kind=5
 refine go fun a J=>?_
 have Q0:0 < y_.args.length:=by have h_:=(nR (y0z GP hF hx x0)).ar.one (.inl q0);omega
 obtain ⟨Y2,rfl,c0,o0,Q1,h2,s0,l0⟩:=e1.el U0 Q0
 obtain ⟨rfl,e2⟩:=id l0
 refine go fun a J=>?_
 obtain ⟨Z2,rfl,d0,p0,R1,i2,i0,X⟩:=f0.el R0 O0
 obtain ⟨rfl,g1⟩:=id X
 by_cases t:c0=d0
 refine Qq (fun a J=>?_) (o:=by exact fun J O=>gT (p:=c0) (q:=d0) J rfl rfl (decide_eq_true t))
 refine go fun a J=>?_
 apply h0
 refine pT J rfl ?_
 refine sqI fun N1 z0=>?_
 try dsimp only [zTE] at N
 refine qR [2,1,2,1,1,2,1,2,0,1,2,1,1,2,1,1,1,2,1,0,1,0,0] (.q 0 (.q 1 (.q 2 (.q 3 (.q 4 (.q 5 (.q 6 (.q 7 (.q 9 (.q 10 (.q 11 (.q 12 (.q 13 (.q 14 (.q 15 (.q 16 (.q 17 (.q 18 (.e 8 (.e 19 (.q 20 (.e 21 (.e 22 (.done)))))))))))))))))))))))) [.blk v (ob [.int .i64 ((0:Nat):Int),.string ⟨#[]⟩,.string ⟨#[]⟩,.int .i64 ((0:Nat):Int),.int .i64 ((0:Nat):Int),.slice none 0 0,.slice none 0 0,.slice none 0 0] 48),.blk H (ob [.slice P path.length c23,.slice R up.length I,.pointer (some M)] 90),.blk E (ob [.pointer (some pf)] 102)] J N mixed (by kernel_rfl) (by simp) (by kernel_rfl) fun w N=>?_
 refine go fun a J=>?_
 obtain ⟨z2,rfl,A2,Z,c1,l1,j0,L⟩:=g0.el S0 P0
 obtain ⟨w2,O1,x2,P1,y2,c127,rfl,h1,i1,S1,T1,U1,m1,x1,n1,y1,o1,z1⟩:=RTE.fm L
 refine yE fun a J=>?_
 refine MkM fun E0 w N a J=>?_
 try dsimp only [zTE] at N
 replace N:=N.nf
 refine aE J rfl rfl (pM 0 runUnderlying151 runUnderlying9 J N rfl rfl rfl rfl fun w N=>⟨fun _=>N.sn (Fz.Le.refl _),fun a J=>?_⟩)
 replace N:Mem Ψr_ (.mp E0 (xZ (qJ [] e.name (⟨y_.name,((0:Nat):Int)⟩:Atom)))::.blk l_ G1::.blk v (ob [.int .i64 ((0:Nat):Int),.string ⟨#[]⟩,.string ⟨#[]⟩,.int .i64 ((0:Nat):Int),.int .i64 ((0:Nat):Int),.slice none 0 0,.slice none 0 0,.slice none 0 0] 48)::.blk H (ob [.slice P path.length c23,.slice R up.length I,.pointer (some M)] 90)::.blk E (ob [.pointer (some pf)] 102)::(K++b1)) w:=by rw [<- wH [] e.name (⟨y_.name,((0:Nat):Int)⟩:Atom)];exact N
 refine go fun a J=>?_
 refine d_e J rfl rfl rfl (wA J rfl call186 (oD RF (cI (GP.gd F hF)) (dL (show I64 0 from by unfold I64;omega)) L (aV (GP.sm hF hx) Z) N) (fun u y0 w W d N=>⟨fun _=>N.sn ((Fz.Le.refl _).trans (d.1)),fun a J=>?_⟩) (fun u w W N=>fun a hd=>?_))
 replace l:=l.mono d.1
 replace k:=k.mono d.1
 replace n:=RTFn.mono _ _ _ _ d.1 n
 replace j:=j.mono d.1
 replace m:=RTE.mono _ _ _ _ d.1 m
 replace r:=RFnd.mono _ _ _ _ d.1 r
 replace t0:=t0.mono d.1
 replace m0:=RTE.mono _ _ _ _ d.1 m0
 replace s0:=s0.mono d.1
 replace l0:=RAtom.mono _ _ _ _ d.1 l0
 replace i0:=i0.mono d.1
 replace X:=RAtom.mono _ _ _ _ d.1 X
 replace j0:=j0.mono d.1
 replace L:=RTE.mono _ _ _ _ d.1 L
 have Y:=d.2
 obtain ⟨d1,r0⟩:∃x_,x_=y0.2:=⟨_,rfl⟩
 rw [<- r0] at Y J
 have B0:=Y
 obtain ⟨X0,F0,Y0,G0,Z0,H0,rfl,j1,k1,V1,W1,X1,q1,A1,r1,B1,s1,C1⟩:=RTE.fm Y
 try dsimp only [zTE] at N
 replace N:=N.nf
 refine Sto 1 fun w N a J=>?_
 refine go fun a J=>?_
 apply z0
 refine wpIn_ret ?_
 obtain ⟨U,V⟩:=q1a (f:=⟨T,F⟩) (e:=e) (y:=y_) (s:=s_) (i:=i_) (show uK e y_ from ⟨q0,by rw [(show xD y_ 0=c0 from qX o0),(show xD e 0=d0 from qX p0)];exact t⟩) (kT Z) W
 refine Or.inr ⟨U,?_⟩
 rw [V]
 exact ⟨rfl,y0.1,[.int .i64 (u.kind),.string u.name,.string u.op,.int .i64 (u.num),.int .i64 (u.site),.slice X0 u.args.length F0,.slice Y0 u.arms.length G0,.slice Z0 u.body.length H0],d.1,⟨_,rfl,B0⟩,N⟩
 replace N:=N.dl [3,2,1]
 exact Or.inl ⟨q0z (f:=⟨T,F⟩) (e:=e) (y:=y_) (show uK e y_ from ⟨q0,by rw [(show xD y_ 0=c0 from qX o0),(show xD e 0=d0 from qX p0)];exact t⟩) (kT Z) W,rfl,hd,Ψr_,Fz.Le.refl _,N⟩
 refine Qq (fun a J=>?_) (o:=by exact fun J O=>gT (p:=c0) (q:=d0) J rfl rfl (decide_eq_false t))
 refine go fun a J=>?_
 apply h0
 refine wE J rfl ?_
 refine wS ?_
 obtain ⟨U,V⟩:=z3s (f:=⟨T,F⟩) (e:=e) (y:=y_) (s:=s_) (i:=i_) (fun h_=>t (by have J0:=h_.2;rw [(show xD y_ 0=c0 from qX o0),(show xD e 0=d0 from qX p0)] at J0;exact J0))
 rotate_left
 refine go fun a J=>?_
 apply h0
 refine wE J rfl ?_
 refine wS ?_
 obtain ⟨U,V⟩:=z3s (f:=⟨T,F⟩) (e:=e) (y:=y_) (s:=s_) (i:=i_) (fun h_=>q0 h_.1)
 rotate_left
 replace l:=l.mono b
 replace k:=k.mono b
 replace n:=RTFn.mono _ _ _ _ b n
 replace j:=j.mono b
 replace m:=RTE.mono _ _ _ _ b m
 replace r:=RFnd.mono _ _ _ _ b r
 obtain rfl:a0=zTE:=S
 replace N:Mem Ψr_ (.blk v (ob [.int .i64 ((0:Nat):Int),.string ⟨#[]⟩,.string ⟨#[]⟩,.int .i64 ((0:Nat):Int),.int .i64 ((0:Nat):Int),.slice none 0 0,.slice none 0 0,.slice none 0 0] 48)::.blk H (ob [.slice P path.length c23,.slice R up.length I,.pointer (some M)] 90)::.blk E (ob [.pointer (some pf)] 102)::yA (Dk::[])++K) w:=Mem.mid (A:=[.blk Dk (.deferred (some []))]) (B:=[.blk v (ob [.int .i64 ((0:Nat):Int),.string ⟨#[]⟩,.string ⟨#[]⟩,.int .i64 ((0:Nat):Int),.int .i64 ((0:Nat):Int),.slice none 0 0,.slice none 0 0,.slice none 0 0] 48),.blk H (ob [.slice P path.length c23,.slice R up.length I,.pointer (some M)] 90),.blk E (ob [.pointer (some pf)] 102)]) (C:=K) N
 replace N:=N.nm
 refine go fun a J=>?_
 apply L0
 refine qY ?_
 refine yE fun a J=>?_
 refine Qq (fun a J=>?_) (o:=by exact fun J O=>yM J rfl runUnderlying189 (by intro ms h;cases h))
 refine st0 J rfl rfl (jZ J rfl (xC _) (fun a hd=>hQ _ _ _ (oV [.blk v (ob [.int .i64 ((0:Nat):Int),.string ⟨#[]⟩,.string ⟨#[]⟩,.int .i64 ((0:Nat):Int),.int .i64 ((0:Nat):Int),.slice none 0 0,.slice none 0 0,.slice none 0 0] 48),.blk H (ob [.slice P path.length c23,.slice R up.length I,.pointer (some M)] 90),.blk E (ob [.pointer (some pf)] 102)] (ds:=[Dk]) hd N fun w N=>?_)))
 replace N:=N.le ((g.1).trans b)
 rw [<- cD up,(z1w ⟨T,F⟩ e (vN up up.length)).2.1 _ hr_];exact ⟨rfl,N⟩
 replace l:=l.mono b
 replace k:=k.mono b
 replace n:=RTFn.mono _ _ _ _ b n
 replace j:=j.mono b
 replace m:=RTE.mono _ _ _ _ b m
 replace r:=RFnd.mono _ _ _ _ b r
 obtain ⟨t_,D1,u0⟩:=S
 replace N:Mem Ψr_ (.blk v (ob a0 48)::.blk H (ob [.slice P path.length c23,.slice R up.length I,.pointer (some M)] 90)::.blk E (ob [.pointer (some pf)] 102)::yA (Dk::[])++K) w:=Mem.mid (A:=[.blk Dk (.deferred (some []))]) (B:=[.blk v (ob a0 48),.blk H (ob [.slice P path.length c23,.slice R up.length I,.pointer (some M)] 90),.blk E (ob [.pointer (some pf)] 102)]) (C:=K) N
 replace N:=N.nm
 replace N:=N.dl [2,1]
 replace N:Mem Ψr_ (yA [Dk]++(.blk v (ob a0 48)::K)) w:=Mem.mid (A:=[.blk v (ob a0 48)]) (B:=yA [Dk]) (C:=K) N
 refine hQ _ _ _ (y8v (ds:=[Dk]) J results152 rfl isAgg48 (by rw [u0.len];exact sizeOf48) N fun w N=>?_)
 subst D1
 rw [<- cD up,(z1w ⟨T,F⟩ e (vN up up.length)).2.2 _ hr_]
 exact ⟨(Ψr_,a0),rfl,⟨(g.1).trans b,u0⟩,N⟩
 replace l:=l.mono b
 replace k:=k.mono b
 replace n:=RTFn.mono _ _ _ _ b n
 replace j:=j.mono b
 replace m:=RTE.mono _ _ _ _ b m
 replace r:=RFnd.mono _ _ _ _ b r
 replace N:=N.le ((g.1).trans b)
 refine hQ _ _ _ (panX (ds:=[Dk]) J.defs N fun w N=>?_)
 rw [<- cD up,(z1w ⟨T,F⟩ e (vN up up.length)).1 hr_]
 exact ⟨rfl,N⟩
 all_goals (refine Or.inr ⟨U,?_⟩;rw [V];exact ⟨rfl,Ψr_,_,Fz.Le.refl _,rfl,N⟩)
abbrev refusedVT:Value:=.iface 189 (.agg #[])
set_option maxRecDepth 20000 in
set_option maxHeartbeats 4000000 in
theorem y1s {Φ:Fz} {K:List Res} {w:World} {b d:Nat} (N:Mem Φ (.blk b (ob zTE 48)::.blk d (ob [.bool false] 4)::K) w) :
  CallsD prog 121 #[.pointer (some ⟨b,0,none⟩),.pointer (some ⟨d,0,none⟩)] (.panicking vB) w fun e u' w'=>
   e=.returned (.tuple #[])/\u'=.panicking [{ v:=refusedVT,recovered:=true }]/\Mem Φ (.blk b (ob zTE 48)::.blk d (ob [.bool false] 4)::K) w':=by
 generalize k:(fun (e:Ending) (u':FrameMode) (w':World)=>e=.returned (.tuple #[])/\u'=.panicking [{ v:=refusedVT,recovered:=true }]/\Mem Φ (.blk b (ob zTE 48)::.blk d (ob [.bool false] 4)::K) w')=R
 refine callsD_of_wpS func121 rfl fun c₀ cs n=>?_
 apply wpS_seq
 apply wpS_region
 show wpOpsS prog _ _ [0,1] _ _ _
 simp [wpOpsS,go_sem,recoverD,n,ntmps121,Exit.thenS,vB]
 refine wpS_of_wp ?_
 generalize l:(_::cs:List Frame)=cs'
 have hQ:∀(a:Act) (w':World),a.defers=[]->Mem Φ (.blk b (ob zTE 48)::.blk d (ob [.bool false] 4)::K) w'->bodyPostS prog Tryz.f121 c₀ cs R .normal a cs' w':=fun a w' m N=>
  ⟨m,.panicking [{ v:=refusedVT,recovered:=true }],l.symm,.tuple #[],results_none rfl _ _ _,by subst k;exact ⟨rfl,rfl,N⟩⟩
 generalize c:(Act.mk _ [])=a
 have J:EnvR 17 [(2,refusedVT),(5,refusedVT),(1,.pointer (some ⟨d,0,none⟩)),(0,.pointer (some ⟨b,0,none⟩))] [] a:=by
  subst c
  refine ⟨by simp,fun t v h=>?_,rfl⟩
  obtain ⟨rfl,rfl⟩ | ⟨_,h⟩:=xR h
  ·rfl
  ·obtain ⟨rfl,rfl⟩ | ⟨_,h⟩:=xR h
   ·rfl
   ·obtain ⟨rfl,rfl⟩ | ⟨_,h⟩:=xR h
    ·rfl
    ·obtain ⟨rfl,rfl⟩ | ⟨_,h⟩:=xR h
     ·rfl
     ·cases h
 clear c
 refine sq fun o f=>?_
 refine wp_region_lit ?_
 refine xK J (yX J rfl) rfl fun a J=>
  xK J (jC (v:=.bool true) J rfl rfl rfl (by kernel_rfl)) rfl fun a J=>?_
 refine wpList_nil ?_
 apply f
 refine if_t J rfl ?_
 refine sq fun r j=>?_
 refine sq fun p g=>?_
 refine wp_region_lit ?_
 refine xK J (yX J rfl) rfl fun a J=>?_
 refine xK J (y1l J rfl runUnderlying189 (by intro ms h;cases h)) rfl fun a J=>?_
 refine xK J (yX J rfl) rfl fun a J=>
  xK J (xJ J rfl rfl) rfl fun a J=>
  xK J (xJ J rfl rfl) rfl fun a J=>?_
 refine st J rfl rfl rfl (qP (cs:=[]) N zeroValue189 rfl fun s w N a J=>?_)
 refine st0 J rfl rfl (zQ 0 (cs:=[]) (vs:=[]) J N rfl rfl rfl rfl sizeOf189 rfl rfl rfl fun w N a J=>?_)
 refine xK J (qW J rfl) rfl fun a J=>?_
 refine wpList_nil ?_
 apply g
 refine sq fun q i=>?_
 refine wp_region_lit ?_
 refine xK J (yX J rfl) rfl fun a J=>
  xK J (z5v J rfl) rfl fun a J=>?_
 refine wpList_nil ?_
 apply i
 refine if_f J rfl ?_
 refine wp_skip ?_
 apply j
 refine wp_region_lit ?_
 refine xK J (jP (vs:=[]) (cs:=zTE) J rfl (by kernel_rfl)) rfl fun a J=>?_
 refine st0 J rfl rfl (zQ 1 (cs:=zTE) (vs:=zTE) J N rfl rfl rfl rfl sizeOf48 rfl rfl rfl fun w N a J=>?_)
 refine st0 J rfl rfl (zQ 2 (cs:=[.bool false]) (vs:=[.bool false]) J N rfl rfl rfl rfl sizeOf4 rfl rfl rfl fun w N a J=>?_)
 refine wpList_nil ?_
 replace N:Mem Φ (.blk b (ob zTE 48)::.blk d (ob [.bool false] 4)::K) w:=N.del 0
 exact hQ _ _ J.defs N
set_option maxRecDepth 20000 in
set_option maxHeartbeats 4000000 in
theorem still_refused {w:World} {b g:Nat} :
  CallsD prog 121 #[.pointer (some ⟨b,0,none⟩),.pointer (some ⟨g,0,none⟩)] .returning w fun e u' w'=>e=.returned (.tuple #[])/\u'=.returning/\w'=w:=by
 generalize i:(fun (e:Ending) (u':FrameMode) (w':World)=>e=.returned (.tuple #[])/\u'=.returning/\w'=w)=R
 refine callsD_of_wpS func121 rfl fun c₀ cs f=>?_
 apply wpS_seq
 apply wpS_region
 show wpOpsS prog _ _ [0,1] _ _ _
 simp [wpOpsS,go_sem,recoverD,f,ntmps121,Exit.thenS,vB]
 refine wpS_of_wp ?_
 have hQ:∀(a:Act),a.defers=[]->bodyPostS prog Tryz.f121 c₀ cs R .normal a (c₀::cs) w:=fun a j=>
  ⟨j,.returning,by cases c₀;simp only at f;subst f;rfl,.tuple #[],results_none rfl _ _ _,by subst i;exact ⟨rfl,rfl,rfl⟩⟩
 generalize c:(Act.mk _ [])=a
 have J:EnvR 17 [(2,.nilIface),(5,.nilIface),(1,.pointer (some ⟨g,0,none⟩)),(0,.pointer (some ⟨b,0,none⟩))] [] a:=by
  subst c
  refine ⟨by simp,fun t v h=>?_,rfl⟩
  obtain ⟨rfl,rfl⟩ | ⟨_,h⟩:=xR h
  ·rfl
  ·obtain ⟨rfl,rfl⟩ | ⟨_,h⟩:=xR h
   ·rfl
   ·obtain ⟨rfl,rfl⟩ | ⟨_,h⟩:=xR h
    ·rfl
    ·obtain ⟨rfl,rfl⟩ | ⟨_,h⟩:=xR h
     ·rfl
     ·cases h
 clear c
 refine sq fun k d=>?_
 refine wp_region_lit ?_
 refine xK J (yX J rfl) rfl fun a J=>
  xK J (jC (v:=.bool false) J rfl rfl rfl (by kernel_rfl)) rfl fun a J=>?_
 refine wpList_nil ?_
 apply d
 refine if_f J rfl ?_
 refine wp_skip ?_
 exact hQ _ J.defs
theorem dS {P:Program} {fn:Func} {n:Nat} {E:List (Nat×Value)} {D:List Deferred} {a:Act} {Φ:Fz} {K:List Res} {w:World} {t T b i k t' T' b' i':Nat} {cs:List Value} {T0 T0':TypeId} {v:Value} (J:EnvR n E D a) (N:Sees Φ K w) (l:fn.results=#[.cell t T,.cell t' T']) (c:get E t=some (.pointer (some ⟨b,0,none⟩)))
  (j:yV K i=some (.blk b (ob cs T0))) (h:AggT P T) (g:SizeT P T k) (hl:cs.length=k) (hv':get E t'=some (.pointer (some ⟨b',0,none⟩))) (hk':yV K i'=some (.blk b' (ob [v] T0'))) (hT':Scalar P T'):(results fn a.tmps).run P w=.ok (.tuple #[.agg cs.toArray,v]) w:=by
 have e:=q0f (P:=P) J N c j h g hl
 have d:w.cell? ⟨b',0,none⟩=some v:=N.cell hk' 0
 have f:(loadVar T' ⟨b',0,none⟩).run P w=.ok v w:=by simp [loadVar,Sem.run_bind,hT' w,Result.andThen,load,Sem.run,d]
 simp [results,l,Array.getD_eq_getD_getElem?,J.env t _ c,J.env t' _ hv',asAddr,e,f,Sem.run_bind,Result.andThen]
def oB (g:Nat×TE->Option (Option TE)) (s:Option TE) (y:Nat×TE):Option TE×Bool:=match g y with | none=>(s,true) | some r=>(r,false)
def sR (g:Nat×TE->Option (Option TE)) (_:Option TE) (y:Nat×TE):Bool:=match g y with | some none=>true | _=>false
def oU (g:Nat×TE->Option (Option TE)):List (Nat×TE)->Option TE
 | []=>none
 | y::l=>match g y with | none=>oU g l | some r=>r
section
variable {g:Nat×TE->Option (Option TE)} {y:Nat×TE} {s:Option TE} {t:TE}
theorem oC (h:g y=none):sR g s y=false/\oB g s y=(s,true):=by unfold sR oB;rw [h];exact ⟨rfl,rfl⟩
theorem z9e (h:g y=some (some t)):sR g s y=false/\oB g s y=(some t,false):=by unfold sR oB;rw [h];exact ⟨rfl,rfl⟩
theorem sS (h:g y=some none):sR g s y=true:=by unfold sR;rw [h]
end
theorem z0o (g:Nat×TE->Option (Option TE)):∀L:List (Nat×TE),(aU (oB g) (sR g) none L=none->oU g L=none)/\(∀t,aU (oB g) (sR g) none L=some (t,true)->oU g L=none)/\(∀t,aU (oB g) (sR g) none L=some (t,false)->oU g L=t)
 | []=>⟨(fun h=>by cases h),(fun t _=>rfl),(fun t h=>by cases h)⟩
 | y::L=>by
  cases b:g y with
  | none=>
   obtain ⟨c,a⟩:=oC (s:=none) b
   rw [z2s c (by rw [a]),a,oU,b]
   exact z0o g L
  | some r=>
   rw [oU,b]
   cases r with
   | none=>rw [z2r (sS b)];exact ⟨(fun _=>rfl),(fun t h=>by cases h),(fun t h=>by cases h)⟩
   | some t=>
    obtain ⟨c,a⟩:=z9e (s:=none) b
    rw [z6v c (by rw [a]),a]
    exact ⟨(fun h=>by cases h),(fun t h=>by cases h),(fun t h=>by cases h;rfl)⟩
def fwdG (f:FnS) (e y:TE):Option TE:=(f.prog.funs[gC f.prog y.op]?).bind fun g=>match g.params with
 | [p]=>if g.body.kind=9/\(xD g.body 0).name=p.name then f.put [(e.name,xD y 0)] (xT e) else none
 | _=>none
def z1x (f:FnS) (e:TE) (y:Nat×TE):Option (Option TE):=if y.2.kind=4/\y.2.name=(xD e 0).name then some (fwdG f e y.2) else none
theorem z6s (f:FnS) (e:TE):∀L:List (Nat×TE),oU (z1x f e) L=f.forward e (L.map Prod.snd)
 | []=>rfl
 | (i,y)::L=>by
  rw [oU,List.map_cons,FnS.forward,z6s f e L]
  unfold z1x
  by_cases h:y.kind=4/\y.name=(xD e 0).name
  rw [if_pos h,if_pos h];rfl
  rw [if_neg h,if_neg h]
theorem j3p {f:FnS} {e y:TE} {i:Nat} (h:¬y.kind=4):z1x f e (i,y)=none:=if_neg fun a=>h a.1
theorem j3q {f:FnS} {e y:TE} {a:Atom} {i:Nat} (c:e.args[0]? = some a) (h:¬y.name=a.name):z1x f e (i,y)=none:=if_neg fun b=>h (by rw [b.2,qX c])
theorem z1y {f:FnS} {e y:TE} {a:Atom} {i:Nat} (c:y.kind=4) (b:e.args[0]? = some a) (h:y.name=a.name):z1x f e (i,y)=some (fwdG f e y):=if_pos ⟨c,by rw [h,qX b]⟩
theorem q1b {f:FnS} {e y z:TE} {b c:Atom} {g:TFn} {p:TPar} {q:Nat} (hq:gC f.prog y.op=q) (i:f.prog.funs[q]? = some g) (hl:g.params.length=1) (d:g.params[0]? = some p) (j:g.body.kind=9) (hb:g.body.args[0]? = some b) (k:b.name=p.name) (h:y.args[0]? = some c) (l:xT e=z):fwdG f e y=f.put [(e.name,c)] z:=by
 unfold fwdG;rw [hq,i,Option.bind_some]
 match a:g.params with
 | []=>rw [a] at hl;simp at hl
 | [p1]=>
  rw [a,List.getElem?_cons_zero] at d;cases d
  simp only
  rw [if_pos ⟨j,by rw [qX hb];exact k⟩,qX h,l]
 | _::_::_=>rw [a] at hl;simp at hl
theorem y6a {f:FnS} {e y:TE} {g:TFn} {q:Nat} (hq:gC f.prog y.op=q) (b:f.prog.funs[q]? = some g) (h:∀p,g.params=[p]->¬(g.body.kind=9/\(xD g.body 0).name=p.name)):fwdG f e y=none:=by
 unfold fwdG;rw [hq,b,Option.bind_some]
 match a:g.params with
 | []=>rfl
 | [p1]=>simp only;rw [if_neg (h p1 a)]
 | _::_::_=>rfl
theorem atM_lt (n:Bs):∀(l:List TFn) (k:Nat) (m:List (Bs×Int)),(∀v,yC m n=some v->∃q:Nat,v=(q:Int)/\q < k)->∀v,yC (atM k l m) n=some v->∃q:Nat,v=(q:Int)/\q < k+l.length
 | [],k,m,h,v,a=>by simpa using h v a
 | f::l,k,m,h,v,a=>by
  rw [atM] at a
  obtain ⟨q,b,c⟩:=atM_lt n l (k+1) _ (fun v a=>by
   rw [xS] at a
   split at a
   cases a;exact ⟨k,rfl,by omega⟩
   obtain ⟨q,b,c⟩:=h v a;exact ⟨q,b,by omega⟩) v a
  exact ⟨q,b,by rw [lcQ];omega⟩
theorem fun_at {T:Trc} {F:TFn} (b:F∈T.funs) (n:Bs):∃q:Nat,(yC (atM 0 T.funs []) n).getD 0=((q:Nat):Int)/\q < T.funs.length/\gC T n=q:=by
 cases h:yC (atM 0 T.funs []) n with
 | none=>exact ⟨0,rfl,List.length_pos_of_mem b,by unfold gC;rw [h];rfl⟩
 | some v=>
  obtain ⟨q,a,d⟩:=atM_lt n T.funs 0 [] (fun v c=>by cases c) v h
  subst a
  exact ⟨q,rfl,by omega,by unfold gC;rw [h];rfl⟩
theorem y9r (n:Bs):∀(l:List TFn) (k:Nat) (m:List (Bs×Int)) (L:List TFn),(∀i f,l[i]? = some f->L[k+i]? = some f)->(∀v,yC m n=some v->∃g,L[v.toNat]? = some g/\g.name=n)->((∃g∈l,g.name=n)∨(yC m n).isSome)->∃v g,yC (atM k l m) n=some v/\L[v.toNat]? = some g/\g.name=n
 | [],k,m,L,_,N,h=>by
  rcases h with ⟨g,b,_⟩ | h
  cases b
  obtain ⟨v,a⟩:=Option.isSome_iff_exists.1 h
  obtain ⟨g,e,j⟩:=N v a
  exact ⟨v,g,a,e,j⟩
 | f::l,k,m,L,hl,N,h=>by
  rw [atM]
  refine y9r n l (k+1) _ L (fun i f o=>by have:=hl (i+1) f (by simpa using o);rw [show k+1+i=k+(i+1) from by omega];exact this) (fun v a=>?_) ?_
  rw [xS] at a
  split at a
  rename_i d
  cases a
  exact ⟨f,by rw [Int.toNat_natCast];exact hl 0 f rfl,d.symm⟩
  exact N v a
  by_cases d:n=f.name
  exact .inr (by rw [xS,if_pos d];rfl)
  rcases h with ⟨g,b,c⟩ | h
  rcases List.mem_cons.1 b with rfl | b
  exact absurd c.symm d
  exact .inl ⟨g,b,c⟩
  exact .inr (by rw [xS,if_neg d];exact h)
theorem y3d {T:Trc} {n:Bs} (h:∃g∈T.funs,g.name=n):∃g,T.funs[gC T n]? = some g/\g.name=n:=by
 obtain ⟨v,g,a,b,c⟩:=y9r n T.funs 0 [] T.funs (fun i f d=>by rw [Nat.zero_add];exact d) (fun v e=>by cases e) (.inl h)
 exact ⟨g,by unfold gC;rw [a];exact b,c⟩
theorem up_call {T:Trc} {F:TFn} {path:List Int} {up:List TE} {e y:TE} {i:Nat} (GP:GoodP T) (k:F∈T.funs) (m:(⟨path,up,e⟩:Fnd)∈zE [] [] F.body) (h:up[i]? = some y) (l:y.kind=4) {q:Nat} {g:TFn} (hq:gC T y.op=q) (f:T.funs[q]? = some g):g.params.length=y.args.length:=by
 rcases y9x m y (mgQ h) with a | ⟨z,a,c⟩
 simp at a
 have b:=GP.cl F k z a (.inr (.inl (by rw [c];exact l)))
 rw [c] at b
 obtain ⟨n,d,j⟩:=y3d b.ex
 rw [hq,f] at d
 cases d
 exact b.all _ (mgQ f) j
theorem q6h {g:TFn} {p:TPar} {b:Atom} (a:g.params[0]? = some p) (hb:g.body.args[0]? = some b) (c:¬b.name=p.name):∀q,g.params=[q]->¬(g.body.kind=9/\(xD g.body 0).name=q.name):=fun q hq h=>by
 rw [hq,List.getElem?_cons_zero] at a;cases a
 exact c (by rw [<- qX hb];exact h.2)
theorem q6g {Φ:Fz} {K:List Res} {w:World} {pf:Addr} {T:Trc} {F:TFn} {c:List Value} {path:List Int} {up:List TE} {e:TE} {num:Int} (RF:RFnO Φ pf T F) (GP:GoodP T) (hF:F∈T.funs) (hx:(⟨path,up,e⟩:Fnd)∈zE [] [] F.body) (rf:RFnd Φ c ⟨path,up,e⟩) (G:Glob Φ) (hk:e.kind=5) (N:Mem Φ K w) :
  Calls prog 154 #[.pointer (some pf),.agg c.toArray,.int .i64 num] w (fun ee w'=>Out (xL (FnS.forward ⟨T,F⟩ e up.reverse)) (fun z=>∃q:Fz×List Value,ee=.returned (.agg q.2.toArray)/\(Φ.Le q.1/\RTE q.1 q.2 z)/\Mem q.1 K w') (fun _=>ee=.panicked vB/\Mem Φ K w')):=by
 have v:=rf
 have D1:GI e:=nR (kZ (GP.gd F hF) hx)
 obtain ⟨T4,o3,N4,M4,F4,r,p,u,Q1,R2,Q2⟩:=RF.ex
 obtain ⟨E3,i3,k,P0,V⟩:=Q1.ex
 have m:=P0
 obtain ⟨k3,c21,l3,c2,m3,d2,n3,e2,rfl,R3,G4,H4,D0,I4,W3,f4,X3,g4,Y3,N1,Z3,h4⟩:=RTrc.fm P0
 replace k:At Φ o3 [.slice k3 T.cons.length c21,.slice l3 T.inputs.length c2,.slice m3 T.funs.length d2,.slice n3 T.outputs.length e2,.map (some i3)]:=k
 obtain ⟨q3,r3,X,E4,rfl,P3,Q3,M0,W,n,t0⟩:=id rf
 replace M0:SliceOf RInt Φ 1 q3 path:=M0
 replace W:SliceOf RPtE Φ 1 r3 up:=W
 replace t0:RTE Φ _ e:=t0
 obtain ⟨Y,R,rfl,S2,i4⟩:=M0.fm
 obtain ⟨Z,S,rfl,T2,j4⟩:=W.fm
 have t:=t0
 obtain ⟨P4,A4,Q4,B4,R4,C4,rfl,S3,T3,E0,J4,F0,a4,O1,b4,k4,d4,P1⟩:=RTE.fm t0
 have K1:=D1.ar.one (.inl hk)
 have U3:e.args.length=1:=K1
 have L1:0 < e.args.length:=by omega
 have V3:e.body.length=1:=D1.ar.rest (by omega) (by omega)
 have M1:0 < e.body.length:=by omega
 refine z6p func154 rfl ntmps154 rfl (fun Q hQ a J=>?_)
 refine sqB fun x4 H1=>?_
 refine qY ?_
 refine Bx fun M w N a J=>?_
 refine Bx fun P w N a J=>?_
 refine Alc fun H w N a J=>?_
 refine go fun a J=>?_
 apply H1
 refine sqB fun y4 I1=>?_
 refine sqB fun z4 J1=>?_
 refine qY ?_
 refine yF call189 (fun W4 w l N a J=>?_) (c:=z7q W N)
 replace r:=r.mono l.1
 replace p:=p.mono l.1
 replace u:=RTFn.mono _ _ _ _ l.1 u
 replace RF:=RF.mono l.1
 replace D0:=D0.mono RTFn.mono l.1
 replace m:=RTrc.mono _ _ _ _ l.1 m
 replace k:=k.mono l.1
 replace V:=V.mono l.1
 replace W:=W.mono RPtE.mono l.1
 replace E0:=E0.mono RAtom.mono l.1
 replace F0:=F0.mono RTE.mono l.1
 replace n:=n.mono l.1
 replace t:=RTE.mono _ _ _ _ l.1 t
 replace v:=RFnd.mono _ _ _ _ l.1 v
 have j1:=l.2
 try dsimp only [zTE] at N
 replace N:=N.nf
 refine go fun a J=>?_
 apply J1
 refine z0a ?_
 refine oO (p1:=13) (p2:=14) RBk (vN up up.length) .ret (oB (z1x ⟨T,F⟩ e)) (sR (z1x ⟨T,F⟩ e)) GRes (fun _ _ z_=>.blk H (ob z_ 48)::.blk P (ob [.slice Y path.length R,.slice Z up.length S,.pointer (some X)] 90)::.blk M (ob [.pointer (some pf)] 102)::K) (K) none zTE func154 J rfl N rfl call213 rfl rfl GRes.mono (fun Ψr_ s_ z_ U4 V4 x_ l_ O4 j3 b2 a w d R1 v1 d0 J N=>?_) (uY j1 W) (fun p3 hr_ Dk Ψr_ r0 a w d d0 J N=>?_) (fun p3 hr_ Dk Ψr_ r0 a w d d0 J N=>?_) (fun hr_ Dk Ψr_ a w d J N=>?_)
 obtain ⟨i_,y_⟩:=x_
 obtain ⟨Z0,p_,d_,w1,X0,O0⟩:=v1
 simp only at Z0 O0
 injection w1 with w1 _
 subst Z0 w1
 obtain rfl:z_=zTE:=d0
 have a1:=dY R1
 simp only at a1
 have N0:=O0
 replace r:=r.mono d
 replace p:=p.mono d
 replace u:=RTFn.mono _ _ _ _ d u
 replace RF:=RF.mono d
 replace D0:=D0.mono RTFn.mono d
 replace m:=RTrc.mono _ _ _ _ d m
 replace k:=k.mono d
 replace V:=V.mono d
 replace E0:=E0.mono RAtom.mono d
 replace F0:=F0.mono RTE.mono d
 replace n:=n.mono d
 replace t:=RTE.mono _ _ _ _ d t
 replace v:=RFnd.mono _ _ _ _ d v
 try dsimp only [zTE] at N
 replace N:=N.nf
 obtain ⟨S4,D4,l4,A3,m4,B3,rfl,n2,o2,m2,F3,G3,e4,o1,E2,U2,F2,V2⟩:=RTE.fm O0
 refine xG ?_
 refine zH J (by intro c h;cases h) (qW J rfl) rfl fun a J=>?_
 refine zY ?_
 refine ⟨_,N,fun w N=>?_⟩
 try dsimp only [zTE] at N
 replace N:=N.nf
 refine gA ?_
 refine sqI fun u3 f1=>?_
 refine sqI fun v3 g0=>?_
 try dsimp only [zTE] at N
 refine qR [1,1,1,2,1,1,1,1,1,2,1,2,1,1,2,1,1,2,1,1] (.q 0 (.q 1 (.q 2 (.q 3 (.q 4 (.q 5 (.q 6 (.q 7 (.q 8 (.q 9 (.q 10 (.q 11 (.q 12 (.q 13 (.q 14 (.q 15 (.q 16 (.q 17 (.q 18 (.q 19 (.done))))))))))))))))))))) [.blk H (ob [.int .i64 ((0:Nat):Int),.string ⟨#[]⟩,.string ⟨#[]⟩,.int .i64 ((0:Nat):Int),.int .i64 ((0:Nat):Int),.slice none 0 0,.slice none 0 0,.slice none 0 0] 48),.blk P (ob [.slice Y path.length R,.slice Z up.length S,.pointer (some X)] 90),.blk M (ob [.pointer (some pf)] 102)] J N mixed (by kernel_rfl) (by simp) (by kernel_rfl) fun w N=>?_
 by_cases U:y_.kind=4
 refine go fun a J=>?_
 obtain ⟨r4,rfl,Y1,L,f2,y2,G0,i0⟩:=E0.el O1 L1
 obtain ⟨rfl,q2⟩:=id i0
 by_cases a0:y_.name=Y1.name
 refine go fun a J=>?_
 apply g0
 refine wE J rfl ?_
 refine wS ?_
 apply f1
 refine sqI fun w3 g1=>?_
 try dsimp only [zTE] at N
 refine qR [2,1,1,2,1,1,1,2,2,1,1,2,1,1,2,1,1,1,2,2,1,2,0,0] (.q 0 (.q 1 (.q 2 (.q 3 (.q 4 (.q 5 (.q 6 (.q 7 (.q 8 (.q 9 (.q 10 (.q 11 (.q 12 (.q 13 (.q 14 (.q 15 (.q 16 (.q 17 (.q 18 (.q 19 (.q 20 (.q 21 (.e 22 (.e 23 (.done))))))))))))))))))))))))) [.blk H (ob [.int .i64 ((0:Nat):Int),.string ⟨#[]⟩,.string ⟨#[]⟩,.int .i64 ((0:Nat):Int),.int .i64 ((0:Nat):Int),.slice none 0 0,.slice none 0 0,.slice none 0 0] 48),.blk P (ob [.slice Y path.length R,.slice Z up.length S,.pointer (some X)] 90),.blk M (ob [.pointer (some pf)] 102)] J N mixed (by kernel_rfl) (by simp) (by kernel_rfl) fun w N=>?_
 refine Qq (fun a J=>?_) (o:=by exact fun J O=>Ok.cast (yT runUnderlying98 runUnderlying9 zeroValue3 J O rfl rfl V) (vP (atM 0 T.funs []) y_.op))
 obtain ⟨s4,s1,t1,I⟩:=fun_at hF y_.op
 rw [s1] at J
 obtain ⟨t4,rfl,i,D,g2,z2,H0,j0⟩:=D0.el N1 t1
 obtain ⟨S1,x0,z3,rfl,E1,B0,G2,q1⟩:=RTFn.fm j0
 obtain ⟨T1,y0,R0,z0,S0,A0,rfl,r2,s2,F1,H3,I3,H2,r1,I2,W2,J2,X2⟩:=RTE.fm B0
 refine Alc fun w0 w N a J=>?_
 refine Sto 0 fun w N a J=>?_
 refine go fun a J=>?_
 apply g1
 refine sqI fun x3 h1=>?_
 try dsimp only [zTE] at N
 refine qR [1,2,1,1,1,1,1,2,1,1,1,1,1,2,1,1,2,1,2,1,1,2,1,1,0] (.q 0 (.q 1 (.q 2 (.q 3 (.q 4 (.q 5 (.q 6 (.q 7 (.q 8 (.q 9 (.q 10 (.q 11 (.q 12 (.q 13 (.q 14 (.q 15 (.q 16 (.q 17 (.q 18 (.q 19 (.q 20 (.q 21 (.q 22 (.q 23 (.e 24 (.done)))))))))))))))))))))))))) [.blk w0 (ob [.string i.name,.bool i.chg,.slice S1 i.params.length x0,.int .i64 (i.body.kind),.string i.body.name,.string i.body.op,.int .i64 (i.body.num),.int .i64 (i.body.site),.slice T1 i.body.args.length y0,.slice R0 i.body.arms.length z0,.slice S0 i.body.body.length A0] 50),.blk H (ob [.int .i64 ((0:Nat):Int),.string ⟨#[]⟩,.string ⟨#[]⟩,.int .i64 ((0:Nat):Int),.int .i64 ((0:Nat):Int),.slice none 0 0,.slice none 0 0,.slice none 0 0] 48),.blk P (ob [.slice Y path.length R,.slice Z up.length S,.pointer (some X)] 90),.blk M (ob [.pointer (some pf)] 102)] J N mixed (by kernel_rfl) (by simp) (by kernel_rfl) fun w N=>?_
 by_cases C0:i.params.length=1
 by_cases s0:i.body.kind=9
 have l1:0 < i.body.args.length:=by have h_:=(nR (GP.gd _ (mgQ D))).ar.one (.inr (.inr (.inr s0)));omega
 have m1:0 < i.params.length:=by omega
 refine go fun a J=>?_
 obtain ⟨b1,rfl,Z1,o0,h2,A2,I0,k0⟩:=F1.el r1 l1
 obtain ⟨rfl,t2⟩:=id k0
 refine go fun a J=>?_
 obtain ⟨c1,rfl,a2,p0,i2,B2,J0,l0⟩:=E1.el q1 m1
 obtain rfl:=id l0
 refine Qq (fun a J=>?_) (o:=by exact fun J O=>z3j J rfl rfl)
 refine go fun a J=>?_
 refine d_e J rfl rfl rfl (aZ J rfl call188 (xU (b:=(decide (Z1.name=a2.name))) N) (fun X1 w b0 N=>⟨fun _=>N.sn (Fz.Le.refl _),fun a J=>?_⟩) (fun X1 w b0 N=>fun a hd=>?_))
 refine go fun a J=>?_
 apply h1
 refine sqI fun y3 i1=>?_
 try dsimp only [zTE] at N
 refine qR [2,1,2,1,1,2,1,2,0,1,2,1,1,2,1,1,1,2,1,2,0,1,0,0] (.q 0 (.q 1 (.q 2 (.q 3 (.q 4 (.q 5 (.q 6 (.q 7 (.q 9 (.q 10 (.q 11 (.q 12 (.q 13 (.q 14 (.q 15 (.q 16 (.q 17 (.q 18 (.q 19 (.e 8 (.e 20 (.q 21 (.e 22 (.e 23 (.done))))))))))))))))))))))))) [.blk w0 (ob [.string i.name,.bool i.chg,.slice (some c1) i.params.length x0,.int .i64 (i.body.kind),.string i.body.name,.string i.body.op,.int .i64 (i.body.num),.int .i64 (i.body.site),.slice (some b1) i.body.args.length y0,.slice R0 i.body.arms.length z0,.slice S0 i.body.body.length A0] 50),.blk H (ob [.int .i64 ((0:Nat):Int),.string ⟨#[]⟩,.string ⟨#[]⟩,.int .i64 ((0:Nat):Int),.int .i64 ((0:Nat):Int),.slice none 0 0,.slice none 0 0,.slice none 0 0] 48),.blk P (ob [.slice Y path.length R,.slice Z up.length S,.pointer (some X)] 90),.blk M (ob [.pointer (some pf)] 102)] J N mixed (by kernel_rfl) (by simp) (by kernel_rfl) fun w N=>?_
 refine go fun a J=>?_
 obtain ⟨u4,rfl,w4,q0,j2,C2,K0,c0⟩:=F0.el P1 M1
 obtain ⟨n4,C3,o4,D3,p4,c213,rfl,u2,v2,J3,K3,L3,K2,Y2,L2,Z2,M2,a3⟩:=RTE.fm c0
 refine go fun a J=>?_
 have n1:0 < y_.args.length:=by have h_:=up_call GP hF hx a1 U I D;omega
 obtain ⟨v4,rfl,d1,Q0,k2,D2,L0,m0⟩:=m2.el o1 n1
 obtain ⟨rfl,k1⟩:=id m0
 refine MkM fun z1 w N a J=>?_
 try dsimp only [zTE] at N
 replace N:=N.nf
 refine aE J rfl rfl (pM 0 runUnderlying151 runUnderlying9 J N rfl rfl rfl rfl fun w N=>⟨fun _=>N.sn (Fz.Le.refl _),fun a J=>?_⟩)
 replace N:Mem Ψr_ (.mp z1 (xZ (qJ [] e.name d1))::.blk w0 (ob [.string i.name,.bool i.chg,.slice (some c1) i.params.length x0,.int .i64 (i.body.kind),.string i.body.name,.string i.body.op,.int .i64 (i.body.num),.int .i64 (i.body.site),.slice (some b1) i.body.args.length y0,.slice R0 i.body.arms.length z0,.slice S0 i.body.body.length A0] 50)::.blk l_ j3::.blk H (ob [.int .i64 ((0:Nat):Int),.string ⟨#[]⟩,.string ⟨#[]⟩,.int .i64 ((0:Nat):Int),.int .i64 ((0:Nat):Int),.slice none 0 0,.slice none 0 0,.slice none 0 0] 48)::.blk P (ob [.slice Y path.length R,.slice Z up.length S,.pointer (some X)] 90)::.blk M (ob [.pointer (some pf)] 102)::(K++b2)) w:=by rw [<- wH [] e.name d1];exact N
 refine go fun a J=>?_
 refine d_e J rfl rfl rfl (wA J rfl call186 (oD RF (cI (GP.gd F hF)) (dL k1) c0 (aV (GP.sm hF hx) q0) N) (fun E e1 w h0 j N=>⟨fun _=>N.sn ((Fz.Le.refl _).trans (j.1)),fun a J=>?_⟩) (fun E w h0 N=>fun a hd=>?_))
 replace r:=r.mono j.1
 replace p:=p.mono j.1
 replace u:=RTFn.mono _ _ _ _ j.1 u
 replace m:=RTrc.mono _ _ _ _ j.1 m
 replace k:=k.mono j.1
 replace n:=n.mono j.1
 replace t:=RTE.mono _ _ _ _ j.1 t
 replace v:=RFnd.mono _ _ _ _ j.1 v
 replace X0:=X0.mono j.1
 replace N0:=RTE.mono _ _ _ _ j.1 N0
 replace G0:=G0.mono j.1
 replace i0:=RAtom.mono _ _ _ _ j.1 i0
 replace H0:=H0.mono j.1
 replace j0:=RTFn.mono _ _ _ _ j.1 j0
 replace B0:=RTE.mono _ _ _ _ j.1 B0
 replace I0:=I0.mono j.1
 replace k0:=RAtom.mono _ _ _ _ j.1 k0
 replace J0:=J0.mono j.1
 replace l0:=RTPar.mono _ _ _ _ j.1 l0
 replace K0:=K0.mono j.1
 replace c0:=RTE.mono _ _ _ _ j.1 c0
 replace L0:=L0.mono j.1
 replace m0:=RAtom.mono _ _ _ _ j.1 m0
 have n0:=j.2
 obtain ⟨l2,U0⟩:∃x_,x_=e1.2:=⟨_,rfl⟩
 rw [<- U0] at n0 J
 have u1:=n0
 obtain ⟨U1,A1,V1,B1,W1,C1,rfl,w2,x2,M3,N3,O3,N2,b3,O2,d3,P2,e3⟩:=RTE.fm n0
 try dsimp only [zTE] at N
 replace N:=N.nf
 refine Sto 2 fun w N a J=>?_
 refine go fun a J=>?_
 apply i1
 refine wpIn_ret ?_
 replace N:=N.dl [0]
 obtain ⟨e0,f0⟩:=z9e (g:=z1x ⟨T,F⟩ e) (y:=(i_,y_)) (s:=s_) ((z1y (f:=⟨T,F⟩) U L a0).trans (congrArg some ((q1b (f:=⟨T,F⟩) I D C0 p0 s0 o0 (of_decide_eq_true (zD b0)) Q0 (kT q0)).trans (zR h0))))
 refine Or.inr ⟨e0,?_⟩
 rw [f0]
 exact ⟨rfl,e1.1,[.int .i64 (E.kind),.string E.name,.string E.op,.int .i64 (E.num),.int .i64 (E.site),.slice U1 E.args.length A1,.slice V1 E.arms.length B1,.slice W1 E.body.length C1],j.1,⟨_,rfl,u1⟩,N⟩
 replace N:=N.dl [4,3,2,0]
 exact Or.inl ⟨sS (g:=z1x ⟨T,F⟩ e) (y:=(i_,y_)) (s:=s_) ((z1y (f:=⟨T,F⟩) U L a0).trans (congrArg some ((q1b (f:=⟨T,F⟩) I D C0 p0 s0 o0 (of_decide_eq_true (zD b0)) Q0 (kT q0)).trans (yL h0)))),rfl,hd,Ψr_,Fz.Le.refl _,N⟩
 replace N:=N.dl [4,3,2,0]
 exact Or.inl ⟨sS (g:=z1x ⟨T,F⟩ e) (y:=(i_,y_)) (s:=s_) ((z1y (f:=⟨T,F⟩) U L a0).trans (congrArg some (y6a (f:=⟨T,F⟩) I D (q6h p0 o0 (of_decide_eq_false (zP b0)))))),rfl,hd,Ψr_,Fz.Le.refl _,N⟩
 refine go fun a J=>?_
 refine d_e J rfl rfl rfl (cA J rfl call188 (xU (b:=false) N) (fun w N=>fun a hd=>?_))
 replace N:=N.dl [4,3,2,0]
 exact Or.inl ⟨sS (g:=z1x ⟨T,F⟩ e) (y:=(i_,y_)) (s:=s_) ((z1y (f:=⟨T,F⟩) U L a0).trans (congrArg some (y6a (f:=⟨T,F⟩) I D (fun p_ _ h_=>s0 h_.1)))),rfl,hd,Ψr_,Fz.Le.refl _,N⟩
 refine go fun a J=>?_
 refine d_e J rfl rfl rfl (cA J rfl call188 (xU (b:=false) N) (fun w N=>fun a hd=>?_))
 replace N:=N.dl [4,3,2,0]
 exact Or.inl ⟨sS (g:=z1x ⟨T,F⟩ e) (y:=(i_,y_)) (s:=s_) ((z1y (f:=⟨T,F⟩) U L a0).trans (congrArg some (y6a (f:=⟨T,F⟩) I D (fun p_ f3 _=>C0 (by rw [f3];rfl))))),rfl,hd,Ψr_,Fz.Le.refl _,N⟩
 refine go fun a J=>?_
 apply g0
 refine pT J rfl ?_
 refine z8j ?_
 obtain ⟨e0,f0⟩:=oC (g:=z1x ⟨T,F⟩ e) (y:=(i_,y_)) (s:=s_) (j3q L a0)
 rotate_left
 refine go fun a J=>?_
 apply g0
 refine pT J rfl ?_
 refine z8j ?_
 obtain ⟨e0,f0⟩:=oC (g:=z1x ⟨T,F⟩ e) (y:=(i_,y_)) (s:=s_) (j3p U)
 rotate_left
 replace r:=r.mono d
 replace p:=p.mono d
 replace u:=RTFn.mono _ _ _ _ d u
 replace m:=RTrc.mono _ _ _ _ d m
 replace k:=k.mono d
 replace n:=n.mono d
 replace t:=RTE.mono _ _ _ _ d t
 replace v:=RFnd.mono _ _ _ _ d v
 obtain rfl:r0=zTE:=d0
 replace N:Mem Ψr_ (.blk H (ob [.int .i64 ((0:Nat):Int),.string ⟨#[]⟩,.string ⟨#[]⟩,.int .i64 ((0:Nat):Int),.int .i64 ((0:Nat):Int),.slice none 0 0,.slice none 0 0,.slice none 0 0] 48)::.blk P (ob [.slice Y path.length R,.slice Z up.length S,.pointer (some X)] 90)::.blk M (ob [.pointer (some pf)] 102)::yA (Dk::[])++K) w:=Mem.mid (A:=[.blk Dk (.deferred (some []))]) (B:=[.blk H (ob [.int .i64 ((0:Nat):Int),.string ⟨#[]⟩,.string ⟨#[]⟩,.int .i64 ((0:Nat):Int),.int .i64 ((0:Nat):Int),.slice none 0 0,.slice none 0 0,.slice none 0 0] 48),.blk P (ob [.slice Y path.length R,.slice Z up.length S,.pointer (some X)] 90),.blk M (ob [.pointer (some pf)] 102)]) (C:=K) N
 replace N:=N.nm
 refine go fun a J=>?_
 apply I1
 refine qY ?_
 refine yE fun a J=>?_
 refine Qq (fun a J=>?_) (o:=by exact fun J O=>yM J rfl runUnderlying189 (by intro ms h;cases h))
 refine st0 J rfl rfl (jZ J rfl (xC _) (fun a hd=>hQ _ _ _ (oV [.blk H (ob [.int .i64 ((0:Nat):Int),.string ⟨#[]⟩,.string ⟨#[]⟩,.int .i64 ((0:Nat):Int),.int .i64 ((0:Nat):Int),.slice none 0 0,.slice none 0 0,.slice none 0 0] 48),.blk P (ob [.slice Y path.length R,.slice Z up.length S,.pointer (some X)] 90),.blk M (ob [.pointer (some pf)] 102)] (ds:=[Dk]) hd N fun w N=>?_)))
 replace N:=N.le ((l.1).trans d)
 rw [<- cD up,<- z6s,(z0o _ _).2.1 _ hr_];exact ⟨rfl,N⟩
 replace r:=r.mono d
 replace p:=p.mono d
 replace u:=RTFn.mono _ _ _ _ d u
 replace m:=RTrc.mono _ _ _ _ d m
 replace k:=k.mono d
 replace n:=n.mono d
 replace t:=RTE.mono _ _ _ _ d t
 replace v:=RFnd.mono _ _ _ _ d v
 obtain ⟨t_,g3,Y0⟩:=d0
 replace N:Mem Ψr_ (.blk H (ob r0 48)::.blk P (ob [.slice Y path.length R,.slice Z up.length S,.pointer (some X)] 90)::.blk M (ob [.pointer (some pf)] 102)::yA (Dk::[])++K) w:=Mem.mid (A:=[.blk Dk (.deferred (some []))]) (B:=[.blk H (ob r0 48),.blk P (ob [.slice Y path.length R,.slice Z up.length S,.pointer (some X)] 90),.blk M (ob [.pointer (some pf)] 102)]) (C:=K) N
 replace N:=N.nm
 replace N:=N.dl [2,1]
 replace N:Mem Ψr_ (yA [Dk]++(.blk H (ob r0 48)::K)) w:=Mem.mid (A:=[.blk H (ob r0 48)]) (B:=yA [Dk]) (C:=K) N
 refine hQ _ _ _ (y8v (ds:=[Dk]) J results154 rfl isAgg48 (by rw [Y0.len];exact sizeOf48) N fun w N=>?_)
 subst g3
 rw [<- cD up,<- z6s,(z0o _ _).2.2 _ hr_]
 exact ⟨(Ψr_,r0),rfl,⟨(l.1).trans d,Y0⟩,N⟩
 replace r:=r.mono d
 replace p:=p.mono d
 replace u:=RTFn.mono _ _ _ _ d u
 replace m:=RTrc.mono _ _ _ _ d m
 replace k:=k.mono d
 replace n:=n.mono d
 replace t:=RTE.mono _ _ _ _ d t
 replace v:=RFnd.mono _ _ _ _ d v
 replace N:=N.le ((l.1).trans d)
 refine hQ _ _ _ (panX (ds:=[Dk]) J.defs N fun w N=>?_)
 rw [<- cD up,<- z6s,(z0o _ _).1 hr_]
 exact ⟨rfl,N⟩
 all_goals (refine Or.inr ⟨e0,?_⟩;rw [f0];exact ⟨rfl,Ψr_,_,Fz.Le.refl _,rfl,N⟩)
theorem y9v {e:TE}:∀{p:List Int} {up:List TE} {y:Fnd},y∈zE p up e->∃(q:List Int) (r:List TE),y.path=p++q/\y.up=up++r/\q.length=r.length/\∀(i:Nat) (u:TE) (v:Int),r[i]? = some u->q[i]? = some v->∃j:Nat,v=(j:Int)/\(j < u.arms.length∨j < u.body.length):=by
 refine wV (C:=fun e=>∀{p:List Int} {up:List TE} {y:Fnd},y∈zE p up e->∃(q:List Int) (r:List TE),y.path=p++q/\y.up=up++r/\q.length=r.length/\∀(i:Nat) (u:TE) (v:Int),r[i]? = some u->q[i]? = some v->∃j:Nat,v=(j:Int)/\(j < u.arms.length∨j < u.body.length)) (fun e k hb p up y m=>?_) e
 have go:∀(j:Nat),(j < e.arms.length∨j < e.body.length)->(∃(q:List Int) (r:List TE),y.path=(p++[(j:Int)])++q/\y.up=(up++[e])++r/\q.length=r.length/\∀(i:Nat) (u:TE) (v:Int),r[i]? = some u->q[i]? = some v->∃j:Nat,v=(j:Int)/\(j < u.arms.length∨j < u.body.length)) ->
   ∃(q:List Int) (r:List TE),y.path=p++q/\y.up=up++r/\q.length=r.length/\∀(i:Nat) (u:TE) (v:Int),r[i]? = some u->q[i]? = some v->∃j:Nat,v=(j:Int)/\(j < u.arms.length∨j < u.body.length):=fun j l ⟨q,r,b,d,g,h⟩=>by
  refine ⟨(j:Int)::q,e::r,by rw [b,List.append_assoc];rfl,by rw [d,List.append_assoc];rfl,by simp [g],fun i u v c f=>?_⟩
  cases i with
  | zero=>
   rw [List.getElem?_cons_zero] at c f
   cases c;cases f;exact ⟨j,rfl,l⟩
  | succ i=>
   rw [List.getElem?_cons_succ] at c f
   exact h i u v c f
 rcases wI m with rfl | ⟨j,a,b,d⟩ | ⟨j,x,b,d⟩
 ·exact ⟨[],[],by simp,by simp,rfl,fun i u v c _=>by simp at c⟩
 ·exact go j (.inl (List.getElem?_eq_some_iff.1 b).1) (k a (mgQ b) d)
 ·exact go j (.inr (List.getElem?_eq_some_iff.1 b).1) (hb x (mgQ b) d)
theorem path_up {b:TE} {path:List Int} {up:List TE} {e:TE} (h:(⟨path,up,e⟩:Fnd)∈zE [] [] b):path.length=up.length:=by
 obtain ⟨q,r,a,c,d,_⟩:=y9v h
 simp only [List.nil_append] at a c
 rw [a,c];exact d
theorem q2x {b:TE} {path:List Int} {up:List TE} {e y:TE} {i:Nat} {v:Int} (h:(⟨path,up,e⟩:Fnd)∈zE [] [] b) (l:up[i]? = some y) (k:path[i]? = some v) (hb:y.body=[]):∃j:Nat,v=(j:Int)/\j < y.arms.length:=by
 obtain ⟨q,r,a,c,_,f⟩:=y9v h
 simp only [List.nil_append] at a c
 subst a;subst c
 obtain ⟨j,g,d⟩:=f i y v l k
 refine ⟨j,g,?_⟩
 rw [hb] at d;simpa using d
def oS (l:List Bs):List Value:=l.flatMap fun v=>[.string v,.int .i64 ((0:Nat):Int)]
theorem z7l {l:List Bs} {i:Nat} {v:Bs} (h:l[i]? = some v):oS (l.take (i+1))=oS (l.take i)++[.string v,.int .i64 ((0:Nat):Int)]:=by rw [jA h];simp [oS]
theorem y2o (l:List Bs):(oS l).length=2 * l.length:=by
 induction l with
 | nil=>rfl
 | cons a l b=>rw [show oS (a::l)=[.string a,.int .i64 ((0:Nat):Int)]++oS l from rfl,laQ,b,lcQ];simp;omega
def gJ (f:FnS) (e:TE) (path:List Int) (y:Nat×TE):Option (Option TE) :=
 if y.2.kind=2/\y.2.name=(xD e 0).name then some (f.arm e y.2.op y.2.args)
 else if y.2.kind=7/\xD y.2 0=xD e 0 then some ((y.2.arms[((path[y.1]?).getD 0).toNat]?).bind fun a=>f.arm e a.con (a.vars.map fun v=>⟨v,0⟩))
 else none
theorem j0e (f:FnS) (e:TE) (path:List Int) (up:List TE) (hl:path.length=up.length):∀k,k<=up.length->oU (gJ f e path) (vN up k)=f.known e ((up.zip path).take k).reverse
 | 0,_=>by simp [vN,oU,FnS.known]
 | k+1,h=>by
  have d:up[k]? = some up[k]:=List.getElem?_eq_getElem (by omega)
  have c:path[k]? = some path[k]:=List.getElem?_eq_getElem (by omega)
  have g:(up.zip path)[k]? = some (up[k],path[k]):=by rw [List.getElem?_zip_eq_some];exact ⟨d,c⟩
  rw [kN d,oU,jA g,List.reverse_append,List.reverse_singleton,List.singleton_append,FnS.known,j0e f e path up hl k (by omega)]
  unfold gJ
  simp only [c,Option.getD_some]
  by_cases a:up[k].kind=2/\up[k].name=(xD e 0).name
  rw [if_pos a,if_pos a]
  rw [if_neg a,if_neg a]
  by_cases b:up[k].kind=7/\xD up[k] 0=xD e 0
  rw [if_pos b,if_pos b]
  rw [if_neg b,if_neg b]
theorem y6m (f:FnS) (e:TE) (path:List Int) (up:List TE) (hl:path.length=up.length):oU (gJ f e path) (vN up up.length)=f.known e (up.zip path).reverse:=by
 rw [j0e f e path up hl _ (Nat.le_refl _),List.take_of_length_le (by rw [List.length_zip];omega)]
theorem gV (Ψ:Fz):∀l:List Bs,Chunks (RAtom Ψ) 2 (oS l) (l.map fun v=>(⟨v,0⟩:Atom))
 | []=>rfl
 | v::l=>⟨[.string v,.int .i64 ((0:Nat):Int)],oS l,rfl,rfl,⟨rfl,(show I64 0 from by unfold I64;omega)⟩,gV Ψ l⟩
theorem knw_2 {f:FnS} {e y:TE} {a:Atom} {path:List Int} {i:Nat} (c:y.kind=2) (b:e.args[0]? = some a) (d:y.name=a.name):gJ f e path (i,y)=some (f.arm e y.op y.args):=if_pos ⟨c,by rw [d,qX b]⟩
theorem j0d {f:FnS} {e y:TE} {a b:Atom} {x:TA} {path:List Int} {i j:Nat} {v:Int} (c:¬(y.kind=2/\y.name=(xD e 0).name)) (g:y.kind=7) (hb:y.args[0]? = some b) (d:e.args[0]? = some a) (hq:b=a) (h:path[i]? = some v) (k:v=(j:Int)) (l:y.arms[j]? = some x):gJ f e path (i,y)=some (f.arm e x.con (x.vars.map fun v=>⟨v,0⟩)):=by
 unfold gJ
 rw [if_neg c,if_pos ⟨g,by rw [qX hb,qX d,hq]⟩,h,Option.getD_some,k,Int.toNat_natCast,l];rfl
theorem y6n {f:FnS} {e y:TE} {path:List Int} {i:Nat} (a:¬(y.kind=2/\y.name=(xD e 0).name)) (b:¬(y.kind=7/\xD y 0=xD e 0)):gJ f e path (i,y)=none:=by unfold gJ;rw [if_neg a,if_neg b]
theorem x0h {Φ:Fz} {K:List Res} {w:World} {pf:Addr} {T:Trc} {F:TFn} {c:List Value} {path:List Int} {up:List TE} {e:TE} {num:Int} (RF:RFnO Φ pf T F) (GP:GoodP T) (hF:F∈T.funs) (hx:(⟨path,up,e⟩:Fnd)∈zE [] [] F.body) (rf:RFnd Φ c ⟨path,up,e⟩) (G:Glob Φ) (hk:e.kind=7) (N:Mem Φ K w) :
  Calls prog 153 #[.pointer (some pf),.agg c.toArray,.int .i64 num] w (fun ee w'=>Out (xL (FnS.known ⟨T,F⟩ e (up.zip path).reverse)) (fun z=>∃q:Fz×List Value,ee=.returned (.agg q.2.toArray)/\(Φ.Le q.1/\RTE q.1 q.2 z)/\Mem q.1 K w') (fun _=>ee=.panicked vB/\Mem Φ K w')):=by
 have t:=rf
 have f4:GI e:=nR (kZ (GP.gd F hF) hx)
 obtain ⟨y7,z7,p7,o7,j7,I,H,M,J6,a5,Z4⟩:=RF.ex
 obtain ⟨v5,w5,e0,i7,rfl,q6,r6,U,y0,E,l1⟩:=id rf
 replace U:SliceOf RInt Φ 1 v5 path:=U
 replace y0:SliceOf RPtE Φ 1 w5 up:=y0
 replace l1:RTE Φ _ e:=l1
 obtain ⟨m0,c23,rfl,b5,g2⟩:=U.fm
 obtain ⟨f0,d0,rfl,c5,F6⟩:=y0.fm
 have L:=l1
 obtain ⟨r7,c34,s7,e7,t7,c46,rfl,s6,t6,k0,k7,l7,z6,h2,A6,G6,B6,H6⟩:=RTE.fm l1
 have D3:=f4.ar.one (.inr (.inl hk))
 have D1:path.length=up.length:=path_up hx
 have x6:e.args.length=1:=D3
 have k1:0 < e.args.length:=by omega
 refine z6p func153 rfl ntmps153 rfl (fun Q hQ a J=>?_)
 refine sqB fun Y6 w3=>?_
 refine qY ?_
 refine Bx fun b0 w N a J=>?_
 refine Bx fun c0 w N a J=>?_
 refine Alc fun Z w N a J=>?_
 refine go fun a J=>?_
 apply w3
 refine sqB fun Z6 x3=>?_
 refine sqB fun a7 y3=>?_
 refine qY ?_
 refine yF call189 (fun C7 w V N a J=>?_) (c:=z7q y0 N)
 replace I:=I.mono V.1
 replace H:=H.mono V.1
 replace M:=RTFn.mono _ _ _ _ V.1 M
 replace RF:=RF.mono V.1
 replace U:=U.mono RInt.mono V.1
 replace y0:=y0.mono RPtE.mono V.1
 replace k0:=k0.mono RAtom.mono V.1
 replace E:=E.mono V.1
 replace L:=RTE.mono _ _ _ _ V.1 L
 replace t:=RFnd.mono _ _ _ _ V.1 t
 have X2:=V.2
 try dsimp only [zTE] at N
 replace N:=N.nf
 refine go fun a J=>?_
 apply y3
 refine z0a ?_
 refine oO (p1:=16) (p2:=17) RBk (vN up up.length) .ret (oB (gJ ⟨T,F⟩ e path)) (sR (gJ ⟨T,F⟩ e path)) GRes (fun _ _ z_=>.blk Z (ob z_ 48)::.blk c0 (ob [.slice m0 path.length c23,.slice f0 up.length d0,.pointer (some e0)] 90)::.blk b0 (ob [.pointer (some pf)] 102)::K) (K) none zTE func153 J rfl N rfl call213 rfl rfl GRes.mono (fun Ψr_ s_ z_ A7 B7 x_ l_ q7 F3 l3 a w b E3 j3 U0 J N=>?_) (uY X2 y0) (fun x5 hr_ Dk Ψr_ h1 a w b U0 J N=>?_) (fun x5 hr_ Dk Ψr_ h1 a w b U0 J N=>?_) (fun hr_ Dk Ψr_ a w b J N=>?_)
 obtain ⟨i_,y_⟩:=x_
 obtain ⟨l2,p_,d_,g1,g0,G1⟩:=j3
 simp only at l2 G1
 injection g1 with g1 _
 subst l2 g1
 obtain rfl:z_=zTE:=U0
 have a0:=dY E3
 simp only at a0
 have W:=G1
 replace I:=I.mono b
 replace H:=H.mono b
 replace M:=RTFn.mono _ _ _ _ b M
 replace RF:=RF.mono b
 replace U:=U.mono RInt.mono b
 replace k0:=k0.mono RAtom.mono b
 replace E:=E.mono b
 replace L:=RTE.mono _ _ _ _ b L
 replace t:=RFnd.mono _ _ _ _ b t
 try dsimp only [zTE] at N
 replace N:=N.nf
 obtain ⟨u7,f7,v7,g7,w7,h7,rfl,u6,v6,A0,S0,m7,C6,i2,D6,j2,E6,I6⟩:=RTE.fm G1
 refine sqI fun b7 z3=>?_
 refine xG ?_
 refine zH J (by intro c h;cases h) (qW J rfl) rfl fun a J=>?_
 refine zY ?_
 apply z3
 refine xG ?_
 refine zH J (by intro c h;cases h) (qW J rfl) rfl fun a J=>?_
 refine zY ?_
 refine ⟨_,N,fun w N=>?_⟩
 try dsimp only [zTE] at N
 replace N:=N.nf
 refine gA ?_
 refine gA ?_
 refine sqI fun c7 w1=>?_
 try dsimp only [zTE] at N
 refine qR [1,1,1,2,1,1,1,1,1,2,1,2,1,1,2,1,1,2,1,1,1] (.q 0 (.q 1 (.q 2 (.q 3 (.q 4 (.q 5 (.q 6 (.q 7 (.q 8 (.q 9 (.q 10 (.q 11 (.q 12 (.q 13 (.q 14 (.q 15 (.q 16 (.q 17 (.q 18 (.q 19 (.q 20 (.done)))))))))))))))))))))) [.blk Z (ob [.int .i64 ((0:Nat):Int),.string ⟨#[]⟩,.string ⟨#[]⟩,.int .i64 ((0:Nat):Int),.int .i64 ((0:Nat):Int),.slice none 0 0,.slice none 0 0,.slice none 0 0] 48),.blk c0 (ob [.slice m0 path.length c23,.slice f0 up.length d0,.pointer (some e0)] 90),.blk b0 (ob [.pointer (some pf)] 102)] J N mixed (by kernel_rfl) (by simp) (by kernel_rfl) fun w N=>?_
 by_cases o1:y_.kind=2
 refine go fun a J=>?_
 have d:=N
 have m:=J
 clear N J
 obtain ⟨x7,rfl⟩:=h2 (zO k1)
 have N:=d
 have J:=m
 clear d m
 obtain ⟨V1,h0⟩:=zW k1
 obtain ⟨a6,y6,z0,x0⟩:=k0.elem h0
 obtain ⟨rfl,w6⟩:=id x0
 by_cases q1:y_.name=V1.name
 refine go fun a J=>?_
 apply w1
 refine pT J rfl ?_
 refine sqI fun d7 A3=>?_
 try dsimp only [zTE] at N
 refine qR [2,2,1,1,1,2,1,1,1,2,0,0] (.q 0 (.q 1 (.q 2 (.q 3 (.q 4 (.q 5 (.q 6 (.q 7 (.q 8 (.q 9 (.e 10 (.e 11 (.done))))))))))))) [.blk Z (ob [.int .i64 ((0:Nat):Int),.string ⟨#[]⟩,.string ⟨#[]⟩,.int .i64 ((0:Nat):Int),.int .i64 ((0:Nat):Int),.slice none 0 0,.slice none 0 0,.slice none 0 0] 48),.blk c0 (ob [.slice m0 path.length c23,.slice f0 up.length d0,.pointer (some e0)] 90),.blk b0 (ob [.pointer (some pf)] 102)] J N mixed (by kernel_rfl) (by simp) (by kernel_rfl) fun w N=>?_
 refine go fun a J=>?_
 refine d_e J rfl rfl rfl (wA J rfl call190 (q4v RF GP hF hx t A0 N) (fun P0 T3 w E1 P N=>⟨jM (by kernel_rfl),fun a J=>?_⟩) (fun P0 w E1 N=>fun a hd=>?_))
 replace I:=I.mono P.1
 replace H:=H.mono P.1
 replace M:=RTFn.mono _ _ _ _ P.1 M
 replace RF:=RF.mono P.1
 replace U:=U.mono RInt.mono P.1
 replace k0:=k0.mono RAtom.mono P.1
 replace E:=E.mono P.1
 replace L:=RTE.mono _ _ _ _ P.1 L
 replace t:=RFnd.mono _ _ _ _ P.1 t
 replace A0:=A0.mono RAtom.mono P.1
 replace S0:=S0.mono RTA.mono P.1
 replace g0:=g0.mono P.1
 replace W:=RTE.mono _ _ _ _ P.1 W
 replace z0:=z0.mono P.1
 replace x0:=RAtom.mono _ _ _ _ P.1 x0
 have F1:=P.2
 obtain ⟨W3,S1⟩:∃x_,x_=T3.2:=⟨_,rfl⟩
 rw [<- S1] at F1 J
 have b3:=F1
 obtain ⟨G3,m3,H3,n3,I3,o3,rfl,m4,n4,b6,c6,d6,I4,d5,J4,e5,K4,f5⟩:=RTE.fm F1
 try dsimp only [zTE] at N
 replace N:=N.nf
 refine Sto 1 fun w N a J=>?_
 refine go fun a J=>?_
 apply A3
 refine wpIn_ret ?_
 obtain ⟨X,Y⟩:=z9e (g:=gJ ⟨T,F⟩ e path) (y:=(i_,y_)) (s:=s_) ((knw_2 (f:=⟨T,F⟩) o1 h0 q1).trans (congrArg some (zR E1)))
 refine Or.inr ⟨X,?_⟩
 rw [Y]
 exact ⟨rfl,T3.1,[.int .i64 (P0.kind),.string P0.name,.string P0.op,.int .i64 (P0.num),.int .i64 (P0.site),.slice G3 P0.args.length m3,.slice H3 P0.arms.length n3,.slice I3 P0.body.length o3],P.1,⟨_,rfl,b3⟩,N⟩
 replace N:=N.dl [3,2,1]
 exact Or.inl ⟨sS (g:=gJ ⟨T,F⟩ e path) (y:=(i_,y_)) (s:=s_) ((knw_2 (f:=⟨T,F⟩) o1 h0 q1).trans (congrArg some (yL E1))),rfl,hd,Ψr_,Fz.Le.refl _,N⟩
 refine go fun a J=>?_
 apply w1
 refine wE J rfl ?_
 refine sqI fun z5 a1=>?_
 try dsimp only [zTE] at N
 refine qR [1,1,1,2,1,1,1,1,1,2,1,2,1,2,1,1,2,1,2,1,1,1] (.q 0 (.q 1 (.q 2 (.q 3 (.q 4 (.q 5 (.q 6 (.q 7 (.q 8 (.q 9 (.q 10 (.q 11 (.q 12 (.q 13 (.q 14 (.q 15 (.q 16 (.q 17 (.q 18 (.q 19 (.q 20 (.q 21 (.done))))))))))))))))))))))) [.blk Z (ob [.int .i64 ((0:Nat):Int),.string ⟨#[]⟩,.string ⟨#[]⟩,.int .i64 ((0:Nat):Int),.int .i64 ((0:Nat):Int),.slice none 0 0,.slice none 0 0,.slice none 0 0] 48),.blk c0 (ob [.slice m0 path.length c23,.slice f0 up.length d0,.pointer (some e0)] 90),.blk b0 (ob [.pointer (some pf)] 102)] J N mixed (by kernel_rfl) (by simp) (by kernel_rfl) fun w N=>?_
 by_cases i1:y_.kind=7
 refine go fun a J=>?_
 have z1:0 < y_.args.length:=by have h_:=(nR (y0z GP hF hx a0)).ar.one (.inr (.inl i1));omega
 have d:=N
 have m:=J
 clear N J
 obtain ⟨P6,rfl⟩:=i2 (zO z1)
 have N:=d
 have J:=m
 clear d m
 obtain ⟨L1,I0⟩:=zW z1
 obtain ⟨X3,z4,B0,r0⟩:=A0.elem I0
 obtain ⟨rfl,o4⟩:=id r0
 by_cases i0:L1=V1
 refine Qq (fun a J=>?_) (o:=by exact fun J O=>gT (p:=L1) (q:=V1) J rfl rfl (decide_eq_true i0))
 refine go fun a J=>?_
 apply a1
 refine pT J rfl ?_
 refine sqI fun A5 D2=>?_
 try dsimp only [zTE] at N
 refine qR [1,1,1,2,1,2,1,1,2,1,2,0,0] (.q 0 (.q 1 (.q 2 (.q 3 (.q 4 (.q 5 (.q 6 (.q 7 (.q 8 (.q 9 (.q 10 (.e 11 (.e 12 (.done)))))))))))))) [.blk Z (ob [.int .i64 ((0:Nat):Int),.string ⟨#[]⟩,.string ⟨#[]⟩,.int .i64 ((0:Nat):Int),.int .i64 ((0:Nat):Int),.slice none 0 0,.slice none 0 0,.slice none 0 0] 48),.blk c0 (ob [.slice m0 path.length c23,.slice f0 up.length d0,.pointer (some e0)] 90),.blk b0 (ob [.pointer (some pf)] 102)] J N mixed (by kernel_rfl) (by simp) (by kernel_rfl) fun w N=>?_
 refine go fun a J=>?_
 have A1:i_ < path.length:=by have h_:=(List.getElem?_eq_some_iff.1 a0).1;omega
 have d:=N
 have m:=J
 clear N J
 obtain ⟨v2,rfl⟩:=g2 (zO A1)
 have N:=d
 have J:=m
 clear d m
 obtain ⟨R3,J0⟩:=zW A1
 obtain ⟨z2,A4,C0,d3⟩:=U.elem J0
 obtain rfl:z2=[.int .i64 R3]:=d3
 refine go fun a J=>?_
 obtain ⟨K6,c1,x1⟩:=q2x hx a0 J0 ((nR (y0z GP hF hx a0)).ar.last (by omega))
 rw [c1] at J
 have d:=N
 have m:=J
 clear N J
 obtain ⟨Q6,rfl⟩:=j2 (zO x1)
 have N:=d
 have J:=m
 clear d m
 obtain ⟨u,K0⟩:=zW x1
 obtain ⟨Y3,B4,D0,s0⟩:=S0.elem K0
 obtain ⟨m2,Y1,X5,rfl,u3,Q0,L4,Z2⟩:=RTA.fm s0
 obtain ⟨J3,p3,K3,c171,L3,q3,rfl,p4,q4,e6,f6,g6,M4,g5,N4,h5,O4,i5⟩:=RTE.fm Q0
 refine Alc fun W1 w N a J=>?_
 refine Sto 0 fun w N a J=>?_
 refine go fun a J=>?_
 apply D2
 refine sqI fun B5 E2=>?_
 refine xG ?_
 refine zH J (by intro c h;cases h) (qW J rfl) rfl fun a J=>?_
 refine zY ?_
 apply E2
 refine sqI fun C5 F2=>?_
 refine sqI fun D5 G2=>?_
 refine xG ?_
 replace N:=N.nilRow 75 2
 try dsimp only [zTE] at N
 replace N:=N.nf
 refine zH J (by intro c h;cases h) (qK J rfl y5y rfl) rfl fun a J=>
   zH J (by intro c h;cases h) (yH 1 J N.toSees rfl rfl rfl isAgg23) rfl fun a J=>
   zH J (by intro c h;cases h) (aC J rfl runUnderlying23) rfl fun a J=>
   zH J (by intro c h;cases h) (yX J rfl) rfl fun a J=>?_
 refine zY ?_
 apply G2
 refine gA ?_
 refine y6o (fun mm a w=>∃(k_:Nat) (av:Value),mm=u.vars.length - k_/\EnvR 104 [(3,.pointer (some ⟨b0,0,none⟩)),(4,.pointer (some ⟨c0,0,none⟩)),(6,.pointer (some ⟨Z,0,none⟩)),(9,.pointer (some ⟨W1,0,none⟩)),(10,av),(84,.slice m2 u.vars.length Y1),(85,.int .i64 u.vars.length),(86,.int .i64 k_)] [] a/\Mem Ψr_ (.gs (av) 75 2 (oS (u.vars.take k_))::.blk W1 (ob [.string u.con,.slice m2 u.vars.length Y1,.int .i64 (u.body.kind),.string u.body.name,.string u.body.op,.int .i64 (u.body.num),.int .i64 (u.body.site),.slice J3 u.body.args.length p3,.slice K3 u.body.arms.length c171,.slice L3 u.body.body.length q3] 79)::.blk l_ F3::.blk Z (ob [.int .i64 ((0:Nat):Int),.string ⟨#[]⟩,.string ⟨#[]⟩,.int .i64 ((0:Nat):Int),.int .i64 ((0:Nat):Int),.slice none 0 0,.slice none 0 0,.slice none 0 0] 48)::.blk c0 (ob [.slice (some v2) path.length c23,.slice f0 up.length d0,.pointer (some e0)] 90)::.blk b0 (ob [.pointer (some pf)] 102)::(K++l3)) w/\(True)) (u.vars.length - 0) ⟨0,.slice none 0 0,rfl,J.pk,N,trivial⟩ ?_
 clear N J
 rintro mm a w ⟨k_,av,Y2,J,N,g4⟩ E5 H2
 refine sqI fun F5 u1=>?_
 refine xG ?_
 by_cases n0:k_ < u.vars.length
 refine zH J (by intro c h;cases h) (oX true J rfl rfl (decide_eq_true (Int.ofNat_lt.2 n0))) rfl fun a J=>?_
 refine zY ?_
 apply u1
 refine sqI fun G5 I2=>?_
 refine pT J rfl ?_
 refine wS ?_
 apply I2
 refine sqI fun H5 J2=>?_
 refine gA ?_
 refine sqI fun I5 K2=>?_
 refine xG ?_
 have d:=N
 have m:=J
 clear N J
 obtain ⟨R6,rfl⟩:=Z2 (zO n0)
 have N:=d
 have J:=m
 clear d m
 obtain ⟨X0,J1⟩:=zW n0
 obtain ⟨A2,C4,V2,e3⟩:=u3.elem J1
 obtain rfl:A2=[.string X0]:=e3
 refine zH J (by intro c h;cases h) (xO k_ J rfl rfl runUnderlying23 sizeOf9 n0) rfl fun a J=>
   zH J (by intro c h;cases h) (pO J N.toSees rfl V2 rfl isAgg9) rfl fun a J=>
   zH J (by intro c h;cases h) (qW J rfl) rfl fun a J=>?_
 refine zY ?_
 apply K2
 refine xG ?_
 refine zH J (by intro c h;cases h) (yX J rfl) rfl fun a J=>
   zH J (by intro c h;cases h) (yX J rfl) rfl fun a J=>
   zH J (by intro c h;cases h) (jP (vs:=[(0,.string X0)]) (cs:=[.string X0,.int .i64 ((0:Nat):Int)]) J rfl (by kernel_rfl)) rfl fun a J=>?_
 refine vS J rfl rfl rfl (by intro c h;cases h) (yY (sz:=2) (cs:=[.string X0,.int .i64 ((0:Nat):Int)]) J N rfl (pG runUnderlying44 sizeOf75 zeroValue75 rfl (by decide) rfl) rfl (by decide) fun W6 w N _ a J=>?_)
 refine vS J rfl rfl rfl (by intro c h;cases h) (wM 1 (xs:=(oS (u.vars.take k_))) (news:=[.string X0,.int .i64 ((0:Nat):Int)]) j0u J N rfl rfl rfl (N.toSees.rowIn (i:=0) rfl) rfl (by rw [y2o];simp only [List.length_take,lcQ,lnQ];have h_:=(nR (y0z GP hF hx a0)).nv _ (mgQ K0);omega) fun P3 w N a J=>?_)
 try dsimp only [zTE] at N
 replace N:=N.nf
 refine zH J (by intro c h;cases h) (qW J rfl) rfl fun a J=>?_
 refine zY ?_
 apply J2
 refine xG ?_
 refine zH J (by intro c h;cases h) (vH (i:=k_) (j:=1) J rfl rfl (by omega)) rfl fun a J=>
   zH J (by intro c h;cases h) (yX J rfl) rfl fun a J=>?_
 refine zY ?_
 rw [<- z7l J1] at N
 replace N:=N.dl [0]
 refine H2 _ _ _ (by subst Y2;omega) ⟨(k_+1),(P3),rfl,J.pk,N,?_⟩
 trivial
 refine zH J (by intro c h;cases h) (oX false J rfl rfl (decide_eq_false (fun hh=>n0 (Int.ofNat_lt.1 hh)))) rfl fun a J=>?_
 refine zY ?_
 apply u1
 refine sqI fun J5 i4=>?_
 refine wE J rfl ?_
 refine z8j ?_
 apply F2
 refine sqI fun K5 L2=>?_
 refine xG ?_
 refine zH J (by intro c h;cases h) (yH 5 J N.toSees rfl rfl rfl isAgg102) rfl fun a J=>
   zH J (by intro c h;cases h) (qA 4 (vs:=[.slice (some v2) path.length c23,.slice f0 up.length d0,.pointer (some e0)]) J N.toSees rfl rfl isAgg90 sizeOf90 rfl rfl) rfl fun a J=>
   zH J (by intro c h;cases h) (qK J rfl y5x rfl) rfl fun a J=>
   zH J (by intro c h;cases h) (yH 1 J N.toSees rfl rfl rfl isAgg9) rfl fun a J=>
   zH J (by intro c h;cases h) (yX J rfl) rfl fun a J=>?_
 have V0:=N
 clear N
 obtain ⟨O1,l,N,H1,B3⟩:=V0.freezeRowC (i:=0) rfl
 clear V0
 replace I:=I.mono l
 replace H:=H.mono l
 replace M:=RTFn.mono _ _ _ _ l M
 replace RF:=RF.mono l
 replace U:=U.mono RInt.mono l
 replace k0:=k0.mono RAtom.mono l
 replace E:=E.mono l
 replace L:=RTE.mono _ _ _ _ l L
 replace t:=RFnd.mono _ _ _ _ l t
 replace A0:=A0.mono RAtom.mono l
 replace S0:=S0.mono RTA.mono l
 replace g0:=g0.mono l
 replace W:=RTE.mono _ _ _ _ l W
 replace z0:=z0.mono l
 replace x0:=RAtom.mono _ _ _ _ l x0
 replace B0:=B0.mono l
 replace r0:=RAtom.mono _ _ _ _ l r0
 replace C0:=C0.mono l
 replace D0:=D0.mono l
 replace s0:=RTA.mono _ _ _ _ l s0
 replace Q0:=RTE.mono _ _ _ _ l Q0
 try dsimp only [zTE] at N
 replace N:=N.nf
 have m1:SliceOf RAtom O1 2 _ (((u.vars.take k_).map fun v=>(⟨v,0⟩:Atom))):=⟨_,H1,gV _ _⟩
 obtain ⟨N6,c210,g1,U3,j5⟩:=m1.form (by decide)
 have d:=N
 clear N
 subst g1
 have N:=d
 clear d
 refine in_stP J rfl rfl rfl (by intro c h;cases h) (wA J rfl call190 (q4v RF GP hF hx t m1 N) (fun R x2 w p0 k N a J=>?_) (fun R w p0 N=>?_))
 replace I:=I.mono k.1
 replace H:=H.mono k.1
 replace M:=RTFn.mono _ _ _ _ k.1 M
 replace RF:=RF.mono k.1
 replace U:=U.mono RInt.mono k.1
 replace k0:=k0.mono RAtom.mono k.1
 replace E:=E.mono k.1
 replace L:=RTE.mono _ _ _ _ k.1 L
 replace t:=RFnd.mono _ _ _ _ k.1 t
 replace A0:=A0.mono RAtom.mono k.1
 replace S0:=S0.mono RTA.mono k.1
 replace g0:=g0.mono k.1
 replace W:=RTE.mono _ _ _ _ k.1 W
 replace z0:=z0.mono k.1
 replace x0:=RAtom.mono _ _ _ _ k.1 x0
 replace B0:=B0.mono k.1
 replace r0:=RAtom.mono _ _ _ _ k.1 r0
 replace C0:=C0.mono k.1
 replace D0:=D0.mono k.1
 replace s0:=RTA.mono _ _ _ _ k.1 s0
 replace Q0:=RTE.mono _ _ _ _ k.1 Q0
 have e1:=k.2
 obtain ⟨Z3,T1⟩:∃x_,x_=x2.2:=⟨_,rfl⟩
 rw [<- T1] at e1 J
 have f3:=e1
 obtain ⟨n2,Z1,o2,a2,q2,b2,rfl,r4,s4,h6,i6,j6,P4,k5,Q4,l5,R4,m5⟩:=RTE.fm e1
 try dsimp only [zTE] at N
 replace N:=N.nf
 refine jY J rfl rfl (by intro c h;cases h) (zQ 2 (cs:=[.int .i64 ((0:Nat):Int),.string ⟨#[]⟩,.string ⟨#[]⟩,.int .i64 ((0:Nat):Int),.int .i64 ((0:Nat):Int),.slice none 0 0,.slice none 0 0,.slice none 0 0]) (vs:=[.int .i64 (R.kind),.string R.name,.string R.op,.int .i64 (R.num),.int .i64 (R.site),.slice n2 R.args.length Z1,.slice o2 R.arms.length a2,.slice q2 R.body.length b2]) J N rfl rfl rfl rfl sizeOf48 rfl rfl rfl fun w N a J=>?_)
 try dsimp only [zTE] at N
 replace N:=N.nf
 refine zY ?_
 apply L2
 refine wpIn_ret ?_
 replace N:=N.dl [0]
 rw [show u.vars.take k_=u.vars from List.take_of_length_le (Nat.le_of_not_lt n0)] at p0
 obtain ⟨X,Y⟩:=z9e (g:=gJ ⟨T,F⟩ e path) (y:=(i_,y_)) (s:=s_) ((j0d (f:=⟨T,F⟩) (fun h_=>q1 (by rw [h_.2,qX h0])) i1 I0 h0 i0 J0 c1 K0).trans (congrArg some (zR p0)))
 refine Or.inr ⟨X,?_⟩
 rw [Y]
 exact ⟨rfl,x2.1,[.int .i64 (R.kind),.string R.name,.string R.op,.int .i64 (R.num),.int .i64 (R.site),.slice n2 R.args.length Z1,.slice o2 R.arms.length a2,.slice q2 R.body.length b2],(l).trans k.1,⟨_,rfl,f3⟩,N⟩
 replace N:=N.dl [4,3,2,0]
 rw [show u.vars.take k_=u.vars from List.take_of_length_le (Nat.le_of_not_lt n0)] at p0
 exact Or.inl ⟨sS (g:=gJ ⟨T,F⟩ e path) (y:=(i_,y_)) (s:=s_) ((j0d (f:=⟨T,F⟩) (fun h_=>q1 (by rw [h_.2,qX h0])) i1 I0 h0 i0 J0 c1 K0).trans (congrArg some (yL p0))),rfl,J.defs,O1,l,N⟩
 refine Qq (fun a J=>?_) (o:=by exact fun J O=>gT (p:=L1) (q:=V1) J rfl rfl (decide_eq_false i0))
 refine go fun a J=>?_
 apply a1
 refine wE J rfl ?_
 refine wS ?_
 obtain ⟨X,Y⟩:=oC (g:=gJ ⟨T,F⟩ e path) (y:=(i_,y_)) (s:=s_) (y6n (fun h_=>q1 (by rw [h_.2,qX h0])) (fun h_=>i0 (by have t1:=h_.2;rw [qX I0,qX h0] at t1;exact t1)))
 rotate_left
 refine go fun a J=>?_
 apply a1
 refine wE J rfl ?_
 refine wS ?_
 obtain ⟨X,Y⟩:=oC (g:=gJ ⟨T,F⟩ e path) (y:=(i_,y_)) (s:=s_) (y6n (fun h_=>q1 (by rw [h_.2,qX h0])) (fun h_=>i1 h_.1))
 rotate_left
 refine go fun a J=>?_
 apply w1
 refine wE J rfl ?_
 refine sqI fun L5 b1=>?_
 try dsimp only [zTE] at N
 refine qR [1,1,1,2,1,1,1,1,1,2,1,2,1,2,1,1,2,1,2,1,1,1] (.q 0 (.q 1 (.q 2 (.q 3 (.q 4 (.q 5 (.q 6 (.q 7 (.q 8 (.q 9 (.q 10 (.q 11 (.q 12 (.q 13 (.q 14 (.q 15 (.q 16 (.q 17 (.q 18 (.q 19 (.q 20 (.q 21 (.done))))))))))))))))))))))) [.blk Z (ob [.int .i64 ((0:Nat):Int),.string ⟨#[]⟩,.string ⟨#[]⟩,.int .i64 ((0:Nat):Int),.int .i64 ((0:Nat):Int),.slice none 0 0,.slice none 0 0,.slice none 0 0] 48),.blk c0 (ob [.slice m0 path.length c23,.slice f0 up.length d0,.pointer (some e0)] 90),.blk b0 (ob [.pointer (some pf)] 102)] J N mixed (by kernel_rfl) (by simp) (by kernel_rfl) fun w N=>?_
 by_cases j1:y_.kind=7
 refine go fun a J=>?_
 have B1:0 < y_.args.length:=by have h_:=(nR (y0z GP hF hx a0)).ar.one (.inr (.inl j1));omega
 have d:=N
 have m:=J
 clear N J
 obtain ⟨S6,rfl⟩:=i2 (zO B1)
 have N:=d
 have J:=m
 clear d m
 obtain ⟨M1,L0⟩:=zW B1
 obtain ⟨a4,D4,E0,t0⟩:=A0.elem L0
 obtain ⟨rfl,t4⟩:=id t0
 refine go fun a J=>?_
 have d:=N
 have m:=J
 clear N J
 obtain ⟨T6,rfl⟩:=h2 (zO k1)
 have N:=d
 have J:=m
 clear d m
 obtain ⟨N1,M0⟩:=zW k1
 obtain ⟨b4,E4,F0,u0⟩:=k0.elem M0
 obtain ⟨rfl,u4⟩:=id u0
 by_cases j0:M1=N1
 refine Qq (fun a J=>?_) (o:=by exact fun J O=>gT (p:=M1) (q:=N1) J rfl rfl (decide_eq_true j0))
 refine go fun a J=>?_
 apply b1
 refine pT J rfl ?_
 refine sqI fun M5 M2=>?_
 try dsimp only [zTE] at N
 refine qR [1,1,1,2,1,2,1,1,2,1,2,0,0] (.q 0 (.q 1 (.q 2 (.q 3 (.q 4 (.q 5 (.q 6 (.q 7 (.q 8 (.q 9 (.q 10 (.e 11 (.e 12 (.done)))))))))))))) [.blk Z (ob [.int .i64 ((0:Nat):Int),.string ⟨#[]⟩,.string ⟨#[]⟩,.int .i64 ((0:Nat):Int),.int .i64 ((0:Nat):Int),.slice none 0 0,.slice none 0 0,.slice none 0 0] 48),.blk c0 (ob [.slice m0 path.length c23,.slice f0 up.length d0,.pointer (some e0)] 90),.blk b0 (ob [.pointer (some pf)] 102)] J N mixed (by kernel_rfl) (by simp) (by kernel_rfl) fun w N=>?_
 refine go fun a J=>?_
 have C1:i_ < path.length:=by have h_:=(List.getElem?_eq_some_iff.1 a0).1;omega
 have d:=N
 have m:=J
 clear N J
 obtain ⟨w2,rfl⟩:=g2 (zO C1)
 have N:=d
 have J:=m
 clear d m
 obtain ⟨S3,N0⟩:=zW C1
 obtain ⟨B2,F4,G0,g3⟩:=U.elem N0
 obtain rfl:B2=[.int .i64 S3]:=g3
 refine go fun a J=>?_
 obtain ⟨L6,d1,y1⟩:=q2x hx a0 N0 ((nR (y0z GP hF hx a0)).ar.last (by omega))
 rw [d1] at J
 have d:=N
 have m:=J
 clear N J
 obtain ⟨U6,rfl⟩:=j2 (zO y1)
 have N:=d
 have J:=m
 clear d m
 obtain ⟨D,O0⟩:=zW y1
 obtain ⟨d4,G4,H0,w0⟩:=S0.elem O0
 obtain ⟨r2,c2,Y5,rfl,v3,R0,S4,a3⟩:=RTA.fm w0
 obtain ⟨M3,r3,N3,s3,O3,t3,rfl,v4,w4,k6,l6,m6,T4,n5,U4,o5,V4,p5⟩:=RTE.fm R0
 refine Alc fun X1 w N a J=>?_
 refine Sto 0 fun w N a J=>?_
 refine go fun a J=>?_
 apply M2
 refine sqI fun N5 N2=>?_
 refine xG ?_
 refine zH J (by intro c h;cases h) (qW J rfl) rfl fun a J=>?_
 refine zY ?_
 apply N2
 refine sqI fun O5 O2=>?_
 refine sqI fun P5 P2=>?_
 refine xG ?_
 replace N:=N.nilRow 75 2
 try dsimp only [zTE] at N
 replace N:=N.nf
 refine zH J (by intro c h;cases h) (qK J rfl y5y rfl) rfl fun a J=>
   zH J (by intro c h;cases h) (yH 1 J N.toSees rfl rfl rfl isAgg23) rfl fun a J=>
   zH J (by intro c h;cases h) (aC J rfl runUnderlying23) rfl fun a J=>
   zH J (by intro c h;cases h) (yX J rfl) rfl fun a J=>?_
 refine zY ?_
 apply P2
 refine gA ?_
 refine y6o (fun mm a w=>∃(k_:Nat) (av:Value),mm=D.vars.length - k_/\EnvR 104 [(3,.pointer (some ⟨b0,0,none⟩)),(4,.pointer (some ⟨c0,0,none⟩)),(6,.pointer (some ⟨Z,0,none⟩)),(9,.pointer (some ⟨X1,0,none⟩)),(10,av),(84,.slice r2 D.vars.length c2),(85,.int .i64 D.vars.length),(86,.int .i64 k_)] [] a/\Mem Ψr_ (.gs (av) 75 2 (oS (D.vars.take k_))::.blk X1 (ob [.string D.con,.slice r2 D.vars.length c2,.int .i64 (D.body.kind),.string D.body.name,.string D.body.op,.int .i64 (D.body.num),.int .i64 (D.body.site),.slice M3 D.body.args.length r3,.slice N3 D.body.arms.length s3,.slice O3 D.body.body.length t3] 79)::.blk l_ F3::.blk Z (ob [.int .i64 ((0:Nat):Int),.string ⟨#[]⟩,.string ⟨#[]⟩,.int .i64 ((0:Nat):Int),.int .i64 ((0:Nat):Int),.slice none 0 0,.slice none 0 0,.slice none 0 0] 48)::.blk c0 (ob [.slice (some w2) path.length c23,.slice f0 up.length d0,.pointer (some e0)] 90)::.blk b0 (ob [.pointer (some pf)] 102)::(K++l3)) w/\(True)) (D.vars.length - 0) ⟨0,.slice none 0 0,rfl,J.pk,N,trivial⟩ ?_
 clear N J
 rintro mm a w ⟨k_,av,Y2,J,N,h4⟩ Q5 Q2
 refine sqI fun R5 v1=>?_
 refine xG ?_
 by_cases o0:k_ < D.vars.length
 refine zH J (by intro c h;cases h) (oX true J rfl rfl (decide_eq_true (Int.ofNat_lt.2 o0))) rfl fun a J=>?_
 refine zY ?_
 apply v1
 refine sqI fun S5 R2=>?_
 refine pT J rfl ?_
 refine wS ?_
 apply R2
 refine sqI fun T5 S2=>?_
 refine gA ?_
 refine sqI fun U5 T2=>?_
 refine xG ?_
 have d:=N
 have m:=J
 clear N J
 obtain ⟨V6,rfl⟩:=a3 (zO o0)
 have N:=d
 have J:=m
 clear d m
 obtain ⟨Y0,K1⟩:=zW o0
 obtain ⟨C2,H4,W2,h3⟩:=v3.elem K1
 obtain rfl:C2=[.string Y0]:=h3
 refine zH J (by intro c h;cases h) (xO k_ J rfl rfl runUnderlying23 sizeOf9 o0) rfl fun a J=>
   zH J (by intro c h;cases h) (pO J N.toSees rfl W2 rfl isAgg9) rfl fun a J=>
   zH J (by intro c h;cases h) (qW J rfl) rfl fun a J=>?_
 refine zY ?_
 apply T2
 refine xG ?_
 refine zH J (by intro c h;cases h) (yX J rfl) rfl fun a J=>
   zH J (by intro c h;cases h) (yX J rfl) rfl fun a J=>
   zH J (by intro c h;cases h) (jP (vs:=[(0,.string Y0)]) (cs:=[.string Y0,.int .i64 ((0:Nat):Int)]) J rfl (by kernel_rfl)) rfl fun a J=>?_
 refine vS J rfl rfl rfl (by intro c h;cases h) (yY (sz:=2) (cs:=[.string Y0,.int .i64 ((0:Nat):Int)]) J N rfl (pG runUnderlying44 sizeOf75 zeroValue75 rfl (by decide) rfl) rfl (by decide) fun X6 w N _ a J=>?_)
 refine vS J rfl rfl rfl (by intro c h;cases h) (wM 1 (xs:=(oS (D.vars.take k_))) (news:=[.string Y0,.int .i64 ((0:Nat):Int)]) j0u J N rfl rfl rfl (N.toSees.rowIn (i:=0) rfl) rfl (by rw [y2o];simp only [List.length_take,lcQ,lnQ];have h_:=(nR (y0z GP hF hx a0)).nv _ (mgQ O0);omega) fun Q3 w N a J=>?_)
 try dsimp only [zTE] at N
 replace N:=N.nf
 refine zH J (by intro c h;cases h) (qW J rfl) rfl fun a J=>?_
 refine zY ?_
 apply S2
 refine xG ?_
 refine zH J (by intro c h;cases h) (vH (i:=k_) (j:=1) J rfl rfl (by omega)) rfl fun a J=>
   zH J (by intro c h;cases h) (yX J rfl) rfl fun a J=>?_
 refine zY ?_
 rw [<- z7l K1] at N
 replace N:=N.dl [0]
 refine Q2 _ _ _ (by subst Y2;omega) ⟨(k_+1),(Q3),rfl,J.pk,N,?_⟩
 trivial
 refine zH J (by intro c h;cases h) (oX false J rfl rfl (decide_eq_false (fun hh=>o0 (Int.ofNat_lt.1 hh)))) rfl fun a J=>?_
 refine zY ?_
 apply v1
 refine sqI fun V5 j4=>?_
 refine wE J rfl ?_
 refine z8j ?_
 apply O2
 refine sqI fun W5 U2=>?_
 refine xG ?_
 refine zH J (by intro c h;cases h) (yH 5 J N.toSees rfl rfl rfl isAgg102) rfl fun a J=>
   zH J (by intro c h;cases h) (qA 4 (vs:=[.slice (some w2) path.length c23,.slice f0 up.length d0,.pointer (some e0)]) J N.toSees rfl rfl isAgg90 sizeOf90 rfl rfl) rfl fun a J=>
   zH J (by intro c h;cases h) (qK J rfl y5x rfl) rfl fun a J=>
   zH J (by intro c h;cases h) (yH 1 J N.toSees rfl rfl rfl isAgg9) rfl fun a J=>
   zH J (by intro c h;cases h) (yX J rfl) rfl fun a J=>?_
 have V0:=N
 clear N
 obtain ⟨P1,n,N,I1,C3⟩:=V0.freezeRowC (i:=0) rfl
 clear V0
 replace I:=I.mono n
 replace H:=H.mono n
 replace M:=RTFn.mono _ _ _ _ n M
 replace RF:=RF.mono n
 replace E:=E.mono n
 replace L:=RTE.mono _ _ _ _ n L
 replace t:=RFnd.mono _ _ _ _ n t
 replace g0:=g0.mono n
 replace W:=RTE.mono _ _ _ _ n W
 replace E0:=E0.mono n
 replace t0:=RAtom.mono _ _ _ _ n t0
 replace F0:=F0.mono n
 replace u0:=RAtom.mono _ _ _ _ n u0
 replace G0:=G0.mono n
 replace H0:=H0.mono n
 replace w0:=RTA.mono _ _ _ _ n w0
 replace R0:=RTE.mono _ _ _ _ n R0
 try dsimp only [zTE] at N
 replace N:=N.nf
 have n1:SliceOf RAtom P1 2 _ (((D.vars.take k_).map fun v=>(⟨v,0⟩:Atom))):=⟨_,I1,gV _ _⟩
 obtain ⟨O6,Z5,g1,V3,q5⟩:=n1.form (by decide)
 have d:=N
 clear N
 subst g1
 have N:=d
 clear d
 refine in_stP J rfl rfl rfl (by intro c h;cases h) (wA J rfl call190 (q4v RF GP hF hx t n1 N) (fun S y2 w q0 r N a J=>?_) (fun S w q0 N=>?_))
 replace I:=I.mono r.1
 replace H:=H.mono r.1
 replace M:=RTFn.mono _ _ _ _ r.1 M
 replace E:=E.mono r.1
 replace L:=RTE.mono _ _ _ _ r.1 L
 replace t:=RFnd.mono _ _ _ _ r.1 t
 replace g0:=g0.mono r.1
 replace W:=RTE.mono _ _ _ _ r.1 W
 replace E0:=E0.mono r.1
 replace t0:=RAtom.mono _ _ _ _ r.1 t0
 replace F0:=F0.mono r.1
 replace u0:=RAtom.mono _ _ _ _ r.1 u0
 replace G0:=G0.mono r.1
 replace H0:=H0.mono r.1
 replace w0:=RTA.mono _ _ _ _ r.1 w0
 replace R0:=RTE.mono _ _ _ _ r.1 R0
 have f1:=r.2
 obtain ⟨e4,U1⟩:∃x_,x_=y2.2:=⟨_,rfl⟩
 rw [<- U1] at f1 J
 have i3:=f1
 obtain ⟨s2,d2,t2,e2,u2,f2,rfl,x4,y4,n6,o6,p6,W4,r5,X4,s5,Y4,t5⟩:=RTE.fm f1
 try dsimp only [zTE] at N
 replace N:=N.nf
 refine jY J rfl rfl (by intro c h;cases h) (zQ 2 (cs:=[.int .i64 ((0:Nat):Int),.string ⟨#[]⟩,.string ⟨#[]⟩,.int .i64 ((0:Nat):Int),.int .i64 ((0:Nat):Int),.slice none 0 0,.slice none 0 0,.slice none 0 0]) (vs:=[.int .i64 (S.kind),.string S.name,.string S.op,.int .i64 (S.num),.int .i64 (S.site),.slice s2 S.args.length d2,.slice t2 S.arms.length e2,.slice u2 S.body.length f2]) J N rfl rfl rfl rfl sizeOf48 rfl rfl rfl fun w N a J=>?_)
 try dsimp only [zTE] at N
 replace N:=N.nf
 refine zY ?_
 apply U2
 refine wpIn_ret ?_
 replace N:=N.dl [0]
 rw [show D.vars.take k_=D.vars from List.take_of_length_le (Nat.le_of_not_lt o0)] at q0
 obtain ⟨X,Y⟩:=z9e (g:=gJ ⟨T,F⟩ e path) (y:=(i_,y_)) (s:=s_) ((j0d (f:=⟨T,F⟩) (fun h_=>o1 h_.1) j1 L0 M0 j0 N0 d1 O0).trans (congrArg some (zR q0)))
 refine Or.inr ⟨X,?_⟩
 rw [Y]
 exact ⟨rfl,y2.1,[.int .i64 (S.kind),.string S.name,.string S.op,.int .i64 (S.num),.int .i64 (S.site),.slice s2 S.args.length d2,.slice t2 S.arms.length e2,.slice u2 S.body.length f2],(n).trans r.1,⟨_,rfl,i3⟩,N⟩
 replace N:=N.dl [4,3,2,0]
 rw [show D.vars.take k_=D.vars from List.take_of_length_le (Nat.le_of_not_lt o0)] at q0
 exact Or.inl ⟨sS (g:=gJ ⟨T,F⟩ e path) (y:=(i_,y_)) (s:=s_) ((j0d (f:=⟨T,F⟩) (fun h_=>o1 h_.1) j1 L0 M0 j0 N0 d1 O0).trans (congrArg some (yL q0))),rfl,J.defs,P1,n,N⟩
 refine Qq (fun a J=>?_) (o:=by exact fun J O=>gT (p:=M1) (q:=N1) J rfl rfl (decide_eq_false j0))
 refine go fun a J=>?_
 apply b1
 refine wE J rfl ?_
 refine wS ?_
 obtain ⟨X,Y⟩:=oC (g:=gJ ⟨T,F⟩ e path) (y:=(i_,y_)) (s:=s_) (y6n (fun h_=>o1 h_.1) (fun h_=>j0 (by have t1:=h_.2;rw [qX L0,qX M0] at t1;exact t1)))
 rotate_left
 refine go fun a J=>?_
 apply b1
 refine wE J rfl ?_
 refine wS ?_
 obtain ⟨X,Y⟩:=oC (g:=gJ ⟨T,F⟩ e path) (y:=(i_,y_)) (s:=s_) (y6n (fun h_=>o1 h_.1) (fun h_=>j1 h_.1))
 rotate_left
 replace I:=I.mono b
 replace H:=H.mono b
 replace M:=RTFn.mono _ _ _ _ b M
 replace E:=E.mono b
 replace L:=RTE.mono _ _ _ _ b L
 replace t:=RFnd.mono _ _ _ _ b t
 obtain rfl:h1=zTE:=U0
 replace N:Mem Ψr_ (.blk Z (ob [.int .i64 ((0:Nat):Int),.string ⟨#[]⟩,.string ⟨#[]⟩,.int .i64 ((0:Nat):Int),.int .i64 ((0:Nat):Int),.slice none 0 0,.slice none 0 0,.slice none 0 0] 48)::.blk c0 (ob [.slice m0 path.length c23,.slice f0 up.length d0,.pointer (some e0)] 90)::.blk b0 (ob [.pointer (some pf)] 102)::yA (Dk::[])++K) w:=Mem.mid (A:=[.blk Dk (.deferred (some []))]) (B:=[.blk Z (ob [.int .i64 ((0:Nat):Int),.string ⟨#[]⟩,.string ⟨#[]⟩,.int .i64 ((0:Nat):Int),.int .i64 ((0:Nat):Int),.slice none 0 0,.slice none 0 0,.slice none 0 0] 48),.blk c0 (ob [.slice m0 path.length c23,.slice f0 up.length d0,.pointer (some e0)] 90),.blk b0 (ob [.pointer (some pf)] 102)]) (C:=K) N
 replace N:=N.nm
 refine go fun a J=>?_
 apply x3
 refine qY ?_
 refine yE fun a J=>?_
 refine Qq (fun a J=>?_) (o:=by exact fun J O=>yM J rfl runUnderlying189 (by intro ms h;cases h))
 refine st0 J rfl rfl (jZ J rfl (xC _) (fun a hd=>hQ _ _ _ (oV [.blk Z (ob [.int .i64 ((0:Nat):Int),.string ⟨#[]⟩,.string ⟨#[]⟩,.int .i64 ((0:Nat):Int),.int .i64 ((0:Nat):Int),.slice none 0 0,.slice none 0 0,.slice none 0 0] 48),.blk c0 (ob [.slice m0 path.length c23,.slice f0 up.length d0,.pointer (some e0)] 90),.blk b0 (ob [.pointer (some pf)] 102)] (ds:=[Dk]) hd N fun w N=>?_)))
 replace N:=N.le ((V.1).trans b)
 rw [<- y6m _ _ _ _ D1,(z0o _ _).2.1 _ hr_];exact ⟨rfl,N⟩
 replace I:=I.mono b
 replace H:=H.mono b
 replace M:=RTFn.mono _ _ _ _ b M
 replace E:=E.mono b
 replace L:=RTE.mono _ _ _ _ b L
 replace t:=RFnd.mono _ _ _ _ b t
 obtain ⟨t_,u5,k2⟩:=U0
 replace N:Mem Ψr_ (.blk Z (ob h1 48)::.blk c0 (ob [.slice m0 path.length c23,.slice f0 up.length d0,.pointer (some e0)] 90)::.blk b0 (ob [.pointer (some pf)] 102)::yA (Dk::[])++K) w:=Mem.mid (A:=[.blk Dk (.deferred (some []))]) (B:=[.blk Z (ob h1 48),.blk c0 (ob [.slice m0 path.length c23,.slice f0 up.length d0,.pointer (some e0)] 90),.blk b0 (ob [.pointer (some pf)] 102)]) (C:=K) N
 replace N:=N.nm
 replace N:=N.dl [2,1]
 replace N:Mem Ψr_ (yA [Dk]++(.blk Z (ob h1 48)::K)) w:=Mem.mid (A:=[.blk Z (ob h1 48)]) (B:=yA [Dk]) (C:=K) N
 refine hQ _ _ _ (y8v (ds:=[Dk]) J results153 rfl isAgg48 (by rw [k2.len];exact sizeOf48) N fun w N=>?_)
 subst u5
 rw [<- y6m _ _ _ _ D1,(z0o _ _).2.2 _ hr_]
 exact ⟨(Ψr_,h1),rfl,⟨(V.1).trans b,k2⟩,N⟩
 replace I:=I.mono b
 replace H:=H.mono b
 replace M:=RTFn.mono _ _ _ _ b M
 replace E:=E.mono b
 replace L:=RTE.mono _ _ _ _ b L
 replace t:=RFnd.mono _ _ _ _ b t
 replace N:=N.le ((V.1).trans b)
 refine hQ _ _ _ (panX (ds:=[Dk]) J.defs N fun w N=>?_)
 rw [<- y6m _ _ _ _ D1,(z0o _ _).1 hr_]
 exact ⟨rfl,N⟩
 all_goals (refine Or.inr ⟨X,?_⟩;rw [Y];exact ⟨rfl,Ψr_,_,Fz.Le.refl _,rfl,N⟩)
def q7i:List (Int×Value):=[(1,.func (.func 150) #[] #[]),(2,.func (.func 151) #[] #[]),(3,.func (.func 152) #[] #[]),(4,.func (.func 153) #[] #[]),(5,.func (.func 154) #[] #[]),(6,.func (.func 155) #[] #[])]
theorem x1q {Φ:Fz} {K:List Res} {w:World} (N:Mem Φ K w) :
  Calls prog 122 #[] w (fun ee w'=>∃b:Nat,ee=.returned (.map (some b))/\True/\Mem Φ (.imp b q7i::K) w'):=by
 refine zJ func122 ntmps122 fun Q hQ a J=>?_
 refine go fun a J=>?_
 refine st J rfl rfl rfl (z1q N fun c w N a J=>?_)
 refine st0 J rfl rfl (pR 0 runUnderlying192 runUnderlying3 J N rfl rfl rfl rfl fun w N a J=>?_)
 replace N:=N.nf
 refine st0 J rfl rfl (pR 0 runUnderlying192 runUnderlying3 J N rfl rfl rfl rfl fun w N a J=>?_)
 replace N:=N.nf
 refine st0 J rfl rfl (pR 0 runUnderlying192 runUnderlying3 J N rfl rfl rfl rfl fun w N a J=>?_)
 replace N:=N.nf
 refine st0 J rfl rfl (pR 0 runUnderlying192 runUnderlying3 J N rfl rfl rfl rfl fun w N a J=>?_)
 replace N:=N.nf
 refine st0 J rfl rfl (pR 0 runUnderlying192 runUnderlying3 J N rfl rfl rfl rfl fun w N a J=>?_)
 replace N:=N.nf
 refine st0 J rfl rfl (pR 0 runUnderlying192 runUnderlying3 J N rfl rfl rfl rfl fun w N a J=>?_)
 replace N:=N.nf
 refine yK ?_
 exact ⟨c,rfl,trivial,N⟩
end Go.Sw
