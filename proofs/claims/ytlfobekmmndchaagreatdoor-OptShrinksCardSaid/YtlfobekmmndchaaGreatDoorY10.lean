import Derived.Test.YtlfobekmmndchaaGreatDoorY09
set_option linter.unusedVariables false
set_option linter.unusedSimpArgs false
namespace Go.Sw
open Go.Proofs Go.Proofs.Tryz
set_option maxRecDepth 20000
set_option maxHeartbeats 4000000
def zTE:List Value:=[.int .i64 ((0:Nat):Int),.string ⟨#[]⟩,.string ⟨#[]⟩,.int .i64 ((0:Nat):Int),.int .i64 ((0:Nat):Int),.slice none 0 0,.slice none 0 0,.slice none 0 0]
def GRes (Ψ:Fz) (s:Option TE) (b:Bool) (z:List Value):Prop:=match b with | true=>z=zTE | false=>∃t,s=some t/\RTE Ψ z t
theorem GRes.mono (Ψ Ψ':Fz) (s:Option TE) (b:Bool) (z:List Value) (hl:Ψ.Le Ψ') (h:GRes Ψ s b z):GRes Ψ' s b z:=by
 cases b with
 | true=>exact h
 | false=>obtain ⟨t,a,c⟩:=h;exact ⟨t,a,RTE.mono _ _ _ _ hl c⟩
theorem q0r {e:TE}:∀{p:List Int} {up:List TE} {y:Fnd},y∈zF p up e->∀u∈y.up,u∈up∨∃z∈zF p up e,z.x=u:=by
 refine pH (C:=fun e=>∀{p:List Int} {up:List TE} {y:Fnd},y∈zF p up e->∀u∈y.up,u∈up∨∃z∈zF p up e,z.x=u) (fun e i hb p up y k u f=>?_) e;have self:(⟨p,up,e⟩:Fnd)∈zF p up e:=by rw [jS];exact msQ
 have go:∀(q:List Int) (x:TE),(∀z,z∈zF q (up++[e]) x->z∈zF p up e)->(u∈up++[e]∨∃z∈zF q (up++[e]) x,z.x=u)->u∈up∨∃z∈zF p up e,z.x=u:=fun q x d h=>by
  rcases h with h | ⟨z,b,c⟩
  rcases List.mem_append.1 h with h | h
  exact .inl h;rw [List.mem_singleton] at h;exact .inr ⟨_,self,h.symm⟩;exact .inr ⟨z,d z b,c⟩
 rcases wS k with rfl | ⟨j,a,b,c⟩ | ⟨j,x,b,c⟩
 exact .inl f;refine go _ _ (fun z g=>?_) (i a (mgQ b) c u f);rw [jS];exact mcQ _ (List.mem_append_left _ (mem_belowTa.2 ⟨j,a,b,by rw [Int.zero_add];exact g⟩));refine go _ _ (fun z g=>?_) (hb x (mgQ b) c u f);rw [jS];exact mcQ _ (List.mem_append_right _ (mem_belowTs.2 ⟨j,x,b,by rw [Int.zero_add];exact g⟩))
theorem y2y {T:Trc} {F:TFn} {path:List Int} {up:List TE} {e y:TE} {i:Nat} (GP:GoodP T) (c:F∈T.funs) (d:(⟨path,up,e⟩:Fnd)∈zF [] [] F.body) (h:up[i]? = some y):gdT y:=by
 rcases q0r d y (mgQ h) with a | ⟨z,a,b⟩
 simp at a
 rw [<- b];exact wI (GP.gd F c) a
def uY (e y:TE):Prop:=y.kind=5/\jW y 0=jW e 0
instance (e y:TE):Decidable (uY e y):=by unfold uY;exact inferInstance
def cM (f:FnS) (e:TE) (s:Option TE) (y:Nat×TE):Option TE×Bool:=if uY e y.2 then (f.put [(e.name,⟨y.2.name,0⟩)] (jQ e),false) else (s,true)
def mR (f:FnS) (e:TE) (_:Option TE) (y:Nat×TE):Bool:=decide (uY e y.2)&&(f.put [(e.name,⟨y.2.name,0⟩)] (jQ e)).isNone
theorem z4q {f:FnS} {e y:TE} {s:Option TE} {i:Nat} (h:¬uY e y):mR f e s (i,y)=false/\cM f e s (i,y)=(s,true):=⟨by unfold mR;rw [decide_eq_false h];rfl,if_neg h⟩
theorem q1w {f:FnS} {e y z t:TE} {s:Option TE} {i:Nat} (h:uY e y) (b:jQ e=z) (c:xQ (f.put [(e.name,⟨y.name,0⟩)] z)=.ok t):mR f e s (i,y)=false/\cM f e s (i,y)=(some t,false):=by
 have a:=zS c;constructor
 unfold mR;rw [decide_eq_true h,b];simp only [a];rfl;unfold cM;rw [if_pos h,b];simp only [a]
theorem q1v {f:FnS} {e y z:TE} {s:Option TE} {i:Nat} {c:Unit} (h:uY e y) (b:jQ e=z) (a:xQ (f.put [(e.name,⟨y.name,0⟩)] z)=.error c):mR f e s (i,y)=true:=by
 unfold mR;rw [decide_eq_true h,b];simp only [yK a];rfl
theorem z2n (f:FnS) (e:TE):∀L:List (Nat×TE),(aZ (cM f e) (mR f e) none L=none->f.fuse e (L.map Prod.snd)=none)/\(∀t,aZ (cM f e) (mR f e) none L=some (t,true)->f.fuse e (L.map Prod.snd)=none)/\(∀t,aZ (cM f e) (mR f e) none L=some (t,false)->f.fuse e (L.map Prod.snd)=t)
 | []=>⟨(fun h=>by cases h),(fun t _=>rfl),(fun t h=>by cases h)⟩
 | (i,y)::L=>by
  by_cases N:uY e y;rw [List.map_cons];have g:f.fuse e (y::L.map Prod.snd)=f.put [(e.name,⟨y.name,0⟩)] (jQ e):=by rw [FnS.fuse,if_pos (show y.kind=5/\jW y 0=jW e 0 from N)]
  rw [g];cases d:f.put [(e.name,⟨y.name,0⟩)] (jQ e) with
  | none=>
   have hb:mR f e none (i,y)=true:=q1v (c:=()) N rfl (by rw [d];rfl);rw [z3n hb];exact ⟨(fun _=>rfl),(fun t h=>by cases h),(fun t h=>by cases h)⟩
  | some z=>
   obtain ⟨b,a⟩:=q1w (f:=f) (s:=none) (i:=i) N rfl (t:=z) (by rw [d];rfl);rw [z7o b (by rw [a]),a];exact ⟨(fun h=>by cases h),(fun t h=>by cases h),(fun t h=>by cases h;rfl)⟩
  obtain ⟨b,a⟩:=z4q (f:=f) (s:=none) (i:=i) N;rw [z3o b (by rw [a]),a,List.map_cons,show f.fuse e (y::L.map Prod.snd)=f.fuse e (L.map Prod.snd) from by rw [FnS.fuse,if_neg (show ¬(y.kind=5/\jW y 0=jW e 0) from N)]];exact z2n f e L
theorem cI {α:Type} (l:List α):(vS l l.length).map Prod.snd=l.reverse:=by rw [y5a l _ (Nat.le_refl _),List.take_length]
theorem fuse_ok {Φ:Fz} {K:List Res} {w:World} {pf:Addr} {T:Trc} {F:TFn} {c:List Value} {path:List Int} {up:List TE} {e:TE} {num:Int} (RF:RFnO Φ pf T F) (GP:GoodP T) (hF:F∈T.funs) (hx:(⟨path,up,e⟩:Fnd)∈zF [] [] F.body) (rf:RFnd Φ c ⟨path,up,e⟩) (G:Glob Φ) (hk:e.kind=5) (N:Mem Φ K w) :
  Calls prog 152 #[.pointer (some pf),.agg c.toArray,.int .i64 num] w (fun ee w'=>Out (xQ (FnS.fuse ⟨T,F⟩ e up.reverse)) (fun z=>∃q:Fz×List Value,ee=.returned (.agg q.2.toArray)/\(Φ.Le q.1/\RTE q.1 q.2 z)/\Mem q.1 K w') (fun _=>ee=.panicked vB/\Mem Φ K w')):=by
 have r:=rf;have H0:GI e:=nA (wI (GP.gd F hF) hx);obtain ⟨Z2,a3,P2,O2,I2,l,k,n,u2,t1,s1⟩:=RF.ex;obtain ⟨G1,H1,W,H2,rfl,X1,Y1,i0,v,j,Z⟩:=id rf;replace i0:SliceOf RInt Φ 1 G1 path:=i0;replace v:SliceOf RPtE Φ 1 H1 up:=v;replace Z:RTE Φ _ e:=Z;obtain ⟨X,c23,rfl,u1,o2⟩:=i0.fm;obtain ⟨Y,P,rfl,v1,q2⟩:=v.fm;have m:=Z;obtain ⟨R2,c34,S2,E2,T2,c46,rfl,Z1,a2,d0,J2,e0,i2,Q0,j2,r2,k2,R0⟩:=RTE.fm Z;have M0:=H0.ar.one (.inl hk);have e2:e.args.length=1:=M0;have N0:0 < e.args.length:=by omega
 have f2:e.body.length=1:=H0.ar.rest (by omega) (by omega);have O0:0 < e.body.length:=by omega
 refine z7j func152 rfl ntmps152 rfl (fun Q hQ a J=>?_);refine sqB fun A2 J0=>?_;refine jG ?_;refine Bx fun L w N a J=>?_;refine Bx fun M w N a J=>?_;refine Alc fun D w N a J=>?_;refine go fun a J=>?_;apply J0;refine sqB fun B2 K0=>?_;refine sqB fun C2 L0=>?_;refine jG ?_;refine yI call189 (fun e3 w g N a J=>?_) (c:=z8l v N);replace l:=l.mono g.1;replace k:=k.mono g.1;replace n:=RTFn.mono _ _ _ _ g.1 n;replace RF:=RF.mono g.1;replace v:=v.mono RPtE.mono g.1;replace d0:=d0.mono RAtom.mono g.1;replace e0:=e0.mono RTE.mono g.1;replace j:=j.mono g.1;replace m:=RTE.mono _ _ _ _ g.1 m;replace r:=RFnd.mono _ _ _ _ g.1 r;have z0:=g.2
 try dsimp only [zTE] at N
 replace N:=N.nf;refine go fun a J=>?_;apply L0;refine z0l ?_;refine sD (p1:=12) (p2:=13) RBk (vS up up.length) .ret (cM ⟨T,F⟩ e) (mR ⟨T,F⟩ e) GRes (fun _ _ z_=>.blk D (ob z_ 48)::.blk M (ob [.slice X path.length c23,.slice Y up.length P,.pointer (some W)] 90)::.blk L (ob [.pointer (some pf)] 102)::K) (K) none zTE func152 J rfl N rfl call213 rfl rfl GRes.mono (fun Ψr_ s_ z_ b3 d3 x_ l_ Q2 F1 a1 a w b U0 B0 E J N=>?_) (z0j z0 v) (fun I1 hr_ Dk Ψr_ o0 a w b E J N=>?_) (fun I1 hr_ Dk Ψr_ o0 a w b E J N=>?_) (fun hr_ Dk Ψr_ a w b J N=>?_);obtain ⟨i_,y_⟩:=x_;obtain ⟨u0,p_,d_,C0,s0,l0⟩:=B0;simp only at u0 l0
 injection C0 with C0 _
 subst u0 C0;obtain rfl:z_=zTE:=E;have w0:=gG U0;simp only at w0;have k0:=l0;replace l:=l.mono b;replace k:=k.mono b;replace n:=RTFn.mono _ _ _ _ b n;replace RF:=RF.mono b;replace d0:=d0.mono RAtom.mono b;replace e0:=e0.mono RTE.mono b;replace j:=j.mono b;replace m:=RTE.mono _ _ _ _ b m;replace r:=RFnd.mono _ _ _ _ b r
 try dsimp only [zTE] at N
 replace N:=N.nf;obtain ⟨U2,F2,V2,G2,W2,c79,rfl,b2,c2,d1,K2,L2,l2,S0,m2,s2,n2,t2⟩:=RTE.fm l0;refine xM ?_;refine zG J (by intro c h;cases h) (jE J rfl) rfl fun a J=>?_;refine zZ ?_;refine ⟨_,N,fun w N=>?_⟩
 try dsimp only [zTE] at N
 replace N:=N.nf;refine gJ ?_;refine sqI fun D2 f0=>?_
 try dsimp only [zTE] at N
 refine qY [1,1,1,2,1,1,1,1,1,2,1,2,1,2,1,1,2,1,2,1,1] (.q 0 (.q 1 (.q 2 (.q 3 (.q 4 (.q 5 (.q 6 (.q 7 (.q 8 (.q 9 (.q 10 (.q 11 (.q 12 (.q 13 (.q 14 (.q 15 (.q 16 (.q 17 (.q 18 (.q 19 (.q 20 (.done)))))))))))))))))))))) [.blk D (ob ZT 48),.blk M (ob [.slice X path.length c23,.slice Y up.length P,.pointer (some W)] 90),.blk L (ob [.pointer (some pf)] 102)] J N mixed (by kernel_rfl) (by simp) (by kernel_rfl) fun w N=>?_;by_cases p0:y_.kind=5;refine go fun a J=>?_;have P0:0 < y_.args.length:=by have h_:=(nA (y2y GP hF hx w0)).ar.one (.inl p0);omega
 obtain ⟨X2,rfl,a0,m0,P1,g2,r0,j0⟩:=d1.el S0 P0;obtain ⟨rfl,d2⟩:=id j0;refine go fun a J=>?_;obtain ⟨Y2,rfl,b0,n0,Q1,h2,g0,S⟩:=d0.el Q0 N0;obtain ⟨rfl,f1⟩:=id S;by_cases t:a0=b0;refine Qq (fun a J=>?_) (o:=by exact fun J O=>cX (p:=a0) (q:=b0) J rfl rfl (decide_eq_true t));refine go fun a J=>?_;apply f0;refine mD J rfl ?_;refine sqI fun M1 y0=>?_
 try dsimp only [zTE] at N
 refine qY [2,1,2,1,1,2,1,2,0,1,2,1,1,2,1,1,1,2,1,0,1,0,0] (.q 0 (.q 1 (.q 2 (.q 3 (.q 4 (.q 5 (.q 6 (.q 7 (.q 9 (.q 10 (.q 11 (.q 12 (.q 13 (.q 14 (.q 15 (.q 16 (.q 17 (.q 18 (.e 8 (.e 19 (.q 20 (.e 21 (.e 22 (.done)))))))))))))))))))))))) [.blk D (ob ZT 48),.blk M (ob [.slice X path.length c23,.slice Y up.length P,.pointer (some W)] 90),.blk L (ob [.pointer (some pf)] 102)] J N mixed (by kernel_rfl) (by simp) (by kernel_rfl) fun w N=>?_;refine go fun a J=>?_;obtain ⟨y2,rfl,z2,V,b1,k1,h0,x⟩:=e0.el R0 O0;obtain ⟨v2,N1,w2,O1,x2,c127,rfl,g1,h1,R1,S1,T1,l1,w1,m1,x1,n1,y1⟩:=RTE.fm x;refine yE fun a J=>?_;refine MkM fun D0 w N a J=>?_
 try dsimp only [zTE] at N
 replace N:=N.nf;refine aJ J rfl rfl (pW 0 runUnderlying151 runUnderlying9 J N rfl rfl rfl rfl fun w N=>⟨fun _=>N.sn (Fz.Le.refl _),fun a J=>?_⟩);replace N:Mem Ψr_ (.mp D0 (vA (qT [] e.name (⟨y_.name,((0:Nat):Int)⟩:Atom)))::.blk l_ F1::.blk D (ob ZT 48)::.blk M (ob [.slice X path.length c23,.slice Y up.length P,.pointer (some W)] 90)::.blk L (ob [.pointer (some pf)] 102)::(K++a1)) w:=by rw [<- wR [] e.name (⟨y_.name,((0:Nat):Int)⟩:Atom)];exact N
 refine go fun a J=>?_;refine d_e J rfl rfl rfl (wM J rfl call186 (oS RF (cN (GP.gd F hF)) (dO (show I64 0 from by unfold I64;omega)) x (cA (GP.sm hF hx) V) N) (fun u x0 w R d N=>⟨fun _=>N.sn ((Fz.Le.refl _).trans (d.1)),fun a J=>?_⟩) (fun u w R N=>fun a hd=>?_));replace l:=l.mono d.1;replace k:=k.mono d.1;replace n:=RTFn.mono _ _ _ _ d.1 n;replace j:=j.mono d.1;replace m:=RTE.mono _ _ _ _ d.1 m;replace r:=RFnd.mono _ _ _ _ d.1 r;replace s0:=s0.mono d.1;replace k0:=RTE.mono _ _ _ _ d.1 k0;replace r0:=r0.mono d.1;replace j0:=RAtom.mono _ _ _ _ d.1 j0;replace g0:=g0.mono d.1;replace S:=RAtom.mono _ _ _ _ d.1 S;replace h0:=h0.mono d.1;replace x:=RTE.mono _ _ _ _ d.1 x;have U:=d.2;obtain ⟨c1,q0⟩:∃x_,x_=x0.2:=⟨_,rfl⟩;rw [<- q0] at U J;have A0:=U;obtain ⟨V0,E0,X0,F0,Y0,G0,rfl,i1,j1,U1,V1,W1,o1,z1,q1,A1,r1,B1⟩:=RTE.fm U
 try dsimp only [zTE] at N
 replace N:=N.nf;refine Sto 1 fun w N a J=>?_;refine go fun a J=>?_;apply y0;refine wpIn_ret ?_;obtain ⟨H,I⟩:=q1w (f:=⟨T,F⟩) (e:=e) (y:=y_) (s:=s_) (i:=i_) (show uY e y_ from ⟨p0,by rw [(show jW y_ 0=a0 from jF m0),(show jW e 0=b0 from jF n0)];exact t⟩) (wB V) R;refine Or.inr ⟨H,?_⟩;rw [I];exact ⟨rfl,x0.1,[.int .i64 (u.kind),.string u.name,.string u.op,.int .i64 (u.num),.int .i64 (u.site),.slice V0 u.args.length E0,.slice X0 u.arms.length F0,.slice Y0 u.body.length G0],d.1,⟨_,rfl,A0⟩,N⟩;replace N:=N.dl [3,2,1];exact Or.inl ⟨q1v (f:=⟨T,F⟩) (e:=e) (y:=y_) (show uY e y_ from ⟨p0,by rw [(show jW y_ 0=a0 from jF m0),(show jW e 0=b0 from jF n0)];exact t⟩) (wB V) R,rfl,hd,Ψr_,Fz.Le.refl _,N⟩;refine Qq (fun a J=>?_) (o:=by exact fun J O=>cX (p:=a0) (q:=b0) J rfl rfl (decide_eq_false t));refine go fun a J=>?_;apply f0;refine wP J rfl ?_;refine pE ?_;obtain ⟨H,I⟩:=z4q (f:=⟨T,F⟩) (e:=e) (y:=y_) (s:=s_) (i:=i_) (fun h_=>t (by have I0:=h_.2;rw [(show jW y_ 0=a0 from jF m0),(show jW e 0=b0 from jF n0)] at I0;exact I0))
 rotate_left
 refine go fun a J=>?_;apply f0;refine wP J rfl ?_;refine pE ?_;obtain ⟨H,I⟩:=z4q (f:=⟨T,F⟩) (e:=e) (y:=y_) (s:=s_) (i:=i_) (fun h_=>p0 h_.1)
 rotate_left
 replace l:=l.mono b;replace k:=k.mono b;replace n:=RTFn.mono _ _ _ _ b n;replace j:=j.mono b;replace m:=RTE.mono _ _ _ _ b m;replace r:=RFnd.mono _ _ _ _ b r;obtain rfl:o0=zTE:=E;replace N:=(Mem.mid (A:=[.blk Dk (.deferred (some []))]) (B:=[.blk D (ob ZT 48),.blk M (ob [.slice X path.length c23,.slice Y up.length P,.pointer (some W)] 90),.blk L (ob [.pointer (some pf)] 102)]) (C:=K) N).nq;replace N:=N.nm;refine go fun a J=>?_;apply K0;refine jG ?_;refine yE fun a J=>?_;refine Qq (fun a J=>?_) (o:=by exact fun J O=>yL J rfl runUnderlying189 (by intro ms h;cases h));refine st0 J rfl rfl (xG J rfl (xH _) (fun a hd=>hQ _ _ _ (sI [.blk D (ob ZT 48),.blk M (ob [.slice X path.length c23,.slice Y up.length P,.pointer (some W)] 90),.blk L (ob [.pointer (some pf)] 102)] (ds:=[Dk]) hd N fun w N=>?_)));replace N:=N.le ((g.1).trans b);rw [<- cI up,(z2n ⟨T,F⟩ e (vS up up.length)).2.1 _ hr_];exact ⟨rfl,N⟩;replace l:=l.mono b;replace k:=k.mono b;replace n:=RTFn.mono _ _ _ _ b n;replace j:=j.mono b;replace m:=RTE.mono _ _ _ _ b m;replace r:=RFnd.mono _ _ _ _ b r;obtain ⟨t_,C1,t0⟩:=E;replace N:=(Mem.mid (A:=[.blk Dk (.deferred (some []))]) (B:=[.blk D (ob o0 48),.blk M (ob [.slice X path.length c23,.slice Y up.length P,.pointer (some W)] 90),.blk L (ob [.pointer (some pf)] 102)]) (C:=K) N).nq;replace N:=N.nm;replace N:=N.dl [2,1];replace N:=(Mem.mid (A:=[.blk D (ob o0 48)]) (B:=yV [Dk]) (C:=K) N).nq
 refine hQ _ _ _ (y9p (ds:=[Dk]) J results152 rfl isAgg48 (by rw [t0.len];exact sizeOf48) N fun w N=>?_);subst C1;rw [<- cI up,(z2n ⟨T,F⟩ e (vS up up.length)).2.2 _ hr_];exact ⟨(Ψr_,o0),rfl,⟨(g.1).trans b,t0⟩,N⟩;replace l:=l.mono b;replace k:=k.mono b;replace n:=RTFn.mono _ _ _ _ b n;replace j:=j.mono b;replace m:=RTE.mono _ _ _ _ b m;replace r:=RFnd.mono _ _ _ _ b r;replace N:=N.le ((g.1).trans b);refine hQ _ _ _ (panX (ds:=[Dk]) J.defs N fun w N=>?_);rw [<- cI up,(z2n ⟨T,F⟩ e (vS up up.length)).1 hr_];exact ⟨rfl,N⟩
 all_goals (refine Or.inr ⟨H,?_⟩;rw [I];exact ⟨rfl,Ψr_,_,Fz.Le.refl _,rfl,N⟩)
abbrev refusedVT:Value:=.iface 189 (.agg #[])
set_option maxRecDepth 20000 in
set_option maxHeartbeats 4000000 in
theorem y3s {Φ:Fz} {K:List Res} {w:World} {b d:Nat} (N:Mem Φ (.blk b (ob zTE 48)::.blk d (ob [.bool false] 4)::K) w) :
  CallsD prog 121 #[.pointer (some ⟨b,0,none⟩),.pointer (some ⟨d,0,none⟩)] (.panicking vB) w fun e u' w'=>
   e=.returned (.tuple #[])/\u'=.panicking [{ v:=refusedVT,recovered:=true }]/\Mem Φ (.blk b (ob zTE 48)::.blk d (ob [.bool false] 4)::K) w':=by
 generalize k:(fun (e:Ending) (u':FrameMode) (w':World)=>e=.returned (.tuple #[])/\u'=.panicking [{ v:=refusedVT,recovered:=true }]/\Mem Φ (.blk b (ob zTE 48)::.blk d (ob [.bool false] 4)::K) w')=R;refine callsD_of_wpS func121 rfl fun c₀ cs n=>?_;apply wpS_seq;apply wpS_region;show wpOpsS prog _ _ [0,1] _ _ _
 simp [wpOpsS,go_sem,recoverD,n,ntmps121,Exit.thenS,vB]
 refine wpS_of_wp ?_;generalize l:(_::cs:List Frame)=cs'
 have hQ:∀(a:Act) (w':World),a.defers=[]->Mem Φ (.blk b (ob zTE 48)::.blk d (ob [.bool false] 4)::K) w'->bodyPostS prog Tryz.f121 c₀ cs R .normal a cs' w':=fun a w' m N=>
  ⟨m,.panicking [{ v:=refusedVT,recovered:=true }],l.symm,.tuple #[],results_none rfl _ _ _,by subst k;exact ⟨rfl,rfl,N⟩⟩
 generalize c:(Act.mk _ [])=a
 have J:EnvR 17 [(2,refusedVT),(5,refusedVT),(1,.pointer (some ⟨d,0,none⟩)),(0,.pointer (some ⟨b,0,none⟩))] [] a:=by
  subst c;refine ⟨by simp,fun t v h=>?_,rfl⟩;obtain ⟨rfl,rfl⟩ | ⟨_,h⟩:=xW h
  ·rfl
  ·obtain ⟨rfl,rfl⟩ | ⟨_,h⟩:=xW h
   ·rfl
   ·obtain ⟨rfl,rfl⟩ | ⟨_,h⟩:=xW h
    ·rfl
    ·obtain ⟨rfl,rfl⟩ | ⟨_,h⟩:=xW h
     ·rfl
     ·cases h
 clear c;refine sq fun o f=>?_;refine wp_region_lit ?_
 refine xP J (yZ J rfl) rfl fun a J=>
  xP J (jB (v:=.bool true) J rfl rfl rfl (by kernel_rfl)) rfl fun a J=>?_
 refine wpList_nil ?_;apply f;refine if_t J rfl ?_;refine sq fun r j=>?_;refine sq fun p g=>?_;refine wp_region_lit ?_;refine xP J (yZ J rfl) rfl fun a J=>?_;refine xP J (y3l J rfl runUnderlying189 (by intro ms h;cases h)) rfl fun a J=>?_
 refine xP J (yZ J rfl) rfl fun a J=>
  xP J (xO J rfl rfl) rfl fun a J=>
  xP J (xO J rfl rfl) rfl fun a J=>?_
 refine st J rfl rfl rfl (qW (cs:=[]) N zeroValue189 rfl fun s w N a J=>?_);refine st0 J rfl rfl (zQ 0 (cs:=[]) (vs:=[]) J N rfl rfl rfl rfl sizeOf189 rfl rfl rfl fun w N a J=>?_);refine xP J (jE J rfl) rfl fun a J=>?_;refine wpList_nil ?_;apply g;refine sq fun q i=>?_;refine wp_region_lit ?_
 refine xP J (yZ J rfl) rfl fun a J=>
  xP J (z6v J rfl) rfl fun a J=>?_
 refine wpList_nil ?_;apply i;refine if_f J rfl ?_;refine wp_skip ?_;apply j;refine wp_region_lit ?_;refine xP J (jV (vs:=[]) (cs:=zTE) J rfl (by kernel_rfl)) rfl fun a J=>?_;refine st0 J rfl rfl (zQ 1 (cs:=zTE) (vs:=zTE) J N rfl rfl rfl rfl sizeOf48 rfl rfl rfl fun w N a J=>?_);refine st0 J rfl rfl (zQ 2 (cs:=[.bool false]) (vs:=[.bool false]) J N rfl rfl rfl rfl sizeOf4 rfl rfl rfl fun w N a J=>?_);refine wpList_nil ?_;replace N:Mem Φ (.blk b (ob zTE 48)::.blk d (ob [.bool false] 4)::K) w:=N.del 0;exact hQ _ _ J.defs N
set_option maxRecDepth 20000 in
set_option maxHeartbeats 4000000 in
theorem still_refused {w:World} {b g:Nat} :
  CallsD prog 121 #[.pointer (some ⟨b,0,none⟩),.pointer (some ⟨g,0,none⟩)] .returning w fun e u' w'=>e=.returned (.tuple #[])/\u'=.returning/\w'=w:=by
 generalize i:(fun (e:Ending) (u':FrameMode) (w':World)=>e=.returned (.tuple #[])/\u'=.returning/\w'=w)=R;refine callsD_of_wpS func121 rfl fun c₀ cs f=>?_;apply wpS_seq;apply wpS_region;show wpOpsS prog _ _ [0,1] _ _ _
 simp [wpOpsS,go_sem,recoverD,f,ntmps121,Exit.thenS,vB]
 refine wpS_of_wp ?_
 have hQ:∀(a:Act),a.defers=[]->bodyPostS prog Tryz.f121 c₀ cs R .normal a (c₀::cs) w:=fun a j=>
  ⟨j,.returning,by cases c₀;simp only at f;subst f;rfl,.tuple #[],results_none rfl _ _ _,by subst i;exact ⟨rfl,rfl,rfl⟩⟩
 generalize c:(Act.mk _ [])=a
 have J:EnvR 17 [(2,.nilIface),(5,.nilIface),(1,.pointer (some ⟨g,0,none⟩)),(0,.pointer (some ⟨b,0,none⟩))] [] a:=by
  subst c;refine ⟨by simp,fun t v h=>?_,rfl⟩;obtain ⟨rfl,rfl⟩ | ⟨_,h⟩:=xW h
  ·rfl
  ·obtain ⟨rfl,rfl⟩ | ⟨_,h⟩:=xW h
   ·rfl
   ·obtain ⟨rfl,rfl⟩ | ⟨_,h⟩:=xW h
    ·rfl
    ·obtain ⟨rfl,rfl⟩ | ⟨_,h⟩:=xW h
     ·rfl
     ·cases h
 clear c;refine sq fun k d=>?_;refine wp_region_lit ?_
 refine xP J (yZ J rfl) rfl fun a J=>
  xP J (jB (v:=.bool false) J rfl rfl rfl (by kernel_rfl)) rfl fun a J=>?_
 refine wpList_nil ?_;apply d;refine if_f J rfl ?_;refine wp_skip ?_;exact hQ _ J.defs
theorem dY {P:Program} {fn:Func} {n:Nat} {E:List (Nat×Value)} {D:List Deferred} {a:Act} {Φ:Fz} {K:List Res} {w:World} {t T b i k t' T' b' i':Nat} {cs:List Value} {T0 T0':TypeId} {v:Value} (J:EnvR n E D a) (N:Sees Φ K w) (l:fn.results=#[.cell t T,.cell t' T']) (c:get E t=some (.pointer (some ⟨b,0,none⟩)))
  (j:yU K i=some (.blk b (ob cs T0))) (h:AggT P T) (g:SizeT P T k) (hl:cs.length=k) (hv':get E t'=some (.pointer (some ⟨b',0,none⟩))) (hk':yU K i'=some (.blk b' (ob [v] T0'))) (hT':Scalar P T'):(results fn a.tmps).run P w=.ok (.tuple #[.agg cs.toArray,v]) w:=by
 have e:=q1a (P:=P) J N c j h g hl;have d:w.cell? ⟨b',0,none⟩=some v:=N.cell hk' 0;have f:(loadVar T' ⟨b',0,none⟩).run P w=.ok v w:=by simp [loadVar,Sem.run_bind,hT' w,Result.andThen,load,Sem.run,d]
 simp [results,l,Array.getD_eq_getD_getElem?,J.env t _ c,J.env t' _ hv',asAddr,e,f,Sem.run_bind,Result.andThen]
def oP (g:Nat×TE->Option (Option TE)) (s:Option TE) (y:Nat×TE):Option TE×Bool:=match g y with | none=>(s,true) | some r=>(r,false)
def tF (g:Nat×TE->Option (Option TE)) (_:Option TE) (y:Nat×TE):Bool:=match g y with | some none=>true | _=>false
def sH (g:Nat×TE->Option (Option TE)):List (Nat×TE)->Option TE
 | []=>none
 | y::l=>match g y with | none=>sH g l | some r=>r
section
variable {g:Nat×TE->Option (Option TE)} {y:Nat×TE} {s:Option TE} {t:TE}
theorem oQ (h:g y=none):tF g s y=false/\oP g s y=(s,true):=by unfold tF oP;rw [h];exact ⟨rfl,rfl⟩
theorem y0g (h:g y=some (some t)):tF g s y=false/\oP g s y=(some t,false):=by unfold tF oP;rw [h];exact ⟨rfl,rfl⟩
theorem tG (h:g y=some none):tF g s y=true:=by unfold tF;rw [h]
end
theorem z0x (g:Nat×TE->Option (Option TE)):∀L:List (Nat×TE),(aZ (oP g) (tF g) none L=none->sH g L=none)/\(∀t,aZ (oP g) (tF g) none L=some (t,true)->sH g L=none)/\(∀t,aZ (oP g) (tF g) none L=some (t,false)->sH g L=t)
 | []=>⟨(fun h=>by cases h),(fun t _=>rfl),(fun t h=>by cases h)⟩
 | y::L=>by
  cases b:g y with
  | none=>
   obtain ⟨c,a⟩:=oQ (s:=none) b;rw [z3o c (by rw [a]),a,sH,b];exact z0x g L
  | some r=>
   rw [sH,b];cases r with
   | none=>rw [z3n (tG b)];exact ⟨(fun _=>rfl),(fun t h=>by cases h),(fun t h=>by cases h)⟩
   | some t=>
    obtain ⟨c,a⟩:=y0g (s:=none) b;rw [z7o c (by rw [a]),a];exact ⟨(fun h=>by cases h),(fun t h=>by cases h),(fun t h=>by cases h;rfl)⟩
def fwdG (f:FnS) (e y:TE):Option TE:=(f.prog.funs[gL f.prog y.op]?).bind fun g=>match g.params with
 | [p]=>if g.body.kind=9/\(jW g.body 0).name=p.name then f.put [(e.name,jW y 0)] (jQ e) else none
 | _=>none
def z2o (f:FnS) (e:TE) (y:Nat×TE):Option (Option TE):=if y.2.kind=4/\y.2.name=(jW e 0).name then some (fwdG f e y.2) else none
theorem z7l (f:FnS) (e:TE):∀L:List (Nat×TE),sH (z2o f e) L=f.forward e (L.map Prod.snd)
 | []=>rfl
 | (i,y)::L=>by
  rw [sH,List.map_cons,FnS.forward,z7l f e L];unfold z2o;by_cases h:y.kind=4/\y.name=(jW e 0).name;rw [if_pos h,if_pos h];rfl;rw [if_neg h,if_neg h]
theorem j5r {f:FnS} {e y:TE} {i:Nat} (h:¬y.kind=4):z2o f e (i,y)=none:=if_neg fun a=>h a.1
theorem j5s {f:FnS} {e y:TE} {a:Atom} {i:Nat} (c:e.args[0]? = some a) (h:¬y.name=a.name):z2o f e (i,y)=none:=if_neg fun b=>h (by rw [b.2,jF c])
theorem z2p {f:FnS} {e y:TE} {a:Atom} {i:Nat} (c:y.kind=4) (b:e.args[0]? = some a) (h:y.name=a.name):z2o f e (i,y)=some (fwdG f e y):=if_pos ⟨c,by rw [h,jF b]⟩
theorem q1x {f:FnS} {e y z:TE} {b c:Atom} {g:TFn} {p:TPar} {q:Nat} (hq:gL f.prog y.op=q) (i:f.prog.funs[q]? = some g) (hl:g.params.length=1) (d:g.params[0]? = some p) (j:g.body.kind=9) (hb:g.body.args[0]? = some b) (k:b.name=p.name) (h:y.args[0]? = some c) (l:jQ e=z):fwdG f e y=f.put [(e.name,c)] z:=by
 unfold fwdG;rw [hq,i,Option.bind_some]
 match a:g.params with
 | []=>rw [a] at hl;simp at hl
 | [p1]=>
  rw [a,List.getElem?_cons_zero] at d;cases d;simp only;rw [if_pos ⟨j,by rw [jF hb];exact k⟩,jF h,l]
 | _::_::_=>rw [a] at hl;simp at hl
theorem y8l {f:FnS} {e y:TE} {g:TFn} {q:Nat} (hq:gL f.prog y.op=q) (b:f.prog.funs[q]? = some g) (h:∀p,g.params=[p]->¬(g.body.kind=9/\(jW g.body 0).name=p.name)):fwdG f e y=none:=by
 unfold fwdG;rw [hq,b,Option.bind_some]
 match a:g.params with
 | []=>rfl
 | [p1]=>simp only;rw [if_neg (h p1 a)]
 | _::_::_=>rfl
theorem atM_lt (n:Bs):∀(l:List TFn) (k:Nat) (m:List (Bs×Int)),(∀v,zK m n=some v->∃q:Nat,v=(q:Int)/\q < k)->∀v,zK (atM k l m) n=some v->∃q:Nat,v=(q:Int)/\q < k+l.length
 | [],k,m,h,v,a=>by simpa using h v a
 | f::l,k,m,h,v,a=>by
  rw [atM] at a
  obtain ⟨q,b,c⟩:=atM_lt n l (k+1) _ (fun v a=>by
   rw [yJ] at a;split at a
   cases a;exact ⟨k,rfl,by omega⟩
   obtain ⟨q,b,c⟩:=h v a;exact ⟨q,b,by omega⟩) v a
  exact ⟨q,b,by rw [lcQ];omega⟩
theorem fun_at {T:Trc} {F:TFn} (b:F∈T.funs) (n:Bs):∃q:Nat,(zK (atM 0 T.funs []) n).getD 0=((q:Nat):Int)/\q < T.funs.length/\gL T n=q:=by
 cases h:zK (atM 0 T.funs []) n with
 | none=>exact ⟨0,rfl,List.length_pos_of_mem b,by unfold gL;rw [h];rfl⟩
 | some v=>
  obtain ⟨q,a,d⟩:=atM_lt n T.funs 0 [] (fun v c=>by cases c) v h;subst a;exact ⟨q,rfl,by omega,by unfold gL;rw [h];rfl⟩
theorem q0l (n:Bs):∀(l:List TFn) (k:Nat) (m:List (Bs×Int)) (L:List TFn),(∀i f,l[i]? = some f->L[k+i]? = some f)->(∀v,zK m n=some v->∃g,L[v.toNat]? = some g/\g.name=n)->((∃g∈l,g.name=n)∨(zK m n).isSome)->∃v g,zK (atM k l m) n=some v/\L[v.toNat]? = some g/\g.name=n
 | [],k,m,L,_,N,h=>by
  rcases h with ⟨g,b,_⟩ | h
  cases b;obtain ⟨v,a⟩:=Option.isSome_iff_exists.1 h;obtain ⟨g,e,j⟩:=N v a;exact ⟨v,g,a,e,j⟩
 | f::l,k,m,L,hl,N,h=>by
  rw [atM];refine q0l n l (k+1) _ L (fun i f o=>by have:=hl (i+1) f (by simpa using o);rw [show k+1+i=k+(i+1) from by omega];exact this) (fun v a=>?_) ?_;rw [yJ] at a;split at a
  rename_i d;cases a;exact ⟨f,by rw [Int.toNat_natCast];exact hl 0 f rfl,d.symm⟩;exact N v a;by_cases d:n=f.name;exact .inr (by rw [yJ,if_pos d];rfl);rcases h with ⟨g,b,c⟩ | h
  rcases List.mem_cons.1 b with rfl | b
  exact absurd c.symm d;exact .inl ⟨g,b,c⟩;exact .inr (by rw [yJ,if_neg d];exact h)
theorem z4p {T:Trc} {n:Bs} (h:∃g∈T.funs,g.name=n):∃g,T.funs[gL T n]? = some g/\g.name=n:=by
 obtain ⟨v,g,a,b,c⟩:=q0l n T.funs 0 [] T.funs (fun i f d=>by rw [Nat.zero_add];exact d) (fun v e=>by cases e) (.inl h);exact ⟨g,by unfold gL;rw [a];exact b,c⟩
theorem up_call {T:Trc} {F:TFn} {path:List Int} {up:List TE} {e y:TE} {i:Nat} (GP:GoodP T) (k:F∈T.funs) (m:(⟨path,up,e⟩:Fnd)∈zF [] [] F.body) (h:up[i]? = some y) (l:y.kind=4) {q:Nat} {g:TFn} (hq:gL T y.op=q) (f:T.funs[q]? = some g):g.params.length=y.args.length:=by
 rcases q0r m y (mgQ h) with a | ⟨z,a,c⟩
 simp at a
 have b:=GP.cl F k z a (.inr (.inl (by rw [c];exact l)));rw [c] at b;obtain ⟨n,d,j⟩:=z4p b.ex;rw [hq,f] at d;cases d;exact b.all _ (mgQ f) j
theorem q7t {g:TFn} {p:TPar} {b:Atom} (a:g.params[0]? = some p) (hb:g.body.args[0]? = some b) (c:¬b.name=p.name):∀q,g.params=[q]->¬(g.body.kind=9/\(jW g.body 0).name=q.name):=fun q hq h=>by
 rw [hq,List.getElem?_cons_zero] at a;cases a;exact c (by rw [<- jF hb];exact h.2)
theorem q7s {Φ:Fz} {K:List Res} {w:World} {pf:Addr} {T:Trc} {F:TFn} {c:List Value} {path:List Int} {up:List TE} {e:TE} {num:Int} (RF:RFnO Φ pf T F) (GP:GoodP T) (hF:F∈T.funs) (hx:(⟨path,up,e⟩:Fnd)∈zF [] [] F.body) (rf:RFnd Φ c ⟨path,up,e⟩) (G:Glob Φ) (hk:e.kind=5) (N:Mem Φ K w) :
  Calls prog 154 #[.pointer (some pf),.agg c.toArray,.int .i64 num] w (fun ee w'=>Out (xQ (FnS.forward ⟨T,F⟩ e up.reverse)) (fun z=>∃q:Fz×List Value,ee=.returned (.agg q.2.toArray)/\(Φ.Le q.1/\RTE q.1 q.2 z)/\Mem q.1 K w') (fun _=>ee=.panicked vB/\Mem Φ K w')):=by
 have v:=rf;have C1:GI e:=nA (wI (GP.gd F hF) hx);obtain ⟨S4,n3,M4,L4,E4,r,p,u,P1,Q2,P2⟩:=RF.ex;obtain ⟨D3,h3,k,N0,L⟩:=P1.ex;have m:=N0;obtain ⟨j3,c21,k3,b2,l3,c2,m3,d2,rfl,Q3,F4,G4,B0,H4,V3,e4,W3,f4,X3,M1,Y3,g4⟩:=RTrc.fm N0;replace k:At Φ n3 [.slice j3 T.cons.length c21,.slice k3 T.inputs.length b2,.slice l3 T.funs.length c2,.slice m3 T.outputs.length d2,.map (some h3)]:=k;obtain ⟨p3,q3,Z,D4,rfl,O3,P3,K0,M,n,r0⟩:=id rf;replace K0:SliceOf RInt Φ 1 p3 path:=K0;replace M:SliceOf RPtE Φ 1 q3 up:=M;replace r0:RTE Φ _ e:=r0;obtain ⟨a0,V,rfl,R2,h4⟩:=K0.fm;obtain ⟨b0,W,rfl,S2,i4⟩:=M.fm;have t:=r0;obtain ⟨O4,z4,P4,A4,Q4,B4,rfl,R3,S3,C0,I4,D0,Z3,N1,a4,j4,b4,O1⟩:=RTE.fm r0;have J1:=C1.ar.one (.inl hk);have T3:e.args.length=1:=J1;have K1:0 < e.args.length:=by omega
 have U3:e.body.length=1:=C1.ar.rest (by omega) (by omega);have L1:0 < e.body.length:=by omega
 refine z7j func154 rfl ntmps154 rfl (fun Q hQ a J=>?_);refine sqB fun w4 G1=>?_;refine jG ?_;refine Bx fun S w N a J=>?_;refine Bx fun U w N a J=>?_;refine Alc fun P w N a J=>?_;refine go fun a J=>?_;apply G1;refine sqB fun x4 H1=>?_;refine sqB fun y4 I1=>?_;refine jG ?_;refine yI call189 (fun V4 w l N a J=>?_) (c:=z8l M N);replace r:=r.mono l.1;replace p:=p.mono l.1;replace u:=RTFn.mono _ _ _ _ l.1 u;replace RF:=RF.mono l.1;replace B0:=B0.mono RTFn.mono l.1;replace m:=RTrc.mono _ _ _ _ l.1 m;replace k:=k.mono l.1;replace L:=L.mono l.1;replace M:=M.mono RPtE.mono l.1;replace C0:=C0.mono RAtom.mono l.1;replace D0:=D0.mono RTE.mono l.1;replace n:=n.mono l.1;replace t:=RTE.mono _ _ _ _ l.1 t;replace v:=RFnd.mono _ _ _ _ l.1 v;have i1:=l.2
 try dsimp only [zTE] at N
 replace N:=N.nf;refine go fun a J=>?_;apply I1;refine z0l ?_;refine sD (p1:=13) (p2:=14) RBk (vS up up.length) .ret (oP (z2o ⟨T,F⟩ e)) (tF (z2o ⟨T,F⟩ e)) GRes (fun _ _ z_=>.blk P (ob z_ 48)::.blk U (ob [.slice a0 path.length V,.slice b0 up.length W,.pointer (some Z)] 90)::.blk S (ob [.pointer (some pf)] 102)::K) (K) none zTE func154 J rfl N rfl call213 rfl rfl GRes.mono (fun Ψr_ s_ z_ T4 U4 x_ l_ N4 i3 a2 a w d Q1 u1 c0 J N=>?_) (z0j i1 M) (fun o3 hr_ Dk Ψr_ R0 a w d c0 J N=>?_) (fun o3 hr_ Dk Ψr_ R0 a w d c0 J N=>?_) (fun hr_ Dk Ψr_ a w d J N=>?_);obtain ⟨i_,y_⟩:=x_;obtain ⟨Y0,p_,d_,v1,V0,M0⟩:=u1;simp only at Y0 M0
 injection v1 with v1 _
 subst Y0 v1;obtain rfl:z_=zTE:=c0;have Z0:=gG Q1;simp only at Z0;have L0:=M0;replace r:=r.mono d;replace p:=p.mono d;replace u:=RTFn.mono _ _ _ _ d u;replace RF:=RF.mono d;replace B0:=B0.mono RTFn.mono d;replace m:=RTrc.mono _ _ _ _ d m;replace k:=k.mono d;replace L:=L.mono d;replace C0:=C0.mono RAtom.mono d;replace D0:=D0.mono RTE.mono d;replace n:=n.mono d;replace t:=RTE.mono _ _ _ _ d t;replace v:=RFnd.mono _ _ _ _ d v
 try dsimp only [zTE] at N
 replace N:=N.nf;obtain ⟨R4,C4,k4,z3,l4,A3,rfl,m2,n2,l2,E3,F3,d4,n1,D2,T2,E2,U2⟩:=RTE.fm M0;refine xM ?_;refine zG J (by intro c h;cases h) (jE J rfl) rfl fun a J=>?_;refine zZ ?_;refine ⟨_,N,fun w N=>?_⟩
 try dsimp only [zTE] at N
 replace N:=N.nf;refine gJ ?_;refine sqI fun t3 e1=>?_;refine sqI fun u3 f0=>?_
 try dsimp only [zTE] at N
 refine qY [1,1,1,2,1,1,1,1,1,2,1,2,1,1,2,1,1,2,1,1] (.q 0 (.q 1 (.q 2 (.q 3 (.q 4 (.q 5 (.q 6 (.q 7 (.q 8 (.q 9 (.q 10 (.q 11 (.q 12 (.q 13 (.q 14 (.q 15 (.q 16 (.q 17 (.q 18 (.q 19 (.done))))))))))))))))))))) [.blk P (ob ZT 48),.blk U (ob [.slice a0 path.length V,.slice b0 up.length W,.pointer (some Z)] 90),.blk S (ob [.pointer (some pf)] 102)] J N mixed (by kernel_rfl) (by simp) (by kernel_rfl) fun w N=>?_;by_cases I:y_.kind=4;refine go fun a J=>?_;obtain ⟨q4,rfl,X1,H,e2,x2,E0,h0⟩:=C0.el N1 K1;obtain ⟨rfl,o2⟩:=id h0;by_cases R:y_.name=X1.name;refine go fun a J=>?_;apply f0;refine wP J rfl ?_;refine pE ?_;apply e1;refine sqI fun v3 f1=>?_
 try dsimp only [zTE] at N
 refine qY [2,1,1,2,1,1,1,2,2,1,1,2,1,1,2,1,1,1,2,2,1,2,0,0] (.q 0 (.q 1 (.q 2 (.q 3 (.q 4 (.q 5 (.q 6 (.q 7 (.q 8 (.q 9 (.q 10 (.q 11 (.q 12 (.q 13 (.q 14 (.q 15 (.q 16 (.q 17 (.q 18 (.q 19 (.q 20 (.q 21 (.e 22 (.e 23 (.done))))))))))))))))))))))))) [.blk P (ob ZT 48),.blk U (ob [.slice a0 path.length V,.slice b0 up.length W,.pointer (some Z)] 90),.blk S (ob [.pointer (some pf)] 102)] J N mixed (by kernel_rfl) (by simp) (by kernel_rfl) fun w N=>?_;refine Qq (fun a J=>?_) (o:=by exact fun J O=>Ok.cast (yS runUnderlying98 runUnderlying9 zeroValue3 J O rfl rfl L) (vX (atM 0 T.funs []) y_.op));obtain ⟨r4,r1,s1,E⟩:=fun_at hF y_.op;rw [r1] at J;obtain ⟨s4,rfl,i,x,f2,y2,F0,i0⟩:=B0.el M1 s1;obtain ⟨R1,u0,y3,rfl,D1,z0,F2,o1⟩:=RTFn.fm i0;obtain ⟨S1,w0,P0,x0,Q0,y0,rfl,q2,r2,E1,G3,H3,G2,q1,H2,V2,I2,W2⟩:=RTE.fm z0;refine Alc fun t0 w N a J=>?_;refine Sto 0 fun w N a J=>?_;refine go fun a J=>?_;apply f1;refine sqI fun w3 g1=>?_
 try dsimp only [zTE] at N
 refine qY [1,2,1,1,1,1,1,2,1,1,1,1,1,2,1,1,2,1,2,1,1,2,1,1,0] (.q 0 (.q 1 (.q 2 (.q 3 (.q 4 (.q 5 (.q 6 (.q 7 (.q 8 (.q 9 (.q 10 (.q 11 (.q 12 (.q 13 (.q 14 (.q 15 (.q 16 (.q 17 (.q 18 (.q 19 (.q 20 (.q 21 (.q 22 (.q 23 (.e 24 (.done)))))))))))))))))))))))))) [.blk t0 (ob [.string i.name,.bool i.chg,.slice R1 i.params.length u0,.int .i64 (i.body.kind),.string i.body.name,.string i.body.op,.int .i64 (i.body.num),.int .i64 (i.body.site),.slice S1 i.body.args.length w0,.slice P0 i.body.arms.length x0,.slice Q0 i.body.body.length y0] 50),.blk P (ob ZT 48),.blk U (ob [.slice a0 path.length V,.slice b0 up.length W,.pointer (some Z)] 90),.blk S (ob [.pointer (some pf)] 102)] J N mixed (by kernel_rfl) (by simp) (by kernel_rfl) fun w N=>?_;by_cases A0:i.params.length=1;by_cases q0:i.body.kind=9;have k1:0 < i.body.args.length:=by have h_:=(nA (GP.gd _ (mgQ x))).ar.one (.inr (.inr (.inr q0)));omega
 have l1:0 < i.params.length:=by omega
 refine go fun a J=>?_;obtain ⟨a1,rfl,Y1,n0,g2,z2,G0,j0⟩:=E1.el q1 k1;obtain ⟨rfl,s2⟩:=id j0;refine go fun a J=>?_;obtain ⟨b1,rfl,Z1,o0,h2,A2,H0,k0⟩:=D1.el o1 l1;obtain rfl:=id k0;refine Qq (fun a J=>?_) (o:=by exact fun J O=>z4e J rfl rfl);refine go fun a J=>?_;refine d_e J rfl rfl rfl (cD J rfl call188 (xX (b:=(decide (Y1.name=Z1.name))) N) (fun W1 w X N=>⟨fun _=>N.sn (Fz.Le.refl _),fun a J=>?_⟩) (fun W1 w X N=>fun a hd=>?_));refine go fun a J=>?_;apply g1;refine sqI fun x3 h1=>?_
 try dsimp only [zTE] at N
 refine qY [2,1,2,1,1,2,1,2,0,1,2,1,1,2,1,1,1,2,1,2,0,1,0,0] (.q 0 (.q 1 (.q 2 (.q 3 (.q 4 (.q 5 (.q 6 (.q 7 (.q 9 (.q 10 (.q 11 (.q 12 (.q 13 (.q 14 (.q 15 (.q 16 (.q 17 (.q 18 (.q 19 (.e 8 (.e 20 (.q 21 (.e 22 (.e 23 (.done))))))))))))))))))))))))) [.blk t0 (ob [.string i.name,.bool i.chg,.slice (some b1) i.params.length u0,.int .i64 (i.body.kind),.string i.body.name,.string i.body.op,.int .i64 (i.body.num),.int .i64 (i.body.site),.slice (some a1) i.body.args.length w0,.slice P0 i.body.arms.length x0,.slice Q0 i.body.body.length y0] 50),.blk P (ob ZT 48),.blk U (ob [.slice a0 path.length V,.slice b0 up.length W,.pointer (some Z)] 90),.blk S (ob [.pointer (some pf)] 102)] J N mixed (by kernel_rfl) (by simp) (by kernel_rfl) fun w N=>?_;refine go fun a J=>?_;obtain ⟨t4,rfl,v4,p0,i2,B2,I0,Y⟩:=D0.el O1 L1;obtain ⟨m4,B3,n4,C3,o4,c213,rfl,t2,u2,I3,J3,K3,J2,X2,K2,Y2,L2,Z2⟩:=RTE.fm Y;refine go fun a J=>?_;have m1:0 < y_.args.length:=by have h_:=up_call GP hF hx Z0 I E x;omega
 obtain ⟨u4,rfl,c1,O0,j2,C2,J0,l0⟩:=l2.el n1 m1;obtain ⟨rfl,j1⟩:=id l0;refine MkM fun y1 w N a J=>?_
 try dsimp only [zTE] at N
 replace N:=N.nf;refine aJ J rfl rfl (pW 0 runUnderlying151 runUnderlying9 J N rfl rfl rfl rfl fun w N=>⟨fun _=>N.sn (Fz.Le.refl _),fun a J=>?_⟩);replace N:Mem Ψr_ (.mp y1 (vA (qT [] e.name c1))::.blk t0 (ob [.string i.name,.bool i.chg,.slice (some b1) i.params.length u0,.int .i64 (i.body.kind),.string i.body.name,.string i.body.op,.int .i64 (i.body.num),.int .i64 (i.body.site),.slice (some a1) i.body.args.length w0,.slice P0 i.body.arms.length x0,.slice Q0 i.body.body.length y0] 50)::.blk l_ i3::.blk P (ob ZT 48)::.blk U (ob [.slice a0 path.length V,.slice b0 up.length W,.pointer (some Z)] 90)::.blk S (ob [.pointer (some pf)] 102)::(K++a2)) w:=by rw [<- wR [] e.name c1];exact N
 refine go fun a J=>?_;refine d_e J rfl rfl rfl (wM J rfl call186 (oS RF (cN (GP.gd F hF)) (dO j1) Y (cA (GP.sm hF hx) p0) N) (fun D d1 w g0 j N=>⟨fun _=>N.sn ((Fz.Le.refl _).trans (j.1)),fun a J=>?_⟩) (fun D w g0 N=>fun a hd=>?_));replace r:=r.mono j.1;replace p:=p.mono j.1;replace u:=RTFn.mono _ _ _ _ j.1 u;replace m:=RTrc.mono _ _ _ _ j.1 m;replace k:=k.mono j.1;replace n:=n.mono j.1;replace t:=RTE.mono _ _ _ _ j.1 t;replace v:=RFnd.mono _ _ _ _ j.1 v;replace V0:=V0.mono j.1;replace L0:=RTE.mono _ _ _ _ j.1 L0;replace E0:=E0.mono j.1;replace h0:=RAtom.mono _ _ _ _ j.1 h0;replace F0:=F0.mono j.1;replace i0:=RTFn.mono _ _ _ _ j.1 i0;replace z0:=RTE.mono _ _ _ _ j.1 z0;replace G0:=G0.mono j.1;replace j0:=RAtom.mono _ _ _ _ j.1 j0;replace H0:=H0.mono j.1;replace k0:=RTPar.mono _ _ _ _ j.1 k0;replace I0:=I0.mono j.1;replace Y:=RTE.mono _ _ _ _ j.1 Y;replace J0:=J0.mono j.1;replace l0:=RAtom.mono _ _ _ _ j.1 l0;have m0:=j.2;obtain ⟨k2,S0⟩:∃x_,x_=d1.2:=⟨_,rfl⟩;rw [<- S0] at m0 J;have t1:=m0;obtain ⟨T1,z1,U1,A1,V1,B1,rfl,v2,w2,L3,M3,N3,M2,a3,N2,b3,O2,d3⟩:=RTE.fm m0
 try dsimp only [zTE] at N
 replace N:=N.nf;refine Sto 2 fun w N a J=>?_;refine go fun a J=>?_;apply h1;refine wpIn_ret ?_;replace N:=N.dl [0];obtain ⟨d0,e0⟩:=y0g (g:=z2o ⟨T,F⟩ e) (y:=(i_,y_)) (s:=s_) ((z2p (f:=⟨T,F⟩) I H R).trans (congrArg some ((q1x (f:=⟨T,F⟩) E x A0 o0 q0 n0 (of_decide_eq_true (zC X)) O0 (wB p0)).trans (zS g0))));refine Or.inr ⟨d0,?_⟩;rw [e0];exact ⟨rfl,d1.1,[.int .i64 (D.kind),.string D.name,.string D.op,.int .i64 (D.num),.int .i64 (D.site),.slice T1 D.args.length z1,.slice U1 D.arms.length A1,.slice V1 D.body.length B1],j.1,⟨_,rfl,t1⟩,N⟩;replace N:=N.dl [4,3,2,0];exact Or.inl ⟨tG (g:=z2o ⟨T,F⟩ e) (y:=(i_,y_)) (s:=s_) ((z2p (f:=⟨T,F⟩) I H R).trans (congrArg some ((q1x (f:=⟨T,F⟩) E x A0 o0 q0 n0 (of_decide_eq_true (zC X)) O0 (wB p0)).trans (yK g0)))),rfl,hd,Ψr_,Fz.Le.refl _,N⟩;replace N:=N.dl [4,3,2,0];exact Or.inl ⟨tG (g:=z2o ⟨T,F⟩ e) (y:=(i_,y_)) (s:=s_) ((z2p (f:=⟨T,F⟩) I H R).trans (congrArg some (y8l (f:=⟨T,F⟩) E x (q7t o0 n0 (of_decide_eq_false (zP X)))))),rfl,hd,Ψr_,Fz.Le.refl _,N⟩;refine go fun a J=>?_;refine d_e J rfl rfl rfl (cE J rfl call188 (xX (b:=false) N) (fun w N=>fun a hd=>?_));replace N:=N.dl [4,3,2,0];exact Or.inl ⟨tG (g:=z2o ⟨T,F⟩ e) (y:=(i_,y_)) (s:=s_) ((z2p (f:=⟨T,F⟩) I H R).trans (congrArg some (y8l (f:=⟨T,F⟩) E x (fun p_ _ h_=>q0 h_.1)))),rfl,hd,Ψr_,Fz.Le.refl _,N⟩;refine go fun a J=>?_;refine d_e J rfl rfl rfl (cE J rfl call188 (xX (b:=false) N) (fun w N=>fun a hd=>?_));replace N:=N.dl [4,3,2,0]
 exact Or.inl ⟨tG (g:=z2o ⟨T,F⟩ e) (y:=(i_,y_)) (s:=s_) ((z2p (f:=⟨T,F⟩) I H R).trans (congrArg some (y8l (f:=⟨T,F⟩) E x (fun p_ e3 _=>A0 (by rw [e3];rfl))))),rfl,hd,Ψr_,Fz.Le.refl _,N⟩;refine go fun a J=>?_;apply f0;refine mD J rfl ?_;refine z9g ?_;obtain ⟨d0,e0⟩:=oQ (g:=z2o ⟨T,F⟩ e) (y:=(i_,y_)) (s:=s_) (j5s H R)
 rotate_left
 refine go fun a J=>?_;apply f0;refine mD J rfl ?_;refine z9g ?_;obtain ⟨d0,e0⟩:=oQ (g:=z2o ⟨T,F⟩ e) (y:=(i_,y_)) (s:=s_) (j5r I)
 rotate_left
 replace r:=r.mono d;replace p:=p.mono d;replace u:=RTFn.mono _ _ _ _ d u;replace m:=RTrc.mono _ _ _ _ d m;replace k:=k.mono d;replace n:=n.mono d;replace t:=RTE.mono _ _ _ _ d t;replace v:=RFnd.mono _ _ _ _ d v;obtain rfl:R0=zTE:=c0;replace N:=(Mem.mid (A:=[.blk Dk (.deferred (some []))]) (B:=[.blk P (ob ZT 48),.blk U (ob [.slice a0 path.length V,.slice b0 up.length W,.pointer (some Z)] 90),.blk S (ob [.pointer (some pf)] 102)]) (C:=K) N).nq;replace N:=N.nm;refine go fun a J=>?_;apply H1;refine jG ?_;refine yE fun a J=>?_;refine Qq (fun a J=>?_) (o:=by exact fun J O=>yL J rfl runUnderlying189 (by intro ms h;cases h));refine st0 J rfl rfl (xG J rfl (xH _) (fun a hd=>hQ _ _ _ (sI [.blk P (ob ZT 48),.blk U (ob [.slice a0 path.length V,.slice b0 up.length W,.pointer (some Z)] 90),.blk S (ob [.pointer (some pf)] 102)] (ds:=[Dk]) hd N fun w N=>?_)));replace N:=N.le ((l.1).trans d);rw [<- cI up,<- z7l,(z0x _ _).2.1 _ hr_];exact ⟨rfl,N⟩;replace r:=r.mono d;replace p:=p.mono d;replace u:=RTFn.mono _ _ _ _ d u;replace m:=RTrc.mono _ _ _ _ d m;replace k:=k.mono d;replace n:=n.mono d;replace t:=RTE.mono _ _ _ _ d t;replace v:=RFnd.mono _ _ _ _ d v;obtain ⟨t_,f3,X0⟩:=c0;replace N:=(Mem.mid (A:=[.blk Dk (.deferred (some []))]) (B:=[.blk P (ob R0 48),.blk U (ob [.slice a0 path.length V,.slice b0 up.length W,.pointer (some Z)] 90),.blk S (ob [.pointer (some pf)] 102)]) (C:=K) N).nq;replace N:=N.nm;replace N:=N.dl [2,1];replace N:=(Mem.mid (A:=[.blk P (ob R0 48)]) (B:=yV [Dk]) (C:=K) N).nq
 refine hQ _ _ _ (y9p (ds:=[Dk]) J results154 rfl isAgg48 (by rw [X0.len];exact sizeOf48) N fun w N=>?_);subst f3;rw [<- cI up,<- z7l,(z0x _ _).2.2 _ hr_];exact ⟨(Ψr_,R0),rfl,⟨(l.1).trans d,X0⟩,N⟩;replace r:=r.mono d;replace p:=p.mono d;replace u:=RTFn.mono _ _ _ _ d u;replace m:=RTrc.mono _ _ _ _ d m;replace k:=k.mono d;replace n:=n.mono d;replace t:=RTE.mono _ _ _ _ d t;replace v:=RFnd.mono _ _ _ _ d v;replace N:=N.le ((l.1).trans d);refine hQ _ _ _ (panX (ds:=[Dk]) J.defs N fun w N=>?_);rw [<- cI up,<- z7l,(z0x _ _).1 hr_];exact ⟨rfl,N⟩
 all_goals (refine Or.inr ⟨d0,?_⟩;rw [e0];exact ⟨rfl,Ψr_,_,Fz.Le.refl _,rfl,N⟩)
theorem q0p {e:TE}:∀{p:List Int} {up:List TE} {y:Fnd},y∈zF p up e->∃(q:List Int) (r:List TE),y.path=p++q/\y.up=up++r/\q.length=r.length/\∀(i:Nat) (u:TE) (v:Int),r[i]? = some u->q[i]? = some v->∃j:Nat,v=(j:Int)/\(j < u.arms.length∨j < u.body.length):=by
 refine pH (C:=fun e=>∀{p:List Int} {up:List TE} {y:Fnd},y∈zF p up e->∃(q:List Int) (r:List TE),y.path=p++q/\y.up=up++r/\q.length=r.length/\∀(i:Nat) (u:TE) (v:Int),r[i]? = some u->q[i]? = some v->∃j:Nat,v=(j:Int)/\(j < u.arms.length∨j < u.body.length)) (fun e k hb p up y m=>?_) e
 have go:∀(j:Nat),(j < e.arms.length∨j < e.body.length)->(∃(q:List Int) (r:List TE),y.path=(p++[(j:Int)])++q/\y.up=(up++[e])++r/\q.length=r.length/\∀(i:Nat) (u:TE) (v:Int),r[i]? = some u->q[i]? = some v->∃j:Nat,v=(j:Int)/\(j < u.arms.length∨j < u.body.length)) ->
   ∃(q:List Int) (r:List TE),y.path=p++q/\y.up=up++r/\q.length=r.length/\∀(i:Nat) (u:TE) (v:Int),r[i]? = some u->q[i]? = some v->∃j:Nat,v=(j:Int)/\(j < u.arms.length∨j < u.body.length):=fun j l ⟨q,r,b,d,g,h⟩=>by
  refine ⟨(j:Int)::q,e::r,by rw [b,List.append_assoc];rfl,by rw [d,List.append_assoc];rfl,by simp [g],fun i u v c f=>?_⟩;cases i with
  | zero=>
   rw [List.getElem?_cons_zero] at c f;cases c;cases f;exact ⟨j,rfl,l⟩
  | succ i=>
   rw [List.getElem?_cons_succ] at c f;exact h i u v c f
 rcases wS m with rfl | ⟨j,a,b,d⟩ | ⟨j,x,b,d⟩
 ·exact ⟨[],[],by simp,by simp,rfl,fun i u v c _=>by simp at c⟩
 ·exact go j (.inl (List.getElem?_eq_some_iff.1 b).1) (k a (mgQ b) d)
 ·exact go j (.inr (List.getElem?_eq_some_iff.1 b).1) (hb x (mgQ b) d)
theorem path_up {b:TE} {path:List Int} {up:List TE} {e:TE} (h:(⟨path,up,e⟩:Fnd)∈zF [] [] b):path.length=up.length:=by
 obtain ⟨q,r,a,c,d,_⟩:=q0p h;simp only [List.nil_append] at a c;rw [a,c];exact d
theorem q3z {b:TE} {path:List Int} {up:List TE} {e y:TE} {i:Nat} {v:Int} (h:(⟨path,up,e⟩:Fnd)∈zF [] [] b) (l:up[i]? = some y) (k:path[i]? = some v) (hb:y.body=[]):∃j:Nat,v=(j:Int)/\j < y.arms.length:=by
 obtain ⟨q,r,a,c,_,f⟩:=q0p h;simp only [List.nil_append] at a c;subst a;subst c;obtain ⟨j,g,d⟩:=f i y v l k;refine ⟨j,g,?_⟩;rw [hb] at d;simpa using d
def sG (l:List Bs):List Value:=l.flatMap fun v=>[.string v,.int .i64 ((0:Nat):Int)]
theorem z8g {l:List Bs} {i:Nat} {v:Bs} (h:l[i]? = some v):sG (l.take (i+1))=sG (l.take i)++[.string v,.int .i64 ((0:Nat):Int)]:=by rw [jJ h];simp [sG]
theorem y4z (l:List Bs):(sG l).length=2 * l.length:=by
 induction l with
 | nil=>rfl
 | cons a l b=>rw [show sG (a::l)=[.string a,.int .i64 ((0:Nat):Int)]++sG l from rfl,laQ,b,lcQ];simp;omega
def gT (f:FnS) (e:TE) (path:List Int) (y:Nat×TE):Option (Option TE) :=
 if y.2.kind=2/\y.2.name=(jW e 0).name then some (f.arm e y.2.op y.2.args)
 else if y.2.kind=7/\jW y.2 0=jW e 0 then some ((y.2.arms[((path[y.1]?).getD 0).toNat]?).bind fun a=>f.arm e a.con (a.vars.map fun v=>⟨v,0⟩))
 else none
theorem j2c (f:FnS) (e:TE) (path:List Int) (up:List TE) (hl:path.length=up.length):∀k,k<=up.length->sH (gT f e path) (vS up k)=f.known e ((up.zip path).take k).reverse
 | 0,_=>by simp [vS,sH,FnS.known]
 | k+1,h=>by
  have d:up[k]? = some up[k]:=List.getElem?_eq_getElem (by omega);have c:path[k]? = some path[k]:=List.getElem?_eq_getElem (by omega);have g:(up.zip path)[k]? = some (up[k],path[k]):=by rw [List.getElem?_zip_eq_some];exact ⟨d,c⟩
  rw [kW d,sH,jJ g,List.reverse_append,List.reverse_singleton,List.singleton_append,FnS.known,j2c f e path up hl k (by omega)];unfold gT;simp only [c,Option.getD_some];by_cases a:up[k].kind=2/\up[k].name=(jW e 0).name;rw [if_pos a,if_pos a];rw [if_neg a,if_neg a];by_cases b:up[k].kind=7/\jW up[k] 0=jW e 0;rw [if_pos b,if_pos b];rw [if_neg b,if_neg b]
theorem y8y (f:FnS) (e:TE) (path:List Int) (up:List TE) (hl:path.length=up.length):sH (gT f e path) (vS up up.length)=f.known e (up.zip path).reverse:=by
 rw [j2c f e path up hl _ (Nat.le_refl _),List.take_of_length_le (by rw [List.length_zip];omega)]
theorem oD (Ψ:Fz):∀l:List Bs,Chunks (RAtom Ψ) 2 (sG l) (l.map fun v=>(⟨v,0⟩:Atom))
 | []=>rfl
 | v::l=>⟨[.string v,.int .i64 ((0:Nat):Int)],sG l,rfl,rfl,⟨rfl,(show I64 0 from by unfold I64;omega)⟩,oD Ψ l⟩
theorem knw_2 {f:FnS} {e y:TE} {a:Atom} {path:List Int} {i:Nat} (c:y.kind=2) (b:e.args[0]? = some a) (d:y.name=a.name):gT f e path (i,y)=some (f.arm e y.op y.args):=if_pos ⟨c,by rw [d,jF b]⟩
theorem j2b {f:FnS} {e y:TE} {a b:Atom} {x:TA} {path:List Int} {i j:Nat} {v:Int} (c:¬(y.kind=2/\y.name=(jW e 0).name)) (g:y.kind=7) (hb:y.args[0]? = some b) (d:e.args[0]? = some a) (hq:b=a) (h:path[i]? = some v) (k:v=(j:Int)) (l:y.arms[j]? = some x):gT f e path (i,y)=some (f.arm e x.con (x.vars.map fun v=>⟨v,0⟩)):=by
 unfold gT;rw [if_neg c,if_pos ⟨g,by rw [jF hb,jF d,hq]⟩,h,Option.getD_some,k,Int.toNat_natCast,l];rfl
theorem y8z {f:FnS} {e y:TE} {path:List Int} {i:Nat} (a:¬(y.kind=2/\y.name=(jW e 0).name)) (b:¬(y.kind=7/\jW y 0=jW e 0)):gT f e path (i,y)=none:=by unfold gT;rw [if_neg a,if_neg b]
theorem x2h {Φ:Fz} {K:List Res} {w:World} {pf:Addr} {T:Trc} {F:TFn} {c:List Value} {path:List Int} {up:List TE} {e:TE} {num:Int} (RF:RFnO Φ pf T F) (GP:GoodP T) (hF:F∈T.funs) (hx:(⟨path,up,e⟩:Fnd)∈zF [] [] F.body) (rf:RFnd Φ c ⟨path,up,e⟩) (G:Glob Φ) (hk:e.kind=7) (N:Mem Φ K w) :
  Calls prog 153 #[.pointer (some pf),.agg c.toArray,.int .i64 num] w (fun ee w'=>Out (xQ (FnS.known ⟨T,F⟩ e (up.zip path).reverse)) (fun z=>∃q:Fz×List Value,ee=.returned (.agg q.2.toArray)/\(Φ.Le q.1/\RTE q.1 q.2 z)/\Mem q.1 K w') (fun _=>ee=.panicked vB/\Mem Φ K w')):=by
 have t:=rf;have e4:GI e:=nA (wI (GP.gd F hF) hx);obtain ⟨x7,y7,o7,n7,i7,H,E,L,I6,Z4,Y4⟩:=RF.ex;obtain ⟨u5,v5,h0,h7,rfl,p6,q6,S,w0,D,j1⟩:=id rf;replace S:SliceOf RInt Φ 1 u5 path:=S;replace w0:SliceOf RPtE Φ 1 v5 up:=w0;replace j1:RTE Φ _ e:=j1;obtain ⟨x0,c23,rfl,a5,f2⟩:=S.fm;obtain ⟨i0,e0,rfl,b5,E6⟩:=w0.fm;have I:=j1;obtain ⟨q7,c34,r7,d7,s7,c46,rfl,r6,s6,j0,j7,k7,y6,g2,z6,F6,A6,G6⟩:=RTE.fm j1;have C3:=e4.ar.one (.inr (.inl hk));have B1:path.length=up.length:=path_up hx;have w6:e.args.length=1:=C3;have i1:0 < e.args.length:=by omega
 refine z7j func153 rfl ntmps153 rfl (fun Q hQ a J=>?_);refine sqB fun X6 v3=>?_;refine jG ?_;refine Bx fun c0 w N a J=>?_;refine Bx fun d0 w N a J=>?_;refine Alc fun b0 w N a J=>?_;refine go fun a J=>?_;apply v3;refine sqB fun Y6 w3=>?_;refine sqB fun Z6 x3=>?_;refine jG ?_;refine yI call189 (fun B7 w U N a J=>?_) (c:=z8l w0 N);replace H:=H.mono U.1;replace E:=E.mono U.1;replace L:=RTFn.mono _ _ _ _ U.1 L;replace RF:=RF.mono U.1;replace S:=S.mono RInt.mono U.1;replace w0:=w0.mono RPtE.mono U.1;replace j0:=j0.mono RAtom.mono U.1;replace D:=D.mono U.1;replace I:=RTE.mono _ _ _ _ U.1 I;replace t:=RFnd.mono _ _ _ _ U.1 t;have W2:=U.2
 try dsimp only [zTE] at N
 replace N:=N.nf;refine go fun a J=>?_;apply x3;refine z0l ?_;refine sD (p1:=16) (p2:=17) RBk (vS up up.length) .ret (oP (gT ⟨T,F⟩ e path)) (tF (gT ⟨T,F⟩ e path)) GRes (fun _ _ z_=>.blk b0 (ob z_ 48)::.blk d0 (ob [.slice x0 path.length c23,.slice i0 up.length e0,.pointer (some h0)] 90)::.blk c0 (ob [.pointer (some pf)] 102)::K) (K) none zTE func153 J rfl N rfl call213 rfl rfl GRes.mono (fun Ψr_ s_ z_ z7 A7 x_ l_ p7 E3 k3 a w b D3 i3 S0 J N=>?_) (z0j W2 w0) (fun w5 hr_ Dk Ψr_ M1 a w b S0 J N=>?_) (fun w5 hr_ Dk Ψr_ M1 a w b S0 J N=>?_) (fun hr_ Dk Ψr_ a w b J N=>?_);obtain ⟨i_,y_⟩:=x_;obtain ⟨k2,p_,d_,f1,Z,E1⟩:=i3;simp only at k2 E1
 injection f1 with f1 _
 subst k2 f1;obtain rfl:z_=zTE:=S0;have Y:=gG D3;simp only at Y;have V:=E1;replace H:=H.mono b;replace E:=E.mono b;replace L:=RTFn.mono _ _ _ _ b L;replace RF:=RF.mono b;replace S:=S.mono RInt.mono b;replace j0:=j0.mono RAtom.mono b;replace D:=D.mono b;replace I:=RTE.mono _ _ _ _ b I;replace t:=RFnd.mono _ _ _ _ b t
 try dsimp only [zTE] at N
 replace N:=N.nf;obtain ⟨t7,e7,u7,f7,v7,g7,rfl,t6,u6,z0,R0,l7,B6,h2,C6,i2,D6,H6⟩:=RTE.fm E1;refine sqI fun a7 y3=>?_;refine xM ?_;refine zG J (by intro c h;cases h) (jE J rfl) rfl fun a J=>?_;refine zZ ?_;apply y3;refine xM ?_;refine zG J (by intro c h;cases h) (jE J rfl) rfl fun a J=>?_;refine zZ ?_;refine ⟨_,N,fun w N=>?_⟩
 try dsimp only [zTE] at N
 replace N:=N.nf;refine gJ ?_;refine gJ ?_;refine sqI fun b7 u1=>?_
 try dsimp only [zTE] at N
 refine qY [1,1,1,2,1,1,1,1,1,2,1,2,1,1,2,1,1,2,1,1,1] (.q 0 (.q 1 (.q 2 (.q 3 (.q 4 (.q 5 (.q 6 (.q 7 (.q 8 (.q 9 (.q 10 (.q 11 (.q 12 (.q 13 (.q 14 (.q 15 (.q 16 (.q 17 (.q 18 (.q 19 (.q 20 (.done)))))))))))))))))))))) [.blk b0 (ob ZT 48),.blk d0 (ob [.slice x0 path.length c23,.slice i0 up.length e0,.pointer (some h0)] 90),.blk c0 (ob [.pointer (some pf)] 102)] J N mixed (by kernel_rfl) (by simp) (by kernel_rfl) fun w N=>?_;by_cases m1:y_.kind=2;refine go fun a J=>?_;have d:=N;have m:=J;clear N J;obtain ⟨w7,rfl⟩:=g2 (zO i1);have N:=d;have J:=m;clear d m;obtain ⟨U1,a0⟩:=zW i1;obtain ⟨Z5,x6,y0,u0⟩:=j0.elem a0;obtain ⟨rfl,v6⟩:=id u0;by_cases n1:y_.name=U1.name;refine go fun a J=>?_;apply u1;refine mD J rfl ?_;refine sqI fun c7 z3=>?_
 try dsimp only [zTE] at N
 refine qY [2,2,1,1,1,2,1,1,1,2,0,0] (.q 0 (.q 1 (.q 2 (.q 3 (.q 4 (.q 5 (.q 6 (.q 7 (.q 8 (.q 9 (.e 10 (.e 11 (.done))))))))))))) [.blk b0 (ob ZT 48),.blk d0 (ob [.slice x0 path.length c23,.slice i0 up.length e0,.pointer (some h0)] 90),.blk c0 (ob [.pointer (some pf)] 102)] J N mixed (by kernel_rfl) (by simp) (by kernel_rfl) fun w N=>?_;refine go fun a J=>?_;refine d_e J rfl rfl rfl (wM J rfl call190 (q6e RF GP hF hx t z0 N) (fun O0 S3 w C1 M N=>⟨jT (by kernel_rfl),fun a J=>?_⟩) (fun O0 w C1 N=>fun a hd=>?_));replace H:=H.mono M.1;replace E:=E.mono M.1;replace L:=RTFn.mono _ _ _ _ M.1 L;replace RF:=RF.mono M.1;replace S:=S.mono RInt.mono M.1;replace j0:=j0.mono RAtom.mono M.1;replace D:=D.mono M.1;replace I:=RTE.mono _ _ _ _ M.1 I;replace t:=RFnd.mono _ _ _ _ M.1 t;replace z0:=z0.mono RAtom.mono M.1;replace R0:=R0.mono RTA.mono M.1;replace Z:=Z.mono M.1;replace V:=RTE.mono _ _ _ _ M.1 V;replace y0:=y0.mono M.1;replace u0:=RAtom.mono _ _ _ _ M.1 u0;have D1:=M.2;obtain ⟨V3,R1⟩:∃x_,x_=S3.2:=⟨_,rfl⟩;rw [<- R1] at D1 J;have a3:=D1;obtain ⟨F3,l3,G3,m3,H3,n3,rfl,l4,m4,a6,b6,c6,H4,c5,I4,d5,J4,e5⟩:=RTE.fm D1
 try dsimp only [zTE] at N
 replace N:=N.nf;refine Sto 1 fun w N a J=>?_;refine go fun a J=>?_;apply z3;refine wpIn_ret ?_;obtain ⟨W,X⟩:=y0g (g:=gT ⟨T,F⟩ e path) (y:=(i_,y_)) (s:=s_) ((knw_2 (f:=⟨T,F⟩) m1 a0 n1).trans (congrArg some (zS C1)));refine Or.inr ⟨W,?_⟩;rw [X];exact ⟨rfl,S3.1,[.int .i64 (O0.kind),.string O0.name,.string O0.op,.int .i64 (O0.num),.int .i64 (O0.site),.slice F3 O0.args.length l3,.slice G3 O0.arms.length m3,.slice H3 O0.body.length n3],M.1,⟨_,rfl,a3⟩,N⟩;replace N:=N.dl [3,2,1];exact Or.inl ⟨tG (g:=gT ⟨T,F⟩ e path) (y:=(i_,y_)) (s:=s_) ((knw_2 (f:=⟨T,F⟩) m1 a0 n1).trans (congrArg some (yK C1))),rfl,hd,Ψr_,Fz.Le.refl _,N⟩;refine go fun a J=>?_;apply u1;refine wP J rfl ?_;refine sqI fun y5 Z0=>?_
 try dsimp only [zTE] at N
 refine qY [1,1,1,2,1,1,1,1,1,2,1,2,1,2,1,1,2,1,2,1,1,1] (.q 0 (.q 1 (.q 2 (.q 3 (.q 4 (.q 5 (.q 6 (.q 7 (.q 8 (.q 9 (.q 10 (.q 11 (.q 12 (.q 13 (.q 14 (.q 15 (.q 16 (.q 17 (.q 18 (.q 19 (.q 20 (.q 21 (.done))))))))))))))))))))))) [.blk b0 (ob ZT 48),.blk d0 (ob [.slice x0 path.length c23,.slice i0 up.length e0,.pointer (some h0)] 90),.blk c0 (ob [.pointer (some pf)] 102)] J N mixed (by kernel_rfl) (by simp) (by kernel_rfl) fun w N=>?_;by_cases g1:y_.kind=7;refine go fun a J=>?_;have x1:0 < y_.args.length:=by have h_:=(nA (y2y GP hF hx Y)).ar.one (.inr (.inl g1));omega
 have d:=N;have m:=J;clear N J;obtain ⟨O6,rfl⟩:=h2 (zO x1);have N:=d;have J:=m;clear d m;obtain ⟨J1,H0⟩:=zW x1;obtain ⟨W3,y4,A0,p0⟩:=z0.elem H0;obtain ⟨rfl,n4⟩:=id p0;by_cases f0:J1=U1;refine Qq (fun a J=>?_) (o:=by exact fun J O=>cX (p:=J1) (q:=U1) J rfl rfl (decide_eq_true f0));refine go fun a J=>?_;apply Z0;refine mD J rfl ?_;refine sqI fun z5 C2=>?_
 try dsimp only [zTE] at N
 refine qY [1,1,1,2,1,2,1,1,2,1,2,0,0] (.q 0 (.q 1 (.q 2 (.q 3 (.q 4 (.q 5 (.q 6 (.q 7 (.q 8 (.q 9 (.q 10 (.e 11 (.e 12 (.done)))))))))))))) [.blk b0 (ob ZT 48),.blk d0 (ob [.slice x0 path.length c23,.slice i0 up.length e0,.pointer (some h0)] 90),.blk c0 (ob [.pointer (some pf)] 102)] J N mixed (by kernel_rfl) (by simp) (by kernel_rfl) fun w N=>?_;refine go fun a J=>?_;have y1:i_ < path.length:=by have h_:=(List.getElem?_eq_some_iff.1 Y).1;omega
 have d:=N;have m:=J;clear N J;obtain ⟨u2,rfl⟩:=f2 (zO y1);have N:=d;have J:=m;clear d m;obtain ⟨Q3,I0⟩:=zW y1;obtain ⟨y2,z4,B0,b3⟩:=S.elem I0;obtain rfl:y2=[.int .i64 Q3]:=b3;refine go fun a J=>?_;obtain ⟨J6,b1,v1⟩:=q3z hx Y I0 ((nA (y2y GP hF hx Y)).ar.last (by omega));rw [b1] at J;have d:=N;have m:=J;clear N J;obtain ⟨P6,rfl⟩:=i2 (zO v1);have N:=d;have J:=m;clear d m;obtain ⟨u,J0⟩:=zW v1;obtain ⟨X3,A4,C0,q0⟩:=R0.elem J0;obtain ⟨l2,X1,W5,rfl,t3,P0,K4,Y2⟩:=RTA.fm q0;obtain ⟨I3,o3,J3,c171,K3,p3,rfl,o4,p4,d6,e6,f6,L4,f5,M4,g5,N4,h5⟩:=RTE.fm P0;refine Alc fun V1 w N a J=>?_;refine Sto 0 fun w N a J=>?_;refine go fun a J=>?_;apply C2;refine sqI fun A5 D2=>?_;refine xM ?_;refine zG J (by intro c h;cases h) (jE J rfl) rfl fun a J=>?_;refine zZ ?_;apply D2;refine sqI fun B5 E2=>?_;refine sqI fun C5 F2=>?_;refine xM ?_;replace N:=N.nilRow 75 2
 try dsimp only [zTE] at N
 replace N:=N.nf
 refine zG J (by intro c h;cases h) (qP J rfl y8j rfl) rfl fun a J=>
   zG J (by intro c h;cases h) (yH 1 J N.toSees rfl rfl rfl isAgg23) rfl fun a J=>
   zG J (by intro c h;cases h) (aH J rfl runUnderlying23) rfl fun a J=>
   zG J (by intro c h;cases h) (yZ J rfl) rfl fun a J=>?_
 refine zZ ?_;apply F2;refine gJ ?_;refine y9a (fun mm a w=>∃(k_:Nat) (av:Value),mm=u.vars.length - k_/\EnvR 104 [(3,.pointer (some ⟨c0,0,none⟩)),(4,.pointer (some ⟨d0,0,none⟩)),(6,.pointer (some ⟨b0,0,none⟩)),(9,.pointer (some ⟨V1,0,none⟩)),(10,av),(84,.slice l2 u.vars.length X1),(85,.int .i64 u.vars.length),(86,.int .i64 k_)] [] a/\Mem Ψr_ (.gs (av) 75 2 (sG (u.vars.take k_))::.blk V1 (ob [.string u.con,.slice l2 u.vars.length X1,.int .i64 (u.body.kind),.string u.body.name,.string u.body.op,.int .i64 (u.body.num),.int .i64 (u.body.site),.slice I3 u.body.args.length o3,.slice J3 u.body.arms.length c171,.slice K3 u.body.body.length p3] 79)::.blk l_ E3::.blk b0 (ob ZT 48)::.blk d0 (ob [.slice (some u2) path.length c23,.slice i0 up.length e0,.pointer (some h0)] 90)::.blk c0 (ob [.pointer (some pf)] 102)::(K++k3)) w/\(True)) (u.vars.length - 0) ⟨0,ZB,rfl,J.pk,N,trivial⟩ ?_;clear N J;rintro mm a w ⟨k_,av,X2,J,N,f4⟩ D5 G2;refine sqI fun E5 s1=>?_;refine xM ?_;by_cases l0:k_ < u.vars.length;refine zG J (by intro c h;cases h) (sK true J rfl rfl (decide_eq_true (Int.ofNat_lt.2 l0))) rfl fun a J=>?_;refine zZ ?_;apply s1;refine sqI fun F5 H2=>?_;refine mD J rfl ?_;refine pE ?_;apply H2;refine sqI fun G5 I2=>?_;refine gJ ?_;refine sqI fun H5 J2=>?_;refine xM ?_;have d:=N;have m:=J;clear N J;obtain ⟨Q6,rfl⟩:=Y2 (zO l0);have N:=d;have J:=m;clear d m;obtain ⟨V0,H1⟩:=zW l0;obtain ⟨z2,B4,U2,d3⟩:=t3.elem H1;obtain rfl:z2=[.string V0]:=d3
 refine zG J (by intro c h;cases h) (xT k_ J rfl rfl runUnderlying23 sizeOf9 l0) rfl fun a J=>
   zG J (by intro c h;cases h) (pZ J N.toSees rfl U2 rfl isAgg9) rfl fun a J=>
   zG J (by intro c h;cases h) (jE J rfl) rfl fun a J=>?_
 refine zZ ?_;apply J2;refine xM ?_
 refine zG J (by intro c h;cases h) (yZ J rfl) rfl fun a J=>
   zG J (by intro c h;cases h) (yZ J rfl) rfl fun a J=>
   zG J (by intro c h;cases h) (jV (vs:=[(0,.string V0)]) (cs:=[.string V0,ZA]) J rfl (by kernel_rfl)) rfl fun a J=>?_
 refine kA J rfl rfl rfl (by intro c h;cases h) (qA (sz:=2) (cs:=[.string V0,ZA]) J N rfl (pQ runUnderlying44 sizeOf75 zeroValue75 rfl (by decide) rfl) rfl (by decide) fun V6 w N _ a J=>?_);refine kA J rfl rfl rfl (by intro c h;cases h) (wX 1 (xs:=(sG (u.vars.take k_))) (news:=[.string V0,ZA]) j2v J N rfl rfl rfl (N.toSees.rowIn (i:=0) rfl) rfl (by rw [y4z];simp only [List.length_take,lcQ,lnQ];have h_:=(nA (y2y GP hF hx Y)).nv _ (mgQ J0);omega) fun O3 w N a J=>?_)
 try dsimp only [zTE] at N
 replace N:=N.nf;refine zG J (by intro c h;cases h) (jE J rfl) rfl fun a J=>?_;refine zZ ?_;apply I2;refine xM ?_
 refine zG J (by intro c h;cases h) (xJ (i:=k_) (j:=1) J rfl rfl (by omega)) rfl fun a J=>
   zG J (by intro c h;cases h) (yZ J rfl) rfl fun a J=>?_
 refine zZ ?_;rw [<- z8g H1] at N;replace N:=N.dl [0];refine G2 _ _ _ (by subst X2;omega) ⟨(k_+1),(O3),rfl,J.pk,N,?_⟩;trivial;refine zG J (by intro c h;cases h) (sK false J rfl rfl (decide_eq_false (fun hh=>l0 (Int.ofNat_lt.1 hh)))) rfl fun a J=>?_;refine zZ ?_;apply s1;refine sqI fun I5 h4=>?_;refine wP J rfl ?_;refine z9g ?_;apply E2;refine sqI fun J5 K2=>?_;refine xM ?_
 refine zG J (by intro c h;cases h) (yH 5 J N.toSees rfl rfl rfl isAgg102) rfl fun a J=>
   zG J (by intro c h;cases h) (qG 4 (vs:=[.slice (some u2) path.length c23,.slice i0 up.length e0,.pointer (some h0)]) J N.toSees rfl rfl isAgg90 sizeOf90 rfl rfl) rfl fun a J=>
   zG J (by intro c h;cases h) (qP J rfl y8i rfl) rfl fun a J=>
   zG J (by intro c h;cases h) (yH 1 J N.toSees rfl rfl rfl isAgg9) rfl fun a J=>
   zG J (by intro c h;cases h) (yZ J rfl) rfl fun a J=>?_
 have U0:=N;clear N;obtain ⟨N1,l,N,F1,A3⟩:=U0.freezeRowC (i:=0) rfl;clear U0;replace H:=H.mono l;replace E:=E.mono l;replace L:=RTFn.mono _ _ _ _ l L;replace RF:=RF.mono l;replace S:=S.mono RInt.mono l;replace j0:=j0.mono RAtom.mono l;replace D:=D.mono l;replace I:=RTE.mono _ _ _ _ l I;replace t:=RFnd.mono _ _ _ _ l t;replace z0:=z0.mono RAtom.mono l;replace R0:=R0.mono RTA.mono l;replace Z:=Z.mono l;replace V:=RTE.mono _ _ _ _ l V;replace y0:=y0.mono l;replace u0:=RAtom.mono _ _ _ _ l u0;replace A0:=A0.mono l;replace p0:=RAtom.mono _ _ _ _ l p0;replace B0:=B0.mono l;replace C0:=C0.mono l;replace q0:=RTA.mono _ _ _ _ l q0;replace P0:=RTE.mono _ _ _ _ l P0
 try dsimp only [zTE] at N
 replace N:=N.nf;have k1:SliceOf RAtom N1 2 _ (((u.vars.take k_).map fun v=>(⟨v,0⟩:Atom))):=⟨_,F1,oD _ _⟩;obtain ⟨M6,c210,f1,T3,i5⟩:=k1.form (by decide);have d:=N;clear N;subst f1;have N:=d;clear d;refine in_stP J rfl rfl rfl (by intro c h;cases h) (wM J rfl call190 (q6e RF GP hF hx t k1 N) (fun P w2 w n0 k N a J=>?_) (fun P w n0 N=>?_));replace H:=H.mono k.1;replace E:=E.mono k.1;replace L:=RTFn.mono _ _ _ _ k.1 L;replace RF:=RF.mono k.1;replace S:=S.mono RInt.mono k.1;replace j0:=j0.mono RAtom.mono k.1;replace D:=D.mono k.1;replace I:=RTE.mono _ _ _ _ k.1 I;replace t:=RFnd.mono _ _ _ _ k.1 t;replace z0:=z0.mono RAtom.mono k.1;replace R0:=R0.mono RTA.mono k.1;replace Z:=Z.mono k.1;replace V:=RTE.mono _ _ _ _ k.1 V;replace y0:=y0.mono k.1;replace u0:=RAtom.mono _ _ _ _ k.1 u0;replace A0:=A0.mono k.1;replace p0:=RAtom.mono _ _ _ _ k.1 p0;replace B0:=B0.mono k.1;replace C0:=C0.mono k.1;replace q0:=RTA.mono _ _ _ _ k.1 q0;replace P0:=RTE.mono _ _ _ _ k.1 P0;have d1:=k.2;obtain ⟨Y3,S1⟩:∃x_,x_=w2.2:=⟨_,rfl⟩;rw [<- S1] at d1 J;have e3:=d1;obtain ⟨m2,Y1,n2,Z1,o2,a2,rfl,q4,r4,g6,h6,i6,O4,j5,P4,k5,Q4,l5⟩:=RTE.fm d1
 try dsimp only [zTE] at N
 replace N:=N.nf;refine xF J rfl rfl (by intro c h;cases h) (zQ 2 (cs:=ZT) (vs:=[.int .i64 (P.kind),.string P.name,.string P.op,.int .i64 (P.num),.int .i64 (P.site),.slice m2 P.args.length Y1,.slice n2 P.arms.length Z1,.slice o2 P.body.length a2]) J N rfl rfl rfl rfl sizeOf48 rfl rfl rfl fun w N a J=>?_)
 try dsimp only [zTE] at N
 replace N:=N.nf;refine zZ ?_;apply K2;refine wpIn_ret ?_;replace N:=N.dl [0];rw [show u.vars.take k_=u.vars from List.take_of_length_le (Nat.le_of_not_lt l0)] at n0;obtain ⟨W,X⟩:=y0g (g:=gT ⟨T,F⟩ e path) (y:=(i_,y_)) (s:=s_) ((j2b (f:=⟨T,F⟩) (fun h_=>n1 (by rw [h_.2,jF a0])) g1 H0 a0 f0 I0 b1 J0).trans (congrArg some (zS n0)));refine Or.inr ⟨W,?_⟩;rw [X];exact ⟨rfl,w2.1,[.int .i64 (P.kind),.string P.name,.string P.op,.int .i64 (P.num),.int .i64 (P.site),.slice m2 P.args.length Y1,.slice n2 P.arms.length Z1,.slice o2 P.body.length a2],(l).trans k.1,⟨_,rfl,e3⟩,N⟩;replace N:=N.dl [4,3,2,0];rw [show u.vars.take k_=u.vars from List.take_of_length_le (Nat.le_of_not_lt l0)] at n0;exact Or.inl ⟨tG (g:=gT ⟨T,F⟩ e path) (y:=(i_,y_)) (s:=s_) ((j2b (f:=⟨T,F⟩) (fun h_=>n1 (by rw [h_.2,jF a0])) g1 H0 a0 f0 I0 b1 J0).trans (congrArg some (yK n0))),rfl,J.defs,N1,l,N⟩;refine Qq (fun a J=>?_) (o:=by exact fun J O=>cX (p:=J1) (q:=U1) J rfl rfl (decide_eq_false f0));refine go fun a J=>?_;apply Z0;refine wP J rfl ?_;refine pE ?_;obtain ⟨W,X⟩:=oQ (g:=gT ⟨T,F⟩ e path) (y:=(i_,y_)) (s:=s_) (y8z (fun h_=>n1 (by rw [h_.2,jF a0])) (fun h_=>f0 (by have r1:=h_.2;rw [jF H0,jF a0] at r1;exact r1)))
 rotate_left
 refine go fun a J=>?_;apply Z0;refine wP J rfl ?_;refine pE ?_;obtain ⟨W,X⟩:=oQ (g:=gT ⟨T,F⟩ e path) (y:=(i_,y_)) (s:=s_) (y8z (fun h_=>n1 (by rw [h_.2,jF a0])) (fun h_=>g1 h_.1))
 rotate_left
 refine go fun a J=>?_;apply u1;refine wP J rfl ?_;refine sqI fun K5 a1=>?_
 try dsimp only [zTE] at N
 refine qY [1,1,1,2,1,1,1,1,1,2,1,2,1,2,1,1,2,1,2,1,1,1] (.q 0 (.q 1 (.q 2 (.q 3 (.q 4 (.q 5 (.q 6 (.q 7 (.q 8 (.q 9 (.q 10 (.q 11 (.q 12 (.q 13 (.q 14 (.q 15 (.q 16 (.q 17 (.q 18 (.q 19 (.q 20 (.q 21 (.done))))))))))))))))))))))) [.blk b0 (ob ZT 48),.blk d0 (ob [.slice x0 path.length c23,.slice i0 up.length e0,.pointer (some h0)] 90),.blk c0 (ob [.pointer (some pf)] 102)] J N mixed (by kernel_rfl) (by simp) (by kernel_rfl) fun w N=>?_;by_cases h1:y_.kind=7;refine go fun a J=>?_;have z1:0 < y_.args.length:=by have h_:=(nA (y2y GP hF hx Y)).ar.one (.inr (.inl h1));omega
 have d:=N;have m:=J;clear N J;obtain ⟨R6,rfl⟩:=h2 (zO z1);have N:=d;have J:=m;clear d m;obtain ⟨K1,K0⟩:=zW z1;obtain ⟨Z3,C4,D0,r0⟩:=z0.elem K0;obtain ⟨rfl,s4⟩:=id r0;refine go fun a J=>?_;have d:=N;have m:=J;clear N J;obtain ⟨S6,rfl⟩:=g2 (zO i1);have N:=d;have J:=m;clear d m;obtain ⟨L1,L0⟩:=zW i1;obtain ⟨a4,D4,E0,s0⟩:=j0.elem L0;obtain ⟨rfl,t4⟩:=id s0;by_cases g0:K1=L1;refine Qq (fun a J=>?_) (o:=by exact fun J O=>cX (p:=K1) (q:=L1) J rfl rfl (decide_eq_true g0));refine go fun a J=>?_;apply a1;refine mD J rfl ?_;refine sqI fun L5 L2=>?_
 try dsimp only [zTE] at N
 refine qY [1,1,1,2,1,2,1,1,2,1,2,0,0] (.q 0 (.q 1 (.q 2 (.q 3 (.q 4 (.q 5 (.q 6 (.q 7 (.q 8 (.q 9 (.q 10 (.e 11 (.e 12 (.done)))))))))))))) [.blk b0 (ob ZT 48),.blk d0 (ob [.slice x0 path.length c23,.slice i0 up.length e0,.pointer (some h0)] 90),.blk c0 (ob [.pointer (some pf)] 102)] J N mixed (by kernel_rfl) (by simp) (by kernel_rfl) fun w N=>?_;refine go fun a J=>?_;have A1:i_ < path.length:=by have h_:=(List.getElem?_eq_some_iff.1 Y).1;omega
 have d:=N;have m:=J;clear N J;obtain ⟨v2,rfl⟩:=f2 (zO A1);have N:=d;have J:=m;clear d m;obtain ⟨R3,M0⟩:=zW A1;obtain ⟨A2,E4,F0,f3⟩:=S.elem M0;obtain rfl:A2=[.int .i64 R3]:=f3;refine go fun a J=>?_;obtain ⟨K6,c1,w1⟩:=q3z hx Y M0 ((nA (y2y GP hF hx Y)).ar.last (by omega));rw [c1] at J;have d:=N;have m:=J;clear N J;obtain ⟨T6,rfl⟩:=i2 (zO w1);have N:=d;have J:=m;clear d m;obtain ⟨x,N0⟩:=zW w1;obtain ⟨b4,F4,G0,t0⟩:=R0.elem N0;obtain ⟨q2,b2,X5,rfl,u3,Q0,R4,Z2⟩:=RTA.fm t0;obtain ⟨L3,q3,M3,r3,N3,s3,rfl,u4,v4,j6,k6,l6,S4,m5,T4,n5,U4,o5⟩:=RTE.fm Q0;refine Alc fun W1 w N a J=>?_;refine Sto 0 fun w N a J=>?_;refine go fun a J=>?_;apply L2;refine sqI fun M5 M2=>?_;refine xM ?_;refine zG J (by intro c h;cases h) (jE J rfl) rfl fun a J=>?_;refine zZ ?_;apply M2;refine sqI fun N5 N2=>?_;refine sqI fun O5 O2=>?_;refine xM ?_;replace N:=N.nilRow 75 2
 try dsimp only [zTE] at N
 replace N:=N.nf
 refine zG J (by intro c h;cases h) (qP J rfl y8j rfl) rfl fun a J=>
   zG J (by intro c h;cases h) (yH 1 J N.toSees rfl rfl rfl isAgg23) rfl fun a J=>
   zG J (by intro c h;cases h) (aH J rfl runUnderlying23) rfl fun a J=>
   zG J (by intro c h;cases h) (yZ J rfl) rfl fun a J=>?_
 refine zZ ?_;apply O2;refine gJ ?_;refine y9a (fun mm a w=>∃(k_:Nat) (av:Value),mm=x.vars.length - k_/\EnvR 104 [(3,.pointer (some ⟨c0,0,none⟩)),(4,.pointer (some ⟨d0,0,none⟩)),(6,.pointer (some ⟨b0,0,none⟩)),(9,.pointer (some ⟨W1,0,none⟩)),(10,av),(84,.slice q2 x.vars.length b2),(85,.int .i64 x.vars.length),(86,.int .i64 k_)] [] a/\Mem Ψr_ (.gs (av) 75 2 (sG (x.vars.take k_))::.blk W1 (ob [.string x.con,.slice q2 x.vars.length b2,.int .i64 (x.body.kind),.string x.body.name,.string x.body.op,.int .i64 (x.body.num),.int .i64 (x.body.site),.slice L3 x.body.args.length q3,.slice M3 x.body.arms.length r3,.slice N3 x.body.body.length s3] 79)::.blk l_ E3::.blk b0 (ob ZT 48)::.blk d0 (ob [.slice (some v2) path.length c23,.slice i0 up.length e0,.pointer (some h0)] 90)::.blk c0 (ob [.pointer (some pf)] 102)::(K++k3)) w/\(True)) (x.vars.length - 0) ⟨0,ZB,rfl,J.pk,N,trivial⟩ ?_;clear N J;rintro mm a w ⟨k_,av,X2,J,N,g4⟩ P5 P2;refine sqI fun Q5 t1=>?_;refine xM ?_;by_cases m0:k_ < x.vars.length;refine zG J (by intro c h;cases h) (sK true J rfl rfl (decide_eq_true (Int.ofNat_lt.2 m0))) rfl fun a J=>?_;refine zZ ?_;apply t1;refine sqI fun R5 Q2=>?_;refine mD J rfl ?_;refine pE ?_;apply Q2;refine sqI fun S5 R2=>?_;refine gJ ?_;refine sqI fun T5 S2=>?_;refine xM ?_;have d:=N;have m:=J;clear N J;obtain ⟨U6,rfl⟩:=Z2 (zO m0);have N:=d;have J:=m;clear d m;obtain ⟨X0,I1⟩:=zW m0;obtain ⟨B2,G4,V2,g3⟩:=u3.elem I1;obtain rfl:B2=[.string X0]:=g3
 refine zG J (by intro c h;cases h) (xT k_ J rfl rfl runUnderlying23 sizeOf9 m0) rfl fun a J=>
   zG J (by intro c h;cases h) (pZ J N.toSees rfl V2 rfl isAgg9) rfl fun a J=>
   zG J (by intro c h;cases h) (jE J rfl) rfl fun a J=>?_
 refine zZ ?_;apply S2;refine xM ?_
 refine zG J (by intro c h;cases h) (yZ J rfl) rfl fun a J=>
   zG J (by intro c h;cases h) (yZ J rfl) rfl fun a J=>
   zG J (by intro c h;cases h) (jV (vs:=[(0,.string X0)]) (cs:=[.string X0,ZA]) J rfl (by kernel_rfl)) rfl fun a J=>?_
 refine kA J rfl rfl rfl (by intro c h;cases h) (qA (sz:=2) (cs:=[.string X0,ZA]) J N rfl (pQ runUnderlying44 sizeOf75 zeroValue75 rfl (by decide) rfl) rfl (by decide) fun W6 w N _ a J=>?_);refine kA J rfl rfl rfl (by intro c h;cases h) (wX 1 (xs:=(sG (x.vars.take k_))) (news:=[.string X0,ZA]) j2v J N rfl rfl rfl (N.toSees.rowIn (i:=0) rfl) rfl (by rw [y4z];simp only [List.length_take,lcQ,lnQ];have h_:=(nA (y2y GP hF hx Y)).nv _ (mgQ N0);omega) fun P3 w N a J=>?_)
 try dsimp only [zTE] at N
 replace N:=N.nf;refine zG J (by intro c h;cases h) (jE J rfl) rfl fun a J=>?_;refine zZ ?_;apply R2;refine xM ?_
 refine zG J (by intro c h;cases h) (xJ (i:=k_) (j:=1) J rfl rfl (by omega)) rfl fun a J=>
   zG J (by intro c h;cases h) (yZ J rfl) rfl fun a J=>?_
 refine zZ ?_;rw [<- z8g I1] at N;replace N:=N.dl [0];refine P2 _ _ _ (by subst X2;omega) ⟨(k_+1),(P3),rfl,J.pk,N,?_⟩;trivial;refine zG J (by intro c h;cases h) (sK false J rfl rfl (decide_eq_false (fun hh=>m0 (Int.ofNat_lt.1 hh)))) rfl fun a J=>?_;refine zZ ?_;apply t1;refine sqI fun U5 i4=>?_;refine wP J rfl ?_;refine z9g ?_;apply N2;refine sqI fun V5 T2=>?_;refine xM ?_
 refine zG J (by intro c h;cases h) (yH 5 J N.toSees rfl rfl rfl isAgg102) rfl fun a J=>
   zG J (by intro c h;cases h) (qG 4 (vs:=[.slice (some v2) path.length c23,.slice i0 up.length e0,.pointer (some h0)]) J N.toSees rfl rfl isAgg90 sizeOf90 rfl rfl) rfl fun a J=>
   zG J (by intro c h;cases h) (qP J rfl y8i rfl) rfl fun a J=>
   zG J (by intro c h;cases h) (yH 1 J N.toSees rfl rfl rfl isAgg9) rfl fun a J=>
   zG J (by intro c h;cases h) (yZ J rfl) rfl fun a J=>?_
 have U0:=N;clear N;obtain ⟨O1,n,N,G1,B3⟩:=U0.freezeRowC (i:=0) rfl;clear U0;replace H:=H.mono n;replace E:=E.mono n;replace L:=RTFn.mono _ _ _ _ n L;replace RF:=RF.mono n;replace D:=D.mono n;replace I:=RTE.mono _ _ _ _ n I;replace t:=RFnd.mono _ _ _ _ n t;replace Z:=Z.mono n;replace V:=RTE.mono _ _ _ _ n V;replace D0:=D0.mono n;replace r0:=RAtom.mono _ _ _ _ n r0;replace E0:=E0.mono n;replace s0:=RAtom.mono _ _ _ _ n s0;replace F0:=F0.mono n;replace G0:=G0.mono n;replace t0:=RTA.mono _ _ _ _ n t0;replace Q0:=RTE.mono _ _ _ _ n Q0
 try dsimp only [zTE] at N
 replace N:=N.nf;have l1:SliceOf RAtom O1 2 _ (((x.vars.take k_).map fun v=>(⟨v,0⟩:Atom))):=⟨_,G1,oD _ _⟩;obtain ⟨N6,Y5,f1,U3,p5⟩:=l1.form (by decide);have d:=N;clear N;subst f1;have N:=d;clear d;refine in_stP J rfl rfl rfl (by intro c h;cases h) (wM J rfl call190 (q6e RF GP hF hx t l1 N) (fun R x2 w o0 r N a J=>?_) (fun R w o0 N=>?_));replace H:=H.mono r.1;replace E:=E.mono r.1;replace L:=RTFn.mono _ _ _ _ r.1 L;replace D:=D.mono r.1;replace I:=RTE.mono _ _ _ _ r.1 I;replace t:=RFnd.mono _ _ _ _ r.1 t;replace Z:=Z.mono r.1;replace V:=RTE.mono _ _ _ _ r.1 V;replace D0:=D0.mono r.1;replace r0:=RAtom.mono _ _ _ _ r.1 r0;replace E0:=E0.mono r.1;replace s0:=RAtom.mono _ _ _ _ r.1 s0;replace F0:=F0.mono r.1;replace G0:=G0.mono r.1;replace t0:=RTA.mono _ _ _ _ r.1 t0;replace Q0:=RTE.mono _ _ _ _ r.1 Q0;have e1:=r.2;obtain ⟨d4,T1⟩:∃x_,x_=x2.2:=⟨_,rfl⟩;rw [<- T1] at e1 J;have h3:=e1;obtain ⟨r2,c2,s2,d2,t2,e2,rfl,w4,x4,m6,n6,o6,V4,q5,W4,r5,X4,s5⟩:=RTE.fm e1
 try dsimp only [zTE] at N
 replace N:=N.nf;refine xF J rfl rfl (by intro c h;cases h) (zQ 2 (cs:=ZT) (vs:=[.int .i64 (R.kind),.string R.name,.string R.op,.int .i64 (R.num),.int .i64 (R.site),.slice r2 R.args.length c2,.slice s2 R.arms.length d2,.slice t2 R.body.length e2]) J N rfl rfl rfl rfl sizeOf48 rfl rfl rfl fun w N a J=>?_)
 try dsimp only [zTE] at N
 replace N:=N.nf;refine zZ ?_;apply T2;refine wpIn_ret ?_;replace N:=N.dl [0];rw [show x.vars.take k_=x.vars from List.take_of_length_le (Nat.le_of_not_lt m0)] at o0;obtain ⟨W,X⟩:=y0g (g:=gT ⟨T,F⟩ e path) (y:=(i_,y_)) (s:=s_) ((j2b (f:=⟨T,F⟩) (fun h_=>m1 h_.1) h1 K0 L0 g0 M0 c1 N0).trans (congrArg some (zS o0)));refine Or.inr ⟨W,?_⟩;rw [X];exact ⟨rfl,x2.1,[.int .i64 (R.kind),.string R.name,.string R.op,.int .i64 (R.num),.int .i64 (R.site),.slice r2 R.args.length c2,.slice s2 R.arms.length d2,.slice t2 R.body.length e2],(n).trans r.1,⟨_,rfl,h3⟩,N⟩;replace N:=N.dl [4,3,2,0];rw [show x.vars.take k_=x.vars from List.take_of_length_le (Nat.le_of_not_lt m0)] at o0;exact Or.inl ⟨tG (g:=gT ⟨T,F⟩ e path) (y:=(i_,y_)) (s:=s_) ((j2b (f:=⟨T,F⟩) (fun h_=>m1 h_.1) h1 K0 L0 g0 M0 c1 N0).trans (congrArg some (yK o0))),rfl,J.defs,O1,n,N⟩;refine Qq (fun a J=>?_) (o:=by exact fun J O=>cX (p:=K1) (q:=L1) J rfl rfl (decide_eq_false g0));refine go fun a J=>?_;apply a1;refine wP J rfl ?_;refine pE ?_;obtain ⟨W,X⟩:=oQ (g:=gT ⟨T,F⟩ e path) (y:=(i_,y_)) (s:=s_) (y8z (fun h_=>m1 h_.1) (fun h_=>g0 (by have r1:=h_.2;rw [jF K0,jF L0] at r1;exact r1)))
 rotate_left
 refine go fun a J=>?_;apply a1;refine wP J rfl ?_;refine pE ?_;obtain ⟨W,X⟩:=oQ (g:=gT ⟨T,F⟩ e path) (y:=(i_,y_)) (s:=s_) (y8z (fun h_=>m1 h_.1) (fun h_=>h1 h_.1))
 rotate_left
 replace H:=H.mono b;replace E:=E.mono b;replace L:=RTFn.mono _ _ _ _ b L;replace D:=D.mono b;replace I:=RTE.mono _ _ _ _ b I;replace t:=RFnd.mono _ _ _ _ b t;obtain rfl:M1=zTE:=S0;replace N:=(Mem.mid (A:=[.blk Dk (.deferred (some []))]) (B:=[.blk b0 (ob ZT 48),.blk d0 (ob [.slice x0 path.length c23,.slice i0 up.length e0,.pointer (some h0)] 90),.blk c0 (ob [.pointer (some pf)] 102)]) (C:=K) N).nq;replace N:=N.nm;refine go fun a J=>?_;apply w3;refine jG ?_;refine yE fun a J=>?_;refine Qq (fun a J=>?_) (o:=by exact fun J O=>yL J rfl runUnderlying189 (by intro ms h;cases h));refine st0 J rfl rfl (xG J rfl (xH _) (fun a hd=>hQ _ _ _ (sI [.blk b0 (ob ZT 48),.blk d0 (ob [.slice x0 path.length c23,.slice i0 up.length e0,.pointer (some h0)] 90),.blk c0 (ob [.pointer (some pf)] 102)] (ds:=[Dk]) hd N fun w N=>?_)));replace N:=N.le ((U.1).trans b);rw [<- y8y _ _ _ _ B1,(z0x _ _).2.1 _ hr_];exact ⟨rfl,N⟩;replace H:=H.mono b;replace E:=E.mono b;replace L:=RTFn.mono _ _ _ _ b L;replace D:=D.mono b;replace I:=RTE.mono _ _ _ _ b I;replace t:=RFnd.mono _ _ _ _ b t;obtain ⟨t_,t5,j2⟩:=S0;replace N:=(Mem.mid (A:=[.blk Dk (.deferred (some []))]) (B:=[.blk b0 (ob M1 48),.blk d0 (ob [.slice x0 path.length c23,.slice i0 up.length e0,.pointer (some h0)] 90),.blk c0 (ob [.pointer (some pf)] 102)]) (C:=K) N).nq;replace N:=N.nm;replace N:=N.dl [2,1];replace N:=(Mem.mid (A:=[.blk b0 (ob M1 48)]) (B:=yV [Dk]) (C:=K) N).nq
 refine hQ _ _ _ (y9p (ds:=[Dk]) J results153 rfl isAgg48 (by rw [j2.len];exact sizeOf48) N fun w N=>?_);subst t5;rw [<- y8y _ _ _ _ B1,(z0x _ _).2.2 _ hr_];exact ⟨(Ψr_,M1),rfl,⟨(U.1).trans b,j2⟩,N⟩;replace H:=H.mono b;replace E:=E.mono b;replace L:=RTFn.mono _ _ _ _ b L;replace D:=D.mono b;replace I:=RTE.mono _ _ _ _ b I;replace t:=RFnd.mono _ _ _ _ b t;replace N:=N.le ((U.1).trans b);refine hQ _ _ _ (panX (ds:=[Dk]) J.defs N fun w N=>?_);rw [<- y8y _ _ _ _ B1,(z0x _ _).1 hr_];exact ⟨rfl,N⟩
 all_goals (refine Or.inr ⟨W,?_⟩;rw [X];exact ⟨rfl,Ψr_,_,Fz.Le.refl _,rfl,N⟩)
def q9i:List (Int×Value):=[(1,.func (.func 150) #[] #[]),(2,.func (.func 151) #[] #[]),(3,.func (.func 152) #[] #[]),(4,.func (.func 153) #[] #[]),(5,.func (.func 154) #[] #[]),(6,.func (.func 155) #[] #[])]
theorem x3u {Φ:Fz} {K:List Res} {w:World} (N:Mem Φ K w) :
  Calls prog 122 #[] w (fun ee w'=>∃b:Nat,ee=.returned (.map (some b))/\True/\Mem Φ (.imp b q9i::K) w'):=by
 refine zJ func122 ntmps122 fun Q hQ a J=>?_;refine go fun a J=>?_;refine st J rfl rfl rfl (z2g N fun c w N a J=>?_);refine st0 J rfl rfl (mC 0 runUnderlying192 runUnderlying3 J N rfl rfl rfl rfl fun w N a J=>?_);replace N:=N.nf;refine st0 J rfl rfl (mC 0 runUnderlying192 runUnderlying3 J N rfl rfl rfl rfl fun w N a J=>?_);replace N:=N.nf;refine st0 J rfl rfl (mC 0 runUnderlying192 runUnderlying3 J N rfl rfl rfl rfl fun w N a J=>?_);replace N:=N.nf;refine st0 J rfl rfl (mC 0 runUnderlying192 runUnderlying3 J N rfl rfl rfl rfl fun w N a J=>?_);replace N:=N.nf;refine st0 J rfl rfl (mC 0 runUnderlying192 runUnderlying3 J N rfl rfl rfl rfl fun w N a J=>?_);replace N:=N.nf;refine st0 J rfl rfl (mC 0 runUnderlying192 runUnderlying3 J N rfl rfl rfl rfl fun w N a J=>?_);replace N:=N.nf;refine yG ?_;exact ⟨c,rfl,trivial,N⟩
section
variable {Φ:Fz} {K:List Res} {w:World}
theorem may_yes {pf:Addr} {T:Trc} {F:TFn} {c:List Value} {path:List Int} {up:List TE} {e:TE} {r:Int} (a:FnS.may ⟨T,F⟩ r e up=true) (RF:RFnO Φ pf T F) (GP:GoodP T) (b:F∈T.funs) (d:(⟨path,up,e⟩:Fnd)∈zF [] [] F.body) (rf:RFnd Φ c ⟨path,up,e⟩) (N:Mem Φ K w) :
  Calls prog 120 #[.pointer (some pf),.int .i64 r,.agg c.toArray] w (fun ee w'=>ee=.returned (.bool true)/\Mem Φ K w'):=by
 have h:=may_ok (r:=r) RF GP b d rf N;rw [a] at h;exact h
theorem may_no {pf:Addr} {T:Trc} {F:TFn} {c:List Value} {path:List Int} {up:List TE} {e:TE} {r:Int} (a:FnS.may ⟨T,F⟩ r e up=false) (RF:RFnO Φ pf T F) (GP:GoodP T) (b:F∈T.funs) (d:(⟨path,up,e⟩:Fnd)∈zF [] [] F.body) (rf:RFnd Φ c ⟨path,up,e⟩) (N:Mem Φ K w) :
  Calls prog 120 #[.pointer (some pf),.int .i64 r,.agg c.toArray] w (fun ee w'=>ee=.returned (.bool false)/\Mem Φ K w'):=by
 have h:=may_ok (r:=r) RF GP b d rf N;rw [a] at h;exact h
theorem uP {pf:Addr} {T:Trc} {F:TFn} {c:List Value} {path:List Int} {up:List TE} {e:TE} {num r:Int} {y:Nat} {spec:Option TE} (RF:RFnO Φ pf T F) (GP:GoodP T) (hF:F∈T.funs) (hx:(⟨path,up,e⟩:Fnd)∈zF [] [] F.body) (rf:RFnd Φ c ⟨path,up,e⟩) (C:FnS.may ⟨T,F⟩ r e up=true) (U:z9u q9i r=some (.func (.func y) #[] #[])) (S:∀args w,(callFunc y args).run prog w=.ok (.enter y args) w)
  (o:∀(K:List Res) (w:World),Mem Φ K w->Calls prog y #[.pointer (some pf),.agg c.toArray,.int .i64 num] w (fun ee w'=>Out (xQ (spec)) (fun z=>∃q:Fz×List Value,ee=.returned (.agg q.2.toArray)/\(Φ.Le q.1/\RTE q.1 q.2 z)/\Mem q.1 K w') (fun _=>ee=.panicked vB/\Mem Φ K w'))) (N:Mem Φ K w) :
  Calls prog 69 #[.pointer (some pf),.int .i64 r,.agg c.toArray,.int .i64 num] w (fun ee w'=>Out (xQ (spec)) (fun z=>∃q:Fz×List Value,ee=.returned (.tuple #[.agg q.2.toArray,.bool true])/\(Φ.Le q.1/\RTE q.1 q.2 z)/\Mem q.1 K w') (fun _=>ee=.returned (.tuple #[.agg zTE.toArray,.bool false])/\Mem Φ K w')):=by
 have m:=rf;obtain ⟨s1,s2,p3,d4,rfl,H0,I0,s,t,A,g⟩:=id rf;replace s:SliceOf RInt Φ 1 s1 path:=s;replace t:SliceOf RPtE Φ 1 s2 up:=t;replace g:RTE Φ _ e:=g;obtain ⟨X,P,rfl,V,n0⟩:=s.fm;obtain ⟨Y,R,rfl,W,o0⟩:=t.fm;have n:=g;obtain ⟨K0,c23,L0,w0,N0,x0,rfl,c0,d0,z0,A0,B0,h0,p0,i0,q0,j0,r0⟩:=RTE.fm g;refine y8g func69 rfl ntmps69 rfl (fun Q hQ a J=>?_);refine Bx fun M w N a J=>?_;refine Alc fun h w N a J=>?_;refine Alc fun j w N a J=>?_;refine zE call120 (fun w N a J=>?_) (c:=may_yes C RF GP hF hx m N);refine go fun a J=>?_;refine tT (fs:=[]) (cs:=[.pointer (some ⟨h,0,none⟩),.pointer (some ⟨j,0,none⟩)]) (vs:=[]) J rfl rfl fun a J=>?_;refine go fun a J=>?_;refine y9l (E0:=[(8,.pointer (some ⟨h,0,none⟩)),(9,.pointer (some ⟨j,0,none⟩))]) [0,1,0,1,2,1,0,0,0] (.q 1 (.q 3 (.q 4 (.q 5 (.e 0 (.e 2 (.e 6 (.e 7 (.e 8 (.done)))))))))) [.blk j (ob [.bool false] 4),.blk h (ob ZT 48),.blk M (ob [.slice X path.length P,.slice Y up.length R,.pointer (some p3)] 90)] (J.pk) N mixed (by kernel_rfl) (by simp) (by kernel_rfl) fun w N=>?_;refine yI call122 (fun R0 w b0 N a J=>?_) (c:=x3u N);replace N:=N.nf;refine d_e J rfl rfl rfl (pO (Ok.cast (gE 0 runUnderlying192 runUnderlying3 zeroValue191 J N.toSees rfl rfl rfl) (show yA false .nilFunc (z9u q9i r)=.func (.func y) #[] #[] from by rw [U];rfl)) ⟨fun _=>N.sn (Fz.Le.refl _),fun a J=>?_⟩);refine d_e J rfl rfl rfl (z9d J rfl rfl S (o _ _ N) (fun b L w k d N=>⟨jT (by kernel_rfl),fun a J=>?_⟩) (fun b w k N=>fun a J=>?_));replace A:=A.mono d.1
 replace n:=RTE.mono _ _ _ _ d.1 n;replace m:=RFnd.mono _ _ _ _ d.1 m;have l:=d.2;obtain ⟨a0,p⟩:∃x_,x_=L.2:=⟨_,rfl⟩;rw [<- p] at l J;have D:=l;obtain ⟨G,u,H,v,I,x,rfl,e0,g0,C0,D0,F0,k0,s0,l0,t0,m0,u0⟩:=RTE.fm l;replace N:=N.nf;refine Sto 2 fun w N a J=>?_;refine Sto 1 fun w N a J=>?_;refine go fun a J=>?_;refine hQ _ _ _ ?_;show Leaves _ _ _ _ a.defers _ _;rw [J.defs];refine leaves_cons (f:=121) (args:=#[.pointer (some ⟨h,0,none⟩),.pointer (some ⟨j,0,none⟩)]) (by simp) (call121 _ _) ?_;refine still_refused.mono ?_;rintro e_ u_ Z ⟨rfl,rfl,E⟩;rw [E];have B:=N;replace N:=N.dl [3,2,1,0];refine ⟨.tuple #[.agg #[.int .i64 (b.kind),.string b.name,.string b.op,.int .i64 (b.num),.int .i64 (b.site),.slice G b.args.length u,.slice H b.arms.length v,.slice I b.body.length x],.bool true],dY (i:=2) (i':=1) J B.toSees results69 rfl rfl isAgg48 sizeOf48 rfl rfl rfl isAgg4,?_⟩;rw [k];exact ⟨(L.1,[.int .i64 (b.kind),.string b.name,.string b.op,.int .i64 (b.num),.int .i64 (b.site),.slice G b.args.length u,.slice H b.arms.length v,.slice I b.body.length x]),rfl,⟨d.1,D⟩,N⟩;replace N:=N.ar [3,0] [1];refine hQ _ _ _ ?_;show Leaves _ _ _ _ a.defers _ _;rw [J.defs];refine leaves_cons (f:=121) (args:=#[.pointer (some ⟨h,0,none⟩),.pointer (some ⟨j,0,none⟩)]) (by simp) (call121 _ _) ?_;refine (y3s N).mono ?_;rintro e_ u_ Z ⟨rfl,rfl,N⟩;refine ⟨.tuple #[.agg zTE.toArray,.bool false],dY (i:=0) (i':=1) J N.toSees results69 rfl rfl isAgg48 sizeOf48 rfl rfl rfl isAgg4,?_⟩;rw [k];exact ⟨rfl,(N.del 0).del 0⟩
theorem j3h {pf:Addr} {T:Trc} {F:TFn} {c:List Value} {path:List Int} {up:List TE} {e:TE} {num r:Int} (RF:RFnO Φ pf T F) (GP:GoodP T) (M:F∈T.funs) (U:(⟨path,up,e⟩:Fnd)∈zF [] [] F.body) (rf:RFnd Φ c ⟨path,up,e⟩) (h:FnS.may ⟨T,F⟩ r e up=false) (N:Mem Φ K w) :
  Calls prog 69 #[.pointer (some pf),.int .i64 r,.agg c.toArray,.int .i64 num] w (fun ee w'=>ee=.returned (.tuple #[.agg zTE.toArray,.bool false])/\Mem Φ K w'):=by
 have j:=rf;obtain ⟨s1,s2,p3,d4,rfl,R,S,d,f,P,b⟩:=id rf;replace d:SliceOf RInt Φ 1 s1 path:=d;replace f:SliceOf RPtE Φ 1 s2 up:=f;replace b:RTE Φ _ e:=b;obtain ⟨V,C,rfl,k,s⟩:=d.fm;obtain ⟨W,D,rfl,l,t⟩:=f.fm;have y:=b;obtain ⟨X,c23,Y,E,Z,G,rfl,m,n,H,I,L,o,u,p,v,q,x⟩:=RTE.fm b;refine y8g func69 rfl ntmps69 rfl (fun Q hQ a J=>?_);refine Bx fun z w N a J=>?_;refine Alc fun A w N a J=>?_;refine Alc fun B w N a J=>?_;refine zE call120 (fun w N a J=>?_) (c:=may_no h RF GP M U j N);refine yE fun a J=>?_;refine Sto 1 fun w N a J=>?_;refine Sto 0 fun w N a J=>?_;refine go fun a J=>?_;refine hQ _ _ _ ?_;show Leaves _ _ _ _ a.defers _ _;rw [J.defs];have g:=N;replace N:=N.dl [2,1,0];exact ⟨.tuple #[.agg zTE.toArray,.bool false],dY (i:=1) (i':=0) (cs:=zTE) J g.toSees results69 rfl rfl isAgg48 sizeOf48 rfl rfl rfl isAgg4,rfl,N⟩
theorem j3f {pf:Addr} {T:Trc} {F:TFn} {c:List Value} {path:List Int} {up:List TE} {e:TE} {num r:Int} (RF:RFnO Φ pf T F) (GP:GoodP T) (b:F∈T.funs) (d:(⟨path,up,e⟩:Fnd)∈zF [] [] F.body) (rf:RFnd Φ c ⟨path,up,e⟩) (G:Glob Φ) (g:r=1∨r=2∨r=3∨r=4∨r=5) (N:Mem Φ K w) :
  Calls prog 69 #[.pointer (some pf),.int .i64 r,.agg c.toArray,.int .i64 num] w (fun ee w'=>Out (xQ (FnS.try5 ⟨T,F⟩ r e up path)) (fun z=>∃q:Fz×List Value,ee=.returned (.tuple #[.agg q.2.toArray,.bool true])/\(Φ.Le q.1/\RTE q.1 q.2 z)/\Mem q.1 K w') (fun _=>ee=.returned (.tuple #[.agg zTE.toArray,.bool false])/\Mem Φ K w')):=by
 cases a:FnS.may ⟨T,F⟩ r e up with
 | false=>
  have O:FnS.try5 ⟨T,F⟩ r e up path=none:=by unfold FnS.try5;rw [a];rfl
  rw [O];exact j3h RF GP b d rf a N
 | true=>
  have hmay':=a;unfold FnS.may at hmay';rcases g with rfl | rfl | rfl | rfl | rfl
  have f:e.kind=1:=by simp at hmay';exact hmay'.1
  rw [show FnS.try5 ⟨T,F⟩ 1 e up path=FnS.fold ⟨T,F⟩ e from by unfold FnS.try5;rw [a];rfl];exact uP RF GP b d rf a rfl call150 (fun K w N=>fold_ok RF GP b d rf G f N) N;have f:1<=e.kind/\e.kind<=6:=by simp at hmay';exact ⟨hmay'.1,hmay'.2.1⟩
  rw [show FnS.try5 ⟨T,F⟩ 2 e up path=some (jQ e) from by unfold FnS.try5;rw [a];rfl];exact uP RF GP b d rf a rfl call151 (fun K w N=>dead_ok RF GP b d rf G f N) N;have f:e.kind=5:=by simp at hmay';exact hmay'.1
  rw [show FnS.try5 ⟨T,F⟩ 3 e up path=FnS.fuse ⟨T,F⟩ e up.reverse from by unfold FnS.try5;rw [a];rfl];exact uP RF GP b d rf a rfl call152 (fun K w N=>fuse_ok RF GP b d rf G f N) N;have f:e.kind=7:=by simp at hmay';exact hmay'
  rw [show FnS.try5 ⟨T,F⟩ 4 e up path=FnS.known ⟨T,F⟩ e (up.zip path).reverse from by unfold FnS.try5;rw [a];rfl];exact uP RF GP b d rf a rfl call153 (fun K w N=>x2h RF GP b d rf G f N) N;have f:e.kind=5:=by simp at hmay';exact hmay'.1
  rw [show FnS.try5 ⟨T,F⟩ 5 e up path=FnS.forward ⟨T,F⟩ e up.reverse from by unfold FnS.try5;rw [a];rfl];exact uP RF GP b d rf a rfl call154 (fun K w N=>q7s RF GP b d rf G f N) N
end
end Go.Sw
