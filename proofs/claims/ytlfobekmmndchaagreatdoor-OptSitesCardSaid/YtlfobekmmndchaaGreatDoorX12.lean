import Derived.Test.YtlfobekmmndchaaGreatDoorX11
set_option linter.unusedVariables false
set_option linter.unusedSimpArgs false
namespace Go.Sw
open Go.Proofs Go.Proofs.Tryz
set_option maxRecDepth 20000
set_option maxHeartbeats 4000000
section
variable {Φ:Fz} {K:List Res} {w:World}
theorem may_yes {pf:Addr} {T:Trc} {F:TFn} {c:List Value} {path:List Int} {up:List TE} {e:TE} {r:Int} (a:FnS.may ⟨T,F⟩ r e up=true) (RF:RFnO Φ pf T F) (GP:GoodP T) (b:F∈T.funs) (d:(⟨path,up,e⟩:Fnd)∈zE [] [] F.body) (rf:RFnd Φ c ⟨path,up,e⟩) (N:Mem Φ K w) :
  Calls prog 120 #[.pointer (some pf),.int .i64 r,.agg c.toArray] w (fun ee w'=>ee=.returned (.bool true)/\Mem Φ K w'):=by
 have h:=may_ok (r:=r) RF GP b d rf N
 rw [a] at h;exact h
theorem may_no {pf:Addr} {T:Trc} {F:TFn} {c:List Value} {path:List Int} {up:List TE} {e:TE} {r:Int} (a:FnS.may ⟨T,F⟩ r e up=false) (RF:RFnO Φ pf T F) (GP:GoodP T) (b:F∈T.funs) (d:(⟨path,up,e⟩:Fnd)∈zE [] [] F.body) (rf:RFnd Φ c ⟨path,up,e⟩) (N:Mem Φ K w) :
  Calls prog 120 #[.pointer (some pf),.int .i64 r,.agg c.toArray] w (fun ee w'=>ee=.returned (.bool false)/\Mem Φ K w'):=by
 have h:=may_ok (r:=r) RF GP b d rf N
 rw [a] at h;exact h
theorem uA {pf:Addr} {T:Trc} {F:TFn} {c:List Value} {path:List Int} {up:List TE} {e:TE} {num r:Int} {A:Nat} {spec:Option TE} (RF:RFnO Φ pf T F) (GP:GoodP T) (hF:F∈T.funs) (hx:(⟨path,up,e⟩:Fnd)∈zE [] [] F.body) (rf:RFnd Φ c ⟨path,up,e⟩) (D:FnS.may ⟨T,F⟩ r e up=true) (V:z8t q7i r=some (.func (.func A) #[] #[])) (U:∀args w,(callFunc A args).run prog w=.ok (.enter A args) w)
  (o:∀(K:List Res) (w:World),Mem Φ K w->Calls prog A #[.pointer (some pf),.agg c.toArray,.int .i64 num] w (fun ee w'=>Out (xL (spec)) (fun z=>∃q:Fz×List Value,ee=.returned (.agg q.2.toArray)/\(Φ.Le q.1/\RTE q.1 q.2 z)/\Mem q.1 K w') (fun _=>ee=.panicked vB/\Mem Φ K w'))) (N:Mem Φ K w) :
  Calls prog 69 #[.pointer (some pf),.int .i64 r,.agg c.toArray,.int .i64 num] w (fun ee w'=>Out (xL (spec)) (fun z=>∃q:Fz×List Value,ee=.returned (.tuple #[.agg q.2.toArray,.bool true])/\(Φ.Le q.1/\RTE q.1 q.2 z)/\Mem q.1 K w') (fun _=>ee=.returned (.tuple #[.agg zTE.toArray,.bool false])/\Mem Φ K w')):=by
 have m:=rf
 obtain ⟨s1,s2,p3,d4,rfl,I0,J0,s,t,B,g⟩:=id rf
 replace s:SliceOf RInt Φ 1 s1 path:=s
 replace t:SliceOf RPtE Φ 1 s2 up:=t
 replace g:RTE Φ _ e:=g
 obtain ⟨Y,R,rfl,W,o0⟩:=s.fm
 obtain ⟨Z,S,rfl,X,p0⟩:=t.fm
 have n:=g
 obtain ⟨L0,c23,M0,x0,O0,y0,rfl,d0,e0,A0,B0,C0,i0,q0,j0,r0,k0,s0⟩:=RTE.fm g
 refine y5v func69 rfl ntmps69 rfl (fun Q hQ a J=>?_)
 refine Bx fun P w N a J=>?_
 refine Alc fun h w N a J=>?_
 refine Alc fun j w N a J=>?_
 refine zF call120 (fun w N a J=>?_) (c:=may_yes D RF GP hF hx m N)
 refine go fun a J=>?_
 refine tE (fs:=[]) (cs:=[.pointer (some ⟨h,0,none⟩),.pointer (some ⟨j,0,none⟩)]) (vs:=[]) J rfl rfl fun a J=>?_
 refine go fun a J=>?_
 refine y8r (E0:=[(8,.pointer (some ⟨h,0,none⟩)),(9,.pointer (some ⟨j,0,none⟩))]) [0,1,0,1,2,1,0,0,0] (.q 1 (.q 3 (.q 4 (.q 5 (.e 0 (.e 2 (.e 6 (.e 7 (.e 8 (.done)))))))))) [.blk j (ob [.bool false] 4),.blk h (ob [.int .i64 ((0:Nat):Int),.string ⟨#[]⟩,.string ⟨#[]⟩,.int .i64 ((0:Nat):Int),.int .i64 ((0:Nat):Int),.slice none 0 0,.slice none 0 0,.slice none 0 0] 48),.blk P (ob [.slice Y path.length R,.slice Z up.length S,.pointer (some p3)] 90)] (J.pk) N mixed (by kernel_rfl) (by simp) (by kernel_rfl) fun w N=>?_
 refine yF call122 (fun S0 w c0 N a J=>?_) (c:=x1q N)
 replace N:=N.nf
 refine d_e J rfl rfl rfl (pE (Ok.cast (dX 0 runUnderlying192 runUnderlying3 zeroValue191 J N.toSees rfl rfl rfl) (show zZ false .nilFunc (z8t q7i r)=.func (.func A) #[] #[] from by rw [V];rfl)) ⟨fun _=>N.sn (Fz.Le.refl _),fun a J=>?_⟩)
 refine d_e J rfl rfl rfl (z8g J rfl rfl U (o _ _ N) (fun b M w k d N=>⟨jM (by kernel_rfl),fun a J=>?_⟩) (fun b w k N=>fun a J=>?_))
 replace B:=B.mono d.1
 replace n:=RTE.mono _ _ _ _ d.1 n
 replace m:=RFnd.mono _ _ _ _ d.1 m
 have l:=d.2
 obtain ⟨b0,p⟩:∃x_,x_=M.2:=⟨_,rfl⟩
 rw [<- p] at l J
 have E:=l
 obtain ⟨H,u,I,v,L,y,rfl,g0,h0,D0,F0,G0,l0,t0,m0,u0,n0,w0⟩:=RTE.fm l
 replace N:=N.nf
 refine Sto 2 fun w N a J=>?_
 refine Sto 1 fun w N a J=>?_
 refine go fun a J=>?_
 refine hQ _ _ _ ?_
 show Leaves _ _ _ _ a.defers _ _
 rw [J.defs]
 refine leaves_cons (f:=121) (args:=#[.pointer (some ⟨h,0,none⟩),.pointer (some ⟨j,0,none⟩)]) (by simp) (call121 _ _) ?_
 refine still_refused.mono ?_
 rintro e_ u_ a0 ⟨rfl,rfl,G⟩
 rw [G]
 have C:=N
 replace N:=N.dl [3,2,1,0]
 refine ⟨.tuple #[.agg #[.int .i64 (b.kind),.string b.name,.string b.op,.int .i64 (b.num),.int .i64 (b.site),.slice H b.args.length u,.slice I b.arms.length v,.slice L b.body.length y],.bool true],dS (i:=2) (i':=1) J C.toSees results69 rfl rfl isAgg48 sizeOf48 rfl rfl rfl isAgg4,?_⟩
 rw [k]
 exact ⟨(M.1,[.int .i64 (b.kind),.string b.name,.string b.op,.int .i64 (b.num),.int .i64 (b.site),.slice H b.args.length u,.slice I b.arms.length v,.slice L b.body.length y]),rfl,⟨d.1,E⟩,N⟩
 replace N:=N.ar [3,0] [1]
 refine hQ _ _ _ ?_
 show Leaves _ _ _ _ a.defers _ _
 rw [J.defs]
 refine leaves_cons (f:=121) (args:=#[.pointer (some ⟨h,0,none⟩),.pointer (some ⟨j,0,none⟩)]) (by simp) (call121 _ _) ?_
 refine (y1s N).mono ?_
 rintro e_ u_ a0 ⟨rfl,rfl,N⟩
 refine ⟨.tuple #[.agg zTE.toArray,.bool false],dS (i:=0) (i':=1) J N.toSees results69 rfl rfl isAgg48 sizeOf48 rfl rfl rfl isAgg4,?_⟩
 rw [k]
 exact ⟨rfl,(N.del 0).del 0⟩
theorem j1e {pf:Addr} {T:Trc} {F:TFn} {c:List Value} {path:List Int} {up:List TE} {e:TE} {num r:Int} (RF:RFnO Φ pf T F) (GP:GoodP T) (P:F∈T.funs) (V:(⟨path,up,e⟩:Fnd)∈zE [] [] F.body) (rf:RFnd Φ c ⟨path,up,e⟩) (h:FnS.may ⟨T,F⟩ r e up=false) (N:Mem Φ K w) :
  Calls prog 69 #[.pointer (some pf),.int .i64 r,.agg c.toArray,.int .i64 num] w (fun ee w'=>ee=.returned (.tuple #[.agg zTE.toArray,.bool false])/\Mem Φ K w'):=by
 have j:=rf
 obtain ⟨s1,s2,p3,d4,rfl,S,U,d,f,R,b⟩:=id rf
 replace d:SliceOf RInt Φ 1 s1 path:=d
 replace f:SliceOf RPtE Φ 1 s2 up:=f
 replace b:RTE Φ _ e:=b
 obtain ⟨W,D,rfl,k,s⟩:=d.fm
 obtain ⟨X,E,rfl,l,t⟩:=f.fm
 have z:=b
 obtain ⟨Y,c23,Z,G,a0,H,rfl,m,n,I,L,M,o,u,p,v,q,y⟩:=RTE.fm b
 refine y5v func69 rfl ntmps69 rfl (fun Q hQ a J=>?_)
 refine Bx fun A w N a J=>?_
 refine Alc fun B w N a J=>?_
 refine Alc fun C w N a J=>?_
 refine zF call120 (fun w N a J=>?_) (c:=may_no h RF GP P V j N)
 refine yE fun a J=>?_
 refine Sto 1 fun w N a J=>?_
 refine Sto 0 fun w N a J=>?_
 refine go fun a J=>?_
 refine hQ _ _ _ ?_
 show Leaves _ _ _ _ a.defers _ _
 rw [J.defs]
 have g:=N
 replace N:=N.dl [2,1,0]
 exact ⟨.tuple #[.agg zTE.toArray,.bool false],dS (i:=1) (i':=0) (cs:=zTE) J g.toSees results69 rfl rfl isAgg48 sizeOf48 rfl rfl rfl isAgg4,rfl,N⟩
theorem j1c {pf:Addr} {T:Trc} {F:TFn} {c:List Value} {path:List Int} {up:List TE} {e:TE} {num r:Int} (RF:RFnO Φ pf T F) (GP:GoodP T) (b:F∈T.funs) (d:(⟨path,up,e⟩:Fnd)∈zE [] [] F.body) (rf:RFnd Φ c ⟨path,up,e⟩) (G:Glob Φ) (g:r=1∨r=2∨r=3∨r=4∨r=5) (N:Mem Φ K w) :
  Calls prog 69 #[.pointer (some pf),.int .i64 r,.agg c.toArray,.int .i64 num] w (fun ee w'=>Out (xL (FnS.try5 ⟨T,F⟩ r e up path)) (fun z=>∃q:Fz×List Value,ee=.returned (.tuple #[.agg q.2.toArray,.bool true])/\(Φ.Le q.1/\RTE q.1 q.2 z)/\Mem q.1 K w') (fun _=>ee=.returned (.tuple #[.agg zTE.toArray,.bool false])/\Mem Φ K w')):=by
 cases a:FnS.may ⟨T,F⟩ r e up with
 | false=>
  have O:FnS.try5 ⟨T,F⟩ r e up path=none:=by unfold FnS.try5;rw [a];rfl
  rw [O];exact j1e RF GP b d rf a N
 | true=>
  have hmay':=a
  unfold FnS.may at hmay'
  rcases g with rfl | rfl | rfl | rfl | rfl
  have f:e.kind=1:=by simp at hmay';exact hmay'.1
  rw [show FnS.try5 ⟨T,F⟩ 1 e up path=FnS.fold ⟨T,F⟩ e from by unfold FnS.try5;rw [a];rfl]
  exact uA RF GP b d rf a rfl call150 (fun K w N=>fold_ok RF GP b d rf G f N) N
  have f:1<=e.kind/\e.kind<=6:=by simp at hmay';exact ⟨hmay'.1,hmay'.2.1⟩
  rw [show FnS.try5 ⟨T,F⟩ 2 e up path=some (xT e) from by unfold FnS.try5;rw [a];rfl]
  exact uA RF GP b d rf a rfl call151 (fun K w N=>dead_ok RF GP b d rf G f N) N
  have f:e.kind=5:=by simp at hmay';exact hmay'.1
  rw [show FnS.try5 ⟨T,F⟩ 3 e up path=FnS.fuse ⟨T,F⟩ e up.reverse from by unfold FnS.try5;rw [a];rfl]
  exact uA RF GP b d rf a rfl call152 (fun K w N=>fuse_ok RF GP b d rf G f N) N
  have f:e.kind=7:=by simp at hmay';exact hmay'
  rw [show FnS.try5 ⟨T,F⟩ 4 e up path=FnS.known ⟨T,F⟩ e (up.zip path).reverse from by unfold FnS.try5;rw [a];rfl]
  exact uA RF GP b d rf a rfl call153 (fun K w N=>x0h RF GP b d rf G f N) N
  have f:e.kind=5:=by simp at hmay';exact hmay'.1
  rw [show FnS.try5 ⟨T,F⟩ 5 e up path=FnS.forward ⟨T,F⟩ e up.reverse from by unfold FnS.try5;rw [a];rfl]
  exact uA RF GP b d rf a rfl call154 (fun K w N=>q6g RF GP b d rf G f N) N
end
def kX (n:Bs) (y:Fnd):Bool:=decide (y.x.kind=3∨y.x.kind=4∨y.x.kind=10)&&decide (y.x.op=n)
def cE (n:Bs) (_:Unit) (y:Fnd):Unit×Bool:=((),!kX n y)
theorem z4i (n:Bs):∀l:List Fnd,(zK (cE n) () l).2 = !l.any (kX n)
 | []=>rfl
 | y::l=>by
  rw [zK,List.any_cons]
  cases h:kX n y with
  | true=>simp [cE,h]
  | false=>simp only [cE,h,Bool.not_false,cond_true,Bool.false_or];exact z4i n l
theorem sH (n:Bs) (e:TE):∀(p:List Int) (up:List TE),(zE p up e).any (kX n)=mX n e:=by
 refine wV (C:=fun e=>∀(p:List Int) (up:List TE),(zE p up e).any (kX n)=mX n e) (fun e j hb p up=>?_) e
 have g:∀(l:List TA) (i:Int) (up:List TE),(∀a∈l,∀(p:List Int) (up:List TE),(zE p up a.body).any (kX n)=mX n a.body)->(belowTa p up i l).any (kX n)=callsNa n l:=by
  intro l
  induction l with
  | nil=>intro i up _;rfl
  | cons a l f=>
   cases a with
   | mk c vs b=>
    intro i up h
    rw [belowTa,List.any_append,f (i+1) up (fun a d=>h a (mcQ _ d)),callsNa]
    have:=h (.mk c vs b) (msQ ..) (p++[i]) up
    rw [show (TA.mk c vs b).body=b from rfl] at this
    rw [this]
 have d:∀(l:List TE) (i:Int) (up:List TE),(∀a∈l,∀(p:List Int) (up:List TE),(zE p up a).any (kX n)=mX n a)->(belowTs p up i l).any (kX n)=callsNs n l:=by
  intro l
  induction l with
  | nil=>intro i up _;rfl
  | cons b l f=>
   intro i up h
   rw [belowTs,List.any_append,f (i+1) up (fun a d=>h a (mcQ _ d)),callsNs,h b (msQ ..) (p++[i]) up]
 rw [jK,List.any_cons,List.any_append,g _ _ _ j,d _ _ _ hb]
 cases e;simp only [mX,kX,TE.kind,TE.op,TE.arms,TE.body,Bool.or_assoc];rfl
theorem j3g {T:Trc} {i:Nat} {f:TFn} (a:T.funs[i]? = some f) (h:T.outputs.contains f.name=true):vG T i=false:=by unfold vG;rw [a];simp only [h,Bool.not_true,Bool.false_and]
theorem j7g {T:Trc} {i j:Nat} {f g:TFn} (d:T.funs[i]? = some f) (c:T.funs[j]? = some g) (b:¬j=i) (h:mX f.name g.body=true):vG T i=false:=by
 rw [<- Bool.not_eq_true];intro a
 unfold vG at a;rw [d] at a
 simp only [baQ,List.all_eq_true] at a
 have:=a.2 j (List.mem_range.2 (List.getElem?_eq_some_iff.1 c).1)
 rw [c] at this;simp [b,h] at this
theorem j3h {T:Trc} {i:Nat} {f:TFn} (c:T.funs[i]? = some f) (e:T.outputs.contains f.name=false) (h:∀j g,T.funs[j]? = some g->j=i∨mX f.name g.body=false):vG T i=true:=by
 unfold vG;rw [c]
 simp only [baQ,List.all_eq_true]
 refine ⟨by rw [e];rfl,fun j d=>?_⟩
 have b:T.funs[j]? = some (T.funs[j]'(List.mem_range.1 d)):=List.getElem?_eq_getElem _
 rcases h j _ b with a | a
 rw [decide_eq_true a];rfl
 rw [b];simp [a]
theorem q0n {Φ:Fz} {K:List Res} {w:World} {pa:Addr} {T:Trc} {i0:Nat} {F:TFn} (RO:ROp Φ pa T) (hF:T.funs[i0]? = some F) (u0:FitP T) (N:Mem Φ K w) :
  Calls prog 49 #[.pointer (some pa),.int .i64 i0] w (fun ee w'=>ee=.returned (.bool (vG T i0))/\Mem Φ K w'):=by
 have p1:=RO
 obtain ⟨x2,m2,k,g0,V1⟩:=RO.ex
 have u:=g0
 obtain ⟨p9,D0,h1,E0,i1,c22,j1,F0,rfl,H1,h8,y2,s0,G0,M1,W1,N1,X1,O1,y0,P1,Y1⟩:=RTrc.fm g0
 replace k:At Φ pa [.slice p9 T.cons.length D0,.slice h1 T.inputs.length E0,.slice i1 T.funs.length c22,.slice j1 T.outputs.length F0,.map (some m2)]:=k
 have w0:=(List.getElem?_eq_some_iff.1 hF).1
 refine sL func49 rfl ntmps49 rfl (fun Q hQ a J=>?_)
 refine Alc fun m w N a J=>?_
 refine go fun a J=>?_
 obtain ⟨N2,rfl,e,P,x1,K1,t,o⟩:=s0.el y0 w0
 obtain ⟨H2,c45,r2,rfl,z2,D,Q1,Z1⟩:=RTFn.fm o
 obtain ⟨I2,c53,J2,t2,K2,u2,rfl,I1,J1,A2,B2,C2,R1,a2,S1,b2,T1,c2⟩:=RTE.fm D
 refine Alc fun G w N a J=>?_
 refine Sto 0 fun w N a J=>?_
 refine Reg [1,1,1,1,2,2,0] [0,1] fun w N a J=>?_
 obtain rfl:e=F:=Option.some.inj (P.symm.trans hF)
 refine nL call87 (fun U w N a J=>?_) (fun U w N a J=>?_) (c:=oF G0 N)
 refine Sto 1 fun w N a J=>?_
 refine go fun a J=>?_
 replace N:=N.dl [0]
 replace N:Mem Φ (yA []++(.blk m (ob [.bool false] 4)::K)) w:=Mem.mid (A:=[.blk m (ob [.bool false] 4)]) (B:=yA []) (C:=K) N
 refine hQ _ _ _ (q3f (ds:=[]) (v:=.bool false) J results49 rfl isAgg4 N fun w N=>?_)
 rw [j3g P U];exact ⟨rfl,N⟩
 refine go fun a J=>?_
 refine pX (fun mm a w=>∃(i:Nat) (ds:List Nat),mm=T.funs.length - i/\EnvR 78 [(0,.pointer (some pa)),(1,.int .i64 i0),(4,.pointer (some ⟨m,0,none⟩)),(5,.pointer (some ⟨G,0,none⟩)),(29,.int .i64 T.funs.length),(30,.int .i64 i)] (aL ds) a/\Mem Φ (.blk G (ob [.string e.name] 9)::.blk m (ob [.bool false] 4)::yA ds++K) w/\(∀(j:Nat) (g:TFn),T.funs[j]? = some g->j < i->j=i0∨mX e.name g.body=false)) (T.funs.length - 0) ⟨0,[],rfl,J.pk,N,fun _ _ _ h_=>by omega⟩ ?_
 clear N J
 rintro mm a w ⟨i,ds,x0,J,N,V⟩ q2 f0
 by_cases H0:i < T.funs.length
 by_cases t0:i=i0
 refine go fun a J=>?_
 refine f0 _ _ _ (by subst x0;omega) ⟨(i+1),(ds),rfl,J.pk,N,?_⟩
 exact fun j_ g_ I P0=>by
  by_cases W:j_=i
  subst W;exact .inl t0
  exact V j_ g_ I (by omega)
 refine go fun a J=>?_
 obtain ⟨Y,R⟩:=zW H0
 obtain ⟨y1,L1,n,r⟩:=s0.elem R
 obtain ⟨M2,v2,q1,rfl,D2,f,U1,d2⟩:=RTFn.fm r
 obtain ⟨f2,r1,g2,s1,h2,t1,rfl,L0,M0,A1,B1,C1,Q0,Y0,R0,Z0,S0,a1⟩:=RTE.fm f
 refine yF call74 (fun n2 w d N a J=>?_) (c:=z6o N)
 replace u:=RTrc.mono _ _ _ _ d.1 u
 replace k:=k.mono d.1
 replace t:=t.mono d.1
 replace o:=RTFn.mono _ _ _ _ d.1 o
 replace D:=RTE.mono _ _ _ _ d.1 D
 replace n:=n.mono d.1
 replace r:=RTFn.mono _ _ _ _ d.1 r
 replace f:=RTE.mono _ _ _ _ d.1 f
 have X:=d.2
 replace N:=N.nf
 refine go fun a J=>?_
 refine gS (p:=45) RFnd (zE [] [] Y.body) .ret (cE e.name) (fun Ψ_ s_ b_ z_=>True) (fun s_ b_ z_=>.blk G (ob [.string e.name] 9)::.blk m (ob [.bool false] 4)::yA ds++K) () () J trivial N rfl call123 rfl (fun _ _ _ _ _ _ _=>trivial) (fun Ψr_ s_ z_ w2 z l_ F2 G2 p2 a w b e2 o0 e0 J N=>?_) (hH X (At.part3 n) f (u0.fn R)) (fun hr_ Dk Ψr_ k1 a w b e0 J N=>?_) (fun hr_ Dk Ψr_ k1 a w b e0 J N=>?_)
 replace u:=RTrc.mono _ _ _ _ b u
 replace k:=k.mono b
 replace t:=t.mono b
 replace o:=RTFn.mono _ _ _ _ b o
 replace D:=RTE.mono _ _ _ _ b D
 replace n:=n.mono b
 replace r:=RTFn.mono _ _ _ _ b r
 replace f:=RTE.mono _ _ _ _ b f
 replace N:=N.nf
 obtain ⟨z0,A0,h0,z1,rfl,J0,K0,L,M,I0,E⟩:=id o0
 replace L:SliceOf RInt Ψr_ 1 z0 z.path:=L
 replace M:SliceOf RPtE Ψr_ 1 A0 z.up:=M
 replace E:RTE Ψr_ _ z.x:=E
 obtain ⟨j0,Z,rfl,B0,b1⟩:=L.fm
 obtain ⟨k0,a0,rfl,C0,c1⟩:=M.fm
 have g1:=E
 obtain ⟨i2,u1,j2,v1,k2,w1,rfl,N0,O0,D1,E1,F1,U0,d1,V0,e1,X0,f1⟩:=RTE.fm E
 refine xG ?_
 refine vS J rfl rfl rfl (by intro c h;cases h) (qP (cs:=[.slice none 0 0,.slice none 0 0,.pointer none]) N zeroValue90 rfl fun r0 w N a J=>?_)
 refine jY J rfl rfl (by intro c h;cases h) (zQ 0 (cs:=[.slice none 0 0,.slice none 0 0,.pointer none]) (vs:=[.slice j0 z.path.length Z,.slice k0 z.up.length a0,.pointer (some h0)]) J N rfl rfl rfl rfl sizeOf90 rfl rfl rfl fun w N a J=>?_)
 replace N:=N.nf
 refine zY ?_
 replace N:=N.pl 1
 refine ⟨_,N,fun w N=>?_⟩
 replace N:=N.nf
 refine gA ?_
 refine sqI fun l1 l=>?_
 refine pJ [1,2,1,1,2,1,1,1,2,1,1,2,1,1,1,1,2,1,1,2,1,1,1,1,2,1,1,2,2,1,1] (.q 0 (.q 1 (.q 2 (.q 3 (.q 4 (.q 5 (.q 6 (.q 7 (.q 8 (.q 9 (.q 10 (.q 11 (.q 12 (.q 13 (.q 14 (.q 15 (.q 16 (.q 17 (.q 18 (.q 19 (.q 20 (.q 21 (.q 22 (.q 23 (.q 24 (.q 25 (.q 26 (.q 27 (.q 28 (.q 29 (.q 30 (.done)))))))))))))))))))))))))))))))) [.blk r0 (ob [.slice j0 z.path.length Z,.slice k0 z.up.length a0,.pointer (some h0)] 90),.blk G (ob [.string e.name] 9),.blk m (ob [.bool false] 4)] J N mixed (by kernel_rfl) (by simp) (by kernel_rfl) fun w N=>?_
 by_cases y:z.x.kind=3
 by_cases b0:z.x.op=e.name
 refine go fun a J=>?_
 apply l
 refine pT J rfl ?_
 refine sqI fun m1 l0=>?_
 refine xG ?_
 refine jY J rfl rfl (by intro c h;cases h) (zQ 3 (cs:=[.bool false]) (vs:=[.bool false]) J N rfl rfl rfl rfl sizeOf4 rfl rfl rfl fun w N a J=>?_)
 replace N:=N.nf
 refine zY ?_
 apply l0
 refine wpIn_ret ?_
 replace N:=N.dl [1]
 have s:kX e.name z=true:=by simp [kX,y,b0]
 refine ⟨?_,Ψr_,(),(Fz.Le.refl _),trivial,N⟩
 simp only [cE,s];rfl
 refine go fun a J=>?_
 apply l
 refine wE J rfl ?_
 refine wS ?_
 replace N:=N.dl [1]
 have s:kX e.name z=false:=by simp [kX,y,b0]
 refine ⟨?_,Ψr_,(),(Fz.Le.refl _),trivial,N⟩
 simp only [cE,s];rfl
 by_cases H:z.x.kind=4
 by_cases c0:z.x.op=e.name
 refine go fun a J=>?_
 apply l
 refine pT J rfl ?_
 refine sqI fun n1 m0=>?_
 refine xG ?_
 refine jY J rfl rfl (by intro c h;cases h) (zQ 3 (cs:=[.bool false]) (vs:=[.bool false]) J N rfl rfl rfl rfl sizeOf4 rfl rfl rfl fun w N a J=>?_)
 replace N:=N.nf
 refine zY ?_
 apply m0
 refine wpIn_ret ?_
 replace N:=N.dl [1]
 have s:kX e.name z=true:=by simp [kX,H,c0,y]
 refine ⟨?_,Ψr_,(),(Fz.Le.refl _),trivial,N⟩
 simp only [cE,s];rfl
 refine go fun a J=>?_
 apply l
 refine wE J rfl ?_
 refine wS ?_
 replace N:=N.dl [1]
 have s:kX e.name z=false:=by simp [kX,H,y,c0]
 refine ⟨?_,Ψr_,(),(Fz.Le.refl _),trivial,N⟩
 simp only [cE,s];rfl
 by_cases S:z.x.kind=10
 refine go fun a J=>?_
 by_cases d0:z.x.op=e.name
 refine go fun a J=>?_
 apply l
 refine pT J rfl ?_
 refine sqI fun o1 n0=>?_
 refine xG ?_
 refine jY J rfl rfl (by intro c h;cases h) (zQ 3 (cs:=[.bool false]) (vs:=[.bool false]) J N rfl rfl rfl rfl sizeOf4 rfl rfl rfl fun w N a J=>?_)
 replace N:=N.nf
 refine zY ?_
 apply n0
 refine wpIn_ret ?_
 replace N:=N.dl [1]
 have s:kX e.name z=true:=by simp [kX,S,d0,y,H]
 refine ⟨?_,Ψr_,(),(Fz.Le.refl _),trivial,N⟩
 simp only [cE,s];rfl
 refine go fun a J=>?_
 apply l
 refine wE J rfl ?_
 refine wS ?_
 replace N:=N.dl [1]
 have s:kX e.name z=false:=by simp [kX,S,y,H,d0]
 refine ⟨?_,Ψr_,(),(Fz.Le.refl _),trivial,N⟩
 simp only [cE,s];rfl
 refine go fun a J=>?_
 apply l
 refine wE J rfl ?_
 refine wS ?_
 replace N:=N.dl [1]
 have s:kX e.name z=false:=by simp [kX,y,H,S]
 refine ⟨?_,Ψr_,(),(Fz.Le.refl _),trivial,N⟩
 simp only [cE,s];rfl
 replace u:=RTrc.mono _ _ _ _ b u
 replace k:=k.mono b
 replace t:=t.mono b
 replace o:=RTFn.mono _ _ _ _ b o
 replace D:=RTE.mono _ _ _ _ b D
 replace n:=n.mono b
 replace r:=RTFn.mono _ _ _ _ b r
 replace f:=RTE.mono _ _ _ _ b f
 replace N:Mem Ψr_ (.blk G (ob [.string e.name] 9)::.blk m (ob [.bool false] 4)::yA (Dk::ds)++K) w:=Mem.mid (A:=[.blk Dk (.deferred (some []))]) (B:=[.blk G (ob [.string e.name] 9),.blk m (ob [.bool false] 4)]) (C:=yA ds++K) N
 replace N:=N.nm
 refine go fun a J=>?_
 replace N:=N.le ((d.1).trans b)
 refine f0 _ _ _ (by subst x0;omega) ⟨(i+1),((Dk::ds)),rfl,J.pk,N,?_⟩
 exact fun j_ g_ I P0=>by
  by_cases W:j_=i
  subst W;exact .inr (by rw [show g_=Y from Option.some.inj (I.symm.trans R)];exact (show mX e.name Y.body=false from by have h_:=hr_;rw [z4i,sH] at h_;simpa using h_))
  exact V j_ g_ I (by omega)
 replace u:=RTrc.mono _ _ _ _ b u
 replace k:=k.mono b
 replace t:=t.mono b
 replace o:=RTFn.mono _ _ _ _ b o
 replace D:=RTE.mono _ _ _ _ b D
 replace n:=n.mono b
 replace r:=RTFn.mono _ _ _ _ b r
 replace f:=RTE.mono _ _ _ _ b f
 replace N:Mem Ψr_ (.blk G (ob [.string e.name] 9)::.blk m (ob [.bool false] 4)::yA (Dk::ds)++K) w:=Mem.mid (A:=[.blk Dk (.deferred (some []))]) (B:=[.blk G (ob [.string e.name] 9),.blk m (ob [.bool false] 4)]) (C:=yA ds++K) N
 replace N:=N.nm
 replace N:=N.le ((d.1).trans b)
 replace N:=N.dl [0]
 replace N:Mem Φ (yA (Dk::ds)++(.blk m (ob [.bool false] 4)::K)) w:=Mem.mid (A:=[.blk m (ob [.bool false] 4)]) (B:=yA (Dk::ds)) (C:=K) N
 refine hQ _ _ _ (q3f (ds:=(Dk::ds)) (v:=.bool false) J results49 rfl isAgg4 N fun w N=>?_)
 rw [j7g P R t0 (show mX e.name Y.body=true from by have h_:=hr_;rw [z4i,sH] at h_;simpa using h_)];exact ⟨rfl,N⟩
 refine Sto 1 fun w N a J=>?_
 refine go fun a J=>?_
 replace N:=N.dl [0]
 replace N:Mem Φ (yA ds++(.blk m (ob [.bool true] 4)::K)) w:=Mem.mid (A:=[.blk m (ob [.bool true] 4)]) (B:=yA ds) (C:=K) N
 refine hQ _ _ _ (q3f (ds:=ds) (v:=.bool true) J results49 rfl isAgg4 N fun w N=>?_)
 rw [j3h P U (fun j_ g_ I=>V j_ g_ I (by have h_:=(List.getElem?_eq_some_iff.1 I).1;omega))];exact ⟨rfl,N⟩
def CAll (T:Trc) (n:Bs) (k:Nat):Prop:=(∃g∈T.funs,g.name=n)/\∀g∈T.funs,g.name=n->g.params.length=k
theorem z6u {T:Trc} (h:GoodP T) {f:TFn} (a:f∈T.funs):clT (CAll T) f.body:=(aQ f.body [] []).2 fun y c b=>⟨(h.cl f a y c b).ex,(h.cl f a y c b).all⟩
theorem q9x {T:Trc} (a:FitP T) (b:∀f∈T.funs,gdT f.body) (c:∀f∈T.funs,clT (CAll T) f.body):GoodP T :=
 ⟨a,b,fun f g y i h=>let ⟨d,e⟩:=(aQ f.body [] []).1 (c f g) y i h;⟨d,e⟩⟩
theorem q9d {C D:Bs->Nat->Prop} {e:TE} (h:clT C e) (N:∀y∈zE [] [] e,(y.x.kind=3∨y.x.kind=4∨y.x.kind=10)->C y.x.op y.x.args.length->D y.x.op y.x.args.length):clT D e :=
 (aQ e [] []).2 fun y b a=>N y b a ((aQ e [] []).1 h y b a)
theorem sum_set {l:List TFn} {i:Nat} {f g:TFn} (h:l[i]? = some f) (b:zC g.body<=zC f.body):((l.set i g).map fun f=>zC f.body).sum<=(l.map fun f=>zC f.body).sum:=by
 induction l generalizing i with
 | nil=>simp at h
 | cons c l a=>
  cases i with
  | zero=>rw [List.getElem?_cons_zero] at h;cases h;rw [List.set_cons_zero,List.map_cons,List.map_cons,List.sum_cons,List.sum_cons];omega
  | succ i=>rw [List.getElem?_cons_succ] at h;rw [List.set_cons_succ,List.map_cons,List.map_cons,List.sum_cons,List.sum_cons];have:=a h;omega
theorem y4u:∀(l:List TFn) (i:Nat),((l.eraseIdx i).map fun f=>zC f.body).sum<=(l.map fun f=>zC f.body).sum
 | [],_=>by simp
 | c::l,0=>by rw [List.eraseIdx_cons_zero,List.map_cons,List.sum_cons];omega
 | c::l,i+1=>by rw [List.eraseIdx_cons_succ,List.map_cons,List.map_cons,List.sum_cons,List.sum_cons];have:=y4u l i;omega
theorem j6v {T:Trc} {i:Nat} {f:TFn} {b:TE} (e:T.funs[i]? = some f) {n:Bs} {k:Nat} (h:CAll T n k):CAll (jO T i b) n k:=by
 unfold jO;rw [e]
 obtain ⟨⟨g,p,a⟩,o⟩:=h
 have l:=(List.getElem?_eq_some_iff.1 e).1
 constructor
 ·obtain ⟨j,m⟩:=List.mem_iff_getElem?.1 p
  by_cases c:i=j
  ·subst c
   rw [e] at m;cases m
   exact ⟨{ f with body:=b },List.mem_iff_getElem?.2 ⟨i,by simp only;rw [List.getElem?_set_self l]⟩,a⟩
  ·exact ⟨g,List.mem_iff_getElem?.2 ⟨j,by simp only;rw [List.getElem?_set_ne c];exact m⟩,a⟩
 ·intro q hq d
  simp only at hq
  rcases List.mem_or_eq_of_mem_set hq with hq | rfl
  ·exact o q hq d
  ·exact o f (mgQ e) d
theorem x2g {T:Trc} {i:Nat} {f:TFn} {b:TE} (h:GoodP T) (d:T.funs[i]? = some f) (hb:gdT b) (e:clT (CAll T) b) (j:zC b<=zC f.body):GoodP (jO T i b):=by
 have c:jO T i b={ T with funs:=T.funs.set i { f with body:=b } }:=by unfold jO;rw [d]
 refine q9x ?_ (fun q hq=>?_) (fun q hq=>?_)
 ·have:=sum_set (g:={ f with body:=b }) d j
  have a:=h.fit
  rw [c];simp only [FitP,vJ] at a ⊢;omega
 ·rw [c] at hq
  rcases List.mem_or_eq_of_mem_set hq with hq | rfl
  ·exact h.gd q hq
  ·exact hb
 ·refine q9d (C:=CAll T) ?_ (fun y _ _ a=>j6v d a)
  rw [c] at hq
  rcases List.mem_or_eq_of_mem_set hq with hq | rfl
  ·exact z6u h hq
  ·exact e
theorem z3y {α:Type} {l:List α} {i:Nat} {x:α} (h:x∈l.eraseIdx i):∃j,j≠i/\l[j]? = some x:=by
 obtain ⟨k,a⟩:=List.mem_iff_getElem?.1 h
 rw [List.getElem?_eraseIdx] at a
 split at a
 ·exact ⟨k,by omega,a⟩
 ·exact ⟨k+1,by omega,a⟩
theorem j3l {α:Type} {l:List α} {i j:Nat} {x:α} (a:l[j]? = some x) (b:j≠i):x∈l.eraseIdx i:=by
 by_cases h:j < i
 ·exact List.mem_iff_getElem?.2 ⟨j,by rw [List.getElem?_eraseIdx,if_pos h];exact a⟩
 ·exact List.mem_iff_getElem?.2 ⟨j - 1,by rw [List.getElem?_eraseIdx,if_neg (by omega),show j - 1+1=j from by omega];exact a⟩
theorem j3e {T:Trc} {i:Nat} (h:GoodP T) (c:vG T i=true):GoodP { T with funs:=T.funs.eraseIdx i }:=by
 cases m:T.funs[i]? with
 | none=>unfold vG at c;rw [m] at c;cases c
 | some f=>
  unfold vG at c;rw [m] at c
  simp only [baQ,List.all_eq_true] at c
  refine q9x ?_ (fun q hq=>?_) (fun q hq=>?_)
  ·have:=y4u T.funs i
   have d:=h.fit
   simp only [FitP,vJ] at d ⊢;omega
  ·obtain ⟨j,_,l⟩:=z3y hq
   exact h.gd q (mgQ l)
  ·obtain ⟨j,o,l⟩:=z3y hq
   refine q9d (z6u h (mgQ l)) (fun y u t s=>?_)
   have d:=c.2 j (List.mem_range.2 (List.getElem?_eq_some_iff.1 l).1)
   rw [l] at d
   simp only [decide_eq_false o,Bool.false_or,Bool.not_eq_true'] at d
   have p:y.x.op≠f.name:=fun J=>by
    rw [<- sH f.name q.body [] []] at d
    have:=List.any_eq_false.1 d y u
    exact this (by unfold kX;rw [decide_eq_true t,decide_eq_true J];rfl)
   obtain ⟨⟨g,n,b⟩,r⟩:=s
   refine ⟨?_,fun g n b=>?_⟩
   ·obtain ⟨k,a⟩:=List.mem_iff_getElem?.1 n
    refine ⟨g,j3l a (fun e=>?_),b⟩
    subst e
    rw [m] at a;cases a
    exact p b.symm
   ·obtain ⟨k,_,a⟩:=z3y n
    exact r g (mgQ a) b
theorem q0i {C:Bs->Nat->Prop}:∀(p:List Int) {e x:TE} {up u:List TE},gdT e->clT C e->yJ up e p=some (u,x)->clT C x/\gdT x
 | [],e,x,up,u,c,h,b=>by rw [yJ] at b;cases b;exact ⟨h,c⟩
 | i::p,e,x,up,u,c,h,b=>by
  rw [yJ] at b
  obtain ⟨z,f,g⟩:=Option.bind_eq_some_iff.1 b
  refine q0i p (q9u c f) ?_ g
  obtain ⟨j,_,k⟩:=tV (uW _ (q9r c)) f
  rcases k with ⟨_,a,d,rfl⟩ | ⟨_,d⟩
  ·exact dC h (mgQ d)
  ·exact hC h (mgQ d)
theorem q4s {T U:Trc} {r:Rw} (h:GoodP T) (a:xV T r=.ok U):GoodP U:=by
 unfold xV at a
 split at a
 ·cases a
 split at a
 ·cases a
 split at a
 ·split at a
  ·cases a
  ·rename_i l
   cases a
   exact j3e h (by cases hq:vG T r.fn.toNat with | true=>rfl | false=>exact absurd (Or.inr (Or.inr hq)) l)
 ·split at a
  ·cases a
  rename_i f e
  split at a
  ·cases a
  rename_i up x d
  split at a
  ·cases a
  split at a
  ·cases a
  rename_i y c
  cases a
  unfold z5y at e
  obtain ⟨q,hq,rfl⟩:=Option.map_eq_some_iff.1 e
  have b:=mgQ hq
  obtain ⟨g,i⟩:=q0i r.path (h.gd q b) (z6u h b) d
  obtain ⟨j,k⟩:=y4f (gd_try i c) r.path (h.gd q b) d (q8e c)
  exact x2g h hq j (y5t (cl_try g c) r.path (z6u h b)) k
theorem sA {T U:Trc} {r:Rw} (h:GoodP T) (a:jW T r=.ok U):GoodP U:=by
 unfold jW at a
 split at a
 ·split at a
  ·cases a
  split at a
  ·cases a
  split at a
  ·cases a
  split at a
  ·cases a
  split at a
  ·rename_i b
   cases a;exact kP b
  ·cases a
 ·exact q4s h a
theorem sY {Φ:Fz}:∀(l:List TPar),Chunks (RTPar Φ) 2 (xX l) l
 | []=>rfl
 | p::l=>⟨[.string p.name,.bool p.mod],xX l,rfl,rfl,rfl,sY l⟩
def parM (ps:List TPar) (zs:List Atom) (m:Atoms):Atoms:=(ps.zip zs).foldl (fun m p=>qJ m p.1.name p.2) m
theorem j4q {ps:List TPar} {zs:List Atom} {m:Atoms} {i:Nat} {p:TPar} {y:Atom} (a:ps[i]? = some p) (b:zs[i]? = some y):parM (ps.drop i) (zs.drop i) m=parM (ps.drop (i+1)) (zs.drop (i+1)) (qJ m p.name y):=by
 rw [yI a,yI b];rfl
theorem x0t {ps:List TPar} {zs:List Atom} {m:Atoms} {i:Nat} (h:¬i < ps.length):parM (ps.drop i) (zs.drop i) m=m:=by rw [qE h];rfl
def OwnL (ol:List (Bs×Bool)) (l:List Bs):Prop:=∀n,(yC ol n).getD false=decide (n∈l)
theorem OwnL.start:OwnL [] ([]:List Bs):=fun _=>rfl
theorem OwnL.next {ol:List (Bs×Bool)} {ks:List TPar} {i:Nat} {p:TPar} (h:OwnL ol ((ks.take i).map TPar.name)) (d:ks[i]? = some p):OwnL (qJ ol p.name true) ((ks.take (i+1)).map TPar.name):=fun n=>by
 rw [jA d,List.map_append,List.map_singleton,xS]
 by_cases a:n=p.name
 ·rw [if_pos a,decide_eq_true (List.mem_append_right _ (by rw [a];exact List.mem_singleton_self _))];rfl
 ·rw [if_neg a,h n]
  congr 1
  exact propext ⟨fun b=>List.mem_append_left _ b,fun b=>(List.mem_append.1 b).resolve_right fun c=>a (List.mem_singleton.1 c)⟩
theorem OwnL.done {ol:List (Bs×Bool)} {ks:List TPar} {i:Nat} (h:OwnL ol ((ks.take i).map TPar.name)) (hi:¬i < ks.length):OwnL ol (ks.map TPar.name):=by rwa [List.take_of_length_le (by omega)] at h
theorem nF (b:TE):0 < zC b:=by cases b;rw [zC];omega
section
variable {own:List Bs} {num:Int} {k:Nat} {b:TE} {m:Atoms} {l:List TE} {R:Option (TE×Atoms×List TE)}
def inlY (num:Int) (l:List TE) (b:TE):TE:=.mk b.kind (dK (num+(l.length:Int))) b.op b.num b.site b.args b.arms []
theorem inl_end (a:R=cW own num k b m l) (d:zC b<=k) (c:b.kind=8):R=some (b,m,l):=by
 obtain ⟨k,rfl⟩:∃j,k=j+1:=⟨k - 1,by have:=nF b;omega⟩
 rw [a,cW,if_pos c]
theorem x0b (c:R=cW own num k b m l) (f:zC b<=k) (a:¬b.kind=8) (d:y6k b.kind=true) (e:¬dK (num+(l.length:Int))∈own):R=cW own num (k - 1) (xT b) (qJ m b.name ⟨dK (num+(l.length:Int)),0⟩) (l++[inlY num l b]):=by
 obtain ⟨k,rfl⟩:∃j,k=j+1:=⟨k - 1,by have:=nF b;omega⟩
 rw [c,cW,if_neg a,if_pos ⟨d,e⟩];rfl
theorem inl_no1 (c:R=cW own num k b m l) (e:zC b<=k) (a:¬b.kind=8) (d:y6k b.kind=false):R=none:=by
 obtain ⟨k,rfl⟩:∃j,k=j+1:=⟨k - 1,by have:=nF b;omega⟩
 rw [c,cW,if_neg a,if_neg (fun h=>by rw [d] at h;cases h.1)]
theorem inl_no2 (c:R=cW own num k b m l) (e:zC b<=k) (a:¬b.kind=8) (d:dK (num+(l.length:Int))∈own):R=none:=by
 obtain ⟨k,rfl⟩:∃j,k=j+1:=⟨k - 1,by have:=nF b;omega⟩
 rw [c,cW,if_neg a,if_neg (fun h=>h.2 d)]
end
theorem j3u {k:Int} (h:y6k k=true):k=1∨k=2∨k=3∨k=6:=of_decide_eq_true h
theorem smT_inl {num:Int} {l:List TE} {b:TE} (h:smT b):smT (inlY num l b):=by
 have a:=(z0x b).1 h
 exact (z0x _).2 ⟨a.1,a.2.1,Nat.zero_le _,a.2.2.2.1,trivial⟩
section
variable {T:Trc} {F g:TFn} {e:TE} {num:Int} {q:Nat} {ks:List TPar} {r:TE×Atoms×List TE} {t:TE}
theorem z8v (h:¬(0<=num/\num<=99999)):FnS.inline ⟨T,F⟩ e num=none:=if_neg h
theorem q1j (hq:gC T e.op=q) (a:T.funs[q]? = some g) (b:nA T F.name=none):FnS.inline ⟨T,F⟩ e num=none:=by
 unfold FnS.inline
 split
 ·simp only [hq,a,Option.bind_some,b,Option.bind_none]
 ·rfl
theorem j3v (h:0<=num/\num<=99999) (hq:gC T e.op=q) (a:T.funs[q]? = some g) (b:nA T F.name=some ks):FnS.inline ⟨T,F⟩ e num=(cW (ks.map TPar.name) num (zC g.body) g.body (cJ g.params e.args) []).bind fun r=>
    (FnS.put ⟨T,F⟩ [(e.name,mM r.2.1 (xD r.1 0))] (xT e)).map fun out=>r.2.2.reverse.foldl (fun out y=>mO (zT r.2.1 y) out) out:=by
 unfold FnS.inline
 rw [if_pos h]
 simp only [hq,a,Option.bind_some,b]
theorem z8u (a:FnS.inline ⟨T,F⟩ e num=(cW (ks.map TPar.name) num (zC g.body) g.body (cJ g.params e.args) []).bind fun r=>
    (FnS.put ⟨T,F⟩ [(e.name,mM r.2.1 (xD r.1 0))] (xT e)).map fun out=>r.2.2.reverse.foldl (fun out y=>mO (zT r.2.1 y) out) out) (hi:cW (ks.map TPar.name) num (zC g.body) g.body (cJ g.params e.args) []=none):FnS.inline ⟨T,F⟩ e num=none:=by rw [a,hi];rfl
theorem aR {b:TE} {m:Atoms} {l:List TE} {a:Atom} {z:TE} {c:Unit} (d:FnS.inline ⟨T,F⟩ e num=(cW (ks.map TPar.name) num (zC g.body) g.body (cJ g.params e.args) []).bind fun r=>
    (FnS.put ⟨T,F⟩ [(e.name,mM r.2.1 (xD r.1 0))] (xT e)).map fun out=>r.2.2.reverse.foldl (fun out y=>mO (zT r.2.1 y) out) out) (hi:cW (ks.map TPar.name) num (zC g.body) g.body (cJ g.params e.args) []=some (b,m,l)) (f:mM m (xD b 0)=a) (i:xT e=z) (h:xL (FnS.put ⟨T,F⟩ [(e.name,a)] z)=.error c):FnS.inline ⟨T,F⟩ e num=none:=by
 rw [d,hi,Option.bind_some];simp only;rw [f,i,yL h];rfl
theorem q6m {b:TE} {m:Atoms} {l:List TE} {a:Atom} {z:TE} (c:FnS.inline ⟨T,F⟩ e num=(cW (ks.map TPar.name) num (zC g.body) g.body (cJ g.params e.args) []).bind fun r=>
    (FnS.put ⟨T,F⟩ [(e.name,mM r.2.1 (xD r.1 0))] (xT e)).map fun out=>r.2.2.reverse.foldl (fun out y=>mO (zT r.2.1 y) out) out) (hi:cW (ks.map TPar.name) num (zC g.body) g.body (cJ g.params e.args) []=some (b,m,l)) (d:mM m (xD b 0)=a) (h:xT e=z) (f:xL (FnS.put ⟨T,F⟩ [(e.name,a)] z)=.ok t):FnS.inline ⟨T,F⟩ e num=some ((vN l l.length).foldl (fun out y=>mO (zT m y.2) out) t):=by
 rw [c,hi,Option.bind_some];simp only;rw [d,h,zR f,Option.map_some,<- cD l,List.foldl_map]
end
theorem j4t {m:Atoms} {a y:Atom} (h:¬a.name=sNo) (b:yC m a.name=some y):mM m a=y:=by unfold mM;rw [if_neg h,b];rfl
theorem x1c {m:Atoms} {a:Atom} (b:jJ (xZ m) a.name=none):mM m a=a:=y4c (y2l b)
theorem lput_nm {m:Atoms} {k n:Bs} (h:∀p∈m,I64 p.2.num):∀p∈qJ m k ⟨n,0⟩,I64 p.2.num:=z9f h (show I64 0 from by unfold I64;omega)
theorem tY {α σ:Type} {f:σ->α->σ}:∀(l:List α) (s:σ),aU (fun s x=>(f s x,true)) (fun _ _=>false) s l=some (l.foldl f s,true)
 | [],_=>rfl
 | _::l,s=>tY l _
theorem j5m {P:Program} {Φ:Fz} {w:World} {α σ β:Type} {n gf f p1 p2:Nat} {E:List (Nat×Value)} {Dd:List Deferred} {a:Act} {g:Operand} {assign body:Code} {Q:Exit->Act->World->Prop} {fs cs:List Value} {fd:Func}
  (RA:Fz->Value->Value->α->Prop) (items:List α) (step:σ->α->σ) (G:Fz->σ->β->Prop) (KV:σ->β->List Res) (s0:σ) (z0:β)
  (r:P.funcs[f]? = some fd) (J:EnvR n E Dd a) (hG:G Φ s0 z0) (N:Mem Φ (KV s0 z0) w) (I:ev E g=some (.func (.func gf) fs.toArray cs.toArray)) (H:∀args w,(callFunc gf args).run P w=.ok (.enter gf args) w) (K:Nat.blt p1 n=true) (t:Nat.blt p2 n=true)
  (d:∀Ψ Ψ' s z,Ψ.Le Ψ'->G Ψ s z->G Ψ' s z)
  (L:∀Ψ s z v1 v2 x l i j K' a w,Φ.Le Ψ->x∈items->RA Ψ v1 v2 x->G Ψ s z->EnvR n ((p2,v2)::(p1,v1)::E) [] a->Mem Ψ (.blk l i::(KV s z++K')) w ->
   assign.wpIn (FO (some l)) 2 P (Exit.then (fun u v=>∃K1,Mem Ψ (.blk l i::K1) v/\∀k,Mem Ψ (.blk l j::K1) k ->
    body.wpIn (FO (some l)) 2 P (fun e _ w=>e=.normal/\∃Ψ' z',Ψ.Le Ψ'/\G Ψ' (step s x) z'/\Mem Ψ' (.blk l j::(KV (step s x) z'++K')) w) u k) (fun _ _ _=>False)) a w)
  (F:q8o P vB Φ gf fs cs RA items)
  (kn:∀Dk Ψ z a w,Φ.Le Ψ->G Ψ (items.foldl step s0) z->EnvR n E ({ target:=.collected Dk,args:=#[] }::Dd) a->Mem Ψ (.blk Dk (.deferred (some []))::KV (items.foldl step s0) z) w->Q .normal a w):wpB P f (Code.rangeFunc g #[p1,p2] assign body) Q a w:=by
 refine oO RA items .ret (fun s x=>(step s x,true)) (fun _ _=>false) (fun Ψ s _ z=>G Ψ s z) (fun s _ z=>KV s z) [] s0 z0 r J hG N I H K t (fun Ψ Ψ' s _ z=>d Ψ Ψ' s z) (fun Ψ s z v1 v2 x l i j K' a w m o p q y A=>?_) F (fun M b Dk Ψ z a w m o p q=>?_) (fun M b=>?_) (fun b=>?_)
 ·refine Code.wpIn_mono (fun e u v h=>?_) (L Ψ s z v1 v2 x l i j K' a w m o p q y A)
  cases e with
  | normal=>
   obtain ⟨K1,B,C⟩:=h
   exact ⟨K1,B,fun k D=>Code.wpIn_mono (fun e a w h=>.inr ⟨rfl,h⟩) (C k D)⟩
  | exit id=>exact h
  | goto l=>exact h
  | ret=>exact h
  | panic c=>exact h
  | outgrown=>exact h
 ·rw [tY] at b;cases b;exact kn Dk Ψ z a w m o p q
 ·rw [tY] at b;cases b
 ·rw [tY] at b;cases b
def RBkV (Ψ:Fz) (v1 v2:Value) (y:Nat×TE):Prop:=v1=.int .i64 y.1/\∃c:List Value,v2=.agg c.toArray/\RTE Ψ c y.2
theorem gd_ok' (e:TE) (h:gdT e):okT e:=uW _ (q9r h)
theorem y2j {T:Trc} {F:TFn} {path:List Int} {up:List TE} {x:TE} (GP:GoodP T) (a:F∈T.funs) (h:yJ [] F.body path=some (up,x)):(⟨path,up,x⟩:Fnd)∈zE [] [] F.body:=by
 have:=dA path (gd_ok' _ (GP.gd F a)) (p:=[]) h
 rwa [List.nil_append] at this
section
variable {T:Trc} {F:TFn} {ru fn nu:Int} {path:List Int} {n:Nat} {up:List TE} {x y:TE}
theorem q8q (h:ru < 1∨7 < ru):jW T ⟨ru,fn,path,nu⟩=.error 150:=by
 rw [vE (show ru≠6 from by omega),xV,if_pos h]
theorem ap_fn (c:¬(ru < 1∨7 < ru)) (a:fn < 0∨(T.funs.length:Int)<=fn):jW T ⟨ru,fn,path,nu⟩=.error 3:=by
 by_cases b:ru=6
 ·unfold jW;rw [if_pos b,if_pos a]
 ·rw [vE b,xV,if_neg c,if_pos a]
theorem uT (a:ru=7) (b:n < T.funs.length) (h:path≠[]∨nu≠0∨vG T n=false):jW T ⟨ru,(n:Int),path,nu⟩=.error 150:=by
 rw [vE (show ru≠6 from by omega),xV,if_neg (show ¬(ru < 1∨7 < ru) from by omega),if_neg (show ¬((n:Int) < 0∨(T.funs.length:Int)<=(n:Int)) from by omega),if_pos a,Int.toNat_natCast,if_pos h]
theorem ap_drop (a:ru=7) (b:n < T.funs.length) (h:¬(path≠[]∨nu≠0∨vG T n=false)):jW T ⟨ru,(n:Int),path,nu⟩=.ok { T with funs:=T.funs.eraseIdx n }:=by
 rw [vE (show ru≠6 from by omega),xV,if_neg (show ¬(ru < 1∨7 < ru) from by omega),if_neg (show ¬((n:Int) < 0∨(T.funs.length:Int)<=(n:Int)) from by omega),if_pos a,Int.toNat_natCast,if_neg h]
theorem q8r (a:T.funs[n]? = some F):z5y T n=some ⟨T,F⟩:=by unfold z5y;rw [a];rfl
theorem y9j (d:¬(ru < 1∨7 < ru)) (e:¬ru=7) (c:T.funs[n]? = some F):jW T ⟨ru,(n:Int),path,nu⟩=match yJ [] F.body path with
   | none=>.error 151
   | some (up,x)=>if nu≠0/\ru≠6 then .error 150 else match FnS.try6 ⟨T,F⟩ ru x up path nu with
    | none=>.error 150
    | some y=>if ru=6/\zL (jO T n (yO F.body path y))=false then .error 150 else .ok (jO T n (yO F.body path y)):=by
 have g:n < T.funs.length:=(List.getElem?_eq_some_iff.1 c).1
 by_cases b:ru=6
 ·subst b
  unfold jW
  rw [if_pos rfl,if_neg (show ¬((n:Int) < 0∨(T.funs.length:Int)<=(n:Int)) from by omega),Int.toNat_natCast,q8r c]
  simp only
  cases yJ [] F.body path with
  | none=>rfl
  | some p=>
   simp only
   rw [if_neg (fun h=>h.2 rfl)]
   cases FnS.try6 ⟨T,F⟩ 6 p.2 p.1 path nu with
   | none=>rfl
   | some y=>
    simp only
    cases f:zL (jO T n (yO F.body path y)) with
    | true=>rw [if_pos rfl,if_neg (by simp)]
    | false=>rw [if_neg (by simp),if_pos (by simp)]
 ·rw [vE b,xV,if_neg d,if_neg (show ¬((n:Int) < 0∨(T.funs.length:Int)<=(n:Int)) from by omega),if_neg e,Int.toNat_natCast,q8r c]
  simp only
  cases yJ [] F.body path with
  | none=>rfl
  | some p=>
   simp only
   by_cases a:nu=0
   ·rw [if_neg (fun h=>h a),if_neg (fun h=>h.1 a),show FnS.try6 ⟨T,F⟩ ru p.2 p.1 path nu=FnS.try5 ⟨T,F⟩ ru p.2 p.1 path from by unfold FnS.try6;rw [if_neg b]]
    cases FnS.try5 ⟨T,F⟩ ru p.2 p.1 path with
    | none=>rfl
    | some y=>simp only;rw [if_neg (fun h=>b h.1)]
   ·rw [if_pos a,if_pos ⟨a,b⟩]
theorem y9k (a:¬(ru < 1∨7 < ru)) (b:¬ru=7) (c:T.funs[n]? = some F) (d:yJ [] F.body path=none):jW T ⟨ru,(n:Int),path,nu⟩=.error 151:=by rw [y9j a b c,d]
theorem ap_num (a:¬(ru < 1∨7 < ru)) (c:¬ru=7) (d:T.funs[n]? = some F) (e:yJ [] F.body path=some (up,x)) (f:¬nu=0) (b:¬ru=6):jW T ⟨ru,(n:Int),path,nu⟩=.error 150:=by rw [y9j a c d,e];simp only;rw [if_pos ⟨f,b⟩]
theorem ap_not (a:¬(ru < 1∨7 < ru)) (b:¬ru=7) (d:T.funs[n]? = some F) (e:yJ [] F.body path=some (up,x)) (f:¬(¬nu=0/\¬ru=6)) {c:Unit} (g:xL (FnS.try6 ⟨T,F⟩ ru x up path nu)=.error c):jW T ⟨ru,(n:Int),path,nu⟩=.error 150:=by rw [y9j a b d,e];simp only;rw [if_neg f,yL g]
theorem ap_bad (a:¬(ru < 1∨7 < ru)) (c:¬ru=7) (d:T.funs[n]? = some F) (e:yJ [] F.body path=some (up,x)) (g:¬(¬nu=0/\¬ru=6)) (h:xL (FnS.try6 ⟨T,F⟩ ru x up path nu)=.ok y) (b:ru=6) (f:zL (jO T n (yO F.body path y))=false):jW T ⟨ru,(n:Int),path,nu⟩=.error 150:=by rw [y9j a c d,e];simp only;rw [if_neg g,zR h];simp only;rw [if_pos ⟨b,f⟩]
theorem y5j (a:¬(ru < 1∨7 < ru)) (b:¬ru=7) (c:T.funs[n]? = some F) (d:yJ [] F.body path=some (up,x)) (f:¬(¬nu=0/\¬ru=6)) (g:xL (FnS.try6 ⟨T,F⟩ ru x up path nu)=.ok y) (e:ru=6->zL (jO T n (yO F.body path y))=true):jW T ⟨ru,(n:Int),path,nu⟩=.ok (jO T n (yO F.body path y)):=by
 rw [y9j a b c,d];simp only;rw [if_neg f,zR g];simp only;rw [if_neg fun h=>by rw [e h.1] at h;cases h.2]
theorem y0i (a:T.funs[n]? = some F) (b:TE):jO T n b={ T with funs:=T.funs.set n { F with body:=b } }:=by unfold jO;rw [a]
end
theorem q4r {T:Trc} {r:Rw} {c:Int} (h:xV T r=.error c):c≠0:=by
 unfold xV at h
 repeat' split at h
 all_goals first | (cases h;decide) | cases h
theorem uV {T:Trc} {r:Rw} {c:Int} (h:jW T r=.error c):c≠0:=by
 unfold jW at h
 split at h
 ·repeat' split at h
  all_goals first | (cases h;decide) | cases h
 ·exact q4r h
theorem z1v {T:Trc} (h:FitP T):T.funs.length<=20000:=by
 have key:∀l:List TFn,l.length<=(l.map fun f=>zC f.body).sum:=by
  intro l
  induction l with
  | nil=>simp
  | cons f l a=>rw [List.map_cons,List.sum_cons,lcQ];have:=nF f.body;omega
 have:=key T.funs
 simp only [FitP,vJ] at h;omega
def zTrc:List Value:=[.slice none 0 0,.slice none 0 0,.slice none 0 0,.slice none 0 0]
structure SmP (T:Trc):Prop where
 cons:T.cons.length<=300
 inputs:T.inputs.length<=6
 outputs:T.outputs.length<=6
 fields:∀c∈T.cons,c.fields.length<=16
 params:∀f∈T.funs,f.params.length<=16
theorem y6h {T:Trc} (h:qL T=true) {f:TFn} (a:f∈T.funs):f.params.length<=16:=by
 obtain ⟨i,hi⟩:=List.mem_iff_getElem?.1 a
 simp only [qL,baQ,List.all_eq_true] at h
 have:=h.1.2 i (List.mem_range.2 (List.getElem?_eq_some_iff.1 hi).1)
 rw [hi] at this
 simp only [baQ,decide_eq_true_eq] at this
 exact this.2
theorem sI {T:Trc} (h:zL T=true):SmP T:=by
 simp only [zL,baQ,decide_eq_true_eq] at h
 obtain ⟨⟨⟨⟨⟨⟨b,d⟩,k⟩,e⟩,l⟩,a⟩,m⟩:=h
 exact ⟨b,d,e,fun c g=>let ⟨i,hi⟩:=List.mem_iff_getElem?.1 g;z1z a hi,fun f j=>y6h a j⟩
theorem y0j {T:Trc} {i:Nat} {b:TE} (h:SmP T):SmP (jO T i b):=by
 unfold jO
 cases c:T.funs[i]? with
 | none=>exact h
 | some f=>
  refine ⟨h.cons,h.inputs,h.outputs,h.fields,fun g a=>?_⟩
  rcases List.mem_or_eq_of_mem_set a with a | rfl
  ·exact h.params g a
  ·exact h.params f (mgQ c)
theorem j1r {T U:Trc} {r:Rw} (h:SmP T) (a:xV T r=.ok U):SmP U:=by
 unfold xV at a
 split at a
 ·cases a
 split at a
 ·cases a
 split at a
 ·split at a
  ·cases a
  ·cases a
   exact ⟨h.cons,h.inputs,h.outputs,h.fields,fun g b=>h.params g (List.mem_of_mem_eraseIdx b)⟩
 split at a
 ·cases a
 split at a
 ·cases a
 split at a
 ·cases a
 split at a
 ·cases a
 ·cases a;exact y0j h
theorem y2n {T U:Trc} {r:Rw} (h:SmP T) (a:jW T r=.ok U):SmP U:=by
 unfold jW at a
 split at a
 ·split at a
  ·cases a
  split at a
  ·cases a
  split at a
  ·cases a
  split at a
  ·cases a
  split at a
  ·cases a;exact y0j h
  ·cases a
 ·exact j1r h a
theorem x1b (a:Atom):mM [] a=a:=by unfold mM;split <;> rfl
theorem y5a (e:TE):zT [] e=e:=by
 refine wV (C:=fun e=>zT [] e=e) (fun e i hb=>?_) e
 have g:∀l:List TA,(∀a∈l,zT [] a.body=a.body)->withTa [] l=l:=by
  intro l
  induction l with
  | nil=>intro _;rfl
  | cons a l f=>
   intro h
   cases a with
   | mk c vs b=>
    rw [withTa,f fun a d=>h a (mcQ _ d)]
    have:=h (.mk c vs b) msQ
    rw [show (TA.mk c vs b).body=b from rfl] at this
    rw [this]
 have d:∀l:List TE,(∀a∈l,zT [] a=a)->withTs [] l=l:=by
  intro l
  induction l with
  | nil=>intro _;rfl
  | cons a l f=>intro h;rw [withTs,f fun a d=>h a (mcQ _ d),h a msQ]
 cases e with
 | mk k nm op num site args arms body=>
  rw [zT,g arms i,d body hb]
  congr 1
  exact (List.map_congr_left fun a _=>x1b a).trans (List.map_id _)
theorem q8p {v:Value} (h:Value.oneCell' v=true):[v].all Value.oneCell'=true:=by rw [List.all_cons,h];rfl
def pD (T:Trc) (r:Rw):Except Int Trc:=if zL T=true then jW T r else .error 120
theorem uU {T:Trc} {r:Rw} (h:zL T=false):pD T r=.error 120:=if_neg (by rw [h];simp)
theorem aY {T:Trc} {r:Rw} (h:zL T=true):pD T r=jW T r:=if_pos h
def atC (T:Trc) (fn:Int) (path:List Int):Except Int TE :=
 if zL T=true then (if fn < 0∨(T.funs.length:Int)<=fn then .error 3 else match T.funs[fn.toNat]? with
  | none=>.error 3
  | some f=>match yJ [] f.body path with | none=>.error 151 | some p=>.ok p.2)
 else .error 120
theorem atC_bad {T:Trc} {fn:Int} {path:List Int} (h:zL T=false):atC T fn path=.error 120:=if_neg (by rw [h];simp)
theorem atC_fn {T:Trc} {fn:Int} {path:List Int} (h:zL T=true) (a:fn < 0∨(T.funs.length:Int)<=fn):atC T fn path=.error 3:=by rw [atC,if_pos h,if_pos a]
theorem atC_at {T:Trc} {n:Nat} {F:TFn} {path:List Int} (h:zL T=true) (a:T.funs[n]? = some F):atC T (n:Int) path=match yJ [] F.body path with | none=>.error 151 | some p=>.ok p.2:=by
 have b:=(List.getElem?_eq_some_iff.1 a).1
 rw [atC,if_pos h,if_neg (by omega),Int.toNat_natCast,a]
theorem j1x {T:Trc} {n:Nat} {F:TFn} {path:List Int} (h:zL T=true) (a:T.funs[n]? = some F) (b:yJ [] F.body path=none):atC T (n:Int) path=.error 151:=by rw [atC_at h a,b]
theorem atC_ok {T:Trc} {n:Nat} {F:TFn} {path:List Int} {p:List TE×TE} (h:zL T=true) (a:T.funs[n]? = some F) (b:yJ [] F.body path=some p):atC T (n:Int) path=.ok p.2:=by rw [atC_at h a,b]
abbrev OptS:=Option (Trc×List Rw)
def cR (T:Trc) (out:List Rw) (_:OptS) (x:Rw):OptS×Bool:=(vA T out [x],false)
theorem y3z {T:Trc} {out:List Rw}:∀l:List Rw,(zK (cR T out) none l).1=vA T out l
 | []=>rfl
 | x::l=>by rw [tZ (show (cR T out none x).2=false from rfl)];rfl
theorem j4l {T:Trc} {out:List Rw}:∀{l:List Rw},(zK (cR T out) none l).2=true->vA T out l=none
 | [],_=>rfl
 | x::l,h=>by rw [tZ (show (cR T out none x).2=false from rfl)] at h;cases h
def curT (T:Trc) (s:OptS):Trc:=(s.map Prod.fst).getD T
def curO (out:List Rw) (s:OptS):List Rw:=(s.map Prod.snd).getD out
theorem j5g {T:Trc} {out:List Rw} {s:OptS} {x:Rw} {c:Int} (a:x.rule≠6) (h:jW T x=.error c):cR T out s x=(none,false):=by
 rw [vE a] at h;simp only [cR,vA,h]
theorem q7r {T U:Trc} {out:List Rw} {s:OptS} {x:Rw} (a:x.rule≠6) (h:jW T x=.ok U) (hl:out.length=500):cR T out s x=(none,false):=by
 rw [vE a] at h;simp only [cR,vA,h,hl,if_true]
theorem x2j {T U:Trc} {out:List Rw} {s:OptS} {x:Rw} (a:x.rule≠6) (h:jW T x=.ok U) (hl:¬out.length=500):cR T out s x=(some (U,out++[x]),false):=by
 rw [vE a] at h;simp only [cR,vA,h,hl,if_false]
def optGd (T:Trc) (out:List Rw) (Ψ:Fz) (s:OptS) (b:Bool) (z:List Value×Value×List Value):Prop:=RTrc Ψ z.1 (curT T s)/\Chunks (RRw Ψ) 4 z.2.2 (curO out s)/\(curO out s).length<=500/\(b=true->s=none)
theorem optGd.mono {T:Trc} {out:List Rw} {Ψ Ψ':Fz} {s:OptS} {b:Bool} {z:List Value×Value×List Value} (h:optGd T out Ψ s b z) (hl:Ψ.Le Ψ'):optGd T out Ψ' s b z:=⟨RTrc.mono _ _ _ _ hl h.1,h.2.1.mono fun _ _ h=>RRw.mono _ _ _ _ hl h,h.2.2⟩
theorem z4a {T U:Trc} {o q:List Rw} {l:List Rw} (h:vA T o l=some (U,q)):∃r∈l,xV T r=.ok U/\q=o++[r]/\o.length≠500:=by
 cases l with
 | nil=>cases h
 | cons r l=>
  rw [vA] at h
  split at h
  ·cases h
  ·rename_i V a
   split at h
   ·cases h
   ·rename_i hl
    cases h;exact ⟨r,msQ,a,rfl,hl⟩
theorem aA {T:Trc} {i:Nat} {r:Rw} (h:r∈qN T i):1<=r.rule/\r.rule<=5:=by
 unfold qN at h
 split at h
 ·obtain ⟨y,_,a⟩:=List.mem_flatMap.1 h
  unfold qV at a
  obtain ⟨q,hq,rfl⟩:=List.mem_map.1 a
  have:=(List.mem_filter.1 hq).1
  simp only [List.mem_cons,List.not_mem_nil,or_false] at this
  simp only
  omega
 ·cases h
theorem oL {T:Trc} {r:Rw} (h:r∈qS T):r.rule≠6:=by
 unfold qS at h
 rcases List.mem_append.1 h with h | h
 ·obtain ⟨i,_,h⟩:=List.mem_flatMap.1 h
  have:=aA h;omega
 ·obtain ⟨i,_,rfl⟩:=List.mem_map.1 h
  exact (by decide:(7:Int)≠6)
theorem q3p (T:Trc) (i:Nat) (b:TE):(jO T i b).funs.length=T.funs.length:=by
 unfold jO;split
 ·simp only [List.length_set]
 ·rfl
theorem j1s {T U:Trc} {r:Rw} (d:r.rule≠7) (h:xV T r=.ok U):U.funs.length=T.funs.length:=by
 rw [xV] at h
 by_cases a:r.rule < 1∨7 < r.rule
 ·rw [if_pos a] at h;cases h
 rw [if_neg a] at h
 by_cases b:r.fn < 0∨(T.funs.length:Int)<=r.fn
 ·rw [if_pos b] at h;cases h
 rw [if_neg b,if_neg d] at h
 split at h
 ·cases h
 split at h
 ·cases h
 by_cases c:r.num≠0
 ·rw [if_pos c] at h;cases h
 rw [if_neg c] at h
 split at h
 ·cases h
 ·cases h;exact q3p _ _ _
theorem z3z {T U:Trc} {o q:List Rw} {l:List Rw} (b:∀r∈l,r.rule≠6) (h:vA T o l=some (U,q)) (GP:GoodP T) (S:SmP T):GoodP U/\SmP U/\q.length=o.length+1:=by
 obtain ⟨r,d,c,rfl,_⟩:=z4a h
 have a:jW T r=.ok U:=by rw [vE (b r d)];exact c
 exact ⟨sA GP a,y2n S a,by rw [laQ,List.length_singleton]⟩
theorem x0n {T U:Trc} {o q:List Rw} {i:Nat} (h:vA T o (qN T i)=some (U,q)):U.funs.length=T.funs.length:=by
 obtain ⟨r,b,a,_⟩:=z4a h
 have:=aA b
 exact j1s (by omega) a
theorem x0i {k:Nat} {T U:Trc} {o q:List Rw} {i:Nat} {R:Trc×List Rw} (a:R=nV k T o i) (b:0 < k) (h:vA T o (qN T i)=some (U,q)):R=nV (k - 1) U q i:=by
 obtain ⟨k,rfl⟩:∃j,k=j+1:=⟨k - 1,by omega⟩
 rw [a,nV,h];rfl
theorem loop_no {k:Nat} {T:Trc} {o:List Rw} {i:Nat} {R:Trc×List Rw} (a:R=nV k T o i) (b:0 < k) (h:vA T o (qN T i)=none):R=(T,o):=by
 obtain ⟨k,rfl⟩:∃j,k=j+1:=⟨k - 1,by omega⟩
 rw [a,nV,h]
def z0u (n i:Nat) (T:Trc) (o:List Rw):Trc×List Rw:=((List.range n).drop i).foldl (fun s i=>nV 501 s.1 s.2 i) (T,o)
theorem x1n (n:Nat) (T:Trc) (o:List Rw):z4h n T o=z0u n 0 T o:=rfl
theorem q7h {n i:Nat} {T U:Trc} {o q:List Rw} {R:Trc×List Rw} (a:R=z0u n i T o) (hi:i < n) (h:nV 501 T o i=(U,q)):R=z0u n (i+1) U q:=by
 rw [a,z0u,nW hi,List.foldl_cons,h];rfl
theorem y4j {n i:Nat} {T:Trc} {o:List Rw} {R:Trc×List Rw} (a:R=z0u n i T o) (hi:¬i < n):R=(T,o):=by
 rw [a,z0u,tA hi];rfl
theorem x0q {g:Nat} {T U V:Trc} {o p q:List Rw} {R:Trc×List Rw} (a:R=z6a g T o) (c:0 < g) (b:z4h T.funs.length T o=(U,p)) (h:vA U p (qS U)=some (V,q)):R=z6a (g - 1) V q:=by
 obtain ⟨g,rfl⟩:∃j,g=j+1:=⟨g - 1,by omega⟩
 rw [a,z6a,b];simp only [h];rfl
theorem opt_end {g:Nat} {T U:Trc} {o p:List Rw} {R:Trc×List Rw} (a:R=z6a g T o) (c:0 < g) (b:z4h T.funs.length T o=(U,p)) (h:vA U p (qS U)=none):R=(U,p):=by
 obtain ⟨g,rfl⟩:∃j,g=j+1:=⟨g - 1,by omega⟩
 rw [a,z6a,b];simp only [h]
def pk (toks:List Tok) (en n:Nat):Tok:=(toks[n]?).getD ⟨0,0,sNo,en⟩
theorem pk_at {toks:List Tok} {en n:Nat} {t:Tok} (h:toks[n]? = some t):pk toks en n=t:=by rw [pk,h];rfl
theorem pk_end {toks:List Tok} {en n:Nat} (h:¬n < toks.length):pk toks en n=⟨0,0,sNo,en⟩:=by rw [pk,List.getElem?_eq_none (by omega)];rfl
theorem uQ {toks:List Tok} {en n:Nat} (h:(pk toks en n).kind≠0):n < toks.length:=by
 apply Nat.lt_of_not_le;intro a
 exact h (by rw [pk_end (by omega)])
theorem q7b {toks:List Tok} {en n:Nat} (a:∀t∈toks,I64 t.num):I64 (pk toks en n).num:=by
 cases h:toks[n]? with
 | none=>rw [pk,h];show I64 0;unfold I64;omega
 | some t=>rw [pk_at h];exact a t (mgQ h)
def isW (t:Tok) (s:Bs):Bool:=decide ((t.kind=5∨t.kind=6)/\t.text=s)
theorem isW_lt {toks:List Tok} {en n:Nat} {s:Bs} (h:isW (pk toks en n) s=true):n < toks.length:=uQ (by
 unfold isW at h
 have b:=of_decide_eq_true h
 rcases b.1 with a | a <;> rw [a] <;> decide)
section
variable (toks:List Tok) (en:Nat)
def nN (n:Nat):Option Atom:=if (pk toks en n).kind=1 then some ⟨sNo,(pk toks en n).num⟩ else if (pk toks en n).kind=2 then some ⟨(pk toks en n).text,0⟩ else none
def sQ {σ:Type} (el:Nat->σ->Option (Nat×σ)):Nat->Nat->σ->Option (Nat×σ)
 | 0,_,_=>none
 | k+1,n,s=>if isW (pk toks en n) ⟨#[41]⟩ then some (n+1,s) else if isW (pk toks en n) ⟨#[44]⟩ then (match el (n+1) s with | some p=>sQ el k p.1 p.2 | none=>none) else none
def gK {σ:Type} (el:Nat->σ->Option (Nat×σ)) (k n:Nat) (s:σ):Option (Nat×σ) :=
 if isW (pk toks en n) ⟨#[40]⟩ then (if isW (pk toks en (n+1)) ⟨#[41]⟩ then some (n+2,s) else match el (n+1) s with | some p=>sQ toks en el k p.1 p.2 | none=>none) else none
def z7m (n:Nat) (l:List Atom):Option (Nat×List Atom):=if l.length<=1000 then (match nN toks en n with | some a=>some (n+1,l++[a]) | none=>none) else none
def uX (k n:Nat):Option (Nat×List Atom):=gK toks en (z7m toks en) k n []
def mE (k n:Nat):Option (Nat×TE) :=
 if isW (pk toks en n) ⟨#[105,110,112,117,116]⟩ then none
 else if (pk toks en n).kind=3 then (match uX toks en k (n+1) with | some p=>some (p.1,.mk 2 sNo (pk toks en n).text 0 0 p.2 [] []) | none=>none)
 else match nN toks en n with
  | none=>none
  | some a=>
   if a.name=⟨#[109,111,100]⟩/\(pk toks en (n+1)).kind=1 then
    (if (pk toks en (n+2)).kind=2 then (match uX toks en k (n+3) with | some p=>some (p.1,.mk 4 sNo (pk toks en (n+2)).text 0 (pk toks en (n+1)).num p.2 [] []) | none=>none) else none)
   else if a.name=⟨#[114,101,97,100]⟩/\(pk toks en (n+1)).kind=1 then
    (if (pk toks en (n+2)).kind=2 then some (n+3,.mk 5 sNo sNo 0 (pk toks en (n+1)).num [⟨(pk toks en (n+2)).text,0⟩] [] []) else none)
   else if a.name≠sNo/\isW (pk toks en (n+1)) ⟨#[40]⟩=true then none
   else if (pk toks en (n+1)).kind=6/\gF (pk toks en (n+1)).text=true then (match nN toks en (n+2) with | some b=>some (n+3,.mk 1 sNo (pk toks en (n+1)).text 0 0 [a,b] [] []) | none=>none)
   else none
def aG:Nat->Nat->List Bs->Option (Nat×List Bs)
 | 0,_,_=>none
 | k+1,n,l=>if l.length<=1000/\(pk toks en n).kind=2 then aG k (n+1) (l++[(pk toks en n).text]) else if (pk toks en n).kind=2 then none else some (n,l)
mutual
def pF:Nat->Nat->Option (Nat×TE)
 | 0,_=>none
 | k+1,n=>
  if isW (pk toks en n) ⟨#[108,101,116]⟩ then
   (if (pk toks en (n+1)).kind=2/\isW (pk toks en (n+2)) ⟨#[61]⟩=true then (match mE toks en k (n+3) with
    | some p=>if isW (pk toks en p.1) ⟨#[105,110]⟩ then (match pF k (p.1+1) with | some q=>some (q.1,.mk p.2.kind (pk toks en (n+1)).text p.2.op p.2.num p.2.site p.2.args [] [q.2]) | none=>none) else none
    | none=>none) else none)
  else if isW (pk toks en n) ⟨#[99,97,115,101]⟩ then
   (if (pk toks en (n+1)).kind=2/\isW (pk toks en (n+2)) ⟨#[111,102]⟩=true then (match armsR k (n+3) [] with
    | some p=>if isW (pk toks en p.1) ⟨#[101,110,100]⟩ then some (p.1+1,.mk 7 sNo sNo 0 0 [⟨(pk toks en (n+1)).text,0⟩] p.2 []) else none
    | none=>none) else none)
  else if isW (pk toks en n) ⟨#[61]⟩ then none
  else if isW (pk toks en n) ⟨#[58]⟩ then (match nN toks en (n+1) with | some a=>some (n+2,.mk 9 sNo sNo 0 0 [a] [] []) | none=>none)
  else none
def armsR:Nat->Nat->List TA->Option (Nat×List TA)
 | 0,_,_=>none
 | k+1,n,l=>
  if l.length<=1000/\(pk toks en n).kind=3 then (match aG toks en k (n+1) [] with
   | some p=>if isW (pk toks en p.1) ⟨#[61,62]⟩ then (match pF k (p.1+1) with
    | some q=>if isW (pk toks en q.1) ⟨#[124]⟩ then armsR k (q.1+1) (l++[.mk (pk toks en n).text p.2 q.2]) else some (q.1,l++[.mk (pk toks en n).text p.2 q.2])
    | none=>none) else none
   | none=>none)
  else none
end
def tS (n:Nat) (l:List Bool):Option (Nat×List Bool):=if 1000 < l.length then none else if isW (pk toks en n) ⟨#[42]⟩ then some (n+1,l++[true]) else if isW (pk toks en n) ⟨#[95]⟩ then some (n+1,l++[false]) else none
def y4b (n:Nat) (l:List TPar):Option (Nat×List TPar) :=
 if 1000 < l.length then none else if isW (pk toks en n) ⟨#[42]⟩ then (if (pk toks en (n+1)).kind=2 then some (n+2,l++[⟨(pk toks en (n+1)).text,true⟩]) else none)
 else if (pk toks en n).kind=2 then some (n+1,l++[⟨(pk toks en n).text,false⟩]) else none
def cF:Nat->Nat->List TCon->Option (Nat×List TCon)
 | 0,_,_=>none
 | k+1,n,l=>
  if isW (pk toks en n) ⟨#[100,97,116,97]⟩ then
   (if l.length<=1000/\(pk toks en (n+1)).kind=3/\isW (pk toks en (n+2)) ⟨#[58]⟩=true/\(pk toks en (n+3)).kind=3 then (match gK toks en (tS toks en) k (n+4) [] with
    | some p=>if isW (pk toks en p.1) ⟨#[59]⟩ then cF k (p.1+1) (l++[⟨(pk toks en (n+1)).text,(pk toks en (n+3)).text,p.2⟩]) else none
    | none=>none) else none)
  else some (n,l)
def sM:Nat->Nat->List TFn->Option (Nat×List TFn)
 | 0,_,_=>none
 | k+1,n,l=>
  if isW (pk toks en n) ⟨#[102,117,110]⟩ then
   (if l.length<=1000/\(pk toks en (n+1)).kind=2 then (match gK toks en (y4b toks en) k (n+2) [] with
    | some p=>if isW (pk toks en p.1) ⟨#[61,62]⟩ then (match pF toks en k (p.1+1) with
     | some q=>if isW (pk toks en q.1) ⟨#[59]⟩ then sM k (q.1+1) (l++[⟨(pk toks en (n+1)).text,true,p.2,q.2⟩]) else none
     | none=>none) else none
    | none=>none) else none)
  else if isW (pk toks en n) ⟨#[102,110]⟩ then none else some (n,l)
def sX:Nat->Nat->List Bs->Option (Nat×List Bs)
 | 0,_,_=>none
 | k+1,n,l=>
  if isW (pk toks en n) ⟨#[111,117,116,112,117,116]⟩ then (if l.length<=1000/\(pk toks en (n+1)).kind=2/\isW (pk toks en (n+2)) ⟨#[59]⟩=true then sX k (n+3) (l++[(pk toks en (n+1)).text]) else none)
  else some (n,l)
def mL (k:Nat):Option Trc:=match cF toks en k 0 [] with
 | some p=>if isW (pk toks en p.1) ⟨#[105,110,112,117,116]⟩ then none else (match sM toks en k p.1 [] with
  | some q=>(match sX toks en k q.1 [] with
   | some r=>if r.1 < toks.length then none else some ⟨p.2,[],q.2,r.2⟩
   | none=>none)
  | none=>none)
 | none=>none
end
section
variable {toks:List Tok} {en:Nat}
theorem tN {n:Nat} {a:Atom} (h:nN toks en n=some a):((pk toks en n).kind=1/\a=⟨sNo,(pk toks en n).num⟩)∨(¬(pk toks en n).kind=1/\(pk toks en n).kind=2/\a=⟨(pk toks en n).text,0⟩):=by
 unfold nN at h
 by_cases b:(pk toks en n).kind=1
 ·rw [if_pos b] at h;cases h;exact .inl ⟨b,rfl⟩
 ·rw [if_neg b] at h
  by_cases c:(pk toks en n).kind=2
  ·rw [if_pos c] at h;cases h;exact .inr ⟨b,c,rfl⟩
  ·rw [if_neg c] at h;cases h
theorem zM {n:Nat} {a:Atom} (b:∀t∈toks,I64 t.num) (h:nN toks en n=some a):I64 a.num:=by
 rcases tN h with ⟨_,rfl⟩ | ⟨_,_,rfl⟩
 ·exact q7b b
 ·show I64 0;unfold I64;omega
theorem z7n {n n':Nat} {l l':List Atom} (h:z7m toks en n l=some (n',l')):l.length<=1000/\∃a,nN toks en n=some a/\n'=n+1/\l'=l++[a]:=by
 unfold z7m at h
 split at h
 ·rename_i b
  split at h
  ·rename_i a c;cases h;exact ⟨b,a,c,rfl,rfl⟩
  ·cases h
 ·cases h
theorem z0n {σ:Type} {el:Nat->σ->Option (Nat×σ)} {k n n':Nat} {s s':σ} (h:gK toks en el k n s=some (n',s')):isW (pk toks en n) ⟨#[40]⟩=true:=by
 unfold gK at h
 split at h
 ·assumption
 ·cases h
theorem y3q {σ:Type} {el:Nat->σ->Option (Nat×σ)} {k n n':Nat} {s s':σ} (h:gK toks en el k n s=some (n',s')) (a:isW (pk toks en (n+1)) ⟨#[41]⟩=true):n'=n+2/\s'=s:=by
 unfold gK at h
 rw [if_pos (z0n h),if_pos a] at h;cases h;exact ⟨rfl,rfl⟩
theorem z5c {σ:Type} {el:Nat->σ->Option (Nat×σ)} {k n n':Nat} {s s':σ} (h:gK toks en el k n s=some (n',s')) (a:isW (pk toks en (n+1)) ⟨#[41]⟩=false):∃m t,el (n+1) s=some (m,t)/\sQ toks en el k m t=some (n',s'):=by
 unfold gK at h
 rw [if_pos (z0n h),if_neg (by rw [a];simp)] at h
 split at h
 ·rename_i p b;exact ⟨p.1,p.2,b,h⟩
 ·cases h
theorem j4e {σ:Type} {el:Nat->σ->Option (Nat×σ)} {k n n':Nat} {s s':σ} (h:sQ toks en el k n s=some (n',s')):0 < k:=by
 cases k with
 | zero=>cases h
 | succ k=>omega
theorem y3p {σ:Type} {el:Nat->σ->Option (Nat×σ)} {k n n':Nat} {s s':σ} (h:sQ toks en el k n s=some (n',s')) (a:isW (pk toks en n) ⟨#[41]⟩=true):n'=n+1/\s'=s:=by
 cases k with
 | zero=>cases h
 | succ k=>rw [sQ,if_pos a] at h;cases h;exact ⟨rfl,rfl⟩
theorem z9d {σ:Type} {el:Nat->σ->Option (Nat×σ)} {k n n':Nat} {s s':σ} (h:sQ toks en el k n s=some (n',s')) (a:isW (pk toks en n) ⟨#[41]⟩=false):isW (pk toks en n) ⟨#[44]⟩=true/\∃m t,el (n+1) s=some (m,t)/\sQ toks en el (k - 1) m t=some (n',s'):=by
 cases k with
 | zero=>cases h
 | succ k=>
  rw [sQ,if_neg (by rw [a];simp)] at h
  split at h
  ·rename_i b
   split at h
   ·rename_i p c;exact ⟨b,p.1,p.2,c,h⟩
   ·cases h
  ·cases h
section
variable {k n n':Nat} {y:TE}
theorem z1l (h:mE toks en k n=some (n',y)):isW (pk toks en n) ⟨#[105,110,112,117,116]⟩=false:=by
 cases a:isW (pk toks en n) ⟨#[105,110,112,117,116]⟩ with
 | false=>rfl
 | true=>unfold mE at h;rw [if_pos a] at h;cases h
theorem j2n (h:mE toks en k n=some (n',y)) (a:(pk toks en n).kind=3):∃l,uX toks en k (n+1)=some (n',l)/\y=.mk 2 sNo (pk toks en n).text 0 0 l [] []:=by
 have c:=z1l h
 unfold mE at h
 rw [if_neg (by rw [c];simp),if_pos a] at h
 split at h
 ·rename_i p b;cases h;exact ⟨_,b,rfl⟩
 ·cases h
theorem q5e (h:mE toks en k n=some (n',y)) (b:¬(pk toks en n).kind=3):∃a,nN toks en n=some a:=by
 have d:=z1l h
 unfold mE at h
 rw [if_neg (by rw [d];simp),if_neg b] at h
 split at h
 ·cases h
 ·rename_i a c;exact ⟨a,c⟩
theorem z0b {a:Atom} (h:mE toks en k n=some (n',y)) (c:¬(pk toks en n).kind=3) (d:nN toks en n=some a):(if a.name=⟨#[109,111,100]⟩/\(pk toks en (n+1)).kind=1 then
    (if (pk toks en (n+2)).kind=2 then (match uX toks en k (n+3) with | some p=>some (p.1,TE.mk 4 sNo (pk toks en (n+2)).text 0 (pk toks en (n+1)).num p.2 [] []) | none=>none) else none)
   else if a.name=⟨#[114,101,97,100]⟩/\(pk toks en (n+1)).kind=1 then
    (if (pk toks en (n+2)).kind=2 then some (n+3,TE.mk 5 sNo sNo 0 (pk toks en (n+1)).num [⟨(pk toks en (n+2)).text,0⟩] [] []) else none)
   else if a.name≠sNo/\isW (pk toks en (n+1)) ⟨#[40]⟩=true then none
   else if (pk toks en (n+1)).kind=6/\gF (pk toks en (n+1)).text=true then (match nN toks en (n+2) with | some b=>some (n+3,TE.mk 1 sNo (pk toks en (n+1)).text 0 0 [a,b] [] []) | none=>none)
   else none)=some (n',y):=by
 have e:=z1l h
 unfold mE at h
 rw [if_neg (by rw [e];simp),if_neg c,d] at h
 exact h
theorem j2o {a:Atom} (h:mE toks en k n=some (n',y)) (d:¬(pk toks en n).kind=3) (f:nN toks en n=some a) (b:a.name=⟨#[109,111,100]⟩) (c:(pk toks en (n+1)).kind=1) :
  (pk toks en (n+2)).kind=2/\∃l,uX toks en k (n+3)=some (n',l)/\y=.mk 4 sNo (pk toks en (n+2)).text 0 (pk toks en (n+1)).num l [] []:=by
 have h:=z0b h d f
 rw [if_pos ⟨b,c⟩] at h
 split at h
 ·rename_i e
  split at h
  ·rename_i p g;cases h;exact ⟨e,_,g,rfl⟩
  ·cases h
 ·cases h
theorem q5f {a:Atom} (h:mE toks en k n=some (n',y)) (e:¬(pk toks en n).kind=3) (g:nN toks en n=some a) (b:¬(a.name=⟨#[109,111,100]⟩/\(pk toks en (n+1)).kind=1)) (c:a.name=⟨#[114,101,97,100]⟩) (d:(pk toks en (n+1)).kind=1) :
  (pk toks en (n+2)).kind=2/\n'=n+3/\y=.mk 5 sNo sNo 0 (pk toks en (n+1)).num [⟨(pk toks en (n+2)).text,0⟩] [] []:=by
 have h:=z0b h e g
 rw [if_neg b,if_pos ⟨c,d⟩] at h
 split at h
 ·rename_i f;cases h;exact ⟨f,rfl,rfl⟩
 ·cases h
theorem z1m {a:Atom} (h:mE toks en k n=some (n',y)) (f:¬(pk toks en n).kind=3) (i:nN toks en n=some a) (d:¬(a.name=⟨#[109,111,100]⟩/\(pk toks en (n+1)).kind=1)) (e:¬(a.name=⟨#[114,101,97,100]⟩/\(pk toks en (n+1)).kind=1)) :
  ¬(a.name≠sNo/\isW (pk toks en (n+1)) ⟨#[40]⟩=true)/\(pk toks en (n+1)).kind=6/\gF (pk toks en (n+1)).text=true/\∃b,nN toks en (n+2)=some b/\n'=n+3/\y=.mk 1 sNo (pk toks en (n+1)).text 0 0 [a,b] [] []:=by
 have h:=z0b h f i
 rw [if_neg d,if_neg e] at h
 split at h
 ·cases h
 ·rename_i g
  split at h
  ·rename_i c
   split at h
   ·rename_i b hb;cases h;exact ⟨g,c.1,c.2,b,hb,rfl,rfl⟩
   ·cases h
  ·cases h
end
end
def z7k (l:List Atom):List Value:=l.flatMap fun a=>[.string a.name,.int .i64 a.num]
theorem j1y (l:List Atom) (a:Atom):z7k (l++[a])=z7k l++[.string a.name,.int .i64 a.num]:=by simp [z7k]
theorem j6k (l:List Atom):(z7k l).length=2 * l.length:=by
 induction l with
 | nil=>rfl
 | cons p l a=>simp only [z7k,List.flatMap_cons,laQ,lcQ,lnQ] at a ⊢;omega
theorem sB {Φ:Fz}:∀{l:List Atom},(∀a∈l,I64 a.num)->Chunks (RAtom Φ) 2 (z7k l) l
 | [],_=>rfl
 | a::l,h=>⟨[.string a.name,.int .i64 a.num],z7k l,rfl,rfl,⟨rfl,h a msQ⟩,sB fun b hb=>h b (mcQ _ hb)⟩
theorem z9c {toks:List Tok} {en:Nat} {σ:Type} {el:Nat->σ->Option (Nat×σ)} {Q:σ->Prop} (a:∀n s m t,el n s=some (m,t)->Q s->Q t):∀{k n n':Nat} {s s':σ},sQ toks en el k n s=some (n',s')->Q s->Q s'
 | 0,_,_,_,_,h,_=>by cases h
 | k+1,n,n',s,s',h,hq=>by
  cases b:isW (pk toks en n) ⟨#[41]⟩ with
  | true=>obtain ⟨_,rfl⟩:=y3p h b;exact hq
  | false=>
   obtain ⟨_,m,t,c,d⟩:=z9d h b
   exact z9c a (k:=k) d (a _ _ _ _ c hq)
theorem q6s {toks:List Tok} {en:Nat} {σ:Type} {el:Nat->σ->Option (Nat×σ)} {Q:σ->Prop} (a:∀n s m t,el n s=some (m,t)->Q s->Q t) {k n n':Nat} {s s':σ} (h:gK toks en el k n s=some (n',s')) (hq:Q s):Q s':=by
 cases b:isW (pk toks en (n+1)) ⟨#[41]⟩ with
 | true=>obtain ⟨_,rfl⟩:=y3q h b;exact hq
 | false=>obtain ⟨m,t,c,d⟩:=z5c h b;exact z9c a d (a _ _ _ _ c hq)
theorem z7p {toks:List Tok} {en k n n':Nat} {l:List Atom} (c:∀t∈toks,I64 t.num) (h:uX toks en k n=some (n',l)):∀a∈l,I64 a.num :=
 q6s (Q:=fun l=>∀a∈l,I64 a.num) (fun n s m t h hq=>by
  obtain ⟨_,a,d,_,rfl⟩:=z7n h
  intro b hb
  rcases List.mem_append.1 hb with hb | hb
  ·exact hq b hb
  ·cases List.mem_singleton.1 hb;exact zM c d) h (fun _ h=>by cases h)
section
variable {P:Program} {n:Nat} {E:List (Nat×Value)} {D:List Deferred} {a:Act} {Φ:Fz} {K:List Res} {w:World}
variable {dst:Option Tmp} {ty:TypeId} {pos:String} {aft:Array Edge} {g:Option (Nat×Bool)} {Kn:Value->World->Prop} {Qp:List PanicEntry->World->Prop}
theorem z8h {t e:TypeId} {bytes sz:Nat} {l c:Operand} {z:Value} {cs:List Value} (j:RowT P t e sz bytes) (C:ZeroT P e z) (m:z.cells=cs.toArray) (o:cs.length=sz) (p:¬sz=0) (J:EnvR n E D a) (N:Mem Φ K w)
  (hl:ev E l=some (.int .i64 1)) (A:ev E c=some (.int .i64 1)) (hb:bytes<=140737488355328)
  (k:∀b w',Mem Φ (.blk b (ob cs e)::K) w'->Kn (.slice (some ⟨b,0,none⟩) 1 1) w'):Oper.eff P ⟨dst,.makeSlice t l c,ty,pos,aft,g⟩ a w Kn Qp:=by
 obtain ⟨inf,z',hi,hz',q,d,F⟩:=j.info
 have y:=j.bpos
 have B:IntKind.i64.wrap 1=1:=by decide
 unfold Oper.eff
 have:(execOp a.eval ⟨dst,.makeSlice t l c,ty,pos,aft,g⟩).run P w=.ok (.value (.slice (some ⟨w.heap.size,0,none⟩) 1 1)) { w with heap:=w.heap.push (ob cs e) }:=by
  simp only [execOp,J.ev hl,J.ev A]
  have u:(asIntOf (Value.int IntKind.i64 1)).run P w=.ok (.i64,1) w:=by simp [asIntOf,Sem.run]
  have f:¬(281474976710656 < (inf.bytes:Int)):=by rw [d];omega
  have s:¬(roomBytes < inf.bytes):=by rw [d];simp only [roomBytes];omega
  have v:(sizeOf e).run P w=.ok sz w:=by simp [sizeOf,typeInfo,hi,Sem.run_bind,q]
  have h:Array.map (fun x=>(cs.toArray:Array Value)[x % (cs.toArray:Array Value).size]!) (Array.range sz)=cs.toArray:=by
   apply Array.ext
   ·simp [o]
   ·intro i G f
    have r:i < cs.length:=by simpa using f
    simp [Nat.mod_eq_of_lt r]
    rw [List.getElem?_eq_getElem r];rfl
  simp [Instr.makeSlice,Sem.run_bind,run_underlying j.under,typeInfo,hi,asInt,u,B,f,askRoom,s,v,Result.andThen]
  simp only [C w,m,h]
  simp [newRow,ob,p]
 rw [this]
 exact k _ _ (N.push _)
end
section
variable {toks:List Tok} {en:Nat}
theorem y2s {k n:Nat} {r:Nat×TE} (h:pF toks en k n=some r):0 < k:=by
 cases k with
 | zero=>rw [pF] at h;cases h
 | succ k=>omega
theorem j6s {k n n':Nat} {e:TE} (h:pF toks en k n=some (n',e)) (f:isW (pk toks en n) ⟨#[108,101,116]⟩=true) :
  (pk toks en (n+1)).kind=2/\isW (pk toks en (n+2)) ⟨#[61]⟩=true/\∃m y,mE toks en (k - 1) (n+3)=some (m,y)/\isW (pk toks en m) ⟨#[105,110]⟩=true/\∃b,pF toks en (k - 1) (m+1)=some (n',b)/\e=.mk y.kind (pk toks en (n+1)).text y.op y.num y.site y.args [] [b]:=by
 cases k with
 | zero=>rw [pF] at h;cases h
 | succ k=>
  rw [pF,if_pos f] at h
  split at h
  ·rename_i a
   split at h
   ·rename_i p d
    split at h
    ·rename_i c
     split at h
     ·rename_i q hq;cases h;exact ⟨a.1,a.2,_,_,d,c,_,hq,rfl⟩
     ·cases h
    ·cases h
   ·cases h
  ·cases h
theorem j2j {k n n':Nat} {e:TE} (h:pF toks en k n=some (n',e)) (b:isW (pk toks en n) ⟨#[108,101,116]⟩=false) (f:isW (pk toks en n) ⟨#[99,97,115,101]⟩=true) :
  (pk toks en (n+1)).kind=2/\isW (pk toks en (n+2)) ⟨#[111,102]⟩=true/\∃m l,armsR toks en (k - 1) (n+3) []=some (m,l)/\isW (pk toks en m) ⟨#[101,110,100]⟩=true/\n'=m+1/\e=.mk 7 sNo sNo 0 0 [⟨(pk toks en (n+1)).text,0⟩] l []:=by
 cases k with
 | zero=>rw [pF] at h;cases h
 | succ k=>
  rw [pF,if_neg (by rw [b];simp),if_pos f] at h
  split at h
  ·rename_i a
   split at h
   ·rename_i p d
    split at h
    ·rename_i c;cases h;exact ⟨a.1,a.2,_,_,d,c,rfl,rfl⟩
    ·cases h
   ·cases h
  ·cases h
theorem j2i {k n n':Nat} {e:TE} (h:pF toks en k n=some (n',e)) (c:isW (pk toks en n) ⟨#[108,101,116]⟩=false) (d:isW (pk toks en n) ⟨#[99,97,115,101]⟩=false) :
  isW (pk toks en n) ⟨#[61]⟩=false/\isW (pk toks en n) ⟨#[58]⟩=true/\∃a,nN toks en (n+1)=some a/\n'=n+2/\e=.mk 9 sNo sNo 0 0 [a] [] []:=by
 cases k with
 | zero=>rw [pF] at h;cases h
 | succ k=>
  rw [pF,if_neg (by rw [c];simp),if_neg (by rw [d];simp)] at h
  cases b:isW (pk toks en n) ⟨#[61]⟩ with
  | true=>rw [if_pos b] at h;cases h
  | false=>
   rw [if_neg (by rw [b];simp)] at h
   split at h
   ·rename_i f
    split at h
    ·rename_i a g;cases h;exact ⟨rfl,f,a,g,rfl,rfl⟩
    ·cases h
   ·cases h
def z7j (toks:List Tok) (en k n:Nat) (l:List TA):Option (Nat×List TA):=match l with
 | []=>armsR toks en k n []
 | a::l=>if isW (pk toks en n) ⟨#[124]⟩ then armsR toks en k (n+1) (a::l) else some (n,a::l)
theorem j1t {k n n':Nat} {l r:List TA} (h:z7j toks en k n l=some (n',r)) (hl:¬l.length=0) (b:isW (pk toks en n) ⟨#[124]⟩=true):armsR toks en k (n+1) l=some (n',r):=by
 cases l with
 | nil=>exact absurd rfl hl
 | cons a l=>rw [z7j,if_pos b] at h;exact h
theorem j1u {k n n':Nat} {l r:List TA} (h:z7j toks en k n l=some (n',r)) (hl:¬l.length=0) (b:isW (pk toks en n) ⟨#[124]⟩=false):n'=n/\r=l:=by
 cases l with
 | nil=>exact absurd rfl hl
 | cons a l=>rw [z7j,if_neg (by rw [b];simp)] at h;cases h;exact ⟨rfl,rfl⟩
theorem j1v {k n n':Nat} {l r:List TA} (h:z7j toks en k n l=some (n',r)) (hl:l.length=0):armsR toks en k n l=some (n',r):=by
 cases l with
 | nil=>exact h
 | cons a l=>cases hl
theorem y9q {k n n':Nat} {l r:List TA} (h:armsR toks en k n l=some (n',r)):0 < k/\l.length<=1000/\(pk toks en n).kind=3/\∃m vs,aG toks en (k - 1) (n+1) []=some (m,vs)/\isW (pk toks en m) ⟨#[61,62]⟩=true/\∃q b,pF toks en (k - 1) (m+1)=some (q,b)/\z7j toks en (k - 1) q (l++[.mk (pk toks en n).text vs b])=some (n',r):=by
 cases k with
 | zero=>rw [armsR] at h;cases h
 | succ k=>
  rw [armsR] at h
  split at h
  ·rename_i c
   split at h
   ·rename_i p f
    split at h
    ·rename_i d
     split at h
     ·rename_i q hq
      refine ⟨Nat.succ_pos _,c.1,c.2,_,_,f,d,_,_,hq,?_⟩
      obtain ⟨a,l',e⟩:∃a l',l++[TA.mk (pk toks en n).text p.2 q.2]=a::l':=by cases l with
       | nil=>exact ⟨_,_,rfl⟩
       | cons a l=>exact ⟨_,_,rfl⟩
      rw [e] at h ⊢
      exact h
     ·cases h
    ·cases h
   ·cases h
  ·cases h
theorem z9j {k n m:Nat} {l vs:List Bs} (h:aG toks en k n l=some (m,vs)) (b:(pk toks en n).kind=2):0 < k/\l.length<=1000/\aG toks en (k - 1) (n+1) (l++[(pk toks en n).text])=some (m,vs):=by
 cases k with
 | zero=>rw [aG] at h;cases h
 | succ k=>
  rw [aG] at h
  split at h
  ·rename_i a;exact ⟨Nat.succ_pos _,a.1,h⟩
  ·first | (cases h;done) | (rw [if_pos b] at h;cases h)
theorem y3w {k n m:Nat} {l vs:List Bs} (h:aG toks en k n l=some (m,vs)) (a:¬(pk toks en n).kind=2):m=n/\vs=l:=by
 cases k with
 | zero=>rw [aG] at h;cases h
 | succ k=>rw [aG,if_neg (fun h=>a h.2),if_neg a] at h;cases h;exact ⟨rfl,rfl⟩
end
theorem Row.one1 {Φ:Fz} {b k:Nat} {cs:List Value} (h:At Φ ⟨b,0,none⟩ cs) (hl:cs.length=k):Row Φ (.slice (some ⟨b,0,none⟩) 1 1) k cs :=
 .inr ⟨_,1,1,rfl,by omega,by decide,fun _=>h⟩
theorem Sees.gsSome {Φ:Fz} {K:List Res} {w:World} {i j m c k:Nat} {p:Option Addr} {T:TypeId} {cells:List Value} (N:Sees Φ K w) (d:yV K i=some (.gs (.slice p m c) T k cells)) (e:j < m):∃q,p=some q:=by
 obtain ⟨nn,_,a⟩:=N.own _ (yS d)
 rcases a with ⟨h,_⟩ | ⟨b,cap,cur,h,_⟩
 ·simp only [Value.slice.injEq] at h;omega
 ·simp only [Value.slice.injEq] at h;exact ⟨_,h.1⟩
theorem y3g {Φ:Fz} {K:List Res} {w:World} {i k:Nat} {T:TypeId} {v:Value} {cs:List Value} {m:Nat} (N:Mem Φ K w) (d:yV K i=some (.gs v T k cs)) (hl:cs.length=m * k) (a:0 < k):∃p cap,v=.slice p m cap:=by
 obtain ⟨p,m',c,rfl,b,_⟩:=N.toSees.gsForm d
 have:m'=m:=Nat.eq_of_mul_eq_mul_right a (b.symm.trans hl)
 exact ⟨p,c,by rw [this]⟩
def zTA:TA:=.mk ⟨#[]⟩ [] (.mk 0 ⟨#[]⟩ ⟨#[]⟩ 0 0 [] [] [])
def zTAc:List Value:=[.string ⟨#[]⟩,.slice none 0 0,.int .i64 ((0:Nat):Int),.string ⟨#[]⟩,.string ⟨#[]⟩,.int .i64 ((0:Nat):Int),.int .i64 ((0:Nat):Int),.slice none 0 0,.slice none 0 0,.slice none 0 0]
theorem q3k (Φ:Fz):RTA Φ zTAc zTA :=
 ⟨_,_,rfl,rfl,SliceOf.nil 1,RTE.iff.2 ⟨_,_,_,rfl,(by show I64 0;unfold I64;omega),(by show I64 0;unfold I64;omega),SliceOf.nil 2,SliceOf.nil 10,SliceOf.nil 8⟩⟩
theorem q3q {α:Type} (l:List α) (a b:α):(l++[a]).set l.length b=l++[b]:=by rw [List.set_append_right _ _ (Nat.le_refl _),Nat.sub_self];rfl
def BodK (K:List Res) (cb0:Nat) (cpre0:List Value) (cT0:TypeId) (e:TE) (Φ:Fz) (PL:List Res) (cb:Nat) (cpre:List Value) (cT:TypeId) (x:TE):Prop :=
 ∀(Ψ:Fz) (R:Res) (w:World) (cells:List Value),Φ.Le Ψ->RTE Ψ cells x->Mem Ψ (R::.blk cb (ob (cpre++cells) cT)::(PL++K)) w->∃Ψ' cells',Ψ.Le Ψ'/\RTE Ψ' cells' e/\Mem Ψ' (R::.blk cb0 (ob (cpre0++cells') cT0)::K) w
section
variable {K:List Res} {cb0:Nat} {cpre0:List Value} {cT0:TypeId} {e:TE} {Φ Φ':Fz} {PL:List Res} {cb:Nat} {cpre:List Value} {cT:TypeId} {x:TE}
theorem BodK.id:BodK K cb cpre cT x Φ [] cb cpre cT x:=fun Ψ _ _ cells _ a N=>⟨Ψ,cells,.refl Ψ,a,N⟩
theorem BodK.mono (h:BodK K cb0 cpre0 cT0 e Φ PL cb cpre cT x) (hl:Φ.Le Φ'):BodK K cb0 cpre0 cT0 e Φ' PL cb cpre cT x:=fun Ψ R w cells a=>h Ψ R w cells (hl.trans a)
theorem BodK.step (h:BodK K cb0 cpre0 cT0 e Φ PL cb cpre cT x) (hl:Φ.Le Φ') {g:Nat} {av:Value} {kind num site:Int} {nm op:Bs} {args:List Atom} {b:TE} (r:x=.mk kind nm op num site args [] [b]) (q:I64 num) (O:I64 site) (p:SliceOf RAtom Φ' 2 av args) :
  BodK K cb0 cpre0 cT0 e Φ' (.blk cb (ob (cpre++[.int .i64 kind,.string nm,.string op,.int .i64 num,.int .i64 site,av,.slice none 0 0,.slice (some ⟨g,0,none⟩) 1 1]) cT)::PL) g [] 48 b:=by
 intro Ψ R w cells c l N
 obtain ⟨n,a,j,d⟩:=N.freezeBlk (i:=1) (b:=g) (cs:=cells) (T:=48) rfl
 subst r
 obtain ⟨o,c2,f,m,k⟩:=h n R w _ (hl.trans (c.trans a)) (RTE.iff.2 ⟨_,_,_,rfl,q,O,p.mono RAtom.mono (c.trans a),SliceOf.nil 10,⟨cells,Row.one1 d l.len,yQ l.len (RTE.mono _ _ _ _ a l)⟩⟩) j
 exact ⟨o,c2,a.trans f,m,k⟩
end
def y1q (l:List Bool):List Value:=l.map .bool
theorem y2t (l:List Bool) (b:Bool):y1q (l++[b])=y1q l++[.bool b]:=by simp [y1q]
theorem q0c (l:List Bool):(y1q l).length=l.length:=by simp [y1q]
theorem z4v {Φ:Fz}:∀l:List Bool,Chunks (RBoo Φ) 1 (y1q l) l
 | []=>rfl
 | b::l=>⟨[.bool b],y1q l,rfl,rfl,rfl,z4v l⟩
section
variable {toks:List Tok} {en:Nat}
theorem q0s {n m:Nat} {l t:List Bool} (h:tS toks en n l=some (m,t)):l.length<=1000/\m=n+1/\((isW (pk toks en n) ⟨#[42]⟩=true/\t=l++[true])∨(isW (pk toks en n) ⟨#[42]⟩=false/\isW (pk toks en n) ⟨#[95]⟩=true/\t=l++[false])):=by
 unfold tS at h
 split at h
 ·cases h
 ·rename_i c
  cases a:isW (pk toks en n) ⟨#[42]⟩ with
  | true=>rw [if_pos a] at h;cases h;exact ⟨by omega,rfl,.inl ⟨rfl,rfl⟩⟩
  | false=>
   rw [if_neg (by rw [a];simp)] at h
   split at h
   ·rename_i b;cases h;exact ⟨by omega,rfl,.inr ⟨rfl,b,rfl⟩⟩
   ·cases h
theorem j4p {n m:Nat} {l t:List TPar} (h:y4b toks en n l=some (m,t)):l.length<=1000/\((isW (pk toks en n) ⟨#[42]⟩=true/\(pk toks en (n+1)).kind=2/\m=n+2/\t=l++[⟨(pk toks en (n+1)).text,true⟩])∨(isW (pk toks en n) ⟨#[42]⟩=false/\(pk toks en n).kind=2/\m=n+1/\t=l++[⟨(pk toks en n).text,false⟩])):=by
 unfold y4b at h
 split at h
 ·cases h
 ·rename_i c
  cases b:isW (pk toks en n) ⟨#[42]⟩ with
  | true=>
   rw [if_pos b] at h
   split at h
   ·rename_i a;cases h;exact ⟨by omega,.inl ⟨rfl,a,rfl,rfl⟩⟩
   ·cases h
  | false=>
   rw [if_neg (by rw [b];simp)] at h
   split at h
   ·rename_i a;cases h;exact ⟨by omega,.inr ⟨rfl,a,rfl,rfl⟩⟩
   ·cases h
theorem j7f {k n m:Nat} {l r:List TCon} (h:cF toks en k n l=some (m,r)) (a:isW (pk toks en n) ⟨#[100,97,116,97]⟩=false):m=n/\r=l:=by
 cases k with
 | zero=>rw [cF] at h;cases h
 | succ k=>rw [cF,if_neg (by rw [a];simp)] at h;cases h;exact ⟨rfl,rfl⟩
theorem j3b {k n m:Nat} {l r:List TCon} (h:cF toks en k n l=some (m,r)) (d:isW (pk toks en n) ⟨#[100,97,116,97]⟩=true) :
  0 < k/\l.length<=1000/\(pk toks en (n+1)).kind=3/\isW (pk toks en (n+2)) ⟨#[58]⟩=true/\(pk toks en (n+3)).kind=3/\∃q fs,gK toks en (tS toks en) (k - 1) (n+4) []=some (q,fs)/\isW (pk toks en q) ⟨#[59]⟩=true/\cF toks en (k - 1) (q+1) (l++[⟨(pk toks en (n+1)).text,(pk toks en (n+3)).text,fs⟩])=some (m,r):=by
 cases k with
 | zero=>rw [cF] at h;cases h
 | succ k=>
  rw [cF,if_pos d] at h
  split at h
  ·rename_i a
   split at h
   ·rename_i p c
    split at h
    ·rename_i b;exact ⟨Nat.succ_pos _,a.1,a.2.1,a.2.2.1,a.2.2.2,_,_,c,b,h⟩
    ·cases h
   ·cases h
  ·cases h
theorem fun_end {k n m:Nat} {l r:List TFn} (h:sM toks en k n l=some (m,r)) (b:isW (pk toks en n) ⟨#[102,117,110]⟩=false):isW (pk toks en n) ⟨#[102,110]⟩=false/\m=n/\r=l:=by
 cases k with
 | zero=>rw [sM] at h;cases h
 | succ k=>
  rw [sM,if_neg (by rw [b];simp)] at h
  cases a:isW (pk toks en n) ⟨#[102,110]⟩ with
  | true=>rw [if_pos a] at h;cases h
  | false=>rw [if_neg (by rw [a];simp)] at h;cases h;exact ⟨rfl,rfl,rfl⟩
theorem j9f {k n m:Nat} {l r:List TFn} (h:sM toks en k n l=some (m,r)) (g:isW (pk toks en n) ⟨#[102,117,110]⟩=true) :
  0 < k/\l.length<=1000/\(pk toks en (n+1)).kind=2/\∃q ps,gK toks en (y4b toks en) (k - 1) (n+2) []=some (q,ps)/\isW (pk toks en q) ⟨#[61,62]⟩=true/\∃c b,pF toks en (k - 1) (q+1)=some (c,b)/\isW (pk toks en c) ⟨#[59]⟩=true/\sM toks en (k - 1) (c+1) (l++[⟨(pk toks en (n+1)).text,true,ps,b⟩])=some (m,r):=by
 cases k with
 | zero=>rw [sM] at h;cases h
 | succ k=>
  rw [sM,if_pos g] at h
  split at h
  ·rename_i a
   split at h
   ·rename_i p f
    split at h
    ·rename_i d
     split at h
     ·rename_i q hq
      split at h
      ·rename_i e;exact ⟨Nat.succ_pos _,a.1,a.2,_,_,f,d,_,_,hq,e,h⟩
      ·cases h
     ·cases h
    ·cases h
   ·cases h
  ·cases h
theorem out_end {k n m:Nat} {l r:List Bs} (h:sX toks en k n l=some (m,r)) (a:isW (pk toks en n) ⟨#[111,117,116,112,117,116]⟩=false):m=n/\r=l:=by
 cases k with
 | zero=>rw [sX] at h;cases h
 | succ k=>rw [sX,if_neg (by rw [a];simp)] at h;cases h;exact ⟨rfl,rfl⟩
theorem x0r {k n m:Nat} {l r:List Bs} (h:sX toks en k n l=some (m,r)) (b:isW (pk toks en n) ⟨#[111,117,116,112,117,116]⟩=true) :
  0 < k/\l.length<=1000/\(pk toks en (n+1)).kind=2/\isW (pk toks en (n+2)) ⟨#[59]⟩=true/\sX toks en (k - 1) (n+3) (l++[(pk toks en (n+1)).text])=some (m,r):=by
 cases k with
 | zero=>rw [sX] at h;cases h
 | succ k=>
  rw [sX,if_pos b] at h
  split at h
  ·rename_i a;exact ⟨Nat.succ_pos _,a.1,a.2.1,a.2.2,h⟩
  ·cases h
theorem q3b {k:Nat} {T:Trc} (h:mL toks en k=some T):∃b cs c fs d os,cF toks en k 0 []=some (b,cs)/\isW (pk toks en b) ⟨#[105,110,112,117,116]⟩=false/\sM toks en k b []=some (c,fs)/\sX toks en k c []=some (d,os)/\¬d < toks.length/\T=⟨cs,[],fs,os⟩:=by
 unfold mL at h
 split at h
 ·rename_i p f
  cases a:isW (pk toks en p.1) ⟨#[105,110,112,117,116]⟩ with
  | true=>rw [if_pos a] at h;cases h
  | false=>
   rw [if_neg (by rw [a];simp)] at h
   split at h
   ·rename_i q hq
    split at h
    ·rename_i r g
     split at h
     ·cases h
     ·rename_i e;cases h;exact ⟨_,_,_,_,_,_,f,a,hq,g,e,rfl⟩
    ·cases h
   ·cases h
 ·cases h
end
section
variable {L:List UInt8}
def bsL (L:List UInt8):Bs:=⟨L.toArray⟩
theorem mF:(bsL L).size=L.length:=by show L.toArray.size=L.length;simp
theorem bsL_get (i:Nat):(bsL L)[i]? = L[i]? := by
 rw [show (bsL L)[i]? = L.toArray[i]? from rfl];simp
theorem sE (a b:Nat):(bsL L).extract a b=bsL ((L.drop a).take (b - a)):=by
 apply ByteArray.ext
 simp [bsL,ByteArray.data_extract]
def hdL:List UInt8->Nat | []=>0 | c::_=>c.toNat
theorem sF (i:Nat):yW (bsL L) i=hdL (L.drop i):=by
 unfold yW
 rw [bsL_get]
 cases h:L.drop i with
 | nil=>
  have:L.length<=i:=by simpa using h
  rw [List.getElem?_eq_none this];rfl
 | cons c l=>
  have:L[i]? = some c:=by rw [<- List.head?_drop,h];rfl
  rw [this];rfl
def cQ (p:Nat->Bool):List UInt8->Nat
 | []=>0
 | c::l=>if p c.toNat then cQ p l+1 else 0
theorem runB_L (p:Nat->Bool):∀(f i:Nat),L.length<=i+f->qB p (bsL L) f i=cQ p (L.drop i)
 | 0,i,h=>by rw [List.drop_eq_nil_of_le (by omega)];rfl
 | f+1,i,h=>by
  rw [qB,mF,sF,runB_L p f (i+1) (by omega)]
  cases a:L.drop i with
  | nil=>
   have:L.length<=i:=by simpa using a
   rw [if_neg (by omega)];rfl
  | cons c l=>
   have hl:i < L.length:=by
    apply Nat.lt_of_not_le;intro e
    rw [List.drop_eq_nil_of_le e] at a;cases a
   have d:L.drop (i+1)=l:=by rw [<- List.drop_drop,a];rfl
   rw [d]
   show (if i < L.length/\p c.toNat=true then cQ p l+1 else 0)=if p c.toNat=true then cQ p l+1 else 0
   by_cases b:p c.toNat=true
   ·rw [if_pos ⟨hl,b⟩,if_pos b]
   ·rw [if_neg (fun h=>b h.2),if_neg b]
theorem y0e (p:Nat->Bool) (i:Nat):qB p (bsL L) (bsL L).size i=cQ p (L.drop i):=runB_L p _ i (by rw [mF];omega)
def z9w:List UInt8->List UInt8->Bool
 | [],_=>true
 | _::_,[]=>false
 | a::p,b::l=>decide (a=b)&&z9w p l
theorem preL_iff:∀{p l:List UInt8},z9w p l=true↔l.take p.length=p
 | [],l=>by simp [z9w]
 | a::p,[]=>by simp [z9w]
 | a::p,b::l=>by simp only [z9w,baQ,decide_eq_true_eq,lcQ,List.take_succ_cons,List.cons.injEq,preL_iff (p:=p) (l:=l)];constructor <;> (rintro ⟨c,d⟩;exact ⟨c.symm,d⟩)
theorem z4f (i:Nat) (p:List UInt8):vV ((bsL L).extract i (bsL L).size) (bsL p)=z9w p (L.drop i):=by
 have b:(bsL L).extract i (bsL L).size=bsL (L.drop i):=by
  rw [sE,mF,List.take_of_length_le (by simp)]
 rw [b];unfold vV
 rw [mF,mF,sE,Bool.eq_iff_iff]
 simp only [baQ,decide_eq_true_eq,List.drop_zero,Nat.sub_zero]
 constructor
 ·rintro ⟨_,h⟩
  have c:((L.drop i).take p.length).toArray=p.toArray:=congrArg ByteArray.data h
  have d:=congrArg Array.toList c
  exact preL_iff.2 d
 ·intro h
  have a:=preL_iff.1 h
  refine ⟨?_,by rw [a]⟩
  have:=congrArg List.length a
  rw [List.length_take] at this;omega
def tokL (l:List UInt8) (pos:Nat):Option (Tok×Nat) :=
 if yU (hdL l)=true then
  (if cQ yU l=1/\hdL (l.drop 1)=32/\dJ (bsL (l.take 1))=some ((hdL l:Int) - 48) then some (⟨1,(hdL l:Int) - 48,bsL (l.take 1),pos⟩,1) else none)
 else if hdL l=126 then none
 else if nD (hdL l)=true∨dR (hdL l)=true then
  (if hdL (l.drop (cQ qQ l))=39∨24 < cQ qQ l then none
   else some (⟨if z8y (bsL (l.take (cQ qQ l))) then 5 else if nD (hdL l)=true then 2 else 3,0,bsL (l.take (cQ qQ l)),pos⟩,cQ qQ l))
 else if hdL l=39 then none
 else if z9w [61,62] l=true∨z9w [45,62] l=true then some (⟨6,0,bsL (l.take 2),pos⟩,2)
 else if z5j (hdL l)=true then some (⟨6,0,bsL (l.take 1),pos⟩,1)
 else none
theorem q9e (i n:Nat):(bsL L).extract i (i+n)=bsL ((L.drop i).take n):=by rw [sE,Nat.add_sub_cancel_left]
theorem tokL_ok {i:Nat} {k:Tok×Nat} (h:tokL (L.drop i) i=some k):zV (bsL L) i=.ok k.1:=by
 unfold tokL at h
 unfold zV
 rw [sF]
 by_cases b:yU (hdL (L.drop i))=true
 ·rw [if_pos b] at h
  rw [if_pos (.inl b)]
  split at h
  ·rename_i f
   obtain ⟨m,c2,c3⟩:=f
   cases h
   have O:vC (bsL L) i=0:=by
    unfold vC;rw [sF,if_neg]
    intro e;rw [e] at b;revert b;decide
   have j:xQ (bsL L) i=1:=by unfold xQ;rw [O,y0e,Nat.add_zero,m]
   have o:wZ (bsL L) i=bsL ((L.drop i).take 1):=by unfold wZ;rw [O,j,q9e]
   unfold sW
   rw [o,c3]
   simp only
   rw [O,j,sF,<- List.drop_drop,c2,if_neg (by decide)]
  ·cases h
 ·rw [if_neg b] at h
  by_cases g:hdL (L.drop i)=126
  ·rw [if_pos g] at h;cases h
  ·rw [if_neg g] at h
   rw [if_neg (by rintro (h | h);exact b h;exact g h)]
   by_cases c:nD (hdL (L.drop i))=true∨dR (hdL (L.drop i))=true
   ·rw [if_pos c] at h
    split at h
    ·cases h
    ·rename_i f
     cases h
     have hl:jE (bsL L) i=cQ qQ (L.drop i):=by
      unfold jE
      rw [y0e,sF,<- List.drop_drop,if_neg (fun e=>f (.inl e))]
     have l:∀kd,kK (bsL L) i kd=.ok ⟨if z8y (bsL ((L.drop i).take (cQ qQ (L.drop i)))) then 5 else kd,0,bsL ((L.drop i).take (cQ qQ (L.drop i))),i⟩:=fun kd=>by
      unfold kK
      rw [hl,q9e,if_neg (fun e=>f (.inr e))]
     by_cases a:nD (hdL (L.drop i))=true
     ·rw [if_pos a,l,if_pos a]
     ·rw [if_neg a,if_pos (c.resolve_left a),l,if_neg a]
   ·rw [if_neg c] at h
    rw [if_neg (fun e=>c (.inl e)),if_neg (fun e=>c (.inr e))]
    by_cases a:hdL (L.drop i)=39
    ·rw [if_pos a] at h;cases h
    ·rw [if_neg a] at h
     rw [if_neg (fun e=>a e.1)]
     rw [show (⟨#[61,62]⟩:Bs)=bsL [61,62] from rfl,show (⟨#[45,62]⟩:Bs)=bsL [45,62] from rfl,z4f,z4f]
     by_cases d:z9w [61,62] (L.drop i)=true∨z9w [45,62] (L.drop i)=true
     ·rw [if_pos d] at h;cases h
      rw [if_pos d];unfold vO;rw [if_neg (by decide),q9e]
     ·rw [if_neg d] at h
      rw [if_neg d]
      split at h
      ·rename_i n;cases h
       rw [if_pos n];unfold vO;rw [if_neg (by decide),q9e]
      ·cases h
theorem x2n {l:List UInt8} {i:Nat} {k:Tok×Nat} (h:tokL l i=some k) (a:k.2<=l.length):k.1.text.size=k.2:=by
 unfold tokL at h
 have hb:∀n,n<=l.length->(bsL (l.take n)).size=n:=fun n b=>by rw [mF,List.length_take];omega
 repeat' split at h
 all_goals first | (cases h;done) | (cases h;exact hb _ a)
def j0z:Nat->List UInt8->Nat->Option (List Tok)
 | 0,_,_=>none
 | f+1,l,i=>
  if z9w [40,42] (l.drop (cQ jN l))=true then none
  else match l.drop (cQ jN l) with
   | []=>some []
   | c::m=>match tokL (c::m) (i+cQ jN l) with
    | none=>none
    | some k=>if k.2<=(c::m).length then (match j0z f ((c::m).drop k.2) (i+cQ jN l+k.2) with
     | none=>none
     | some r=>some (k.1::r)) else none
theorem q4d:∀{f i:Nat} {r:List Tok},i<=L.length->j0z f (L.drop i) i=some r->gP (bsL L) f i=.ok r
 | 0,_,_,_,h=>by cases h
 | f+1,i,r,hi,h=>by
  rw [j0z] at h
  split at h
  ·cases h
  ·rename_i n
   have p:cM (bsL L) i=.ok (i+cQ jN (L.drop i)):=by
    rw [z2l _ _ (by rw [mF];exact hi),y0e,show (⟨#[40,42]⟩:Bs)=bsL [40,42] from rfl,z4f,<- List.drop_drop,if_neg n]
   rw [gP,p]
   simp only
   split at h
   ·rename_i e
    cases h
    rw [List.drop_drop] at e
    have:L.length<=i+cQ jN (L.drop i):=by simpa using e
    rw [mF,if_neg (by omega)]
   ·rename_i c m e
    have a:L.drop (i+cQ jN (L.drop i))=c::m:=by rw [<- List.drop_drop];exact e
    have l:i+cQ jN (L.drop i) < L.length:=by
     apply Nat.lt_of_not_le;intro o
     rw [List.drop_eq_nil_of_le o] at a;cases a
    rw [mF,if_pos l]
    split at h
    ·cases h
    ·rename_i k g
     split at h
     ·rename_i j
      split at h
      ·cases h
      ·rename_i q d
       cases h
       rw [<- a] at g
       rw [tokL_ok g]
       have O:=x2n g (by rw [a];exact j)
       rw [<- a,List.drop_drop] at d
       have b:i+cQ jN (L.drop i)+k.2<=L.length:=by
        have:=congrArg List.length a
        rw [List.length_drop] at this;omega
       simp only
       rw [O,q4d b d]
     ·cases h
end
def text0L:List UInt8:=[100,97,116,97,32,78,105,108,32,58,32,76,105,115,116,32,40,32,41,32,59,32,100,97,116,97,32,67,111,110,115,32,58,32,76,105,115,116,32,40,32,95,32,41,32,59,32,102,117,110,32,107,101,101,112,32,40,32,120,32,41,32,61,62,32,58,32,120,32,59,32,102,117,110,32,109,97,105,110,32,40,32,41,32,61,62,32,108,101,116,32,120,32,61,32,50,32,43,32,51,32,105,110,32,108,101,116,32,121,32,61,32,67,111,110,115,32,40,32,120,32,41,32,105,110,32,99,97,115,101,32,121,32,111,102,32,78,105,108,32,61,62,32,58,32,48,32,124,32,67,111,110,115,32,122,32,61,62,32,108,101,116,32,119,32,61,32,122,32,43,32,48,32,105,110,32,108,101,116,32,109,32,61,32,109,111,100,32,49,32,107,101,101,112,32,40,32,122,32,41,32,105,110,32,108,101,116,32,114,32,61,32,114,101,97,100,32,50,32,109,32,105,110,32,58,32,114,32,101,110,100,32,59,32,111,117,116,112,117,116,32,109,97,105,110,32,59]
def text0:Bs:=⟨#[100,97,116,97,32,78,105,108,32,58,32,76,105,115,116,32,40,32,41,32,59,32,100,97,116,97,32,67,111,110,115,32,58,32,76,105,115,116,32,40,32,95,32,41,32,59,32,102,117,110,32,107,101,101,112,32,40,32,120,32,41,32,61,62,32,58,32,120,32,59,32,102,117,110,32,109,97,105,110,32,40,32,41,32,61,62,32,108,101,116,32,120,32,61,32,50,32,43,32,51,32,105,110,32,108,101,116,32,121,32,61,32,67,111,110,115,32,40,32,120,32,41,32,105,110,32,99,97,115,101,32,121,32,111,102,32,78,105,108,32,61,62,32,58,32,48,32,124,32,67,111,110,115,32,122,32,61,62,32,108,101,116,32,119,32,61,32,122,32,43,32,48,32,105,110,32,108,101,116,32,109,32,61,32,109,111,100,32,49,32,107,101,101,112,32,40,32,122,32,41,32,105,110,32,108,101,116,32,114,32,61,32,114,101,97,100,32,50,32,109,32,105,110,32,58,32,114,32,101,110,100,32,59,32,111,117,116,112,117,116,32,109,97,105,110,32,59]⟩
def toks0:List Tok:=[⟨5,0,⟨#[100,97,116,97]⟩,0⟩,⟨3,0,⟨#[78,105,108]⟩,5⟩,⟨6,0,⟨#[58]⟩,9⟩,⟨3,0,⟨#[76,105,115,116]⟩,11⟩,⟨6,0,⟨#[40]⟩,16⟩,⟨6,0,⟨#[41]⟩,18⟩,⟨6,0,⟨#[59]⟩,20⟩,⟨5,0,⟨#[100,97,116,97]⟩,22⟩,⟨3,0,⟨#[67,111,110,115]⟩,27⟩,⟨6,0,⟨#[58]⟩,32⟩,⟨3,0,⟨#[76,105,115,116]⟩,34⟩,⟨6,0,⟨#[40]⟩,39⟩,⟨6,0,⟨#[95]⟩,41⟩,⟨6,0,⟨#[41]⟩,43⟩,⟨6,0,⟨#[59]⟩,45⟩,⟨5,0,⟨#[102,117,110]⟩,47⟩,⟨2,0,⟨#[107,101,101,112]⟩,51⟩,⟨6,0,⟨#[40]⟩,56⟩,⟨2,0,⟨#[120]⟩,58⟩,⟨6,0,⟨#[41]⟩,60⟩,⟨6,0,⟨#[61,62]⟩,62⟩,⟨6,0,⟨#[58]⟩,65⟩,⟨2,0,⟨#[120]⟩,67⟩,⟨6,0,⟨#[59]⟩,69⟩,⟨5,0,⟨#[102,117,110]⟩,71⟩,⟨2,0,⟨#[109,97,105,110]⟩,75⟩,⟨6,0,⟨#[40]⟩,80⟩,⟨6,0,⟨#[41]⟩,82⟩,⟨6,0,⟨#[61,62]⟩,84⟩,⟨5,0,⟨#[108,101,116]⟩,87⟩,⟨2,0,⟨#[120]⟩,91⟩,⟨6,0,⟨#[61]⟩,93⟩,⟨1,2,⟨#[50]⟩,95⟩,⟨6,0,⟨#[43]⟩,97⟩,⟨1,3,⟨#[51]⟩,99⟩,⟨5,0,⟨#[105,110]⟩,101⟩,⟨5,0,⟨#[108,101,116]⟩,104⟩,⟨2,0,⟨#[121]⟩,108⟩,⟨6,0,⟨#[61]⟩,110⟩,⟨3,0,⟨#[67,111,110,115]⟩,112⟩,⟨6,0,⟨#[40]⟩,117⟩,⟨2,0,⟨#[120]⟩,119⟩,⟨6,0,⟨#[41]⟩,121⟩,⟨5,0,⟨#[105,110]⟩,123⟩,⟨5,0,⟨#[99,97,115,101]⟩,126⟩,⟨2,0,⟨#[121]⟩,131⟩,⟨5,0,⟨#[111,102]⟩,133⟩,⟨3,0,⟨#[78,105,108]⟩,136⟩,⟨6,0,⟨#[61,62]⟩,140⟩,⟨6,0,⟨#[58]⟩,143⟩,⟨1,0,⟨#[48]⟩,145⟩,⟨6,0,⟨#[124]⟩,147⟩,⟨3,0,⟨#[67,111,110,115]⟩,149⟩,⟨2,0,⟨#[122]⟩,154⟩,⟨6,0,⟨#[61,62]⟩,156⟩,⟨5,0,⟨#[108,101,116]⟩,159⟩,⟨2,0,⟨#[119]⟩,163⟩,⟨6,0,⟨#[61]⟩,165⟩,⟨2,0,⟨#[122]⟩,167⟩,⟨6,0,⟨#[43]⟩,169⟩,⟨1,0,⟨#[48]⟩,171⟩,⟨5,0,⟨#[105,110]⟩,173⟩,⟨5,0,⟨#[108,101,116]⟩,176⟩,⟨2,0,⟨#[109]⟩,180⟩,⟨6,0,⟨#[61]⟩,182⟩,⟨2,0,⟨#[109,111,100]⟩,184⟩,⟨1,1,⟨#[49]⟩,188⟩,⟨2,0,⟨#[107,101,101,112]⟩,190⟩,⟨6,0,⟨#[40]⟩,195⟩,⟨2,0,⟨#[122]⟩,197⟩,⟨6,0,⟨#[41]⟩,199⟩,⟨5,0,⟨#[105,110]⟩,201⟩,⟨5,0,⟨#[108,101,116]⟩,204⟩,⟨2,0,⟨#[114]⟩,208⟩,⟨6,0,⟨#[61]⟩,210⟩,⟨2,0,⟨#[114,101,97,100]⟩,212⟩,⟨1,2,⟨#[50]⟩,217⟩,⟨2,0,⟨#[109]⟩,219⟩,⟨5,0,⟨#[105,110]⟩,221⟩,⟨6,0,⟨#[58]⟩,224⟩,⟨2,0,⟨#[114]⟩,226⟩,⟨5,0,⟨#[101,110,100]⟩,228⟩,⟨6,0,⟨#[59]⟩,232⟩,⟨5,0,⟨#[111,117,116,112,117,116]⟩,234⟩,⟨2,0,⟨#[109,97,105,110]⟩,241⟩,⟨6,0,⟨#[59]⟩,246⟩]
def tokB (a b:Tok):Bool:=decide (a.kind=b.kind)&&decide (a.num=b.num)&&decide (a.text=b.text)&&decide (a.org=b.org)
def j0y:List Tok->List Tok->Bool
 | [],[]=>true
 | a::l,b::m=>tokB a b&&j0y l m
 | _,_=>false
theorem tokB_eq {a b:Tok} (h:tokB a b=true):a=b:=by
 obtain ⟨g,a2,a3,a4⟩:=a
 obtain ⟨i,j,k,l⟩:=b
 simp only [tokB,baQ,decide_eq_true_eq] at h
 obtain ⟨⟨⟨c,d⟩,e⟩,f⟩:=h
 subst c d e f;rfl
theorem q4c:∀{a b:List Tok},j0y a b=true->a=b
 | [],[],_=>rfl
 | a::l,b::m,h=>by
  simp only [j0y,baQ] at h
  rw [tokB_eq h.1,q4c h.2]
 | [],b::m,h=>by cases h
 | a::l,[],h=>by cases h
def toksT (r:Option (List Tok)):Bool:=match r with | some l=>j0y l toks0 | none=>false
set_option maxRecDepth 100000 in
theorem toks0_b:toksT (j0z (text0L.length+1) text0L 0)=true:=by decide +kernel
theorem x2p:pC text0=.ok toks0:=by
 have h:=toks0_b
 unfold toksT at h
 split at h
 ·rename_i l hl
  have a:=q4d (L:=text0L) (f:=text0L.length+1) (i:=0) (r:=l) (Nat.zero_le _) hl
  rw [<- q4c h,<- a];rfl
 ·cases h
def T0:Trc:=(mL toks0 text0.size 100).getD ⟨[],[],[],[]⟩
theorem x0p {α:Type} {o:Option α} {d:α} (h:o.isSome=true):o=some (o.getD d):=by
 cases o with
 | none=>cases h
 | some x=>rfl
set_option maxRecDepth 100000
theorem T0_some:mL toks0 text0.size 100=some T0:=x0p (by decide +kernel)
theorem j5u:zL T0=true:=by decide +kernel
theorem j1k:vJ T0=9:=by decide +kernel
def okL (l:List Rw):Bool:=match l with | [r,_,_,_]=>decide (r.rule=1) | _=>false
theorem y9h:okL (qH T0)=true:=by decide +kernel
def okA (r:Except Int Trc):Bool:=match r with
 | .ok U=>(match atC U 1 [] with | .ok x=>decide (x.kind=2)&&(match x.args with | [a]=>decide (a.num=5) | _=>false) | .error _=>false)
 | .error _=>false
theorem j5t:okA (pD T0 ⟨1,1,[],0⟩)=true:=by decide +kernel
def okE (r:Except Int Trc):Bool:=match r with | .ok _=>false | .error c=>decide (c=150)
theorem T0_bad:okE (pD T0 ⟨2,1,[],0⟩)=true:=by decide +kernel
def okO (r:Trc×List Rw):Bool:=decide (4<=r.2.length)&&zL r.1&&decide (vJ r.1=1)
theorem T0_opt:okO (xA T0)=true:=by decide +kernel
theorem T0_toks:∀t∈toks0,I64 t.num:=by
 have h:toks0.all (fun t=>decide (-9223372036854775808<=t.num/\t.num<=9223372036854775807))=true:=by decide +kernel
 intro t b
 have a:=List.all_eq_true.1 h t b
 simp only [decide_eq_true_eq] at a
 unfold I64;omega
end Go.Sw
