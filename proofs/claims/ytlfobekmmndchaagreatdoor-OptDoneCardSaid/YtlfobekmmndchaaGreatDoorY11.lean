import Derived.Test.YtlfobekmmndchaaGreatDoorY10
set_option linter.unusedVariables false
set_option linter.unusedSimpArgs false
namespace Go.Sw
open Go.Proofs Go.Proofs.Tryz
set_option maxRecDepth 20000
set_option maxHeartbeats 4000000
def wG (n:Bs) (y:Fnd):Bool:=decide (y.x.kind=3∨y.x.kind=4∨y.x.kind=10)&&decide (y.x.op=n)
def cJ (n:Bs) (_:Unit) (y:Fnd):Unit×Bool:=((),!wG n y)
theorem z5g (n:Bs):∀l:List Fnd,(zL (cJ n) () l).2 = !l.any (wG n)
 | []=>rfl
 | y::l=>by
  rw [zL,List.any_cons];cases h:wG n y with
  | true=>simp [cJ,h]
  | false=>simp only [cJ,h,Bool.not_false,cond_true,Bool.false_or];exact z5g n l
theorem sU (n:Bs) (e:TE):∀(p:List Int) (up:List TE),(zF p up e).any (wG n)=pU n e:=by
 refine pH (C:=fun e=>∀(p:List Int) (up:List TE),(zF p up e).any (wG n)=pU n e) (fun e j hb p up=>?_) e
 have g:∀(l:List TA) (i:Int) (up:List TE),(∀a∈l,∀(p:List Int) (up:List TE),(zF p up a.body).any (wG n)=pU n a.body)->(belowTa p up i l).any (wG n)=callsNa n l:=by
  intro l
  induction l with
  | nil=>intro i up _;rfl
  | cons a l f=>
   cases a with
   | mk c vs b=>
    intro i up h;rw [belowTa,List.any_append,f (i+1) up (fun a d=>h a (mcQ _ d)),callsNa];have:=h (.mk c vs b) (msQ ..) (p++[i]) up;rw [show (TA.mk c vs b).body=b from rfl] at this;rw [this]
 have d:∀(l:List TE) (i:Int) (up:List TE),(∀a∈l,∀(p:List Int) (up:List TE),(zF p up a).any (wG n)=pU n a)->(belowTs p up i l).any (wG n)=callsNs n l:=by
  intro l
  induction l with
  | nil=>intro i up _;rfl
  | cons b l f=>
   intro i up h;rw [belowTs,List.any_append,f (i+1) up (fun a d=>h a (mcQ _ d)),callsNs,h b (msQ ..) (p++[i]) up]
 rw [jS,List.any_cons,List.any_append,g _ _ _ j,d _ _ _ hb];cases e;simp only [pU,wG,TE.kind,TE.op,TE.arms,TE.body,Bool.or_assoc];rfl
theorem j5j {T:Trc} {i:Nat} {f:TFn} (a:T.funs[i]? = some f) (h:T.outputs.contains f.name=true):xY T i=false:=by unfold xY;rw [a];simp only [h,Bool.not_true,Bool.false_and]
theorem j9n {T:Trc} {i j:Nat} {f g:TFn} (d:T.funs[i]? = some f) (c:T.funs[j]? = some g) (b:¬j=i) (h:pU f.name g.body=true):xY T i=false:=by
 rw [<- Bool.not_eq_true];intro a;unfold xY at a;rw [d] at a;simp only [baQ,List.all_eq_true] at a;have:=a.2 j (List.mem_range.2 (List.getElem?_eq_some_iff.1 c).1);rw [c] at this;simp [b,h] at this
theorem j5k {T:Trc} {i:Nat} {f:TFn} (c:T.funs[i]? = some f) (e:T.outputs.contains f.name=false) (h:∀j g,T.funs[j]? = some g->j=i∨pU f.name g.body=false):xY T i=true:=by
 unfold xY;rw [c];simp only [baQ,List.all_eq_true];refine ⟨by rw [e];rfl,fun j d=>?_⟩;have b:T.funs[j]? = some (T.funs[j]'(List.mem_range.1 d)):=List.getElem?_eq_getElem _;rcases h j _ b with a | a
 rw [decide_eq_true a];rfl;rw [b];simp [a]
theorem q1i {Φ:Fz} {K:List Res} {w:World} {pa:Addr} {T:Trc} {i0:Nat} {F:TFn} (RO:ROp Φ pa T) (hF:T.funs[i0]? = some F) (u0:FitP T) (N:Mem Φ K w) :
  Calls prog 49 #[.pointer (some pa),.int .i64 i0] w (fun ee w'=>ee=.returned (.bool (xY T i0))/\Mem Φ K w'):=by
 have p1:=RO;obtain ⟨x2,m2,k,g0,V1⟩:=RO.ex;have t:=g0;obtain ⟨p9,D0,h1,E0,i1,c22,j1,F0,rfl,H1,h8,y2,s0,G0,M1,W1,N1,X1,O1,y0,P1,Y1⟩:=RTrc.fm g0;replace k:At Φ pa [.slice p9 T.cons.length D0,.slice h1 T.inputs.length E0,.slice i1 T.funs.length c22,.slice j1 T.outputs.length F0,.map (some m2)]:=k;have w0:=(List.getElem?_eq_some_iff.1 hF).1;refine sX func49 rfl ntmps49 rfl (fun Q hQ a J=>?_);refine Alc fun z w N a J=>?_;refine go fun a J=>?_;obtain ⟨N2,rfl,e,M,x1,K1,s,n⟩:=s0.el y0 w0;obtain ⟨H2,c45,r2,rfl,z2,D,Q1,Z1⟩:=RTFn.fm n;obtain ⟨I2,c53,J2,t2,K2,u2,rfl,I1,J1,A2,B2,C2,R1,a2,S1,b2,T1,c2⟩:=RTE.fm D;refine Alc fun R w N a J=>?_;refine Sto 0 fun w N a J=>?_;refine Reg [1,1,1,1,2,2,0] [0,1] fun w N a J=>?_;obtain rfl:e=F:=Option.some.inj (M.symm.trans hF);refine nQ call87 (fun U w N a J=>?_) (fun U w N a J=>?_) (c:=oV G0 N);refine Sto 1 fun w N a J=>?_;refine go fun a J=>?_;replace N:=N.dl [0];replace N:=(Mem.mid (A:=[.blk z (ob [.bool false] 4)]) (B:=yV []) (C:=K) N).nq;refine hQ _ _ _ (q4j (ds:=[]) (v:=.bool false) J results49 rfl isAgg4 N fun w N=>?_);rw [j5j M U];exact ⟨rfl,N⟩;refine go fun a J=>?_
 refine gV (fun mm a w=>∃(i:Nat) (ds:List Nat),mm=T.funs.length - i/\EnvR 78 [(0,.pointer (some pa)),(1,.int .i64 i0),(4,.pointer (some ⟨z,0,none⟩)),(5,.pointer (some ⟨R,0,none⟩)),(29,.int .i64 T.funs.length),(30,.int .i64 i)] (aQ ds) a/\Mem Φ (.blk R (ob [.string e.name] 9)::.blk z (ob [.bool false] 4)::yV ds++K) w/\(∀(j:Nat) (g:TFn),T.funs[j]? = some g->j < i->j=i0∨pU e.name g.body=false)) (T.funs.length - 0) ⟨0,[],rfl,J.pk,N,fun _ _ _ h_=>by omega⟩ ?_;clear N J;rintro mm a w ⟨i,ds,x0,J,N,V⟩ q2 f0;by_cases H0:i < T.funs.length;by_cases t0:i=i0;refine go fun a J=>?_;refine f0 _ _ _ (by subst x0;omega) ⟨(i+1),(ds),rfl,J.pk,N,?_⟩
 exact fun j_ g_ H P0=>by
  by_cases W:j_=i;subst W;exact .inl t0;exact V j_ g_ H (by omega)
 refine go fun a J=>?_;obtain ⟨Y,P⟩:=zW H0;obtain ⟨y1,L1,m,o⟩:=s0.elem P;obtain ⟨M2,v2,q1,rfl,D2,f,U1,d2⟩:=RTFn.fm o;obtain ⟨f2,r1,g2,s1,h2,t1,rfl,L0,M0,A1,B1,C1,Q0,Y0,R0,Z0,S0,a1⟩:=RTE.fm f;refine yI call74 (fun n2 w d N a J=>?_) (c:=z7i N);replace t:=RTrc.mono _ _ _ _ d.1 t;replace k:=k.mono d.1;replace s:=s.mono d.1;replace n:=RTFn.mono _ _ _ _ d.1 n;replace D:=RTE.mono _ _ _ _ d.1 D;replace m:=m.mono d.1;replace o:=RTFn.mono _ _ _ _ d.1 o;replace f:=RTE.mono _ _ _ _ d.1 f;have X:=d.2;replace N:=N.nf;refine go fun a J=>?_;refine oA (p:=45) RFnd (zF [] [] Y.body) .ret (cJ e.name) (fun Ψ_ s_ b_ z_=>True) (fun s_ b_ z_=>.blk R (ob [.string e.name] 9)::.blk z (ob [.bool false] 4)::yV ds++K) () () J trivial N rfl call123 rfl (fun _ _ _ _ _ _ _=>trivial) (fun Ψr_ s_ z_ w2 y l_ F2 G2 p2 a w b e2 o0 e0 J N=>?_) (oJ X (At.part3 m) f (u0.fn P)) (fun hr_ Dk Ψr_ k1 a w b e0 J N=>?_) (fun hr_ Dk Ψr_ k1 a w b e0 J N=>?_);replace t:=RTrc.mono _ _ _ _ b t;replace k:=k.mono b;replace s:=s.mono b;replace n:=RTFn.mono _ _ _ _ b n;replace D:=RTE.mono _ _ _ _ b D;replace m:=m.mono b;replace o:=RTFn.mono _ _ _ _ b o;replace f:=RTE.mono _ _ _ _ b f;replace N:=N.nf;obtain ⟨z0,A0,h0,z1,rfl,J0,K0,I,L,I0,E⟩:=id o0;replace I:SliceOf RInt Ψr_ 1 z0 y.path:=I;replace L:SliceOf RPtE Ψr_ 1 A0 y.up:=L;replace E:RTE Ψr_ _ y.x:=E;obtain ⟨j0,Z,rfl,B0,b1⟩:=I.fm;obtain ⟨k0,a0,rfl,C0,c1⟩:=L.fm;have g1:=E;obtain ⟨i2,u1,j2,v1,k2,w1,rfl,N0,O0,D1,E1,F1,U0,d1,V0,e1,X0,f1⟩:=RTE.fm E;refine xM ?_
 refine kA J rfl rfl rfl (by intro c h;cases h) (qW (cs:=[ZB,ZB,.pointer none]) N zeroValue90 rfl fun r0 w N a J=>?_);refine xF J rfl rfl (by intro c h;cases h) (zQ 0 (cs:=[ZB,ZB,.pointer none]) (vs:=[.slice j0 y.path.length Z,.slice k0 y.up.length a0,.pointer (some h0)]) J N rfl rfl rfl rfl sizeOf90 rfl rfl rfl fun w N a J=>?_);replace N:=N.nf;refine zZ ?_;replace N:=N.pl 1;refine ⟨_,N,fun w N=>?_⟩;replace N:=N.nf;refine gJ ?_;refine sqI fun l1 l=>?_;refine pS [1,2,1,1,2,1,1,1,2,1,1,2,1,1,1,1,2,1,1,2,1,1,1,1,2,1,1,2,2,1,1] (.q 0 (.q 1 (.q 2 (.q 3 (.q 4 (.q 5 (.q 6 (.q 7 (.q 8 (.q 9 (.q 10 (.q 11 (.q 12 (.q 13 (.q 14 (.q 15 (.q 16 (.q 17 (.q 18 (.q 19 (.q 20 (.q 21 (.q 22 (.q 23 (.q 24 (.q 25 (.q 26 (.q 27 (.q 28 (.q 29 (.q 30 (.done)))))))))))))))))))))))))))))))) [.blk r0 (ob [.slice j0 y.path.length Z,.slice k0 y.up.length a0,.pointer (some h0)] 90),.blk R (ob [.string e.name] 9),.blk z (ob [.bool false] 4)] J N mixed (by kernel_rfl) (by simp) (by kernel_rfl) fun w N=>?_;by_cases u:y.x.kind=3;by_cases b0:y.x.op=e.name;refine go fun a J=>?_;apply l;refine mD J rfl ?_;refine sqI fun m1 l0=>?_;refine xM ?_;refine xF J rfl rfl (by intro c h;cases h) (zQ 3 (cs:=[.bool false]) (vs:=[.bool false]) J N rfl rfl rfl rfl sizeOf4 rfl rfl rfl fun w N a J=>?_);replace N:=N.nf;refine zZ ?_;apply l0;refine wpIn_ret ?_;replace N:=N.dl [1];have r:wG e.name y=true:=by simp [wG,u,b0]
 refine ⟨?_,Ψr_,(),(Fz.Le.refl _),trivial,N⟩;simp only [cJ,r];rfl;refine go fun a J=>?_;apply l;refine wP J rfl ?_;refine pE ?_;replace N:=N.dl [1];have r:wG e.name y=false:=by simp [wG,u,b0]
 refine ⟨?_,Ψr_,(),(Fz.Le.refl _),trivial,N⟩;simp only [cJ,r];rfl;by_cases G:y.x.kind=4;by_cases c0:y.x.op=e.name;refine go fun a J=>?_;apply l;refine mD J rfl ?_;refine sqI fun n1 m0=>?_;refine xM ?_;refine xF J rfl rfl (by intro c h;cases h) (zQ 3 (cs:=[.bool false]) (vs:=[.bool false]) J N rfl rfl rfl rfl sizeOf4 rfl rfl rfl fun w N a J=>?_);replace N:=N.nf;refine zZ ?_;apply m0;refine wpIn_ret ?_;replace N:=N.dl [1];have r:wG e.name y=true:=by simp [wG,G,c0,u]
 refine ⟨?_,Ψr_,(),(Fz.Le.refl _),trivial,N⟩;simp only [cJ,r];rfl;refine go fun a J=>?_;apply l;refine wP J rfl ?_;refine pE ?_;replace N:=N.dl [1];have r:wG e.name y=false:=by simp [wG,G,u,c0]
 refine ⟨?_,Ψr_,(),(Fz.Le.refl _),trivial,N⟩;simp only [cJ,r];rfl;by_cases S:y.x.kind=10;refine go fun a J=>?_;by_cases d0:y.x.op=e.name;refine go fun a J=>?_;apply l;refine mD J rfl ?_;refine sqI fun o1 n0=>?_;refine xM ?_;refine xF J rfl rfl (by intro c h;cases h) (zQ 3 (cs:=[.bool false]) (vs:=[.bool false]) J N rfl rfl rfl rfl sizeOf4 rfl rfl rfl fun w N a J=>?_);replace N:=N.nf;refine zZ ?_;apply n0;refine wpIn_ret ?_;replace N:=N.dl [1];have r:wG e.name y=true:=by simp [wG,S,d0,u,G]
 refine ⟨?_,Ψr_,(),(Fz.Le.refl _),trivial,N⟩;simp only [cJ,r];rfl;refine go fun a J=>?_;apply l;refine wP J rfl ?_;refine pE ?_;replace N:=N.dl [1];have r:wG e.name y=false:=by simp [wG,S,u,G,d0]
 refine ⟨?_,Ψr_,(),(Fz.Le.refl _),trivial,N⟩;simp only [cJ,r];rfl;refine go fun a J=>?_;apply l;refine wP J rfl ?_;refine pE ?_;replace N:=N.dl [1];have r:wG e.name y=false:=by simp [wG,u,G,S]
 refine ⟨?_,Ψr_,(),(Fz.Le.refl _),trivial,N⟩;simp only [cJ,r];rfl;replace t:=RTrc.mono _ _ _ _ b t;replace k:=k.mono b;replace s:=s.mono b;replace n:=RTFn.mono _ _ _ _ b n;replace D:=RTE.mono _ _ _ _ b D;replace m:=m.mono b;replace o:=RTFn.mono _ _ _ _ b o;replace f:=RTE.mono _ _ _ _ b f;replace N:=(Mem.mid (A:=[.blk Dk (.deferred (some []))]) (B:=[.blk R (ob [.string e.name] 9),.blk z (ob [.bool false] 4)]) (C:=yV ds++K) N).nq;replace N:=N.nm;refine go fun a J=>?_;replace N:=N.le ((d.1).trans b);refine f0 _ _ _ (by subst x0;omega) ⟨(i+1),((Dk::ds)),rfl,J.pk,N,?_⟩
 exact fun j_ g_ H P0=>by
  by_cases W:j_=i;subst W;exact .inr (by rw [show g_=Y from Option.some.inj (H.symm.trans P)];exact (show pU e.name Y.body=false from by have h_:=hr_;rw [z5g,sU] at h_;simpa using h_));exact V j_ g_ H (by omega)
 replace t:=RTrc.mono _ _ _ _ b t;replace k:=k.mono b;replace s:=s.mono b;replace n:=RTFn.mono _ _ _ _ b n;replace D:=RTE.mono _ _ _ _ b D;replace m:=m.mono b;replace o:=RTFn.mono _ _ _ _ b o;replace f:=RTE.mono _ _ _ _ b f;replace N:=(Mem.mid (A:=[.blk Dk (.deferred (some []))]) (B:=[.blk R (ob [.string e.name] 9),.blk z (ob [.bool false] 4)]) (C:=yV ds++K) N).nq;replace N:=N.nm;replace N:=N.le ((d.1).trans b);replace N:=N.dl [0];replace N:=(Mem.mid (A:=[.blk z (ob [.bool false] 4)]) (B:=yV (Dk::ds)) (C:=K) N).nq;refine hQ _ _ _ (q4j (ds:=(Dk::ds)) (v:=.bool false) J results49 rfl isAgg4 N fun w N=>?_);rw [j9n M P t0 (show pU e.name Y.body=true from by have h_:=hr_;rw [z5g,sU] at h_;simpa using h_)];exact ⟨rfl,N⟩;refine Sto 1 fun w N a J=>?_;refine go fun a J=>?_;replace N:=N.dl [0];replace N:=(Mem.mid (A:=[.blk z (ob [.bool true] 4)]) (B:=yV ds) (C:=K) N).nq;refine hQ _ _ _ (q4j (ds:=ds) (v:=.bool true) J results49 rfl isAgg4 N fun w N=>?_);rw [j5k M U (fun j_ g_ H=>V j_ g_ H (by have h_:=(List.getElem?_eq_some_iff.1 H).1;omega))];exact ⟨rfl,N⟩
def CAll (T:Trc) (n:Bs) (k:Nat):Prop:=(∃g∈T.funs,g.name=n)/\∀g∈T.funs,g.name=n->g.params.length=k
theorem z7n {T:Trc} (h:GoodP T) {f:TFn} (a:f∈T.funs):clT (CAll T) f.body:=(aU f.body [] []).2 fun y c b=>⟨(h.cl f a y c b).ex,(h.cl f a y c b).all⟩
theorem j1v {T:Trc} (a:FitP T) (b:∀f∈T.funs,gdT f.body) (c:∀f∈T.funs,clT (CAll T) f.body):GoodP T :=
 ⟨a,b,fun f g y i h=>let ⟨d,e⟩:=(aU f.body [] []).1 (c f g) y i h;⟨d,e⟩⟩
theorem j1b {C D:Bs->Nat->Prop} {e:TE} (h:clT C e) (N:∀y∈zF [] [] e,(y.x.kind=3∨y.x.kind=4∨y.x.kind=10)->C y.x.op y.x.args.length->D y.x.op y.x.args.length):clT D e :=
 (aU e [] []).2 fun y b a=>N y b a ((aU e [] []).1 h y b a)
theorem j2z {l:List TFn} {i:Nat} {f g:TFn} (h:l[i]? = some f) (b:zA g.body<=zA f.body):((l.set i g).map fun f=>zA f.body).sum<=(l.map fun f=>zA f.body).sum:=by
 induction l generalizing i with
 | nil=>simp at h
 | cons c l a=>
  cases i with
  | zero=>rw [List.getElem?_cons_zero] at h;cases h;rw [List.set_cons_zero,List.map_cons,List.map_cons,List.sum_cons,List.sum_cons];omega
  | succ i=>rw [List.getElem?_cons_succ] at h;rw [List.set_cons_succ,List.map_cons,List.map_cons,List.sum_cons,List.sum_cons];have:=a h;omega
theorem z5n:∀(l:List TFn) (i:Nat),((l.eraseIdx i).map fun f=>zA f.body).sum<=(l.map fun f=>zA f.body).sum
 | [],_=>by simp
 | c::l,0=>by rw [List.eraseIdx_cons_zero,List.map_cons,List.sum_cons];omega
 | c::l,i+1=>by rw [List.eraseIdx_cons_succ,List.map_cons,List.map_cons,List.sum_cons,List.sum_cons];have:=z5n l i;omega
theorem j9b {T:Trc} {i:Nat} {f:TFn} {b:TE} (e:T.funs[i]? = some f) {n:Bs} {k:Nat} (h:CAll T n k):CAll (jI T i b) n k:=by
 unfold jI;rw [e];obtain ⟨⟨g,p,a⟩,o⟩:=h;have l:=(List.getElem?_eq_some_iff.1 e).1;constructor
 ·obtain ⟨j,m⟩:=List.mem_iff_getElem?.1 p
  by_cases c:i=j
  ·subst c
   rw [e] at m;cases m;exact ⟨{ f with body:=b },List.mem_iff_getElem?.2 ⟨i,by simp only;rw [List.getElem?_set_self l]⟩,a⟩
  ·exact ⟨g,List.mem_iff_getElem?.2 ⟨j,by simp only;rw [List.getElem?_set_ne c];exact m⟩,a⟩
 ·intro q hq d
  simp only at hq;rcases List.mem_or_eq_of_mem_set hq with hq | rfl
  ·exact o q hq d
  ·exact o f (mgQ e) d
theorem x4k {T:Trc} {i:Nat} {f:TFn} {b:TE} (h:GoodP T) (d:T.funs[i]? = some f) (hb:gdT b) (e:clT (CAll T) b) (j:zA b<=zA f.body):GoodP (jI T i b):=by
 have c:jI T i b={ T with funs:=T.funs.set i { f with body:=b } }:=by unfold jI;rw [d]
 refine j1v ?_ (fun q hq=>?_) (fun q hq=>?_)
 ·have:=j2z (g:={ f with body:=b }) d j
  have a:=h.fit;rw [c];simp only [FitP,qF] at a ⊢;omega
 ·rw [c] at hq
  rcases List.mem_or_eq_of_mem_set hq with hq | rfl
  ·exact h.gd q hq
  ·exact hb
 ·refine j1b (C:=CAll T) ?_ (fun y _ _ a=>j9b d a)
  rw [c] at hq;rcases List.mem_or_eq_of_mem_set hq with hq | rfl
  ·exact z7n h hq
  ·exact e
theorem uI {α:Type} {l:List α} {i:Nat} {x:α} (h:x∈l.eraseIdx i):∃j,j≠i/\l[j]? = some x:=by
 obtain ⟨k,a⟩:=List.mem_iff_getElem?.1 h;rw [List.getElem?_eraseIdx] at a;split at a
 ·exact ⟨k,by omega,a⟩
 ·exact ⟨k+1,by omega,a⟩
theorem j5o {α:Type} {l:List α} {i j:Nat} {x:α} (a:l[j]? = some x) (b:j≠i):x∈l.eraseIdx i:=by
 by_cases h:j < i
 ·exact List.mem_iff_getElem?.2 ⟨j,by rw [List.getElem?_eraseIdx,if_pos h];exact a⟩
 ·exact List.mem_iff_getElem?.2 ⟨j - 1,by rw [List.getElem?_eraseIdx,if_neg (by omega),show j - 1+1=j from by omega];exact a⟩
theorem j5h {T:Trc} {i:Nat} (h:GoodP T) (c:xY T i=true):GoodP { T with funs:=T.funs.eraseIdx i }:=by
 cases m:T.funs[i]? with
 | none=>unfold xY at c;rw [m] at c;cases c
 | some f=>
  unfold xY at c;rw [m] at c;simp only [baQ,List.all_eq_true] at c;refine j1v ?_ (fun q hq=>?_) (fun q hq=>?_)
  ·have:=z5n T.funs i
   have d:=h.fit;simp only [FitP,qF] at d ⊢;omega
  ·obtain ⟨j,_,l⟩:=uI hq
   exact h.gd q (mgQ l)
  ·obtain ⟨j,o,l⟩:=uI hq
   refine j1b (z7n h (mgQ l)) (fun y u t s=>?_);have d:=c.2 j (List.mem_range.2 (List.getElem?_eq_some_iff.1 l).1);rw [l] at d;simp only [decide_eq_false o,Bool.false_or,Bool.not_eq_true'] at d
   have p:y.x.op≠f.name:=fun J=>by
    rw [<- sU f.name q.body [] []] at d;have:=List.any_eq_false.1 d y u;exact this (by unfold wG;rw [decide_eq_true t,decide_eq_true J];rfl)
   obtain ⟨⟨g,n,b⟩,r⟩:=s;refine ⟨?_,fun g n b=>?_⟩
   ·obtain ⟨k,a⟩:=List.mem_iff_getElem?.1 n
    refine ⟨g,j5o a (fun e=>?_),b⟩;subst e;rw [m] at a;cases a;exact p b.symm
   ·obtain ⟨k,_,a⟩:=uI n
    exact r g (mgQ a) b
theorem z2d {C:Bs->Nat->Prop}:∀(p:List Int) {e x:TE} {up u:List TE},gdT e->clT C e->yD up e p=some (u,x)->clT C x/\gdT x
 | [],e,x,up,u,c,h,b=>by rw [yD] at b;cases b;exact ⟨h,c⟩
 | i::p,e,x,up,u,c,h,b=>by
  rw [yD] at b;obtain ⟨z,f,g⟩:=Option.bind_eq_some_iff.1 b;refine z2d p (y8o c f) ?_ g;obtain ⟨j,_,k⟩:=gY (oC _ (q1y c)) f;rcases k with ⟨_,a,d,rfl⟩ | ⟨_,d⟩
  ·exact dE h (mgQ d)
  ·exact oI h (mgQ d)
theorem q6b {T U:Trc} {r:Rw} (h:GoodP T) (a:vF T r=.ok U):GoodP U:=by
 unfold vF at a;split at a
 ·cases a
 split at a
 ·cases a
 split at a
 ·split at a
  ·cases a
  ·rename_i l
   cases a;exact j5h h (by cases hq:xY T r.fn.toNat with | true=>rfl | false=>exact absurd (Or.inr (Or.inr hq)) l)
 ·split at a
  ·cases a
  rename_i f e;split at a
  ·cases a
  rename_i up x d;split at a
  ·cases a
  split at a
  ·cases a
  rename_i y c;cases a;unfold z8e at e;obtain ⟨q,hq,rfl⟩:=Option.map_eq_some_iff.1 e;have b:=mgQ hq;obtain ⟨g,i⟩:=z2d r.path (h.gd q b) (z7n h b) d;obtain ⟨j,k⟩:=z5e (gd_try i c) r.path (h.gd q b) d (y3d c);exact x4k h hq j (y8e (cl_try g c) r.path (z7n h b)) k
theorem z5v {T U:Trc} {r:Rw} (h:GoodP T) (a:xD T r=.ok U):GoodP U:=by
 unfold xD at a;split at a
 ·split at a
  ·cases a
  split at a
  ·cases a
  split at a
  ·cases a
  split at a
  ·cases a
  split at a
  ·rename_i b
   cases a;exact wV b
  ·cases a
 ·exact q6b h a
theorem tM {Φ:Fz}:∀(l:List TPar),Chunks (RTPar Φ) 2 (vL l) l
 | []=>rfl
 | p::l=>⟨[.string p.name,.bool p.mod],vL l,rfl,rfl,rfl,tM l⟩
def parM (ps:List TPar) (zs:List Atom) (m:Atoms):Atoms:=(ps.zip zs).foldl (fun m p=>qT m p.1.name p.2) m
theorem j6s {ps:List TPar} {zs:List Atom} {m:Atoms} {i:Nat} {p:TPar} {y:Atom} (a:ps[i]? = some p) (b:zs[i]? = some y):parM (ps.drop i) (zs.drop i) m=parM (ps.drop (i+1)) (zs.drop (i+1)) (qT m p.name y):=by
 rw [yM a,yM b];rfl
theorem x2w {ps:List TPar} {zs:List Atom} {m:Atoms} {i:Nat} (h:¬i < ps.length):parM (ps.drop i) (zs.drop i) m=m:=by rw [qV h];rfl
def OwnL (ol:List (Bs×Bool)) (l:List Bs):Prop:=∀n,(zK ol n).getD false=decide (n∈l)
theorem OwnL.start:OwnL [] ([]:List Bs):=fun _=>rfl
theorem OwnL.next {ol:List (Bs×Bool)} {ks:List TPar} {i:Nat} {p:TPar} (h:OwnL ol ((ks.take i).map TPar.name)) (d:ks[i]? = some p):OwnL (qT ol p.name true) ((ks.take (i+1)).map TPar.name):=fun n=>by
 rw [jJ d,List.map_append,List.map_singleton,yJ];by_cases a:n=p.name
 ·rw [if_pos a,decide_eq_true (List.mem_append_right _ (by rw [a];exact List.mem_singleton_self _))];rfl
 ·rw [if_neg a,h n]
  congr 1
  exact propext ⟨fun b=>List.mem_append_left _ b,fun b=>(List.mem_append.1 b).resolve_right fun c=>a (List.mem_singleton.1 c)⟩
theorem OwnL.done {ol:List (Bs×Bool)} {ks:List TPar} {i:Nat} (h:OwnL ol ((ks.take i).map TPar.name)) (hi:¬i < ks.length):OwnL ol (ks.map TPar.name):=by rwa [List.take_of_length_le (by omega)] at h
theorem nK (b:TE):0 < zA b:=by cases b;rw [zA];omega
section
variable {own:List Bs} {num:Int} {k:Nat} {b:TE} {m:Atoms} {l:List TE} {R:Option (TE×Atoms×List TE)}
def inlY (num:Int) (l:List TE) (b:TE):TE:=.mk b.kind (dN (num+(l.length:Int))) b.op b.num b.site b.args b.arms []
theorem inl_end (a:R=gN own num k b m l) (d:zA b<=k) (c:b.kind=8):R=some (b,m,l):=by
 obtain ⟨k,rfl⟩:∃j,k=j+1:=⟨k - 1,by have:=nK b;omega⟩;rw [a,gN,if_pos c]
theorem x2a (c:R=gN own num k b m l) (f:zA b<=k) (a:¬b.kind=8) (d:y8w b.kind=true) (e:¬dN (num+(l.length:Int))∈own):R=gN own num (k - 1) (jQ b) (qT m b.name ⟨dN (num+(l.length:Int)),0⟩) (l++[inlY num l b]):=by
 obtain ⟨k,rfl⟩:∃j,k=j+1:=⟨k - 1,by have:=nK b;omega⟩;rw [c,gN,if_neg a,if_pos ⟨d,e⟩];rfl
theorem inl_no1 (c:R=gN own num k b m l) (e:zA b<=k) (a:¬b.kind=8) (d:y8w b.kind=false):R=none:=by
 obtain ⟨k,rfl⟩:∃j,k=j+1:=⟨k - 1,by have:=nK b;omega⟩;rw [c,gN,if_neg a,if_neg (fun h=>by rw [d] at h;cases h.1)]
theorem inl_no2 (c:R=gN own num k b m l) (e:zA b<=k) (a:¬b.kind=8) (d:dN (num+(l.length:Int))∈own):R=none:=by
 obtain ⟨k,rfl⟩:∃j,k=j+1:=⟨k - 1,by have:=nK b;omega⟩;rw [c,gN,if_neg a,if_neg (fun h=>h.2 d)]
end
theorem j5w {k:Int} (h:y8w k=true):k=1∨k=2∨k=3∨k=6:=of_decide_eq_true h
theorem smT_inl {num:Int} {l:List TE} {b:TE} (h:smT b):smT (inlY num l b):=by
 have a:=(z1h b).1 h;exact (z1h _).2 ⟨a.1,a.2.1,Nat.zero_le _,a.2.2.2.1,trivial⟩
section
variable {T:Trc} {F g:TFn} {e:TE} {num:Int} {q:Nat} {ks:List TPar} {r:TE×Atoms×List TE} {t:TE}
theorem z9w (h:¬(0<=num/\num<=99999)):FnS.inline ⟨T,F⟩ e num=none:=if_neg h
theorem q2g (hq:gL T e.op=q) (a:T.funs[q]? = some g) (b:nH T F.name=none):FnS.inline ⟨T,F⟩ e num=none:=by
 unfold FnS.inline;split
 ·simp only [hq,a,Option.bind_some,b,Option.bind_none]
 ·rfl
theorem j5x (h:0<=num/\num<=99999) (hq:gL T e.op=q) (a:T.funs[q]? = some g) (b:nH T F.name=some ks):FnS.inline ⟨T,F⟩ e num=(gN (ks.map TPar.name) num (zA g.body) g.body (cO g.params e.args) []).bind fun r=>
    (FnS.put ⟨T,F⟩ [(e.name,pL r.2.1 (jW r.1 0))] (jQ e)).map fun out=>r.2.2.reverse.foldl (fun out y=>dR (zR r.2.1 y) out) out:=by
 unfold FnS.inline;rw [if_pos h];simp only [hq,a,Option.bind_some,b]
theorem z9v (a:FnS.inline ⟨T,F⟩ e num=(gN (ks.map TPar.name) num (zA g.body) g.body (cO g.params e.args) []).bind fun r=>
    (FnS.put ⟨T,F⟩ [(e.name,pL r.2.1 (jW r.1 0))] (jQ e)).map fun out=>r.2.2.reverse.foldl (fun out y=>dR (zR r.2.1 y) out) out) (hi:gN (ks.map TPar.name) num (zA g.body) g.body (cO g.params e.args) []=none):FnS.inline ⟨T,F⟩ e num=none:=by rw [a,hi];rfl
theorem aV {b:TE} {m:Atoms} {l:List TE} {a:Atom} {z:TE} {c:Unit} (d:FnS.inline ⟨T,F⟩ e num=(gN (ks.map TPar.name) num (zA g.body) g.body (cO g.params e.args) []).bind fun r=>
    (FnS.put ⟨T,F⟩ [(e.name,pL r.2.1 (jW r.1 0))] (jQ e)).map fun out=>r.2.2.reverse.foldl (fun out y=>dR (zR r.2.1 y) out) out) (hi:gN (ks.map TPar.name) num (zA g.body) g.body (cO g.params e.args) []=some (b,m,l)) (f:pL m (jW b 0)=a) (i:jQ e=z) (h:xQ (FnS.put ⟨T,F⟩ [(e.name,a)] z)=.error c):FnS.inline ⟨T,F⟩ e num=none:=by
 rw [d,hi,Option.bind_some];simp only;rw [f,i,yK h];rfl
theorem q7z {b:TE} {m:Atoms} {l:List TE} {a:Atom} {z:TE} (c:FnS.inline ⟨T,F⟩ e num=(gN (ks.map TPar.name) num (zA g.body) g.body (cO g.params e.args) []).bind fun r=>
    (FnS.put ⟨T,F⟩ [(e.name,pL r.2.1 (jW r.1 0))] (jQ e)).map fun out=>r.2.2.reverse.foldl (fun out y=>dR (zR r.2.1 y) out) out) (hi:gN (ks.map TPar.name) num (zA g.body) g.body (cO g.params e.args) []=some (b,m,l)) (d:pL m (jW b 0)=a) (h:jQ e=z) (f:xQ (FnS.put ⟨T,F⟩ [(e.name,a)] z)=.ok t):FnS.inline ⟨T,F⟩ e num=some ((vS l l.length).foldl (fun out y=>dR (zR m y.2) out) t):=by
 rw [c,hi,Option.bind_some];simp only;rw [d,h,zS f,Option.map_some,<- cI l,List.foldl_map]
end
theorem j6v {m:Atoms} {a y:Atom} (h:¬a.name=sNo) (b:zK m a.name=some y):pL m a=y:=by unfold pL;rw [if_neg h,b];rfl
theorem x3g {m:Atoms} {a:Atom} (b:jR (vA m) a.name=none):pL m a=a:=y6l (y4u b)
theorem lput_nm {m:Atoms} {k n:Bs} (h:∀p∈m,I64 p.2.num):∀p∈qT m k ⟨n,0⟩,I64 p.2.num:=y0i h (show I64 0 from by unfold I64;omega)
theorem uN {α σ:Type} {f:σ->α->σ}:∀(l:List α) (s:σ),aZ (fun s x=>(f s x,true)) (fun _ _=>false) s l=some (l.foldl f s,true)
 | [],_=>rfl
 | _::l,s=>uN l _
theorem j7p {P:Program} {Φ:Fz} {w:World} {α σ β:Type} {n gf f p1 p2:Nat} {E:List (Nat×Value)} {Dd:List Deferred} {a:Act} {g:Operand} {assign body:Code} {Q:Exit->Act->World->Prop} {fs cs:List Value} {fd:Func}
  (RA:Fz->Value->Value->α->Prop) (items:List α) (step:σ->α->σ) (G:Fz->σ->β->Prop) (KV:σ->β->List Res) (s0:σ) (z0:β)
  (r:P.funcs[f]? = some fd) (J:EnvR n E Dd a) (hG:G Φ s0 z0) (N:Mem Φ (KV s0 z0) w) (I:ev E g=some (.func (.func gf) fs.toArray cs.toArray)) (H:∀args w,(callFunc gf args).run P w=.ok (.enter gf args) w) (K:Nat.blt p1 n=true) (t:Nat.blt p2 n=true)
  (d:∀Ψ Ψ' s z,Ψ.Le Ψ'->G Ψ s z->G Ψ' s z)
  (L:∀Ψ s z v1 v2 x l i j K' a w,Φ.Le Ψ->x∈items->RA Ψ v1 v2 x->G Ψ s z->EnvR n ((p2,v2)::(p1,v1)::E) [] a->Mem Ψ (.blk l i::(KV s z++K')) w ->
   assign.wpIn (FO (some l)) 2 P (Exit.then (fun u v=>∃K1,Mem Ψ (.blk l i::K1) v/\∀k,Mem Ψ (.blk l j::K1) k ->
    body.wpIn (FO (some l)) 2 P (fun e _ w=>e=.normal/\∃Ψ' z',Ψ.Le Ψ'/\G Ψ' (step s x) z'/\Mem Ψ' (.blk l j::(KV (step s x) z'++K')) w) u k) (fun _ _ _=>False)) a w)
  (F:j0m P vB Φ gf fs cs RA items)
  (kn:∀Dk Ψ z a w,Φ.Le Ψ->G Ψ (items.foldl step s0) z->EnvR n E ({ target:=.collected Dk,args:=#[] }::Dd) a->Mem Ψ (.blk Dk (.deferred (some []))::KV (items.foldl step s0) z) w->Q .normal a w):wpB P f (Code.rangeFunc g #[p1,p2] assign body) Q a w:=by
 refine sD RA items .ret (fun s x=>(step s x,true)) (fun _ _=>false) (fun Ψ s _ z=>G Ψ s z) (fun s _ z=>KV s z) [] s0 z0 r J hG N I H K t (fun Ψ Ψ' s _ z=>d Ψ Ψ' s z) (fun Ψ s z v1 v2 x l i j K' a w m o p q y A=>?_) F (fun M b Dk Ψ z a w m o p q=>?_) (fun M b=>?_) (fun b=>?_)
 ·refine Code.wpIn_mono (fun e u v h=>?_) (L Ψ s z v1 v2 x l i j K' a w m o p q y A)
  cases e with
  | normal=>
   obtain ⟨K1,B,C⟩:=h;exact ⟨K1,B,fun k D=>Code.wpIn_mono (fun e a w h=>.inr ⟨rfl,h⟩) (C k D)⟩
  | exit id=>exact h
  | goto l=>exact h
  | ret=>exact h
  | panic c=>exact h
  | outgrown=>exact h
 ·rw [uN] at b;cases b;exact kn Dk Ψ z a w m o p q
 ·rw [uN] at b;cases b
 ·rw [uN] at b;cases b
def RBkV (Ψ:Fz) (v1 v2:Value) (y:Nat×TE):Prop:=v1=.int .i64 y.1/\∃c:List Value,v2=.agg c.toArray/\RTE Ψ c y.2
theorem gd_ok' (e:TE) (h:gdT e):okT e:=oC _ (q1y h)
theorem y4s {T:Trc} {F:TFn} {path:List Int} {up:List TE} {x:TE} (GP:GoodP T) (a:F∈T.funs) (h:yD [] F.body path=some (up,x)):(⟨path,up,x⟩:Fnd)∈zF [] [] F.body:=by
 have:=dC path (gd_ok' _ (GP.gd F a)) (p:=[]) h
 rwa [List.nil_append] at this
section
variable {T:Trc} {F:TFn} {ru fn nu:Int} {path:List Int} {n:Nat} {up:List TE} {x y:TE}
theorem j0o (h:ru < 1∨7 < ru):xD T ⟨ru,fn,path,nu⟩=.error 150:=by
 rw [vG (show ru≠6 from by omega),vF,if_pos h]
theorem ap_fn (c:¬(ru < 1∨7 < ru)) (a:fn < 0∨(T.funs.length:Int)<=fn):xD T ⟨ru,fn,path,nu⟩=.error 3:=by
 by_cases b:ru=6
 ·unfold xD;rw [if_pos b,if_pos a]
 ·rw [vG b,vF,if_neg c,if_pos a]
theorem z0g (a:ru=7) (b:n < T.funs.length) (h:path≠[]∨nu≠0∨xY T n=false):xD T ⟨ru,(n:Int),path,nu⟩=.error 150:=by
 rw [vG (show ru≠6 from by omega),vF,if_neg (show ¬(ru < 1∨7 < ru) from by omega),if_neg (show ¬((n:Int) < 0∨(T.funs.length:Int)<=(n:Int)) from by omega),if_pos a,Int.toNat_natCast,if_pos h]
theorem ap_drop (a:ru=7) (b:n < T.funs.length) (h:¬(path≠[]∨nu≠0∨xY T n=false)):xD T ⟨ru,(n:Int),path,nu⟩=.ok { T with funs:=T.funs.eraseIdx n }:=by
 rw [vG (show ru≠6 from by omega),vF,if_neg (show ¬(ru < 1∨7 < ru) from by omega),if_neg (show ¬((n:Int) < 0∨(T.funs.length:Int)<=(n:Int)) from by omega),if_pos a,Int.toNat_natCast,if_neg h]
theorem j0p (a:T.funs[n]? = some F):z8e T n=some ⟨T,F⟩:=by unfold z8e;rw [a];rfl
theorem q0e (d:¬(ru < 1∨7 < ru)) (e:¬ru=7) (c:T.funs[n]? = some F):xD T ⟨ru,(n:Int),path,nu⟩=match yD [] F.body path with
   | none=>.error 151
   | some (up,x)=>if nu≠0/\ru≠6 then .error 150 else match FnS.try6 ⟨T,F⟩ ru x up path nu with
    | none=>.error 150
    | some y=>if ru=6/\zM (jI T n (zY F.body path y))=false then .error 150 else .ok (jI T n (zY F.body path y)):=by
 have g:n < T.funs.length:=(List.getElem?_eq_some_iff.1 c).1;by_cases b:ru=6
 ·subst b
  unfold xD;rw [if_pos rfl,if_neg (show ¬((n:Int) < 0∨(T.funs.length:Int)<=(n:Int)) from by omega),Int.toNat_natCast,j0p c];simp only;cases yD [] F.body path with
  | none=>rfl
  | some p=>
   simp only;rw [if_neg (fun h=>h.2 rfl)];cases FnS.try6 ⟨T,F⟩ 6 p.2 p.1 path nu with
   | none=>rfl
   | some y=>
    simp only;cases f:zM (jI T n (zY F.body path y)) with
    | true=>rw [if_pos rfl,if_neg (by simp)]
    | false=>rw [if_neg (by simp),if_pos (by simp)]
 ·rw [vG b,vF,if_neg d,if_neg (show ¬((n:Int) < 0∨(T.funs.length:Int)<=(n:Int)) from by omega),if_neg e,Int.toNat_natCast,j0p c]
  simp only;cases yD [] F.body path with
  | none=>rfl
  | some p=>
   simp only;by_cases a:nu=0
   ·rw [if_neg (fun h=>h a),if_neg (fun h=>h.1 a),show FnS.try6 ⟨T,F⟩ ru p.2 p.1 path nu=FnS.try5 ⟨T,F⟩ ru p.2 p.1 path from by unfold FnS.try6;rw [if_neg b]]
    cases FnS.try5 ⟨T,F⟩ ru p.2 p.1 path with
    | none=>rfl
    | some y=>simp only;rw [if_neg (fun h=>b h.1)]
   ·rw [if_pos a,if_pos ⟨a,b⟩]
theorem q0f (a:¬(ru < 1∨7 < ru)) (b:¬ru=7) (c:T.funs[n]? = some F) (d:yD [] F.body path=none):xD T ⟨ru,(n:Int),path,nu⟩=.error 151:=by rw [q0e a b c,d]
theorem ap_num (a:¬(ru < 1∨7 < ru)) (c:¬ru=7) (d:T.funs[n]? = some F) (e:yD [] F.body path=some (up,x)) (f:¬nu=0) (b:¬ru=6):xD T ⟨ru,(n:Int),path,nu⟩=.error 150:=by rw [q0e a c d,e];simp only;rw [if_pos ⟨f,b⟩]
theorem ap_not (a:¬(ru < 1∨7 < ru)) (b:¬ru=7) (d:T.funs[n]? = some F) (e:yD [] F.body path=some (up,x)) (f:¬(¬nu=0/\¬ru=6)) {c:Unit} (g:xQ (FnS.try6 ⟨T,F⟩ ru x up path nu)=.error c):xD T ⟨ru,(n:Int),path,nu⟩=.error 150:=by rw [q0e a b d,e];simp only;rw [if_neg f,yK g]
theorem ap_bad (a:¬(ru < 1∨7 < ru)) (c:¬ru=7) (d:T.funs[n]? = some F) (e:yD [] F.body path=some (up,x)) (g:¬(¬nu=0/\¬ru=6)) (h:xQ (FnS.try6 ⟨T,F⟩ ru x up path nu)=.ok y) (b:ru=6) (f:zM (jI T n (zY F.body path y))=false):xD T ⟨ru,(n:Int),path,nu⟩=.error 150:=by rw [q0e a c d,e];simp only;rw [if_neg g,zS h];simp only;rw [if_pos ⟨b,f⟩]
theorem y7s (a:¬(ru < 1∨7 < ru)) (b:¬ru=7) (c:T.funs[n]? = some F) (d:yD [] F.body path=some (up,x)) (f:¬(¬nu=0/\¬ru=6)) (g:xQ (FnS.try6 ⟨T,F⟩ ru x up path nu)=.ok y) (e:ru=6->zM (jI T n (zY F.body path y))=true):xD T ⟨ru,(n:Int),path,nu⟩=.ok (jI T n (zY F.body path y)):=by
 rw [q0e a b c,d];simp only;rw [if_neg f,zS g];simp only;rw [if_neg fun h=>by rw [e h.1] at h;cases h.2]
theorem y2l (a:T.funs[n]? = some F) (b:TE):jI T n b={ T with funs:=T.funs.set n { F with body:=b } }:=by unfold jI;rw [a]
end
theorem q6a {T:Trc} {r:Rw} {c:Int} (h:vF T r=.error c):c≠0:=by
 unfold vF at h
 repeat' split at h
 all_goals first | (cases h;decide) | cases h
theorem z0h {T:Trc} {r:Rw} {c:Int} (h:xD T r=.error c):c≠0:=by
 unfold xD at h;split at h
 ·repeat' split at h
  all_goals first | (cases h;decide) | cases h
 ·exact q6a h
theorem z2m {T:Trc} (h:FitP T):T.funs.length<=20000:=by
 have key:∀l:List TFn,l.length<=(l.map fun f=>zA f.body).sum:=by
  intro l
  induction l with
  | nil=>simp
  | cons f l a=>rw [List.map_cons,List.sum_cons,lcQ];have:=nK f.body;omega
 have:=key T.funs;simp only [FitP,qF] at h;omega
def zTrc:List Value:=[.slice none 0 0,.slice none 0 0,.slice none 0 0,.slice none 0 0]
structure SmP (T:Trc):Prop where
 cons:T.cons.length<=300
 inputs:T.inputs.length<=6
 outputs:T.outputs.length<=6
 fields:∀c∈T.cons,c.fields.length<=16
 params:∀f∈T.funs,f.params.length<=16
theorem y8t {T:Trc} (h:qC T=true) {f:TFn} (a:f∈T.funs):f.params.length<=16:=by
 obtain ⟨i,hi⟩:=List.mem_iff_getElem?.1 a;simp only [qC,baQ,List.all_eq_true] at h;have:=h.1.2 i (List.mem_range.2 (List.getElem?_eq_some_iff.1 hi).1);rw [hi] at this;simp only [baQ,decide_eq_true_eq] at this;exact this.2
theorem z2b {T:Trc} (h:zM T=true):SmP T:=by
 simp only [zM,baQ,decide_eq_true_eq] at h;obtain ⟨⟨⟨⟨⟨⟨b,d⟩,k⟩,e⟩,l⟩,a⟩,m⟩:=h;exact ⟨b,d,e,fun c g=>let ⟨i,hi⟩:=List.mem_iff_getElem?.1 g;z2q a hi,fun f j=>y8t a j⟩
theorem y2m {T:Trc} {i:Nat} {b:TE} (h:SmP T):SmP (jI T i b):=by
 unfold jI;cases c:T.funs[i]? with
 | none=>exact h
 | some f=>
  refine ⟨h.cons,h.inputs,h.outputs,h.fields,fun g a=>?_⟩;rcases List.mem_or_eq_of_mem_set a with a | rfl
  ·exact h.params g a
  ·exact h.params f (mgQ c)
theorem j3u {T U:Trc} {r:Rw} (h:SmP T) (a:vF T r=.ok U):SmP U:=by
 unfold vF at a;split at a
 ·cases a
 split at a
 ·cases a
 split at a
 ·split at a
  ·cases a
  ·cases a
   exact ⟨h.cons,h.inputs,h.outputs,h.fields,fun g b=>h.params g (List.mem_of_mem_eraseIdx b)⟩
 split at a
 ·cases a
 split at a
 ·cases a
 split at a
 ·cases a
 split at a
 ·cases a
 ·cases a;exact y2m h
theorem y4x {T U:Trc} {r:Rw} (h:SmP T) (a:xD T r=.ok U):SmP U:=by
 unfold xD at a;split at a
 ·split at a
  ·cases a
  split at a
  ·cases a
  split at a
  ·cases a
  split at a
  ·cases a
  split at a
  ·cases a;exact y2m h
  ·cases a
 ·exact j3u h a
theorem x3f (a:Atom):pL [] a=a:=by unfold pL;split <;> rfl
theorem z5q (e:TE):zR [] e=e:=by
 refine pH (C:=fun e=>zR [] e=e) (fun e i hb=>?_) e
 have g:∀l:List TA,(∀a∈l,zR [] a.body=a.body)->withTa [] l=l:=by
  intro l
  induction l with
  | nil=>intro _;rfl
  | cons a l f=>
   intro h;cases a with
   | mk c vs b=>
    rw [withTa,f fun a d=>h a (mcQ _ d)];have:=h (.mk c vs b) msQ;rw [show (TA.mk c vs b).body=b from rfl] at this;rw [this]
 have d:∀l:List TE,(∀a∈l,zR [] a=a)->withTs [] l=l:=by
  intro l
  induction l with
  | nil=>intro _;rfl
  | cons a l f=>intro h;rw [withTs,f fun a d=>h a (mcQ _ d),h a msQ]
 cases e with
 | mk k nm op num site args arms body=>
  rw [zR,g arms i,d body hb]
  congr 1
  exact (List.map_congr_left fun a _=>x3f a).trans (List.map_id _)
theorem j0n {v:Value} (h:Value.oneCell' v=true):[v].all Value.oneCell'=true:=by rw [List.all_cons,h];rfl
def cH (T:Trc) (r:Rw):Except Int Trc:=if zM T=true then xD T r else .error 120
theorem z8b {T:Trc} {r:Rw} (h:zM T=false):cH T r=.error 120:=if_neg (by rw [h];simp)
theorem tZ {T:Trc} {r:Rw} (h:zM T=true):cH T r=xD T r:=if_pos h
def atC (T:Trc) (fn:Int) (path:List Int):Except Int TE :=
 if zM T=true then (if fn < 0∨(T.funs.length:Int)<=fn then .error 3 else match T.funs[fn.toNat]? with
  | none=>.error 3
  | some f=>match yD [] f.body path with | none=>.error 151 | some p=>.ok p.2)
 else .error 120
theorem atC_bad {T:Trc} {fn:Int} {path:List Int} (h:zM T=false):atC T fn path=.error 120:=if_neg (by rw [h];simp)
theorem atC_fn {T:Trc} {fn:Int} {path:List Int} (h:zM T=true) (a:fn < 0∨(T.funs.length:Int)<=fn):atC T fn path=.error 3:=by rw [atC,if_pos h,if_pos a]
theorem atC_at {T:Trc} {n:Nat} {F:TFn} {path:List Int} (h:zM T=true) (a:T.funs[n]? = some F):atC T (n:Int) path=match yD [] F.body path with | none=>.error 151 | some p=>.ok p.2:=by
 have b:=(List.getElem?_eq_some_iff.1 a).1;rw [atC,if_pos h,if_neg (by omega),Int.toNat_natCast,a]
theorem j4a {T:Trc} {n:Nat} {F:TFn} {path:List Int} (h:zM T=true) (a:T.funs[n]? = some F) (b:yD [] F.body path=none):atC T (n:Int) path=.error 151:=by rw [atC_at h a,b]
theorem atC_ok {T:Trc} {n:Nat} {F:TFn} {path:List Int} {p:List TE×TE} (h:zM T=true) (a:T.funs[n]? = some F) (b:yD [] F.body path=some p):atC T (n:Int) path=.ok p.2:=by rw [atC_at h a,b]
abbrev OptS:=Option (Trc×List Rw)
def gZ (T:Trc) (out:List Rw) (_:OptS) (x:Rw):OptS×Bool:=(vK T out [x],false)
theorem y6h {T:Trc} {out:List Rw}:∀l:List Rw,(zL (gZ T out) none l).1=vK T out l
 | []=>rfl
 | x::l=>by rw [uO (show (gZ T out none x).2=false from rfl)];rfl
theorem j6n {T:Trc} {out:List Rw}:∀{l:List Rw},(zL (gZ T out) none l).2=true->vK T out l=none
 | [],_=>rfl
 | x::l,h=>by rw [uO (show (gZ T out none x).2=false from rfl)] at h;cases h
def curT (T:Trc) (s:OptS):Trc:=(s.map Prod.fst).getD T
def curO (out:List Rw) (s:OptS):List Rw:=(s.map Prod.snd).getD out
theorem j7g {T:Trc} {out:List Rw} {s:OptS} {x:Rw} {c:Int} (a:x.rule≠6) (h:xD T x=.error c):gZ T out s x=(none,false):=by
 rw [vG a] at h;simp only [gZ,vK,h]
theorem q9q {T U:Trc} {out:List Rw} {s:OptS} {x:Rw} (a:x.rule≠6) (h:xD T x=.ok U) (hl:out.length=500):gZ T out s x=(none,false):=by
 rw [vG a] at h;simp only [gZ,vK,h,hl,if_true]
theorem x4n {T U:Trc} {out:List Rw} {s:OptS} {x:Rw} (a:x.rule≠6) (h:xD T x=.ok U) (hl:¬out.length=500):gZ T out s x=(some (U,out++[x]),false):=by
 rw [vG a] at h;simp only [gZ,vK,h,hl,if_false]
def optGd (T:Trc) (out:List Rw) (Ψ:Fz) (s:OptS) (b:Bool) (z:List Value×Value×List Value):Prop:=RTrc Ψ z.1 (curT T s)/\Chunks (RRw Ψ) 4 z.2.2 (curO out s)/\(curO out s).length<=500/\(b=true->s=none)
theorem optGd.mono {T:Trc} {out:List Rw} {Ψ Ψ':Fz} {s:OptS} {b:Bool} {z:List Value×Value×List Value} (h:optGd T out Ψ s b z) (hl:Ψ.Le Ψ'):optGd T out Ψ' s b z:=⟨RTrc.mono _ _ _ _ hl h.1,h.2.1.mono fun _ _ h=>RRw.mono _ _ _ _ hl h,h.2.2⟩
theorem z4y {T U:Trc} {o q:List Rw} {l:List Rw} (h:vK T o l=some (U,q)):∃r∈l,vF T r=.ok U/\q=o++[r]/\o.length≠500:=by
 cases l with
 | nil=>cases h
 | cons r l=>
  rw [vK] at h;split at h
  ·cases h
  ·rename_i V a
   split at h
   ·cases h
   ·rename_i hl
    cases h;exact ⟨r,msQ,a,rfl,hl⟩
theorem aF {T:Trc} {i:Nat} {r:Rw} (h:r∈qS T i):1<=r.rule/\r.rule<=5:=by
 unfold qS at h;split at h
 ·obtain ⟨y,_,a⟩:=List.mem_flatMap.1 h
  unfold jD at a;obtain ⟨q,hq,rfl⟩:=List.mem_map.1 a;have:=(List.mem_filter.1 hq).1;simp only [List.mem_cons,List.not_mem_nil,or_false] at this;simp only;omega
 ·cases h
theorem z1i {T:Trc} {r:Rw} (h:r∈jC T):r.rule≠6:=by
 unfold jC at h;rcases List.mem_append.1 h with h | h
 ·obtain ⟨i,_,h⟩:=List.mem_flatMap.1 h
  have:=aF h;omega
 ·obtain ⟨i,_,rfl⟩:=List.mem_map.1 h
  exact (by decide:(7:Int)≠6)
theorem q4v (T:Trc) (i:Nat) (b:TE):(jI T i b).funs.length=T.funs.length:=by
 unfold jI;split
 ·simp only [List.length_set]
 ·rfl
theorem j3v {T U:Trc} {r:Rw} (d:r.rule≠7) (h:vF T r=.ok U):U.funs.length=T.funs.length:=by
 rw [vF] at h;by_cases a:r.rule < 1∨7 < r.rule
 ·rw [if_pos a] at h;cases h
 rw [if_neg a] at h;by_cases b:r.fn < 0∨(T.funs.length:Int)<=r.fn
 ·rw [if_pos b] at h;cases h
 rw [if_neg b,if_neg d] at h;split at h
 ·cases h
 split at h
 ·cases h
 by_cases c:r.num≠0
 ·rw [if_pos c] at h;cases h
 rw [if_neg c] at h;split at h
 ·cases h
 ·cases h;exact q4v _ _ _
theorem y6g {T U:Trc} {o q:List Rw} {l:List Rw} (b:∀r∈l,r.rule≠6) (h:vK T o l=some (U,q)) (GP:GoodP T) (S:SmP T):GoodP U/\SmP U/\q.length=o.length+1:=by
 obtain ⟨r,d,c,rfl,_⟩:=z4y h;have a:xD T r=.ok U:=by rw [vG (b r d)];exact c
 exact ⟨z5v GP a,y4x S a,by rw [laQ,List.length_singleton]⟩
theorem x2n {T U:Trc} {o q:List Rw} {i:Nat} (h:vK T o (qS T i)=some (U,q)):U.funs.length=T.funs.length:=by
 obtain ⟨r,b,a,_⟩:=z4y h;have:=aF b;exact j3v (by omega) a
theorem x2i {k:Nat} {T U:Trc} {o q:List Rw} {i:Nat} {R:Trc×List Rw} (a:R=nZ k T o i) (b:0 < k) (h:vK T o (qS T i)=some (U,q)):R=nZ (k - 1) U q i:=by
 obtain ⟨k,rfl⟩:∃j,k=j+1:=⟨k - 1,by omega⟩;rw [a,nZ,h];rfl
theorem loop_no {k:Nat} {T:Trc} {o:List Rw} {i:Nat} {R:Trc×List Rw} (a:R=nZ k T o i) (b:0 < k) (h:vK T o (qS T i)=none):R=(T,o):=by
 obtain ⟨k,rfl⟩:∃j,k=j+1:=⟨k - 1,by omega⟩;rw [a,nZ,h]
def z1e (n i:Nat) (T:Trc) (o:List Rw):Trc×List Rw:=((List.range n).drop i).foldl (fun s i=>nZ 501 s.1 s.2 i) (T,o)
theorem x3r (n:Nat) (T:Trc) (o:List Rw):z1f n T o=z1e n 0 T o:=rfl
theorem q9h {n i:Nat} {T U:Trc} {o q:List Rw} {R:Trc×List Rw} (a:R=z1e n i T o) (hi:i < n) (h:nZ 501 T o i=(U,q)):R=z1e n (i+1) U q:=by
 rw [a,z1e,aB hi,List.foldl_cons,h];rfl
theorem y6r {n i:Nat} {T:Trc} {o:List Rw} {R:Trc×List Rw} (a:R=z1e n i T o) (hi:¬i < n):R=(T,o):=by
 rw [a,z1e,tO hi];rfl
theorem x2t {g:Nat} {T U V:Trc} {o p q:List Rw} {R:Trc×List Rw} (a:R=y3y g T o) (c:0 < g) (b:z1f T.funs.length T o=(U,p)) (h:vK U p (jC U)=some (V,q)):R=y3y (g - 1) V q:=by
 obtain ⟨g,rfl⟩:∃j,g=j+1:=⟨g - 1,by omega⟩;rw [a,y3y,b];simp only [h];rfl
theorem opt_end {g:Nat} {T U:Trc} {o p:List Rw} {R:Trc×List Rw} (a:R=y3y g T o) (c:0 < g) (b:z1f T.funs.length T o=(U,p)) (h:vK U p (jC U)=none):R=(U,p):=by
 obtain ⟨g,rfl⟩:∃j,g=j+1:=⟨g - 1,by omega⟩;rw [a,y3y,b];simp only [h]
def pk (toks:List Tok) (en n:Nat):Tok:=(toks[n]?).getD ⟨0,0,sNo,en⟩
theorem pk_at {toks:List Tok} {en n:Nat} {t:Tok} (h:toks[n]? = some t):pk toks en n=t:=by rw [pk,h];rfl
theorem pk_end {toks:List Tok} {en n:Nat} (h:¬n < toks.length):pk toks en n=⟨0,0,sNo,en⟩:=by rw [pk,List.getElem?_eq_none (by omega)];rfl
theorem z0e {toks:List Tok} {en n:Nat} (h:(pk toks en n).kind≠0):n < toks.length:=by
 apply Nat.lt_of_not_le;intro a;exact h (by rw [pk_end (by omega)])
theorem q9b {toks:List Tok} {en n:Nat} (a:∀t∈toks,I64 t.num):I64 (pk toks en n).num:=by
 cases h:toks[n]? with
 | none=>rw [pk,h];show I64 0;unfold I64;omega
 | some t=>rw [pk_at h];exact a t (mgQ h)
def isW (t:Tok) (s:Bs):Bool:=decide ((t.kind=5∨t.kind=6)/\t.text=s)
theorem isW_lt {toks:List Tok} {en n:Nat} {s:Bs} (h:isW (pk toks en n) s=true):n < toks.length:=z0e (by
 unfold isW at h;have b:=of_decide_eq_true h
 rcases b.1 with a | a <;> rw [a] <;> decide)
section
variable (toks:List Tok) (en:Nat)
def nT (n:Nat):Option Atom:=if (pk toks en n).kind=1 then some ⟨sNo,(pk toks en n).num⟩ else if (pk toks en n).kind=2 then some ⟨(pk toks en n).text,0⟩ else none
def tE {σ:Type} (el:Nat->σ->Option (Nat×σ)):Nat->Nat->σ->Option (Nat×σ)
 | 0,_,_=>none
 | k+1,n,s=>if isW (pk toks en n) ⟨#[41]⟩ then some (n+1,s) else if isW (pk toks en n) ⟨#[44]⟩ then (match el (n+1) s with | some p=>tE el k p.1 p.2 | none=>none) else none
def gU {σ:Type} (el:Nat->σ->Option (Nat×σ)) (k n:Nat) (s:σ):Option (Nat×σ) :=
 if isW (pk toks en n) ⟨#[40]⟩ then (if isW (pk toks en (n+1)) ⟨#[41]⟩ then some (n+2,s) else match el (n+1) s with | some p=>tE toks en el k p.1 p.2 | none=>none) else none
def z8h (n:Nat) (l:List Atom):Option (Nat×List Atom):=if l.length<=1000 then (match nT toks en n with | some a=>some (n+1,l++[a]) | none=>none) else none
def z0i (k n:Nat):Option (Nat×List Atom):=gU toks en (z8h toks en) k n []
def mN (k n:Nat):Option (Nat×TE) :=
 if isW (pk toks en n) ⟨#[105,110,112,117,116]⟩ then none
 else if (pk toks en n).kind=3 then (match z0i toks en k (n+1) with | some p=>some (p.1,.mk 2 sNo (pk toks en n).text 0 0 p.2 [] []) | none=>none)
 else match nT toks en n with
  | none=>none
  | some a=>
   if a.name=⟨#[109,111,100]⟩/\(pk toks en (n+1)).kind=1 then
    (if (pk toks en (n+2)).kind=2 then (match z0i toks en k (n+3) with | some p=>some (p.1,.mk 4 sNo (pk toks en (n+2)).text 0 (pk toks en (n+1)).num p.2 [] []) | none=>none) else none)
   else if a.name=⟨#[114,101,97,100]⟩/\(pk toks en (n+1)).kind=1 then
    (if (pk toks en (n+2)).kind=2 then some (n+3,.mk 5 sNo sNo 0 (pk toks en (n+1)).num [⟨(pk toks en (n+2)).text,0⟩] [] []) else none)
   else if a.name≠sNo/\isW (pk toks en (n+1)) ⟨#[40]⟩=true then none
   else if (pk toks en (n+1)).kind=6/\gP (pk toks en (n+1)).text=true then (match nT toks en (n+2) with | some b=>some (n+3,.mk 1 sNo (pk toks en (n+1)).text 0 0 [a,b] [] []) | none=>none)
   else none
def aL:Nat->Nat->List Bs->Option (Nat×List Bs)
 | 0,_,_=>none
 | k+1,n,l=>if l.length<=1000/\(pk toks en n).kind=2 then aL k (n+1) (l++[(pk toks en n).text]) else if (pk toks en n).kind=2 then none else some (n,l)
mutual
def pP:Nat->Nat->Option (Nat×TE)
 | 0,_=>none
 | k+1,n=>
  if isW (pk toks en n) ⟨#[108,101,116]⟩ then
   (if (pk toks en (n+1)).kind=2/\isW (pk toks en (n+2)) ⟨#[61]⟩=true then (match mN toks en k (n+3) with
    | some p=>if isW (pk toks en p.1) ⟨#[105,110]⟩ then (match pP k (p.1+1) with | some q=>some (q.1,.mk p.2.kind (pk toks en (n+1)).text p.2.op p.2.num p.2.site p.2.args [] [q.2]) | none=>none) else none
    | none=>none) else none)
  else if isW (pk toks en n) ⟨#[99,97,115,101]⟩ then
   (if (pk toks en (n+1)).kind=2/\isW (pk toks en (n+2)) ⟨#[111,102]⟩=true then (match armsR k (n+3) [] with
    | some p=>if isW (pk toks en p.1) ⟨#[101,110,100]⟩ then some (p.1+1,.mk 7 sNo sNo 0 0 [⟨(pk toks en (n+1)).text,0⟩] p.2 []) else none
    | none=>none) else none)
  else if isW (pk toks en n) ⟨#[61]⟩ then none
  else if isW (pk toks en n) ⟨#[58]⟩ then (match nT toks en (n+1) with | some a=>some (n+2,.mk 9 sNo sNo 0 0 [a] [] []) | none=>none)
  else none
def armsR:Nat->Nat->List TA->Option (Nat×List TA)
 | 0,_,_=>none
 | k+1,n,l=>
  if l.length<=1000/\(pk toks en n).kind=3 then (match aL toks en k (n+1) [] with
   | some p=>if isW (pk toks en p.1) ⟨#[61,62]⟩ then (match pP k (p.1+1) with
    | some q=>if isW (pk toks en q.1) ⟨#[124]⟩ then armsR k (q.1+1) (l++[.mk (pk toks en n).text p.2 q.2]) else some (q.1,l++[.mk (pk toks en n).text p.2 q.2])
    | none=>none) else none
   | none=>none)
  else none
end
def uG (n:Nat) (l:List Bool):Option (Nat×List Bool):=if 1000 < l.length then none else if isW (pk toks en n) ⟨#[42]⟩ then some (n+1,l++[true]) else if isW (pk toks en n) ⟨#[95]⟩ then some (n+1,l++[false]) else none
def y6k (n:Nat) (l:List TPar):Option (Nat×List TPar) :=
 if 1000 < l.length then none else if isW (pk toks en n) ⟨#[42]⟩ then (if (pk toks en (n+1)).kind=2 then some (n+2,l++[⟨(pk toks en (n+1)).text,true⟩]) else none)
 else if (pk toks en n).kind=2 then some (n+1,l++[⟨(pk toks en n).text,false⟩]) else none
def cK:Nat->Nat->List TCon->Option (Nat×List TCon)
 | 0,_,_=>none
 | k+1,n,l=>
  if isW (pk toks en n) ⟨#[100,97,116,97]⟩ then
   (if l.length<=1000/\(pk toks en (n+1)).kind=3/\isW (pk toks en (n+2)) ⟨#[58]⟩=true/\(pk toks en (n+3)).kind=3 then (match gU toks en (uG toks en) k (n+4) [] with
    | some p=>if isW (pk toks en p.1) ⟨#[59]⟩ then cK k (p.1+1) (l++[⟨(pk toks en (n+1)).text,(pk toks en (n+3)).text,p.2⟩]) else none
    | none=>none) else none)
  else some (n,l)
def sY:Nat->Nat->List TFn->Option (Nat×List TFn)
 | 0,_,_=>none
 | k+1,n,l=>
  if isW (pk toks en n) ⟨#[102,117,110]⟩ then
   (if l.length<=1000/\(pk toks en (n+1)).kind=2 then (match gU toks en (y6k toks en) k (n+2) [] with
    | some p=>if isW (pk toks en p.1) ⟨#[61,62]⟩ then (match pP toks en k (p.1+1) with
     | some q=>if isW (pk toks en q.1) ⟨#[59]⟩ then sY k (q.1+1) (l++[⟨(pk toks en (n+1)).text,true,p.2,q.2⟩]) else none
     | none=>none) else none
    | none=>none) else none)
  else if isW (pk toks en n) ⟨#[102,110]⟩ then none else some (n,l)
def tL:Nat->Nat->List Bs->Option (Nat×List Bs)
 | 0,_,_=>none
 | k+1,n,l=>
  if isW (pk toks en n) ⟨#[111,117,116,112,117,116]⟩ then (if l.length<=1000/\(pk toks en (n+1)).kind=2/\isW (pk toks en (n+2)) ⟨#[59]⟩=true then tL k (n+3) (l++[(pk toks en (n+1)).text]) else none)
  else some (n,l)
def mU (k:Nat):Option Trc:=match cK toks en k 0 [] with
 | some p=>if isW (pk toks en p.1) ⟨#[105,110,112,117,116]⟩ then none else (match sY toks en k p.1 [] with
  | some q=>(match tL toks en k q.1 [] with
   | some r=>if r.1 < toks.length then none else some ⟨p.2,[],q.2,r.2⟩
   | none=>none)
  | none=>none)
 | none=>none
end
section
variable {toks:List Tok} {en:Nat}
theorem uB {n:Nat} {a:Atom} (h:nT toks en n=some a):((pk toks en n).kind=1/\a=⟨sNo,(pk toks en n).num⟩)∨(¬(pk toks en n).kind=1/\(pk toks en n).kind=2/\a=⟨(pk toks en n).text,0⟩):=by
 unfold nT at h;by_cases b:(pk toks en n).kind=1
 ·rw [if_pos b] at h;cases h;exact .inl ⟨b,rfl⟩
 ·rw [if_neg b] at h
  by_cases c:(pk toks en n).kind=2
  ·rw [if_pos c] at h;cases h;exact .inr ⟨b,c,rfl⟩
  ·rw [if_neg c] at h;cases h
theorem zN {n:Nat} {a:Atom} (b:∀t∈toks,I64 t.num) (h:nT toks en n=some a):I64 a.num:=by
 rcases uB h with ⟨_,rfl⟩ | ⟨_,_,rfl⟩
 ·exact q9b b
 ·show I64 0;unfold I64;omega
theorem z8i {n n':Nat} {l l':List Atom} (h:z8h toks en n l=some (n',l')):l.length<=1000/\∃a,nT toks en n=some a/\n'=n+1/\l'=l++[a]:=by
 unfold z8h at h;split at h
 ·rename_i b
  split at h
  ·rename_i a c;cases h;exact ⟨b,a,c,rfl,rfl⟩
  ·cases h
 ·cases h
theorem z0w {σ:Type} {el:Nat->σ->Option (Nat×σ)} {k n n':Nat} {s s':σ} (h:gU toks en el k n s=some (n',s')):isW (pk toks en n) ⟨#[40]⟩=true:=by
 unfold gU at h;split at h
 ·assumption
 ·cases h
theorem y5y {σ:Type} {el:Nat->σ->Option (Nat×σ)} {k n n':Nat} {s s':σ} (h:gU toks en el k n s=some (n',s')) (a:isW (pk toks en (n+1)) ⟨#[41]⟩=true):n'=n+2/\s'=s:=by
 unfold gU at h;rw [if_pos (z0w h),if_pos a] at h;cases h;exact ⟨rfl,rfl⟩
theorem z6g {σ:Type} {el:Nat->σ->Option (Nat×σ)} {k n n':Nat} {s s':σ} (h:gU toks en el k n s=some (n',s')) (a:isW (pk toks en (n+1)) ⟨#[41]⟩=false):∃m t,el (n+1) s=some (m,t)/\tE toks en el k m t=some (n',s'):=by
 unfold gU at h;rw [if_pos (z0w h),if_neg (by rw [a];simp)] at h;split at h
 ·rename_i p b;exact ⟨p.1,p.2,b,h⟩
 ·cases h
theorem j6h {σ:Type} {el:Nat->σ->Option (Nat×σ)} {k n n':Nat} {s s':σ} (h:tE toks en el k n s=some (n',s')):0 < k:=by
 cases k with
 | zero=>cases h
 | succ k=>omega
theorem y5x {σ:Type} {el:Nat->σ->Option (Nat×σ)} {k n n':Nat} {s s':σ} (h:tE toks en el k n s=some (n',s')) (a:isW (pk toks en n) ⟨#[41]⟩=true):n'=n+1/\s'=s:=by
 cases k with
 | zero=>cases h
 | succ k=>rw [tE,if_pos a] at h;cases h;exact ⟨rfl,rfl⟩
theorem y0f {σ:Type} {el:Nat->σ->Option (Nat×σ)} {k n n':Nat} {s s':σ} (h:tE toks en el k n s=some (n',s')) (a:isW (pk toks en n) ⟨#[41]⟩=false):isW (pk toks en n) ⟨#[44]⟩=true/\∃m t,el (n+1) s=some (m,t)/\tE toks en el (k - 1) m t=some (n',s'):=by
 cases k with
 | zero=>cases h
 | succ k=>
  rw [tE,if_neg (by rw [a];simp)] at h;split at h
  ·rename_i b
   split at h
   ·rename_i p c;exact ⟨b,p.1,p.2,c,h⟩
   ·cases h
  ·cases h
section
variable {k n n':Nat} {y:TE}
theorem z1y (h:mN toks en k n=some (n',y)):isW (pk toks en n) ⟨#[105,110,112,117,116]⟩=false:=by
 cases a:isW (pk toks en n) ⟨#[105,110,112,117,116]⟩ with
 | false=>rfl
 | true=>unfold mN at h;rw [if_pos a] at h;cases h
theorem j4q (h:mN toks en k n=some (n',y)) (a:(pk toks en n).kind=3):∃l,z0i toks en k (n+1)=some (n',l)/\y=.mk 2 sNo (pk toks en n).text 0 0 l [] []:=by
 have c:=z1y h;unfold mN at h;rw [if_neg (by rw [c];simp),if_pos a] at h;split at h
 ·rename_i p b;cases h;exact ⟨_,b,rfl⟩
 ·cases h
theorem q6n (h:mN toks en k n=some (n',y)) (b:¬(pk toks en n).kind=3):∃a,nT toks en n=some a:=by
 have d:=z1y h;unfold mN at h;rw [if_neg (by rw [d];simp),if_neg b] at h;split at h
 ·cases h
 ·rename_i a c;exact ⟨a,c⟩
theorem z0m {a:Atom} (h:mN toks en k n=some (n',y)) (c:¬(pk toks en n).kind=3) (d:nT toks en n=some a):(if a.name=⟨#[109,111,100]⟩/\(pk toks en (n+1)).kind=1 then
    (if (pk toks en (n+2)).kind=2 then (match z0i toks en k (n+3) with | some p=>some (p.1,TE.mk 4 sNo (pk toks en (n+2)).text 0 (pk toks en (n+1)).num p.2 [] []) | none=>none) else none)
   else if a.name=⟨#[114,101,97,100]⟩/\(pk toks en (n+1)).kind=1 then
    (if (pk toks en (n+2)).kind=2 then some (n+3,TE.mk 5 sNo sNo 0 (pk toks en (n+1)).num [⟨(pk toks en (n+2)).text,0⟩] [] []) else none)
   else if a.name≠sNo/\isW (pk toks en (n+1)) ⟨#[40]⟩=true then none
   else if (pk toks en (n+1)).kind=6/\gP (pk toks en (n+1)).text=true then (match nT toks en (n+2) with | some b=>some (n+3,TE.mk 1 sNo (pk toks en (n+1)).text 0 0 [a,b] [] []) | none=>none)
   else none)=some (n',y):=by
 have e:=z1y h;unfold mN at h;rw [if_neg (by rw [e];simp),if_neg c,d] at h;exact h
theorem j4r {a:Atom} (h:mN toks en k n=some (n',y)) (d:¬(pk toks en n).kind=3) (f:nT toks en n=some a) (b:a.name=⟨#[109,111,100]⟩) (c:(pk toks en (n+1)).kind=1) :
  (pk toks en (n+2)).kind=2/\∃l,z0i toks en k (n+3)=some (n',l)/\y=.mk 4 sNo (pk toks en (n+2)).text 0 (pk toks en (n+1)).num l [] []:=by
 have h:=z0m h d f;rw [if_pos ⟨b,c⟩] at h;split at h
 ·rename_i e
  split at h
  ·rename_i p g;cases h;exact ⟨e,_,g,rfl⟩
  ·cases h
 ·cases h
theorem q6o {a:Atom} (h:mN toks en k n=some (n',y)) (e:¬(pk toks en n).kind=3) (g:nT toks en n=some a) (b:¬(a.name=⟨#[109,111,100]⟩/\(pk toks en (n+1)).kind=1)) (c:a.name=⟨#[114,101,97,100]⟩) (d:(pk toks en (n+1)).kind=1) :
  (pk toks en (n+2)).kind=2/\n'=n+3/\y=.mk 5 sNo sNo 0 (pk toks en (n+1)).num [⟨(pk toks en (n+2)).text,0⟩] [] []:=by
 have h:=z0m h e g;rw [if_neg b,if_pos ⟨c,d⟩] at h;split at h
 ·rename_i f;cases h;exact ⟨f,rfl,rfl⟩
 ·cases h
theorem z1z {a:Atom} (h:mN toks en k n=some (n',y)) (f:¬(pk toks en n).kind=3) (i:nT toks en n=some a) (d:¬(a.name=⟨#[109,111,100]⟩/\(pk toks en (n+1)).kind=1)) (e:¬(a.name=⟨#[114,101,97,100]⟩/\(pk toks en (n+1)).kind=1)) :
  ¬(a.name≠sNo/\isW (pk toks en (n+1)) ⟨#[40]⟩=true)/\(pk toks en (n+1)).kind=6/\gP (pk toks en (n+1)).text=true/\∃b,nT toks en (n+2)=some b/\n'=n+3/\y=.mk 1 sNo (pk toks en (n+1)).text 0 0 [a,b] [] []:=by
 have h:=z0m h f i;rw [if_neg d,if_neg e] at h;split at h
 ·cases h
 ·rename_i g
  split at h
  ·rename_i c
   split at h
   ·rename_i b hb;cases h;exact ⟨g,c.1,c.2,b,hb,rfl,rfl⟩
   ·cases h
  ·cases h
end
end
def z8f (l:List Atom):List Value:=l.flatMap fun a=>[.string a.name,.int .i64 a.num]
theorem j4b (l:List Atom) (a:Atom):z8f (l++[a])=z8f l++[.string a.name,.int .i64 a.num]:=by simp [z8f]
theorem j8q (l:List Atom):(z8f l).length=2 * l.length:=by
 induction l with
 | nil=>rfl
 | cons p l a=>simp only [z8f,List.flatMap_cons,laQ,lcQ,lnQ] at a ⊢;omega
theorem sN {Φ:Fz}:∀{l:List Atom},(∀a∈l,I64 a.num)->Chunks (RAtom Φ) 2 (z8f l) l
 | [],_=>rfl
 | a::l,h=>⟨[.string a.name,.int .i64 a.num],z8f l,rfl,rfl,⟨rfl,h a msQ⟩,sN fun b hb=>h b (mcQ _ hb)⟩
theorem y0e {toks:List Tok} {en:Nat} {σ:Type} {el:Nat->σ->Option (Nat×σ)} {Q:σ->Prop} (a:∀n s m t,el n s=some (m,t)->Q s->Q t):∀{k n n':Nat} {s s':σ},tE toks en el k n s=some (n',s')->Q s->Q s'
 | 0,_,_,_,_,h,_=>by cases h
 | k+1,n,n',s,s',h,hq=>by
  cases b:isW (pk toks en n) ⟨#[41]⟩ with
  | true=>obtain ⟨_,rfl⟩:=y5x h b;exact hq
  | false=>
   obtain ⟨_,m,t,c,d⟩:=y0f h b;exact y0e a (k:=k) d (a _ _ _ _ c hq)
theorem q8f {toks:List Tok} {en:Nat} {σ:Type} {el:Nat->σ->Option (Nat×σ)} {Q:σ->Prop} (a:∀n s m t,el n s=some (m,t)->Q s->Q t) {k n n':Nat} {s s':σ} (h:gU toks en el k n s=some (n',s')) (hq:Q s):Q s':=by
 cases b:isW (pk toks en (n+1)) ⟨#[41]⟩ with
 | true=>obtain ⟨_,rfl⟩:=y5y h b;exact hq
 | false=>obtain ⟨m,t,c,d⟩:=z6g h b;exact y0e a d (a _ _ _ _ c hq)
theorem z8k {toks:List Tok} {en k n n':Nat} {l:List Atom} (c:∀t∈toks,I64 t.num) (h:z0i toks en k n=some (n',l)):∀a∈l,I64 a.num :=
 q8f (Q:=fun l=>∀a∈l,I64 a.num) (fun n s m t h hq=>by
  obtain ⟨_,a,d,_,rfl⟩:=z8i h;intro b hb;rcases List.mem_append.1 hb with hb | hb
  ·exact hq b hb
  ·cases List.mem_singleton.1 hb;exact zN c d) h (fun _ h=>by cases h)
section
variable {P:Program} {n:Nat} {E:List (Nat×Value)} {D:List Deferred} {a:Act} {Φ:Fz} {K:List Res} {w:World}
variable {dst:Option Tmp} {ty:TypeId} {pos:String} {aft:Array Edge} {g:Option (Nat×Bool)} {Kn:Value->World->Prop} {Qp:List PanicEntry->World->Prop}
theorem z9e {t e:TypeId} {bytes sz:Nat} {l c:Operand} {z:Value} {cs:List Value} (j:RowT P t e sz bytes) (C:ZeroT P e z) (m:z.cells=cs.toArray) (o:cs.length=sz) (p:¬sz=0) (J:EnvR n E D a) (N:Mem Φ K w)
  (hl:ev E l=some (.int .i64 1)) (A:ev E c=some (.int .i64 1)) (hb:bytes<=140737488355328)
  (k:∀b w',Mem Φ (.blk b (ob cs e)::K) w'->Kn (.slice (some ⟨b,0,none⟩) 1 1) w'):Oper.eff P ⟨dst,.makeSlice t l c,ty,pos,aft,g⟩ a w Kn Qp:=by
 obtain ⟨inf,z',hi,hz',q,d,F⟩:=j.info;have y:=j.bpos;have B:IntKind.i64.wrap 1=1:=by decide
 unfold Oper.eff
 have:(execOp a.eval ⟨dst,.makeSlice t l c,ty,pos,aft,g⟩).run P w=.ok (.value (.slice (some ⟨w.heap.size,0,none⟩) 1 1)) { w with heap:=w.heap.push (ob cs e) }:=by
  simp only [execOp,J.ev hl,J.ev A];have u:(asIntOf (Value.int IntKind.i64 1)).run P w=.ok (.i64,1) w:=by simp [asIntOf,Sem.run]
  have f:¬(281474976710656 < (inf.bytes:Int)):=by rw [d];omega
  have s:¬(roomBytes < inf.bytes):=by rw [d];simp only [roomBytes];omega
  have v:(sizeOf e).run P w=.ok sz w:=by simp [sizeOf,typeInfo,hi,Sem.run_bind,q]
  have h:Array.map (fun x=>(cs.toArray:Array Value)[x % (cs.toArray:Array Value).size]!) (Array.range sz)=cs.toArray:=by
   apply Array.ext
   ·simp [o]
   ·intro i G f
    have r:i < cs.length:=by simpa using f
    simp [Nat.mod_eq_of_lt r]
    rw [List.getElem?_eq_getElem r];rfl
  simp [Instr.makeSlice,Sem.run_bind,run_underlying j.under,typeInfo,hi,asInt,u,B,f,askRoom,s,v,Result.andThen]
  simp only [C w,m,h]
  simp [newRow,ob,p]
 rw [this];exact k _ _ (N.push _)
end
section
variable {toks:List Tok} {en:Nat}
theorem y5d {k n:Nat} {r:Nat×TE} (h:pP toks en k n=some r):0 < k:=by
 cases k with
 | zero=>rw [pP] at h;cases h
 | succ k=>omega
theorem j8y {k n n':Nat} {e:TE} (h:pP toks en k n=some (n',e)) (f:isW (pk toks en n) ⟨#[108,101,116]⟩=true) :
  (pk toks en (n+1)).kind=2/\isW (pk toks en (n+2)) ⟨#[61]⟩=true/\∃m y,mN toks en (k - 1) (n+3)=some (m,y)/\isW (pk toks en m) ⟨#[105,110]⟩=true/\∃b,pP toks en (k - 1) (m+1)=some (n',b)/\e=.mk y.kind (pk toks en (n+1)).text y.op y.num y.site y.args [] [b]:=by
 cases k with
 | zero=>rw [pP] at h;cases h
 | succ k=>
  rw [pP,if_pos f] at h;split at h
  ·rename_i a
   split at h
   ·rename_i p d
    split at h
    ·rename_i c
     split at h
     ·rename_i q hq;cases h;exact ⟨a.1,a.2,_,_,d,c,_,hq,rfl⟩
     ·cases h
    ·cases h
   ·cases h
  ·cases h
theorem j4m {k n n':Nat} {e:TE} (h:pP toks en k n=some (n',e)) (b:isW (pk toks en n) ⟨#[108,101,116]⟩=false) (f:isW (pk toks en n) ⟨#[99,97,115,101]⟩=true) :
  (pk toks en (n+1)).kind=2/\isW (pk toks en (n+2)) ⟨#[111,102]⟩=true/\∃m l,armsR toks en (k - 1) (n+3) []=some (m,l)/\isW (pk toks en m) ⟨#[101,110,100]⟩=true/\n'=m+1/\e=.mk 7 sNo sNo 0 0 [⟨(pk toks en (n+1)).text,0⟩] l []:=by
 cases k with
 | zero=>rw [pP] at h;cases h
 | succ k=>
  rw [pP,if_neg (by rw [b];simp),if_pos f] at h;split at h
  ·rename_i a
   split at h
   ·rename_i p d
    split at h
    ·rename_i c;cases h;exact ⟨a.1,a.2,_,_,d,c,rfl,rfl⟩
    ·cases h
   ·cases h
  ·cases h
theorem j4l {k n n':Nat} {e:TE} (h:pP toks en k n=some (n',e)) (c:isW (pk toks en n) ⟨#[108,101,116]⟩=false) (d:isW (pk toks en n) ⟨#[99,97,115,101]⟩=false) :
  isW (pk toks en n) ⟨#[61]⟩=false/\isW (pk toks en n) ⟨#[58]⟩=true/\∃a,nT toks en (n+1)=some a/\n'=n+2/\e=.mk 9 sNo sNo 0 0 [a] [] []:=by
 cases k with
 | zero=>rw [pP] at h;cases h
 | succ k=>
  rw [pP,if_neg (by rw [c];simp),if_neg (by rw [d];simp)] at h;cases b:isW (pk toks en n) ⟨#[61]⟩ with
  | true=>rw [if_pos b] at h;cases h
  | false=>
   rw [if_neg (by rw [b];simp)] at h;split at h
   ·rename_i f
    split at h
    ·rename_i a g;cases h;exact ⟨rfl,f,a,g,rfl,rfl⟩
    ·cases h
   ·cases h
def z8d (toks:List Tok) (en k n:Nat) (l:List TA):Option (Nat×List TA):=match l with
 | []=>armsR toks en k n []
 | a::l=>if isW (pk toks en n) ⟨#[124]⟩ then armsR toks en k (n+1) (a::l) else some (n,a::l)
theorem j3w {k n n':Nat} {l r:List TA} (h:z8d toks en k n l=some (n',r)) (hl:¬l.length=0) (b:isW (pk toks en n) ⟨#[124]⟩=true):armsR toks en k (n+1) l=some (n',r):=by
 cases l with
 | nil=>exact absurd rfl hl
 | cons a l=>rw [z8d,if_pos b] at h;exact h
theorem j3x {k n n':Nat} {l r:List TA} (h:z8d toks en k n l=some (n',r)) (hl:¬l.length=0) (b:isW (pk toks en n) ⟨#[124]⟩=false):n'=n/\r=l:=by
 cases l with
 | nil=>exact absurd rfl hl
 | cons a l=>rw [z8d,if_neg (by rw [b];simp)] at h;cases h;exact ⟨rfl,rfl⟩
theorem j3y {k n n':Nat} {l r:List TA} (h:z8d toks en k n l=some (n',r)) (hl:l.length=0):armsR toks en k n l=some (n',r):=by
 cases l with
 | nil=>exact h
 | cons a l=>cases hl
theorem q0k {k n n':Nat} {l r:List TA} (h:armsR toks en k n l=some (n',r)):0 < k/\l.length<=1000/\(pk toks en n).kind=3/\∃m vs,aL toks en (k - 1) (n+1) []=some (m,vs)/\isW (pk toks en m) ⟨#[61,62]⟩=true/\∃q b,pP toks en (k - 1) (m+1)=some (q,b)/\z8d toks en (k - 1) q (l++[.mk (pk toks en n).text vs b])=some (n',r):=by
 cases k with
 | zero=>rw [armsR] at h;cases h
 | succ k=>
  rw [armsR] at h;split at h
  ·rename_i c
   split at h
   ·rename_i p f
    split at h
    ·rename_i d
     split at h
     ·rename_i q hq
      refine ⟨Nat.succ_pos _,c.1,c.2,_,_,f,d,_,_,hq,?_⟩
      obtain ⟨a,l',e⟩:∃a l',l++[TA.mk (pk toks en n).text p.2 q.2]=a::l':=by cases l with
       | nil=>exact ⟨_,_,rfl⟩
       | cons a l=>exact ⟨_,_,rfl⟩
      rw [e] at h ⊢;exact h
     ·cases h
    ·cases h
   ·cases h
  ·cases h
theorem y0l {k n m:Nat} {l vs:List Bs} (h:aL toks en k n l=some (m,vs)) (b:(pk toks en n).kind=2):0 < k/\l.length<=1000/\aL toks en (k - 1) (n+1) (l++[(pk toks en n).text])=some (m,vs):=by
 cases k with
 | zero=>rw [aL] at h;cases h
 | succ k=>
  rw [aL] at h;split at h
  ·rename_i a;exact ⟨Nat.succ_pos _,a.1,h⟩
  ·first | (cases h;done) | (rw [if_pos b] at h;cases h)
theorem y6e {k n m:Nat} {l vs:List Bs} (h:aL toks en k n l=some (m,vs)) (a:¬(pk toks en n).kind=2):m=n/\vs=l:=by
 cases k with
 | zero=>rw [aL] at h;cases h
 | succ k=>rw [aL,if_neg (fun h=>a h.2),if_neg a] at h;cases h;exact ⟨rfl,rfl⟩
end
theorem Row.one1 {Φ:Fz} {b k:Nat} {cs:List Value} (h:At Φ ⟨b,0,none⟩ cs) (hl:cs.length=k):Row Φ (.slice (some ⟨b,0,none⟩) 1 1) k cs :=
 .inr ⟨_,1,1,rfl,by omega,by decide,fun _=>h⟩
theorem Sees.gsSome {Φ:Fz} {K:List Res} {w:World} {i j m c k:Nat} {p:Option Addr} {T:TypeId} {cells:List Value} (N:Sees Φ K w) (d:yU K i=some (.gs (.slice p m c) T k cells)) (e:j < m):∃q,p=some q:=by
 obtain ⟨nn,_,a⟩:=N.own _ (yR d);rcases a with ⟨h,_⟩ | ⟨b,cap,cur,h,_⟩
 ·simp only [Value.slice.injEq] at h;omega
 ·simp only [Value.slice.injEq] at h;exact ⟨_,h.1⟩
theorem y5p {Φ:Fz} {K:List Res} {w:World} {i k:Nat} {T:TypeId} {v:Value} {cs:List Value} {m:Nat} (N:Mem Φ K w) (d:yU K i=some (.gs v T k cs)) (hl:cs.length=m * k) (a:0 < k):∃p cap,v=.slice p m cap:=by
 obtain ⟨p,m',c,rfl,b,_⟩:=N.toSees.gsForm d;have:m'=m:=Nat.eq_of_mul_eq_mul_right a (b.symm.trans hl);exact ⟨p,c,by rw [this]⟩
def zTA:TA:=.mk ⟨#[]⟩ [] (.mk 0 ⟨#[]⟩ ⟨#[]⟩ 0 0 [] [] [])
def zTAc:List Value:=[.string ⟨#[]⟩,.slice none 0 0,.int .i64 ((0:Nat):Int),.string ⟨#[]⟩,.string ⟨#[]⟩,.int .i64 ((0:Nat):Int),.int .i64 ((0:Nat):Int),.slice none 0 0,.slice none 0 0,.slice none 0 0]
theorem q4o (Φ:Fz):RTA Φ zTAc zTA :=
 ⟨_,_,rfl,rfl,SliceOf.nil 1,RTE.iff.2 ⟨_,_,_,rfl,(by show I64 0;unfold I64;omega),(by show I64 0;unfold I64;omega),SliceOf.nil 2,SliceOf.nil 10,SliceOf.nil 8⟩⟩
theorem q4w {α:Type} (l:List α) (a b:α):(l++[a]).set l.length b=l++[b]:=by rw [List.set_append_right _ _ (Nat.le_refl _),Nat.sub_self];rfl
def BodK (K:List Res) (cb0:Nat) (cpre0:List Value) (cT0:TypeId) (e:TE) (Φ:Fz) (PL:List Res) (cb:Nat) (cpre:List Value) (cT:TypeId) (x:TE):Prop :=
 ∀(Ψ:Fz) (R:Res) (w:World) (cells:List Value),Φ.Le Ψ->RTE Ψ cells x->Mem Ψ (R::.blk cb (ob (cpre++cells) cT)::(PL++K)) w->∃Ψ' cells',Ψ.Le Ψ'/\RTE Ψ' cells' e/\Mem Ψ' (R::.blk cb0 (ob (cpre0++cells') cT0)::K) w
section
variable {K:List Res} {cb0:Nat} {cpre0:List Value} {cT0:TypeId} {e:TE} {Φ Φ':Fz} {PL:List Res} {cb:Nat} {cpre:List Value} {cT:TypeId} {x:TE}
theorem BodK.id:BodK K cb cpre cT x Φ [] cb cpre cT x:=fun Ψ _ _ cells _ a N=>⟨Ψ,cells,.refl Ψ,a,N⟩
theorem BodK.mono (h:BodK K cb0 cpre0 cT0 e Φ PL cb cpre cT x) (hl:Φ.Le Φ'):BodK K cb0 cpre0 cT0 e Φ' PL cb cpre cT x:=fun Ψ R w cells a=>h Ψ R w cells (hl.trans a)
theorem BodK.step (h:BodK K cb0 cpre0 cT0 e Φ PL cb cpre cT x) (hl:Φ.Le Φ') {g:Nat} {av:Value} {kind num site:Int} {nm op:Bs} {args:List Atom} {b:TE} (r:x=.mk kind nm op num site args [] [b]) (q:I64 num) (O:I64 site) (p:SliceOf RAtom Φ' 2 av args) :
  BodK K cb0 cpre0 cT0 e Φ' (.blk cb (ob (cpre++[.int .i64 kind,.string nm,.string op,.int .i64 num,.int .i64 site,av,.slice none 0 0,.slice (some ⟨g,0,none⟩) 1 1]) cT)::PL) g [] 48 b:=by
 intro Ψ R w cells c l N;obtain ⟨n,a,j,d⟩:=N.freezeBlk (i:=1) (b:=g) (cs:=cells) (T:=48) rfl;subst r;obtain ⟨o,c2,f,m,k⟩:=h n R w _ (hl.trans (c.trans a)) (RTE.iff.2 ⟨_,_,_,rfl,q,O,p.mono RAtom.mono (c.trans a),SliceOf.nil 10,⟨cells,Row.one1 d l.len,yX l.len (RTE.mono _ _ _ _ a l)⟩⟩) j;exact ⟨o,c2,a.trans f,m,k⟩
end
def y3q (l:List Bool):List Value:=l.map .bool
theorem y5e (l:List Bool) (b:Bool):y3q (l++[b])=y3q l++[.bool b]:=by simp [y3q]
theorem q0x (l:List Bool):(y3q l).length=l.length:=by simp [y3q]
theorem z5z {Φ:Fz}:∀l:List Bool,Chunks (RBoo Φ) 1 (y3q l) l
 | []=>rfl
 | b::l=>⟨[.bool b],y3q l,rfl,rfl,rfl,z5z l⟩
section
variable {toks:List Tok} {en:Nat}
theorem q1n {n m:Nat} {l t:List Bool} (h:uG toks en n l=some (m,t)):l.length<=1000/\m=n+1/\((isW (pk toks en n) ⟨#[42]⟩=true/\t=l++[true])∨(isW (pk toks en n) ⟨#[42]⟩=false/\isW (pk toks en n) ⟨#[95]⟩=true/\t=l++[false])):=by
 unfold uG at h;split at h
 ·cases h
 ·rename_i c
  cases a:isW (pk toks en n) ⟨#[42]⟩ with
  | true=>rw [if_pos a] at h;cases h;exact ⟨by omega,rfl,.inl ⟨rfl,rfl⟩⟩
  | false=>
   rw [if_neg (by rw [a];simp)] at h;split at h
   ·rename_i b;cases h;exact ⟨by omega,rfl,.inr ⟨rfl,b,rfl⟩⟩
   ·cases h
theorem j6r {n m:Nat} {l t:List TPar} (h:y6k toks en n l=some (m,t)):l.length<=1000/\((isW (pk toks en n) ⟨#[42]⟩=true/\(pk toks en (n+1)).kind=2/\m=n+2/\t=l++[⟨(pk toks en (n+1)).text,true⟩])∨(isW (pk toks en n) ⟨#[42]⟩=false/\(pk toks en n).kind=2/\m=n+1/\t=l++[⟨(pk toks en n).text,false⟩])):=by
 unfold y6k at h;split at h
 ·cases h
 ·rename_i c
  cases b:isW (pk toks en n) ⟨#[42]⟩ with
  | true=>
   rw [if_pos b] at h;split at h
   ·rename_i a;cases h;exact ⟨by omega,.inl ⟨rfl,a,rfl,rfl⟩⟩
   ·cases h
  | false=>
   rw [if_neg (by rw [b];simp)] at h;split at h
   ·rename_i a;cases h;exact ⟨by omega,.inr ⟨rfl,a,rfl,rfl⟩⟩
   ·cases h
theorem j9m {k n m:Nat} {l r:List TCon} (h:cK toks en k n l=some (m,r)) (a:isW (pk toks en n) ⟨#[100,97,116,97]⟩=false):m=n/\r=l:=by
 cases k with
 | zero=>rw [cK] at h;cases h
 | succ k=>rw [cK,if_neg (by rw [a];simp)] at h;cases h;exact ⟨rfl,rfl⟩
theorem j5e {k n m:Nat} {l r:List TCon} (h:cK toks en k n l=some (m,r)) (d:isW (pk toks en n) ⟨#[100,97,116,97]⟩=true) :
  0 < k/\l.length<=1000/\(pk toks en (n+1)).kind=3/\isW (pk toks en (n+2)) ⟨#[58]⟩=true/\(pk toks en (n+3)).kind=3/\∃q fs,gU toks en (uG toks en) (k - 1) (n+4) []=some (q,fs)/\isW (pk toks en q) ⟨#[59]⟩=true/\cK toks en (k - 1) (q+1) (l++[⟨(pk toks en (n+1)).text,(pk toks en (n+3)).text,fs⟩])=some (m,r):=by
 cases k with
 | zero=>rw [cK] at h;cases h
 | succ k=>
  rw [cK,if_pos d] at h;split at h
  ·rename_i a
   split at h
   ·rename_i p c
    split at h
    ·rename_i b;exact ⟨Nat.succ_pos _,a.1,a.2.1,a.2.2.1,a.2.2.2,_,_,c,b,h⟩
    ·cases h
   ·cases h
  ·cases h
theorem fun_end {k n m:Nat} {l r:List TFn} (h:sY toks en k n l=some (m,r)) (b:isW (pk toks en n) ⟨#[102,117,110]⟩=false):isW (pk toks en n) ⟨#[102,110]⟩=false/\m=n/\r=l:=by
 cases k with
 | zero=>rw [sY] at h;cases h
 | succ k=>
  rw [sY,if_neg (by rw [b];simp)] at h;cases a:isW (pk toks en n) ⟨#[102,110]⟩ with
  | true=>rw [if_pos a] at h;cases h
  | false=>rw [if_neg (by rw [a];simp)] at h;cases h;exact ⟨rfl,rfl,rfl⟩
theorem x1b {k n m:Nat} {l r:List TFn} (h:sY toks en k n l=some (m,r)) (g:isW (pk toks en n) ⟨#[102,117,110]⟩=true) :
  0 < k/\l.length<=1000/\(pk toks en (n+1)).kind=2/\∃q ps,gU toks en (y6k toks en) (k - 1) (n+2) []=some (q,ps)/\isW (pk toks en q) ⟨#[61,62]⟩=true/\∃c b,pP toks en (k - 1) (q+1)=some (c,b)/\isW (pk toks en c) ⟨#[59]⟩=true/\sY toks en (k - 1) (c+1) (l++[⟨(pk toks en (n+1)).text,true,ps,b⟩])=some (m,r):=by
 cases k with
 | zero=>rw [sY] at h;cases h
 | succ k=>
  rw [sY,if_pos g] at h;split at h
  ·rename_i a
   split at h
   ·rename_i p f
    split at h
    ·rename_i d
     split at h
     ·rename_i q hq
      split at h
      ·rename_i e;exact ⟨Nat.succ_pos _,a.1,a.2,_,_,f,d,_,_,hq,e,h⟩
      ·cases h
     ·cases h
    ·cases h
   ·cases h
  ·cases h
theorem out_end {k n m:Nat} {l r:List Bs} (h:tL toks en k n l=some (m,r)) (a:isW (pk toks en n) ⟨#[111,117,116,112,117,116]⟩=false):m=n/\r=l:=by
 cases k with
 | zero=>rw [tL] at h;cases h
 | succ k=>rw [tL,if_neg (by rw [a];simp)] at h;cases h;exact ⟨rfl,rfl⟩
theorem x2u {k n m:Nat} {l r:List Bs} (h:tL toks en k n l=some (m,r)) (b:isW (pk toks en n) ⟨#[111,117,116,112,117,116]⟩=true) :
  0 < k/\l.length<=1000/\(pk toks en (n+1)).kind=2/\isW (pk toks en (n+2)) ⟨#[59]⟩=true/\tL toks en (k - 1) (n+3) (l++[(pk toks en (n+1)).text])=some (m,r):=by
 cases k with
 | zero=>rw [tL] at h;cases h
 | succ k=>
  rw [tL,if_pos b] at h;split at h
  ·rename_i a;exact ⟨Nat.succ_pos _,a.1,a.2.1,a.2.2,h⟩
  ·cases h
theorem q4d {k:Nat} {T:Trc} (h:mU toks en k=some T):∃b cs c fs d os,cK toks en k 0 []=some (b,cs)/\isW (pk toks en b) ⟨#[105,110,112,117,116]⟩=false/\sY toks en k b []=some (c,fs)/\tL toks en k c []=some (d,os)/\¬d < toks.length/\T=⟨cs,[],fs,os⟩:=by
 unfold mU at h;split at h
 ·rename_i p f
  cases a:isW (pk toks en p.1) ⟨#[105,110,112,117,116]⟩ with
  | true=>rw [if_pos a] at h;cases h
  | false=>
   rw [if_neg (by rw [a];simp)] at h;split at h
   ·rename_i q hq
    split at h
    ·rename_i r g
     split at h
     ·cases h
     ·rename_i e;cases h;exact ⟨_,_,_,_,_,_,f,a,hq,g,e,rfl⟩
    ·cases h
   ·cases h
 ·cases h
end
section
variable {L:List UInt8}
def bsL (L:List UInt8):Bs:=⟨L.toArray⟩
theorem mO:(bsL L).size=L.length:=by show L.toArray.size=L.length;simp
theorem bsL_get (i:Nat):(bsL L)[i]? = L[i]? := by
 rw [show (bsL L)[i]? = L.toArray[i]? from rfl];simp
theorem sR (a b:Nat):(bsL L).extract a b=bsL ((L.drop a).take (b - a)):=by
 apply ByteArray.ext
 simp [bsL,ByteArray.data_extract]
def hdL:List UInt8->Nat | []=>0 | c::_=>c.toNat
theorem sS (i:Nat):yW (bsL L) i=hdL (L.drop i):=by
 unfold yW;rw [bsL_get];cases h:L.drop i with
 | nil=>
  have:L.length<=i:=by simpa using h
  rw [List.getElem?_eq_none this];rfl
 | cons c l=>
  have:L[i]? = some c:=by rw [<- List.head?_drop,h];rfl
  rw [this];rfl
def cV (p:Nat->Bool):List UInt8->Nat
 | []=>0
 | c::l=>if p c.toNat then cV p l+1 else 0
theorem runB_L (p:Nat->Bool):∀(f i:Nat),L.length<=i+f->qH p (bsL L) f i=cV p (L.drop i)
 | 0,i,h=>by rw [List.drop_eq_nil_of_le (by omega)];rfl
 | f+1,i,h=>by
  rw [qH,mO,sS,runB_L p f (i+1) (by omega)];cases a:L.drop i with
  | nil=>
   have:L.length<=i:=by simpa using a
   rw [if_neg (by omega)];rfl
  | cons c l=>
   have hl:i < L.length:=by
    apply Nat.lt_of_not_le;intro e;rw [List.drop_eq_nil_of_le e] at a;cases a
   have d:L.drop (i+1)=l:=by rw [<- List.drop_drop,a];rfl
   rw [d];show (if i < L.length/\p c.toNat=true then cV p l+1 else 0)=if p c.toNat=true then cV p l+1 else 0
   by_cases b:p c.toNat=true
   ·rw [if_pos ⟨hl,b⟩,if_pos b]
   ·rw [if_neg (fun h=>b h.2),if_neg b]
theorem y2g (p:Nat->Bool) (i:Nat):qH p (bsL L) (bsL L).size i=cV p (L.drop i):=runB_L p _ i (by rw [mO];omega)
def y1w:List UInt8->List UInt8->Bool
 | [],_=>true
 | _::_,[]=>false
 | a::p,b::l=>decide (a=b)&&y1w p l
theorem preL_iff:∀{p l:List UInt8},y1w p l=true↔l.take p.length=p
 | [],l=>by simp [y1w]
 | a::p,[]=>by simp [y1w]
 | a::p,b::l=>by simp only [y1w,baQ,decide_eq_true_eq,lcQ,List.take_succ_cons,List.cons.injEq,preL_iff (p:=p) (l:=l)];constructor <;> (rintro ⟨c,d⟩;exact ⟨c.symm,d⟩)
theorem z5d (i:Nat) (p:List UInt8):kD ((bsL L).extract i (bsL L).size) (bsL p)=y1w p (L.drop i):=by
 have b:(bsL L).extract i (bsL L).size=bsL (L.drop i):=by
  rw [sR,mO,List.take_of_length_le (by simp)]
 rw [b];unfold kD;rw [mO,mO,sR,Bool.eq_iff_iff];simp only [baQ,decide_eq_true_eq,List.drop_zero,Nat.sub_zero];constructor
 ·rintro ⟨_,h⟩
  have c:((L.drop i).take p.length).toArray=p.toArray:=congrArg ByteArray.data h;have d:=congrArg Array.toList c;exact preL_iff.2 d
 ·intro h
  have a:=preL_iff.1 h;refine ⟨?_,by rw [a]⟩;have:=congrArg List.length a;rw [List.length_take] at this;omega
def tokL (l:List UInt8) (pos:Nat):Option (Tok×Nat) :=
 if yT (hdL l)=true then
  (if cV yT l=1/\hdL (l.drop 1)=32/\dM (bsL (l.take 1))=some ((hdL l:Int) - 48) then some (⟨1,(hdL l:Int) - 48,bsL (l.take 1),pos⟩,1) else none)
 else if hdL l=126 then none
 else if nI (hdL l)=true∨dX (hdL l)=true then
  (if hdL (l.drop (cV qX l))=39∨24 < cV qX l then none
   else some (⟨if y0a (bsL (l.take (cV qX l))) then 5 else if nI (hdL l)=true then 2 else 3,0,bsL (l.take (cV qX l)),pos⟩,cV qX l))
 else if hdL l=39 then none
 else if y1w [61,62] l=true∨y1w [45,62] l=true then some (⟨6,0,bsL (l.take 2),pos⟩,2)
 else if z6m (hdL l)=true then some (⟨6,0,bsL (l.take 1),pos⟩,1)
 else none
theorem j1c (i n:Nat):(bsL L).extract i (i+n)=bsL ((L.drop i).take n):=by rw [sR,Nat.add_sub_cancel_left]
theorem tokL_ok {i:Nat} {k:Tok×Nat} (h:tokL (L.drop i) i=some k):zV (bsL L) i=.ok k.1:=by
 unfold tokL at h;unfold zV;rw [sS];by_cases b:yT (hdL (L.drop i))=true
 ·rw [if_pos b] at h
  rw [if_pos (.inl b)];split at h
  ·rename_i f
   obtain ⟨m,c2,c3⟩:=f;cases h
   have O:vD (bsL L) i=0:=by
    unfold vD;rw [sS,if_neg];intro e;rw [e] at b;revert b;decide
   have j:xV (bsL L) i=1:=by unfold xV;rw [O,y2g,Nat.add_zero,m]
   have o:pJ (bsL L) i=bsL ((L.drop i).take 1):=by unfold pJ;rw [O,j,j1c]
   unfold tK;rw [o,c3];simp only;rw [O,j,sS,<- List.drop_drop,c2,if_neg (by decide)]
  ·cases h
 ·rw [if_neg b] at h
  by_cases g:hdL (L.drop i)=126
  ·rw [if_pos g] at h;cases h
  ·rw [if_neg g] at h
   rw [if_neg (by rintro (h | h);exact b h;exact g h)];by_cases c:nI (hdL (L.drop i))=true∨dX (hdL (L.drop i))=true
   ·rw [if_pos c] at h
    split at h
    ·cases h
    ·rename_i f
     cases h
     have hl:jM (bsL L) i=cV qX (L.drop i):=by
      unfold jM;rw [y2g,sS,<- List.drop_drop,if_neg (fun e=>f (.inl e))]
     have l:∀kd,kU (bsL L) i kd=.ok ⟨if y0a (bsL ((L.drop i).take (cV qX (L.drop i)))) then 5 else kd,0,bsL ((L.drop i).take (cV qX (L.drop i))),i⟩:=fun kd=>by
      unfold kU;rw [hl,j1c,if_neg (fun e=>f (.inr e))]
     by_cases a:nI (hdL (L.drop i))=true
     ·rw [if_pos a,l,if_pos a]
     ·rw [if_neg a,if_pos (c.resolve_left a),l,if_neg a]
   ·rw [if_neg c] at h
    rw [if_neg (fun e=>c (.inl e)),if_neg (fun e=>c (.inr e))];by_cases a:hdL (L.drop i)=39
    ·rw [if_pos a] at h;cases h
    ·rw [if_neg a] at h
     rw [if_neg (fun e=>a e.1)];rw [show (⟨#[61,62]⟩:Bs)=bsL [61,62] from rfl,show (⟨#[45,62]⟩:Bs)=bsL [45,62] from rfl,z5d,z5d];by_cases d:y1w [61,62] (L.drop i)=true∨y1w [45,62] (L.drop i)=true
     ·rw [if_pos d] at h;cases h
      rw [if_pos d];unfold vT;rw [if_neg (by decide),j1c]
     ·rw [if_neg d] at h
      rw [if_neg d];split at h
      ·rename_i n;cases h
       rw [if_pos n];unfold vT;rw [if_neg (by decide),j1c]
      ·cases h
theorem x4r {l:List UInt8} {i:Nat} {k:Tok×Nat} (h:tokL l i=some k) (a:k.2<=l.length):k.1.text.size=k.2:=by
 unfold tokL at h;have hb:∀n,n<=l.length->(bsL (l.take n)).size=n:=fun n b=>by rw [mO,List.length_take];omega
 repeat' split at h
 all_goals first | (cases h;done) | (cases h;exact hb _ a)
def j3c:Nat->List UInt8->Nat->Option (List Tok)
 | 0,_,_=>none
 | f+1,l,i=>
  if y1w [40,42] (l.drop (cV jU l))=true then none
  else match l.drop (cV jU l) with
   | []=>some []
   | c::m=>match tokL (c::m) (i+cV jU l) with
    | none=>none
    | some k=>if k.2<=(c::m).length then (match j3c f ((c::m).drop k.2) (i+cV jU l+k.2) with
     | none=>none
     | some r=>some (k.1::r)) else none
theorem q5l:∀{f i:Nat} {r:List Tok},i<=L.length->j3c f (L.drop i) i=some r->hM (bsL L) f i=.ok r
 | 0,_,_,_,h=>by cases h
 | f+1,i,r,hi,h=>by
  rw [j3c] at h;split at h
  ·cases h
  ·rename_i n
   have p:cR (bsL L) i=.ok (i+cV jU (L.drop i)):=by
    rw [z3h _ _ (by rw [mO];exact hi),y2g,show (⟨#[40,42]⟩:Bs)=bsL [40,42] from rfl,z5d,<- List.drop_drop,if_neg n]
   rw [hM,p];simp only;split at h
   ·rename_i e
    cases h;rw [List.drop_drop] at e;have:L.length<=i+cV jU (L.drop i):=by simpa using e
    rw [mO,if_neg (by omega)]
   ·rename_i c m e
    have a:L.drop (i+cV jU (L.drop i))=c::m:=by rw [<- List.drop_drop];exact e
    have l:i+cV jU (L.drop i) < L.length:=by
     apply Nat.lt_of_not_le;intro o;rw [List.drop_eq_nil_of_le o] at a;cases a
    rw [mO,if_pos l];split at h
    ·cases h
    ·rename_i k g
     split at h
     ·rename_i j
      split at h
      ·cases h
      ·rename_i q d
       cases h;rw [<- a] at g;rw [tokL_ok g];have O:=x4r g (by rw [a];exact j);rw [<- a,List.drop_drop] at d
       have b:i+cV jU (L.drop i)+k.2<=L.length:=by
        have:=congrArg List.length a;rw [List.length_drop] at this;omega
       simp only;rw [O,q5l b d]
     ·cases h
end
def text0L:List UInt8:=[100,97,116,97,32,78,105,108,32,58,32,76,105,115,116,32,40,32,41,32,59,32,100,97,116,97,32,67,111,110,115,32,58,32,76,105,115,116,32,40,32,95,32,41,32,59,32,102,117,110,32,107,101,101,112,32,40,32,120,32,41,32,61,62,32,58,32,120,32,59,32,102,117,110,32,109,97,105,110,32,40,32,41,32,61,62,32,108,101,116,32,120,32,61,32,50,32,43,32,51,32,105,110,32,108,101,116,32,121,32,61,32,67,111,110,115,32,40,32,120,32,41,32,105,110,32,99,97,115,101,32,121,32,111,102,32,78,105,108,32,61,62,32,58,32,48,32,124,32,67,111,110,115,32,122,32,61,62,32,108,101,116,32,119,32,61,32,122,32,43,32,48,32,105,110,32,108,101,116,32,109,32,61,32,109,111,100,32,49,32,107,101,101,112,32,40,32,122,32,41,32,105,110,32,108,101,116,32,114,32,61,32,114,101,97,100,32,50,32,109,32,105,110,32,58,32,114,32,101,110,100,32,59,32,111,117,116,112,117,116,32,109,97,105,110,32,59]
def text0:Bs:=⟨#[100,97,116,97,32,78,105,108,32,58,32,76,105,115,116,32,40,32,41,32,59,32,100,97,116,97,32,67,111,110,115,32,58,32,76,105,115,116,32,40,32,95,32,41,32,59,32,102,117,110,32,107,101,101,112,32,40,32,120,32,41,32,61,62,32,58,32,120,32,59,32,102,117,110,32,109,97,105,110,32,40,32,41,32,61,62,32,108,101,116,32,120,32,61,32,50,32,43,32,51,32,105,110,32,108,101,116,32,121,32,61,32,67,111,110,115,32,40,32,120,32,41,32,105,110,32,99,97,115,101,32,121,32,111,102,32,78,105,108,32,61,62,32,58,32,48,32,124,32,67,111,110,115,32,122,32,61,62,32,108,101,116,32,119,32,61,32,122,32,43,32,48,32,105,110,32,108,101,116,32,109,32,61,32,109,111,100,32,49,32,107,101,101,112,32,40,32,122,32,41,32,105,110,32,108,101,116,32,114,32,61,32,114,101,97,100,32,50,32,109,32,105,110,32,58,32,114,32,101,110,100,32,59,32,111,117,116,112,117,116,32,109,97,105,110,32,59]⟩
def toks0:List Tok:=[⟨5,0,⟨#[100,97,116,97]⟩,0⟩,⟨3,0,⟨#[78,105,108]⟩,5⟩,⟨6,0,⟨#[58]⟩,9⟩,⟨3,0,⟨#[76,105,115,116]⟩,11⟩,⟨6,0,⟨#[40]⟩,16⟩,⟨6,0,⟨#[41]⟩,18⟩,⟨6,0,⟨#[59]⟩,20⟩,⟨5,0,⟨#[100,97,116,97]⟩,22⟩,⟨3,0,⟨#[67,111,110,115]⟩,27⟩,⟨6,0,⟨#[58]⟩,32⟩,⟨3,0,⟨#[76,105,115,116]⟩,34⟩,⟨6,0,⟨#[40]⟩,39⟩,⟨6,0,⟨#[95]⟩,41⟩,⟨6,0,⟨#[41]⟩,43⟩,⟨6,0,⟨#[59]⟩,45⟩,⟨5,0,⟨#[102,117,110]⟩,47⟩,⟨2,0,⟨#[107,101,101,112]⟩,51⟩,⟨6,0,⟨#[40]⟩,56⟩,⟨2,0,⟨#[120]⟩,58⟩,⟨6,0,⟨#[41]⟩,60⟩,⟨6,0,⟨#[61,62]⟩,62⟩,⟨6,0,⟨#[58]⟩,65⟩,⟨2,0,⟨#[120]⟩,67⟩,⟨6,0,⟨#[59]⟩,69⟩,⟨5,0,⟨#[102,117,110]⟩,71⟩,⟨2,0,⟨#[109,97,105,110]⟩,75⟩,⟨6,0,⟨#[40]⟩,80⟩,⟨6,0,⟨#[41]⟩,82⟩,⟨6,0,⟨#[61,62]⟩,84⟩,⟨5,0,⟨#[108,101,116]⟩,87⟩,⟨2,0,⟨#[120]⟩,91⟩,⟨6,0,⟨#[61]⟩,93⟩,⟨1,2,⟨#[50]⟩,95⟩,⟨6,0,⟨#[43]⟩,97⟩,⟨1,3,⟨#[51]⟩,99⟩,⟨5,0,⟨#[105,110]⟩,101⟩,⟨5,0,⟨#[108,101,116]⟩,104⟩,⟨2,0,⟨#[121]⟩,108⟩,⟨6,0,⟨#[61]⟩,110⟩,⟨3,0,⟨#[67,111,110,115]⟩,112⟩,⟨6,0,⟨#[40]⟩,117⟩,⟨2,0,⟨#[120]⟩,119⟩,⟨6,0,⟨#[41]⟩,121⟩,⟨5,0,⟨#[105,110]⟩,123⟩,⟨5,0,⟨#[99,97,115,101]⟩,126⟩,⟨2,0,⟨#[121]⟩,131⟩,⟨5,0,⟨#[111,102]⟩,133⟩,⟨3,0,⟨#[78,105,108]⟩,136⟩,⟨6,0,⟨#[61,62]⟩,140⟩,⟨6,0,⟨#[58]⟩,143⟩,⟨1,0,⟨#[48]⟩,145⟩,⟨6,0,⟨#[124]⟩,147⟩,⟨3,0,⟨#[67,111,110,115]⟩,149⟩,⟨2,0,⟨#[122]⟩,154⟩,⟨6,0,⟨#[61,62]⟩,156⟩,⟨5,0,⟨#[108,101,116]⟩,159⟩,⟨2,0,⟨#[119]⟩,163⟩,⟨6,0,⟨#[61]⟩,165⟩,⟨2,0,⟨#[122]⟩,167⟩,⟨6,0,⟨#[43]⟩,169⟩,⟨1,0,⟨#[48]⟩,171⟩,⟨5,0,⟨#[105,110]⟩,173⟩,⟨5,0,⟨#[108,101,116]⟩,176⟩,⟨2,0,⟨#[109]⟩,180⟩,⟨6,0,⟨#[61]⟩,182⟩,⟨2,0,⟨#[109,111,100]⟩,184⟩,⟨1,1,⟨#[49]⟩,188⟩,⟨2,0,⟨#[107,101,101,112]⟩,190⟩,⟨6,0,⟨#[40]⟩,195⟩,⟨2,0,⟨#[122]⟩,197⟩,⟨6,0,⟨#[41]⟩,199⟩,⟨5,0,⟨#[105,110]⟩,201⟩,⟨5,0,⟨#[108,101,116]⟩,204⟩,⟨2,0,⟨#[114]⟩,208⟩,⟨6,0,⟨#[61]⟩,210⟩,⟨2,0,⟨#[114,101,97,100]⟩,212⟩,⟨1,2,⟨#[50]⟩,217⟩,⟨2,0,⟨#[109]⟩,219⟩,⟨5,0,⟨#[105,110]⟩,221⟩,⟨6,0,⟨#[58]⟩,224⟩,⟨2,0,⟨#[114]⟩,226⟩,⟨5,0,⟨#[101,110,100]⟩,228⟩,⟨6,0,⟨#[59]⟩,232⟩,⟨5,0,⟨#[111,117,116,112,117,116]⟩,234⟩,⟨2,0,⟨#[109,97,105,110]⟩,241⟩,⟨6,0,⟨#[59]⟩,246⟩]
def tokB (a b:Tok):Bool:=decide (a.kind=b.kind)&&decide (a.num=b.num)&&decide (a.text=b.text)&&decide (a.org=b.org)
def j3b:List Tok->List Tok->Bool
 | [],[]=>true
 | a::l,b::m=>tokB a b&&j3b l m
 | _,_=>false
theorem tokB_eq {a b:Tok} (h:tokB a b=true):a=b:=by
 obtain ⟨g,a2,a3,a4⟩:=a;obtain ⟨i,j,k,l⟩:=b;simp only [tokB,baQ,decide_eq_true_eq] at h;obtain ⟨⟨⟨c,d⟩,e⟩,f⟩:=h;subst c d e f;rfl
theorem q5k:∀{a b:List Tok},j3b a b=true->a=b
 | [],[],_=>rfl
 | a::l,b::m,h=>by
  simp only [j3b,baQ] at h;rw [tokB_eq h.1,q5k h.2]
 | [],b::m,h=>by cases h
 | a::l,[],h=>by cases h
def toksT (r:Option (List Tok)):Bool:=match r with | some l=>j3b l toks0 | none=>false
set_option maxRecDepth 100000 in
theorem toks0_b:toksT (j3c (text0L.length+1) text0L 0)=true:=by decide +kernel
theorem x4t:pN text0=.ok toks0:=by
 have h:=toks0_b;unfold toksT at h;split at h
 ·rename_i l hl
  have a:=q5l (L:=text0L) (f:=text0L.length+1) (i:=0) (r:=l) (Nat.zero_le _) hl;rw [<- q5k h,<- a];rfl
 ·cases h
def T0:Trc:=(mU toks0 text0.size 100).getD ⟨[],[],[],[]⟩
theorem x2s {α:Type} {o:Option α} {d:α} (h:o.isSome=true):o=some (o.getD d):=by
 cases o with
 | none=>cases h
 | some x=>rfl
set_option maxRecDepth 100000
theorem T0_some:mU toks0 text0.size 100=some T0:=x2s (by decide +kernel)
theorem j7z:zM T0=true:=by decide +kernel
theorem j3o:qF T0=9:=by decide +kernel
def okL (l:List Rw):Bool:=match l with | [r,_,_,_]=>decide (r.rule=1) | _=>false
theorem q0c:okL (qM T0)=true:=by decide +kernel
def okA (r:Except Int Trc):Bool:=match r with
 | .ok U=>(match atC U 1 [] with | .ok x=>decide (x.kind=2)&&(match x.args with | [a]=>decide (a.num=5) | _=>false) | .error _=>false)
 | .error _=>false
theorem j7y:okA (cH T0 ⟨1,1,[],0⟩)=true:=by decide +kernel
def okE (r:Except Int Trc):Bool:=match r with | .ok _=>false | .error c=>decide (c=150)
theorem T0_bad:okE (cH T0 ⟨2,1,[],0⟩)=true:=by decide +kernel
def okO (r:Trc×List Rw):Bool:=decide (4<=r.2.length)&&zM r.1&&decide (qF r.1=1)
theorem T0_opt:okO (xL T0)=true:=by decide +kernel
theorem T0_toks:∀t∈toks0,I64 t.num:=by
 have h:toks0.all (fun t=>decide (-9223372036854775808<=t.num/\t.num<=9223372036854775807))=true:=by decide +kernel
 intro t b;have a:=List.all_eq_true.1 h t b;simp only [decide_eq_true_eq] at a;unfold I64;omega
section
variable {Φ:Fz} {K:List Res} {w:World}
theorem cU {rb en n:Nat} {tv:Value} {toks:List Tok} (k:SliceOf RTok Φ 4 tv toks) (N:Mem Φ (.blk rb (ob [tv,.int .i64 en,.int .i64 n] 135)::K) w) :
  Calls prog 146 #[.pointer (some ⟨rb,0,none⟩)] w (fun ee w'=>ee=.returned (.agg (z1j (pk toks en n)).toArray)/\Mem Φ (.blk rb (ob [tv,.int .i64 en,.int .i64 n] 135)::K) w'):=by
 obtain ⟨p1,c2,rfl,j,e⟩:=k.fm;refine zJ func146 ntmps146 fun Q hQ a J=>?_;refine Alc fun o w N a J=>?_;refine Reg [1,1,1,2,1,1,1,2,1,1] [0,1] fun w N a J=>?_;by_cases g:n < toks.length;refine Reg [1,1,1,2,1,1,1,2,1,2,0] [0,1] fun w N a J=>?_;refine go fun a J=>?_;obtain ⟨l,rfl,m,d,f,i,h,c⟩:=k.el e g;obtain rfl:=id c;refine Sto 0 fun w N a J=>?_;refine go fun a J=>?_;have b:=N;replace N:=N.dl [0];refine kN (N:=b) ?_;rw [pk_at d];exact ⟨rfl,N⟩;refine yE fun a J=>?_;refine Sto 0 fun w N a J=>?_;refine go fun a J=>?_;have b:=N;replace N:=N.dl [0];refine kN (N:=b) ?_;rw [pk_end g];exact ⟨rfl,N⟩
theorem is_ok {rb en n:Nat} {tv:Value} {toks:List Tok} {s:Bs} (g:SliceOf RTok Φ 4 tv toks) (N:Mem Φ (.blk rb (ob [tv,.int .i64 en,.int .i64 n] 135)::K) w) :
  Calls prog 116 #[.pointer (some ⟨rb,0,none⟩),.string s] w (fun ee w'=>ee=.returned (.bool (isW (pk toks en n) s))/\Mem Φ (.blk rb (ob [tv,.int .i64 en,.int .i64 n] 135)::K) w'):=by
 obtain ⟨p1,c2,rfl,f,h⟩:=g.fm;refine zJ func116 ntmps116 fun Q hQ a J=>?_;refine zE call146 (fun w N a J=>?_) (c:=cU g N);refine Alc fun i w N a J=>?_;refine Sto 0 fun w N a J=>?_;by_cases e:(pk toks en n).kind=5;refine Qq (fun a J=>?_) (o:=by exact fun J O=>z4e J rfl rfl);refine yG ?_;replace N:=N.dl [0];refine ⟨congrArg (fun b=>Ending.returned (.bool b)) ?_,N⟩;unfold isW
 simp [e]
 by_cases d:(pk toks en n).kind=6;refine Qq (fun a J=>?_) (o:=by exact fun J O=>z4e J rfl rfl);refine yG ?_;replace N:=N.dl [0];refine ⟨congrArg (fun b=>Ending.returned (.bool b)) ?_,N⟩;unfold isW
 simp [d,e]
 refine yG ?_;replace N:=N.dl [0];refine ⟨congrArg (fun b=>Ending.returned (.bool b)) ?_,N⟩;unfold isW
 simp [e,d]
theorem j3a {rb en n:Nat} {tv:Value} {toks:List Tok} {s:Bs} (g:SliceOf RTok Φ 4 tv toks) (N:Mem Φ (.blk rb (ob [tv,.int .i64 en,.int .i64 n] 135)::K) w) :
  Calls prog 110 #[.pointer (some ⟨rb,0,none⟩),.string s] w (fun ee w'=>ee=.returned (.bool (isW (pk toks en n) s))/\Mem Φ (.blk rb (ob [tv,.int .i64 en,.int .i64 ((if isW (pk toks en n) s=true then n+1 else n:Nat):Int)] 135)::K) w'):=by
 obtain ⟨p1,c2,rfl,f,h⟩:=g.fm;refine zJ func110 ntmps110 fun Q hQ a J=>?_;refine zE call116 (fun w N a J=>?_) (c:=is_ok g N);refine go fun a J=>?_;generalize b:(isW (pk toks en n) s)=d at J;cases d;refine yG ?_;rw [b];exact ⟨rfl,N⟩;have e:=isW_lt b;refine Sto 0 fun w N a J=>?_;refine yG ?_;rw [b];exact ⟨rfl,N⟩
theorem pG {rb en n:Nat} {tv:Value} {toks:List Tok} {s:Bs} (a:SliceOf RTok Φ 4 tv toks) (b:isW (pk toks en n) s=true) (N:Mem Φ (.blk rb (ob [tv,.int .i64 en,.int .i64 n] 135)::K) w) :
  Calls prog 110 #[.pointer (some ⟨rb,0,none⟩),.string s] w (fun ee w'=>ee=.returned (.bool true)/\Mem Φ (.blk rb (ob [tv,.int .i64 en,.int .i64 ((n+1:Nat):Int)] 135)::K) w'):=by
 have h:=j3a (s:=s) a N;rw [b] at h;exact h
theorem pT {rb en n:Nat} {tv:Value} {toks:List Tok} {s:Bs} (a:SliceOf RTok Φ 4 tv toks) (b:isW (pk toks en n) s=false) (N:Mem Φ (.blk rb (ob [tv,.int .i64 en,.int .i64 n] 135)::K) w) :
  Calls prog 110 #[.pointer (some ⟨rb,0,none⟩),.string s] w (fun ee w'=>ee=.returned (.bool false)/\Mem Φ (.blk rb (ob [tv,.int .i64 en,.int .i64 n] 135)::K) w'):=by
 have h:=j3a (s:=s) a N;rw [b] at h;exact h
theorem z6d {rb en n:Nat} {tv:Value} {toks:List Tok} {s:Bs} {b:Bool} (a:SliceOf RTok Φ 4 tv toks) (c:isW (pk toks en n) s=b) (N:Mem Φ (.blk rb (ob [tv,.int .i64 en,.int .i64 n] 135)::K) w) :
  Calls prog 116 #[.pointer (some ⟨rb,0,none⟩),.string s] w (fun ee w'=>ee=.returned (.bool b)/\Mem Φ (.blk rb (ob [tv,.int .i64 en,.int .i64 n] 135)::K) w'):=by
 have h:=is_ok (s:=s) a N;rw [c] at h;exact h
theorem need_ok {rb en n:Nat} {tv:Value} {toks:List Tok} {v:Value} {ss:List Bs} (r:SliceOf RTok Φ 4 tv toks) (O:SliceOf RStr Φ 1 v ss) (x:∀i s,ss[i]? = some s->isW (pk toks en (n+i)) s=true) (N:Mem Φ (.blk rb (ob [tv,.int .i64 en,.int .i64 n] 135)::K) w) :
  Calls prog 112 #[.pointer (some ⟨rb,0,none⟩),v] w (fun ee w'=>ee=.returned (.tuple #[])/\Mem Φ (.blk rb (ob [tv,.int .i64 en,.int .i64 ((n+ss.length:Nat):Int)] 135)::K) w'):=by
 obtain ⟨p1,c2,rfl,p,u⟩:=r.fm;obtain ⟨A,z,rfl,q,k⟩:=O.fm;refine zJ func112 ntmps112 fun Q hQ a J=>?_;refine go fun a J=>?_;refine yO (J.ks [0,6,7]) N (fun R mm a w=>∃(i:Nat),mm=ss.length - i/\R Φ [(8,.int .i64 i)] [(0,.blk rb (ob [.slice p1 toks.length c2,.int .i64 en,.int .i64 (((n+i):Nat):Int)] 135))] a w/\(i<=ss.length)) (ss.length - 0) ⟨0,rfl,⟨J.pk,N⟩,Nat.zero_le _⟩ ?_;clear N J;rintro mm a w ⟨i,j,⟨J,N⟩,d⟩ t e;replace N:=N.nf;by_cases h:i < ss.length;refine go fun a J=>?_;obtain ⟨y,rfl,l,g,b,o,m,f⟩:=O.el k h;obtain rfl:b=[.string l]:=f;refine zE call110 (fun w N a J=>?_) (c:=pG r (x _ _ g) N);refine go fun a J=>?_;refine e _ _ _ (by subst j;omega) ⟨(i+1),rfl,⟨J.pk,N⟩,?_⟩;omega;refine go fun a J=>?_;refine hQ _ _ _ (yN J results112 ?_);rw [show n+ss.length=n+i from by have h_:=d;omega];exact ⟨rfl,N⟩
theorem kB {rb en n:Nat} {tv:Value} {toks:List Tok} {v:Value} {s:Bs} (g:SliceOf RTok Φ 4 tv toks) (j:isW (pk toks en n) s=true) (N:Mem Φ (.gs v 9 1 [.string s]::.blk rb (ob [tv,.int .i64 en,.int .i64 n] 135)::K) w) :
  Calls prog 112 #[.pointer (some ⟨rb,0,none⟩),v] w (fun ee w'=>ee=.returned (.tuple #[])/\Mem Φ (.blk rb (ob [tv,.int .i64 en,.int .i64 ((n+1:Nat):Int)] 135)::K) w'):=by
 have b:Mem Φ (.gs v 9 1 (strs [s])::.blk rb (ob [tv,.int .i64 en,.int .i64 n] 135)::K) w:=N;obtain ⟨Ψ,a,d,e,f⟩:=b.freezeRowT (i:=0) rfl;refine (need_ok (ss:=[s]) (g.mono RTok.mono a) (SliceOf.strs.2 e) (fun i x c=>?_) d).mono fun ee w' h=>⟨h.1,(f _ _ h.2).tail⟩;cases i with
 | zero=>cases c;exact j
 | succ i=>cases c
theorem y2d {rb en n:Nat} {tv:Value} {toks:List Tok} {k:Int} (f:SliceOf RTok Φ 4 tv toks) (h:(pk toks en n).kind=k) (g:k≠0) (N:Mem Φ (.blk rb (ob [tv,.int .i64 en,.int .i64 n] 135)::K) w) :
  Calls prog 145 #[.pointer (some ⟨rb,0,none⟩),.int .i64 k] w (fun ee w'=>ee=.returned (.agg (z1j (pk toks en n)).toArray)/\Mem Φ (.blk rb (ob [tv,.int .i64 en,.int .i64 ((n+1:Nat):Int)] 135)::K) w'):=by
 obtain ⟨p1,c2,rfl,e,i⟩:=f.fm;have d:=z0e (toks:=toks) (en:=en) (n:=n) (by rw [h];exact g);refine zJ func145 ntmps145 fun Q hQ a J=>?_;refine Alc fun j w N a J=>?_;replace N:=N.pl 1;refine zE call146 (fun w N a J=>?_) (c:=cU f N);refine Alc fun l w N a J=>?_;refine Sto 0 fun w N a J=>?_;refine Sto 1 fun w N a J=>?_;refine Sto 2 fun w N a J=>?_;refine go fun a J=>?_;have b:=N;replace N:=N.dl [2,0];refine kN (N:=b) ?_;exact ⟨rfl,N⟩
theorem pD {rb en n:Nat} {tv:Value} {toks:List Tok} (d:SliceOf RTok Φ 4 tv toks) (e:(pk toks en n).kind=2) (N:Mem Φ (.blk rb (ob [tv,.int .i64 en,.int .i64 n] 135)::K) w) :
  Calls prog 115 #[.pointer (some ⟨rb,0,none⟩)] w (fun ee w'=>ee=.returned (.string (pk toks en n).text)/\Mem Φ (.blk rb (ob [tv,.int .i64 en,.int .i64 ((n+1:Nat):Int)] 135)::K) w'):=by
 obtain ⟨p1,c2,rfl,b,f⟩:=d.fm;refine zJ func115 ntmps115 fun Q hQ a J=>?_;refine zE call145 (fun w N a J=>?_) (c:=y2d d e (by decide) N);refine Qq (fun a J=>?_) (o:=by exact fun J O=>uS runUnderlying204 rfl isAgg9 J rfl rfl);refine yG ?_;exact ⟨rfl,N⟩
theorem z3k {rb en n:Nat} {tv:Value} {toks:List Tok} (d:SliceOf RTok Φ 4 tv toks) (e:(pk toks en n).kind=3) (N:Mem Φ (.blk rb (ob [tv,.int .i64 en,.int .i64 n] 135)::K) w) :
  Calls prog 111 #[.pointer (some ⟨rb,0,none⟩)] w (fun ee w'=>ee=.returned (.string (pk toks en n).text)/\Mem Φ (.blk rb (ob [tv,.int .i64 en,.int .i64 ((n+1:Nat):Int)] 135)::K) w'):=by
 obtain ⟨p1,c2,rfl,b,f⟩:=d.fm;refine zJ func111 ntmps111 fun Q hQ a J=>?_;refine zE call145 (fun w N a J=>?_) (c:=y2d d e (by decide) N);refine Qq (fun a J=>?_) (o:=by exact fun J O=>uS runUnderlying204 rfl isAgg9 J rfl rfl);refine yG ?_;exact ⟨rfl,N⟩
theorem y9q {rb en n:Nat} {tv:Value} {toks:List Tok} (d:SliceOf RTok Φ 4 tv toks) (e:(pk toks en n).kind=1) (N:Mem Φ (.blk rb (ob [tv,.int .i64 en,.int .i64 n] 135)::K) w) :
  Calls prog 182 #[.pointer (some ⟨rb,0,none⟩)] w (fun ee w'=>ee=.returned (.int .i64 (pk toks en n).num)/\Mem Φ (.blk rb (ob [tv,.int .i64 en,.int .i64 ((n+1:Nat):Int)] 135)::K) w'):=by
 obtain ⟨p1,c2,rfl,b,f⟩:=d.fm;refine zJ func182 ntmps182 fun Q hQ a J=>?_;refine zE call145 (fun w N a J=>?_) (c:=y2d d e (by decide) N);refine Qq (fun a J=>?_) (o:=by exact fun J O=>uS runUnderlying204 rfl isAgg3 J rfl rfl);refine yG ?_;exact ⟨rfl,N⟩
theorem pC {rb en n:Nat} {tv:Value} {toks:List Tok} {a:Atom} (e:SliceOf RTok Φ 4 tv toks) (f:nT toks en n=some a) (N:Mem Φ (.blk rb (ob [tv,.int .i64 en,.int .i64 n] 135)::K) w) :
  Calls prog 148 #[.pointer (some ⟨rb,0,none⟩)] w (fun ee w'=>ee=.returned (.agg #[.string a.name,.int .i64 a.num])/\Mem Φ (.blk rb (ob [tv,.int .i64 en,.int .i64 ((n+1:Nat):Int)] 135)::K) w'):=by
 obtain ⟨p1,c2,rfl,g,h⟩:=e.fm;refine zJ func148 ntmps148 fun Q hQ a J=>?_;refine Alc fun i w N a J=>?_;replace N:=N.pl 1;refine zE call146 (fun w N a J=>?_) (c:=cU e N);refine Qq (fun a J=>?_) (o:=by exact fun J O=>uS runUnderlying204 rfl isAgg3 J rfl rfl);by_cases d:(pk toks en n).kind=1;refine zE call182 (fun w N a J=>?_) (c:=y9q e d N);refine yE fun a J=>?_;refine Sto 1 fun w N a J=>?_;refine go fun a J=>?_;have b:=N;replace N:=N.dl [1];refine kN (N:=b) ?_;rcases uB f with ⟨_,h_⟩ | ⟨h_,_⟩
 rw [h_];exact ⟨rfl,N⟩;exact absurd d h_;refine zE call115 (fun w N a J=>?_) (c:=pD e (by rcases uB f with h_ | h_;exact absurd h_.1 d;exact h_.2.1) N);refine yE fun a J=>?_;refine Sto 1 fun w N a J=>?_;refine go fun a J=>?_;have b:=N;replace N:=N.dl [1];refine kN (N:=b) ?_;rcases uB f with ⟨h_,_⟩ | ⟨_,_,h_⟩
 exact absurd h_ d;rw [h_];exact ⟨rfl,N⟩
end
end Go.Sw
