import Derived.Test.YtghdfphedgcpdaaGreatDoorX11
set_option linter.unusedVariables false
set_option linter.unusedSimpArgs false
namespace Go.Sw
open Go.Proofs Go.Proofs.Tryz
set_option maxRecDepth 20000
set_option maxHeartbeats 4000000
theorem x2c {Φ:Fz} {K:List Res} {w:World} {a:Act} {D:List Deferred} {Q:Exit->Act->World->Prop} {rs:Value} {ws:List Bs} {c0 wd rp r:Nat} (G:Glob Φ) (hE:uG ws 250) (rl:SliceOf RStr Φ 1 rs ws) (j0:ws.length<=1000000)
  (hR:∀{Ψ:Fz} {a:Act} {w:World} {C:Core} {E F H I:Value},jN ws (ws.length+1) ⟨[],[],[],[]⟩ 0=.ok C->Φ.Le Ψ->SliceOf RData Ψ 2 E C.datas->SliceOf RParam Ψ 2 F C.inputs->SliceOf RFun Ψ 8 H C.funs->EnvR 96 [(3,.pointer (some ⟨wd,0,none⟩)),(2,.pointer (some ⟨c0,0,none⟩))] D a->Mem Ψ (.blk c0 (ob [E,F,H,I] 27)::.blk wd (ob [.int .i64 ((0:Nat):Int)] 3)::.gs I 9 1 (strs C.outputs)::K) w->Q .ret a w)
  (hP:∀{Ψ:Fz} {a:Act} {w:World} {n:Nat} {E F H I x:Value},jN ws (ws.length+1) ⟨[],[],[],[]⟩ 0=.error n->Φ.Le Ψ->EnvR 96 [(3,.pointer (some ⟨wd,0,none⟩)),(2,.pointer (some ⟨c0,0,none⟩))] D a->Mem Ψ (.blk c0 (ob [E,F,H,I] 27)::.blk wd (ob [x] 3)::K) w->Q (.panic (nW n)) a w)
  (J:EnvR 96 [(2,.pointer (some ⟨c0,0,none⟩)),(3,.pointer (some ⟨wd,0,none⟩)),(4,.pointer (some ⟨rp,0,none⟩))] D a) (N:Mem Φ (.blk r (ob [rs,.int .i64 ((0:Nat):Int)] 210)::.blk rp (ob [.pointer (some ⟨r,0,none⟩)] 208)::.blk c0 (ob [.slice none 0 0,.slice none 0 0,.slice none 0 0,.slice none 0 0] 27)::.blk wd (ob [.int .i64 ((0:Nat):Int)] 3)::K) w) :
  (seqR (seqR (seqR (seqR (Tryz.f98.body.getD .skip))))).wp prog Q a w:=by
 obtain ⟨pw,cw,rfl,G1,U0⟩:=rl.fm
 change (Code.seq _ _).wp _ _ _ _
 refine go fun a J=>?_
 replace N:=N.nilRow 126 2
 replace N:=N.nf
 replace N:=N.nilRow 36 2
 replace N:=N.nf
 replace N:=N.nilRow 112 8
 replace N:=N.nf
 replace N:=N.nilRow 9 1
 replace N:=N.nf
 refine zT (J.ks [2,3,4]) N (fun R mm a w=>∃(P:Fz) (j:Nat) (f:Nat) (E:Value) (F:Value) (H:Value) (I:Value) (d0:List Value) (d1:List Value) (d2:List Value) (C:Core),mm=ws.length - j/\R P [] [(0,.gs (I) 9 1 (strs C.outputs)),(1,.gs (H) 112 8 d2),(2,.gs (F) 36 2 d1),(3,.gs (E) 126 2 d0),(4,.blk r (ob [.slice pw ws.length cw,.int .i64 j] 210)),(6,.blk c0 (ob [E,F,H,I] 27))] a w/\(Φ.Le P/\(Chunks (RData P) 2 d0 C.datas/\Chunks (RParam P) 2 d1 C.inputs/\Chunks (RFun P) 8 d2 C.funs/\(C.datas.length<=j/\C.inputs.length<=j/\C.funs.length<=j/\C.outputs.length<=j)/\j<=ws.length/\ws.length+1<=j+f/\jN ws (ws.length+1) ⟨[],[],[],[]⟩ 0=jN ws f C j))) (ws.length - 0) ⟨Φ,0,ws.length+1,.slice none 0 0,.slice none 0 0,.slice none 0 0,.slice none 0 0,[],[],[],⟨[],[],[],[]⟩,rfl,⟨J.pk,N⟩,⟨Fz.Le.refl _,⟨rfl,rfl,rfl,⟨Nat.le_refl _,Nat.le_refl _,Nat.le_refl _,Nat.le_refl _⟩,Nat.zero_le _,by omega,rfl⟩⟩⟩ ?_
 clear N J
 rintro mm a w ⟨P,j,f,E,F,H,I,d0,d1,d2,C,m0,⟨J,N⟩,t0⟩ L4 l0
 replace N:=N.nf
 obtain ⟨v,t0⟩:=t0
 replace rl:=rl.up v
 replace G:=G.mono v
 obtain ⟨g,d,c,i1,hj,F1,z⟩:=t0
 refine Reg [2,1,1,2,2,1,1,2,1,1] [0,1,2,3,4,5,6,7] fun w N a J=>?_
 by_cases h8:j < ws.length
 refine Sto 4 fun w N a J=>?_
 refine Reg [2,1,1,2,2,1,1,2,1,1,2] [0,1,2,3,4,5,6,7] fun w N a J=>?_
 refine Qq (fun a J=>?_) (o:=by exact fun J O=>pY ((j:Nat):Int) J rfl rfl (by rw [jW (by omega)];omega))
 obtain ⟨J1,rfl,k0,b,x0,h1,V,z0⟩:=rl.el U0 h8
 obtain rfl:x0=[.string k0]:=z0
 by_cases A:k0=(⟨#[100,97,116,97]⟩:Bs)
 refine go fun a J=>?_
 refine gH (E0:=[(3,.pointer (some ⟨wd,0,none⟩)),(2,.pointer (some ⟨c0,0,none⟩))]) [1,2,2,0,0,0,1,0] (.q 0 (.q 1 (.q 2 (.e 3 (.e 4 (.e 5 (.q 6 (.e 7 (.done))))))))) [.gs (I) 9 1 (strs C.outputs),.gs (H) 112 8 d2,.gs (F) 36 2 d1,.blk rp (ob [.pointer (some ⟨r,0,none⟩)] 208),.blk c0 (ob [E,F,H,I] 27),.blk wd (ob [.int .i64 ((0:Nat):Int)] 3)] (J.pk) N mixed (by kernel_rfl) (by simp) (by kernel_rfl) fun w N=>?_
 refine go fun a J=>?_
 replace N:=N.pl 4
 refine d_e J rfl rfl rfl (z8f J rfl call139 (x8u G (i:=(j+1)) rl j0 (by omega) N) (fun T c1 w W q0 N=>⟨fun _=>N.sn ((Fz.Le.refl _).trans (q0.1)),fun a J=>?_⟩) (fun T w W N=>fun a J=>?_))
 obtain ⟨B0,z1⟩:=c1
 obtain ⟨t,f0⟩:=q0
 simp only at t f0 N J
 have P0:=data_le W
 replace rl:=rl.up t
 replace G:=G.mono t
 replace g:=g.mono fun _ _ h=>RData.mono _ _ _ _ t h
 replace d:=d.mono fun _ _ h=>RParam.mono _ _ _ _ t h
 replace c:=c.mono fun _ _ h=>RFun.mono _ _ _ _ t h
 replace V:=V.mono t
 replace N:=N.nf
 obtain ⟨K1,rfl,M0⟩:=id f0
 obtain ⟨V0,I0,rfl,j1,p1⟩:=M0.fm
 refine jQ fun M1 w N a J=>?_
 refine vH 5 rt_22 (fun Z0 w N a J=>?_) (hb:=by have h_:=g.length;rw [h_];simp only [lcQ,lnQ];omega)
 refine Sto 7 fun w N a J=>?_
 refine go fun a J=>?_
 replace N:=N.ar [0] [7,7,7,3,7,7,7,7]
 refine l0 _ _ _ (by subst m0;omega) ⟨(B0),(T.2),(f - 1),(Z0),(F),(H),(I),((d0++[.string T.1.name,.slice V0 T.1.cons.length I0])),(d1),(d2),({ C with datas:=C.datas++[T.1] }),rfl,⟨J.pk,by exact N⟩,?_⟩
 refine ⟨(v).trans t,?_⟩
 exact ⟨(g.snoc (k:=2) (x:=T.1) rfl f0),d,c,⟨by show (C.datas++[T.1]).length<=_;simp only [laQ,lcQ,lnQ];omega,by show C.inputs.length<=_;omega,by show C.funs.length<=_;omega,by show C.outputs.length<=_;omega⟩,by omega,by omega,z.trans (j2c h8 (by omega) ((jZ b).trans A) W)⟩
 replace N:=N.dl [4,3,2,1,0]
 exact hP (z.trans (q6y h8 (by omega) ((jZ b).trans A) W)) (v) (J.pk) N
 by_cases S:k0=(⟨#[105,110,112,117,116]⟩:Bs)
 refine go fun a J=>?_
 refine gH (E0:=[(3,.pointer (some ⟨wd,0,none⟩)),(2,.pointer (some ⟨c0,0,none⟩))]) [1,2,2,0,0,0,1,0] (.q 0 (.q 1 (.q 2 (.e 3 (.e 4 (.e 5 (.q 6 (.e 7 (.done))))))))) [.gs (I) 9 1 (strs C.outputs),.gs (H) 112 8 d2,.gs (E) 126 2 d0,.blk rp (ob [.pointer (some ⟨r,0,none⟩)] 208),.blk c0 (ob [E,F,H,I] 27),.blk wd (ob [.int .i64 ((0:Nat):Int)] 3)] (J.pk) N mixed (by kernel_rfl) (by simp) (by kernel_rfl) fun w N=>?_
 refine go fun a J=>?_
 replace N:=N.pl 4
 refine d_e J rfl rfl rfl (z8e J rfl call140 (q2h G (i:=(j+1)) rl j0 (by omega) N) (fun U w X N=>⟨fun _=>N.sn (Fz.Le.refl _),fun a J=>?_⟩) (fun U w X N=>fun a J=>?_))
 have G0:=q9k X
 refine jQ fun N1 w N a J=>?_
 refine vH 4 z4c (fun a1 w N a J=>?_) (hb:=by have h_:=d.length;rw [h_];simp only [lcQ,lnQ];omega)
 refine Sto 7 fun w N a J=>?_
 refine go fun a J=>?_
 replace N:=N.ar [0] [7,7,7,3,7,7,7,7]
 refine l0 _ _ _ (by subst m0;omega) ⟨(P),(U.2),(f - 1),(E),(a1),(H),(I),(d0),((d1++[.string U.1.name,.string U.1.type])),(d2),({ C with inputs:=C.inputs++[U.1] }),rfl,⟨J.pk,by exact N⟩,?_⟩
 refine ⟨v,?_⟩
 exact ⟨g,(d.snoc (k:=2) (x:=U.1) rfl rfl),c,⟨by show C.datas.length<=_;omega,by show (C.inputs++[U.1]).length<=_;simp only [laQ,lcQ,lnQ];omega,by show C.funs.length<=_;omega,by show C.outputs.length<=_;omega⟩,by omega,by omega,z.trans (q6z h8 (by omega) (fun h_=>A ((jZ b).symm.trans h_)) ((jZ b).trans S) X)⟩
 replace N:=N.dl [4,3,2,1,0]
 exact hP (z.trans (q3q h8 (by omega) (fun h_=>A ((jZ b).symm.trans h_)) ((jZ b).trans S) X)) (v) (J.pk) N
 by_cases b0:k0=(⟨#[102,117,110]⟩:Bs)
 refine go fun a J=>?_
 refine gH (E0:=[(3,.pointer (some ⟨wd,0,none⟩)),(2,.pointer (some ⟨c0,0,none⟩))]) [1,2,2,0,0,0,1,0] (.q 0 (.q 1 (.q 2 (.e 3 (.e 4 (.e 5 (.q 6 (.e 7 (.done))))))))) [.gs (I) 9 1 (strs C.outputs),.gs (F) 36 2 d1,.gs (E) 126 2 d0,.blk rp (ob [.pointer (some ⟨r,0,none⟩)] 208),.blk c0 (ob [E,F,H,I] 27),.blk wd (ob [.int .i64 ((0:Nat):Int)] 3)] (J.pk) N mixed (by kernel_rfl) (by simp) (by kernel_rfl) fun w N=>?_
 refine go fun a J=>?_
 replace N:=N.pl 4
 refine d_e J rfl rfl rfl (z8f J rfl call141 (rfun_ok hE G (i:=(j+1)) rl j0 (by omega) N) (fun p e1 w Y r0 N=>⟨fun _=>N.sn ((Fz.Le.refl _).trans (r0.1)),fun a J=>?_⟩) (fun p w Y N=>fun a J=>?_))
 obtain ⟨C0,A1⟩:=e1
 obtain ⟨u,g0⟩:=r0
 simp only at u g0 N J
 have Q0:=fun_le Y
 replace rl:=rl.up u
 replace G:=G.mono u
 replace g:=g.mono fun _ _ h=>RData.mono _ _ _ _ u h
 replace d:=d.mono fun _ _ h=>RParam.mono _ _ _ _ u h
 replace c:=c.mono fun _ _ h=>RFun.mono _ _ _ _ u h
 replace V:=V.mono u
 replace N:=N.nf
 obtain ⟨L1,w1,rfl,N0,O0⟩:=id g0
 obtain ⟨W0,J0,rfl,k1,q1⟩:=N0.fm
 obtain ⟨X0,K0,Y0,L0,rfl,g1,B1,C1,l1,r1,m1,s1⟩:=REx.fm O0
 refine jQ fun v75 w N a J=>?_
 refine vH 3 rt_24 (fun v76 w N a J=>?_) (hb:=by have h_:=c.length;rw [h_];simp only [lcQ,lnQ];omega)
 refine Sto 7 fun w N a J=>?_
 refine go fun a J=>?_
 replace N:=N.ar [0] [7,7,7,3,7,7,7,7]
 refine l0 _ _ _ (by subst m0;omega) ⟨(C0),(p.2),(f - 1),(E),(F),(v76),(I),(d0),(d1),((d2++[.string p.1.name,.slice W0 p.1.params.length J0,.string p.1.result,.int .i64 (p.1.body.kind),.int .i64 (p.1.body.num),.string p.1.body.name,.slice X0 p.1.body.args.length K0,.slice Y0 p.1.body.arms.length L0])),({ C with funs:=C.funs++[p.1] }),rfl,⟨J.pk,by exact N⟩,?_⟩
 refine ⟨(v).trans u,?_⟩
 exact ⟨g,d,(c.snoc (k:=8) (x:=p.1) rfl g0),⟨by show C.datas.length<=_;omega,by show C.inputs.length<=_;omega,by show (C.funs++[p.1]).length<=_;simp only [laQ,lcQ,lnQ];omega,by show C.outputs.length<=_;omega⟩,by omega,by omega,z.trans (j9g h8 (by omega) (fun h_=>A ((jZ b).symm.trans h_)) (fun h_=>S ((jZ b).symm.trans h_)) ((jZ b).trans b0) Y)⟩
 replace N:=N.dl [4,3,2,1,0]
 exact hP (z.trans (j2d h8 (by omega) (fun h_=>A ((jZ b).symm.trans h_)) (fun h_=>S ((jZ b).symm.trans h_)) ((jZ b).trans b0) Y)) (v) (J.pk) N
 refine go fun a J=>?_
 by_cases s0:k0=(⟨#[111,117,116,112,117,116]⟩:Bs)
 refine go fun a J=>?_
 refine gH (E0:=[(3,.pointer (some ⟨wd,0,none⟩)),(2,.pointer (some ⟨c0,0,none⟩))]) [1,2,2,0,0,0,1,0] (.q 0 (.q 1 (.q 2 (.e 3 (.e 4 (.e 5 (.q 6 (.e 7 (.done))))))))) [.gs (H) 112 8 d2,.gs (F) 36 2 d1,.gs (E) 126 2 d0,.blk rp (ob [.pointer (some ⟨r,0,none⟩)] 208),.blk c0 (ob [E,F,H,I] 27),.blk wd (ob [.int .i64 ((0:Nat):Int)] 3)] (J.pk) N mixed (by kernel_rfl) (by simp) (by kernel_rfl) fun w N=>?_
 refine go fun a J=>?_
 replace N:=N.pl 4
 refine d_e J rfl rfl rfl (z8e J rfl call142 (aW G (i:=(j+1)) rl j0 (by omega) N) (fun p0 w Z N=>⟨fun _=>N.sn (Fz.Le.refl _),fun a J=>?_⟩) (fun p0 w Z N=>fun a J=>?_))
 have H0:=xC Z
 refine jQ fun O1 w N a J=>?_
 refine vH 2 xP (fun b1 w N a J=>?_) (hb:=by simp [zR];omega)
 refine Sto 7 fun w N a J=>?_
 refine go fun a J=>?_
 first | rw [qC] at N | rw [<- yK] at N
 replace N:=N.ar [0] [7,7,7,3,7,7,7,7]
 refine l0 _ _ _ (by subst m0;omega) ⟨(P),(p0.2),(f - 1),(E),(F),(H),(b1),(d0),(d1),(d2),({ C with outputs:=C.outputs++[p0.1] }),rfl,⟨J.pk,by exact N⟩,?_⟩
 refine ⟨v,?_⟩
 exact ⟨g,d,c,⟨by show C.datas.length<=_;omega,by show C.inputs.length<=_;omega,by show C.funs.length<=_;omega,by show (C.outputs++[p0.1]).length<=_;simp only [laQ,lcQ,lnQ];omega⟩,by omega,by omega,z.trans (j9h h8 (by omega) (fun h_=>A ((jZ b).symm.trans h_)) (fun h_=>S ((jZ b).symm.trans h_)) (fun h_=>b0 ((jZ b).symm.trans h_)) ((jZ b).trans s0) Z)⟩
 replace N:=N.dl [4,3,2,1,0]
 exact hP (z.trans (j2e h8 (by omega) (fun h_=>A ((jZ b).symm.trans h_)) (fun h_=>S ((jZ b).symm.trans h_)) (fun h_=>b0 ((jZ b).symm.trans h_)) ((jZ b).trans s0) Z)) (v) (J.pk) N
 refine Qq (fun a J=>?_) (o:=by exact fun J O=>pY ((j:Nat):Int) J rfl rfl (by rw [jW (by omega)];omega))
 refine Sto 4 fun w N a J=>?_
 refine go fun a J=>?_
 replace N:=N.pl 4
 refine stP J rfl rfl rfl (gK J rfl call143 (tU (i:=j) rl j0 (by omega) N) (fun w N=>fun a J=>?_))
 replace N:=N.dl [4,3,2,1,0]
 exact hP (z.trans (j9e h8 (by omega) (fun h_=>A ((jZ b).symm.trans h_)) (fun h_=>S ((jZ b).symm.trans h_)) (fun h_=>b0 ((jZ b).symm.trans h_)) (fun h_=>s0 ((jZ b).symm.trans h_)))) (v) (J.pk) N
 refine go fun a J=>?_
 have s:=N
 clear N
 obtain ⟨D0,L,N,n0⟩:=s.freezeRow (i:=3) rfl
 clear s
 replace G:=G.mono L
 replace g:=g.mono fun _ _ h=>RData.mono _ _ _ _ L h
 replace d:=d.mono fun _ _ h=>RParam.mono _ _ _ _ L h
 replace c:=c.mono fun _ _ h=>RFun.mono _ _ _ _ L h
 replace N:=N.nf
 have m:SliceOf RData D0 2 _ (C.datas):=⟨_,n0,g⟩
 obtain ⟨H1,x1,i0,n1,t1⟩:=m.form (by decide)
 have l:=N
 clear N
 subst i0
 have N:=l
 clear l
 have s:=N
 clear N
 obtain ⟨F0,M,N,o0⟩:=s.freezeRow (i:=2) rfl
 clear s
 replace G:=G.mono M
 replace d:=d.mono fun _ _ h=>RParam.mono _ _ _ _ M h
 replace c:=c.mono fun _ _ h=>RFun.mono _ _ _ _ M h
 replace m:=m.up M
 replace N:=N.nf
 have B:SliceOf RParam F0 2 _ (C.inputs):=⟨_,o0,d⟩
 obtain ⟨I1,y1,i0,o1,S0⟩:=B.form (by decide)
 have l:=N
 clear N
 subst i0
 have N:=l
 clear l
 have s:=N
 clear N
 obtain ⟨w0,y,N,h0⟩:=s.freezeRow (i:=1) rfl
 clear s
 replace G:=G.mono y
 replace c:=c.mono fun _ _ h=>RFun.mono _ _ _ _ y h
 replace m:=m.up y
 replace B:=B.up y
 replace N:=N.nf
 have a0:SliceOf RFun w0 8 _ (C.funs):=⟨_,h0,c⟩
 obtain ⟨v1,f1,i0,R0,T0⟩:=a0.form (by decide)
 have l:=N
 clear N
 subst i0
 have N:=l
 clear l
 obtain ⟨p3,m3,q3,A0,_,_⟩:=N.toSees.gsForm (i:=0) rfl
 have l:=N
 clear N
 subst A0
 have N:=l
 clear l
 refine Sto 3 fun w N a J=>?_
 refine Sto 4 fun w N a J=>?_
 refine go fun a J=>?_
 replace N:=N.ar [2,1] [2,2]
 exact hR (z.trans (j9f h8 (by omega))) ((((v).trans L).trans M).trans y) m B a0 (J.pk) N
abbrev readKY (K:List Res) (l Dk rr rp:Nat) (r:Loop) (pre:List Bs) (z:Value):List Res :=
 .blk l (.loop r)::.blk Dk (.deferred (some []))::.blk rr (ob [z,.int .i64 ((0:Nat):Int)] 210)::.gs z 9 1 (strs pre)::.blk rp (ob [.pointer (some ⟨rr,0,none⟩)] 208)::K
set_option maxRecDepth 20000 in
set_option maxHeartbeats 4000000 in
theorem j3x {Ψ:Fz} {K K0:List Res} {w:World} {l Dk rr rp n:Nat} {r:Loop} {pre:List Bs} {z:Value} {k:Bs} (p:pre.length < n) (A:n<=800000)
  (c:r.params=#[11]) (j:r.state=.ready) (g:r.pending=none)
  (u:∀(a:Act) (w:World),EnvR 96 [(11,.string k),(4,.pointer (some ⟨rp,0,none⟩))] [] a ->
   r.assign.wpIn (FO (some l)) 2 prog (Exit.then (fun m q=>EnvR 96 [(5,.string k),(4,.pointer (some ⟨rp,0,none⟩))] [] m/\q=w) (fun _ _ _=>False)) a w)
  (hb:∀(a:Act) (w:World) (K:List Res) (o:Obj),EnvR 96 [(5,.string k),(4,.pointer (some ⟨rp,0,none⟩))] [] a->Mem Ψ (.blk l o::.blk rr (ob [z,.int .i64 ((0:Nat):Int)] 210)::.gs z 9 1 (strs pre)::.blk rp (ob [.pointer (some ⟨rr,0,none⟩)] 208)::K) w ->
   r.body.wpIn (FO (some l)) 2 prog (fun e _ w=>e=.normal/\∃v,Mem Ψ (.blk l o::.blk rr (ob [v,.int .i64 ((0:Nat):Int)] 210)::.gs v 9 1 (strs (pre++[k]))::.blk rp (ob [.pointer (some ⟨rr,0,none⟩)] 208)::K) w) a w)
  (J:EnvR 96 [(4,.pointer (some ⟨rp,0,none⟩))] [] ⟨r.tmps,[]⟩) (N:Mem Ψ (K0++readKY K l Dk rr rp r pre z) w) :
  YieldAt Fence.wide 2 prog l #[.string k] w (fun e w'=>e=.returned (.bool true)/\∃z',Mem Ψ (K0++readKY K l Dk rr rp r (pre++[k]) z') w'):=by
 have b:Mem Ψ (readKY K l Dk rr rp r pre z++K0) w:=N.perm List.perm_append_comm
 replace b:Mem Ψ (.blk l (.loop r)::.blk rr (ob [z,.int .i64 ((0:Nat):Int)] 210)::.gs z 9 1 (strs pre)::.blk rp (ob [.pointer (some ⟨rr,0,none⟩)] 208)::.blk Dk (.deferred (some []))::(K++K0)) w :=
  ((((b.pull (i:=4) rfl).pull (i:=4) rfl).pull (i:=4) rfl).pull (i:=3) rfl)
 have hl:w.heap[l]? = some (.loop r):=b.own _ msQ
 refine ⟨r.fn,r.tmps.setIfInBounds 11 (.string k),r.assign,r.body,?_,?_⟩
 ·rw [run_yield hl (by rw [c];rfl),c,zip1];simp
 ·have f:EnvR 96 [(11,.string k),(4,.pointer (some ⟨rp,0,none⟩))] [] ⟨r.tmps.setIfInBounds 11 (.string k),[]⟩:=J.put (d:=11) rfl
  have h:=j0e (P:=prog) (E1:=fun (_:Unit)=>[(5,.string k),(4,.pointer (some ⟨rp,0,none⟩))]) (K1:=fun _=>.blk rr (ob [z,.int .i64 ((0:Nat):Int)] 210)::.gs z 9 1 (strs pre)::.blk rp (ob [.pointer (some ⟨rr,0,none⟩)] 208)::.blk Dk (.deferred (some []))::(K++K0))
   (KO:=fun v=>.blk rr (ob [v,.int .i64 ((0:Nat):Int)] 210)::.gs v 9 1 (strs (pre++[k]))::.blk rp (ob [.pointer (some ⟨rr,0,none⟩)] 208)::.blk Dk (.deferred (some []))::(K++K0)) b j g f
   (fun a J=>Code.wpIn_mono (fun e m q h=>by
    cases e with
    | normal=>exact ⟨(),h.1,h.2▸b⟩
    | _=>exact h) (u a w J)) (fun _ a w J N=>hb a w _ _ J N)
  refine h.mono fun e w' y=>?_
  obtain ⟨h1,v,s⟩:=y
  refine ⟨h1,v,?_⟩
  have t:Mem Ψ (readKY K l Dk rr rp r (pre++[k]) v++K0) w':=(((((s.pull (i:=3) rfl).pull (i:=3) rfl).pull (i:=3) rfl).pull (i:=4) rfl).pull (i:=4) rfl)
  exact t.perm List.perm_append_comm
theorem q9z {P:Program} {fn:Func} {n:Nat} {E:List (Nat×Value)} {D:List Deferred} {a:Act} {Φ:Fz} {K:List Res} {w:World} {t u T U k i j b c:Nat} {v:Value} {cs:List Value} {g h:TypeId} (J:EnvR n E D a) (N:Sees Φ K w) (hr:fn.results=#[.cell u U,.cell t T]) (r:get E t=some (.pointer (some ⟨b,0,none⟩)))
  (q:qU K i=some (.blk b (ob [v] g))) (p:Scalar P T) (f:get E u=some (.pointer (some ⟨c,0,none⟩))) (e:qU K j=some (.blk c (ob cs h))) (d:AggT P U) (o:SizeT P U k) (hl:cs.length=k) :
  (results fn a.tmps).run P w=.ok (.tuple #[.agg cs.toArray,v]) w:=by
 have h1:w.cell? ⟨b,0,none⟩=some v:=N.cell q 0
 have l:=j6g (P:=P) J N f e d o hl
 have m:(loadVar T ⟨b,0,none⟩).run P w=.ok v w:=by simp [loadVar,Sem.run_bind,p w,Result.andThen,load,Sem.run,h1]
 simp [results,hr,Array.getD_eq_getD_getElem?,J.env t _ r,J.env u _ f,asAddr,l,m,Sem.run_bind,Result.andThen]
set_option maxRecDepth 20000 in
set_option maxHeartbeats 4000000 in
theorem read_ok {Φ:Fz} {K:List Res} {w:World} {t:Bs} (G:Glob Φ) (h2:t.size<=800000) (N:Mem Φ K w) :
  Calls prog 98 #[.string t] w (fun ee w'=>Out (z0v t)
   (fun C=>∃y:Fz×Value×Value×Value×Value,ee=.returned (.tuple #[.agg #[y.2.1,y.2.2.1,y.2.2.2.1,y.2.2.2.2],.int .i64 ((0:Nat):Int)])/\(Φ.Le y.1/\SliceOf RData y.1 2 y.2.1 C.datas/\SliceOf RParam y.1 2 y.2.2.1 C.inputs/\SliceOf RFun y.1 8 y.2.2.2.1 C.funs)/\Mem y.1 (.gs y.2.2.2.2 9 1 (strs C.outputs)::K) w')
   (fun n=>ee=.returned (.tuple #[.agg #[.slice none 0 0,.slice none 0 0,.slice none 0 0,.slice none 0 0],.int .i64 ((n:Nat):Int)])/\Mem Φ K w')):=by
 refine z8g func98 rfl ntmps98 rfl (fun Q hQ a J=>?_)
 refine sq fun L1 H=>?_
 refine wp_region_lit ?_
 refine st J rfl rfl rfl (yS (cs:=[.slice none 0 0,.slice none 0 0,.slice none 0 0,.slice none 0 0]) N zeroValue27 rfl fun c0 w N a J=>?_)
 refine st J rfl rfl rfl (yS (cs:=[.int .i64 ((0:Nat):Int)]) N zeroValue3 rfl fun wd w N a J=>?_)
 refine wpList_nil ?_
 apply H
 refine sq fun L2 I=>?_
 refine wp_region_lit ?_
 refine kC J (z5r (vfs:=[]) (vcs:=[.pointer (some ⟨c0,0,none⟩),.pointer (some ⟨wd,0,none⟩)]) J rfl rfl) rfl fun a J=>?_
 refine y1g (fs:=[]) (cs:=[.pointer (some ⟨c0,0,none⟩),.pointer (some ⟨wd,0,none⟩)]) (vs:=[]) J rfl rfl fun a J=>?_
 refine wpList_nil ?_
 apply I
 refine sq fun L3 L=>?_
 refine wp_region_lit ?_
 refine kC J (z0s (vs:=[]) (cs:=[.slice none 0 0,.int .i64 ((0:Nat):Int)]) J rfl (by kernel_rfl)) rfl fun a J=>?_
 refine st J rfl rfl rfl (jC (cs:=[.slice none 0 0,.int .i64 ((0:Nat):Int)]) J N rfl rfl fun rr w N a J=>?_)
 refine st J rfl rfl rfl (yS (cs:=[.pointer none]) N zeroValue208 rfl fun rp w N a J=>?_)
 refine st0 J rfl rfl (zZ 0 (cs:=[.pointer none]) (vs:=[.pointer (some ⟨rr,0,none⟩)]) J N rfl rfl rfl rfl sizeOf208 rfl rfl rfl fun w N a J=>?_)
 refine wpList_nil ?_
 apply L
 replace N:Mem Φ (.blk rp (ob [.pointer (some ⟨rr,0,none⟩)] 208)::.blk rr (ob [.slice none 0 0,.int .i64 ((0:Nat):Int)] 210)::.blk wd (ob [.int .i64 ((0:Nat):Int)] 3)::.blk c0 (ob [.slice none 0 0,.slice none 0 0,.slice none 0 0,.slice none 0 0] 27)::K) w:=N
 refine sq fun L4 M=>?_
 refine sq fun L5 R=>?_
 refine wp_region_lit ?_
 refine kC J (jX J rfl) rfl fun a J=>?_
 refine st J rfl rfl rfl (jI J rfl call138 (v1d N) (fun bx w _ N a J=>?_))
 refine wpList_nil ?_
 apply R
 refine wp_block ?_
 refine z7q (P:=prog) (β:=Value) (δ:=Unit) (gf:=175) (fs:=[]) (cs:=[.pointer (some ⟨bx,0,none⟩)]) (F1:=fun _=>Φ)
  (KO:=fun z=>.blk rr (ob [z,.int .i64 ((0:Nat):Int)] 210)::.gs z 9 1 (strs (sX t))::.blk rp (ob [.pointer (some ⟨rr,0,none⟩)] 208)::.blk wd (ob [.int .i64 ((0:Nat):Int)] 3)::.blk c0 (ob [.slice none 0 0,.slice none 0 0,.slice none 0 0,.slice none 0 0] 27)::K)
  (KE:=fun _=>K)
  (G:=fun _=>True) (B:=fun _ _=>False) J N rfl call175 ?_ ?_ ?_
 ·intro Dk l r w V has S W U T N
  have d:=N.nilRow 9 1
  replace d:Mem Φ (.blk bx (ob [.string t] 9)::readKY (.blk wd (ob [.int .i64 ((0:Nat):Int)] 3)::.blk c0 (ob [.slice none 0 0,.slice none 0 0,.slice none 0 0,.slice none 0 0] 27)::K) l Dk rr rp r [] (.slice none 0 0)) w :=
   ((((((d.pull (i:=4) rfl).pull (i:=1) rfl).pull (i:=5) rfl).pull (i:=4) rfl).pull (i:=4) rfl).pull (i:=5) rfl)
  have h:=x3f (l:=l) (KY:=readKY (.blk wd (ob [.int .i64 ((0:Nat):Int)] 3)::.blk c0 (ob [.slice none 0 0,.slice none 0 0,.slice none 0 0,.slice none 0 0] 27)::K) l Dk rr rp r) (by omega) (fun pre z K0 k w p N=>?_) d
  ·refine h.mono fun e w' hh=>?_
   obtain ⟨z,rfl,b⟩:=hh
   exact .inl ⟨_,z,rfl,trivial,b⟩
  ·refine j3x (n:=t.size) p h2 V W U (fun a w J=>?_) (fun a w K o J N=>?_) (T.of_sub ⟨rfl,trivial⟩) N
   ·rw [has]
    refine wpIn_region_lit ?_
    refine qA J (by intro c h;cases h) (wA J rfl) rfl fun a J=>?_
    refine wpListIn_nil ?_
    exact ⟨J.of_sub ⟨rfl,rfl,trivial⟩,rfl⟩
   ·rw [S]
    refine wpIn_block ?_
    refine cX [2,2,1,1,2,1,0,0,1,1,0] (.q 0 (.q 1 (.q 2 (.q 3 (.q 4 (.q 5 (.e 6 (.e 7 (.q 8 (.q 9 (.e 10 (.done)))))))))))) [.blk rr (ob [z,.int .i64 ((0:Nat):Int)] 210),.blk rp (ob [.pointer (some ⟨rr,0,none⟩)] 208)] J N mixed (by kernel_rfl) (by simp) (by kernel_rfl) fun w N=>?_
    refine d_q J rfl rfl (fun w O=>qD 1 J O rfl rfl rfl isAgg208) rfl fun a J=>?_
    refine d_q J rfl rfl (fun w O=>qD 1 J O rfl rfl rfl isAgg208) rfl fun a J=>?_
    refine y3v J rfl rfl (fun w=>z5s J rfl) rfl fun a J=>?_
    refine y3v J rfl rfl (fun w=>jG J rfl y4o rfl) rfl fun a J=>?_
    refine d_q J rfl rfl (fun w O=>qD 0 J O rfl rfl rfl isAgg25) rfl fun a J=>?_
    refine y3v J rfl rfl (fun w=>jX J rfl) rfl fun a J=>?_
    refine d_e J rfl rfl rfl (kL (sz:=1) (cs:=[.string k]) J N rfl (z1e runUnderlying25 sizeOf9 zeroValue9 rfl (by decide) rfl) rfl (by decide) fun v w N _=>⟨fun _=>N.seesIn (Fz.Le.refl _) (by simp),fun a J=>?_⟩)
    refine d_e J rfl rfl rfl (gW 3 (xs:=strs pre) (news:=[.string k]) xP J N rfl rfl rfl (N.toSees.rowIn (i:=0) rfl) rfl (by simp [zR];omega) fun v2 w N=>⟨fun _=>N.seesIn (Fz.Le.refl _) (by simp [pT]),fun a J=>?_⟩)
    replace N:Mem Φ (.gs v 9 1 [.string k]::.blk l o::.blk rr (ob [z,.int .i64 ((0:Nat):Int)] 210)::.gs v2 9 1 (strs (pre++[k]))::.blk rp (ob [.pointer (some ⟨rr,0,none⟩)] 208)::K) w:=by rw [yK];exact N
    refine y3v J rfl rfl (fun w=>z5s J rfl) rfl fun a J=>?_
    refine y3v J rfl rfl (fun w=>jG J rfl y4o rfl) rfl fun a J=>?_
    refine wB J rfl rfl (zZ 2 (cs:=[z,.int .i64 ((0:Nat):Int)]) (vs:=[v2]) J N rfl rfl rfl (N.toSees.gsCells (i:=3) rfl) sizeOf25 rfl (N.toSees.gsOne (i:=3) rfl) rfl fun w N=>⟨yI (by kernel_rfl),fun a J=>?_⟩)
    refine q3p ?_
    exact ⟨rfl,v2,N.del 0⟩
 ·intro Dk z a w _ J N
  apply M
  obtain ⟨Ψ,le,N,A⟩:=N.freezeRow (i:=2) rfl
  have rl:SliceOf RStr Ψ 1 z (sX t):=SliceOf.strs.2 A
  have D:(sX t).length<=1000000:=Nat.le_trans (sP t.size 0) (by omega)
  have X:∀j,(zE (sX t) j).size<=1000000:=fun j=>x1z (fun s O=>Nat.le_trans (sQ t.size 0 s O) (by omega)) j
  replace N:Mem Ψ (.blk rr (ob [z,.int .i64 ((0:Nat):Int)] 210)::.blk rp (ob [.pointer (some ⟨rr,0,none⟩)] 208)::.blk c0 (ob [.slice none 0 0,.slice none 0 0,.slice none 0 0,.slice none 0 0] 27)::.blk wd (ob [.int .i64 ((0:Nat):Int)] 3)::.blk Dk (.deferred (some []))::K) w:=((((N.pull (i:=3) rfl).pull (i:=4) rfl).pull (i:=4) rfl).pull (i:=4) rfl)
  refine x2c (ws:=sX t) (c0:=c0) (wd:=wd) (rp:=rp) (r:=rr) (G.mono le) (j0b D X 250 (by decide)) rl D ?_ ?_ (J.of_sub ⟨rfl,rfl,rfl,trivial⟩) N
  ·intro m a w C Y Z u2 u3 E g r0 r1 r2 J N
   refine hQ _ _ _ ?_
   show nI _ _ _ _ a.defers _ _
   rw [J.defs]
   replace N:=N.pull (i:=3) rfl
   have F:w.heap[Dk]? = some (.deferred (some [])):=N.own _ msQ
   have b:=N.putObj (i:=0) (o':=.deferred none) rfl
   refine aS (by simp) F (hU ?_)
   refine leaves_cons (f:=137) (args:=#[.pointer (some ⟨c0,0,none⟩),.pointer (some ⟨wd,0,none⟩)]) (by simp) (call137 _ _) ?_
   refine catchR_none.mono ?_
   rintro e u' w'' ⟨rfl,rfl,rfl⟩
   refine ⟨_,q9z (i:=2) (j:=1) J b.toSees results98 rfl rfl isAgg3 rfl rfl isAgg27 sizeOf27 rfl,?_⟩
   show Out (z0v t) _ _
   rw [show z0v t=.ok C from E]
   exact ⟨(m,Y,Z,u2,u3),rfl,⟨le.trans g,r0,r1,r2⟩,((b.del 0).del 0).del 0⟩
  ·intro m a w n Y Z u2 u3 x E g J N
   refine hQ _ _ _ ?_
   show nI _ _ _ _ a.defers _ _
   rw [J.defs]
   replace N:=N.pull (i:=2) rfl
   have F:w.heap[Dk]? = some (.deferred (some [])):=N.own _ msQ
   have b:=(N.putObj (i:=0) (o':=.deferred none) rfl)
   replace b:Mem m (.blk c0 (ob [Y,Z,u2,u3] 27)::.blk wd (ob [x] 3)::.blk Dk (.deferred none)::K) (w.putObj Dk (.deferred none)):=(b.pull (i:=2) rfl).pull (i:=2) rfl
   refine aS (by simp) F (hU ?_)
   refine leaves_cons (f:=137) (args:=#[.pointer (some ⟨c0,0,none⟩),.pointer (some ⟨wd,0,none⟩)]) (by simp) (call137 _ _) ?_
   refine (q3n b).mono ?_
   rintro e' u' w'' ⟨rfl,rfl,u⟩
   refine ⟨_,q9z (i:=1) (j:=0) J u.toSees results98 rfl rfl isAgg3 rfl rfl isAgg27 sizeOf27 rfl,?_⟩
   show Out (z0v t) _ _
   rw [show z0v t=.error n from E]
   exact ⟨rfl,(((u.del 0).del 0).del 0).le (le.trans g)⟩
 ·intro Dk y c a w hB J N
  exact hB.elim
def Pos {α:Type} (f:Nat->Rd α):Prop:=∀i n,f i=.error n->0 < n
section
variable {ws:List Bs}
theorem Pos.bind {α β:Type} {f:Nat->Rd α} {g:α->Nat->Rd β} (a:Pos f) (b:∀x,Pos (g x)):Pos (fun i=>yX (f i) g):=fun i n h=>by
 cases hr:f i with
 | error m=>
  simp only [yX,hr] at h
  cases h;exact a i _ hr
 | ok y=>
  simp only [yX,hr] at h
  exact b _ _ n h
theorem Pos.ok {α:Type} (f:Nat->α×Nat):Pos (fun i=>(.ok (f i):Rd α)):=fun i n h=>by cases h
theorem Pos.ite {α:Type} {p:Nat->Prop} [∀i,Decidable (p i)] {f g:Nat->Rd α} (a:Pos f) (b:Pos g):Pos (fun i=>if p i then f i else g i):=fun i n h=>by
 simp only at h
 split at h
 ·exact a i n h
 ·exact b i n h
theorem Pos.next {α:Type} {f:Nat->Rd α} (a:Pos f):Pos (fun i=>f (i+1)):=fun i n h=>a (i+1) n h
theorem Pos.err {α:Type}:Pos (fun i=>(.error (i+1):Rd α)):=fun i n h=>by cases h;exact Nat.succ_pos _
theorem kY (p:Bs->Bool):Pos (nG ws p):=fun i n h=>by
 unfold nG at h
 split at h
 ·cases h;exact Nat.succ_pos _
 ·cases h
theorem aT (w:Bs):Pos (pA ws w):=(kY _).bind fun _=>Pos.ok fun i=>((),i)
theorem y6e {ex:Nat->Rd Ex} (J:Pos ex):∀f least,Pos (wP ws ex f least)
 | 0,_=>Pos.err
 | f+1,least=>Pos.ite (p:=fun i=>0 < least∨zE ws i≠sCls) (J.bind fun e=>(y6e J f _).bind fun l=>Pos.ok fun i=>(e::l,i)) (Pos.ok fun i=>([],i))
theorem j8c {ex:Nat->Rd Ex} (J:Pos ex):Pos (z7l ex):=J.bind fun a=>J.bind fun b=>Pos.ok fun i=>([a,b],i)
theorem j1d:∀f,Pos (dZ ws f)
 | 0=>Pos.err
 | f+1=>Pos.ite (p:=fun i=>zE ws i≠y7n) ((kY _).bind fun s=>(j1d f).bind fun l=>Pos.ok fun i=>(s::l,i)) (Pos.ok fun i=>([],i))
theorem arm_pos {ex:Nat->Rd Ex} (J:Pos ex):Pos (armP ws ex) :=
 (aT _).bind fun _=>(kY _).bind fun c=>(j1d _).bind fun vs=>(aT _).bind fun _=>J.bind fun b=>(aT _).bind fun _=>Pos.ok fun i=>(Arm.mk c vs b,i)
theorem q6k {ex:Nat->Rd Ex} (J:Pos ex):∀f b,Pos (gR ws ex f b)
 | 0,_=>Pos.err
 | f+1,b=>Pos.ite (p:=fun i=>b=true∨zE ws i=gI) ((arm_pos J).bind fun a=>(q6k J f false).bind fun l=>Pos.ok fun i=>(a::l,i)) (Pos.ok fun i=>([],i))
theorem x6m {ex:Nat->Rd Ex} (J:Pos ex):Pos (qF ws ex):=fun i n h=>by
 unfold qF at h
 split at h
 ·exact (j8c J).bind (fun l=>Pos.ok fun j=>(Ex.mk 8 0 (zE ws i) l [],j)) (i+1) n h
 ·split at h
  ·exact (kY _).bind (fun x=>(j8c J).bind fun l=>Pos.ok fun j=>(Ex.mk 6 0 x l [],j)) (i+1) n h
  ·split at h
   ·exact J.bind (fun a=>(q6k J _ true).bind fun l=>Pos.ok fun j=>(Ex.mk 7 0 sNo [a] l,j)) (i+1) n h
   ·split at h
    ·exact (y6e J _ 1).bind (fun l=>Pos.ok fun j=>(Ex.mk 4 0 (zE ws i) l [],j)) (i+1) n h
    ·exact (kY _).bind (fun x=>(y6e J _ 0).bind fun l=>Pos.ok fun j=>(Ex.mk 5 0 x l [],j)) i n h
theorem q7g:∀d,Pos (zV ws d)
 | 0=>Pos.err
 | d+1=>fun i n h=>by
  simp only [zV] at h
  split at h
  ·cases h;exact Nat.succ_pos _
  ·split at h
   ·cases h
   ·split at h
    ·exact (x6m (q7g d)).bind (fun e=>(aT _).bind fun _=>Pos.ok fun j=>(e,j)) (i+1) n h
    ·split at h
     ·cases h
     ·split at h
      ·cases h
      ·exact (kY _).bind (fun x=>Pos.ok fun j=>(Ex.mk 2 0 x [] [],j)) i n h
theorem y4k:∀f,Pos (kN ws f)
 | 0=>Pos.err
 | f+1=>Pos.ite (p:=fun i=>qB (zE ws i)=true) ((kY _).bind fun s=>(y4k f).bind fun l=>Pos.ok fun i=>(s::l,i)) (Pos.ok fun i=>([],i))
theorem q6x:∀f,Pos (gS ws f)
 | 0=>Pos.err
 | f+1=>(kY _).bind fun n=>(y4k _).bind fun l=>Pos.ite (p:=fun i=>zE ws i≠sBar) (Pos.ok fun i=>([(⟨n,l⟩:Con)],i)) ((q6x f).bind (fun cs=>Pos.ok fun i=>((⟨n,l⟩:Con)::cs,i))).next
theorem x4h:Pos (cY ws):=(kY _).bind fun n=>(aT _).bind fun _=>(q6x _).bind fun l=>Pos.ok fun i=>((⟨n,l⟩:Data),i)
theorem q2b:Pos (pG ws):=(kY _).bind fun n=>(aT _).bind fun _=>(kY _).bind fun t=>Pos.ok fun i=>((⟨n,t⟩:Param),i)
theorem y6t:∀f,Pos (wJ ws f)
 | 0=>Pos.err
 | f+1=>Pos.ite (p:=fun i=>zE ws i=gI) ((q2b).bind (fun p=>(aT _).bind fun _=>(y6t f).bind fun l=>Pos.ok fun i=>(p::l,i))).next (Pos.ok fun i=>([],i))
theorem fun_pos:Pos (gX ws):=(kY _).bind fun n=>(y6t _).bind fun ps=>(aT _).bind fun _=>(kY _).bind fun r=>(aT _).bind fun _=>(q7g _).bind fun b=>Pos.ok fun i=>((⟨n,ps,r,b⟩:Fun),i)
theorem tB:∀f c i n,jN ws f c i=.error n->0 < n
 | 0,_,_,_,h=>by cases h;exact Nat.succ_pos _
 | f+1,c,i,n,h=>by
  simp only [jN] at h
  split at h
  ·split at h
   ·split at h
    ·exact tB f _ _ n h
    ·rename_i a;cases h;exact x4h _ _ a
   ·split at h
    ·split at h
     ·exact tB f _ _ n h
     ·rename_i a;cases h;exact q2b _ _ a
    ·split at h
     ·split at h
      ·exact tB f _ _ n h
      ·rename_i a;cases h;exact fun_pos _ _ a
     ·split at h
      ·split at h
       ·exact tB f _ _ n h
       ·rename_i a;cases h;exact kY _ _ _ a
      ·cases h;exact Nat.succ_pos _
  ·cases h
end
theorem x8w {t:Bs} {n:Nat} (h:z0v t=.error n):0 < n:=tB _ _ _ _ h
def cQ (t:Bs):Except (Nat×Int) Core:=if 60000 < t.size then .error (0,2) else match z0v t with
 | .error n=>.error (n,5)
 | .ok c=>if zX c=0 then .ok c else .error (0,zX c)
theorem j3p {t:Bs} (h:60000 < t.size):cQ t=.error (0,2):=if_pos h
theorem j3r {t:Bs} {n:Nat} (h:¬60000 < t.size) (a:z0v t=.error n):cQ t=.error (n,5):=by unfold cQ;rw [if_neg h,a]
theorem q9n {t:Bs} {c:Core} (h:¬60000 < t.size) (a:z0v t=.ok c) (b:¬zX c=0):cQ t=.error (0,zX c):=by unfold cQ;rw [if_neg h,a];exact if_neg b
theorem y6v {t:Bs} {c:Core} (h:¬60000 < t.size) (a:z0v t=.ok c) (b:zX c=0):cQ t=.ok c:=by unfold cQ;rw [if_neg h,a];exact if_pos b
theorem x8k {Φ:Fz} {K:List Res} {w:World} {t:Bs} (G:Glob Φ) (N:Mem Φ K w) :
  Calls prog 62 #[.string t] w (fun ee w'=>Out (cQ t)
   (fun C=>∃y:Fz×Value×Value×Value×Value,ee=.returned (.tuple #[.agg #[y.2.1,y.2.2.1,y.2.2.2.1,y.2.2.2.2],.int .i64 ((0:Nat):Int),.int .i64 ((0:Nat):Int)])/\(Φ.Le y.1/\SliceOf RData y.1 2 y.2.1 C.datas/\SliceOf RParam y.1 2 y.2.2.1 C.inputs/\SliceOf RFun y.1 8 y.2.2.2.1 C.funs)/\Mem y.1 (.gs y.2.2.2.2 9 1 (strs C.outputs)::K) w')
   (fun c=>ee=.returned (.tuple #[.agg #[.slice none 0 0,.slice none 0 0,.slice none 0 0,.slice none 0 0],.int .i64 ((c.1:Nat):Int),.int .i64 c.2])/\Mem Φ K w')):=by
 refine zL func62 ntmps62 fun Q hQ a J=>?_
 refine Alc fun P w N a J=>?_
 by_cases q:60000 < t.size
 refine qM fun a J=>?_
 refine Sto 0 fun w N a J=>?_
 refine go fun a J=>?_
 have d:=N
 replace N:=N.dl [0]
 refine hQ _ _ _ (z9k (i:=0) (cs:=[.slice none 0 0,.slice none 0 0,.slice none 0 0,.slice none 0 0]) J d.toSees results62 rfl rfl isAgg27 sizeOf27 rfl rfl rfl ?_)
 show Out (cQ t) _ _
 rw [j3p q]
 exact ⟨rfl,N⟩
 refine go fun a J=>?_
 refine st J rfl rfl rfl (wN J rfl call98 (read_ok G (by omega) N) (fun g M w b m N a J=>?_) (fun g w b N a J=>?_))
 obtain ⟨z,R,S,T,U⟩:=M
 obtain ⟨e,r,s,u⟩:=m
 simp only at e r s u N J
 replace G:=G.mono e
 replace N:=N.nf
 obtain ⟨p0,q0,rfl,_,_⟩:=r.fm
 obtain ⟨B,F,rfl,_,_⟩:=s.fm
 obtain ⟨D,q2,rfl,_,_⟩:=u.fm
 obtain ⟨E,m3,H,n,_,_⟩:=N.toSees.gsForm (i:=0) rfl
 subst n
 replace N:=N.nf
 refine Alc fun I w N a J=>?_
 refine Sto 0 fun w N a J=>?_
 refine Qq (fun a J=>?_) (o:=by exact fun J O=>q3c false J rfl rfl rfl)
 refine go fun a J=>?_
 have h:=N
 clear N
 obtain ⟨A,f,N,k,j⟩:=h.freezeRowT (i:=1) rfl
 clear h
 replace G:=G.mono f
 replace N:=N.nf
 have p:RCore A [.slice p0 (g.datas).length q0,.slice B (g.inputs).length F,.slice D (g.funs).length q2,.slice E m3 H] g:=⟨_,_,_,_,rfl,r.mono RData.mono f,s.mono RParam.mono f,u.mono RFun.mono f,SliceOf.strs.2 k⟩
 refine zO call36 (fun w N a J=>?_) (c:=y3r p G N)
 refine go fun a J=>?_
 replace N:=j _ _ N
 replace N:=N.nf
 by_cases l:zX g=0
 refine Sto 2 fun w N a J=>?_
 refine go fun a J=>?_
 have d:=N
 replace N:=N.dl [2,1]
 refine hQ _ _ _ (z9k (i:=2) (cs:=[.slice p0 (g.datas).length q0,.slice B (g.inputs).length F,.slice D (g.funs).length q2,.slice E m3 H]) J d.toSees results62 rfl rfl isAgg27 sizeOf27 rfl rfl rfl ?_)
 show Out (cQ t) _ _
 rw [y6v q b l]
 exact ⟨(z,_,_,_,_),rfl,⟨e,r,s,u⟩,N⟩
 refine qM fun a J=>?_
 refine Sto 2 fun w N a J=>?_
 refine go fun a J=>?_
 have d:=N
 replace N:=N.dl [2,1,0]
 refine hQ _ _ _ (z9k (i:=2) (cs:=[.slice none 0 0,.slice none 0 0,.slice none 0 0,.slice none 0 0]) J d.toSees results62 rfl rfl isAgg27 sizeOf27 rfl rfl rfl ?_)
 show Out (cQ t) _ _
 rw [q9n q b l]
 exact ⟨rfl,N.le (e)⟩
 replace N:=N.nf
 have v:=x8w b
 refine Alc fun L w N a J=>?_
 refine Sto 0 fun w N a J=>?_
 refine qM fun a J=>?_
 refine Sto 1 fun w N a J=>?_
 refine go fun a J=>?_
 have d:=N
 replace N:=N.dl [1,0]
 refine hQ _ _ _ (z9k (i:=1) (cs:=[.slice none 0 0,.slice none 0 0,.slice none 0 0,.slice none 0 0]) J d.toSees results62 rfl rfl isAgg27 sizeOf27 rfl rfl rfl ?_)
 show Out (cQ t) _ _
 rw [j3r q b]
 exact ⟨rfl,N⟩
end Go.Sw
namespace Go.Sw
open Go.Proofs
set_option maxRecDepth 40000
set_option maxHeartbeats 4000000
def q2p:Bs:=⟨#[100,97,116,97,32,76,105,115,116,32,61,32,78,105,108,32,124,32,67,111,110,115,32,73,110,116,32,76,105,115,116,10,105,110,112,117,116,32,120,115,32,58,32,76,105,115,116,10,102,117,110,32,115,117,109,32,40,108,32,58,32,76,105,115,116,41,32,58,32,73,110,116,32,61,32,40,99,97,115,101,32,108,32,40,78,105,108,32,45,62,32,48,41,32,40,67,111,110,115,32,104,32,116,32,45,62,32,40,43,32,104,32,40,115,117,109,32,116,41,41,41,41,10,102,117,110,32,116,111,116,97,108,32,58,32,73,110,116,32,61,32,40,115,117,109,32,33,120,115,41,10,102,117,110,32,108,101,115,115,32,40,97,32,58,32,73,110,116,41,32,40,98,32,58,32,73,110,116,41,32,58,32,73,110,116,32,61,32,40,99,97,115,101,32,40,60,32,97,32,98,41,32,40,70,97,108,115,101,32,45,62,32,48,41,32,40,84,114,117,101,32,45,62,32,49,41,41,10,111,117,116,112,117,116,32,116,111,116,97,108,10]⟩
def z_l:Bs:=⟨#[108]⟩
def j8l:Bs:=⟨#[78,105,108]⟩
def z_h:Bs:=⟨#[104]⟩
def z_t:Bs:=⟨#[116]⟩
def y8s:Bs:=⟨#[115,117,109]⟩
def zPlus:Bs:=⟨#[43]⟩
def q5y:Bs:=⟨#[67,111,110,115]⟩
def z_xs:Bs:=⟨#[120,115]⟩
def z_a:Bs:=⟨#[97]⟩
def z_b:Bs:=⟨#[98]⟩
def zLess:Bs:=⟨#[60]⟩
def j8k:Bs:=⟨#[70,97,108,115,101]⟩
def z_True:Bs:=⟨#[84,114,117,101]⟩
def z_data:Bs:=⟨#[100,97,116,97]⟩
def z2t:Bs:=⟨#[76,105,115,116]⟩
def zEq:Bs:=⟨#[61]⟩
def zBar:Bs:=⟨#[124]⟩
def z0y:Bs:=⟨#[73,110,116]⟩
def z_input:Bs:=⟨#[105,110,112,117,116]⟩
def z5t:Bs:=⟨#[58]⟩
def z_fun:Bs:=⟨#[102,117,110]⟩
def z9x:Bs:=⟨#[40]⟩
def z9w:Bs:=⟨#[41]⟩
def z_case:Bs:=⟨#[99,97,115,101]⟩
def q5x:Bs:=⟨#[45,62]⟩
def z_0:Bs:=⟨#[48]⟩
def pI:Bs:=⟨#[116,111,116,97,108]⟩
def v1h:Bs:=⟨#[33,120,115]⟩
def z5u:Bs:=⟨#[108,101,115,115]⟩
def z_1:Bs:=⟨#[49]⟩
def v1k:Bs:=⟨#[111,117,116,112,117,116]⟩
def saneWs:List Bs:=[z_data,z2t,zEq,j8l,zBar,q5y,z0y,z2t,z_input,z_xs,z5t,z2t,z_fun,y8s,z9x,z_l,z5t,z2t,z9w,z5t,z0y,zEq,z9x,z_case,z_l,z9x,j8l,q5x,z_0,z9w,z9x,q5y,z_h,z_t,q5x,z9x,zPlus,z_h,z9x,y8s,z_t,z9w,z9w,z9w,z9w,z_fun,pI,z5t,z0y,zEq,z9x,y8s,v1h,z9w,z_fun,z5u,z9x,z_a,z5t,z0y,z9w,z9x,z_b,z5t,z0y,z9w,z5t,z0y,zEq,z9x,z_case,z9x,zLess,z_a,z_b,z9w,z9x,j8k,q5x,z_0,z9w,z9x,z_True,q5x,z_1,z9w,z9w,v1k,pI]
def saneC:Core:=⟨[⟨z2t,[⟨j8l,[]⟩,⟨q5y,[z0y,z2t]⟩]⟩],
 [⟨z_xs,z2t⟩],
 [⟨y8s,[⟨z_l,z2t⟩],z0y,(.mk 7 0 sNo [(.mk 2 0 z_l [] [])] [(.mk j8l [] (.mk 1 0 sNo [] [])),(.mk q5y [z_h,z_t] (.mk 8 0 zPlus [(.mk 2 0 z_h [] []),(.mk 5 0 y8s [(.mk 2 0 z_t [] [])] [])] []))])⟩,
  ⟨pI,[],z0y,(.mk 5 0 y8s [(.mk 3 0 z_xs [] [])] [])⟩,
  ⟨z5u,[⟨z_a,z0y⟩,⟨z_b,z0y⟩],z0y,(.mk 7 0 sNo [(.mk 8 0 zLess [(.mk 2 0 z_a [] []),(.mk 2 0 z_b [] [])] [])] [(.mk j8k [] (.mk 1 0 sNo [] [])),(.mk z_True [] (.mk 1 1 sNo [] []))])⟩],
 [pI]⟩
theorem j5k:sX q2p=saneWs:=by kernel_rfl
theorem x2d:z0v q2p=.ok saneC:=by
 unfold z0v;rw [j5k];kernel_rfl
theorem gL:zX saneC=0:=by kernel_rfl
theorem j3q:cQ q2p=.ok saneC:=y6v (by decide) x2d gL
section
variable {Φ:Fz} {K:List Res} {w:World}
theorem x1x (G:Glob Φ) (N:Mem Φ K w) :
  Calls Tryz.prog 62 #[.string q2p] w (fun ee w'=>∃y:Fz×List Value×Value,ee=.returned (.tuple #[.agg y.2.1.toArray,.int .i64 ((0:Nat):Int),.int .i64 ((0:Nat):Int)])/\(Φ.Le y.1/\RCoreX y.1 y.2.1 saneC y.2.2)/\Mem y.1 (.gs y.2.2 9 1 (strs saneC.outputs)::K) w'):=by
 have h1:=x8k (t:=q2p) G N
 rw [j3q] at h1
 refine h1.mono fun ee w' h=>?_
 obtain ⟨⟨Ψ,v0,b,v2,v3⟩,h1,⟨d,e,f,g⟩,a⟩:=h
 obtain ⟨p,m,c,rfl,hl,_⟩:=a.toSees.gsForm (i:=0) rfl
 have hm':m=saneC.outputs.length:=by simpa [strs] using hl.symm
 subst hm'
 exact ⟨(Ψ,[v0,b,v2,.slice p saneC.outputs.length c],.slice p saneC.outputs.length c),h1,⟨d,⟨v0,b,v2,p,c,rfl,rfl,e,f,g⟩⟩,a⟩
theorem j3o (G:Glob Φ) (N:Mem Φ K w) :
  Calls Tryz.prog 62 #[.string q2p] w (fun ee w'=>∃y:Fz×List Value,ee=.returned (.tuple #[.agg y.2.toArray,.int .i64 ((0:Nat):Int),.int .i64 ((0:Nat):Int)])/\(Φ.Le y.1/\RCore y.1 y.2 saneC)/\Mem y.1 K w'):=by
 refine (x1x G N).mono fun ee w' h=>?_
 obtain ⟨⟨Ψ,d,v⟩,h1,⟨c,e⟩,f⟩:=h
 obtain ⟨a,b,m1,g⟩:=Mem.freezeRow (i:=0) f rfl
 exact ⟨(a,d),h1,⟨c.trans b,(e.mono b).full (SliceOf.strs.2 g)⟩,m1⟩
end
end Go.Sw
namespace Go.Sw
open Go.Proofs Go.Proofs.Tryz
set_option maxRecDepth 20000
set_option maxHeartbeats 4000000
def z2g:List Bs->List Bs->Bool
 | [],_=>true
 | _::_,[]=>true
 | x::xs,y::ys=>decide (x=y)&&z2g xs ys
def y7p (l m:List Bs):Bool:=decide (l.length=m.length)&&z2g l m
theorem sM (x y:Bs) (xs ys:List Bs):z2g (x::xs) (y::ys)=(decide (x=y)&&z2g xs ys):=rfl
theorem j4m (ys:List Bs):z2g [] ys=true:=rfl
theorem y1d:∀l:List Bs,z2g l l=true
 | []=>rfl
 | x::xs=>by rw [sM,y1d xs];simp
theorem nT (l:List Bs):y7p l l=true:=by simp [y7p,y1d]
theorem q2k:∀l m:List Bs,l.length=m.length->z2g l m=decide (l=m)
 | [],[],_=>rfl
 | [],_::_,h=>by simp at h
 | _::_,[],h=>by simp at h
 | x::l,y::m,h=>by
  rw [sM,q2k l m (by simpa using h)]
  by_cases e:x=y <;> by_cases g:l=m <;> simp [e,g]
theorem x9r (l m:List Bs):y7p l m=decide (l=m):=by
 unfold y7p
 by_cases h:l.length=m.length
 ·rw [q2k l m h];simp [h]
 ·rw [decide_eq_false h,decide_eq_false (fun e=>h (by rw [e]))];rfl
theorem kW {Φ:Fz} {K:List Res} {w:World} {v0:Value} {v:List Bs} {M:Value} {u:List Bs} (z:SliceOf RStr Φ 1 v0 v) (y:SliceOf RStr Φ 1 M u) (N:Mem Φ K w) :
  Calls Tryz.prog 22 #[v0,M] w (fun ee w'=>ee=.returned (.bool (y7p v u))/\Mem Φ K w'):=by
 obtain ⟨p0,c0,rfl,T,E⟩:=z.fm
 obtain ⟨V,S,rfl,U,F⟩:=y.fm
 refine zL Tryz.func22 Tryz.ntmps22 fun Q hQ a J=>?_
 refine goJ 2 fun a J=>?_
 refine sq fun P D=>?_
 have p:∀a w,(∃(o:Bool),EnvR 31 [(0,.slice p0 v.length c0),(1,.slice V u.length S),(5,.bool o)] [] a/\Mem Φ (K) w/\(o=decide (v.length=u.length)))->P a w:=by
  clear N J
  rintro a w ⟨o,J,N,n⟩
  apply D
  refine go fun a J=>?_
  refine zT (J.ks [0,1]) N (fun R mm a w=>∃(i:Nat) (o:Bool),mm=v.length - i/\R Φ [(5,.bool o),(6,.int .i64 i)] [] a w/\(y7p v u=(o&&z2g (v.drop i) (u.drop i))/\(o=true->v.length=u.length))) (v.length - 0) ⟨0,o,rfl,⟨J.pk,N⟩,⟨by rw [n];rfl,fun h=>by rw [n] at h;simp only [decide_eq_true_eq] at h;exact h⟩⟩ ?_
  clear N J
  rintro mm a w ⟨i,o,r,⟨J,N⟩,C⟩ Y q
  obtain ⟨c,b⟩:=C
  by_cases f:i < v.length
  refine go fun a J=>?_
  cases o
  refine zC ?_
  exact zQ N (by rw [c,Bool.false_and])
  refine Reg [1,1,1,2,1,1,1,2,1,1] [] fun w N a J=>?_
  have g:i < u.length:=by rw [<- b rfl];exact f
  refine go fun a J=>?_
  obtain ⟨W,rfl,A,d,j,I,G,s⟩:=z.el E f
  obtain rfl:j=[.string A]:=s
  refine go fun a J=>?_
  obtain ⟨X,rfl,B,e,k,L,H,t⟩:=y.el F g
  obtain rfl:k=[.string B]:=t
  by_cases l:A=B
  refine go fun a J=>?_
  refine q _ _ _ (by subst r;omega) ⟨(i+1),(true),rfl,⟨J.pk,N⟩,?_⟩
  rotate_left
  refine go fun a J=>?_
  refine q _ _ _ (by subst r;omega) ⟨(i+1),(false),rfl,⟨J.pk,N⟩,?_⟩
  rotate_left
  refine zC ?_
  exact zQ N (by rw [c,zB f,j4m,Bool.and_true])
  all_goals (exact ⟨by rw [c,zA d,zA e,sM,Bool.true_and];simp [l],fun _=>b rfl⟩)
 by_cases m:v.length=u.length
 refine go fun a J=>?_
 exact p _ _ ⟨true,J.pk,N,by simp [m]⟩
 refine go fun a J=>?_
 exact p _ _ ⟨false,J.pk,N,by simp [m]⟩
def zz (l:List Nat):Bs:=⟨(l.map UInt8.ofNat).toArray⟩
def z_inxs:Bs:=⟨#[105,110,46,120,115]⟩
def z7s:Bs:=⟨#[67,111,110,115,47,48]⟩
def z_Cons1:Bs:=⟨#[67,111,110,115,47,49]⟩
def z_suml:Bs:=⟨#[115,117,109,46,108]⟩
def z_sumt:Bs:=⟨#[115,117,109,46,116]⟩
def q2l:List Bs:=[z_inxs,z_Cons1,y8s,z_suml,z_sumt,pI]
def q1f (nx:Next) (l:List Bs):Nat->List Bs
 | 0=>l
 | k+1=>(q1f nx l k).flatMap (xU nx)
theorem way_iter {nx:Next} {l:List Bs}:∀{k:Nat} {x:Bs},Way nx l k x↔x∈q1f nx l k:=by
 intro k
 induction k with
 | zero=>intro x;exact ⟨fun h=>by cases h;assumption,fun h=>.root h⟩
 | succ k b=>
  intro x
  constructor
  intro h
  cases h with
  | step h1 a=>exact List.mem_flatMap.2 ⟨_,b.1 h1,a⟩
  intro h
  obtain ⟨y,h1,a⟩:=List.mem_flatMap.1 h
  exact .step (b.2 h1) a
theorem x9z:z9l saneC=q2l:=by kernel_rfl
theorem j4r:aZ saneC=.ok q2l:=by rw [aZ,if_pos gL,x9z]
theorem j3i:q4u saneC=.ok (zG saneC):=if_pos gL
theorem x1i:(zG saneC).length=11:=by kernel_rfl
theorem v0r:pI∈zG saneC:=by
 have h:decide (pI∈zG saneC)=true:=by kernel_rfl
 exact of_decide_eq_true h
theorem x4a:z7s∈zG saneC:=by
 have h:decide (z7s∈zG saneC)=true:=by kernel_rfl
 exact of_decide_eq_true h
theorem less_in:z5u∈zG saneC:=by
 have h:decide (z5u∈zG saneC)=true:=by kernel_rfl
 exact of_decide_eq_true h
theorem v0s:(zK (yZ (qR (zY saneC)) (yA saneC)) pI).isSome=true:=by kernel_rfl
theorem j8y:(zK (yZ (qR (zY saneC)) (yA saneC)) z7s).isSome=false:=by kernel_rfl
theorem j9k:q7b saneC z5u=[]:=by kernel_rfl
theorem j3a:aR saneC (zG saneC)=112:=by kernel_rfl
theorem x1y {l:List Bs} (h:PathOk (qR (zY saneC)) (yA saneC) pI l):l.length=4:=by
 have d:decide (pI∈q1f (qR (zY saneC)) (yA saneC) 3)=true:=by kernel_rfl
 have c:decide (pI∈q1f (qR (zY saneC)) (yA saneC) 2)=false:=by kernel_rfl
 have h1:decide (pI∈q1f (qR (zY saneC)) (yA saneC) 1)=false:=by kernel_rfl
 have b:decide (pI∈q1f (qR (zY saneC)) (yA saneC) 0)=false:=by kernel_rfl
 have a:=way_iter.1 h.way
 have j:=h.pos
 obtain ⟨p,rfl,_,_,f⟩:=h
 have i:=f 3 (way_iter.2 (of_decide_eq_true d))
 simp only [laQ,lcQ,lnQ,Nat.add_sub_cancel] at *
 have a0:p.length≠0:=fun e=>by rw [e] at a;exact of_decide_eq_false b a
 have g:p.length≠1:=fun e=>by rw [e] at a;exact of_decide_eq_false h1 a
 have a2:p.length≠2:=fun e=>by rw [e] at a;exact of_decide_eq_false c a
 omega
section
variable {Φ:Fz} {K:List Res} {w:World} {d0:List Value}
theorem x2r (a:RCore Φ d0 saneC) (G:Glob Φ) (b:∀c,zX c=0->LOk c) (N:Mem Φ K w) :
  Calls prog 15 #[.agg d0.toArray] w (fun ee w'=>∃y:Value,ee=.returned (.tuple #[y,.int .i64 0])/\True/\Mem Φ (.gs y 9 1 (strs q2l)::K) w'):=by
 have h:=q2o a G (b _) N
 rw [j4r] at h;exact h
theorem x1p (a:RCore Φ d0 saneC) (G:Glob Φ) (b:∀c,zX c=0->LOk c) (N:Mem Φ K w) :
  Calls prog 12 #[.agg d0.toArray] w (fun ee w'=>∃y:Value,ee=.returned (.tuple #[y,.int .i64 0])/\True/\Mem Φ (.gs y 9 1 (strs (zG saneC))::K) w'):=by
 have h:=x1q a G (b _) N
 rw [j3i] at h;exact h
theorem j8r (a:RCore Φ d0 saneC) (G:Glob Φ) (e:∀c,zX c=0->LOk c) (N:Mem Φ K w) :
  Calls prog 26 #[.agg d0.toArray,.string pI] w (fun ee w'=>∃y:Value×List Bs,ee=.returned (.tuple #[y.1,.int .i64 0])/\y.2.length=4/\Mem Φ (.gs y.1 9 1 (strs y.2)::K) w'):=by
 have h:=y9r (n:=pI) a G (e _) N
 rw [y9q gL v0r v0s] at h
 exact h.mono fun ee w' ⟨y,h1,b,d⟩=>⟨y,h1,x1y b,d⟩
theorem x3t (a:RCore Φ d0 saneC) (G:Glob Φ) (b:∀c,zX c=0->LOk c) (N:Mem Φ K w) :
  Calls prog 26 #[.agg d0.toArray,.string z7s] w (fun ee w'=>ee=.returned (.tuple #[.slice none 0 0,.int .i64 3])/\Mem Φ K w'):=by
 have h:=y9r (n:=z7s) a G (b _) N
 rw [y9p gL x4a j8y] at h;exact h
theorem x4n (a:RCore Φ d0 saneC) (G:Glob Φ) (b:∀c,zX c=0->LOk c) (N:Mem Φ K w) :
  Calls prog 14 #[.agg d0.toArray,.string z5u] w (fun ee w'=>∃y:Value,ee=.returned (.tuple #[y,.int .i64 0])/\True/\Mem Φ (.gs y 9 1 (strs [])::K) w'):=by
 have h:=q7a (n:=z5u) a G (b _) N
 rw [z2b gL less_in,j9k] at h;exact h
end
theorem x9y {Φ:Fz} {K:List Res} {w:World} (G:Glob Φ) (N:Mem Φ K w) :
  Calls prog 35 #[] w (fun ee w'=>∃y:Fz×List Value,ee=.returned (.agg y.2.toArray)/\(Φ.Le y.1/\RCore y.1 y.2 saneC)/\Mem y.1 K w'):=by
 refine zL func35 ntmps35 fun Q hQ a J=>?_
 refine Alc fun B w N a J=>?_
 refine yU call62 (fun A w f N a J=>?_) (c:=j3o G N)
 obtain ⟨Ψs,ds⟩:=A
 obtain ⟨les,b⟩:=f
 simp only at les b N J
 replace G:=G.mono les
 replace N:=N.nf
 have d:=b
 obtain ⟨z,c9,h,e,i,c21,j,c27,rfl,C,t,u,v,k,o,l,p,m,q,n,r⟩:=RCore.fm b
 refine Alc fun s w N a J=>?_
 refine Sto 0 fun w N a J=>?_
 refine Sto 1 fun w N a J=>?_
 refine go fun a J=>?_
 have g:=N
 replace N:=N.dl [1,0]
 refine pR (N:=g) ?_
 exact ⟨(Ψs,[.slice z saneC.datas.length c9,.slice h saneC.inputs.length e,.slice i saneC.funs.length c21,.slice j saneC.outputs.length c27]),rfl,⟨les,d⟩,N⟩
theorem q5i {Φ:Fz} {K:List Res} {w:World} (G:Glob Φ) (z:∀c,zX c=0->LOk c) (N:Mem Φ K w) :
  Calls prog 11 #[] w (fun ee w'=>ee=.returned (.bool true)/\Mem Φ K w'):=by
 refine zL func11 ntmps11 fun Q hQ a J=>?_
 refine yU call35 (fun y3 w H N a J=>?_) (c:=x9y G N)
 obtain ⟨Ψs,ds⟩:=y3
 obtain ⟨les,f⟩:=H
 simp only at les f N J
 replace G:=G.mono les
 replace N:=N.nf
 have I:=f
 obtain ⟨p7,c8,w0,k0,x0,c20,y0,l0,rfl,h6,r0,s0,t0,u0,a0,S,b0,T,c0,U,d0⟩:=RCore.fm I
 refine Alc fun j0 w N a J=>?_
 refine Sto 0 fun w N a J=>?_
 refine yU call15 (fun G0 w M N a J=>?_) (c:=x2r f G z N)
 replace N:=N.nf
 refine yU call26 (fun L w A N a J=>?_) (c:=j8r f G z N)
 obtain ⟨plv,pl⟩:=L
 have plh:=A
 simp only at plh N J
 replace N:=N.nf
 refine zO call26 (fun w N a J=>?_) (c:=x3t f G z N)
 refine yU call12 (fun H0 w P N a J=>?_) (c:=x1p f G z N)
 replace N:=N.nf
 refine yU call14 (fun I0 w R N a J=>?_) (c:=x4n f G z N)
 replace N:=N.nf
 refine go fun a J=>?_
 have b:=N
 clear N
 obtain ⟨B,p,N,q⟩:=b.freezeRow (i:=3) rfl
 clear b
 replace G:=G.mono p
 replace f:=RCore.mono _ _ _ _ p f
 replace N:=N.nf
 have e:SliceOf RStr B 1 _ (q2l):=SliceOf.strs.2 q
 obtain ⟨z0,m0,h,V,e0⟩:=e.form (by decide)
 have d:=N
 clear N
 subst h
 have N:=d
 clear d
 have b:=N
 clear N
 obtain ⟨C,l,N,r⟩:=b.freezeRow (i:=2) rfl
 clear b
 replace G:=G.mono l
 replace f:=RCore.mono _ _ _ _ l f
 replace e:=e.up l
 replace N:=N.nf
 have v:SliceOf RStr C 1 _ (pl):=SliceOf.strs.2 r
 obtain ⟨A0,n0,h,W,f0⟩:=v.form (by decide)
 have d:=N
 clear N
 subst h
 have N:=d
 clear d
 have b:=N
 clear N
 obtain ⟨D,m,N,s⟩:=b.freezeRow (i:=1) rfl
 clear b
 replace G:=G.mono m
 replace f:=RCore.mono _ _ _ _ m f
 replace e:=e.up m
 replace N:=N.nf
 have g:SliceOf RStr D 1 _ ((zG saneC)):=SliceOf.strs.2 s
 obtain ⟨B0,o0,h,X,g0⟩:=g.form (by decide)
 have d:=N
 clear N
 subst h
 have N:=d
 clear d
 have b:=N
 clear N
 obtain ⟨E,j,N,t⟩:=b.freezeRow (i:=0) rfl
 clear b
 replace G:=G.mono j
 replace f:=RCore.mono _ _ _ _ j f
 replace e:=e.up j
 replace g:=g.up j
 replace N:=N.nf
 have y:SliceOf RStr E 1 _ (([]:List Bs)):=SliceOf.strs.2 t
 obtain ⟨C0,p0,h,Y,h0⟩:=y.form (by decide)
 have d:=N
 clear N
 subst h
 have N:=d
 clear d
 refine Qq (fun a J=>?_) (o:=by exact fun J O=>kD true J rfl rfl rfl)
 refine Qq (fun a J=>?_) (o:=by exact fun J O=>kD true J rfl rfl rfl)
 refine Qq (fun a J=>?_) (o:=by exact fun J O=>kD true J rfl rfl rfl)
 refine Qq (fun a J=>?_) (o:=by exact fun J O=>kD true J rfl rfl rfl)
 refine Qq (fun a J=>?_) (o:=by exact fun J O=>kD true J rfl rfl rfl)
 refine jQ fun E0 w N a J=>?_
 have b:=N
 clear N
 obtain ⟨F,k,N,u⟩:=b.freezeRow (i:=0) rfl
 clear b
 replace G:=G.mono k
 replace f:=RCore.mono _ _ _ _ k f
 replace e:=e.up k
 replace g:=g.up k
 replace N:=N.nf
 have n:SliceOf RStr F 1 _ (q2l):=SliceOf.strs.2 u
 obtain ⟨D0,q0,h,Z,i0⟩:=n.form (by decide)
 have d:=N
 clear N
 subst h
 have N:=d
 clear d
 refine zO call22 (fun w N a J=>?_) (c:=(show Calls prog _ _ _ (fun ee w'=>ee=.returned (.bool true)/\_) from (nT q2l)▸kW e n N))
 refine Qq (fun a J=>?_) (o:=by exact fun J O=>kD true J rfl rfl (decide_eq_true (congrArg Int.ofNat x1i)))
 refine Qq (fun a J=>?_) (o:=by exact fun J O=>kD true J rfl rfl (decide_eq_true (congrArg Int.ofNat rfl)))
 refine zO call17 (fun w N a J=>?_) (c:=(j3a▸z3h f g G (z _) N))
 refine Qq (fun a J=>?_) (o:=by exact fun J O=>kD true J rfl rfl rfl)
 refine zC ?_
 replace N:=N.le ((((((les).trans p).trans l).trans m).trans j).trans k)
 replace N:=N.dl [0]
 exact ⟨rfl,N⟩
end Go.Sw
namespace Go.Proofs.YtghdfphedgcpdaaGreatDoor
open Go.ChangeShapes Go.WideShapes Go.ChangeAt Go.RowKit Go.Sw
set_option maxRecDepth 100000
section
variable {H:Type} {enc:TypeId×Value->H}
theorem v0h {W:World} {base:Nat} {v:Value} {d:DataW H} {p:List MemPlace} (c:Value.okWide Tryz.prog W .any base 25 v) (h:DataW.Trod enc Tryz.prog W 0 (fun _=>true) true 25 v d p):∃l,SliceOf RStr (Fz.whole W) 1 v l:=by
 obtain ⟨a,len,cap,rfl⟩:=okWide_slice Tryz.underlying25 c
 obtain ⟨fuel,b⟩:=h
 obtain ⟨v,l,e,hl⟩:=z3q (enc:=enc) (W:=W) (n:=fuel) (cs:=[.slice a len cap]) b
 simp only [List.cons.injEq,and_true] at e
 subst e
 exact ⟨l,hl⟩
theorem q5l {W:World} {t e:TypeId} {n fuel cap:Nat} {p:Option Addr} {x:DataW H×List MemPlace} (c:Tryz.prog.underlying t=some (.slice e)) (h:trd enc W fuel t [.slice p n cap]=some x)
  (d:∀q∈DataW.weights Tryz.prog t x.1,q<=reachBytes):n * Tryz.prog.bytesOf e<=reachBytes:=by
 rcases DataW.trod_slice c h with ⟨h1,_⟩ | ⟨a,len,cap',elems,rest,m,_,h1,rfl,_,_,_,b,_⟩
 ·simp only [List.cons.injEq,Value.slice.injEq] at h1
  obtain ⟨⟨_,rfl,_⟩,_⟩:=h1
  simp
 ·simp only [List.cons.injEq,and_true,Value.slice.injEq] at h1
  obtain ⟨_,rfl,_⟩:=h1
  refine Nat.le_trans (Nat.mul_le_mul_right _ ?_) (d ((elems.length+rest.length) * Tryz.prog.bytesOf e) (by simp [DataW.weights,c]))
  omega
theorem bytes9:Tryz.prog.bytesOf 9=16:=by kernel_rfl
theorem j0s {W:World} {v:Value} {l:List Bs} {d:DataW H} {p:List MemPlace} (hl:SliceOf RStr (Fz.whole W) 1 v l) (h:DataW.Trod enc Tryz.prog W 0 (fun _=>true) true 25 v d p)
  (b:∀q∈DataW.weights Tryz.prog 25 d,q<=reachBytes):l.length<=8796093022208:=by
 obtain ⟨fuel,a⟩:=h
 obtain ⟨q,c,rfl,_,_⟩:=hl.form (by decide)
 have:=q5l (enc:=enc) (W:=W) Tryz.underlying25 (n:=l.length) a b
 rw [bytes9] at this
 have hr:reachBytes=140737488351232:=rfl
 omega
end
end Go.Proofs.YtghdfphedgcpdaaGreatDoor
namespace Go.Proofs.YtghdfphedgcpdaaGreatDoor
open Go.ChangeShapes Go.WideShapes Go.ChangeAt Go.RowKit Go.Sw
set_option maxRecDepth 100000
section
variable {H:Type} {enc:TypeId×Value->H}
theorem x2o {W:World} {t e:TypeId} {fuel:Nat} {v:Value} {x:DataW H×List MemPlace} (d:Tryz.prog.underlying t=some (.slice e)) (h:trd enc W fuel t [v]=some x):Cap v:=by
 rcases DataW.trod_slice d h with ⟨h1,_⟩ | ⟨a,len,cap,elems,rest,m,_,h1,_,_,b,_⟩
 ·simp only [List.cons.injEq,and_true] at h1;subst h1;exact Cap.nil
 ·simp only [List.cons.injEq,and_true] at h1;subst h1
  intro p n c e
  injection e with f e2 e3
  omega
theorem x4e {W:World} {cs:List Value} {d:DataW H} {p:List MemPlace} (h:DataW.Trod enc Tryz.prog W 0 (fun _=>true) true 27 (.agg (List.toArray cs)) d p):∀v,cs[3]? = some v->Cap v:=by
 obtain ⟨fuel,a⟩:=h
 obtain ⟨m,rfl,hl,a⟩:=dA (enc:=enc) (W:=W) (cs:=cs) Tryz.underlying27 a
 rw [c27] at hl
 obtain ⟨a0,r,rfl,b⟩:=jJ hl
 obtain ⟨j,r,rfl,c⟩:=jJ b
 obtain ⟨a2,r,rfl,e⟩:=jJ c
 obtain ⟨a3,r,rfl,g⟩:=jJ e
 obtain ⟨_,f⟩:=a 3 25 3 rfl
 simp only [c25,List.drop_succ_cons,List.drop_zero,List.take_succ_cons,List.take_zero] at f
 intro v i
 obtain rfl:a3=v:=by simpa using i
 exact x2o Tryz.underlying25 f
end
end Go.Proofs.YtghdfphedgcpdaaGreatDoor
namespace Go.Sw
open Go.Proofs Go.Proofs.Tryz
set_option maxRecDepth 20000
set_option maxHeartbeats 4000000
section
variable {P:Program} {n:Nat} {E:List (Nat×Value)} {D:List Deferred} {Φ:Fz} {K:List Res} {w:World} {a:Act} {ty:TypeId}
theorem y8r (i m o:Nat) {x:Operand} {T f:TypeId} {q:Addr} {mm c k:Nat} {cells:List Value} {v:Value} (J:EnvR n E D a) (N:Sees Φ K w)
  (e:ev E x=some (.pointer (some ((q.add m).add o)))) (d:qU K i=some (.gs (.slice (some q) mm c) f k cells)) (p:cells[m+o]? = some v) (l:Scalar P T):Ok P a (.load T x) ty w v:=by
 intro _ _ _ _
 have hq:q.spot=none:=by
  obtain ⟨_,_,g⟩:=N.own _ (qV d)
  rcases g with ⟨h,_⟩ | ⟨b,_,_,h,_⟩
  ·cases h
  ·simp only [Value.slice.injEq,Option.some.injEq] at h
   rw [h.1]
 rw [add_add _ _ _ hq] at e
 have h1:w.cell? (q.add (m+o))=some v:=by
  rcases N.rowIn d with ⟨h,_⟩ | ⟨q',m',c',h,_,j⟩
  ·cases h
  ·simp only [Value.slice.injEq,Option.some.injEq] at h
   obtain ⟨rfl,rfl,rfl⟩:=h
   exact j _ _ p
 simp only [execOp,J.ev e]
 simp [Instr.loadAt,Instr.sureAddr,loadVar,Sem.run_bind,l w,Result.andThen,load,Sem.run,h1]
end
theorem sT:∀{l:List Flow} {i:Nat} {x:Flow},l[i]? = some x->(zU l)[i * 2]? = some (.string x.1)/\(zU l)[i * 2+1]? = some (.string x.2)
 | [],_,_,h=>by simp at h
 | y::l,0,x,h=>by simp only [List.getElem?_cons_zero,Option.some.injEq] at h;subst h;exact ⟨rfl,rfl⟩
 | y::l,i+1,x,h=>by
  rw [List.getElem?_cons_succ] at h
  have:=sT h
  rw [show (i+1) * 2=i * 2+1+1 by omega]
  exact this
def z1d (l:List Bool):List Value:=l.map .bool
theorem z5x (l:List Bool):(z1d l).length=l.length:=by simp [z1d]
theorem z7u {l:List Bool} {i:Nat} {x:Bool} (h:l[i]? = some x):(z1d l)[i * 1]? = some (.bool x):=by simp [z1d,h]
theorem j8t (l:List Bool) (i:Nat) (x:Bool):z1d (l.set i x)=(z1d l).set i (.bool x):=by simp [z1d,List.map_set]
theorem y5k (l:List Int) (i:Nat) (x:Int):z1p (l.set i x)=(z1p l).set i (.int .i64 x):=by simp [z1p,List.map_set]
theorem x7b (n:Nat) (x:Int):z1p (List.replicate n x)=List.replicate n (.int .i64 x):=by simp [z1p]
theorem j8s (n:Nat) (x:Bool):z1d (List.replicate n x)=List.replicate n (.bool x):=by simp [z1d]
theorem z3d {Φ:Fz} {K:List Res} {w:World} {i k:Nat} {T:TypeId} {v:Value} {cs:List Value} {m:Nat} (N:Mem Φ K w) (b:qU K i=some (.gs v T k cs)) (hl:cs.length=m * k) (a:0 < k):∃p cap,v=.slice p m cap:=by
 obtain ⟨p,m',c,rfl,h1,_⟩:=N.toSees.gsForm b
 have:m'=m:=Nat.eq_of_mul_eq_mul_right a (h1.symm.trans hl)
 exact ⟨p,c,by rw [this]⟩
section
variable {P:Program} {n:Nat} {E:List (Nat×Value)} {D:List Deferred} {a:Act} {Φ:Fz} {K:List Res} {w:World}
variable {dst:Option Tmp} {ty:TypeId} {pos:String} {aft:Array Edge} {g:Option (Nat×Bool)} {Kn:Value->World->Prop} {Qp:List PanicEntry->World->Prop}
theorem z3y (m:Nat) {t e:TypeId} {bytes:Nat} {l c:Operand} {z:Value} (o:RowT P t e 1 bytes) (H:ZeroT P e z) (q:z.cells=#[z]) (J:EnvR n E D a) (N:Mem Φ K w)
  (hl:ev E l=some (.int .i64 m)) (F:ev E c=some (.int .i64 m)) (hb:m * bytes<=140737488355328)
  (k:∀v w',Mem Φ (.gs v e 1 (List.replicate m z)::K) w'->Kn v w'):Oper.eff P ⟨dst,.makeSlice t l c,ty,pos,aft,g⟩ a w Kn Qp:=by
 obtain ⟨inf,z',y,hz',r,d,I⟩:=o.info
 have p:=o.bpos
 have f:m<=140737488355328:=Nat.le_trans (Nat.le_mul_of_pos_right m p) hb
 have G:IntKind.i64.wrap ((m:Nat):Int)=((m:Nat):Int):=jW (by omega)
 unfold Oper.eff
 have:(execOp a.eval ⟨dst,.makeSlice t l c,ty,pos,aft,g⟩).run P w=.ok (.value (.slice (some ⟨w.heap.size,0,none⟩) m m)) { w with heap:=w.heap.push (ob (List.replicate m z) e) }:=by
  simp only [execOp,J.ev hl,J.ev F]
  have B:(asIntOf (Value.int IntKind.i64 ((m:Nat):Int))).run P w=.ok (.i64,((m:Nat):Int)) w:=by simp [asIntOf,Sem.run]
  have h1:¬(((m:Nat):Int) < 0):=by omega
  have u:¬(281474976710656 < (inf.bytes:Int) * ((m:Nat):Int)):=by
   rw [d];have:(bytes:Int) * ((m:Nat):Int)=((m * bytes:Nat):Int):=by rw [Nat.mul_comm];simp
   omega
  have A:¬(roomBytes < m * inf.bytes):=by rw [d];simp only [roomBytes];omega
  have C:(sizeOf e).run P w=.ok 1 w:=by simp [sizeOf,typeInfo,y,Sem.run_bind,r]
  simp [Instr.makeSlice,Sem.run_bind,run_underlying o.under,typeInfo,y,asInt,B,G,h1,u,askRoom,A,C,Result.andThen]
  have h:Array.map (fun _=>(default:Value)) (Array.range 0)=#[]:=Array.ext (by simp) (by simp)
  have j:Array.map (fun x=>(#[z]:Array Value)[x % (#[z]:Array Value).size]!) (Array.range m)=(List.replicate m z).toArray:=Array.ext (by simp) fun i h1 u=>by simp [Nat.mod_one]
  by_cases s:m=0
  ·subst s
   simp [newRow,ob,h]
  ·simp only [s,if_false,H w,q,j]
   simp [newRow,ob]
 rw [this]
 refine k _ _ (N.more rfl rfl (fun b hb=>pO hb) ⟨m,by simp,.inr ⟨w.heap.size,m,(List.replicate m z).toArray,rfl,Nat.zero_le _,by simp [ob],Nat.le_refl _,Nat.le_trans f (by decide),by simp,by simp⟩⟩ (by simp [Res.foot,Value.ownBlock]))
end
abbrev Edges:=List (Nat×Nat)
def y4b (r:Nat) (s:List Int×Bool) (e:Nat×Nat):List Int×Bool :=
 if s.1.getD e.1 0=(r:Int)/\s.1.getD e.2 0 < 0 then (s.1.set e.2 ((r+1:Nat):Int),true) else s
def jV (r:Nat) (es:Edges) (o:List Int):List Int×Bool:=es.foldl (y4b r) (o,false)
theorem dG (r:Nat) (es:Edges) (e:Nat×Nat) (o:List Int):jV r (es++[e]) o=y4b r (jV r es o) e:=by simp [jV]
def nL (es:Edges):Nat->Nat->List Int->List Int
 | 0,_,o=>o
 | g+1,r,o=>if (jV r es o).2=true then nL es g (r+1) (jV r es o).1 else (jV r es o).1
def pU (n:Nat) (l:List Nat):List Int:=l.foldl (fun o i=>o.set i 0) (List.replicate n (-1))
def aX (n:Nat) (es:Edges) (l:List Nat):List Int:=nL es n 0 (pU n l)
theorem q8b (l:List Int) (i j:Nat) (x:Int):(l.set i x).getD j 0=if i=j/\j < l.length then x else l.getD j 0:=by
 simp only [List.getD_eq_getElem?_getD,List.getElem?_set]
 by_cases h:i=j
 ·subst h
  by_cases g:i < l.length
  ·simp [g]
  ·simp [g]
 ·simp [h]
theorem z5l (n:Nat) (l:List Nat):(pU n l).length=n:=by
 refine vO (p:=fun l=>(pU n l).length=n) (by simp [pU]) (fun l x a=>?_) l
 have:pU n (l++[x])=(pU n l).set x 0:=by simp [pU]
 rw [this,List.length_set];exact a
theorem j4z (n:Nat) (l:List Nat):∀i,i < n->(pU n l).getD i 0=if i∈l then 0 else -1:=by
 refine vO (p:=fun l=>∀i,i < n->(pU n l).getD i 0=if i∈l then 0 else -1) (fun i a=>by simp [pU,List.getD_eq_getElem?_getD,List.getElem?_replicate,a]) (fun l x b i a=>?_) l
 have:pU n (l++[x])=(pU n l).set x 0:=by simp [pU]
 rw [this,q8b,b i a,z5l]
 by_cases h:x=i
 ·subst h;simp [a]
 ·have h':¬i=x:=fun e=>h e.symm
  simp [h,h']
theorem z0h (r:Nat) (o:List Int) (es:Edges):(jV r es o).1.length=o.length:=by
 refine vO (p:=fun es=>(jV r es o).1.length=o.length) rfl (fun es e a=>?_) es
 rw [dG];unfold y4b
 split
 ·rw [List.length_set];exact a
 ·exact a
theorem q8a {l:List Int} {i:Nat} (h:l.length<=i):l.getD i 0=0:=by rw [List.getD_eq_getElem?_getD,List.getElem?_eq_none h];rfl
open Classical in
theorem j4g (r:Nat) (o:List Int) (es:Edges):(∀i,i < o.length->(jV r es o).1.getD i 0=if o.getD i 0 < 0/\(∃a,(a,i)∈es/\o.getD a 0=(r:Int)) then ((r+1:Nat):Int) else o.getD i 0) /\
  ((∀e∈es,e.2 < o.length)->((jV r es o).2=true↔∃i,i < o.length/\o.getD i 0 < 0/\∃a,(a,i)∈es/\o.getD a 0=(r:Int))):=by
 refine vO (p:=fun es=>(∀i,i < o.length->(jV r es o).1.getD i 0=if o.getD i 0 < 0/\(∃a,(a,i)∈es/\o.getD a 0=(r:Int)) then ((r+1:Nat):Int) else o.getD i 0) /\
  ((∀e∈es,e.2 < o.length)->((jV r es o).2=true↔∃i,i < o.length/\o.getD i 0 < 0/\∃a,(a,i)∈es/\o.getD a 0=(r:Int)))) ?_ ?_ es
 ·exact ⟨fun i _=>by simp [jV],fun _=>by simp [jV]⟩
 ·intro es e B
  obtain ⟨d,l⟩:=B
  obtain ⟨u,v⟩:=e
  have s:=z0h r o es
  have hr:∀a,(jV r es o).1.getD a 0=(r:Int)↔o.getD a 0=(r:Int):=fun a=>by
   rcases Nat.lt_or_ge a o.length with y | y
   ·rw [d a y]
    split
    ·rename_i g
     constructor
     ·intro h;omega
     ·intro h;omega
    ·rfl
   ·rw [q8a (by omega),q8a y]
  rw [dG]
  unfold y4b
  simp only [hr]
  constructor
  ·intro i q
   by_cases g:o.getD u 0=(r:Int)/\(jV r es o).1.getD v 0 < 0
   ·rw [if_pos g]
    show ((jV r es o).1.set v _).getD i 0=_
    rw [q8b,s]
    by_cases m:v=i
    ·subst m
     rw [if_pos ⟨rfl,q⟩]
     have j:o.getD v 0 < 0:=by
      have:=g.2
      rw [d v q] at this
      split at this
      ·omega
      ·exact this
     rw [if_pos ⟨j,u,by simp,g.1⟩]
    ·rw [if_neg (fun h=>m h.1),d i q]
     have e:(∃a,(a,i)∈es++[(u,v)]/\o.getD a 0=(r:Int))↔∃a,(a,i)∈es/\o.getD a 0=(r:Int):=by
      constructor
      ·rintro ⟨a,h1,f⟩
       rw [List.mem_append,List.mem_singleton] at h1
       rcases h1 with h1 | h1
       ·exact ⟨a,h1,f⟩
       ·cases h1;exact absurd rfl m
      ·rintro ⟨a,h1,f⟩;exact ⟨a,List.mem_append_left _ h1,f⟩
     simp only [e]
   ·rw [if_neg g,d i q]
    by_cases j:o.getD i 0 < 0
    ·by_cases c:∃a,(a,i)∈es/\o.getD a 0=(r:Int)
     ·rw [if_pos ⟨j,c⟩,if_pos ⟨j,let ⟨a,h1,f⟩:=c;⟨a,List.mem_append_left _ h1,f⟩⟩]
     ·rw [if_neg (fun h=>c h.2),if_neg]
      rintro ⟨_,a,h1,f⟩
      rw [List.mem_append,List.mem_singleton] at h1
      rcases h1 with h1 | h1
      ·exact c ⟨a,h1,f⟩
      ·simp only [Prod.mk.injEq] at h1
       obtain ⟨w,e2⟩:=h1
       refine g ⟨w▸f,?_⟩
       rw [<- e2,d i q,if_neg (fun h=>c h.2)];exact j
    ·rw [if_neg (fun h=>j h.1),if_neg (fun h=>j h.1)]
  ·intro n
   have l:=l fun e J=>n e (List.mem_append_left _ J)
   have m:v < o.length:=n (u,v) (by simp)
   by_cases g:o.getD u 0=(r:Int)/\(jV r es o).1.getD v 0 < 0
   ·rw [if_pos g]
    have j:o.getD v 0 < 0:=by
     have:=g.2
     rw [d v m] at this
     split at this
     ·omega
     ·exact this
    exact ⟨fun _=>⟨v,m,j,u,by simp,g.1⟩,fun _=>rfl⟩
   ·rw [if_neg g,l]
    constructor
    ·rintro ⟨i,h1,f,a,k,t⟩;exact ⟨i,h1,f,a,List.mem_append_left _ k,t⟩
    ·rintro ⟨i,h1,f,a,k,t⟩
     rw [List.mem_append,List.mem_singleton] at k
     rcases k with k | k
     ·exact ⟨i,h1,f,a,k,t⟩
     ·simp only [Prod.mk.injEq] at k
      obtain ⟨w,e2⟩:=k
      by_cases c:∃b,(b,i)∈es/\o.getD b 0=(r:Int)
      ·obtain ⟨b,z,A⟩:=c;exact ⟨i,h1,f,b,z,A⟩
      ·refine absurd ⟨w▸t,?_⟩ g
       rw [<- e2,d i h1,if_neg (fun h=>c h.2)];exact f
def z1a (nx:Next) (l:List Bs) (k:Nat) (s:Bs):Prop:=Way nx l k s/\∀j,Way nx l j s->k<=j
theorem z2a {nx:Next} {l:List Bs} {j k:Nat} {s:Bs} (h:z1a nx l j s) (g:z1a nx l k s):j=k:=Nat.le_antisymm (h.2 _ g.1) (g.2 _ h.1)
theorem q4t {nx:Next} {l:List Bs} {s:Bs} (h:RchN nx l s):∃k,z1a nx l k s:=by
 obtain ⟨q,d,hb⟩:=z9i nx l
 obtain ⟨k,b⟩:=h
 obtain ⟨h1,_⟩:=y2r hb k s b
 exact ⟨d s,q3k hb _ s (Nat.le_refl _) h1,fun j a=>(y2r hb j s a).2⟩
theorem q1x {nx:Next} {l:List Bs} {k:Nat} {s:Bs} (h:z1a nx l (k+1) s):∃t,z1a nx l k t/\s∈xU nx t:=by
 obtain ⟨d,hl⟩:=h
 cases d with
 | @step _ x _ b c=>
  obtain ⟨j,a⟩:=q4t ⟨k,b⟩
  have h1:=hl _ (.step a.1 c)
  have f:=a.2 _ b
  have e:j=k:=by omega
  subst e
  exact ⟨x,a,c⟩
theorem x1f {nx:Next} {l:List Bs} {k:Nat} {s t:Bs} (h:z1a nx l k t) (O:s∈xU nx t):∃j,z1a nx l j s/\j<=k+1:=by
 obtain ⟨j,a⟩:=q4t ⟨k+1,.step h.1 O⟩
 exact ⟨j,a,a.2 _ (.step h.1 O)⟩
theorem y6m {nx:Next} {l:List Bs}:∀{k:Nat} {s:Bs},z1a nx l k s->∀j,j<=k->∃t,z1a nx l j t
 | k,s,h,j,b=>by
  by_cases e:j=k
  ·subst e;exact ⟨s,h⟩
  ·cases k with
   | zero=>omega
   | succ k=>
    obtain ⟨t,a,_⟩:=q1x h
    exact y6m a j (by omega)
def y9g (ns:List Bs) (nx:Next) (l:List Bs) (r:Nat) (o:List Int):Prop :=
 o.length=ns.length/\∀(i:Nat) s,ns[i]? = some s->(∃k,z1a nx l k s/\k<=r/\o.getD i 0=(k:Int))∨((∀k,z1a nx l k s->r < k)/\o.getD i 0=-1)
def yW:List Bs->Bs->Nat
 | [],_=>0
 | x::l,s=>if x=s then 0 else yW l s+1
theorem vI:∀{l:List Bs} {s:Bs},s∈l->l[yW l s]? = some s
 | x::l,s,h=>by
  simp only [yW]
  by_cases e:x=s
  ·rw [if_pos e,e];rfl
  ·rw [if_neg e]
   rcases List.mem_cons.1 h with g | g
   ·exact absurd g.symm e
   ·rw [List.getElem?_cons_succ];exact vI g
theorem cO {l:List Bs} {s:Bs} (h:s∈l):yW l s < l.length:=(List.getElem?_eq_some_iff.1 (vI h)).1
theorem cN:∀{l:List Bs} {s:Bs} {i:Nat},l.Nodup->l[i]? = some s->yW l s=i
 | [],_,_,_,h=>by simp at h
 | x::l,s,i,b,h=>by
  obtain ⟨h1,a⟩:=List.nodup_cons.1 b
  simp only [yW]
  cases i with
  | zero=>simp only [List.getElem?_cons_zero,Option.some.injEq] at h;rw [if_pos h]
  | succ i=>
   rw [List.getElem?_cons_succ] at h
   rw [if_neg (fun e:x=s=>h1 (e▸mgQ h)),cN a h]
def dO (ns:List Bs) (fl:List Flow):Edges:=fl.map fun f=>(yW ns f.1,yW ns f.2)
section
variable {ns:List Bs} {fl:List Flow} {l:List Bs}
theorem q1o (h:GOk ns fl) {a i:Nat} {s:Bs} (c:ns[i]? = some s):(a,i)∈dO ns fl↔∃t,ns[a]? = some t/\s∈xU (qR fl) t:=by
 unfold dO
 rw [List.mem_map]
 constructor
 ·rintro ⟨⟨u,v⟩,h1,b⟩
  cases b
  obtain ⟨d,e⟩:=h.ends u v h1
  rw [vI e] at c;cases c
  exact ⟨u,vI d,(tL fl _ _).2 h1⟩
 ·rintro ⟨t,h1,b⟩
  exact ⟨(t,s),(tL fl _ _).1 b,by rw [cN h.nd h1,cN h.nd c]⟩
theorem v0g (h:GOk ns fl) (hl:∀r∈l,r∈ns):y9g ns (qR fl) l 0 (pU ns.length (l.map (yW ns))):=by
 refine ⟨z5l _ _,fun i s a=>?_⟩
 have b:=(List.getElem?_eq_some_iff.1 a).1
 rw [j4z _ _ i b]
 have e:i∈l.map (yW ns)↔s∈l:=by
  rw [List.mem_map]
  constructor
  ·rintro ⟨t,c,e⟩
   have:=vI (hl t c)
   rw [e,a] at this;cases this;exact c
  ·exact fun O=>⟨s,O,cN h.nd a⟩
 by_cases O:s∈l
 ·rw [if_pos (e.2 O)]
  exact .inl ⟨0,⟨.root O,fun _ _=>Nat.zero_le _⟩,Nat.le_refl _,rfl⟩
 ·rw [if_neg (fun d=>O (e.1 d))]
  refine .inr ⟨fun k f=>?_,rfl⟩
  cases k with
  | zero=>cases f.1 with
   | root g=>exact absurd g O
  | succ k=>omega
theorem x9b (h:GOk ns fl) {r:Nat} {o:List Int} (G:y9g ns (qR fl) l r o):y9g ns (qR fl) l (r+1) (jV r (dO ns fl) o).1 /\
  ((jV r (dO ns fl) o).2=true↔∃s∈ns,z1a (qR fl) l (r+1) s):=by
 obtain ⟨g1,C⟩:=j4g r o (dO ns fl)
 obtain ⟨b,u⟩:=G
 have key:∀(i:Nat) s,ns[i]? = some s->((o.getD i 0 < 0/\∃a,(a,i)∈dO ns fl/\o.getD a 0=(r:Int))↔z1a (qR fl) l (r+1) s):=fun i s c=>by
  constructor
  ·rintro ⟨I,a,E,H⟩
   obtain ⟨t,v,n⟩:=(q1o h c).1 E
   rcases u a t v with ⟨k,p,_,e⟩ | ⟨_,e⟩
   ·have:k=r:=by omega
    subst this
    obtain ⟨j,B,y⟩:=x1f p n
    rcases u i s c with ⟨m,N,_,e2⟩ | ⟨N,_⟩
    ·omega
    ·have:=N j B
     have e3:j=k+1:=by omega
     exact e3▸B
   ·omega
  ·intro d
   obtain ⟨t,v,n⟩:=q1x d
   refine ⟨?_,?_⟩
   ·rcases u i s c with ⟨m,N,y,e2⟩ | ⟨_,e2⟩
    ·have:=z2a N d;omega
    ·omega
   ·have q:t∈ns:=(h.ends t s ((tL fl _ _).1 n)).1
    refine ⟨yW ns t,(q1o h c).2 ⟨t,vI q,n⟩,?_⟩
    rcases u _ t (vI q) with ⟨k,p,_,e⟩ | ⟨p,_⟩
    ·have:=z2a p v;subst this;exact e
    ·have:=p r v;omega
 refine ⟨⟨by rw [z0h];exact b,fun i s c=>?_⟩,?_⟩
 ·have z:i < o.length:=by have:=(List.getElem?_eq_some_iff.1 c).1;omega
  rw [g1 i z]
  by_cases d:z1a (qR fl) l (r+1) s
  ·rw [if_pos ((key i s c).2 d)];exact .inl ⟨r+1,d,Nat.le_refl _,rfl⟩
  ·rw [if_neg (fun w=>d ((key i s c).1 w))]
   rcases u i s c with ⟨k,h1,A,D⟩ | ⟨h1,A⟩
   ·exact .inl ⟨k,h1,by omega,D⟩
   ·refine .inr ⟨fun k p=>?_,A⟩
    have:=h1 k p
    rcases Nat.lt_or_ge (r+1) k with g | g
    ·exact g
    ·have e:k=r+1:=by omega
     exact absurd (e▸p) d
 ·rw [C (fun e J=>by
   obtain ⟨f,F,rfl⟩:=List.mem_map.1 J
   rw [b];exact cO (h.ends f.1 f.2 F).2)]
  constructor
  ·rintro ⟨i,c,w⟩
   obtain ⟨s,O⟩:=yG (l:=ns) (i:=i) (by omega)
   exact ⟨s,mgQ O,(key i s O).1 w⟩
  ·rintro ⟨s,O,d⟩
   exact ⟨yW ns s,by rw [b];exact cO O,(key _ s (vI O)).2 d⟩
theorem q1w (h:GOk ns fl) (hl:∀r∈l,r∈ns) {k:Nat} {s:Bs} (a:z1a (qR fl) l k s):s∈ns:=z0f h hl ⟨k,a.1⟩
theorem y3b (h:GOk ns fl) (hl:∀r∈l,r∈ns) {k:Nat} {s:Bs} (i:z1a (qR fl) l k s):k < ns.length:=by
 have:∀m,m<=k+1->∃p:List Bs,p.length=m/\p.Nodup/\∀t∈p,∃j,j < m/\z1a (qR fl) l j t:=by
  intro m
  induction m with
  | zero=>exact fun _=>⟨[],rfl,by simp,fun t a=>by cases a⟩
  | succ m n=>
   intro N
   obtain ⟨p,h1,c,b⟩:=n (by omega)
   obtain ⟨t,a⟩:=y6m i m (by omega)
   refine ⟨t::p,by simp [h1],List.nodup_cons.2 ⟨fun e=>?_,c⟩,fun u d=>?_⟩
   ·obtain ⟨j,f,g⟩:=b t e
    have:=z2a a g;omega
   ·rcases List.mem_cons.1 d with rfl | d
    ·exact ⟨m,by omega,a⟩
    ·obtain ⟨j,f,g⟩:=b u d;exact ⟨j,by omega,g⟩
 obtain ⟨p,h1,c,b⟩:=this (k+1) (Nat.le_refl _)
 have:=gM c fun t a=>let ⟨j,_,g⟩:=b t a;q1w h hl g
 omega
theorem q2g (h:GOk ns fl) (hl:∀r∈l,r∈ns):∀(g r:Nat) (o:List Int),y9g ns (qR fl) l r o->ns.length<=g+r->y9g ns (qR fl) l ns.length (nL (dO ns fl) g r o)
 | 0,r,o,b,n=>⟨b.1,fun i s f=>by
   rcases b.2 i s f with ⟨k,h1,_,m⟩ | ⟨h1,d⟩
   ·exact .inl ⟨k,h1,Nat.le_of_lt (y3b h hl h1),m⟩
   ·refine .inr ⟨fun k a=>?_,d⟩
    have:=h1 k a;have:=y3b h hl a;omega⟩
 | g+1,r,o,b,n=>by
  obtain ⟨h1,d⟩:=x9b h b
  simp only [nL]
  by_cases e:(jV r (dO ns fl) o).2=true
  ·rw [if_pos e];exact q2g h hl g (r+1) _ h1 (by omega)
  ·rw [if_neg e]
   refine ⟨h1.1,fun i s f=>?_⟩
   rcases h1.2 i s f with ⟨k,c,_,q⟩ | ⟨c,p⟩
   ·exact .inl ⟨k,c,Nat.le_of_lt (y3b h hl c),q⟩
   ·refine .inr ⟨fun k a=>?_,p⟩
    have:=c k a
    obtain ⟨t,j⟩:=y6m a (r+1) (by omega)
    exact absurd (d.2 ⟨t,q1w h hl j,j⟩) e
theorem x2n (h:GOk ns fl) (hl:∀r∈l,r∈ns):y9g ns (qR fl) l ns.length (aX ns.length (dO ns fl) (l.map (yW ns))):=q2g h hl _ _ _ (v0g h hl) (by omega)
theorem j4p (h:GOk ns fl) (hl:∀r∈l,r∈ns) {i:Nat} {s:Bs} (e:ns[i]? = some s):0<=(aX ns.length (dO ns fl) (l.map (yW ns))).getD i 0↔RchN (qR fl) l s:=by
 rcases (x2n h hl).2 i s e with ⟨k,h1,_,d⟩ | ⟨h1,c⟩
 ·rw [d];exact ⟨fun _=>⟨k,h1.1⟩,fun _=>by omega⟩
 ·rw [c]
  refine ⟨fun a=>by omega,fun a=>?_⟩
  obtain ⟨k,b⟩:=q4t a
  have:=h1 k b;have:=y3b h hl b;omega
end
theorem q0e:∀(d f n:Nat),n < 10 ^ (d+1)->(dW f n).length<=d+1
 | _,0,_,_=>by simp [dW]
 | d,f+1,n,h=>by
  simp only [dW]
  split
  ·simp
  ·rename_i a
   cases d with
   | zero=>omega
   | succ d=>
    have:=q0e d f (n / 10) (by rw [Nat.pow_succ] at h;omega)
    simp only [lcQ];omega
theorem All2.left {α β:Type} {R:α->β->Prop}:∀{xs:List α} {ys:List β},All2 R xs ys->∀x∈xs,∃y∈ys,R x y
 | x::xs,y::ys,h,z,a=>by
  rcases List.mem_cons.1 a with rfl | a
  ·exact ⟨y,msQ,h.1⟩
  ·obtain ⟨u,h1,b⟩:=All2.left h.2 z a;exact ⟨u,mcQ _ h1,b⟩
 | [],_,_,z,a=>by cases a
 | _::_,[],h,_,_=>h.elim
theorem tO {s:Bs} (h:yP s=true):s.size<=24:=by
 simp only [yP,vR,decide_eq_true_eq] at h
 split at h
 ·cases h
 ·omega
theorem y3t {s:Bs} (h:qB s=true):s.size<=24:=by
 simp only [qB,vR,decide_eq_true_eq] at h
 split at h
 ·cases h
 ·omega
theorem j3e {t:Bs} {pos:Nat}:∀j,j < qH t pos->yQ (zF t (pos+j))=true∨zF t (pos+j)=39:=by
 intro j a
 unfold qH at a
 split at a
 ·rename_i b
  split at a
  ·by_cases h1:j < yR yQ t t.size pos
   ·exact .inl (tW _ _ _ _ _ h1).2
   ·by_cases d:j=yR yQ t t.size pos
    ·exact .inr (by rw [d];exact b)
    ·have c:=(tW yF t t.size (pos+(yR yQ t t.size pos+1)) (j - (yR yQ t t.size pos+1)) (by omega)).2
     rw [show pos+(yR yQ t t.size pos+1)+(j - (yR yQ t t.size pos+1))=pos+j by omega] at c
     exact .inl (by simp [yQ,c])
  ·exact .inl (tW _ _ _ _ _ a).2
 ·exact .inl (tW _ _ _ _ _ a).2
theorem q1s {t:Bs} {pos:Nat} {kd:Int} {k:Tok} (h:kR t pos kd=.ok k):(k.kind=5∨k.kind=kd)/\k.text=t.extract pos (pos+qH t pos):=by
 unfold kR at h
 split at h
 ·cases h
 ·simp only [Except.ok.injEq] at h
  subst h
  refine ⟨?_,rfl⟩
  simp only
  split
  ·exact .inl rfl
  ·exact .inr rfl
theorem j0x {t:Bs} {pos:Nat} {k:Tok} (h:yB t pos=.ok k) (a:k.kind=2∨k.kind=3):((k.kind=2/\qP (zF t pos)=true)∨(k.kind=3/\qX (zF t pos)=true))/\k.text=t.extract pos (pos+qH t pos):=by
 unfold yB at h
 split at h
 ·unfold z2c at h
  split at h
  ·cases h
  ·split at h
   ·cases h
   ·simp only [Except.ok.injEq] at h;subst h;simp only at a;omega
 split at h
 ·rename_i O
  obtain ⟨h1,b⟩:=q1s h
  exact ⟨.inl ⟨by omega,O⟩,b⟩
 split at h
 ·rename_i O
  obtain ⟨h1,b⟩:=q1s h
  exact ⟨.inr ⟨by omega,O⟩,b⟩
 split at h
 ·obtain ⟨_,rfl⟩:=tJ h;simp only at a;omega
 split at h
 ·obtain ⟨_,rfl⟩:=tJ h;simp only at a;omega
 split at h
 ·obtain ⟨_,rfl⟩:=tJ h;simp only at a;omega
 ·cases h
theorem x0c {s:Bs} {κ:Int} (d:vR s=κ) (h:κ=2∨κ=3):0 < s.size/\((κ=2/\qP (zF s 0)=true)∨(κ=3/\qX (zF s 0)=true))/\∀j,j < s.size->yQ (zF s j)=true∨zF s j=39:=by
 unfold vR at d
 split at d
 ·omega
 split at d
 ·rename_i k c
  split at d
  ·rename_i e
   unfold aH at c
   rw [dY] at c
   split at c
   ·cases c
   rename_i q hq
   split at c
   ·rename_i f
    split at c
    ·cases c
    rename_i k' hk'
    split at c
    ·cases c
    simp only [Except.ok.injEq,List.cons.injEq] at c
    obtain ⟨rfl,_⟩:=c
    obtain ⟨h1,g⟩:=j0x hk' (by omega)
    have i:(s.extract q (q+qH s q)).size=s.size:=by rw [<- g,e]
    rw [ByteArray.size_extract] at i
    have l:q=0:=by omega
    subst l
    refine ⟨f,?_,fun j m=>?_⟩
    ·rcases h1 with ⟨a,b⟩ | ⟨a,b⟩
     ·exact .inl ⟨by omega,b⟩
     ·exact .inr ⟨by omega,b⟩
    ·have:=j3e (t:=s) (pos:=0) j (by omega)
     rwa [Nat.zero_add] at this
   ·cases c
  ·omega
 ·omega
theorem z6j {s:Bs} (h:vR s=2∨vR s=3):0 < s.size/\((vR s=2/\qP (zF s 0)=true)∨(vR s=3/\qX (zF s 0)=true))/\∀j,j < s.size->yQ (zF s j)=true∨zF s j=39:=x0c rfl h
theorem tx_mem {s:Bs} {b:UInt8} (h:b∈tx s):∃j,j < s.size/\zF s j=b.toNat:=by
 obtain ⟨j,a,rfl⟩:=List.getElem_of_mem h
 have h1:=tx_size s
 refine ⟨j,by omega,?_⟩
 rw [pM (by omega)]
 simp only [tx,Array.getElem_toList];rfl
theorem wQ {s:Bs} (h:yP s=true):vR s=2:=by simpa [yP] using h
theorem y3s {s:Bs} (h:qB s=true):vR s=3:=by simpa [qB] using h
theorem x0o (n:Int):∃b r,z6m n=b::r/\(b=45∨(48<=b.toNat/\b.toNat<=57)):=by
 unfold z6m
 split
 ·exact ⟨_,_,rfl,.inl rfl⟩
 ·have h:∀u,cZ u=Lib.decDigits u:=fun u=>z2y (u+1) u (Nat.lt_succ_self _)
  rw [h]
  have:∀f u,u < f->∃b r,Lib.decDigits u=b::r/\(48<=b.toNat/\b.toNat<=57):=by
   intro f
   induction f with
   | zero=>intro u c;omega
   | succ f d=>
    intro u c
    rw [Lib.decDigits]
    by_cases a:u < 10
    ·rw [dif_pos a]
     refine ⟨_,_,rfl,?_⟩
     simp [Nat.toUInt8,UInt8.toNat_ofNat'];omega
    ·rw [dif_neg a]
     obtain ⟨b,r,e,hb⟩:=d (u / 10) (by omega)
     exact ⟨b,r++_,by rw [e];rfl,hb⟩
  obtain ⟨b,r,e,hb⟩:=this (n.toNat+1) n.toNat (Nat.lt_succ_self _)
  exact ⟨b,r,e,.inr hb⟩
theorem y4a:∀(f n:Nat),∀b∈dW f n,48<=b.toNat/\b.toNat<=57
 | 0,_,_,h=>by cases h
 | f+1,n,b,h=>by
  simp only [dW] at h
  split at h
  ·simp only [List.mem_singleton] at h;subst h;simp [Nat.toUInt8,UInt8.toNat_ofNat'];omega
  ·rcases List.mem_cons.1 h with rfl | h
   ·simp [Nat.toUInt8,UInt8.toNat_ofNat'];omega
   ·exact y4a f _ b h
theorem tx_ofTx (l:Tx):tx (z0z l)=l:=by simp [tx,z0z]
theorem y6u:∀(f u:Nat),u < f->u<=9223372036854775808->∀r,Lib.parseUint10 0 (Lib.decDigits u++r)=Lib.parseUint10 u r
 | 0,_,h,_,_=>by omega
 | f+1,u,h,b,r=>by
  rw [Lib.decDigits]
  by_cases a:u < 10
  ·rw [dif_pos a,List.singleton_append,Lib.parseUint10]
   have e:(UInt8.ofNat (48+u)).toNat=48+u:=by rw [UInt8.toNat_ofNat'];omega
   rw [e,if_pos (by omega),if_neg (by omega),if_neg (by omega)]
   congr 1;omega
  ·rw [dif_neg a,List.append_assoc,y6u f (u / 10) (by omega) (by omega),List.singleton_append,Lib.parseUint10]
   have e:(UInt8.ofNat (48+u % 10)).toNat=48+u % 10:=by rw [UInt8.toNat_ofNat'];omega
   rw [e,if_pos (by omega),if_neg (by omega),if_neg (by omega)]
   congr 1;omega
theorem digs_ne (u:Nat):Lib.decDigits u≠[]:=by
 rw [Lib.decDigits];split <;> simp
theorem q2c {u:Nat} (h:u<=9223372036854775808):Lib.parseMag (Lib.decDigits u)=.ok u:=by
 unfold Lib.parseMag
 rw [if_neg (digs_ne u)]
 have:=y6u (u+1) u (Nat.lt_succ_self _) h []
 rw [List.append_nil] at this
 rw [this];rfl
theorem j9m (u:Nat):∃b r,Lib.decDigits u=b::r/\48<=b.toNat/\b.toNat<=57:=by
 obtain ⟨b,r,e,h⟩:=x0o (u:Int)
 have e2:z6m (u:Int)=Lib.decDigits u:=by rw [<- j7d];unfold Lib.itoa;rw [if_neg (by omega)];rfl
 rw [e2] at e
 rcases h with rfl | h
 ·exfalso
  have h1:(45:UInt8)∈Lib.decDigits u:=by rw [e];exact msQ
  rw [<- z2y (u+1) u (Nat.lt_succ_self _)] at h1
  have:=y4a _ _ _ (List.mem_reverse.1 h1)
  exact absurd this (by decide)
 ·exact ⟨b,r,e,h⟩
theorem j8p {n:Int} (h:I64 n):Lib.atoiAll (Lib.itoa n)=.ok n:=by
 unfold I64 at h
 unfold Lib.itoa
 split
 ·rename_i a
  have h1:=q2c (u:=n.natAbs) (by omega)
  simp only [Lib.atoiAll]
  rw [if_pos (.inr rfl),h1]
  simp only
  rw [if_neg (by intro h;exact h.1 rfl),if_neg (by intro h;omega)]
  simp only [show ((45:UInt8).toNat=45)=True from by simp,if_true]
  congr 1;omega
 ·rename_i a
  have h1:=q2c (u:=n.toNat) (by omega)
  obtain ⟨b,r,e,hb⟩:=j9m n.toNat
  rw [e] at h1 ⊢
  simp only [Lib.atoiAll]
  rw [if_neg (by omega),h1]
  simp only
  rw [if_neg (by intro h;omega),if_neg (by intro h;omega),if_neg (by omega)]
  congr 1;omega
theorem q8j {n:Int} (h:I64 n):sV (aQ n)=some n:=by
 unfold sV
 have h1:oX (aQ n)=.ok n:=by
  unfold oX
  rw [show (aQ n).data.toList=Lib.itoa n from by simp [aQ],j8p h]
 rw [h1]
 exact if_pos rfl
theorem mH {s:Bs} (h:vR s=2∨vR s=3):(46:UInt8)∉tx s/\(47:UInt8)∉tx s:=by
 obtain ⟨_,_,d⟩:=z6j h
 have:∀b∈tx s,b≠46/\b≠47:=fun b hb=>by
  obtain ⟨j,f,e⟩:=tx_mem hb
  have a:=d j f
  rw [e] at a
  simp only [yQ,qP,qX,yF,Bool.or_eq_true,baQ,decide_eq_true_eq] at a
  constructor <;> (rintro rfl;simp at a)
 exact ⟨fun c=>(this _ c).1 rfl,fun c=>(this _ c).2 rfl⟩
theorem x6t {s:Bs} (h:vR s=2∨vR s=3):s≠sE:=fun e=>by
 have:=(z6j h).1
 rw [e] at this;exact absurd this (by decide)
theorem y3u {c:UInt8}:∀{a a' b b':Tx},c∉a->c∉a'->a++c::b=a'++c::b'->a=a'/\b=b'
 | [],[],_,_,_,_,h=>by simp at h;exact ⟨rfl,h⟩
 | [],y::a',_,_,_,d,h=>by
  simp only [List.nil_append,List.cons_append,List.cons.injEq] at h
  exact absurd (by rw [h.1];exact msQ) d
 | x::a,[],_,_,h1,_,h=>by
  simp only [List.nil_append,List.cons_append,List.cons.injEq] at h
  exact absurd (by rw [<- h.1];exact msQ) h1
 | x::a,y::a',b,b',h1,d,h=>by
  simp only [List.cons_append,List.cons.injEq] at h
  obtain ⟨f,e2⟩:=y3u (fun e=>h1 (mcQ _ e)) (fun e=>d (mcQ _ e)) h.2
  exact ⟨by rw [h.1,f],e2⟩
theorem y8k (a b:Bs):tx (a++b)=tx a++tx b:=by simp [tx,ByteArray.data_append]
theorem y8l {a b:Bs} (h:tx a=tx b):a=b:=by rw [<- j7o a,h,j7o]
theorem q2v (s:Bs):tx (inN s)=[105,110]++46::tx s:=by rw [inN,y8k];rfl
theorem j5f (s:Bs) (k:Nat):tx (kA s k)=tx s++47::z6m (k:Int):=by rw [kA,y8k,y8k,z1r,tx_ofTx];simp [tx]
theorem q2w (f x:Bs):tx (vrN f x)=tx f++46::tx x:=by rw [vrN,y8k,y8k];simp [tx]
theorem inN_inj {a b:Bs} (h:inN a=inN b):a=b:=by
 have:=congrArg tx h
 rw [q2v,q2v] at this
 exact y8l (y3u (by decide) (by decide) this).2
theorem j8g {f g x y:Bs} (b:yP f=true) (c:yP g=true) (h:vrN f x=vrN g y):f=g/\x=y:=by
 have:=congrArg tx h
 rw [q2w,q2w] at this
 obtain ⟨h1,a⟩:=y3u (mH (.inl (wQ b))).1 (mH (.inl (wQ c))).1 this
 exact ⟨y8l h1,y8l a⟩
theorem q7m {s t:Bs} {j k:Nat} (O:qB s=true) (c:qB t=true) (d:j < 9223372036854775808) (f:k < 9223372036854775808) (h:kA s j=kA t k):s=t/\j=k:=by
 have:=congrArg tx h
 rw [j5f,j5f] at this
 obtain ⟨h1,b⟩:=y3u (mH (.inr (y3s O))).2 (mH (.inr (y3s c))).2 this
 refine ⟨y8l h1,?_⟩
 have e:aQ (j:Int)=aQ (k:Int):=by rw [z1r,z1r,b]
 have a:=q8j (n:=(j:Int)) ⟨by omega,by omega⟩
 rw [e,q8j (n:=(k:Int)) ⟨by omega,by omega⟩] at a
 simp only [Option.some.injEq] at a;omega
theorem z9t {f x g:Bs} (a:yP g=true):vrN f x≠g:=fun h=>by
 have:=(mH (.inl (wQ a))).1
 rw [<- h,q2w] at this;exact this (by simp)
theorem x0g {x g:Bs} (a:yP g=true):inN x≠g:=fun h=>by
 have:=(mH (.inl (wQ a))).1
 rw [<- h,q2v] at this;exact this (by simp)
theorem x0h {x f y:Bs} (a:yP f=true):inN x≠vrN f y:=fun h=>by
 have:=congrArg tx h
 rw [q2v,q2w] at this
 have e:=(y3u (by decide) (mH (.inl (wQ a))).1 this).1
 have e2:f=⟨#[105,110]⟩:=y8l (e.symm.trans rfl)
 rw [e2] at a;exact absurd a (by decide)
theorem y2w (s:Bs) (k:Nat):(47:UInt8)∈tx (kA s k):=by rw [j5f];simp
theorem in_no {x:Bs} (a:yP x=true):(47:UInt8)∉tx (inN x):=by
 rw [q2v]
 have:=(mH (.inl (wQ a))).2
 simp [this]
theorem vr_no {f x:Bs} (b:yP f=true) (c:yP x=true):(47:UInt8)∉tx (vrN f x):=by
 rw [q2w]
 have h1:=(mH (.inl (wQ b))).2
 have a:=(mH (.inl (wQ c))).2
 simp [h1,a]
theorem gF {α β:Type} {f:α->β}:∀{l:List α},(∀a∈l,∀b∈l,f a=f b->a=b)->l.Nodup->(l.map f).Nodup
 | [],_,_=>by simp
 | x::l,h,j=>by
  obtain ⟨h1,d⟩:=List.nodup_cons.1 j
  rw [List.map_cons,List.nodup_cons]
  refine ⟨fun i=>?_,gF (fun a g b hb=>h a (mcQ _ g) b (mcQ _ hb)) d⟩
  obtain ⟨y,c,e⟩:=List.mem_map.1 i
  exact h1 (h y (mcQ _ c) x msQ e▸c)
theorem z5f {α β γ:Type} {f:α->List β} {key:α->γ}:∀{l:List α},(l.map key).Nodup->(∀a∈l,(f a).Nodup)->(∀a∈l,∀b∈l,∀x,x∈f a->x∈f b->key a=key b)->(l.flatMap f).Nodup
 | [],_,_,_=>by simp
 | a::l,i,h,g=>by
  rw [List.map_cons] at i
  obtain ⟨h1,j⟩:=List.nodup_cons.1 i
  rw [List.flatMap_cons,List.nodup_append]
  refine ⟨h a msQ,z5f j (fun b hb=>h b (mcQ _ hb)) (fun b hb c k=>g b (mcQ _ hb) c (mcQ _ k)),fun x m y n e=>?_⟩
  subst e
  obtain ⟨b,hb,d⟩:=List.mem_flatMap.1 n
  exact h1 (by rw [g a msQ b (mcQ _ hb) x m d];exact List.mem_map_of_mem hb)
structure FunOk (c:Core) (f:Fun):Prop where
 name:yP f.name=true
 nodup:(f.params.map Param.name++zN f.body).Nodup
 names:∀v∈f.params.map Param.name++zN f.body,yP v=true
 ty:Tyd (yJ c) (sW f.params) f.body f.result
theorem data_no {c:Core} (h:Right c):zK (yJ c).datas sNo=none:=by
 cases a:zK (yJ c).datas sNo with
 | none=>rfl
 | some d=>
  rw [h.datas] at a
  obtain ⟨x,b,e,_⟩:=vM a
  have:=(h.dN x b).1
  rw [e,z6l] at this;cases this
theorem z8m {c:Core} (h:Right c) {f:Fun} (b:f∈c.funs):FunOk c f:=by
 have h1:=h.fOk f b
 simp only [nF,baQ,decide_eq_true_eq] at h1
 obtain ⟨e,_,i⟩:=pD h1.1.2
 have d:=qI e
 have a:f.result≠sNo:=type_ne h h1.1.1.2
 refine ⟨h.fN f b,e,i,?_⟩
 have:=z9r (yJ c) (data_no h) _ f.body (sW f.params) (Nat.lt_succ_self _) d.2.1 (fun m N=>by
  rw [z3n,nS (fun g=>d.2.2 m g N)];rfl) (by rw [h1.2];exact a)
 rwa [h1.2] at this
section
variable {c:Core}
theorem mem_in {p:Param} (h:p∈c.inputs):inN p.name∈zG c:=List.mem_append_left _ (List.mem_append_left _ (List.mem_map_of_mem (f:=fun p=>inN p.name) h))
theorem q4p {d:Data} {x:Con} {k:Nat} (a:d∈c.datas) (e:x∈d.cons) (b:k < x.fields.length):kA x.name k∈zG c :=
 List.mem_append_left _ (List.mem_append_right _ (List.mem_flatMap.2 ⟨d,a,List.mem_flatMap.2 ⟨x,e,List.mem_map_of_mem (List.mem_range.2 b)⟩⟩))
theorem mem_fn {f:Fun} (h:f∈c.funs):f.name∈zG c:=List.mem_append_right _ (List.mem_flatMap.2 ⟨f,h,msQ⟩)
theorem mem_vr {f:Fun} {v:Bs} (h:f∈c.funs) (a:v∈f.params.map Param.name++zN f.body):vrN f.name v∈zG c:=by
 refine List.mem_append_right _ (List.mem_flatMap.2 ⟨f,h,mcQ _ ?_⟩)
 rw [List.mem_append] at a ⊢
 rcases a with a | a
 ·obtain ⟨p,b,rfl⟩:=List.mem_map.1 a
  exact .inl (List.mem_map_of_mem (f:=fun p=>vrN f.name p.name) b)
 ·exact .inr (List.mem_map_of_mem a)
theorem x1o {n:Bs} (h:n∈zG c):(∃p∈c.inputs,n=inN p.name)∨(∃d∈c.datas,∃x∈d.cons,∃k,k < x.fields.length/\n=kA x.name k)∨(∃f∈c.funs,n=f.name∨∃v∈f.params.map Param.name++zN f.body,n=vrN f.name v):=by
 rw [zG,List.mem_append,List.mem_append] at h
 rcases h with (h | h) | h
 ·obtain ⟨p,a,e⟩:=List.mem_map.1 h;exact .inl ⟨p,a,e.symm⟩
 ·obtain ⟨d,b,h⟩:=List.mem_flatMap.1 h
  obtain ⟨x,l,h⟩:=List.mem_flatMap.1 h
  obtain ⟨k,i,e⟩:=List.mem_map.1 h
  exact .inr (.inl ⟨d,b,x,l,k,List.mem_range.1 i,e.symm⟩)
 ·obtain ⟨f,g,h⟩:=List.mem_flatMap.1 h
  refine .inr (.inr ⟨f,g,?_⟩)
  rcases List.mem_cons.1 h with e | h
  ·exact .inl e
  ·rw [List.mem_append] at h
   rcases h with h | h
   ·obtain ⟨p,a,e⟩:=List.mem_map.1 h;exact .inr ⟨p.name,List.mem_append_left _ (List.mem_map_of_mem a),e.symm⟩
   ·obtain ⟨v,j,e⟩:=List.mem_map.1 h;exact .inr ⟨v,List.mem_append_right _ j,e.symm⟩
theorem z6a (h:Right c) {d:Data} {x:Con} (a:d∈c.datas) (b:x∈d.cons):qB x.name=true:=(h.dN d (mcQ _ a)).2.2.2 x b
theorem j2b (h:Right c):((c.datas.flatMap Data.cons).map Con.name).Nodup:=by
 have:=h.cU
 rw [List.map_cons,List.flatten_cons] at this
 have a:=(List.nodup_append.1 this).2.1
 rw [List.map_flatMap]
 exact a
theorem q9b (h:Right c) (hl:xL c=false):(zG c).Nodup:=by
 have w:∀d∈c.datas,∀x∈d.cons,x.fields.length<=16:=fun d r x l=>by
  simp only [xL,Bool.or_eq_false_iff] at hl
  have h1:(c.datas.any dD)=false:=by simp_all
  have C:=List.any_eq_false.1 h1 d r
  simp only [dD,Bool.or_eq_true,not_or,decide_eq_true_eq,List.any_eq_true,not_exists,not_and] at C
  have:=C.2 x l;omega
 have n:∀f∈c.funs,FunOk c f:=fun f q=>z8m h q
 rw [zG,List.nodup_append,List.nodup_append]
 refine ⟨⟨?_,?_,?_⟩,?_,?_⟩
 ·have:=h.iU
  rw [show (c.inputs.map fun p=>inN p.name)=(c.inputs.map Param.name).map inN by rw [List.map_map];rfl]
  exact gF (fun a _ b _ e=>inN_inj e) this
 ·have e:c.datas.flatMap z6c=(c.datas.flatMap Data.cons).flatMap fun x=>z6i x.name x.fields.length:=by
   rw [List.flatMap_assoc];rfl
  have N:∀x∈c.datas.flatMap Data.cons,qB x.name=true/\x.fields.length<=16:=fun x l=>by
   obtain ⟨d,r,l⟩:=List.mem_flatMap.1 l
   exact ⟨z6a h r l,w d r x l⟩
  rw [e]
  refine z5f (key:=Con.name) (j2b h) (fun x l=>?_) (fun x l y D z M hz'=>?_)
  ·obtain ⟨B,c2⟩:=N x l
   exact gF (fun a m b hb e=>(q7m B B (by have:=List.mem_range.1 m;omega) (by have:=List.mem_range.1 hb;omega) e).2) List.nodup_range
  ·obtain ⟨i,I,rfl⟩:=List.mem_map.1 M
   obtain ⟨j,K,e⟩:=List.mem_map.1 hz'
   have:=List.mem_range.1 I;have:=List.mem_range.1 K
   have:=(N x l).2;have:=(N y D).2
   exact (q7m (N y D).1 (N x l).1 (by omega) (by omega) e).1.symm
 ·intro a m b hb e
  subst e
  obtain ⟨p,t,rfl⟩:=List.mem_map.1 m
  obtain ⟨d,r,hb⟩:=List.mem_flatMap.1 hb
  obtain ⟨x,l,hb⟩:=List.mem_flatMap.1 hb
  obtain ⟨k,o,e⟩:=List.mem_map.1 hb
  exact in_no (h.iN p t) (by have:=y2w x.name k;rw [e] at this;exact this)
 ·have L:=h.fU
  refine z5f (key:=Fun.name) L (fun f q=>?_) (fun f q g H x l hx'=>?_)
  ·have F:=n f q
   have e:((f.params.map fun p=>vrN f.name p.name)++(zN f.body).map (vrN f.name))=(f.params.map Param.name++zN f.body).map (vrN f.name):=by
    rw [List.map_append,List.map_map];rfl
   rw [dP,e,List.nodup_cons]
   refine ⟨fun E=>?_,gF (fun a _ b _ e=>(j8g F.name F.name e).2) F.nodup⟩
   obtain ⟨v,_,e⟩:=List.mem_map.1 E
   exact z9t F.name e
  ·have F:=n f q;have G:=n g H
   have key:∀(k:Fun),x∈dP k->x=k.name∨∃v,x=vrN k.name v:=fun k o=>by
    rcases List.mem_cons.1 o with e | o
    ·exact .inl e
    ·rw [List.mem_append] at o
     rcases o with o | o
     ·obtain ⟨p,_,e⟩:=List.mem_map.1 o;exact .inr ⟨p.name,e.symm⟩
     ·obtain ⟨v,_,e⟩:=List.mem_map.1 o;exact .inr ⟨v,e.symm⟩
   rcases key f l with s | ⟨v,s⟩
   ·rcases key g hx' with e2 | ⟨u,e2⟩
    ·exact s.symm.trans e2
    ·exact absurd (e2.symm.trans s) (z9t F.name)
   ·rcases key g hx' with e2 | ⟨u,e2⟩
    ·exact absurd (s.symm.trans e2) (z9t G.name)
    ·exact (j8g F.name G.name (s.symm.trans e2)).1
 ·intro a m b hb e
  subst e
  obtain ⟨f,q,hb⟩:=List.mem_flatMap.1 hb
  have F:=n f q
  have hb':a=f.name∨∃v∈f.params.map Param.name++zN f.body,a=vrN f.name v:=by
   rcases List.mem_cons.1 hb with e | hb
   ·exact .inl e
   ·rw [List.mem_append] at hb
    rcases hb with hb | hb
    ·obtain ⟨p,t,e⟩:=List.mem_map.1 hb;exact .inr ⟨p.name,List.mem_append_left _ (List.mem_map_of_mem t),e.symm⟩
    ·obtain ⟨v,A,e⟩:=List.mem_map.1 hb;exact .inr ⟨v,List.mem_append_right _ A,e.symm⟩
  rw [List.mem_append] at m
  rcases m with m | m
  ·obtain ⟨p,t,rfl⟩:=List.mem_map.1 m
   rcases hb' with e | ⟨v,_,e⟩
   ·exact x0g F.name e
   ·exact x0h F.name e
  ·obtain ⟨d,r,m⟩:=List.mem_flatMap.1 m
   obtain ⟨x,l,m⟩:=List.mem_flatMap.1 m
   obtain ⟨k,o,rfl⟩:=List.mem_map.1 m
   rcases hb' with e | ⟨v,A,e⟩
   ·have:=y2w x.name k;rw [e] at this;exact (mH (.inl (wQ F.name))).2 this
   ·have:=y2w x.name k;rw [e] at this;exact vr_no F.name (F.names v A) this
theorem x8d (h:Right c):sE∉zG c:=fun b=>by
 rcases x1o b with ⟨p,_,e⟩ | ⟨d,_,x,_,k,_,e⟩ | ⟨f,g,e | ⟨v,_,e⟩⟩
 ·have:=congrArg tx e;rw [q2v] at this;cases this
 ·have:=y2w x.name k;rw [<- e] at this;cases this
 ·exact x6t (.inl (wQ (h.fN f g))) e.symm
 ·have:=congrArg tx e;rw [q2w] at this
  have a:(46:UInt8)∈tx sE:=by rw [this];simp
  cases a
theorem x8j:∀{l:List Fun} {m:Pars},(l.map Fun.name).Nodup->(∀f∈l,zK m f.name=none)->∀f∈l,zK (l.foldl (fun m f=>jO m f.name f.params) m) f.name=some f.params:=by
 have keep:∀(l:List Fun) (m:Pars) (n:Bs),n∉l.map Fun.name->zK (l.foldl (fun m f=>jO m f.name f.params) m) n=zK m n:=by
  intro l
  induction l with
  | nil=>intro m n _;rfl
  | cons g l c=>
   intro m n a
   rw [List.map_cons,List.mem_cons,not_or] at a
   rw [List.foldl_cons,c _ _ a.2,xB,if_neg a.1]
 intro l
 induction l with
 | nil=>intro m _ _ f b;cases b
 | cons g l c=>
  intro m a N f b
  rw [List.map_cons] at a
  obtain ⟨h1,h⟩:=List.nodup_cons.1 a
  rw [List.foldl_cons]
  rcases List.mem_cons.1 b with rfl | b
  ·rw [keep _ _ _ h1,xB,if_pos rfl]
  ·refine c h (fun k d=>?_) f b
   rw [xB,if_neg]
   ·exact N k (mcQ _ d)
   ·intro e;exact h1 (e▸List.mem_map_of_mem d)
theorem q5a (h:Right c) {g:Bs} {f:Fun} (a:zK (yJ c).funs g=some f):zK (yC c) g=some f.params:=by
 rw [h.funs] at a
 obtain ⟨x,d,b,e2⟩:=vM a
 have e3:x=f:=e2
 subst e3;subst b
 exact x8j h.fU (fun _ _=>rfl) x d
theorem ends_ok (h:Right c) {f:Fun} (z:f∈c.funs):Ends (yJ c) (yC c) f.name (f.params.map Param.name++zN f.body) (fun n=>n∈zG c) where
 var v A:=mem_vr z A
 inp i t w:=by
  rw [h.inputs] at w
  obtain ⟨p,q,e,_⟩:=vM w
  exact e▸mem_in q
 fn g k o:=by
  have q:=q5a h o
  rw [h.funs] at o
  obtain ⟨x,l,u,e2⟩:=vM o
  have e3:x=k:=e2
  subst e3;subst u
  exact ⟨mem_fn l,fun p r=>mem_vr l (List.mem_append_left _ (List.mem_map_of_mem r)),q⟩
 con k m N j a:=by
  rw [h.cons] at N
  obtain ⟨d,b,u,e2,e3⟩:=y9w N
  rcases List.mem_cons.1 b with rfl | b
  ·simp only [truthsD,List.mem_cons,List.not_mem_nil,or_false] at e2
   rcases e2 with e | e <;> (rw [e] at a;simp at a)
  ·rw [<- e3];exact q4p b e2 a
 arm t d b x l j a:=by
  rw [h.datas] at b
  obtain ⟨y,s,_,e2⟩:=vM b
  have e3:y=d:=e2
  subst e3
  rcases List.mem_cons.1 s with rfl | s
  ·simp only [truthsD,List.mem_cons,List.not_mem_nil,or_false] at l
   rcases l with e | e <;> (rw [e] at a;simp at a)
  ·exact q4p s l a
theorem z8t {f:Fun}:InV (f.params.map Param.name++zN f.body) (sW f.params):=fun n x a=>by
 rw [z3n] at a
 by_cases b:n∈f.params.map Param.name
 ·exact List.mem_append_left _ b
 ·rw [nS b] at a;cases a
theorem q1p {i:Param} {x:Bs} {z:Flow}:∀{l:List Bs} {k:Nat},z∈kQ i x k l->∃j,j < l.length/\z=(inN i.name,kA x (k+j))
 | [],_,h=>by cases h
 | t::l,k,h=>by
  simp only [kQ,List.mem_append] at h
  rcases h with h | h
  ·split at h
   ·rw [List.mem_singleton] at h;exact ⟨0,by simp,h⟩
   ·cases h
  ·obtain ⟨j,h1,a⟩:=q1p h
   exact ⟨j+1,by simp;omega,by rw [a,show k+1+j=k+(j+1) by omega]⟩
theorem x3l (h:Right c):∀a b,(a,b)∈xX c->a∈zG c/\b∈zG c:=fun a b g=>by
 rw [xX,List.mem_append] at g
 rcases g with g | g
 ·obtain ⟨i,m,g⟩:=List.mem_flatMap.1 g
  obtain ⟨d,l,g⟩:=List.mem_flatMap.1 g
  unfold tD at g
  split at g
  ·obtain ⟨x,o,g⟩:=List.mem_flatMap.1 g
   obtain ⟨j,n,e⟩:=q1p g
   cases e
   rw [Nat.zero_add]
   exact ⟨mem_in m,q4p l o n⟩
  ·cases g
 ·obtain ⟨f,k,g⟩:=List.mem_flatMap.1 g
  have F:=z8m h k
  have E:=ends_ok h k
  have hb:∀b∈zN f.body,b∈f.params.map Param.name++zN f.body:=fun b hb=>List.mem_append_right _ hb
  rw [wO,List.mem_append] at g
  rcases g with g | g
  ·exact y3d E F.ty z8t hb (mem_fn k) a b g
  ·exact j9u E F.ty z8t hb a b g
theorem x6q (h:Right c) (hl:xL c=false):GOk (zG c) (zY c) where
 nd:=q9b h hl
 ends a b d:=x3l h a b ((y6h _ _).1 d)
 ne:=x8d h
theorem q6p (h:Right c) {f:Fun} (a:f∈c.funs):nP (yC c) f.body:=flow_ok (fun _ _ b=>q5a h b) (z8m h a).ty
end
end Go.Sw
