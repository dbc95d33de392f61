import Derived.Test.YtgkhcfjooiekkaaGreatDoorX12
set_option linter.unusedVariables false
set_option linter.unusedSimpArgs false
namespace Go.Sw
open Go.Proofs Go.Proofs.Tryz
set_option maxRecDepth 20000
set_option maxHeartbeats 4000000
theorem x2r {V:Fz} {K:List Res} {w:World} {a:Act} {D:List Deferred} {Q:Exit->Act->World->Prop} {rs:Value} {ws:List Bs} {c0 wd rp r:Nat} (G:Glob V) (hE:uW ws 250) (rl:SliceOf RStr V 1 rs ws) (j0:ws.length<=1000000)
  (hR:∀{Ψ:Fz} {a:Act} {w:World} {C:Core} {E F H I:Value},jK ws (ws.length+1) ⟨[],[],[],[]⟩ 0=.ok C->V.Le Ψ->SliceOf RData Ψ 2 E C.datas->SliceOf RParam Ψ 2 F C.inputs->SliceOf RFun Ψ 8 H C.funs->EnvR 96 [(3,.pointer (some ⟨wd,0,none⟩)),(2,.pointer (some ⟨c0,0,none⟩))] D a->Mem Ψ (.blk c0 (ob [E,F,H,I] 27)::.blk wd (ob [.int .i64 ((0:Nat):Int)] 3)::.gs I 9 1 (strs C.outputs)::K) w->Q .ret a w)
  (hP:∀{Ψ:Fz} {a:Act} {w:World} {n:Nat} {E F H I x:Value},jK ws (ws.length+1) ⟨[],[],[],[]⟩ 0=.error n->V.Le Ψ->EnvR 96 [(3,.pointer (some ⟨wd,0,none⟩)),(2,.pointer (some ⟨c0,0,none⟩))] D a->Mem Ψ (.blk c0 (ob [E,F,H,I] 27)::.blk wd (ob [x] 3)::K) w->Q (.panic (aP n)) a w)
  (J:EnvR 96 [(2,.pointer (some ⟨c0,0,none⟩)),(3,.pointer (some ⟨wd,0,none⟩)),(4,.pointer (some ⟨rp,0,none⟩))] D a) (N:Mem V (.blk r (ob [rs,.int .i64 ((0:Nat):Int)] 208)::.blk rp (ob [.pointer (some ⟨r,0,none⟩)] 206)::.blk c0 (ob [.slice none 0 0,.slice none 0 0,.slice none 0 0,.slice none 0 0] 27)::.blk wd (ob [.int .i64 ((0:Nat):Int)] 3)::K) w) :
  (seqR (seqR (seqR (seqR (Tryz.f74.body.getD .skip))))).wp prog Q a w:=by
 obtain ⟨pw,cw,rfl,G1,U0⟩:=rl.fm
 change (Code.seq _ _).wp _ _ _ _
 refine go fun a J=>?_
 replace N:=N.nilRow 133 2
 replace N:=N.nf
 replace N:=N.nilRow 72 2
 replace N:=N.nf
 replace N:=N.nilRow 68 8
 replace N:=N.nf
 replace N:=N.nilRow 9 1
 replace N:=N.nf
 refine zU (J.ks [2,3,4]) N (fun R mm a w=>∃(Ψ2:Fz) (j:Nat) (f:Nat) (E:Value) (F:Value) (H:Value) (I:Value) (d0:List Value) (d1:List Value) (d2:List Value) (C:Core),mm=ws.length - j/\R Ψ2 [] [(0,.gs (I) 9 1 (strs C.outputs)),(1,.gs (H) 68 8 d2),(2,.gs (F) 72 2 d1),(3,.gs (E) 133 2 d0),(4,.blk r (ob [.slice pw ws.length cw,.int .i64 ((j:Nat):Int)] 208)),(6,.blk c0 (ob [E,F,H,I] 27))] a w/\(V.Le Ψ2/\(Chunks (RData Ψ2) 2 d0 C.datas/\Chunks (RParam Ψ2) 2 d1 C.inputs/\Chunks (RFun Ψ2) 8 d2 C.funs/\(C.datas.length<=j/\C.inputs.length<=j/\C.funs.length<=j/\C.outputs.length<=j)/\j<=ws.length/\ws.length+1<=j+f/\jK ws (ws.length+1) ⟨[],[],[],[]⟩ 0=jK ws f C j))) (ws.length - 0) ⟨V,0,ws.length+1,.slice none 0 0,.slice none 0 0,.slice none 0 0,.slice none 0 0,[],[],[],⟨[],[],[],[]⟩,rfl,⟨J.pk,N⟩,⟨Fz.Le.refl _,⟨rfl,rfl,rfl,⟨Nat.le_refl _,Nat.le_refl _,Nat.le_refl _,Nat.le_refl _⟩,Nat.zero_le _,by omega,rfl⟩⟩⟩ ?_
 clear N J
 rintro mm a w ⟨Ψ2,j,f,E,F,H,I,d0,d1,d2,C,m0,⟨J,N⟩,t0⟩ L4 l0
 replace N:=N.nf
 obtain ⟨v,t0⟩:=t0
 replace rl:=rl.up v
 replace G:=G.mono v
 obtain ⟨g,d,c,i1,hj,F1,z⟩:=t0
 refine Reg [2,1,1,2,2,1,1,2,1,1] [0,1,2,3,4,5,6,7] fun w N a J=>?_
 by_cases h8:j < ws.length
 refine Sto 4 fun w N a J=>?_
 refine Reg [2,1,1,2,2,1,1,2,1,1,2] [0,1,2,3,4,5,6,7] fun w N a J=>?_
 refine Qq (fun a J=>?_) (o:=by exact fun J O=>xX ((j:Nat):Int) J rfl rfl (by rw [yD (by omega)];omega))
 obtain ⟨J1,rfl,k0,b,x0,h1,U,z0⟩:=rl.el U0 h8
 obtain rfl:x0=[.string k0]:=z0
 by_cases A:k0=(⟨#[100,97,116,97]⟩:Bs)
 refine go fun a J=>?_
 refine oQ (E0:=[(3,.pointer (some ⟨wd,0,none⟩)),(2,.pointer (some ⟨c0,0,none⟩))]) [1,2,2,0,0,0,1,0] (.q 0 (.q 1 (.q 2 (.e 3 (.e 4 (.e 5 (.q 6 (.e 7 (.done))))))))) [.gs (I) 9 1 (strs C.outputs),.gs (H) 68 8 d2,.gs (F) 72 2 d1,.blk rp (ob [.pointer (some ⟨r,0,none⟩)] 206),.blk c0 (ob [E,F,H,I] 27),.blk wd (ob [.int .i64 ((0:Nat):Int)] 3)] (J.pk) N mixed (by kernel_rfl) (by simp) (by kernel_rfl) fun w N=>?_
 refine go fun a J=>?_
 replace N:=N.pl 4
 refine d_e J rfl rfl rfl (z8u J rfl call126 (x8h G (i:=(j+1)) rl j0 (by omega) N) (fun S c1 w W q0 N=>⟨fun _=>N.sn ((Fz.Le.refl _).trans (q0.1)),fun a J=>?_⟩) (fun S w W N=>fun a J=>?_))
 obtain ⟨B0,z1⟩:=c1
 obtain ⟨t,f0⟩:=q0
 simp only at t f0 N J
 have P0:=data_le W
 replace rl:=rl.up t
 replace G:=G.mono t
 replace g:=g.mono fun _ _ h=>h.up t
 replace d:=d.mono fun _ _ h=>RParam.mono _ _ _ _ t h
 replace c:=c.mono fun _ _ h=>h.up t
 replace U:=U.mono t
 replace N:=N.nf
 obtain ⟨K1,rfl,M0⟩:=id f0
 obtain ⟨V0,I0,rfl,j1,p1⟩:=M0.fm
 refine qF fun M1 w N a J=>?_
 refine qQ 5 rt_22 (fun Z0 w N a J=>?_) (hb:=by have h_:=g.length;rw [h_];simp only [lcQ,lnQ];omega)
 refine Sto 7 fun w N a J=>?_
 refine go fun a J=>?_
 replace N:=N.ar [0] [7,7,7,3,7,7,7,7]
 refine l0 _ _ _ (by subst m0;omega) ⟨(B0),(S.2),(f - 1),(Z0),(F),(H),(I),((d0++[.string S.1.name,.slice V0 S.1.cons.length I0])),(d1),(d2),({ C with datas:=C.datas++[S.1] }),rfl,⟨J.pk,by exact N⟩,?_⟩
 refine ⟨(v).trans t,?_⟩
 exact ⟨(g.snoc (k:=2) (x:=S.1) rfl f0),d,c,⟨by show (C.datas++[S.1]).length<=_;simp only [laQ,lcQ,lnQ];omega,by show C.inputs.length<=_;omega,by show C.funs.length<=_;omega,by show C.outputs.length<=_;omega⟩,by omega,by omega,z.trans (j3k h8 (by omega) ((xB b).trans A) W)⟩
 replace N:=N.dl [4,3,2,1,0]
 exact hP (z.trans (q8v h8 (by omega) ((xB b).trans A) W)) (v) (J.pk) N
 by_cases P:k0=(⟨#[105,110,112,117,116]⟩:Bs)
 refine go fun a J=>?_
 refine oQ (E0:=[(3,.pointer (some ⟨wd,0,none⟩)),(2,.pointer (some ⟨c0,0,none⟩))]) [1,2,2,0,0,0,1,0] (.q 0 (.q 1 (.q 2 (.e 3 (.e 4 (.e 5 (.q 6 (.e 7 (.done))))))))) [.gs (I) 9 1 (strs C.outputs),.gs (H) 68 8 d2,.gs (E) 133 2 d0,.blk rp (ob [.pointer (some ⟨r,0,none⟩)] 206),.blk c0 (ob [E,F,H,I] 27),.blk wd (ob [.int .i64 ((0:Nat):Int)] 3)] (J.pk) N mixed (by kernel_rfl) (by simp) (by kernel_rfl) fun w N=>?_
 refine go fun a J=>?_
 replace N:=N.pl 4
 refine d_e J rfl rfl rfl (z8t J rfl call127 (q2m G (i:=(j+1)) rl j0 (by omega) N) (fun T w X N=>⟨fun _=>N.sn (Fz.Le.refl _),fun a J=>?_⟩) (fun T w X N=>fun a J=>?_))
 have G0:=j0s X
 refine qF fun N1 w N a J=>?_
 refine qQ 4 z4s (fun a1 w N a J=>?_) (hb:=by have h_:=d.length;rw [h_];simp only [lcQ,lnQ];omega)
 refine Sto 7 fun w N a J=>?_
 refine go fun a J=>?_
 replace N:=N.ar [0] [7,7,7,3,7,7,7,7]
 refine l0 _ _ _ (by subst m0;omega) ⟨(Ψ2),(T.2),(f - 1),(E),(a1),(H),(I),(d0),((d1++[.string T.1.name,.string T.1.type])),(d2),({ C with inputs:=C.inputs++[T.1] }),rfl,⟨J.pk,by exact N⟩,?_⟩
 refine ⟨v,?_⟩
 exact ⟨g,(d.snoc (k:=2) (x:=T.1) rfl rfl),c,⟨by show C.datas.length<=_;omega,by show (C.inputs++[T.1]).length<=_;simp only [laQ,lcQ,lnQ];omega,by show C.funs.length<=_;omega,by show C.outputs.length<=_;omega⟩,by omega,by omega,z.trans (q8w h8 (by omega) (fun h_=>A ((xB b).symm.trans h_)) ((xB b).trans P) X)⟩
 replace N:=N.dl [4,3,2,1,0]
 exact hP (z.trans (q5c h8 (by omega) (fun h_=>A ((xB b).symm.trans h_)) ((xB b).trans P) X)) (v) (J.pk) N
 by_cases b0:k0=(⟨#[102,117,110]⟩:Bs)
 refine go fun a J=>?_
 refine oQ (E0:=[(3,.pointer (some ⟨wd,0,none⟩)),(2,.pointer (some ⟨c0,0,none⟩))]) [1,2,2,0,0,0,1,0] (.q 0 (.q 1 (.q 2 (.e 3 (.e 4 (.e 5 (.q 6 (.e 7 (.done))))))))) [.gs (I) 9 1 (strs C.outputs),.gs (F) 72 2 d1,.gs (E) 133 2 d0,.blk rp (ob [.pointer (some ⟨r,0,none⟩)] 206),.blk c0 (ob [E,F,H,I] 27),.blk wd (ob [.int .i64 ((0:Nat):Int)] 3)] (J.pk) N mixed (by kernel_rfl) (by simp) (by kernel_rfl) fun w N=>?_
 refine go fun a J=>?_
 replace N:=N.pl 4
 refine d_e J rfl rfl rfl (z8u J rfl call128 (rfun_ok hE G (i:=(j+1)) rl j0 (by omega) N) (fun p e1 w Y r0 N=>⟨fun _=>N.sn ((Fz.Le.refl _).trans (r0.1)),fun a J=>?_⟩) (fun p w Y N=>fun a J=>?_))
 obtain ⟨C0,A1⟩:=e1
 obtain ⟨u,g0⟩:=r0
 simp only at u g0 N J
 have Q0:=fun_le Y
 replace rl:=rl.up u
 replace G:=G.mono u
 replace g:=g.mono fun _ _ h=>h.up u
 replace d:=d.mono fun _ _ h=>RParam.mono _ _ _ _ u h
 replace c:=c.mono fun _ _ h=>h.up u
 replace U:=U.mono u
 replace N:=N.nf
 obtain ⟨L1,w1,rfl,N0,O0⟩:=id g0
 obtain ⟨W0,J0,rfl,k1,q1⟩:=N0.fm
 obtain ⟨X0,K0,Y0,L0,rfl,g1,B1,C1,l1,r1,m1,s1⟩:=REx.fm O0
 refine qF fun v75 w N a J=>?_
 refine qQ 3 rt_24 (fun v76 w N a J=>?_) (hb:=by have h_:=c.length;rw [h_];simp only [lcQ,lnQ];omega)
 refine Sto 7 fun w N a J=>?_
 refine go fun a J=>?_
 replace N:=N.ar [0] [7,7,7,3,7,7,7,7]
 refine l0 _ _ _ (by subst m0;omega) ⟨(C0),(p.2),(f - 1),(E),(F),(v76),(I),(d0),(d1),((d2++[.string p.1.name,.slice W0 p.1.params.length J0,.string p.1.result,.int .i64 (p.1.body.kind),.int .i64 (p.1.body.num),.string p.1.body.name,.slice X0 p.1.body.args.length K0,.slice Y0 p.1.body.arms.length L0])),({ C with funs:=C.funs++[p.1] }),rfl,⟨J.pk,by exact N⟩,?_⟩
 refine ⟨(v).trans u,?_⟩
 exact ⟨g,d,(c.snoc (k:=8) (x:=p.1) rfl g0),⟨by show C.datas.length<=_;omega,by show C.inputs.length<=_;omega,by show (C.funs++[p.1]).length<=_;simp only [laQ,lcQ,lnQ];omega,by show C.outputs.length<=_;omega⟩,by omega,by omega,z.trans (x0s h8 (by omega) (fun h_=>A ((xB b).symm.trans h_)) (fun h_=>P ((xB b).symm.trans h_)) ((xB b).trans b0) Y)⟩
 replace N:=N.dl [4,3,2,1,0]
 exact hP (z.trans (j3l h8 (by omega) (fun h_=>A ((xB b).symm.trans h_)) (fun h_=>P ((xB b).symm.trans h_)) ((xB b).trans b0) Y)) (v) (J.pk) N
 refine go fun a J=>?_
 by_cases s0:k0=(⟨#[111,117,116,112,117,116]⟩:Bs)
 refine go fun a J=>?_
 refine oQ (E0:=[(3,.pointer (some ⟨wd,0,none⟩)),(2,.pointer (some ⟨c0,0,none⟩))]) [1,2,2,0,0,0,1,0] (.q 0 (.q 1 (.q 2 (.e 3 (.e 4 (.e 5 (.q 6 (.e 7 (.done))))))))) [.gs (H) 68 8 d2,.gs (F) 72 2 d1,.gs (E) 133 2 d0,.blk rp (ob [.pointer (some ⟨r,0,none⟩)] 206),.blk c0 (ob [E,F,H,I] 27),.blk wd (ob [.int .i64 ((0:Nat):Int)] 3)] (J.pk) N mixed (by kernel_rfl) (by simp) (by kernel_rfl) fun w N=>?_
 refine go fun a J=>?_
 replace N:=N.pl 4
 refine d_e J rfl rfl rfl (z8t J rfl call129 (cW G (i:=(j+1)) rl j0 (by omega) N) (fun p0 w Z N=>⟨fun _=>N.sn (Fz.Le.refl _),fun a J=>?_⟩) (fun p0 w Z N=>fun a J=>?_))
 have H0:=xI Z
 refine qF fun O1 w N a J=>?_
 refine qQ 2 wT (fun b1 w N a J=>?_) (hb:=by simp [yG];omega)
 refine Sto 7 fun w N a J=>?_
 refine go fun a J=>?_
 first | rw [jS] at N | rw [<- yW] at N
 replace N:=N.ar [0] [7,7,7,3,7,7,7,7]
 refine l0 _ _ _ (by subst m0;omega) ⟨(Ψ2),(p0.2),(f - 1),(E),(F),(H),(b1),(d0),(d1),(d2),({ C with outputs:=C.outputs++[p0.1] }),rfl,⟨J.pk,by exact N⟩,?_⟩
 refine ⟨v,?_⟩
 exact ⟨g,d,c,⟨by show C.datas.length<=_;omega,by show C.inputs.length<=_;omega,by show C.funs.length<=_;omega,by show (C.outputs++[p0.1]).length<=_;simp only [laQ,lcQ,lnQ];omega⟩,by omega,by omega,z.trans (x0t h8 (by omega) (fun h_=>A ((xB b).symm.trans h_)) (fun h_=>P ((xB b).symm.trans h_)) (fun h_=>b0 ((xB b).symm.trans h_)) ((xB b).trans s0) Z)⟩
 replace N:=N.dl [4,3,2,1,0]
 exact hP (z.trans (j3m h8 (by omega) (fun h_=>A ((xB b).symm.trans h_)) (fun h_=>P ((xB b).symm.trans h_)) (fun h_=>b0 ((xB b).symm.trans h_)) ((xB b).trans s0) Z)) (v) (J.pk) N
 refine Qq (fun a J=>?_) (o:=by exact fun J O=>xX ((j:Nat):Int) J rfl rfl (by rw [yD (by omega)];omega))
 refine Sto 4 fun w N a J=>?_
 refine go fun a J=>?_
 replace N:=N.pl 4
 refine stP J rfl rfl rfl (oX J rfl call130 (uP (i:=j) rl j0 (by omega) N) (fun w N=>fun a J=>?_))
 replace N:=N.dl [4,3,2,1,0]
 exact hP (z.trans (x0q h8 (by omega) (fun h_=>A ((xB b).symm.trans h_)) (fun h_=>P ((xB b).symm.trans h_)) (fun h_=>b0 ((xB b).symm.trans h_)) (fun h_=>s0 ((xB b).symm.trans h_)))) (v) (J.pk) N
 refine go fun a J=>?_
 have s:=N
 clear N
 obtain ⟨D0,L,N,n0⟩:=s.freezeRow (i:=3) rfl
 clear s
 replace G:=G.mono L
 replace g:=g.mono fun _ _ h=>h.up L
 replace d:=d.mono fun _ _ h=>RParam.mono _ _ _ _ L h
 replace c:=c.mono fun _ _ h=>h.up L
 replace N:=N.nf
 have m:SliceOf RData D0 2 _ (C.datas):=⟨_,n0,g⟩
 obtain ⟨H1,x1,i0,n1,t1⟩:=m.form (by decide)
 have l:=N
 clear N
 subst i0
 have N:=l
 clear l
 have s:=N
 clear N
 obtain ⟨F0,M,N,o0⟩:=s.freezeRow (i:=2) rfl
 clear s
 replace G:=G.mono M
 replace d:=d.mono fun _ _ h=>RParam.mono _ _ _ _ M h
 replace c:=c.mono fun _ _ h=>h.up M
 replace m:=m.up M
 replace N:=N.nf
 have B:SliceOf RParam F0 2 _ (C.inputs):=⟨_,o0,d⟩
 obtain ⟨I1,y1,i0,o1,S0⟩:=B.form (by decide)
 have l:=N
 clear N
 subst i0
 have N:=l
 clear l
 have s:=N
 clear N
 obtain ⟨w0,y,N,h0⟩:=s.freezeRow (i:=1) rfl
 clear s
 replace G:=G.mono y
 replace c:=c.mono fun _ _ h=>h.up y
 replace m:=m.up y
 replace B:=B.up y
 replace N:=N.nf
 have a0:SliceOf RFun w0 8 _ (C.funs):=⟨_,h0,c⟩
 obtain ⟨v1,f1,i0,R0,T0⟩:=a0.form (by decide)
 have l:=N
 clear N
 subst i0
 have N:=l
 clear l
 obtain ⟨p3,m3,q3,A0,_,_⟩:=N.toSees.gsForm (i:=0) rfl
 have l:=N
 clear N
 subst A0
 have N:=l
 clear l
 refine Sto 3 fun w N a J=>?_
 refine Sto 4 fun w N a J=>?_
 refine go fun a J=>?_
 replace N:=N.ar [2,1] [2,2]
 exact hR (z.trans (x0r h8 (by omega))) ((((v).trans L).trans M).trans y) m B a0 (J.pk) N
abbrev wrongRE (n:Nat) (r:Bool):PanicEntry:={ v:=.iface 204 (.agg #[.int .i64 ((n:Nat):Int)]),recovered:=r }
theorem x6i:zR prog 204 0 0:=zI runUnderlying204 rfl sizeOf3 (by decide) rfl
set_option maxRecDepth 20000 in
set_option maxHeartbeats 4000000 in
theorem q3t {V:Fz} {K:List Res} {w:World} {bc bw n:Nat} {s t u v x:Value} (N:Mem V (.blk bc (ob [s,t,u,v] 27)::.blk bw (ob [x] 3)::K) w) :
  CallsD prog 124 #[.pointer (some ⟨bc,0,none⟩),.pointer (some ⟨bw,0,none⟩)] (.panicking (aP n)) w fun e u' w'=>
   e=.returned (.tuple #[])/\u'=.panicking [wrongRE n true]/\Mem V (.blk bc (ob [.slice none 0 0,.slice none 0 0,.slice none 0 0,.slice none 0 0] 27)::.blk bw (ob [.int .i64 ((n:Nat):Int)] 3)::K) w':=by
 generalize j:(fun (e:Ending) (u':FrameMode) (w':World)=>e=.returned (.tuple #[])/\u'=.panicking [wrongRE n true]/\Mem V (.blk bc (ob [.slice none 0 0,.slice none 0 0,.slice none 0 0,.slice none 0 0] 27)::.blk bw (ob [.int .i64 ((n:Nat):Int)] 3)::K) w')=R
 refine callsD_of_wpS func124 rfl fun c₀ cs m=>?_
 apply wpS_seq
 apply wpS_region
 show wpOpsS prog _ _ [0,1] _ _ _
 simp [wpOpsS,go_sem,recoverD,m,ntmps124,Exit.thenS,aP]
 refine wpS_of_wp ?_
 generalize k:(_::cs:List Frame)=cs'
 have hQ:∀(a:Act) (w':World),a.defers=[]->Mem V (.blk bc (ob [.slice none 0 0,.slice none 0 0,.slice none 0 0,.slice none 0 0] 27)::.blk bw (ob [.int .i64 ((n:Nat):Int)] 3)::K) w'->bodyPostS prog Tryz.f124 c₀ cs R .normal a cs' w':=fun a w' l N=>
  ⟨l,.panicking [wrongRE n true],k.symm,.tuple #[],results_none rfl _ _ _,by subst j;exact ⟨rfl,rfl,N⟩⟩
 generalize b:(Act.mk _ [])=a
 have J:EnvR 19 [(2,.iface 204 (.agg #[.int .i64 ((n:Nat):Int)])),(1,.pointer (some ⟨bw,0,none⟩)),(0,.pointer (some ⟨bc,0,none⟩))] [] a:=by
  subst b
  refine ⟨by simp,fun t v h=>?_,rfl⟩
  obtain ⟨rfl,rfl⟩ | ⟨_,h⟩:=wU h
  ·simp
  ·obtain ⟨rfl,rfl⟩ | ⟨_,h⟩:=wU h
   ·simp
   ·obtain ⟨rfl,rfl⟩ | ⟨_,h⟩:=wU h
    ·simp
    ·cases h
 clear b
 refine sq fun o c=>?_
 refine wp_region_lit ?_
 refine xD J (vW J rfl) rfl fun a J=>?_
 refine xD J (cZ (v:=.bool true) J rfl rfl rfl (by kernel_rfl)) rfl fun a J=>?_
 refine wpList_nil ?_
 apply c
 refine if_t J rfl ?_
 refine sq fun p d=>?_
 refine wp_region_lit ?_
 refine xD J (vW J rfl) rfl fun a J=>?_
 refine xD J (y7s J rfl runUnderlying204 (by intro ms h;cases h)) rfl fun a J=>?_
 refine xD J (vW J rfl) rfl fun a J=>xD J (gC J rfl rfl) rfl fun a J=>xD J (gC J rfl rfl) rfl fun a J=>?_
 refine st J rfl rfl rfl (wZ (cs:=[.int .i64 ((0:Nat):Int)]) N zeroValue204 rfl fun i w N a J=>?_)
 refine st0 J rfl rfl (jR 0 (cs:=[.int .i64 ((0:Nat):Int)]) (vs:=[.int .i64 ((n:Nat):Int)]) J N rfl rfl rfl rfl sizeOf204 rfl rfl rfl fun w N a J=>?_)
 refine xD J (gR J rfl) rfl fun a J=>?_
 refine wpList_nil ?_
 apply d
 replace N:Mem V (.blk i (ob [.int .i64 ((n:Nat):Int)] 204)::.blk bc (ob [s,t,u,v] 27)::.blk bw (ob [x] 3)::K) w:=N
 refine sq fun r f=>?_
 refine sq fun y g=>?_
 refine wp_region_lit ?_
 refine xD J (vW J rfl) rfl fun a J=>xD J (q3i J rfl) rfl fun a J=>?_
 refine wpList_nil ?_
 apply g
 refine if_f J rfl ?_
 refine wp_skip ?_
 apply f
 refine gO [1,1,2,0,0] (.q 0 (.q 1 (.q 2 (.e 3 (.e 4 (.done)))))) [.blk i (ob [.int .i64 ((n:Nat):Int)] 204)] J N mixed (by kernel_rfl) (by simp) fun w N=>?_
 refine y3p J rfl rfl (fun w=>z4i (vs:=[]) (cs:=[.slice none 0 0,.slice none 0 0,.slice none 0 0,.slice none 0 0]) J rfl (by kernel_rfl)) rfl fun a J=>?_
 refine y3p J rfl rfl (fun w=>aE J rfl x6i rfl) rfl fun a J=>?_
 refine d_q J rfl rfl (fun w O=>pT 0 J O rfl rfl rfl isAgg3) rfl fun a J=>?_
 refine y9b J rfl rfl (jR 1 (cs:=[s,t,u,v]) (vs:=[.slice none 0 0,.slice none 0 0,.slice none 0 0,.slice none 0 0]) J N rfl rfl rfl rfl sizeOf27 rfl rfl rfl fun w N=>⟨fun _=>N.seesIn (Fz.Le.refl _) (by simp [pB]),fun a J=>?_⟩)
 refine y9b J rfl rfl (jR 2 (cs:=[x]) (vs:=[.int .i64 ((n:Nat):Int)]) J N rfl rfl rfl rfl sizeOf3 rfl rfl rfl fun w N=>⟨gN (by kernel_rfl),fun a J=>?_⟩)
 refine q5b ?_
 replace N:Mem V (.blk bc (ob [.slice none 0 0,.slice none 0 0,.slice none 0 0,.slice none 0 0] 27)::.blk bw (ob [.int .i64 ((n:Nat):Int)] 3)::K) w:=N.del 0
 exact hQ _ _ J.defs N
set_option maxRecDepth 20000 in
theorem catchR_none {w:World} {bc bw:Nat} :
  CallsD prog 124 #[.pointer (some ⟨bc,0,none⟩),.pointer (some ⟨bw,0,none⟩)] .returning w fun e u' w'=>e=.returned (.tuple #[])/\u'=.returning/\w'=w:=by
 generalize f:(fun (e:Ending) (u':FrameMode) (w':World)=>e=.returned (.tuple #[])/\u'=.returning/\w'=w)=R
 refine callsD_of_wpS func124 rfl fun c₀ cs d=>?_
 apply wpS_seq
 apply wpS_region
 show wpOpsS prog _ _ [0,1] _ _ _
 simp [wpOpsS,go_sem,recoverD,d,ntmps124,Exit.thenS]
 refine wpS_of_wp ?_
 have hQ:∀(a:Act),a.defers=[]->bodyPostS prog Tryz.f124 c₀ cs R .normal a (c₀::cs) w:=fun a g=>
  ⟨g,.returning,by cases c₀;simp only at d;subst d;rfl,.tuple #[],results_none rfl _ _ _,by subst f;exact ⟨rfl,rfl,rfl⟩⟩
 generalize b:(Act.mk _ [])=a
 have J:EnvR 19 [(2,.nilIface)] [] a:=by
  subst b
  refine ⟨by simp,fun t v h=>?_,rfl⟩
  obtain ⟨rfl,rfl⟩ | ⟨_,h⟩:=wU h
  ·simp
  ·cases h
 clear b
 refine sq fun i c=>?_
 refine wp_region_lit ?_
 refine xD J (vW J rfl) rfl fun a J=>?_
 refine xD J (cZ (v:=.bool false) J rfl rfl rfl (by kernel_rfl)) rfl fun a J=>?_
 refine wpList_nil ?_
 apply c
 refine if_f J rfl ?_
 refine wp_skip ?_
 exact hQ _ J.defs
abbrev readKY (K:List Res) (l Dk rr rp:Nat) (r:Loop) (pre:List Bs) (z:Value):List Res :=
 .blk l (.loop r)::.blk Dk (.deferred (some []))::.blk rr (ob [z,.int .i64 ((0:Nat):Int)] 208)::.gs z 9 1 (strs pre)::.blk rp (ob [.pointer (some ⟨rr,0,none⟩)] 206)::K
set_option maxRecDepth 20000 in
set_option maxHeartbeats 4000000 in
theorem j5p {Ψ:Fz} {K c:List Res} {w:World} {l Dk rr rp n:Nat} {r:Loop} {pre:List Bs} {z:Value} {k:Bs} (q:pre.length < n) (B:n<=800000)
  (f:r.params=#[11]) (m:r.state=.ready) (j:r.pending=none)
  (y:∀(a:Act) (w:World),EnvR 96 [(11,.string k),(4,.pointer (some ⟨rp,0,none⟩))] [] a ->
   r.assign.wpIn (FO (some l)) 2 prog (Exit.then (fun p s=>EnvR 96 [(5,.string k),(4,.pointer (some ⟨rp,0,none⟩))] [] p/\s=w) (fun _ _ _=>False)) a w)
  (hb:∀(a:Act) (w:World) (K:List Res) (o:Obj),EnvR 96 [(5,.string k),(4,.pointer (some ⟨rp,0,none⟩))] [] a->Mem Ψ (.blk l o::.blk rr (ob [z,.int .i64 ((0:Nat):Int)] 208)::.gs z 9 1 (strs pre)::.blk rp (ob [.pointer (some ⟨rr,0,none⟩)] 206)::K) w ->
   r.body.wpIn (FO (some l)) 2 prog (fun e _ w=>e=.normal/\∃v,Mem Ψ (.blk l o::.blk rr (ob [v,.int .i64 ((0:Nat):Int)] 208)::.gs v 9 1 (strs (pre++[k]))::.blk rp (ob [.pointer (some ⟨rr,0,none⟩)] 206)::K) w) a w)
  (J:EnvR 96 [(4,.pointer (some ⟨rp,0,none⟩))] [] ⟨r.tmps,[]⟩) (N:Mem Ψ (c++readKY K l Dk rr rp r pre z) w) :
  YieldAt Fence.wide 2 prog l #[.string k] w (fun e w'=>e=.returned (.bool true)/\∃z',Mem Ψ (c++readKY K l Dk rr rp r (pre++[k]) z') w'):=by
 have b:Mem Ψ (readKY K l Dk rr rp r pre z++c) w:=N.perm List.perm_append_comm
 replace b:Mem Ψ (.blk l (.loop r)::.blk rr (ob [z,.int .i64 ((0:Nat):Int)] 208)::.gs z 9 1 (strs pre)::.blk rp (ob [.pointer (some ⟨rr,0,none⟩)] 206)::.blk Dk (.deferred (some []))::(K++c)) w :=
  ((((b.pull (i:=4) rfl).pull (i:=4) rfl).pull (i:=4) rfl).pull (i:=3) rfl)
 have hl:w.heap[l]? = some (.loop r):=b.own _ msQ
 refine ⟨r.fn,r.tmps.setIfInBounds 11 (.string k),r.assign,r.body,?_,?_⟩
 ·rw [run_yield hl (by rw [f];rfl),f,zip1];simp
 ·have g:EnvR 96 [(11,.string k),(4,.pointer (some ⟨rp,0,none⟩))] [] ⟨r.tmps.setIfInBounds 11 (.string k),[]⟩:=J.put (d:=11) rfl
  have h:=j1j (P:=prog) (E1:=fun (_:Unit)=>[(5,.string k),(4,.pointer (some ⟨rp,0,none⟩))]) (K1:=fun _=>.blk rr (ob [z,.int .i64 ((0:Nat):Int)] 208)::.gs z 9 1 (strs pre)::.blk rp (ob [.pointer (some ⟨rr,0,none⟩)] 206)::.blk Dk (.deferred (some []))::(K++c))
   (KO:=fun v=>.blk rr (ob [v,.int .i64 ((0:Nat):Int)] 208)::.gs v 9 1 (strs (pre++[k]))::.blk rp (ob [.pointer (some ⟨rr,0,none⟩)] 206)::.blk Dk (.deferred (some []))::(K++c)) b m j g
   (fun a J=>Code.wpIn_mono (fun e p s h=>by
    cases e with
    | normal=>exact ⟨(),h.1,h.2▸b⟩
    | _=>exact h) (y a w J)) (fun _ a w J N=>hb a w _ _ J N)
  refine h.mono fun e w' A=>?_
  obtain ⟨h1,v,t⟩:=A
  refine ⟨h1,v,?_⟩
  have u:Mem Ψ (readKY K l Dk rr rp r (pre++[k]) v++c) w':=(((((t.pull (i:=3) rfl).pull (i:=3) rfl).pull (i:=3) rfl).pull (i:=4) rfl).pull (i:=4) rfl)
  exact u.perm List.perm_append_comm
theorem j1f {P:Program} {fn:Func} {n:Nat} {E:List (Nat×Value)} {D:List Deferred} {a:Act} {V:Fz} {K:List Res} {w:World} {t u T U k i j b c:Nat} {v:Value} {cs:List Value} {g h:TypeId} (J:EnvR n E D a) (N:Sees V K w) (hr:fn.results=#[.cell u U,.cell t T]) (r:get E t=some (.pointer (some ⟨b,0,none⟩)))
  (q:qS K i=some (.blk b (ob [v] g))) (p:Scalar P T) (f:get E u=some (.pointer (some ⟨c,0,none⟩))) (e:qS K j=some (.blk c (ob cs h))) (d:AggT P U) (o:SizeT P U k) (hl:cs.length=k) :
  (results fn a.tmps).run P w=.ok (.tuple #[.agg cs.toArray,v]) w:=by
 have h1:w.cell? ⟨b,0,none⟩=some v:=N.cell q 0
 have l:=j7m (P:=P) J N f e d o hl
 have m:(loadVar T ⟨b,0,none⟩).run P w=.ok v w:=by simp [loadVar,Sem.run_bind,p w,Result.andThen,load,Sem.run,h1]
 simp [results,hr,Array.getD_eq_getD_getElem?,J.env t _ r,J.env u _ f,asAddr,l,m,Sem.run_bind,Result.andThen]
set_option maxRecDepth 20000 in
set_option maxHeartbeats 4000000 in
theorem read_ok {V:Fz} {K:List Res} {w:World} {t:Bs} (G:Glob V) (h2:t.size<=800000) (m:AscB t) (N:Mem V K w) :
  Calls prog 74 #[.string t] w (fun ee w'=>Out (z1k t)
   (fun C=>∃y:Fz×Value×Value×Value×Value,ee=.returned (.tuple #[.agg #[y.2.1,y.2.2.1,y.2.2.2.1,y.2.2.2.2],.int .i64 ((0:Nat):Int)])/\(V.Le y.1/\SliceOf RData y.1 2 y.2.1 C.datas/\SliceOf RParam y.1 2 y.2.2.1 C.inputs/\SliceOf RFun y.1 8 y.2.2.2.1 C.funs)/\Mem y.1 (.gs y.2.2.2.2 9 1 (strs C.outputs)::K) w')
   (fun n=>ee=.returned (.tuple #[.agg #[.slice none 0 0,.slice none 0 0,.slice none 0 0,.slice none 0 0],.int .i64 ((n:Nat):Int)])/\Mem V K w')):=by
 refine enterX func74 rfl ntmps74 rfl (fun Q hQ a J=>?_)
 refine sq fun L1 H=>?_
 refine wp_region_lit ?_
 refine st J rfl rfl rfl (wZ (cs:=[.slice none 0 0,.slice none 0 0,.slice none 0 0,.slice none 0 0]) N zeroValue27 rfl fun c0 w N a J=>?_)
 refine st J rfl rfl rfl (wZ (cs:=[.int .i64 ((0:Nat):Int)]) N zeroValue3 rfl fun wd w N a J=>?_)
 refine wpList_nil ?_
 apply H
 refine sq fun L2 I=>?_
 refine wp_region_lit ?_
 refine xD J (z1d (vfs:=[]) (vcs:=[.pointer (some ⟨c0,0,none⟩),.pointer (some ⟨wd,0,none⟩)]) J rfl rfl) rfl fun a J=>?_
 refine z3c (fs:=[]) (cs:=[.pointer (some ⟨c0,0,none⟩),.pointer (some ⟨wd,0,none⟩)]) (vs:=[]) J rfl rfl fun a J=>?_
 refine wpList_nil ?_
 apply I
 refine sq fun L3 L=>?_
 refine wp_region_lit ?_
 refine xD J (z4i (vs:=[]) (cs:=[.slice none 0 0,.int .i64 ((0:Nat):Int)]) J rfl (by kernel_rfl)) rfl fun a J=>?_
 refine st J rfl rfl rfl (j7q (cs:=[.slice none 0 0,.int .i64 ((0:Nat):Int)]) J N rfl rfl fun rr w N a J=>?_)
 refine st J rfl rfl rfl (wZ (cs:=[.pointer none]) N zeroValue206 rfl fun rp w N a J=>?_)
 refine st0 J rfl rfl (jR 0 (cs:=[.pointer none]) (vs:=[.pointer (some ⟨rr,0,none⟩)]) J N rfl rfl rfl rfl sizeOf206 rfl rfl rfl fun w N a J=>?_)
 refine wpList_nil ?_
 apply L
 replace N:Mem V (.blk rp (ob [.pointer (some ⟨rr,0,none⟩)] 206)::.blk rr (ob [.slice none 0 0,.int .i64 ((0:Nat):Int)] 208)::.blk wd (ob [.int .i64 ((0:Nat):Int)] 3)::.blk c0 (ob [.slice none 0 0,.slice none 0 0,.slice none 0 0,.slice none 0 0] 27)::K) w:=N
 refine sq fun L4 M=>?_
 refine sq fun L5 R=>?_
 refine wp_region_lit ?_
 refine xD J (vW J rfl) rfl fun a J=>?_
 refine st J rfl rfl rfl (z3v J rfl call125 (v0c N) (fun bx w _ N a J=>?_))
 refine wpList_nil ?_
 apply R
 refine wp_block ?_
 refine j2m (P:=prog) (β:=Value) (δ:=Unit) (gf:=174) (fs:=[]) (cs:=[.pointer (some ⟨bx,0,none⟩)]) (F1:=fun _=>V)
  (KO:=fun z=>.blk rr (ob [z,.int .i64 ((0:Nat):Int)] 208)::.gs z 9 1 (strs (tV t))::.blk rp (ob [.pointer (some ⟨rr,0,none⟩)] 206)::.blk wd (ob [.int .i64 ((0:Nat):Int)] 3)::.blk c0 (ob [.slice none 0 0,.slice none 0 0,.slice none 0 0,.slice none 0 0] 27)::K)
  (KE:=fun _=>K)
  (G:=fun _=>True) (B:=fun _ _=>False) J N rfl call174 ?_ ?_ ?_
 ·intro Dk l r w W has S X U T N
  have d:=N.nilRow 9 1
  replace d:Mem V (.blk bx (ob [.string t] 9)::readKY (.blk wd (ob [.int .i64 ((0:Nat):Int)] 3)::.blk c0 (ob [.slice none 0 0,.slice none 0 0,.slice none 0 0,.slice none 0 0] 27)::K) l Dk rr rp r [] (.slice none 0 0)) w :=
   ((((((d.pull (i:=4) rfl).pull (i:=1) rfl).pull (i:=5) rfl).pull (i:=4) rfl).pull (i:=4) rfl).pull (i:=5) rfl)
  have h:=x3o (l:=l) (KY:=readKY (.blk wd (ob [.int .i64 ((0:Nat):Int)] 3)::.blk c0 (ob [.slice none 0 0,.slice none 0 0,.slice none 0 0,.slice none 0 0] 27)::K) l Dk rr rp r) (by omega) m (fun pre z K0 k w p N=>?_) d
  ·refine h.mono fun e w' hh=>?_
   obtain ⟨z,rfl,b⟩:=hh
   exact .inl ⟨_,z,rfl,trivial,b⟩
  ·refine j5p (n:=t.size) p h2 W X U (fun a w J=>?_) (fun a w K o J N=>?_) (T.of_sub ⟨rfl,trivial⟩) N
   ·rw [has]
    refine wpIn_region_lit ?_
    refine aA J (by intro c h;cases h) (gR J rfl) rfl fun a J=>?_
    refine wpListIn_nil ?_
    exact ⟨J.of_sub ⟨rfl,rfl,trivial⟩,rfl⟩
   ·rw [S]
    refine wpIn_block ?_
    refine y9p [2,2,1,1,2,1,0,0,1,1,0] (.q 0 (.q 1 (.q 2 (.q 3 (.q 4 (.q 5 (.e 6 (.e 7 (.q 8 (.q 9 (.e 10 (.done)))))))))))) [.blk rr (ob [z,.int .i64 ((0:Nat):Int)] 208),.blk rp (ob [.pointer (some ⟨rr,0,none⟩)] 206)] J N mixed (by kernel_rfl) (by simp) (by kernel_rfl) fun w N=>?_
    refine d_q J rfl rfl (fun w O=>pT 1 J O rfl rfl rfl isAgg206) rfl fun a J=>?_
    refine d_q J rfl rfl (fun w O=>pT 1 J O rfl rfl rfl isAgg206) rfl fun a J=>?_
    refine y3p J rfl rfl (fun w=>z5w J rfl) rfl fun a J=>?_
    refine y3p J rfl rfl (fun w=>aE J rfl y4g rfl) rfl fun a J=>?_
    refine d_q J rfl rfl (fun w O=>pT 0 J O rfl rfl rfl isAgg25) rfl fun a J=>?_
    refine y3p J rfl rfl (fun w=>vW J rfl) rfl fun a J=>?_
    refine d_e J rfl rfl rfl (vH (sz:=1) (cs:=[.string k]) J N rfl (y3a runUnderlying25 sizeOf9 zeroValue9 rfl (by decide) rfl) rfl (by decide) fun v w N _=>⟨fun _=>N.seesIn (Fz.Le.refl _) (by simp),fun a J=>?_⟩)
    refine d_e J rfl rfl rfl (z5g 3 (xs:=strs pre) (news:=[.string k]) wT J N rfl rfl rfl (N.toSees.rowIn (i:=0) rfl) rfl (by simp [yG];omega) fun v2 w N=>⟨fun _=>N.seesIn (Fz.Le.refl _) (by simp [pB]),fun a J=>?_⟩)
    replace N:Mem V (.gs v 9 1 [.string k]::.blk l o::.blk rr (ob [z,.int .i64 ((0:Nat):Int)] 208)::.gs v2 9 1 (strs (pre++[k]))::.blk rp (ob [.pointer (some ⟨rr,0,none⟩)] 206)::K) w:=by rw [yW];exact N
    refine y3p J rfl rfl (fun w=>z5w J rfl) rfl fun a J=>?_
    refine y3p J rfl rfl (fun w=>aE J rfl y4g rfl) rfl fun a J=>?_
    refine y9b J rfl rfl (jR 2 (cs:=[z,.int .i64 ((0:Nat):Int)]) (vs:=[v2]) J N rfl rfl rfl (N.toSees.gsCells (i:=3) rfl) sizeOf25 rfl (N.toSees.gsOne (i:=3) rfl) rfl fun w N=>⟨gN (by kernel_rfl),fun a J=>?_⟩)
    refine q5b ?_
    exact ⟨rfl,v2,N.del 0⟩
 ·intro Dk z a w _ J N
  apply M
  obtain ⟨Ψ,le,N,A⟩:=N.freezeRow (i:=2) rfl
  have rl:SliceOf RStr Ψ 1 z (tV t):=SliceOf.strs.2 A
  have D:(tV t).length<=1000000:=Nat.le_trans (tI t.size 0) (by omega)
  have Y:∀j,(zD (tV t) j).size<=1000000:=fun j=>x2l (fun s O=>Nat.le_trans (tJ t.size 0 s O) (by omega)) j
  replace N:Mem Ψ (.blk rr (ob [z,.int .i64 ((0:Nat):Int)] 208)::.blk rp (ob [.pointer (some ⟨rr,0,none⟩)] 206)::.blk c0 (ob [.slice none 0 0,.slice none 0 0,.slice none 0 0,.slice none 0 0] 27)::.blk wd (ob [.int .i64 ((0:Nat):Int)] 3)::.blk Dk (.deferred (some []))::K) w:=((((N.pull (i:=3) rfl).pull (i:=4) rfl).pull (i:=4) rfl).pull (i:=4) rfl)
  refine x2r (ws:=tV t) (c0:=c0) (wd:=wd) (rp:=rp) (r:=rr) (G.mono le) (j1h D Y 250 (by decide)) rl D ?_ ?_ (J.of_sub ⟨rfl,rfl,rfl,trivial⟩) N
  ·intro Ψ2 a w C Z u1 u2 u3 E g r0 r1 r2 J N
   refine hQ _ _ _ ?_
   show oB _ _ _ _ a.defers _ _
   rw [J.defs]
   replace N:=N.pull (i:=3) rfl
   have F:w.heap[Dk]? = some (.deferred (some [])):=N.own _ msQ
   have b:=N.putObj (i:=0) (o':=.deferred none) rfl
   refine oM (by simp) F (z0h ?_)
   refine leaves_cons (f:=124) (args:=#[.pointer (some ⟨c0,0,none⟩),.pointer (some ⟨wd,0,none⟩)]) (by simp) (call124 _ _) ?_
   refine catchR_none.mono ?_
   rintro e u' w'' ⟨rfl,rfl,rfl⟩
   refine ⟨_,j1f (i:=2) (j:=1) J b.toSees results74 rfl rfl isAgg3 rfl rfl isAgg27 sizeOf27 rfl,?_⟩
   show Out (z1k t) _ _
   rw [show z1k t=.ok C from E]
   exact ⟨(Ψ2,Z,u1,u2,u3),rfl,⟨le.trans g,r0,r1,r2⟩,((b.del 0).del 0).del 0⟩
  ·intro Ψ2 a w n Z u1 u2 u3 x E g J N
   refine hQ _ _ _ ?_
   show oB _ _ _ _ a.defers _ _
   rw [J.defs]
   replace N:=N.pull (i:=2) rfl
   have F:w.heap[Dk]? = some (.deferred (some [])):=N.own _ msQ
   have b:=(N.putObj (i:=0) (o':=.deferred none) rfl)
   replace b:Mem Ψ2 (.blk c0 (ob [Z,u1,u2,u3] 27)::.blk wd (ob [x] 3)::.blk Dk (.deferred none)::K) (w.putObj Dk (.deferred none)):=(b.pull (i:=2) rfl).pull (i:=2) rfl
   refine oM (by simp) F (z0h ?_)
   refine leaves_cons (f:=124) (args:=#[.pointer (some ⟨c0,0,none⟩),.pointer (some ⟨wd,0,none⟩)]) (by simp) (call124 _ _) ?_
   refine (q3t b).mono ?_
   rintro e' u' w'' ⟨rfl,rfl,u⟩
   refine ⟨_,j1f (i:=1) (j:=0) J u.toSees results74 rfl rfl isAgg3 rfl rfl isAgg27 sizeOf27 rfl,?_⟩
   show Out (z1k t) _ _
   rw [show z1k t=.error n from E]
   exact ⟨rfl,(((u.del 0).del 0).del 0).le (le.trans g)⟩
 ·intro Dk y c a w hB J N
  exact hB.elim
def Pos {α:Type} (f:Nat->Rd α):Prop:=∀i n,f i=.error n->0 < n
section
variable {ws:List Bs}
theorem Pos.bind {α β:Type} {f:Nat->Rd α} {g:α->Nat->Rd β} (a:Pos f) (b:∀x,Pos (g x)):Pos (fun i=>qA (f i) g):=fun i n h=>by
 cases hr:f i with
 | error m=>
  simp only [qA,hr] at h
  cases h;exact a i _ hr
 | ok y=>
  simp only [qA,hr] at h
  exact b _ _ n h
theorem Pos.ok {α:Type} (f:Nat->α×Nat):Pos (fun i=>(.ok (f i):Rd α)):=fun i n h=>by cases h
theorem Pos.ite {α:Type} {p:Nat->Prop} [∀i,Decidable (p i)] {f g:Nat->Rd α} (a:Pos f) (b:Pos g):Pos (fun i=>if p i then f i else g i):=fun i n h=>by
 simp only at h
 split at h
 ·exact a i n h
 ·exact b i n h
theorem Pos.next {α:Type} {f:Nat->Rd α} (a:Pos f):Pos (fun i=>f (i+1)):=fun i n h=>a (i+1) n h
theorem Pos.err {α:Type}:Pos (fun i=>(.error (i+1):Rd α)):=fun i n h=>by cases h;exact Nat.succ_pos _
theorem wJ (p:Bs->Bool):Pos (aC ws p):=fun i n h=>by
 unfold aC at h
 split at h
 ·cases h;exact Nat.succ_pos _
 ·cases h
theorem cR (w:Bs):Pos (pJ ws w):=(wJ _).bind fun _=>Pos.ok fun i=>((),i)
theorem y5g {ex:Nat->Rd Ex} (J:Pos ex):∀f least,Pos (pC ws ex f least)
 | 0,_=>Pos.err
 | f+1,least=>Pos.ite (p:=fun i=>0 < least∨zD ws i≠sCls) (J.bind fun e=>(y5g J f _).bind fun l=>Pos.ok fun i=>(e::l,i)) (Pos.ok fun i=>([],i))
theorem j9j {ex:Nat->Rd Ex} (J:Pos ex):Pos (z7t ex):=J.bind fun a=>J.bind fun b=>Pos.ok fun i=>([a,b],i)
theorem j2d:∀f,Pos (oA ws f)
 | 0=>Pos.err
 | f+1=>Pos.ite (p:=fun i=>zD ws i≠y6k) ((wJ _).bind fun s=>(j2d f).bind fun l=>Pos.ok fun i=>(s::l,i)) (Pos.ok fun i=>([],i))
theorem arm_pos {ex:Nat->Rd Ex} (J:Pos ex):Pos (armP ws ex) :=
 (cR _).bind fun _=>(wJ _).bind fun c=>(j2d _).bind fun vs=>(cR _).bind fun _=>J.bind fun b=>(cR _).bind fun _=>Pos.ok fun i=>(Arm.mk c vs b,i)
theorem q7o {ex:Nat->Rd Ex} (J:Pos ex):∀f b,Pos (sC ws ex f b)
 | 0,_=>Pos.err
 | f+1,b=>Pos.ite (p:=fun i=>b=true∨zD ws i=oR) ((arm_pos J).bind fun a=>(q7o J f false).bind fun l=>Pos.ok fun i=>(a::l,i)) (Pos.ok fun i=>([],i))
theorem x6s {ex:Nat->Rd Ex} (J:Pos ex):Pos (qD ws ex):=fun i n h=>by
 unfold qD at h
 split at h
 ·exact (j9j J).bind (fun l=>Pos.ok fun j=>(Ex.mk 8 0 (zD ws i) l [],j)) (i+1) n h
 ·split at h
  ·exact (wJ _).bind (fun x=>(j9j J).bind fun l=>Pos.ok fun j=>(Ex.mk 6 0 x l [],j)) (i+1) n h
  ·split at h
   ·exact J.bind (fun a=>(q7o J _ true).bind fun l=>Pos.ok fun j=>(Ex.mk 7 0 sNo [a] l,j)) (i+1) n h
   ·split at h
    ·exact (y5g J _ 1).bind (fun l=>Pos.ok fun j=>(Ex.mk 4 0 (zD ws i) l [],j)) (i+1) n h
    ·exact (wJ _).bind (fun x=>(y5g J _ 0).bind fun l=>Pos.ok fun j=>(Ex.mk 5 0 x l [],j)) i n h
theorem q9b:∀d,Pos (zW ws d)
 | 0=>Pos.err
 | d+1=>fun i n h=>by
  simp only [zW] at h
  split at h
  ·cases h;exact Nat.succ_pos _
  ·split at h
   ·cases h
   ·split at h
    ·exact (x6s (q9b d)).bind (fun e=>(cR _).bind fun _=>Pos.ok fun j=>(e,j)) (i+1) n h
    ·split at h
     ·cases h
     ·split at h
      ·cases h
      ·exact (wJ _).bind (fun x=>Pos.ok fun j=>(Ex.mk 2 0 x [] [],j)) i n h
theorem y4c:∀f,Pos (kX ws f)
 | 0=>Pos.err
 | f+1=>Pos.ite (p:=fun i=>qL (zD ws i)=true) ((wJ _).bind fun s=>(y4c f).bind fun l=>Pos.ok fun i=>(s::l,i)) (Pos.ok fun i=>([],i))
theorem q8e:∀f,Pos (sD ws f)
 | 0=>Pos.err
 | f+1=>(wJ _).bind fun n=>(y4c _).bind fun l=>Pos.ite (p:=fun i=>zD ws i≠sBar) (Pos.ok fun i=>([(⟨n,l⟩:Con)],i)) ((q8e f).bind (fun cs=>Pos.ok fun i=>((⟨n,l⟩:Con)::cs,i))).next
theorem x5d:Pos (gK ws):=(wJ _).bind fun n=>(cR _).bind fun _=>(q8e _).bind fun l=>Pos.ok fun i=>((⟨n,l⟩:Data),i)
theorem q2j:Pos (pO ws):=(wJ _).bind fun n=>(cR _).bind fun _=>(wJ _).bind fun t=>Pos.ok fun i=>((⟨n,t⟩:Param),i)
theorem y5s:∀f,Pos (wV ws f)
 | 0=>Pos.err
 | f+1=>Pos.ite (p:=fun i=>zD ws i=oR) ((q2j).bind (fun p=>(cR _).bind fun _=>(y5s f).bind fun l=>Pos.ok fun i=>(p::l,i))).next (Pos.ok fun i=>([],i))
theorem fun_pos:Pos (sG ws):=(wJ _).bind fun n=>(y5s _).bind fun ps=>(cR _).bind fun _=>(wJ _).bind fun r=>(cR _).bind fun _=>(q9b _).bind fun b=>Pos.ok fun i=>((⟨n,ps,r,b⟩:Fun),i)
theorem uF:∀f c i n,jK ws f c i=.error n->0 < n
 | 0,_,_,_,h=>by cases h;exact Nat.succ_pos _
 | f+1,c,i,n,h=>by
  simp only [jK] at h
  split at h
  ·split at h
   ·split at h
    ·exact uF f _ _ n h
    ·rename_i a;cases h;exact x5d _ _ a
   ·split at h
    ·split at h
     ·exact uF f _ _ n h
     ·rename_i a;cases h;exact q2j _ _ a
    ·split at h
     ·split at h
      ·exact uF f _ _ n h
      ·rename_i a;cases h;exact fun_pos _ _ a
     ·split at h
      ·split at h
       ·exact uF f _ _ n h
       ·rename_i a;cases h;exact wJ _ _ _ a
      ·cases h;exact Nat.succ_pos _
  ·cases h
end
theorem x8k {t:Bs} {n:Nat} (h:z1k t=.error n):0 < n:=uF _ _ _ _ h
def dX (t:Bs):Except (Nat×Int) Core:=if 60000 < t.size then .error (0,2) else match z1k t with
 | .error n=>.error (n,5)
 | .ok c=>if yR c=0 then .ok c else .error (0,yR c)
theorem j5e {t:Bs} (h:60000 < t.size):dX t=.error (0,2):=if_pos h
theorem j5g {t:Bs} {n:Nat} (h:¬60000 < t.size) (a:z1k t=.error n):dX t=.error (n,5):=by unfold dX;rw [if_neg h,a]
theorem j0u {t:Bs} {c:Core} (h:¬60000 < t.size) (a:z1k t=.ok c) (b:¬yR c=0):dX t=.error (0,yR c):=by unfold dX;rw [if_neg h,a];exact if_neg b
theorem y5t {t:Bs} {c:Core} (h:¬60000 < t.size) (a:z1k t=.ok c) (b:yR c=0):dX t=.ok c:=by unfold dX;rw [if_neg h,a];exact if_pos b
def mH (fuel:Int):Int:=if 4000 < fuel/\fuel<=200000 then fuel.tmod 4000 else fuel
mutual
def tF:Val->Val->Bool
 | .mk c n l,v=>decide (c=v.con)&&decide (n=v.num)&&decide (l.length=v.args.length)&&sameVs l v.args
def sameVs:List Val->List Val->Bool
 | [],_=>true
 | _::_,[]=>true
 | x::xs,y::ys=>tF x y&&sameVs xs ys
end
theorem x9d (v u:Val):tF v u=(decide (v.con=u.con)&&decide (v.num=u.num)&&decide (v.args.length=u.args.length)&&sameVs v.args u.args):=by
 cases v;cases u;simp only [tF,Val.con,Val.num,Val.args];rfl
theorem y1i (x y:Val) (xs ys:List Val):sameVs (x::xs) (y::ys)=(tF x y&&sameVs xs ys):=by simp only [sameVs]
theorem j6f (ys:List Val):sameVs [] ys=true:=by simp only [sameVs]
def z5p:List Named->List Named->Bool
 | [],_=>true
 | _::_,[]=>true
 | x::xs,y::ys=>(decide (x.name=y.name)&&tF x.value y.value)&&z5p xs ys
theorem z2y (x y:Named) (xs ys:List Named):z5p (x::xs) (y::ys)=((decide (x.name=y.name)&&tF x.value y.value)&&z5p xs ys):=rfl
theorem j6d (ys:List Named):z5p [] ys=true:=rfl
def j9b (v u:Outcome):Bool:=(decide (v.steps=u.steps)&&decide (v.outputs.length=u.outputs.length))&&z5p v.outputs u.outputs
def dW (fs:List Fun) (ds:List Bs):List Bs:=(fs.filter fun f=>has ds f.name).map Fun.name
theorem z9o {f:Fun} {fs:List Fun} {ds:List Bs} (h:has ds f.name=true):dW (f::fs) ds=f.name::dW fs ds:=by simp [dW,h]
theorem j0k {f:Fun} {fs:List Fun} {ds:List Bs} (h:has ds f.name=false):dW (f::fs) ds=dW fs ds:=by simp [dW,h]
theorem q2g {ds:List Bs}:dW [] ds=[]:=rfl
theorem x8c {V:Fz} {K:List Res} {w:World} {t:Bs} (G:Glob V) (n:AscB t) (N:Mem V K w) :
  Calls prog 25 #[.string t] w (fun ee w'=>Out (dX t)
   (fun C=>∃y:Fz×Value×Value×Value×Value,ee=.returned (.tuple #[.agg #[y.2.1,y.2.2.1,y.2.2.2.1,y.2.2.2.2],.int .i64 ((0:Nat):Int),.int .i64 ((0:Nat):Int)])/\(V.Le y.1/\SliceOf RData y.1 2 y.2.1 C.datas/\SliceOf RParam y.1 2 y.2.2.1 C.inputs/\SliceOf RFun y.1 8 y.2.2.2.1 C.funs)/\Mem y.1 (.gs y.2.2.2.2 9 1 (strs C.outputs)::K) w')
   (fun c=>ee=.returned (.tuple #[.agg #[.slice none 0 0,.slice none 0 0,.slice none 0 0,.slice none 0 0],.int .i64 ((c.1:Nat):Int),.int .i64 c.2])/\Mem V K w')):=by
 refine zK func25 ntmps25 fun Q hQ a J=>?_
 refine Alc fun T w N a J=>?_
 by_cases r:60000 < t.size
 refine zX fun a J=>?_
 refine Sto 0 fun w N a J=>?_
 refine go fun a J=>?_
 have d:=N
 replace N:=N.dl [0]
 refine hQ _ _ _ (nG (i:=0) (cs:=[.slice none 0 0,.slice none 0 0,.slice none 0 0,.slice none 0 0]) J d.toSees results25 rfl rfl isAgg27 sizeOf27 rfl rfl rfl ?_)
 show Out (dX t) _ _
 rw [j5e r]
 exact ⟨rfl,N⟩
 refine go fun a J=>?_
 refine st J rfl rfl rfl (jQ J rfl call74 (read_ok G (by omega) n N) (fun g S w b m N a J=>?_) (fun g w b N a J=>?_))
 obtain ⟨A,U,W,X,Y⟩:=S
 obtain ⟨e,s,u,v⟩:=m
 simp only at e s u v N J
 replace G:=G.mono e
 replace N:=N.nf
 obtain ⟨B,H,rfl,_,_⟩:=s.fm
 obtain ⟨D,I,rfl,_,_⟩:=u.fm
 obtain ⟨E,L,rfl,_,_⟩:=v.fm
 obtain ⟨F,m3,M,p,_,_⟩:=N.toSees.gsForm (i:=0) rfl
 subst p
 replace N:=N.nf
 refine Alc fun P w N a J=>?_
 refine Sto 0 fun w N a J=>?_
 refine Qq (fun a J=>?_) (o:=by exact fun J O=>q3e false J rfl rfl rfl)
 refine go fun a J=>?_
 have h:=N
 clear N
 obtain ⟨Ψ2,f,N,k,j⟩:=h.freezeRowT (i:=1) rfl
 clear h
 replace G:=G.mono f
 replace N:=N.nf
 have q:RCore Ψ2 [.slice B (g.datas).length H,.slice D (g.inputs).length I,.slice E (g.funs).length L,.slice F m3 M] g:=⟨_,_,_,_,rfl,s.mono RData.mono f,u.mono RParam.mono f,v.mono RFun.mono f,SliceOf.strs.2 k⟩
 refine zO call36 (fun w N a J=>?_) (c:=q8c q G N)
 refine go fun a J=>?_
 replace N:=j _ _ N
 replace N:=N.nf
 by_cases l:yR g=0
 refine Sto 2 fun w N a J=>?_
 refine go fun a J=>?_
 have d:=N
 replace N:=N.dl [2,1]
 refine hQ _ _ _ (nG (i:=2) (cs:=[.slice B (g.datas).length H,.slice D (g.inputs).length I,.slice E (g.funs).length L,.slice F m3 M]) J d.toSees results25 rfl rfl isAgg27 sizeOf27 rfl rfl rfl ?_)
 show Out (dX t) _ _
 rw [y5t r b l]
 exact ⟨(A,_,_,_,_),rfl,⟨e,s,u,v⟩,N⟩
 refine zX fun a J=>?_
 refine Sto 2 fun w N a J=>?_
 refine go fun a J=>?_
 have d:=N
 replace N:=N.dl [2,1,0]
 refine hQ _ _ _ (nG (i:=2) (cs:=[.slice none 0 0,.slice none 0 0,.slice none 0 0,.slice none 0 0]) J d.toSees results25 rfl rfl isAgg27 sizeOf27 rfl rfl rfl ?_)
 show Out (dX t) _ _
 rw [j0u r b l]
 exact ⟨rfl,N.le (e)⟩
 replace N:=N.nf
 have z:=x8k b
 refine Alc fun R w N a J=>?_
 refine Sto 0 fun w N a J=>?_
 refine zX fun a J=>?_
 refine Sto 1 fun w N a J=>?_
 refine go fun a J=>?_
 have d:=N
 replace N:=N.dl [1,0]
 refine hQ _ _ _ (nG (i:=1) (cs:=[.slice none 0 0,.slice none 0 0,.slice none 0 0,.slice none 0 0]) J d.toSees results25 rfl rfl isAgg27 sizeOf27 rfl rfl rfl ?_)
 show Out (dX t) _ _
 rw [j5g r b]
 exact ⟨rfl,N⟩
section
variable {V:Fz} {K:List Res} {w:World}
theorem cP {fuel:Int}  (N:Mem V K w) :
  Calls prog 16 #[.int .i64 fuel] w (fun ee w'=>ee=.returned (.int .i64 (mH fuel))/\Mem V K w'):=by
 refine zK func16 ntmps16 fun Q hQ a J=>?_
 by_cases b:4000 < fuel
 by_cases c:fuel<=200000
 refine Qq (fun a J=>?_) (o:=by exact fun J O=>y_rem _ J rfl rfl (by decide) rfl)
 refine zF ?_
 exact vP N (by simp [mH, *])
 refine zF ?_
 exact vP N (by simp [mH, *])
 refine zF ?_
 exact vP N (by simp [mH, *])
def textB:Bs:=⟨#[100,97,116,97,32,76,105,115,116,32,61,32,78,105,108,32,124,32,67,111,110,115,32,73,110,116,32,76,105,115,116,10,105,110,112,117,116,32,120,115,32,58,32,76,105,115,116,10,102,117,110,32,115,117,109,32,40,108,32,58,32,76,105,115,116,41,32,58,32,73,110,116,32,61,32,40,99,97,115,101,32,108,32,40,78,105,108,32,45,62,32,48,41,32,40,67,111,110,115,32,104,32,116,32,45,62,32,40,43,32,104,32,40,115,117,109,32,116,41,41,41,41,10,102,117,110,32,116,111,116,97,108,32,58,32,73,110,116,32,61,32,40,115,117,109,32,33,120,115,41,10,102,117,110,32,108,101,115,115,32,40,97,32,58,32,73,110,116,41,32,40,98,32,58,32,73,110,116,41,32,58,32,73,110,116,32,61,32,40,99,97,115,101,32,40,60,32,97,32,98,41,32,40,70,97,108,115,101,32,45,62,32,48,41,32,40,84,114,117,101,32,45,62,32,49,41,41,10,111,117,116,112,117,116,32,116,111,116,97,108,10]⟩
theorem j9h (N:Mem V K w):Calls prog 57 #[] w (fun ee w'=>ee=.returned (.string textB)/\Mem V K w'):=by
 refine zK func57 ntmps57 fun Q hQ a J=>?_
 refine zF ?_
 exact ⟨rfl,N⟩
theorem z2c {d g h i:Value} {ds:List Data} {name:Bs} (b:SliceOf RData V 2 d ds) (N:Mem V K w) :
  Calls prog 58 #[.agg #[d,g,h,i],.string name] w (fun ee w'=>ee=.returned (.bool (jM ds name))/\Mem V K w'):=by
 obtain ⟨k,l,rfl,e,f⟩:=b.fm
 refine zK func58 ntmps58 fun Q hQ a J=>?_
 refine Bx fun j w N a J=>?_
 refine zO call114 (fun w N a J=>?_) (c:=z6r b N)
 refine zF ?_
 replace N:=N.dl [0]
 exact ⟨rfl,N⟩
end
end Go.Sw
namespace Go.Sw
open Go.Proofs
set_option maxRecDepth 40000
set_option maxHeartbeats 4000000
def z_l:Bs:=⟨#[108]⟩
def z1n:Bs:=⟨#[78,105,108]⟩
def z_h:Bs:=⟨#[104]⟩
def z_t:Bs:=⟨#[116]⟩
def uV:Bs:=⟨#[115,117,109]⟩
def zPlus:Bs:=⟨#[43]⟩
def sT:Bs:=⟨#[67,111,110,115]⟩
def z_xs:Bs:=⟨#[120,115]⟩
def z_a:Bs:=⟨#[97]⟩
def z_b:Bs:=⟨#[98]⟩
def j9w:Bs:=⟨#[60]⟩
def y2n:Bs:=⟨#[70,97,108,115,101]⟩
def q7g:Bs:=⟨#[84,114,117,101]⟩
def z_data:Bs:=⟨#[100,97,116,97]⟩
def tX:Bs:=⟨#[76,105,115,116]⟩
def zEq:Bs:=⟨#[61]⟩
def zBar:Bs:=⟨#[124]⟩
def cH:Bs:=⟨#[73,110,116]⟩
def z_input:Bs:=⟨#[105,110,112,117,116]⟩
def z5x:Bs:=⟨#[58]⟩
def z_fun:Bs:=⟨#[102,117,110]⟩
def y0c:Bs:=⟨#[40]⟩
def y0b:Bs:=⟨#[41]⟩
def z_case:Bs:=⟨#[99,97,115,101]⟩
def q7f:Bs:=⟨#[45,62]⟩
def z_0:Bs:=⟨#[48]⟩
def dB:Bs:=⟨#[116,111,116,97,108]⟩
def v0h:Bs:=⟨#[33,120,115]⟩
def gE:Bs:=⟨#[108,101,115,115]⟩
def z_1:Bs:=⟨#[49]⟩
def v0k:Bs:=⟨#[111,117,116,112,117,116]⟩
def saneWs:List Bs:=[z_data,tX,zEq,z1n,zBar,sT,cH,tX,z_input,z_xs,z5x,tX,z_fun,uV,y0c,z_l,z5x,tX,y0b,z5x,cH,zEq,y0c,z_case,z_l,y0c,z1n,q7f,z_0,y0b,y0c,sT,z_h,z_t,q7f,y0c,zPlus,z_h,y0c,uV,z_t,y0b,y0b,y0b,y0b,z_fun,dB,z5x,cH,zEq,y0c,uV,v0h,y0b,z_fun,gE,y0c,z_a,z5x,cH,y0b,y0c,z_b,z5x,cH,y0b,z5x,cH,zEq,y0c,z_case,y0c,j9w,z_a,z_b,y0b,y0c,y2n,q7f,z_0,y0b,y0c,q7g,q7f,z_1,y0b,y0b,v0k,dB]
def saneC:Core:=⟨[⟨tX,[⟨z1n,[]⟩,⟨sT,[cH,tX]⟩]⟩],
 [⟨z_xs,tX⟩],
 [⟨uV,[⟨z_l,tX⟩],cH,(.mk 7 0 sNo [(.mk 2 0 z_l [] [])] [(.mk z1n [] (.mk 1 0 sNo [] [])),(.mk sT [z_h,z_t] (.mk 8 0 zPlus [(.mk 2 0 z_h [] []),(.mk 5 0 uV [(.mk 2 0 z_t [] [])] [])] []))])⟩,
  ⟨dB,[],cH,(.mk 5 0 uV [(.mk 3 0 z_xs [] [])] [])⟩,
  ⟨gE,[⟨z_a,cH⟩,⟨z_b,cH⟩],cH,(.mk 7 0 sNo [(.mk 8 0 j9w [(.mk 2 0 z_a [] []),(.mk 2 0 z_b [] [])] [])] [(.mk y2n [] (.mk 1 0 sNo [] [])),(.mk q7g [] (.mk 1 1 sNo [] []))])⟩],
 [dB]⟩
def y6n:List Named:=[⟨z_xs,.mk sT 0 [.mk sNo 3 [],.mk sT 0 [.mk sNo 4 [],(.mk z1n 0 [])]]⟩]
def j1m:List Val:=[.mk sNo 2 [],.mk sNo 3 []]
def saneO:Outcome:=⟨[⟨dB,.mk sNo 7 []⟩],17⟩
theorem j6s:tV textB=saneWs:=by kernel_rfl
theorem x2s:z1k textB=.ok saneC:=by
 unfold z1k;rw [j6s];kernel_rfl
theorem z9l:yR saneC=0:=by kernel_rfl
theorem j5f:dX textB=.ok saneC:=y5t (by decide) x2s z9l
theorem x4n:AscB textB:=by
 intro j b h
 have a:textB.data.toList.all (fun b=>decide (b.toNat < 128))=true:=by kernel_rfl
 exact of_decide_eq_true (List.all_eq_true.1 a b (mgQ h))
theorem j5z:sV saneC y6n 17=(saneO,0):=by kernel_rfl
theorem j5y:sV saneC y6n 16=(tP,4):=by kernel_rfl
theorem j5i:z0s saneC=(textB,0):=by kernel_rfl
theorem q9s:jM saneC.datas tX=true:=by kernel_rfl
theorem j0m:jM saneC.datas kO=false:=by kernel_rfl
theorem x0i:jV (zE saneC) uV=[uV]:=by kernel_rfl
theorem y0n:jV (zE saneC) dB=[uV]:=by kernel_rfl
theorem j3e:jV (zE saneC) gE=[]:=by kernel_rfl
theorem j5o {x:Bs} (h:Reach (zE saneC) gE x):x=gE:=by
 induction h with
 | refl=>rfl
 | step h1 a b=>subst b;rw [j3e] at a;cases a
theorem j5k:¬xP (zE saneC) gE:=by
 rintro ⟨x,b,hr⟩
 rw [j5o b] at hr
 have a:jA (aR (zE saneC) gE)=false:=by kernel_rfl
 rw [a] at hr
 cases hr
theorem x1x:zJ (zE saneC).funs gE=some ⟨gE,[⟨z_a,cH⟩,⟨z_b,cH⟩],cH,(.mk 7 0 sNo [(.mk 8 0 j9w [(.mk 2 0 z_a [] []),(.mk 2 0 z_b [] [])] [])] [(.mk y2n [] (.mk 1 0 sNo [] [])),(.mk q7g [] (.mk 1 1 sNo [] []))])⟩:=by kernel_rfl
theorem j3y:nC (zE saneC) j1m [⟨z_a,cH⟩,⟨z_b,cH⟩]=true:=by kernel_rfl
theorem q3s:kP (xC (yM ⟨(zE saneC).funs,[]⟩) ⟨gE,[⟨z_a,cH⟩,⟨z_b,cH⟩],cH,(.mk 7 0 sNo [(.mk 8 0 j9w [(.mk 2 0 z_a [] []),(.mk 2 0 z_b [] [])] [])] [(.mk y2n [] (.mk 1 0 sNo [] [])),(.mk q7g [] (.mk 1 1 sNo [] []))])⟩ j1m) 9=.ok (.mk sNo 1 [],3):=by kernel_rfl
theorem x0g:yN saneC gE j1m 9=(.mk sNo 1 [],6,0):=by
 unfold yN
 rw [if_neg (not_not_intro z9l),if_neg (by decide),x1x]
 simp only
 rw [if_neg (by rw [j3y];decide),if_neg j5k,show (9:Int).toNat=9 from rfl,q3s]
 rfl
theorem j4s {ds:List Bs} (h:Reached (zE saneC) saneC.outputs ds):dW saneC.funs ds=[uV,dB]:=by
 have h1:=h.starts dB (by simp [saneC])
 have c:=h.closed _ h1 uV (by rw [y0n];simp)
 have d:¬gE∈ds:=fun N=>by
  have:=h.least (fun x=>x=dB∨x=uV) (fun x b=>.inl (by simpa [saneC] using b)) (fun x b y a=>by
   rcases b with rfl | rfl
   ·rw [y0n] at a;exact .inr (by simpa using a)
   ·rw [x0i] at a;exact .inr (by simpa using a)) _ N
  rcases this with h | h <;> exact absurd h (by decide)
 show dW [_,_,_] ds=_
 rw [z9o (has_mem.2 c),z9o (has_mem.2 h1),j0k (Bool.eq_false_iff.2 fun h=>d (has_mem.1 h)),q2g]
end Go.Sw
namespace Go.Sw
open Go.Proofs Go.Proofs.Tryz
set_option maxRecDepth 20000
set_option maxHeartbeats 4000000
theorem x8g {V:Fz} {K:List Res} {w:World} {d0:List Value} {c:Core} (P:RCore V d0 c) (G:Glob V) (T_:Tabs V) (N:Mem V K w) :
  Calls prog 23 #[.agg d0.toArray] w (fun ee w'=>ee=.returned (.tuple #[.string (z0s c).1,.int .i64 (z0s c).2])/\Mem V K w'):=by
 obtain ⟨p3,c4,p9,f2,m2,g2,n2,c22,rfl,h2,h8,P0,Q0,l2,n1,H1,A0,I1,B0,J1,C0⟩:=RCore.fm P
 refine zK func23 ntmps23 fun Q hQ a J=>?_
 refine Bx fun c2 w N a J=>?_
 refine zO call36 (fun w N a J=>?_) (c:=q8c P G N)
 by_cases B:yR c=0
 refine Alc fun e w N a J=>?_
 refine go fun a J=>?_
 replace N:=N.nilRow 5 1
 replace N:=N.nf
 have D:=pL B
 have M:=(vD B).1
 have N1:=j5j B (q0m P)
 refine go fun a J=>?_
 refine zU (J.ks [1,5,25,26]) N (fun R mm a w=>∃(i:Nat) (bp:Option Addr) (bv:Value) (acc:Bs),mm=c.datas.length - i/\R V [(27,.int .i64 ((i:Nat):Int))] [(0,.gs (bv) 5 1 (Lib.strCells acc)),(1,.blk e (ob [.pointer bp,bv] 130))] a w/\((bp=none∨bp=some ⟨e,0,none⟩)/\acc++(mE ((c.datas.drop i).map q0q)++(mE (c.inputs.map z5h)++(mE (c.funs.map y4k)++mE (c.outputs.map y9m))))=gW c)) (c.datas.length - 0) ⟨0,none,.slice none 0 0,⟨#[]⟩,rfl,⟨J.pk,N⟩,⟨.inl rfl,z8y _⟩⟩ ?_
 clear N J
 rintro mm a w ⟨i,bp,bv,acc,h,⟨J,N⟩,q⟩ Y1 x0
 replace N:=N.nf
 obtain ⟨k,q⟩:=q
 by_cases q0:i < c.datas.length
 refine go fun a J=>?_
 obtain ⟨q2,rfl,z,m,y1,F1,D1,F0⟩:=h2.el n1 q0
 obtain ⟨t2,rfl,s0⟩:=id F0
 obtain ⟨o2,i2,rfl,K1,D0⟩:=s0.fm
 refine Alc fun d2 w N a J=>?_
 refine Sto 0 fun w N a J=>?_
 refine go fun a J=>?_
 replace N:=N.nilRow 9 1
 replace N:=N.nf
 refine go fun a J=>?_
 refine zU (J.ks [1,5,7,25,26,27,32,33]) N (fun R mm a w=>∃(j:Nat) (u:Value) (ac:List Bs),mm=z.cons.length - j/\R V [(8,u),(34,.int .i64 ((j:Nat):Int))] [(0,.gs (u) 9 1 (strs ac))] a w/\(ac=(z.cons.map y0o).take j)) (z.cons.length - 0) ⟨0,.slice none 0 0,[],rfl,⟨J.pk,N⟩,rfl⟩ ?_
 clear N J
 rintro mm a w ⟨j,u,ac,h,⟨J,N⟩,C⟩ Z1 y0
 replace N:=N.nf
 by_cases t0:j < z.cons.length
 refine go fun a J=>?_
 obtain ⟨r2,rfl,p0,I,z1,G1,E1,G0⟩:=s0.el D0 t0
 obtain ⟨u2,rfl,u0⟩:=id G0
 obtain ⟨p2,c76,rfl,L1,M1⟩:=u0.fm
 refine Alc fun e2 w N a J=>?_
 refine Sto 0 fun w N a J=>?_
 refine qF fun v80 w N a J=>?_
 refine qQ 0 wT (fun v2 w N a J=>?_) (hr:=(SliceOf.strs.1 u0).rowIn N.toSees) (h1:=aN _) (hb:=by have h_:=y3j D M (mgQ m) (mgQ I);have g0:(⟨#[32]⟩:Bs).size=1:=rfl;rw [g0] at h_;simp only [lcQ,lnQ,yG] at h_ ⊢;omega)
 refine zO call67 (fun w N a J=>?_) (c:=y5a (l:=p0.name::p0.fields) (sep:=⟨#[32]⟩) (by have h_:=y3j D M (mgQ m) (mgQ I);omega) N)
 replace N:=N.nf
 refine qF fun w2 w N a J=>?_
 refine qQ 2 wT (fun o1 w N a J=>?_) (hb:=by have h_:=z8q D M (mgQ m);have g0:(⟨#[32,124,32]⟩:Bs).size=3:=rfl;rw [g0] at h_;have r0:=congrArg List.length C;rw [List.length_take] at r0;simp only [lcQ,lnQ,yG] at r0 ⊢;omega)
 first | rw [jS] at N | rw [<- yW] at N
 refine go fun a J=>?_
 replace N:=N.dl [1,0]
 refine y0 _ _ _ (by subst h;omega) ⟨(j+1),(o1),(ac++[y0o p0]),rfl,⟨J.pk,by exact N⟩,?_⟩
 rw [C];exact (y9k I).symm
 refine Reg [1,2,1,1,1,0,1,1,0] [1,4] fun w N a J=>?_
 have E:ac=z.cons.map y0o:=by rw [C];exact q5y t0
 have f:=z6d m q
 simp only [q0q,zL,<- E] at f
 refine Qq (fun a J=>?_) (o:=by exact fun J O=>kT J rfl rfl (by (try simp only [zL]);omega))
 refine Qq (fun a J=>?_) (o:=by exact fun J O=>kT J rfl rfl (by (try simp only [zL]);omega))
 refine zO call67 (fun w N a J=>?_) (c:=y5a (l:=ac) (sep:=⟨#[32,124,32]⟩) (by have h_:=z8q D M (mgQ m);rw [<- E] at h_;omega) N)
 replace N:=N.nf
 refine Qq (fun a J=>?_) (o:=by exact fun J O=>kT J rfl rfl (by (try simp only [zL]);omega))
 refine Qq (fun a J=>?_) (o:=by exact fun J O=>kT J rfl rfl (by (try simp only [zL]);omega))
 replace N:=N.ar [] [1,2]
 refine yP call68 (fun p1 w C1 N a J=>?_) (c:=yS (t:=acc) (s:=(((((⟨#[100,97,116,97,32]⟩:Bs)++z.name)++(⟨#[32,61,32]⟩:Bs))++(nE (⟨#[32,124,32]⟩:Bs) ac))++(⟨#[10]⟩:Bs))) k (by (try simp only [zL]);omega) N)
 replace N:=N.nf
 refine go fun a J=>?_
 replace N:=N.ar [2] [2,1,2]
 refine x0 _ _ _ (by subst h;omega) ⟨(i+1),((some ⟨e,0,none⟩)),(p1),((acc++(((((⟨#[100,97,116,97,32]⟩:Bs)++z.name)++(⟨#[32,61,32]⟩:Bs))++(nE (⟨#[32,124,32]⟩:Bs) ac))++(⟨#[10]⟩:Bs)))),rfl,⟨J.pk,by exact N⟩,?_⟩
 rw [E];exact ⟨.inr rfl,z6e m q⟩
 refine go fun a J=>?_
 refine zU (J.ks [1,5,60,61]) N (fun R mm a w=>∃(i:Nat) (bp:Option Addr) (bv:Value) (acc:Bs),mm=c.inputs.length - i/\R V [(62,.int .i64 ((i:Nat):Int))] [(0,.gs (bv) 5 1 (Lib.strCells acc)),(1,.blk e (ob [.pointer bp,bv] 130))] a w/\((bp=none∨bp=some ⟨e,0,none⟩)/\acc++(mE ((c.inputs.drop i).map z5h)++(mE (c.funs.map y4k)++mE (c.outputs.map y9m)))=gW c)) (c.inputs.length - 0) ⟨0,bp,bv,acc,rfl,⟨J.pk,N⟩,⟨k,z1x q0 q⟩⟩ ?_
 clear N J
 rintro mm a w ⟨i,bp,bv,acc,h,⟨J,N⟩,r⟩ a2 z0
 replace N:=N.nf
 obtain ⟨k,r⟩:=r
 by_cases w0:i < c.inputs.length
 refine go fun a J=>?_
 obtain ⟨s2,rfl,S,c0,M0,d1,Y0,l0⟩:=h8.el A0 w0
 obtain rfl:=id l0
 refine Alc fun t1 w N a J=>?_
 refine Sto 0 fun w N a J=>?_
 refine go fun a J=>?_
 have f:=z6d c0 r
 simp only [z5h,zL] at f
 refine Qq (fun a J=>?_) (o:=by exact fun J O=>kT J rfl rfl (by (try simp only [zL]);omega))
 refine Qq (fun a J=>?_) (o:=by exact fun J O=>kT J rfl rfl (by (try simp only [zL]);omega))
 refine Qq (fun a J=>?_) (o:=by exact fun J O=>kT J rfl rfl (by (try simp only [zL]);omega))
 refine Qq (fun a J=>?_) (o:=by exact fun J O=>kT J rfl rfl (by (try simp only [zL]);omega))
 replace N:=N.ar [] [1,2]
 refine yP call68 (fun H0 w R0 N a J=>?_) (c:=yS (t:=acc) (s:=(((((⟨#[105,110,112,117,116,32]⟩:Bs)++S.name)++(⟨#[32,58,32]⟩:Bs))++S.type)++(⟨#[10]⟩:Bs))) k (by (try simp only [zL]);omega) N)
 replace N:=N.nf
 refine go fun a J=>?_
 replace N:=N.ar [2] [2,1,2]
 refine z0 _ _ _ (by subst h;omega) ⟨(i+1),((some ⟨e,0,none⟩)),(H0),((acc++(((((⟨#[105,110,112,117,116,32]⟩:Bs)++S.name)++(⟨#[32,58,32]⟩:Bs))++S.type)++(⟨#[10]⟩:Bs)))),rfl,⟨J.pk,by exact N⟩,?_⟩
 exact ⟨.inr rfl,z6e c0 r⟩
 refine go fun a J=>?_
 refine zU (J.ks [1,5,77,78]) N (fun R mm a w=>∃(i:Nat) (bp:Option Addr) (bv:Value) (acc:Bs),mm=c.funs.length - i/\R V [(79,.int .i64 ((i:Nat):Int))] [(0,.gs (bv) 5 1 (Lib.strCells acc)),(1,.blk e (ob [.pointer bp,bv] 130))] a w/\((bp=none∨bp=some ⟨e,0,none⟩)/\acc++(mE ((c.funs.drop i).map y4k)++mE (c.outputs.map y9m))=gW c)) (c.funs.length - 0) ⟨0,bp,bv,acc,rfl,⟨J.pk,N⟩,⟨k,z1x w0 r⟩⟩ ?_
 clear N J
 rintro mm a w ⟨i,bp,bv,acc,h,⟨J,N⟩,n⟩ q1 h0
 replace N:=N.nf
 obtain ⟨k,n⟩:=n
 by_cases T:i < c.funs.length
 refine go fun a J=>?_
 obtain ⟨S1,rfl,b,y,N0,e1,Z0,m0⟩:=P0.el B0 T
 obtain ⟨V1,u1,rfl,U,W⟩:=id m0
 obtain ⟨P1,c127,rfl,i1,k0⟩:=U.fm
 obtain ⟨Q1,c135,R1,x1,rfl,c1,A1,B1,j1,l1,k1,m1⟩:=REx.fm W
 refine Alc fun v1 w N a J=>?_
 refine Sto 0 fun w N a J=>?_
 refine go fun a J=>?_
 have a0:=x1h y n
 have f:=congrArg ByteArray.size a0
 simp only [zL] at f
 refine Qq (fun a J=>?_) (o:=by exact fun J O=>kT J rfl rfl (by (try simp only [zL]);omega))
 replace N:=N.ar [] [1,2]
 refine yP call68 (fun I0 w S0 N a J=>?_) (c:=yS (t:=acc) (s:=((⟨#[102,117,110,32]⟩:Bs)++b.name)) k (by (try simp only [zL]);omega) N)
 replace N:=N.nf
 refine go fun a J=>?_
 refine zU (J.ks [1,5,14,77,78,79,88,89]) N (fun R mm a w=>∃(j:Nat) (e0:Value) (d:Bs),mm=b.params.length - j/\R V [(90,.int .i64 ((j:Nat):Int))] [(0,.blk e (ob [.pointer (some ⟨e,0,none⟩),e0] 130)),(1,.gs (e0) 5 1 (Lib.strCells d))] a w/\(d++(mE ((b.params.drop j).map z5o)++((((⟨#[32,58,32]⟩:Bs)++b.result)++⟨#[32,61,32]⟩)++((wB b.body++⟨#[10]⟩)++(mE ((c.funs.drop (i+1)).map y4k)++mE (c.outputs.map y9m)))))=gW c)) (b.params.length - 0) ⟨0,I0,(acc++((⟨#[102,117,110,32]⟩:Bs)++b.name)),rfl,⟨J.pk,N⟩,a0⟩ ?_
 clear N J
 rintro mm a w ⟨j,e0,d,h,⟨J,N⟩,v⟩ r1 i0
 replace N:=N.nf
 by_cases X:j < b.params.length
 refine go fun a J=>?_
 obtain ⟨T1,rfl,A,F,O0,f1,a1,n0⟩:=U.el k0 X
 obtain rfl:=id n0
 refine Alc fun w1 w N a J=>?_
 refine Sto 0 fun w N a J=>?_
 refine go fun a J=>?_
 have f:=z6d F v
 simp only [z5o,zL] at f
 refine Qq (fun a J=>?_) (o:=by exact fun J O=>kT J rfl rfl (by (try simp only [zL]);omega))
 refine Qq (fun a J=>?_) (o:=by exact fun J O=>kT J rfl rfl (by (try simp only [zL]);omega))
 refine Qq (fun a J=>?_) (o:=by exact fun J O=>kT J rfl rfl (by (try simp only [zL]);omega))
 refine Qq (fun a J=>?_) (o:=by exact fun J O=>kT J rfl rfl (by (try simp only [zL]);omega))
 replace N:=N.ar [] [2,2]
 refine yP call68 (fun J0 w T0 N a J=>?_) (c:=yS (t:=d) (s:=(((((⟨#[32,40]⟩:Bs)++A.name)++(⟨#[32,58,32]⟩:Bs))++A.type)++(⟨#[41]⟩:Bs))) (.inr rfl) (by (try simp only [zL]);omega) N)
 replace N:=N.nf
 refine go fun a J=>?_
 replace N:=N.dl [2]
 refine i0 _ _ _ (by subst h;omega) ⟨(j+1),(J0),((d++(((((⟨#[32,40]⟩:Bs)++A.name)++(⟨#[32,58,32]⟩:Bs))++A.type)++(⟨#[41]⟩:Bs)))),rfl,⟨J.pk,by exact N⟩,?_⟩
 exact z6e F v
 refine go fun a J=>?_
 have b0:=z1x X v
 have E0:=congrArg ByteArray.size b0
 simp only [zL] at E0
 have O1:=xJ b.body
 refine Qq (fun a J=>?_) (o:=by exact fun J O=>kT J rfl rfl (by (try simp only [zL]);omega))
 refine Qq (fun a J=>?_) (o:=by exact fun J O=>kT J rfl rfl (by (try simp only [zL]);omega))
 replace N:=N.ar [] [1,1]
 refine yP call68 (fun W1 w U0 N a J=>?_) (c:=yS (t:=d) (s:=(((⟨#[32,58,32]⟩:Bs)++b.result)++(⟨#[32,61,32]⟩:Bs))) (.inr rfl) (by (try simp only [zL]);omega) N)
 replace N:=N.nf
 replace N:=N.ar [] [1,1]
 refine yP call69 (fun X1 w V0 N a J=>?_) (c:=v0d (t:=(d++(((⟨#[32,58,32]⟩:Bs)++b.result)++(⟨#[32,61,32]⟩:Bs)))) (j9r D (mgQ y) (q0m P _ (mgQ y))) W (.inr rfl) T_ (by (try simp only [zL]);omega) N)
 replace N:=N.nf
 replace N:=N.ar [] [1,1]
 refine yP call70 (fun K0 w W0 N a J=>?_) (c:=cY (t:=((d++(((⟨#[32,58,32]⟩:Bs)++b.result)++(⟨#[32,61,32]⟩:Bs)))++wB b.body)) (c:=10) (.inr rfl) (by (try simp only [zL]);omega) N)
 replace N:=N.nf
 refine go fun a J=>?_
 replace N:=N.ar [2] [2,1,2]
 refine h0 _ _ _ (by subst h;omega) ⟨(i+1),((some ⟨e,0,none⟩)),(K0),((((d++(((⟨#[32,58,32]⟩:Bs)++b.result)++(⟨#[32,61,32]⟩:Bs)))++wB b.body)++⟨#[10]⟩)),rfl,⟨J.pk,by exact N⟩,?_⟩
 exact ⟨.inr rfl,x6v b0⟩
 refine go fun a J=>?_
 refine zU (J.ks [5,115,116]) N (fun R mm a w=>∃(i:Nat) (bp:Option Addr) (bv:Value) (acc:Bs),mm=c.outputs.length - i/\R V [(117,.int .i64 ((i:Nat):Int))] [(0,.gs (bv) 5 1 (Lib.strCells acc)),(1,.blk e (ob [.pointer bp,bv] 130))] a w/\((bp=none∨bp=some ⟨e,0,none⟩)/\acc++(mE ((c.outputs.drop i).map y9m)++⟨#[]⟩)=gW c)) (c.outputs.length - 0) ⟨0,bp,bv,acc,rfl,⟨J.pk,N⟩,⟨k,by have h_:=z1x T n;rw [<- h_,y9z];rfl⟩⟩ ?_
 clear N J
 rintro mm a w ⟨i,bp,bv,acc,h,⟨J,N⟩,g⟩ s1 j0
 replace N:=N.nf
 obtain ⟨k,g⟩:=g
 by_cases Y:i < c.outputs.length
 refine go fun a J=>?_
 obtain ⟨U1,rfl,L,H,f0,g1,b1,o0⟩:=Q0.el C0 Y
 obtain rfl:f0=[.string L]:=o0
 refine go fun a J=>?_
 have f:=z6d H g
 simp only [y9m,zL] at f
 refine Qq (fun a J=>?_) (o:=by exact fun J O=>kT J rfl rfl (by (try simp only [zL]);omega))
 refine Qq (fun a J=>?_) (o:=by exact fun J O=>kT J rfl rfl (by (try simp only [zL]);omega))
 replace N:=N.pl 1
 refine yP call68 (fun L0 w X0 N a J=>?_) (c:=yS (t:=acc) (s:=(((⟨#[111,117,116,112,117,116,32]⟩:Bs)++L)++(⟨#[10]⟩:Bs))) k (by (try simp only [zL]);omega) N)
 replace N:=N.nf
 refine go fun a J=>?_
 replace N:=N.ar [] [2,1,2]
 refine j0 _ _ _ (by subst h;omega) ⟨(i+1),((some ⟨e,0,none⟩)),(L0),((acc++(((⟨#[111,117,116,112,117,116,32]⟩:Bs)++L)++(⟨#[10]⟩:Bs)))),rfl,⟨J.pk,by exact N⟩,?_⟩
 exact ⟨.inr rfl,z6e H g⟩
 refine go fun a J=>?_
 have p:=z1x Y g
 rw [y9z] at p
 replace N:=N.pl 1
 refine zO call71 (fun w N a J=>?_) (c:=y7x (t:=acc) N)
 by_cases Z:60000 < acc.size
 refine xG ?_
 replace N:=N.dl [2,1,0]
 exact ⟨by rw [j1a B (p▸Z)],N⟩
 replace N:=N.ar [] [1,1]
 refine zO call72 (fun w N a J=>?_) (c:=dJ (t:=acc) N)
 replace N:=N.nf
 refine xG ?_
 replace N:=N.dl [0]
 exact ⟨by rw [x2n B (p▸Z),p],N⟩
 refine xG ?_
 replace N:=N.dl [0]
 exact ⟨by rw [j1b B],N⟩
def j9n (c:Core):List Bs:=c.outputs++c.funs.flatMap fun f=>zY f.body
theorem j4o {c:Core} (h:yR c=0):c.outputs.length<=1000:=by
 obtain ⟨hl,_⟩:=vD h
 simp only [vO,Bool.or_eq_false_iff,decide_eq_false_iff_not] at hl
 omega
theorem j4n {c:Core} (h:yR c=0):c.funs.length<=1000000:=by
 obtain ⟨hl,_⟩:=vD h
 simp only [vO,Bool.or_eq_false_iff,decide_eq_false_iff_not] at hl
 omega
theorem z2n {c:Core} (h:yR c=0):(∀x,(jV (zE c) x).length<=6000)/\(∀x,∀y∈jV (zE c) x,y∈j9n c)/\(j9n c).length<=2000000:=by
 obtain ⟨hl,hr⟩:=vD h
 have e:wI c=true:=by simp only [qX,baQ] at hr;exact hr.1.1.1.1.1
 have d:c.funs.length<=300/\c.outputs.length<=6:=by
  simp only [vO,Bool.or_eq_false_iff,decide_eq_false_iff_not] at hl
  omega
 refine ⟨(z0j h).1,fun x y b=>?_,?_⟩
 ·unfold jV aR at b
  cases a:zJ (zE c).funs x with
  | none=>rw [a] at b;simp [ex0,zY,calledPs,calledPa] at b
  | some f=>
   rw [a] at b
   exact List.mem_append.2 (.inr (List.mem_flatMap.2 ⟨f,cC e a,b⟩))
 ·have:=y4f (l:=c.funs) (f:=fun f=>zY f.body) (M:=6000) (fun f a=>oS (nF hl a))
  simp only [j9n,laQ]
  have:c.funs.length * 6000<=300 * 6000:=Nat.mul_le_mul_right _ d.1
  omega
theorem y6m {V:Fz} {K:List Res} {w:World} {d0:List Value} {v:Val} {d1:List Value} {u:Val} (M:RVal V d0 v) (L:RVal V d1 u) (ih:∀x∈v.args,∀{V:Fz} {K:List Res} {w:World} {d e:List Value} {u:Val},RVal V d x->RVal V e u->Mem V K w->Calls prog 22 #[.agg d.toArray,.agg e.toArray] w (fun ee w'=>ee=.returned (.bool (tF x u))/\Mem V K w')) (N:Mem V K w) :
  Calls prog 22 #[.agg d0.toArray,.agg d1.toArray] w (fun ee w'=>ee=.returned (.bool (tF v u))/\Mem V K w'):=by
 obtain ⟨p3,c4,rfl,p0,h2,q0,H⟩:=RVal.fm M
 obtain ⟨I,F,rfl,Y,h9,e0,C⟩:=RVal.fm L
 refine zK func22 ntmps22 fun Q hQ a J=>?_
 refine Bx fun s w N a J=>?_
 refine Bx fun t w N a J=>?_
 refine goJ 2 fun a J=>?_
 refine sq fun E A=>?_
 have b:∀a w,(∃(o:Bool),EnvR 50 [(2,.pointer (some ⟨s,0,none⟩)),(3,.pointer (some ⟨t,0,none⟩)),(5,.bool o)] [] a/\Mem V (.blk t (ob [.string u.con,.int .i64 (u.num),.slice I u.args.length F] 42)::.blk s (ob [.string v.con,.int .i64 (v.num),.slice p3 v.args.length c4] 42)::K) w/\(o=(decide (v.con=u.con)&&decide (v.num=u.num)&&decide (v.args.length=u.args.length))))->E a w:=by
  clear N J
  rintro a w ⟨o,J,N,g⟩
  apply A
  refine go fun a J=>?_
  refine zU (J.ks [2,3]) N (fun R mm a w=>∃(i:Nat) (o:Bool),mm=v.args.length - i/\R V [(5,.bool o),(6,.int .i64 ((i:Nat):Int))] [] a w/\(tF v u=(o&&sameVs (v.args.drop i) (u.args.drop i))/\(o=true->v.args.length=u.args.length))) (v.args.length - 0) ⟨0,o,rfl,⟨J.pk,N⟩,⟨by rw [g];exact x9d v u,fun h=>by rw [g] at h;simp only [baQ,decide_eq_true_eq] at h;exact h.2⟩⟩ ?_
  clear N J
  rintro mm a w ⟨i,o,G,⟨J,N⟩,z⟩ j0 B
  obtain ⟨q,j⟩:=z
  by_cases n:i < v.args.length
  refine go fun a J=>?_
  cases o
  refine zF ?_
  replace N:=N.dl [1,0]
  exact zM N (by rw [q,Bool.false_and])
  refine Reg [1,2,1,1,2,1,2,1,1,2,0,1] [0,1] fun w N a J=>?_
  have r:i < u.args.length:=by rw [<- j rfl];exact n
  refine go fun a J=>?_
  obtain ⟨w0,rfl,P,m,T,b0,W,k⟩:=h2.el H n
  obtain ⟨t0,c40,rfl,Z,m0,f0,h0⟩:=RVal.fm k
  refine go fun a J=>?_
  obtain ⟨x0,rfl,S,D,U,c0,X,l⟩:=h9.el C r
  obtain ⟨u0,k0,rfl,a0,n0,g0,i0⟩:=RVal.fm l
  refine zO call22 (fun w N a J=>?_) (c:=ih _ (mgQ m) k l N)
  refine go fun a J=>?_
  refine B _ _ _ (by subst G;omega) ⟨(i+1),((tF P S)),rfl,⟨J.pk,N⟩,?_⟩
  exact ⟨by rw [q,zA m,zA D,y1i,Bool.true_and],fun _=>j rfl⟩
  refine zF ?_
  replace N:=N.dl [1,0]
  exact zM N (by rw [q,zB n,j6f,Bool.and_true])
 by_cases f:v.con=u.con
 by_cases p:v.num=u.num
 by_cases y:v.args.length=u.args.length
 refine go fun a J=>?_
 exact b _ _ ⟨true,J.pk,N,by simp [f,p,y]⟩
 refine go fun a J=>?_
 exact b _ _ ⟨false,J.pk,N,by simp [f,p,y]⟩
 refine go fun a J=>?_
 exact b _ _ ⟨false,J.pk,N,by simp [f,p]⟩
 refine go fun a J=>?_
 exact b _ _ ⟨false,J.pk,N,by simp [f]⟩
theorem z7m:∀{v u:Val} {V:Fz} {K:List Res} {w:World} {d e:List Value},RVal V d v->RVal V e u->Mem V K w->Calls prog 22 #[.agg d.toArray,.agg e.toArray] w (fun ee w'=>ee=.returned (.bool (tF v u))/\Mem V K w'):=by
 intro v
 induction f:SizeOf.sizeOf v using Nat.strongRecOn generalizing v with
 | ind n j=>
  intro u V K w d e h g N
  subst f
  exact y6m h g (fun x i {V K w d e u} h1 a b=>j (SizeOf.sizeOf x) (by cases v with | mk c n l=>have:=List.sizeOf_lt_of_mem (show x∈l from i);simp only [Val.mk.sizeOf_spec];omega) rfl h1 a b) N
theorem y6l {V:Fz} {K:List Res} {w:World} {d0:List Value} {v:Outcome} {d1:List Value} {u:Outcome} (i0:ROutcome V d0 v) (h0:ROutcome V d1 u) (N:Mem V K w) :
  Calls prog 19 #[.agg d0.toArray,.agg d1.toArray] w (fun ee w'=>ee=.returned (.bool (j9b v u))/\Mem V K w'):=by
 obtain ⟨s1,rfl,Z⟩:=id i0
 obtain ⟨p3,c4,rfl,R0,e0⟩:=Z.fm
 obtain ⟨s7,rfl,h8⟩:=id h0
 obtain ⟨p9,X,rfl,y0,I⟩:=h8.fm
 refine zK func19 ntmps19 fun Q hQ a J=>?_
 refine Bx fun t w N a J=>?_
 refine Bx fun y w N a J=>?_
 refine goJ 2 fun a J=>?_
 refine sq fun W E=>?_
 have b:∀a w,(∃(o:Bool),EnvR 60 [(2,.pointer (some ⟨t,0,none⟩)),(3,.pointer (some ⟨y,0,none⟩)),(5,.bool o)] [] a/\Mem V (.blk y (ob [.slice p9 u.outputs.length X,.int .i64 (u.steps)] 30)::.blk t (ob [.slice p3 v.outputs.length c4,.int .i64 (v.steps)] 30)::K) w/\(o=(decide (v.steps=u.steps)&&decide (v.outputs.length=u.outputs.length))))->W a w:=by
  clear N J
  rintro a w ⟨o,J,N,n⟩
  apply E
  refine go fun a J=>?_
  refine zU (J.ks [2,3]) N (fun R mm a w=>∃(i:Nat) (o:Bool),mm=v.outputs.length - i/\R V [(5,.bool o),(6,.int .i64 ((i:Nat):Int))] [] a w/\(j9b v u=(o&&z5p (v.outputs.drop i) (u.outputs.drop i))/\(o=true->v.outputs.length=u.outputs.length))) (v.outputs.length - 0) ⟨0,o,rfl,⟨J.pk,N⟩,⟨by rw [n];rfl,fun h=>by rw [n] at h;simp only [baQ,decide_eq_true_eq] at h;exact h.2⟩⟩ ?_
  clear N J
  rintro mm a w ⟨i,o,H,⟨J,N⟩,D⟩ H0 p
  obtain ⟨m,d⟩:=D
  by_cases l:i < v.outputs.length
  refine go fun a J=>?_
  cases o
  refine zF ?_
  replace N:=N.dl [1,0]
  exact zM N (by rw [m,Bool.false_and])
  refine Reg [1,2,1,1,1,2,1,2,1,1,1,2,1,1,1,2,1,1,1,2,1,2,1,1,1,2,0,1,1] [0,1] fun w N a J=>?_
  have e:i < u.outputs.length:=by rw [<- d rfl];exact l
  refine go fun a J=>?_
  obtain ⟨W0,rfl,T,f,j0,t0,n0,L⟩:=Z.el e0 l
  obtain ⟨I0,rfl,a0⟩:=id L
  obtain ⟨T0,c40,rfl,p0,N0,z0,D0⟩:=RVal.fm a0
  refine go fun a J=>?_
  obtain ⟨X0,rfl,U,g,k0,u0,o0,M⟩:=h8.el I e
  obtain ⟨J0,rfl,b0⟩:=id M
  obtain ⟨U0,M0,rfl,q0,O0,A0,E0⟩:=RVal.fm b0
  by_cases z:T.name=U.name
  refine go fun a J=>?_
  obtain ⟨j,q⟩:=qR l
  obtain ⟨l0,w0,F,P⟩:=Z.elem q
  obtain ⟨K0,rfl,A⟩:=id P
  obtain ⟨f0,c72,rfl,r0,P0,B0,F0⟩:=RVal.fm A
  refine Qq (fun a J=>?_) (o:=by exact fun J O=>jF 1 (vs:=[.string j.value.con,.int .i64 (j.value.num),.slice f0 j.value.args.length c72]) J O rfl F isAgg42 sizeOf42 rfl rfl)
  refine go fun a J=>?_
  obtain ⟨k,r⟩:=qR e
  obtain ⟨m0,x0,G,S⟩:=h8.elem r
  obtain ⟨L0,rfl,B⟩:=id S
  obtain ⟨g0,Y,rfl,s0,Q0,C0,G0⟩:=RVal.fm B
  refine Qq (fun a J=>?_) (o:=by exact fun J O=>jF 1 (vs:=[.string k.value.con,.int .i64 (k.value.num),.slice g0 k.value.args.length Y]) J O rfl G isAgg42 sizeOf42 rfl rfl)
  refine zO call22 (fun w N a J=>?_) (c:=z7m A B N)
  refine go fun a J=>?_
  refine p _ _ _ (by subst H;omega) ⟨(i+1),((tF j.value k.value)),rfl,⟨J.pk,N⟩,?_⟩
  exact ⟨by rw [show j=T from Option.some.inj (q.symm.trans f),show k=U from Option.some.inj (r.symm.trans g)];rw [m,zA f,zA g,z2y,Bool.true_and];simp [z],fun _=>d rfl⟩
  refine go fun a J=>?_
  refine p _ _ _ (by subst H;omega) ⟨(i+1),(false),rfl,⟨J.pk,N⟩,?_⟩
  exact ⟨by rw [m,zA f,zA g,z2y,Bool.true_and];simp [z],fun _=>d rfl⟩
  refine zF ?_
  replace N:=N.dl [1,0]
  exact zM N (by rw [m,zB l,j6d,Bool.and_true])
 by_cases s:v.steps=u.steps
 by_cases C:v.outputs.length=u.outputs.length
 refine go fun a J=>?_
 exact b _ _ ⟨true,J.pk,N,by simp [s,C]⟩
 refine go fun a J=>?_
 exact b _ _ ⟨false,J.pk,N,by simp [s,C]⟩
 refine go fun a J=>?_
 exact b _ _ ⟨false,J.pk,N,by simp [s]⟩
theorem x7t {V:Fz} {K:List Res} {w:World} {p:Addr} {T:Table} {mb:Nat} {ds:List Bs} (rT:RTableW V p T) (hl:T.core.funs.length<=1000000) (N:Mem V (.mp mb (jO ds)::K) w) :
  Calls prog 92 #[.pointer (some p),.map (some mb)] w (fun ee w'=>∃y:Value,ee=.returned y/\True/\Mem V (.gs y 9 1 (strs (dW T.core.funs ds))::K) w'):=by
 obtain ⟨z1,z2,z3,z4,m5,m6,m7,m8,d9,t,d,P,S⟩:=rT.ex
 obtain ⟨e0,Z,rfl,v,m⟩:=d.fm
 refine zK func92 ntmps92 fun Q hQ a J=>?_
 refine go fun a J=>?_
 replace N:=N.nilRow 9 1
 replace N:=N.nf
 refine zU (J.ks [1,12,13]) N (fun R mm a w=>∃(i:Nat) (u:Value) (ns:List Bs),mm=T.core.funs.length - i/\R V [(5,u),(14,.int .i64 ((i:Nat):Int))] [(0,.gs (u) 9 1 (strs ns))] a w/\(dW T.core.funs ds=ns++dW (T.core.funs.drop i) ds/\ns.length<=i)) (T.core.funs.length - 0) ⟨0,.slice none 0 0,[],rfl,⟨J.pk,N⟩,⟨rfl,Nat.zero_le _⟩⟩ ?_
 clear N J
 rintro mm a w ⟨i,u,ns,l,⟨J,N⟩,k⟩ W f
 replace N:=N.nf
 obtain ⟨h,M⟩:=k
 by_cases j:i < T.core.funs.length
 refine go fun a J=>?_
 obtain ⟨i0,rfl,e,g,A,D,B,n⟩:=d.el m j
 obtain ⟨j0,X,rfl,r,s⟩:=id n
 obtain ⟨f0,a0,rfl,E,H⟩:=r.fm
 obtain ⟨g0,b0,h0,c53,rfl,C,c0,d0,F,I,G,L⟩:=REx.fm s
 refine Alc fun Y w N a J=>?_
 refine Sto 0 fun w N a J=>?_
 refine go fun a J=>?_
 rcases c:yY ((jO ds)) e.name with _ | U
 have b:=congrArg (zN false (.bool false)) c
 refine Qq (fun a J=>?_) (o:=by exact fun J O=>Ok.cast (qP 2 runUnderlying121 runUnderlying9 zeroValue4 J O rfl rfl rfl) (show zN false (.bool false) (yY ((jO ds)) e.name)=.bool false from b))
 refine go fun a J=>?_
 replace N:=N.dl [0]
 refine f _ _ _ (by subst l;omega) ⟨(i+1),(u),(ns),rfl,⟨J.pk,N⟩,?_⟩
 exact ⟨by rw [h,zA g,j0k (z7n c)],by omega⟩
 obtain ⟨rfl,q⟩:=z7o c
 have b:=congrArg (zN false (.bool false)) c
 refine Qq (fun a J=>?_) (o:=by exact fun J O=>Ok.cast (qP 2 runUnderlying121 runUnderlying9 zeroValue4 J O rfl rfl rfl) (show zN false (.bool false) (yY ((jO ds)) e.name)=.bool true from b))
 refine qF fun k0 w N a J=>?_
 refine qQ 2 wT (fun z w N a J=>?_)
 refine go fun a J=>?_
 first | rw [jS] at N | rw [<- yW] at N
 replace N:=N.dl [1,0]
 refine f _ _ _ (by subst l;omega) ⟨(i+1),(z),(ns++[e.name]),rfl,⟨J.pk,N⟩,?_⟩
 exact ⟨by rw [h,zA g,z9o q,List.append_assoc];rfl,by simp only [laQ,lcQ,lnQ];omega⟩
 refine zF ?_
 replace N:=N.dl [1]
 rw [h,zB j,q2g,List.append_nil];exact ⟨_,rfl,trivial,N⟩
theorem y9o {V:Fz} {K:List Res} {w:World} {d0:List Value} {c:Core} {v:Value} (t:RCoreX V d0 c v) (f:yR c=0) (F:c.outputs≠[]) (G:Glob V) (N:Mem V (.gs v 9 1 (strs c.outputs)::K) w) :
  Calls prog 37 #[.agg d0.toArray] w (fun ee w'=>∃y:Fz×Value×List Bs,ee=.returned (.tuple #[y.2.1,.int .i64 ((0:Nat):Int)])/\(V.Le y.1/\Reached (zE c) c.outputs y.2.2)/\Mem y.1 (.gs y.2.1 9 1 (strs (dW c.funs y.2.2))::K) w'):=by
 obtain ⟨s1,s2,s3,q4,m,rfl,rfl,h6,h7,h8⟩:=id t
 obtain ⟨p9,B,rfl,Y,b0⟩:=h6.fm
 obtain ⟨I,C,rfl,Z,c0⟩:=h7.fm
 obtain ⟨L,D,rfl,a0,e0⟩:=h8.fm
 refine zK func37 ntmps37 fun Q hQ a J=>?_
 refine Bx fun A w N a J=>?_
 replace N:=N.pl 1
 refine yP call43 (fun M w p N a J=>?_) (c:=j0f (R:=[.gs (.slice q4 c.outputs.length m) 9 1 (strs c.outputs)]) (K:=.blk A (ob [.slice p9 c.datas.length B,.slice I c.inputs.length C,.slice L c.funs.length D,.slice q4 c.outputs.length m] 27)::K) t Thaw.own G N)
 obtain ⟨u,l0⟩:=M
 obtain ⟨e,h⟩:=p
 simp only at e h N J
 rw [if_pos f,f] at J
 obtain ⟨j,r⟩:=h f
 replace G:=G.mono e
 replace N:=N.nf
 refine Qq (fun a J=>?_) (o:=by exact fun J O=>sS false J rfl rfl rfl)
 refine go fun a J=>?_
 have k:=N
 clear N
 obtain ⟨W,E,z,H,s,N⟩:=y4n (l:=c.outputs) (i:=0) k rfl F
 clear k
 have d:=N
 have b:=J
 clear N J
 rw [H] at b d
 have N:=d
 have J:=b
 clear d b
 replace N:=N.nf
 refine yP call62 (fun P w q N a J=>?_) (c:=j1d (U:=j9n c) (j).weak s (j4o f) (fun x hx=>List.mem_append.2 (.inl hx)) (z2n f).2.2 (z2n f).1 (z2n f).2.1 N)
 obtain ⟨T,n⟩:=P
 have g:=q
 simp only at g N J
 replace N:=N.nf
 refine yP call92 (fun S w X N a J=>?_) (c:=x7t (j).weak (j4n f) N)
 replace N:=N.nf
 refine xG ?_
 replace N:=N.dl [1]
 exact ⟨(u,S,n),rfl,⟨e,g⟩,N⟩
end Go.Sw
namespace Go.Sw
open Go.Proofs.Tryz
open Go.Proofs
set_option maxRecDepth 100000
theorem z7l {V:Fz} {s:Bs} {n:Int} (h:-9223372036854775808<=n/\n<=9223372036854775807):RVal V [.string s,.int .i64 n,.slice none 0 0] (.mk s n []):=RVal.iff.2 ⟨_,rfl,h,SliceOf.nil 3⟩
theorem j9a {V:Fz} {s:Bs} {n:Int} {v:Value} {l:List Val} (h:-9223372036854775808<=n/\n<=9223372036854775807) (hl:SliceOf RVal V 3 v l):RVal V [.string s,.int .i64 n,v] (.mk s n l):=RVal.iff.2 ⟨v,rfl,h,hl⟩
theorem y7f {V:Fz} {a c2:List Value} {x y:Val} (h1:RVal V a x) (c:a.length=3) (b:RVal V c2 y) (d:c2.length=3):Chunks (RVal V) 3 (a++(c2++[])) [x,y] :=
 ⟨a,_,rfl,c,h1,c2,_,rfl,d,b,rfl⟩
theorem x2h {V:Fz} {c:List Value} {s:Bs} {x:Val} (h:RVal V c x) (l:c.length=3):Chunks (RNamed V) 4 ((.string s::c)++[]) [⟨s,x⟩] :=
 ⟨.string s::c,_,rfl,by simp [l],⟨c,rfl,h⟩,rfl⟩
section
variable {V:Fz} {K:List Res} {w:World} {d0:List Value} {va v:Value}
theorem x2k (G:Glob V) (N:Mem V K w) :
  Calls prog 25 #[.string textB] w (fun ee w'=>∃y:Fz×List Value×Value,ee=.returned (.tuple #[.agg y.2.1.toArray,.int .i64 ((0:Nat):Int),.int .i64 ((0:Nat):Int)])/\(V.Le y.1/\RCoreX y.1 y.2.1 saneC y.2.2)/\Mem y.1 (.gs y.2.2 9 1 (strs saneC.outputs)::K) w'):=by
 have h1:=x8c G x4n N
 rw [j5f] at h1
 refine h1.mono fun ee w' h=>?_
 obtain ⟨⟨Ψ,v0,b,v2,v3⟩,h1,⟨d,e,f,g⟩,a⟩:=h
 obtain ⟨p,m,c,rfl,hl,_⟩:=a.toSees.gsForm (i:=0) rfl
 have hm':m=saneC.outputs.length:=by simpa [strs] using hl.symm
 subst hm'
 exact ⟨(Ψ,[v0,b,v2,.slice p saneC.outputs.length c],.slice p saneC.outputs.length c),h1,⟨d,⟨v0,b,v2,p,c,rfl,rfl,e,f,g⟩⟩,a⟩
theorem x2y (f:RCore V d0 saneC) (rl:SliceOf RNamed V 4 va y6n) (G:Glob V) (N:Mem V K w) :
  Calls prog 15 #[.agg d0.toArray,va,.int .i64 ((17:Nat):Int)] w (fun ee w'=>∃y:Fz×Addr×Nat×Value,ee=.returned (.tuple #[.agg #[.slice (some y.2.1) 1 y.2.2.1,.int .i64 ((17:Nat):Int)],.int .i64 ((0:Nat):Int)]) /\
   (V.Le y.1/\NewRow V (.slice (some y.2.1) 1 y.2.2.1)/\At y.1 (y.2.1.add (0 * 4)) [.string dB,.string sNo,.int .i64 ((7:Nat):Int),y.2.2.2])/\Mem y.1 K w'):=by
 refine (y6h (fuel:=17) f rl G N).mono fun ee w' h=>?_
 rw [j5z] at h
 obtain ⟨⟨Ψ,d⟩,h1,⟨g,i,j⟩,k⟩:=h
 obtain ⟨s,rfl,O⟩:=i
 obtain ⟨cs,hr,l⟩:=O
 obtain ⟨o,rest,rfl,n,⟨b,rfl,hb⟩,rfl⟩:=l
 obtain ⟨s2,rfl,_,_⟩:=RVal.iff.1 hb
 rcases hr with ⟨_,J⟩ | ⟨q,m,c,rfl,hl,_,a⟩
 ·cases J
 ·have e:m=1:=by simp at hl;omega
  subst e
  exact ⟨(Ψ,q,c,s2),h1,⟨g,j _ _ rfl,a (by simp)⟩,k⟩
theorem x2x (a:RCore V d0 saneC) (rl:SliceOf RNamed V 4 va y6n) (G:Glob V) (N:Mem V K w) :
  Calls prog 15 #[.agg d0.toArray,va,.int .i64 ((16:Nat):Int)] w (fun ee w'=>∃y:Fz×Option Addr×Nat,ee=.returned (.tuple #[.agg #[.slice y.2.1 0 y.2.2,.int .i64 ((0:Nat):Int)],.int .i64 ((4:Nat):Int)])/\V.Le y.1/\Mem y.1 K w'):=by
 refine (z4e (fuel:=16) a rl G N).mono fun ee w' h=>?_
 rw [j5y] at h
 obtain ⟨⟨Ψ,d⟩,h1,⟨b,e⟩,f⟩:=h
 obtain ⟨s,rfl,O⟩:=e
 obtain ⟨p,c,rfl,_⟩:=O.form (by decide)
 exact ⟨(Ψ,p,c),h1,b,f⟩
theorem x2o (a:RCore V d0 saneC) (G:Glob V) (b:Tabs V) (N:Mem V K w) :
  Calls prog 23 #[.agg d0.toArray] w (fun ee w'=>ee=.returned (.tuple #[.string textB,.int .i64 ((0:Nat):Int)])/\Mem V K w'):=by
 refine (x8g a G b N).mono fun ee w' h=>?_
 rw [j5i] at h
 exact h
theorem x4v (a:RCore V d0 saneC) (rl:SliceOf RVal V 3 va j1m) (G:Glob V) (N:Mem V K w) :
  Calls prog 20 #[.agg d0.toArray,.string gE,va,.int .i64 ((9:Nat):Int)] w (fun ee w'=>∃y:Fz×Option Addr×Nat,ee=.returned (.tuple #[.agg #[.string sNo,.int .i64 ((1:Nat):Int),.slice y.2.1 0 y.2.2],.int .i64 ((6:Nat):Int),.int .i64 ((0:Nat):Int)])/\V.Le y.1/\Mem y.1 K w'):=by
 refine (y3b (fuel:=9) a rl (fun h=>z8f h _ _) G N).mono fun ee w' h=>?_
 rw [x0g] at h
 obtain ⟨⟨Ψ,d⟩,h1,⟨b,e⟩,f⟩:=h
 obtain ⟨s,rfl,_,O⟩:=RVal.iff.1 e
 obtain ⟨p,c,rfl,_⟩:=O.form (by decide)
 exact ⟨(Ψ,p,c),h1,b,f⟩
theorem x2q (a:RCoreX V d0 saneC v) (G:Glob V) (N:Mem V (.gs v 9 1 (strs saneC.outputs)::K) w) :
  Calls prog 37 #[.agg d0.toArray] w (fun ee w'=>∃y:Fz×Value,ee=.returned (.tuple #[y.2,.int .i64 ((0:Nat):Int)])/\V.Le y.1/\Mem y.1 (.gs y.2 9 1 (strs [uV,dB])::K) w'):=by
 refine (y9o a z9l (by simp [saneC]) G N).mono fun ee w' h=>?_
 obtain ⟨⟨Ψ,v',ds⟩,h1,⟨c,d⟩,b⟩:=h
 rw [j4s d] at b
 exact ⟨(Ψ,v'),h1,c,b⟩
theorem j4g {b d f g:Value} (a:RCoreX V [b,d,f,g] saneC v) (N:Mem V K w) :
  Calls prog 58 #[.agg #[b,d,f,g],.string tX] w (fun ee w'=>ee=.returned (.bool true)/\Mem V K w'):=by
 obtain ⟨s,t,u,q,c,_,e,h1,_,_⟩:=a
 injection e with i _
 subst i
 refine (z2c h1 N).mono fun ee w' h=>?_
 rw [q9s] at h
 exact h
theorem j4x {b d f g:Value} (a:RCoreX V [b,d,f,g] saneC v) (N:Mem V K w) :
  Calls prog 58 #[.agg #[b,d,f,g],.string kO] w (fun ee w'=>ee=.returned (.bool false)/\Mem V K w'):=by
 obtain ⟨s,t,u,q,c,_,e,h1,_,_⟩:=a
 injection e with i _
 subst i
 refine (z2c h1 N).mono fun ee w' h=>?_
 rw [j0m] at h
 exact h
end
end Go.Sw
namespace Go.Sw
open Go.Proofs Go.Proofs.Tryz
set_option maxRecDepth 20000
set_option maxHeartbeats 4000000
theorem gH {V:Fz} {K:List Res} {w:World} (G:Glob V) (p:Tabs V) (N:Mem V K w) :
  Calls prog 18 #[] w (fun ee w'=>ee=.returned (.bool true)/\Mem V K w'):=by
 refine zK func18 ntmps18 fun Q hQ a J=>?_
 refine zO call57 (fun w N a J=>?_) (c:=j9h N)
 refine yP call25 (fun y3 w i0 N a J=>?_) (c:=x2k G N)
 obtain ⟨p1,d6,v7⟩:=y3
 obtain ⟨P,l⟩:=i0
 simp only at P l N J
 replace G:=G.mono P
 replace p:=Tabs.mono p P
 obtain ⟨g1,h1,i1,f1,r0,rfl,rfl,f0,g0,h0⟩:=id l
 obtain ⟨X0,S0,rfl,s0,A0⟩:=f0.fm
 obtain ⟨Y0,c23,rfl,t0,B0⟩:=g0.fm
 obtain ⟨Z0,c27,rfl,u0,C0⟩:=h0.fm
 replace N:=N.nf
 refine Alc fun O0 w N a J=>?_
 refine Sto 0 fun w N a J=>?_
 refine zX fun a J=>?_
 refine Alc fun P0 w N a J=>?_
 refine Sto 0 fun w N a J=>?_
 refine zX fun a J=>?_
 refine zX fun a J=>?_
 refine qF fun k1 w N a J=>?_
 have f:=N
 clear N
 obtain ⟨a0,A,N,F⟩:=f.freezeRow (i:=0) rfl
 clear f
 replace G:=G.mono A
 replace p:=Tabs.mono p A
 replace l:=l.mono A
 replace N:=N.nf
 have q:SliceOf RVal a0 3 _ ([(Val.mk sNo 4 []),(Val.mk z1n 0 [])]):=⟨_,F,(show Chunks (RVal _) 3 ([.string ⟨#[]⟩,.int .i64 ((4:Nat):Int),.slice none 0 0]++([.string ⟨#[78,105,108]⟩,.int .i64 ((0:Nat):Int),.slice none 0 0]++[])) [(Val.mk sNo 4 []),(Val.mk z1n 0 [])] from y7f (z7l (by decide)) rfl (z7l (by decide)) rfl)⟩
 obtain ⟨k0,c40,z,w0,D0⟩:=q.form (by decide)
 have g:=N
 clear N
 subst z
 have N:=g
 clear g
 refine zX fun a J=>?_
 refine qF fun l1 w N a J=>?_
 have f:=N
 clear N
 obtain ⟨b0,u,N,H⟩:=f.freezeRow (i:=0) rfl
 clear f
 replace G:=G.mono u
 replace p:=Tabs.mono p u
 replace l:=l.mono u
 replace q:=q.up u
 replace N:=N.nf
 have r:SliceOf RVal b0 3 _ ([(Val.mk sNo 3 []),(Val.mk sT 0 [(Val.mk sNo 4 []),(Val.mk z1n 0 [])])]):=⟨_,H,(show Chunks (RVal _) 3 ([.string ⟨#[]⟩,.int .i64 ((3:Nat):Int),.slice none 0 0]++([.string ⟨#[67,111,110,115]⟩,.int .i64 ((0:Nat):Int),.slice k0 ([(Val.mk sNo 4 []),(Val.mk z1n 0 [])]).length c40]++[])) [(Val.mk sNo 3 []),(Val.mk sT 0 [(Val.mk sNo 4 []),(Val.mk z1n 0 [])])] from y7f (z7l (by decide)) rfl (j9a (by decide) q) rfl)⟩
 obtain ⟨l0,e0,z,x0,E0⟩:=r.form (by decide)
 have g:=N
 clear N
 subst z
 have N:=g
 clear g
 refine zX fun a J=>?_
 refine dG fun a J=>?_
 refine qF fun m1 w N a J=>?_
 have f:=N
 clear N
 obtain ⟨c0,v,N,I⟩:=f.freezeRow (i:=0) rfl
 clear f
 replace G:=G.mono v
 replace p:=Tabs.mono p v
 replace l:=l.mono v
 replace r:=r.up v
 replace N:=N.nf
 have h:SliceOf RNamed c0 4 _ (y6n):=⟨_,I,(show Chunks (RNamed _) 4 ([.string ⟨#[120,115]⟩,.string ⟨#[67,111,110,115]⟩,.int .i64 ((0:Nat):Int),.slice l0 ([(Val.mk sNo 3 []),(Val.mk sT 0 [(Val.mk sNo 4 []),(Val.mk z1n 0 [])])]).length e0]++[]) [⟨z_xs,(Val.mk sT 0 [(Val.mk sNo 3 []),(Val.mk sT 0 [(Val.mk sNo 4 []),(Val.mk z1n 0 [])])])⟩] from x2h (j9a (by decide) r) rfl)⟩
 obtain ⟨a1,c58,z,y0,F0⟩:=h.form (by decide)
 have g:=N
 clear N
 subst z
 have N:=g
 clear g
 refine go fun a J=>?_
 have j0:=l
 have G0:=G
 obtain ⟨J0,T,t,L,j⟩:=N.freezeRowD (i:=2) rfl (by simp [saneC,strs])
 have N:=t
 clear t
 replace G:=G.mono j.le
 replace p:=Tabs.mono p j.le
 replace l:=l.mono j.le
 replace h:=h.mono RNamed.mono j.le
 replace N:=N.nf
 have d:=l.full (SliceOf.strs.2 L)
 refine yP call15 (fun m0 w U N a J=>?_) (c:=x2y d h G N)
 obtain ⟨K0,b1,T0,j1⟩:=m0
 obtain ⟨m,D,e⟩:=U
 simp only at m D e N J
 have Y:=j.ne (Fz.Le.refl _) D rfl
 replace G:=G.mono m
 replace p:=Tabs.mono p m
 replace h:=h.up m
 replace d:=d.up m
 replace N:=N.nf
 refine Alc fun Q0 w N a J=>?_
 refine Sto 0 fun w N a J=>?_
 refine yP call15 (fun n0 w W N a J=>?_) (c:=x2x d h G N)
 obtain ⟨L0,c1,U0⟩:=n0
 have n:=W
 simp only at n N J
 replace G:=G.mono n
 replace p:=Tabs.mono p n
 replace d:=d.up n
 replace e:=e.mono n
 replace N:=N.nf
 refine Alc fun R0 w N a J=>?_
 refine Sto 0 fun w N a J=>?_
 refine zO call23 (fun w N a J=>?_) (c:=x2o d G p N)
 refine zX fun a J=>?_
 refine zX fun a J=>?_
 refine qF fun n1 w N a J=>?_
 have f:=N
 clear N
 obtain ⟨d0,y,N,M⟩:=f.freezeRow (i:=0) rfl
 clear f
 replace G:=G.mono y
 replace p:=Tabs.mono p y
 replace d:=d.up y
 replace e:=e.mono y
 replace N:=N.nf
 have E:SliceOf RVal d0 3 _ (j1m):=⟨_,M,(show Chunks (RVal _) 3 ([.string ⟨#[]⟩,.int .i64 ((2:Nat):Int),.slice none 0 0]++([.string ⟨#[]⟩,.int .i64 ((3:Nat):Int),.slice none 0 0]++[])) [(Val.mk sNo 2 []),(Val.mk sNo 3 [])] from y7f (z7l (by decide)) rfl (z7l (by decide)) rfl)⟩
 obtain ⟨d1,V0,z,z0,H0⟩:=E.form (by decide)
 have g:=N
 clear N
 subst z
 have N:=g
 clear g
 refine yP call20 (fun o0 w X N a J=>?_) (c:=x4v d E G N)
 obtain ⟨M0,e1,W0⟩:=o0
 have k:=X
 simp only at k N J
 replace G:=G.mono k
 replace p:=Tabs.mono p k
 replace d:=d.up k
 replace e:=e.mono k
 replace N:=N.nf
 refine Alc fun q0 w N a J=>?_
 refine Sto 0 fun w N a J=>?_
 refine go fun a J=>?_
 obtain ⟨C,t⟩:=j.back _ _ _ ((((m).trans n).trans y).trans k) N
 have N:=t
 clear t
 have B:=j0.mono C
 have GZ:=G0.mono C
 have R:=e.del (b:=T) Y
 replace N:=N.nf
 refine yP call37 (fun Z w S N a J=>?_) (c:=x2q B GZ N)
 obtain ⟨p0,I0⟩:=Z
 have s:=S
 simp only at s N J
 replace B:=B.mono s
 replace R:=R.mono s
 replace N:=N.nf
 refine Qq (fun a J=>?_) (o:=by exact fun J O=>jU true J rfl rfl rfl)
 refine Qq (fun a J=>?_) (o:=by exact fun J O=>jU true J rfl rfl rfl)
 refine Qq (fun a J=>?_) (o:=by exact fun J O=>jU true J rfl rfl rfl)
 refine Qq (fun a J=>?_) (o:=by exact fun J O=>jU true J rfl rfl rfl)
 refine Qq (fun a J=>?_) (o:=by exact fun J O=>jU true J rfl rfl rfl)
 refine Qq (fun a J=>?_) (o:=by exact fun J O=>jU true J rfl rfl rfl)
 refine Qq (fun a J=>?_) (o:=by exact fun J O=>jU true J rfl rfl rfl)
 refine Qq (fun a J=>?_) (o:=by exact fun J O=>jU true J rfl rfl rfl)
 refine Qq (fun a J=>?_) (o:=by exact fun J O=>tK 0 J rfl rfl runUnderlying28 sizeOf62 (by decide))
 refine Qq (fun a J=>?_) (o:=by exact fun J O=>jU true J rfl rfl rfl)
 refine Qq (fun a J=>?_) (o:=by exact fun J O=>jU true J rfl rfl rfl)
 refine zO call57 (fun w N a J=>?_) (c:=j9h N)
 refine Qq (fun a J=>?_) (o:=by exact fun J O=>q7c true J rfl rfl (decide_eq_true rfl))
 refine Qq (fun a J=>?_) (o:=by exact fun J O=>jU true J rfl rfl rfl)
 refine Qq (fun a J=>?_) (o:=by exact fun J O=>jU true J rfl rfl rfl)
 refine Qq (fun a J=>?_) (o:=by exact fun J O=>y7u 0 (2) J O rfl rfl (rfl) (by decide) runUnderlying25)
 refine Qq (fun a J=>?_) (o:=by exact fun J O=>jU true J rfl rfl rfl)
 refine zO call58 (fun w N a J=>?_) (c:=j4g B N)
 refine zO call58 (fun w N a J=>?_) (c:=j4x B N)
 refine zF ?_
 replace N:=N.le ((((((P).trans A).trans u).trans v).trans C).trans s)
 replace N:=N.dl [5,4,3,2,1,0]
 exact ⟨by rfl,N⟩
section
variable {P:Program} {n:Nat} {E:List (Nat×Value)} {D:List Deferred} {a:Act} {w:World} {ty:TypeId}
end
mutual
theorem z5q:∀v:Val,tF v v=true
 | .mk c n l=>by simp only [tF,Val.con,Val.num,Val.args,decide_true,Bool.true_and];exact sameVs_refl l
theorem sameVs_refl:∀l:List Val,sameVs l l=true
 | []=>by simp only [sameVs]
 | x::xs=>by rw [y1i,z5q x,sameVs_refl xs];rfl
end
theorem y1h:∀l:List Named,z5p l l=true
 | []=>rfl
 | x::xs=>by rw [z2y,z5q,y1h xs];simp
theorem j6e (o:Outcome):j9b o o=true:=by simp [j9b,y1h]
theorem nR {V:Fz} {K:List Res} {w:World} {d0 d1:List Value} {v u:Outcome} (b:ROutcome V d0 v) (a:ROutcome V d1 u) (h:v=u) (N:Mem V K w) :
  Calls Tryz.prog 19 #[.agg d0.toArray,.agg d1.toArray] w (fun ee w'=>ee=.returned (.bool true)/\Mem V K w'):=by
 subst h
 refine (y6l b a N).mono fun ee w' h=>?_
 rw [j6e] at h
 exact h
end Go.Sw
