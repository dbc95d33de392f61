import Derived.Test.YtgkhcfjooiekkaaGreatDoorX12
set_option linter.unusedVariables false
set_option linter.unusedSimpArgs false
namespace Go.Sw
open Go.Proofs.Tryz
open Go.Proofs
set_option maxRecDepth 20000
set_option maxHeartbeats 4000000
theorem j8p {V:Fz} {K:List Res} {w:World} {a:Act} {D:List Deferred} {Q:Exit->Act->World->Prop} {rs:Value} {ws:List Bs} {c0 wd rp r:Nat} (G:Glob V) (hE:uG ws 250) (rl:SliceOf RStr V 1 rs ws) (j0:ws.length<=1000000)
  (hR:∀{Ψ:Fz} {a:Act} {w:World} {C:Core} {E F H I:Value},jF ws (ws.length+1) ⟨[],[],[],[]⟩ 0=.ok C->V.Le Ψ->SliceOf RData Ψ 2 E C.datas->SliceOf RParam Ψ 2 F C.inputs->SliceOf RFun Ψ 8 H C.funs->EnvR 96 [(3,.pointer (some ⟨wd,0,none⟩)),(2,.pointer (some ⟨c0,0,none⟩))] D a->Mem Ψ (.blk c0 (ob [E,F,H,I] 27)::.blk wd (ob [.int .i64 ((0:Nat):Int)] 3)::.gs I 9 1 (strs C.outputs)::K) w->Q .ret a w)
  (hP:∀{Ψ:Fz} {a:Act} {w:World} {n:Nat} {E F H I x:Value},jF ws (ws.length+1) ⟨[],[],[],[]⟩ 0=.error n->V.Le Ψ->EnvR 96 [(3,.pointer (some ⟨wd,0,none⟩)),(2,.pointer (some ⟨c0,0,none⟩))] D a->Mem Ψ (.blk c0 (ob [E,F,H,I] 27)::.blk wd (ob [x] 3)::K) w->Q (.panic (nQ n)) a w)
  (J:EnvR 96 [(2,.pointer (some ⟨c0,0,none⟩)),(3,.pointer (some ⟨wd,0,none⟩)),(4,.pointer (some ⟨rp,0,none⟩))] D a) (N:Mem V (.blk r (ob [rs,.int .i64 ((0:Nat):Int)] 208)::.blk rp (ob [.pointer (some ⟨r,0,none⟩)] 206)::.blk c0 (ob [.slice none 0 0,.slice none 0 0,.slice none 0 0,.slice none 0 0] 27)::.blk wd (ob [.int .i64 ((0:Nat):Int)] 3)::K) w) :
  (seqR (seqR (seqR (seqR (Tryz.f74.body.getD .skip))))).wp prog Q a w:=by
 obtain ⟨pw,cw,rfl,G1,U0⟩:=rl.fm
 change (Code.seq _ _).wp _ _ _ _
 refine go fun a J=>?_
 replace N:=N.nilRow 133 2
 replace N:=N.nf
 replace N:=N.nilRow 72 2
 replace N:=N.nf
 replace N:=N.nilRow 68 8
 replace N:=N.nf
 replace N:=N.nilRow 9 1
 replace N:=N.nf
 refine zV (J.ks [2,3,4]) N (fun R mm a w=>∃(Ψ2:Fz) (j:Nat) (f:Nat) (E:Value) (F:Value) (H:Value) (I:Value) (d0:List Value) (d1:List Value) (d2:List Value) (C:Core),mm=ws.length - j/\R Ψ2 [] [(0,.gs (I) 9 1 (strs C.outputs)),(1,.gs (H) 68 8 d2),(2,.gs (F) 72 2 d1),(3,.gs (E) 133 2 d0),(4,.blk r (ob [.slice pw ws.length cw,.int .i64 ((j:Nat):Int)] 208)),(6,.blk c0 (ob [E,F,H,I] 27))] a w/\(V.Le Ψ2/\(Chunks (RData Ψ2) 2 d0 C.datas/\Chunks (RParam Ψ2) 2 d1 C.inputs/\Chunks (RFun Ψ2) 8 d2 C.funs/\(C.datas.length<=j/\C.inputs.length<=j/\C.funs.length<=j/\C.outputs.length<=j)/\j<=ws.length/\ws.length+1<=j+f/\jF ws (ws.length+1) ⟨[],[],[],[]⟩ 0=jF ws f C j))) (ws.length - 0) ⟨V,0,ws.length+1,.slice none 0 0,.slice none 0 0,.slice none 0 0,.slice none 0 0,[],[],[],⟨[],[],[],[]⟩,rfl,⟨J.pk,N⟩,⟨Fz.Le.refl _,⟨rfl,rfl,rfl,⟨Nat.le_refl _,Nat.le_refl _,Nat.le_refl _,Nat.le_refl _⟩,Nat.zero_le _,by omega,rfl⟩⟩⟩ ?_
 clear N J
 rintro mm a w ⟨Ψ2,j,f,E,F,H,I,d0,d1,d2,C,m0,⟨J,N⟩,t0⟩ L4 l0
 replace N:=N.nf
 obtain ⟨v,t0⟩:=t0
 replace rl:=rl.up v
 replace G:=G.mono v
 obtain ⟨g,d,c,i1,hj,F1,z⟩:=t0
 refine Reg [2,1,1,2,2,1,1,2,1,1] [0,1,2,3,4,5,6,7] fun w N a J=>?_
 by_cases h8:j < ws.length
 refine Sto 4 fun w N a J=>?_
 refine Reg [2,1,1,2,2,1,1,2,1,1,2] [0,1,2,3,4,5,6,7] fun w N a J=>?_
 refine Qq (fun a J=>?_) (o:=by exact fun J O=>vY ((j:Nat):Int) J rfl rfl (by rw [yD (by omega)];omega))
 obtain ⟨J1,rfl,k0,b,x0,h1,U,z0⟩:=rl.el U0 h8
 obtain rfl:x0=[.string k0]:=z0
 by_cases A:k0=(⟨#[100,97,116,97]⟩:Bs)
 refine go fun a J=>?_
 refine hH (E0:=[(3,.pointer (some ⟨wd,0,none⟩)),(2,.pointer (some ⟨c0,0,none⟩))]) [1,2,2,0,0,0,1,0] (.q 0 (.q 1 (.q 2 (.e 3 (.e 4 (.e 5 (.q 6 (.e 7 (.done))))))))) [.gs (I) 9 1 (strs C.outputs),.gs (H) 68 8 d2,.gs (F) 72 2 d1,.blk rp (ob [.pointer (some ⟨r,0,none⟩)] 206),.blk c0 (ob [E,F,H,I] 27),.blk wd (ob [.int .i64 ((0:Nat):Int)] 3)] (J.pk) N mixed (by kernel_rfl) (by simp) (by kernel_rfl) fun w N=>?_
 refine go fun a J=>?_
 replace N:=N.pl 4
 refine d_e J rfl rfl rfl (z7l J rfl call126 (x4m G (i:=(j+1)) rl j0 (by omega) N) (fun S c1 w W q0 N=>⟨fun _=>N.sn ((Fz.Le.refl _).trans (q0.1)),fun a J=>?_⟩) (fun S w W N=>fun a J=>?_))
 obtain ⟨B0,z1⟩:=c1
 obtain ⟨t,f0⟩:=q0
 simp only at t f0 N J
 have P0:=data_le W
 replace rl:=rl.up t
 replace G:=G.mono t
 replace g:=g.mono fun _ _ h=>RData.mono _ _ _ _ t h
 replace d:=d.mono fun _ _ h=>RParam.mono _ _ _ _ t h
 replace c:=c.mono fun _ _ h=>RFun.mono _ _ _ _ t h
 replace U:=U.mono t
 replace N:=N.nf
 obtain ⟨K1,rfl,M0⟩:=id f0
 obtain ⟨V0,I0,rfl,j1,p1⟩:=M0.fm
 refine qH fun M1 w N a J=>?_
 refine qP 5 rt_22 (fun Z0 w N a J=>?_) (hb:=by have h_:=g.length;rw [h_];simp only [lcQ,lnQ];omega)
 refine Sto 7 fun w N a J=>?_
 refine go fun a J=>?_
 replace N:=N.ar [0] [7,7,7,3,7,7,7,7]
 refine l0 _ _ _ (by subst m0;omega) ⟨(B0),(S.2),(f - 1),(Z0),(F),(H),(I),((d0++[.string S.1.name,.slice V0 S.1.cons.length I0])),(d1),(d2),({ C with datas:=C.datas++[S.1] }),rfl,⟨J.pk,by exact N⟩,?_⟩
 refine ⟨(v).trans t,?_⟩
 exact ⟨(g.snoc (k:=2) (x:=S.1) rfl f0),d,c,⟨by show (C.datas++[S.1]).length<=_;simp only [laQ,lcQ,lnQ];omega,by show C.inputs.length<=_;omega,by show C.funs.length<=_;omega,by show C.outputs.length<=_;omega⟩,by omega,by omega,z.trans (q9q h8 (by omega) ((jQ b).trans A) W)⟩
 replace N:=N.dl [4,3,2,1,0]
 exact hP (z.trans (q4z h8 (by omega) ((jQ b).trans A) W)) (v) (J.pk) N
 by_cases P:k0=(⟨#[105,110,112,117,116]⟩:Bs)
 refine go fun a J=>?_
 refine hH (E0:=[(3,.pointer (some ⟨wd,0,none⟩)),(2,.pointer (some ⟨c0,0,none⟩))]) [1,2,2,0,0,0,1,0] (.q 0 (.q 1 (.q 2 (.e 3 (.e 4 (.e 5 (.q 6 (.e 7 (.done))))))))) [.gs (I) 9 1 (strs C.outputs),.gs (H) 68 8 d2,.gs (E) 133 2 d0,.blk rp (ob [.pointer (some ⟨r,0,none⟩)] 206),.blk c0 (ob [E,F,H,I] 27),.blk wd (ob [.int .i64 ((0:Nat):Int)] 3)] (J.pk) N mixed (by kernel_rfl) (by simp) (by kernel_rfl) fun w N=>?_
 refine go fun a J=>?_
 replace N:=N.pl 4
 refine d_e J rfl rfl rfl (z7j J rfl call127 (q0n G (i:=(j+1)) rl j0 (by omega) N) (fun T w X N=>⟨fun _=>N.sn (Fz.Le.refl _),fun a J=>?_⟩) (fun T w X N=>fun a J=>?_))
 have G0:=q6s X
 refine qH fun N1 w N a J=>?_
 refine qP 4 z3q (fun a1 w N a J=>?_) (hb:=by have h_:=d.length;rw [h_];simp only [lcQ,lnQ];omega)
 refine Sto 7 fun w N a J=>?_
 refine go fun a J=>?_
 replace N:=N.ar [0] [7,7,7,3,7,7,7,7]
 refine l0 _ _ _ (by subst m0;omega) ⟨(Ψ2),(T.2),(f - 1),(E),(a1),(H),(I),(d0),((d1++[.string T.1.name,.string T.1.type])),(d2),({ C with inputs:=C.inputs++[T.1] }),rfl,⟨J.pk,by exact N⟩,?_⟩
 refine ⟨v,?_⟩
 exact ⟨g,(d.snoc (k:=2) (x:=T.1) rfl rfl),c,⟨by show C.datas.length<=_;omega,by show (C.inputs++[T.1]).length<=_;simp only [laQ,lcQ,lnQ];omega,by show C.funs.length<=_;omega,by show C.outputs.length<=_;omega⟩,by omega,by omega,z.trans (q5a h8 (by omega) (fun h_=>A ((jQ b).symm.trans h_)) ((jQ b).trans P) X)⟩
 replace N:=N.dl [4,3,2,1,0]
 exact hP (z.trans (q1w h8 (by omega) (fun h_=>A ((jQ b).symm.trans h_)) ((jQ b).trans P) X)) (v) (J.pk) N
 by_cases b0:k0=(⟨#[102,117,110]⟩:Bs)
 refine go fun a J=>?_
 refine hH (E0:=[(3,.pointer (some ⟨wd,0,none⟩)),(2,.pointer (some ⟨c0,0,none⟩))]) [1,2,2,0,0,0,1,0] (.q 0 (.q 1 (.q 2 (.e 3 (.e 4 (.e 5 (.q 6 (.e 7 (.done))))))))) [.gs (I) 9 1 (strs C.outputs),.gs (F) 72 2 d1,.gs (E) 133 2 d0,.blk rp (ob [.pointer (some ⟨r,0,none⟩)] 206),.blk c0 (ob [E,F,H,I] 27),.blk wd (ob [.int .i64 ((0:Nat):Int)] 3)] (J.pk) N mixed (by kernel_rfl) (by simp) (by kernel_rfl) fun w N=>?_
 refine go fun a J=>?_
 replace N:=N.pl 4
 refine d_e J rfl rfl rfl (z7l J rfl call128 (rfun_ok hE G (i:=(j+1)) rl j0 (by omega) N) (fun p e1 w Y r0 N=>⟨fun _=>N.sn ((Fz.Le.refl _).trans (r0.1)),fun a J=>?_⟩) (fun p w Y N=>fun a J=>?_))
 obtain ⟨C0,A1⟩:=e1
 obtain ⟨u,g0⟩:=r0
 simp only at u g0 N J
 have Q0:=fun_le Y
 replace rl:=rl.up u
 replace G:=G.mono u
 replace g:=g.mono fun _ _ h=>RData.mono _ _ _ _ u h
 replace d:=d.mono fun _ _ h=>RParam.mono _ _ _ _ u h
 replace c:=c.mono fun _ _ h=>RFun.mono _ _ _ _ u h
 replace U:=U.mono u
 replace N:=N.nf
 obtain ⟨L1,w1,rfl,N0,O0⟩:=id g0
 obtain ⟨W0,J0,rfl,k1,q1⟩:=N0.fm
 obtain ⟨X0,K0,Y0,L0,rfl,g1,B1,C1,l1,r1,m1,s1⟩:=REx.fm O0
 refine qH fun v75 w N a J=>?_
 refine qP 3 rt_24 (fun v76 w N a J=>?_) (hb:=by have h_:=c.length;rw [h_];simp only [lcQ,lnQ];omega)
 refine Sto 7 fun w N a J=>?_
 refine go fun a J=>?_
 replace N:=N.ar [0] [7,7,7,3,7,7,7,7]
 refine l0 _ _ _ (by subst m0;omega) ⟨(C0),(p.2),(f - 1),(E),(F),(v76),(I),(d0),(d1),((d2++[.string p.1.name,.slice W0 p.1.params.length J0,.string p.1.result,.int .i64 (p.1.body.kind),.int .i64 (p.1.body.num),.string p.1.body.name,.slice X0 p.1.body.args.length K0,.slice Y0 p.1.body.arms.length L0])),({ C with funs:=C.funs++[p.1] }),rfl,⟨J.pk,by exact N⟩,?_⟩
 refine ⟨(v).trans u,?_⟩
 exact ⟨g,d,(c.snoc (k:=8) (x:=p.1) rfl g0),⟨by show C.datas.length<=_;omega,by show C.inputs.length<=_;omega,by show (C.funs++[p.1]).length<=_;simp only [laQ,lcQ,lnQ];omega,by show C.outputs.length<=_;omega⟩,by omega,by omega,z.trans (j6p h8 (by omega) (fun h_=>A ((jQ b).symm.trans h_)) (fun h_=>P ((jQ b).symm.trans h_)) ((jQ b).trans b0) Y)⟩
 replace N:=N.dl [4,3,2,1,0]
 exact hP (z.trans (q9r h8 (by omega) (fun h_=>A ((jQ b).symm.trans h_)) (fun h_=>P ((jQ b).symm.trans h_)) ((jQ b).trans b0) Y)) (v) (J.pk) N
 refine go fun a J=>?_
 by_cases s0:k0=(⟨#[111,117,116,112,117,116]⟩:Bs)
 refine go fun a J=>?_
 refine hH (E0:=[(3,.pointer (some ⟨wd,0,none⟩)),(2,.pointer (some ⟨c0,0,none⟩))]) [1,2,2,0,0,0,1,0] (.q 0 (.q 1 (.q 2 (.e 3 (.e 4 (.e 5 (.q 6 (.e 7 (.done))))))))) [.gs (H) 68 8 d2,.gs (F) 72 2 d1,.gs (E) 133 2 d0,.blk rp (ob [.pointer (some ⟨r,0,none⟩)] 206),.blk c0 (ob [E,F,H,I] 27),.blk wd (ob [.int .i64 ((0:Nat):Int)] 3)] (J.pk) N mixed (by kernel_rfl) (by simp) (by kernel_rfl) fun w N=>?_
 refine go fun a J=>?_
 replace N:=N.pl 4
 refine d_e J rfl rfl rfl (z7j J rfl call129 (aS G (i:=(j+1)) rl j0 (by omega) N) (fun p0 w Z N=>⟨fun _=>N.sn (Fz.Le.refl _),fun a J=>?_⟩) (fun p0 w Z N=>fun a J=>?_))
 have H0:=jU Z
 refine qH fun O1 w N a J=>?_
 refine qP 2 wQ (fun b1 w N a J=>?_) (hb:=by simp [yF];omega)
 refine Sto 7 fun w N a J=>?_
 refine go fun a J=>?_
 first | rw [jM] at N | rw [<- yP] at N
 replace N:=N.ar [0] [7,7,7,3,7,7,7,7]
 refine l0 _ _ _ (by subst m0;omega) ⟨(Ψ2),(p0.2),(f - 1),(E),(F),(H),(b1),(d0),(d1),(d2),({ C with outputs:=C.outputs++[p0.1] }),rfl,⟨J.pk,by exact N⟩,?_⟩
 refine ⟨v,?_⟩
 exact ⟨g,d,c,⟨by show C.datas.length<=_;omega,by show C.inputs.length<=_;omega,by show C.funs.length<=_;omega,by show (C.outputs++[p0.1]).length<=_;simp only [laQ,lcQ,lnQ];omega⟩,by omega,by omega,z.trans (j6q h8 (by omega) (fun h_=>A ((jQ b).symm.trans h_)) (fun h_=>P ((jQ b).symm.trans h_)) (fun h_=>b0 ((jQ b).symm.trans h_)) ((jQ b).trans s0) Z)⟩
 replace N:=N.dl [4,3,2,1,0]
 exact hP (z.trans (q9s h8 (by omega) (fun h_=>A ((jQ b).symm.trans h_)) (fun h_=>P ((jQ b).symm.trans h_)) (fun h_=>b0 ((jQ b).symm.trans h_)) ((jQ b).trans s0) Z)) (v) (J.pk) N
 refine Qq (fun a J=>?_) (o:=by exact fun J O=>vY ((j:Nat):Int) J rfl rfl (by rw [yD (by omega)];omega))
 refine Sto 4 fun w N a J=>?_
 refine go fun a J=>?_
 replace N:=N.pl 4
 refine stP J rfl rfl rfl (oD J rfl call130 (uB (i:=j) rl j0 (by omega) N) (fun w N=>fun a J=>?_))
 replace N:=N.dl [4,3,2,1,0]
 exact hP (z.trans (j6n h8 (by omega) (fun h_=>A ((jQ b).symm.trans h_)) (fun h_=>P ((jQ b).symm.trans h_)) (fun h_=>b0 ((jQ b).symm.trans h_)) (fun h_=>s0 ((jQ b).symm.trans h_)))) (v) (J.pk) N
 refine go fun a J=>?_
 have s:=N
 clear N
 obtain ⟨D0,L,N,n0⟩:=s.freezeRow (i:=3) rfl
 clear s
 replace G:=G.mono L
 replace g:=g.mono fun _ _ h=>RData.mono _ _ _ _ L h
 replace d:=d.mono fun _ _ h=>RParam.mono _ _ _ _ L h
 replace c:=c.mono fun _ _ h=>RFun.mono _ _ _ _ L h
 replace N:=N.nf
 have m:SliceOf RData D0 2 _ (C.datas):=⟨_,n0,g⟩
 obtain ⟨H1,x1,i0,n1,t1⟩:=m.form (by decide)
 have l:=N
 clear N
 subst i0
 have N:=l
 clear l
 have s:=N
 clear N
 obtain ⟨F0,M,N,o0⟩:=s.freezeRow (i:=2) rfl
 clear s
 replace G:=G.mono M
 replace d:=d.mono fun _ _ h=>RParam.mono _ _ _ _ M h
 replace c:=c.mono fun _ _ h=>RFun.mono _ _ _ _ M h
 replace m:=m.up M
 replace N:=N.nf
 have B:SliceOf RParam F0 2 _ (C.inputs):=⟨_,o0,d⟩
 obtain ⟨I1,y1,i0,o1,S0⟩:=B.form (by decide)
 have l:=N
 clear N
 subst i0
 have N:=l
 clear l
 have s:=N
 clear N
 obtain ⟨w0,y,N,h0⟩:=s.freezeRow (i:=1) rfl
 clear s
 replace G:=G.mono y
 replace c:=c.mono fun _ _ h=>RFun.mono _ _ _ _ y h
 replace m:=m.up y
 replace B:=B.up y
 replace N:=N.nf
 have a0:SliceOf RFun w0 8 _ (C.funs):=⟨_,h0,c⟩
 obtain ⟨v1,f1,i0,R0,T0⟩:=a0.form (by decide)
 have l:=N
 clear N
 subst i0
 have N:=l
 clear l
 obtain ⟨p3,m3,q3,A0,_,_⟩:=N.toSees.gsForm (i:=0) rfl
 have l:=N
 clear N
 subst A0
 have N:=l
 clear l
 refine Sto 3 fun w N a J=>?_
 refine Sto 4 fun w N a J=>?_
 refine go fun a J=>?_
 replace N:=N.ar [2,1] [2,2]
 exact hR (z.trans (j6o h8 (by omega))) ((((v).trans L).trans M).trans y) m B a0 (J.pk) N
end Go.Sw

namespace Go.Sw
open Go.Proofs.Tryz
open Go.Proofs
abbrev wrongRE (n:Nat) (r:Bool):PanicEntry:={ v:=.iface 204 (.agg #[.int .i64 ((n:Nat):Int)]),recovered:=r }
theorem x2i:zR prog 204 0 0:=zJ runUnderlying204 rfl sizeOf3 (by decide) rfl
set_option maxRecDepth 20000 in
set_option maxHeartbeats 4000000 in
theorem q1u {V:Fz} {K:List Res} {w:World} {bc bw n:Nat} {s t u v x:Value} (N:Mem V (.blk bc (ob [s,t,u,v] 27)::.blk bw (ob [x] 3)::K) w) :
  CallsD prog 124 #[.pointer (some ⟨bc,0,none⟩),.pointer (some ⟨bw,0,none⟩)] (.panicking (nQ n)) w fun e u' w'=>
   e=.returned (.tuple #[])/\u'=.panicking [wrongRE n true]/\Mem V (.blk bc (ob [.slice none 0 0,.slice none 0 0,.slice none 0 0,.slice none 0 0] 27)::.blk bw (ob [.int .i64 ((n:Nat):Int)] 3)::K) w':=by
 generalize j:(fun (e:Ending) (u':FrameMode) (w':World)=>e=.returned (.tuple #[])/\u'=.panicking [wrongRE n true]/\Mem V (.blk bc (ob [.slice none 0 0,.slice none 0 0,.slice none 0 0,.slice none 0 0] 27)::.blk bw (ob [.int .i64 ((n:Nat):Int)] 3)::K) w')=R
 refine callsD_of_wpS func124 rfl fun c₀ cs m=>?_
 apply wpS_seq
 apply wpS_region
 show wpOpsS prog _ _ [0,1] _ _ _
 simp [wpOpsS,go_sem,recoverD,m,ntmps124,Exit.thenS,nQ]
 refine wpS_of_wp ?_
 generalize k:(_::cs:List Frame)=cs'
 have hQ:∀(a:Act) (w':World),a.defers=[]->Mem V (.blk bc (ob [.slice none 0 0,.slice none 0 0,.slice none 0 0,.slice none 0 0] 27)::.blk bw (ob [.int .i64 ((n:Nat):Int)] 3)::K) w'->bodyPostS prog Tryz.f124 c₀ cs R .normal a cs' w':=fun a w' l N=>
  ⟨l,.panicking [wrongRE n true],k.symm,.tuple #[],results_none rfl _ _ _,by subst j;exact ⟨rfl,rfl,N⟩⟩
 generalize b:(Act.mk _ [])=a
 have J:EnvR 19 [(2,.iface 204 (.agg #[.int .i64 ((n:Nat):Int)])),(1,.pointer (some ⟨bw,0,none⟩)),(0,.pointer (some ⟨bc,0,none⟩))] [] a:=by
  subst b
  refine ⟨by simp,fun t v h=>?_,rfl⟩
  obtain ⟨rfl,rfl⟩ | ⟨_,h⟩:=kZ h
  ·simp
  ·obtain ⟨rfl,rfl⟩ | ⟨_,h⟩:=kZ h
   ·simp
   ·obtain ⟨rfl,rfl⟩ | ⟨_,h⟩:=kZ h
    ·simp
    ·cases h
 clear b
 refine sq fun o c=>?_
 refine wp_region_lit ?_
 refine jR J (vB J rfl) rfl fun a J=>?_
 refine jR J (aW (v:=.bool true) J rfl rfl rfl (by kernel_rfl)) rfl fun a J=>?_
 refine wpList_nil ?_
 apply c
 refine if_t J rfl ?_
 refine sq fun p d=>?_
 refine wp_region_lit ?_
 refine jR J (vB J rfl) rfl fun a J=>?_
 refine jR J (y6j J rfl runUnderlying204 (by intro ms h;cases h)) rfl fun a J=>?_
 refine jR J (vB J rfl) rfl fun a J=>jR J (dF J rfl rfl) rfl fun a J=>jR J (dF J rfl rfl) rfl fun a J=>?_
 refine st J rfl rfl rfl (wF (cs:=[.int .i64 ((0:Nat):Int)]) N zeroValue204 rfl fun i w N a J=>?_)
 refine st0 J rfl rfl (jJ 0 (cs:=[.int .i64 ((0:Nat):Int)]) (vs:=[.int .i64 ((n:Nat):Int)]) J N rfl rfl rfl rfl sizeOf204 rfl rfl rfl fun w N a J=>?_)
 refine jR J (dY J rfl) rfl fun a J=>?_
 refine wpList_nil ?_
 apply d
 replace N:Mem V (.blk i (ob [.int .i64 ((n:Nat):Int)] 204)::.blk bc (ob [s,t,u,v] 27)::.blk bw (ob [x] 3)::K) w:=N
 refine sq fun r f=>?_
 refine sq fun y g=>?_
 refine wp_region_lit ?_
 refine jR J (vB J rfl) rfl fun a J=>jR J (q1i J rfl) rfl fun a J=>?_
 refine wpList_nil ?_
 apply g
 refine if_f J rfl ?_
 refine wp_skip ?_
 apply f
 refine dT [1,1,2,0,0] (.q 0 (.q 1 (.q 2 (.e 3 (.e 4 (.done)))))) [.blk i (ob [.int .i64 ((n:Nat):Int)] 204)] J N mixed (by kernel_rfl) (by simp) fun w N=>?_
 refine y2f J rfl rfl (fun w=>z3g (vs:=[]) (cs:=[.slice none 0 0,.slice none 0 0,.slice none 0 0,.slice none 0 0]) J rfl (by kernel_rfl)) rfl fun a J=>?_
 refine y2f J rfl rfl (fun w=>nG J rfl x2i rfl) rfl fun a J=>?_
 refine d_q J rfl rfl (fun w O=>wZ 0 J O rfl rfl rfl isAgg3) rfl fun a J=>?_
 refine y7g J rfl rfl (jJ 1 (cs:=[s,t,u,v]) (vs:=[.slice none 0 0,.slice none 0 0,.slice none 0 0,.slice none 0 0]) J N rfl rfl rfl rfl sizeOf27 rfl rfl rfl fun w N=>⟨fun _=>N.seesIn (Fz.Le.refl _) (by simp [wH]),fun a J=>?_⟩)
 refine y7g J rfl rfl (jJ 2 (cs:=[x]) (vs:=[.int .i64 ((n:Nat):Int)]) J N rfl rfl rfl rfl sizeOf3 rfl rfl rfl fun w N=>⟨dS (by kernel_rfl),fun a J=>?_⟩)
 refine q1v ?_
 replace N:Mem V (.blk bc (ob [.slice none 0 0,.slice none 0 0,.slice none 0 0,.slice none 0 0] 27)::.blk bw (ob [.int .i64 ((n:Nat):Int)] 3)::K) w:=N.del 0
 exact hQ _ _ J.defs N
set_option maxRecDepth 20000 in
theorem catchR_none {w:World} {bc bw:Nat} :
  CallsD prog 124 #[.pointer (some ⟨bc,0,none⟩),.pointer (some ⟨bw,0,none⟩)] .returning w fun e u' w'=>e=.returned (.tuple #[])/\u'=.returning/\w'=w:=by
 generalize f:(fun (e:Ending) (u':FrameMode) (w':World)=>e=.returned (.tuple #[])/\u'=.returning/\w'=w)=R
 refine callsD_of_wpS func124 rfl fun c₀ cs d=>?_
 apply wpS_seq
 apply wpS_region
 show wpOpsS prog _ _ [0,1] _ _ _
 simp [wpOpsS,go_sem,recoverD,d,ntmps124,Exit.thenS]
 refine wpS_of_wp ?_
 have hQ:∀(a:Act),a.defers=[]->bodyPostS prog Tryz.f124 c₀ cs R .normal a (c₀::cs) w:=fun a g=>
  ⟨g,.returning,by cases c₀;simp only at d;subst d;rfl,.tuple #[],results_none rfl _ _ _,by subst f;exact ⟨rfl,rfl,rfl⟩⟩
 generalize b:(Act.mk _ [])=a
 have J:EnvR 19 [(2,.nilIface)] [] a:=by
  subst b
  refine ⟨by simp,fun t v h=>?_,rfl⟩
  obtain ⟨rfl,rfl⟩ | ⟨_,h⟩:=kZ h
  ·simp
  ·cases h
 clear b
 refine sq fun i c=>?_
 refine wp_region_lit ?_
 refine jR J (vB J rfl) rfl fun a J=>?_
 refine jR J (aW (v:=.bool false) J rfl rfl rfl (by kernel_rfl)) rfl fun a J=>?_
 refine wpList_nil ?_
 apply c
 refine if_f J rfl ?_
 refine wp_skip ?_
 exact hQ _ J.defs
abbrev readKY (K:List Res) (l Dk rr rp:Nat) (r:Loop) (pre:List Bs) (z:Value):List Res :=
 .blk l (.loop r)::.blk Dk (.deferred (some []))::.blk rr (ob [z,.int .i64 ((0:Nat):Int)] 208)::.gs z 9 1 (strs pre)::.blk rp (ob [.pointer (some ⟨rr,0,none⟩)] 206)::K
set_option maxRecDepth 20000 in
set_option maxHeartbeats 4000000 in
theorem j1q {Ψ:Fz} {K c:List Res} {w:World} {l Dk rr rp n:Nat} {r:Loop} {pre:List Bs} {z:Value} {k:Bs} (q:pre.length < n) (B:n<=800000)
  (f:r.params=#[11]) (m:r.state=.ready) (j:r.pending=none)
  (y:∀(a:Act) (w:World),EnvR 96 [(11,.string k),(4,.pointer (some ⟨rp,0,none⟩))] [] a ->
   r.assign.wpIn (FO (some l)) 2 prog (Exit.then (fun p s=>EnvR 96 [(5,.string k),(4,.pointer (some ⟨rp,0,none⟩))] [] p/\s=w) (fun _ _ _=>False)) a w)
  (hb:∀(a:Act) (w:World) (K:List Res) (o:Obj),EnvR 96 [(5,.string k),(4,.pointer (some ⟨rp,0,none⟩))] [] a->Mem Ψ (.blk l o::.blk rr (ob [z,.int .i64 ((0:Nat):Int)] 208)::.gs z 9 1 (strs pre)::.blk rp (ob [.pointer (some ⟨rr,0,none⟩)] 206)::K) w ->
   r.body.wpIn (FO (some l)) 2 prog (fun e _ w=>e=.normal/\∃v,Mem Ψ (.blk l o::.blk rr (ob [v,.int .i64 ((0:Nat):Int)] 208)::.gs v 9 1 (strs (pre++[k]))::.blk rp (ob [.pointer (some ⟨rr,0,none⟩)] 206)::K) w) a w)
  (J:EnvR 96 [(4,.pointer (some ⟨rp,0,none⟩))] [] ⟨r.tmps,[]⟩) (N:Mem Ψ (c++readKY K l Dk rr rp r pre z) w) :
  YieldAt Fence.wide 2 prog l #[.string k] w (fun e w'=>e=.returned (.bool true)/\∃z',Mem Ψ (c++readKY K l Dk rr rp r (pre++[k]) z') w'):=by
 have b:Mem Ψ (readKY K l Dk rr rp r pre z++c) w:=N.perm List.perm_append_comm
 replace b:Mem Ψ (.blk l (.loop r)::.blk rr (ob [z,.int .i64 ((0:Nat):Int)] 208)::.gs z 9 1 (strs pre)::.blk rp (ob [.pointer (some ⟨rr,0,none⟩)] 206)::.blk Dk (.deferred (some []))::(K++c)) w :=
  ((((b.pull (i:=4) rfl).pull (i:=4) rfl).pull (i:=4) rfl).pull (i:=3) rfl)
 have hl:w.heap[l]? = some (.loop r):=b.own _ msQ
 refine ⟨r.fn,r.tmps.setIfInBounds 11 (.string k),r.assign,r.body,?_,?_⟩
 ·rw [run_yield hl (by rw [f];rfl),f,zip1];simp
 ·have g:EnvR 96 [(11,.string k),(4,.pointer (some ⟨rp,0,none⟩))] [] ⟨r.tmps.setIfInBounds 11 (.string k),[]⟩:=J.put (d:=11) rfl
  have h:=q7j (P:=prog) (E1:=fun (_:Unit)=>[(5,.string k),(4,.pointer (some ⟨rp,0,none⟩))]) (K1:=fun _=>.blk rr (ob [z,.int .i64 ((0:Nat):Int)] 208)::.gs z 9 1 (strs pre)::.blk rp (ob [.pointer (some ⟨rr,0,none⟩)] 206)::.blk Dk (.deferred (some []))::(K++c))
   (KO:=fun v=>.blk rr (ob [v,.int .i64 ((0:Nat):Int)] 208)::.gs v 9 1 (strs (pre++[k]))::.blk rp (ob [.pointer (some ⟨rr,0,none⟩)] 206)::.blk Dk (.deferred (some []))::(K++c)) b m j g
   (fun a J=>Code.wpIn_mono (fun e p s h=>by
    cases e with
    | normal=>exact ⟨(),h.1,h.2▸b⟩
    | _=>exact h) (y a w J)) (fun _ a w J N=>hb a w _ _ J N)
  refine h.mono fun e w' A=>?_
  obtain ⟨h1,v,t⟩:=A
  refine ⟨h1,v,?_⟩
  have u:Mem Ψ (readKY K l Dk rr rp r (pre++[k]) v++c) w':=(((((t.pull (i:=3) rfl).pull (i:=3) rfl).pull (i:=3) rfl).pull (i:=4) rfl).pull (i:=4) rfl)
  exact u.perm List.perm_append_comm
theorem q7e {P:Program} {fn:Func} {n:Nat} {E:List (Nat×Value)} {D:List Deferred} {a:Act} {V:Fz} {K:List Res} {w:World} {t u T U k i j b c:Nat} {v:Value} {cs:List Value} {g h:TypeId} (J:EnvR n E D a) (N:Sees V K w) (hr:fn.results=#[.cell u U,.cell t T]) (r:get E t=some (.pointer (some ⟨b,0,none⟩)))
  (q:qI K i=some (.blk b (ob [v] g))) (p:Scalar P T) (f:get E u=some (.pointer (some ⟨c,0,none⟩))) (e:qI K j=some (.blk c (ob cs h))) (d:AggT P U) (o:SizeT P U k) (hl:cs.length=k) :
  (results fn a.tmps).run P w=.ok (.tuple #[.agg cs.toArray,v]) w:=by
 have h1:w.cell? ⟨b,0,none⟩=some v:=N.cell q 0
 have l:=j3o (P:=P) J N f e d o hl
 have m:(loadVar T ⟨b,0,none⟩).run P w=.ok v w:=by simp [loadVar,Sem.run_bind,p w,Result.andThen,load,Sem.run,h1]
 simp [results,hr,Array.getD_eq_getD_getElem?,J.env t _ r,J.env u _ f,asAddr,l,m,Sem.run_bind,Result.andThen]
set_option maxRecDepth 20000 in
set_option maxHeartbeats 4000000 in
theorem read_ok {V:Fz} {K:List Res} {w:World} {t:Bs} (G:Glob V) (h2:t.size<=800000) (m:AscB t) (N:Mem V K w) :
  Calls prog 74 #[.string t] w (fun ee w'=>Out (z0s t)
   (fun C=>∃y:Fz×Value×Value×Value×Value,ee=.returned (.tuple #[.agg #[y.2.1,y.2.2.1,y.2.2.2.1,y.2.2.2.2],.int .i64 ((0:Nat):Int)])/\(V.Le y.1/\SliceOf RData y.1 2 y.2.1 C.datas/\SliceOf RParam y.1 2 y.2.2.1 C.inputs/\SliceOf RFun y.1 8 y.2.2.2.1 C.funs)/\Mem y.1 (.gs y.2.2.2.2 9 1 (strs C.outputs)::K) w')
   (fun n=>ee=.returned (.tuple #[.agg #[.slice none 0 0,.slice none 0 0,.slice none 0 0,.slice none 0 0],.int .i64 ((n:Nat):Int)])/\Mem V K w')):=by
 refine enterX func74 rfl ntmps74 rfl (fun Q hQ a J=>?_)
 refine sq fun L1 H=>?_
 refine wp_region_lit ?_
 refine st J rfl rfl rfl (wF (cs:=[.slice none 0 0,.slice none 0 0,.slice none 0 0,.slice none 0 0]) N zeroValue27 rfl fun c0 w N a J=>?_)
 refine st J rfl rfl rfl (wF (cs:=[.int .i64 ((0:Nat):Int)]) N zeroValue3 rfl fun wd w N a J=>?_)
 refine wpList_nil ?_
 apply H
 refine sq fun L2 I=>?_
 refine wp_region_lit ?_
 refine jR J (z0l (vfs:=[]) (vcs:=[.pointer (some ⟨c0,0,none⟩),.pointer (some ⟨wd,0,none⟩)]) J rfl rfl) rfl fun a J=>?_
 refine z2d (fs:=[]) (cs:=[.pointer (some ⟨c0,0,none⟩),.pointer (some ⟨wd,0,none⟩)]) (vs:=[]) J rfl rfl fun a J=>?_
 refine wpList_nil ?_
 apply I
 refine sq fun L3 L=>?_
 refine wp_region_lit ?_
 refine jR J (z3g (vs:=[]) (cs:=[.slice none 0 0,.int .i64 ((0:Nat):Int)]) J rfl (by kernel_rfl)) rfl fun a J=>?_
 refine st J rfl rfl rfl (j3t (cs:=[.slice none 0 0,.int .i64 ((0:Nat):Int)]) J N rfl rfl fun rr w N a J=>?_)
 refine st J rfl rfl rfl (wF (cs:=[.pointer none]) N zeroValue206 rfl fun rp w N a J=>?_)
 refine st0 J rfl rfl (jJ 0 (cs:=[.pointer none]) (vs:=[.pointer (some ⟨rr,0,none⟩)]) J N rfl rfl rfl rfl sizeOf206 rfl rfl rfl fun w N a J=>?_)
 refine wpList_nil ?_
 apply L
 replace N:Mem V (.blk rp (ob [.pointer (some ⟨rr,0,none⟩)] 206)::.blk rr (ob [.slice none 0 0,.int .i64 ((0:Nat):Int)] 208)::.blk wd (ob [.int .i64 ((0:Nat):Int)] 3)::.blk c0 (ob [.slice none 0 0,.slice none 0 0,.slice none 0 0,.slice none 0 0] 27)::K) w:=N
 refine sq fun L4 M=>?_
 refine sq fun L5 R=>?_
 refine wp_region_lit ?_
 refine jR J (vB J rfl) rfl fun a J=>?_
 refine st J rfl rfl rfl (z2v J rfl call125 (x6e N) (fun bx w _ N a J=>?_))
 refine wpList_nil ?_
 apply R
 refine wp_block ?_
 refine q8p (P:=prog) (β:=Value) (δ:=Unit) (gf:=174) (fs:=[]) (cs:=[.pointer (some ⟨bx,0,none⟩)]) (F1:=fun _=>V)
  (KO:=fun z=>.blk rr (ob [z,.int .i64 ((0:Nat):Int)] 208)::.gs z 9 1 (strs (tF t))::.blk rp (ob [.pointer (some ⟨rr,0,none⟩)] 206)::.blk wd (ob [.int .i64 ((0:Nat):Int)] 3)::.blk c0 (ob [.slice none 0 0,.slice none 0 0,.slice none 0 0,.slice none 0 0] 27)::K)
  (KE:=fun _=>K)
  (G:=fun _=>True) (B:=fun _ _=>False) J N rfl call174 ?_ ?_ ?_
 ·intro Dk l r w W has S X U T N
  have d:=N.nilRow 9 1
  replace d:Mem V (.blk bx (ob [.string t] 9)::readKY (.blk wd (ob [.int .i64 ((0:Nat):Int)] 3)::.blk c0 (ob [.slice none 0 0,.slice none 0 0,.slice none 0 0,.slice none 0 0] 27)::K) l Dk rr rp r [] (.slice none 0 0)) w :=
   ((((((d.pull (i:=4) rfl).pull (i:=1) rfl).pull (i:=5) rfl).pull (i:=4) rfl).pull (i:=4) rfl).pull (i:=5) rfl)
  have h:=j9o (l:=l) (KY:=readKY (.blk wd (ob [.int .i64 ((0:Nat):Int)] 3)::.blk c0 (ob [.slice none 0 0,.slice none 0 0,.slice none 0 0,.slice none 0 0] 27)::K) l Dk rr rp r) (by omega) m (fun pre z K0 k w p N=>?_) d
  ·refine h.mono fun e w' hh=>?_
   obtain ⟨z,rfl,b⟩:=hh
   exact .inl ⟨_,z,rfl,trivial,b⟩
  ·refine j1q (n:=t.size) p h2 W X U (fun a w J=>?_) (fun a w K o J N=>?_) (T.of_sub ⟨rfl,trivial⟩) N
   ·rw [has]
    refine wpIn_region_lit ?_
    refine nD J (by intro c h;cases h) (dY J rfl) rfl fun a J=>?_
    refine wpListIn_nil ?_
    exact ⟨J.of_sub ⟨rfl,rfl,trivial⟩,rfl⟩
   ·rw [S]
    refine wpIn_block ?_
    refine y7u [2,2,1,1,2,1,0,0,1,1,0] (.q 0 (.q 1 (.q 2 (.q 3 (.q 4 (.q 5 (.e 6 (.e 7 (.q 8 (.q 9 (.e 10 (.done)))))))))))) [.blk rr (ob [z,.int .i64 ((0:Nat):Int)] 208),.blk rp (ob [.pointer (some ⟨rr,0,none⟩)] 206)] J N mixed (by kernel_rfl) (by simp) (by kernel_rfl) fun w N=>?_
    refine d_q J rfl rfl (fun w O=>wZ 1 J O rfl rfl rfl isAgg206) rfl fun a J=>?_
    refine d_q J rfl rfl (fun w O=>wZ 1 J O rfl rfl rfl isAgg206) rfl fun a J=>?_
    refine y2f J rfl rfl (fun w=>z4o J rfl) rfl fun a J=>?_
    refine y2f J rfl rfl (fun w=>nG J rfl y2y rfl) rfl fun a J=>?_
    refine d_q J rfl rfl (fun w O=>wZ 0 J O rfl rfl rfl isAgg25) rfl fun a J=>?_
    refine y2f J rfl rfl (fun w=>vB J rfl) rfl fun a J=>?_
    refine d_e J rfl rfl rfl (mU (sz:=1) (cs:=[.string k]) J N rfl (y1a runUnderlying25 sizeOf9 zeroValue9 rfl (by decide) rfl) rfl (by decide) fun v w N _=>⟨fun _=>N.seesIn (Fz.Le.refl _) (by simp),fun a J=>?_⟩)
    refine d_e J rfl rfl rfl (z4b 3 (xs:=strs pre) (news:=[.string k]) wQ J N rfl rfl rfl (N.toSees.rowIn (i:=0) rfl) rfl (by simp [yF];omega) fun v2 w N=>⟨fun _=>N.seesIn (Fz.Le.refl _) (by simp [wH]),fun a J=>?_⟩)
    replace N:Mem V (.gs v 9 1 [.string k]::.blk l o::.blk rr (ob [z,.int .i64 ((0:Nat):Int)] 208)::.gs v2 9 1 (strs (pre++[k]))::.blk rp (ob [.pointer (some ⟨rr,0,none⟩)] 206)::K) w:=by rw [yP];exact N
    refine y2f J rfl rfl (fun w=>z4o J rfl) rfl fun a J=>?_
    refine y2f J rfl rfl (fun w=>nG J rfl y2y rfl) rfl fun a J=>?_
    refine y7g J rfl rfl (jJ 2 (cs:=[z,.int .i64 ((0:Nat):Int)]) (vs:=[v2]) J N rfl rfl rfl (N.toSees.gsCells (i:=3) rfl) sizeOf25 rfl (N.toSees.gsOne (i:=3) rfl) rfl fun w N=>⟨dS (by kernel_rfl),fun a J=>?_⟩)
    refine q1v ?_
    exact ⟨rfl,v2,N.del 0⟩
 ·intro Dk z a w _ J N
  apply M
  obtain ⟨Ψ,le,N,A⟩:=N.freezeRow (i:=2) rfl
  have rl:SliceOf RStr Ψ 1 z (tF t):=SliceOf.strs.2 A
  have D:(tF t).length<=1000000:=Nat.le_trans (sT t.size 0) (by omega)
  have Y:∀j,(zD (tF t) j).size<=1000000:=fun j=>j8j (fun s O=>Nat.le_trans (sU t.size 0 s O) (by omega)) j
  replace N:Mem Ψ (.blk rr (ob [z,.int .i64 ((0:Nat):Int)] 208)::.blk rp (ob [.pointer (some ⟨rr,0,none⟩)] 206)::.blk c0 (ob [.slice none 0 0,.slice none 0 0,.slice none 0 0,.slice none 0 0] 27)::.blk wd (ob [.int .i64 ((0:Nat):Int)] 3)::.blk Dk (.deferred (some []))::K) w:=((((N.pull (i:=3) rfl).pull (i:=4) rfl).pull (i:=4) rfl).pull (i:=4) rfl)
  refine j8p (ws:=tF t) (c0:=c0) (wd:=wd) (rp:=rp) (r:=rr) (G.mono le) (q7g D Y 250 (by decide)) rl D ?_ ?_ (J.of_sub ⟨rfl,rfl,rfl,trivial⟩) N
  ·intro Ψ2 a w C Z u1 u2 u3 E g r0 r1 r2 J N
   refine hQ _ _ _ ?_
   show gP _ _ _ _ a.defers _ _
   rw [J.defs]
   replace N:=N.pull (i:=3) rfl
   have F:w.heap[Dk]? = some (.deferred (some [])):=N.own _ msQ
   have b:=N.putObj (i:=0) (o':=.deferred none) rfl
   refine gV (by simp) F (uP ?_)
   refine leaves_cons (f:=124) (args:=#[.pointer (some ⟨c0,0,none⟩),.pointer (some ⟨wd,0,none⟩)]) (by simp) (call124 _ _) ?_
   refine catchR_none.mono ?_
   rintro e u' w'' ⟨rfl,rfl,rfl⟩
   refine ⟨_,q7e (i:=2) (j:=1) J b.toSees results74 rfl rfl isAgg3 rfl rfl isAgg27 sizeOf27 rfl,?_⟩
   show Out (z0s t) _ _
   rw [show z0s t=.ok C from E]
   exact ⟨(Ψ2,Z,u1,u2,u3),rfl,⟨le.trans g,r0,r1,r2⟩,((b.del 0).del 0).del 0⟩
  ·intro Ψ2 a w n Z u1 u2 u3 x E g J N
   refine hQ _ _ _ ?_
   show gP _ _ _ _ a.defers _ _
   rw [J.defs]
   replace N:=N.pull (i:=2) rfl
   have F:w.heap[Dk]? = some (.deferred (some [])):=N.own _ msQ
   have b:=(N.putObj (i:=0) (o':=.deferred none) rfl)
   replace b:Mem Ψ2 (.blk c0 (ob [Z,u1,u2,u3] 27)::.blk wd (ob [x] 3)::.blk Dk (.deferred none)::K) (w.putObj Dk (.deferred none)):=(b.pull (i:=2) rfl).pull (i:=2) rfl
   refine gV (by simp) F (uP ?_)
   refine leaves_cons (f:=124) (args:=#[.pointer (some ⟨c0,0,none⟩),.pointer (some ⟨wd,0,none⟩)]) (by simp) (call124 _ _) ?_
   refine (q1u b).mono ?_
   rintro e' u' w'' ⟨rfl,rfl,u⟩
   refine ⟨_,q7e (i:=1) (j:=0) J u.toSees results74 rfl rfl isAgg3 rfl rfl isAgg27 sizeOf27 rfl,?_⟩
   show Out (z0s t) _ _
   rw [show z0s t=.error n from E]
   exact ⟨rfl,(((u.del 0).del 0).del 0).le (le.trans g)⟩
 ·intro Dk y c a w hB J N
  exact hB.elim
end Go.Sw

namespace Go.Sw
open Go.Proofs
def Pos {α:Type} (f:Nat->Rd α):Prop:=∀i n,f i=.error n->0 < n
section
variable {ws:List Bs}
theorem Pos.bind {α β:Type} {f:Nat->Rd α} {g:α->Nat->Rd β} (a:Pos f) (b:∀x,Pos (g x)):Pos (fun i=>yR (f i) g):=fun i n h=>by
 cases hr:f i with
 | error m=>
  simp only [yR,hr] at h
  cases h;exact a i _ hr
 | ok y=>
  simp only [yR,hr] at h
  exact b _ _ n h
theorem Pos.ok {α:Type} (f:Nat->α×Nat):Pos (fun i=>(.ok (f i):Rd α)):=fun i n h=>by cases h
theorem Pos.ite {α:Type} {p:Nat->Prop} [∀i,Decidable (p i)] {f g:Nat->Rd α} (a:Pos f) (b:Pos g):Pos (fun i=>if p i then f i else g i):=fun i n h=>by
 simp only at h
 split at h
 ·exact a i n h
 ·exact b i n h
theorem Pos.next {α:Type} {f:Nat->Rd α} (a:Pos f):Pos (fun i=>f (i+1)):=fun i n h=>a (i+1) n h
theorem Pos.err {α:Type}:Pos (fun i=>(.error (i+1):Rd α)):=fun i n h=>by cases h;exact Nat.succ_pos _
theorem kO (p:Bs->Bool):Pos (nE ws p):=fun i n h=>by
 unfold nE at h
 split at h
 ·cases h;exact Nat.succ_pos _
 ·cases h
theorem aO (w:Bs):Pos (wN ws w):=(kO _).bind fun _=>Pos.ok fun i=>((),i)
theorem y3u {ex:Nat->Rd Ex} (J:Pos ex):∀f least,Pos (wI ws ex f least)
 | 0,_=>Pos.err
 | f+1,least=>Pos.ite (p:=fun i=>0 < least∨zD ws i≠sCls) (J.bind fun e=>(y3u J f _).bind fun l=>Pos.ok fun i=>(e::l,i)) (Pos.ok fun i=>([],i))
theorem j5j {ex:Nat->Rd Ex} (J:Pos ex):Pos (z6k ex):=J.bind fun a=>J.bind fun b=>Pos.ok fun i=>([a,b],i)
theorem q8i:∀f,Pos (gO ws f)
 | 0=>Pos.err
 | f+1=>Pos.ite (p:=fun i=>zD ws i≠y5b) ((kO _).bind fun s=>(q8i f).bind fun l=>Pos.ok fun i=>(s::l,i)) (Pos.ok fun i=>([],i))
theorem arm_pos {ex:Nat->Rd Ex} (J:Pos ex):Pos (armP ws ex) :=
 (aO _).bind fun _=>(kO _).bind fun c=>(q8i _).bind fun vs=>(aO _).bind fun _=>J.bind fun b=>(aO _).bind fun _=>Pos.ok fun i=>(Arm.mk c vs b,i)
theorem q4l {ex:Nat->Rd Ex} (J:Pos ex):∀f b,Pos (oK ws ex f b)
 | 0,_=>Pos.err
 | f+1,b=>Pos.ite (p:=fun i=>b=true∨zD ws i=hO) ((arm_pos J).bind fun a=>(q4l J f false).bind fun l=>Pos.ok fun i=>(a::l,i)) (Pos.ok fun i=>([],i))
theorem x2s {ex:Nat->Rd Ex} (J:Pos ex):Pos (yW ws ex):=fun i n h=>by
 unfold yW at h
 split at h
 ·exact (j5j J).bind (fun l=>Pos.ok fun j=>(Ex.mk 8 0 (zD ws i) l [],j)) (i+1) n h
 ·split at h
  ·exact (kO _).bind (fun x=>(j5j J).bind fun l=>Pos.ok fun j=>(Ex.mk 6 0 x l [],j)) (i+1) n h
  ·split at h
   ·exact J.bind (fun a=>(q4l J _ true).bind fun l=>Pos.ok fun j=>(Ex.mk 7 0 sNo [a] l,j)) (i+1) n h
   ·split at h
    ·exact (y3u J _ 1).bind (fun l=>Pos.ok fun j=>(Ex.mk 4 0 (zD ws i) l [],j)) (i+1) n h
    ·exact (kO _).bind (fun x=>(y3u J _ 0).bind fun l=>Pos.ok fun j=>(Ex.mk 5 0 x l [],j)) i n h
theorem q5g:∀d,Pos (zT ws d)
 | 0=>Pos.err
 | d+1=>fun i n h=>by
  simp only [zT] at h
  split at h
  ·cases h;exact Nat.succ_pos _
  ·split at h
   ·cases h
   ·split at h
    ·exact (x2s (q5g d)).bind (fun e=>(aO _).bind fun _=>Pos.ok fun j=>(e,j)) (i+1) n h
    ·split at h
     ·cases h
     ·split at h
      ·cases h
      ·exact (kO _).bind (fun x=>Pos.ok fun j=>(Ex.mk 2 0 x [] [],j)) i n h
theorem y2v:∀f,Pos (kF ws f)
 | 0=>Pos.err
 | f+1=>Pos.ite (p:=fun i=>qC (zD ws i)=true) ((kO _).bind fun s=>(y2v f).bind fun l=>Pos.ok fun i=>(s::l,i)) (Pos.ok fun i=>([],i))
theorem q4y:∀f,Pos (oN ws f)
 | 0=>Pos.err
 | f+1=>(kO _).bind fun n=>(y2v _).bind fun l=>Pos.ite (p:=fun i=>zD ws i≠sBar) (Pos.ok fun i=>([(⟨n,l⟩:Con)],i)) ((q4y f).bind (fun cs=>Pos.ok fun i=>((⟨n,l⟩:Con)::cs,i))).next
theorem x1d:Pos (dO ws):=(kO _).bind fun n=>(aO _).bind fun _=>(q4y _).bind fun l=>Pos.ok fun i=>((⟨n,l⟩:Data),i)
theorem q0k:Pos (wV ws):=(kO _).bind fun n=>(aO _).bind fun _=>(kO _).bind fun t=>Pos.ok fun i=>((⟨n,t⟩:Param),i)
theorem y4i:∀f,Pos (wA ws f)
 | 0=>Pos.err
 | f+1=>Pos.ite (p:=fun i=>zD ws i=hO) ((q0k).bind (fun p=>(aO _).bind fun _=>(y4i f).bind fun l=>Pos.ok fun i=>(p::l,i))).next (Pos.ok fun i=>([],i))
theorem fun_pos:Pos (oS ws):=(kO _).bind fun n=>(y4i _).bind fun ps=>(aO _).bind fun _=>(kO _).bind fun r=>(aO _).bind fun _=>(q5g _).bind fun b=>Pos.ok fun i=>((⟨n,ps,r,b⟩:Fun),i)
theorem tP:∀f c i n,jF ws f c i=.error n->0 < n
 | 0,_,_,_,h=>by cases h;exact Nat.succ_pos _
 | f+1,c,i,n,h=>by
  simp only [jF] at h
  split at h
  ·split at h
   ·split at h
    ·exact tP f _ _ n h
    ·rename_i a;cases h;exact x1d _ _ a
   ·split at h
    ·split at h
     ·exact tP f _ _ n h
     ·rename_i a;cases h;exact q0k _ _ a
    ·split at h
     ·split at h
      ·exact tP f _ _ n h
      ·rename_i a;cases h;exact fun_pos _ _ a
     ·split at h
      ·split at h
       ·exact tP f _ _ n h
       ·rename_i a;cases h;exact kO _ _ _ a
      ·cases h;exact Nat.succ_pos _
  ·cases h
end
theorem x4o {t:Bs} {n:Nat} (h:z0s t=.error n):0 < n:=tP _ _ _ _ h
def cW (t:Bs):Except (Nat×Int) Core:=if 60000 < t.size then .error (0,2) else match z0s t with
 | .error n=>.error (n,5)
 | .ok c=>if yT c=0 then .ok c else .error (0,yT c)
theorem j1g {t:Bs} (h:60000 < t.size):cW t=.error (0,2):=if_pos h
theorem j1i {t:Bs} {n:Nat} (h:¬60000 < t.size) (a:z0s t=.error n):cW t=.error (n,5):=by unfold cW;rw [if_neg h,a]
theorem q6u {t:Bs} {c:Core} (h:¬60000 < t.size) (a:z0s t=.ok c) (b:¬yT c=0):cW t=.error (0,yT c):=by unfold cW;rw [if_neg h,a];exact if_neg b
theorem y4j {t:Bs} {c:Core} (h:¬60000 < t.size) (a:z0s t=.ok c) (b:yT c=0):cW t=.ok c:=by unfold cW;rw [if_neg h,a];exact if_pos b
end Go.Sw

namespace Go.Sw
open Go.Proofs
mutual
def q0p:Val->Val->Bool
 | .mk c n l,v=>decide (c=v.con)&&decide (n=v.num)&&decide (l.length=v.args.length)&&sameVs l v.args
def sameVs:List Val->List Val->Bool
 | [],_=>true
 | _::_,[]=>true
 | x::xs,y::ys=>q0p x y&&sameVs xs ys
end
theorem q7o (x y:Val) (xs ys:List Val):sameVs (x::xs) (y::ys)=(q0p x y&&sameVs xs ys):=by simp only [sameVs]
def q3k:List Named->List Named->Bool
 | [],_=>true
 | _::_,[]=>true
 | x::xs,y::ys=>(decide (x.name=y.name)&&q0p x.value y.value)&&q3k xs ys
theorem q7m (x y:Named) (xs ys:List Named):q3k (x::xs) (y::ys)=((decide (x.name=y.name)&&q0p x.value y.value)&&q3k xs ys):=rfl
def cS (fs:List Fun) (ds:List Bs):List Bs:=(fs.filter fun f=>has ds f.name).map Fun.name
theorem z8c {f:Fun} {fs:List Fun} {ds:List Bs} (h:has ds f.name=true):cS (f::fs) ds=f.name::cS fs ds:=by simp [cS,h]
theorem q6k {f:Fun} {fs:List Fun} {ds:List Bs} (h:has ds f.name=false):cS (f::fs) ds=cS fs ds:=by simp [cS,h]
theorem q0h {ds:List Bs}:cS [] ds=[]:=rfl
end Go.Sw

namespace Go.Sw
open Go.Proofs.Tryz
open Go.Proofs
set_option maxRecDepth 20000
set_option maxHeartbeats 4000000
theorem x4i {V:Fz} {K:List Res} {w:World} {t:Bs} (G:Glob V) (n:AscB t) (N:Mem V K w) :
  Calls prog 25 #[.string t] w (fun ee w'=>Out (cW t)
   (fun C=>∃y:Fz×Value×Value×Value×Value,ee=.returned (.tuple #[.agg #[y.2.1,y.2.2.1,y.2.2.2.1,y.2.2.2.2],.int .i64 ((0:Nat):Int),.int .i64 ((0:Nat):Int)])/\(V.Le y.1/\SliceOf RData y.1 2 y.2.1 C.datas/\SliceOf RParam y.1 2 y.2.2.1 C.inputs/\SliceOf RFun y.1 8 y.2.2.2.1 C.funs)/\Mem y.1 (.gs y.2.2.2.2 9 1 (strs C.outputs)::K) w')
   (fun c=>ee=.returned (.tuple #[.agg #[.slice none 0 0,.slice none 0 0,.slice none 0 0,.slice none 0 0],.int .i64 ((c.1:Nat):Int),.int .i64 c.2])/\Mem V K w')):=by
 refine zM func25 ntmps25 fun Q hQ a J=>?_
 refine Alc fun T w N a J=>?_
 by_cases r:60000 < t.size
 refine yC fun a J=>?_
 refine Sto 0 fun w N a J=>?_
 refine go fun a J=>?_
 have d:=N
 replace N:=N.dl [0]
 refine hQ _ _ _ (mK (i:=0) (cs:=[.slice none 0 0,.slice none 0 0,.slice none 0 0,.slice none 0 0]) J d.toSees results25 rfl rfl isAgg27 sizeOf27 rfl rfl rfl ?_)
 show Out (cW t) _ _
 rw [j1g r]
 exact ⟨rfl,N⟩
 refine go fun a J=>?_
 refine st J rfl rfl rfl (z7k J rfl call74 (read_ok G (by omega) n N) (fun g S w b m N a J=>?_) (fun g w b N a J=>?_))
 obtain ⟨A,U,W,X,Y⟩:=S
 obtain ⟨e,s,u,v⟩:=m
 simp only at e s u v N J
 replace G:=G.mono e
 replace N:=N.nf
 obtain ⟨B,H,rfl,_,_⟩:=s.fm
 obtain ⟨D,I,rfl,_,_⟩:=u.fm
 obtain ⟨E,L,rfl,_,_⟩:=v.fm
 obtain ⟨F,m3,M,p,_,_⟩:=N.toSees.gsForm (i:=0) rfl
 subst p
 replace N:=N.nf
 refine Alc fun P w N a J=>?_
 refine Sto 0 fun w N a J=>?_
 refine Qq (fun a J=>?_) (o:=by exact fun J O=>q1g false J rfl rfl rfl)
 refine go fun a J=>?_
 have h:=N
 clear N
 obtain ⟨Ψ2,f,N,k,j⟩:=h.freezeRowT (i:=1) rfl
 clear h
 replace G:=G.mono f
 replace N:=N.nf
 have q:RCore Ψ2 [.slice B (g.datas).length H,.slice D (g.inputs).length I,.slice E (g.funs).length L,.slice F m3 M] g:=⟨_,_,_,_,rfl,s.mono RData.mono f,u.mono RParam.mono f,v.mono RFun.mono f,SliceOf.strs.2 k⟩
 refine zS call36 (fun w N a J=>?_) (c:=q4x q G N)
 refine go fun a J=>?_
 replace N:=j _ _ N
 replace N:=N.nf
 by_cases l:yT g=0
 refine Sto 2 fun w N a J=>?_
 refine go fun a J=>?_
 have d:=N
 replace N:=N.dl [2,1]
 refine hQ _ _ _ (mK (i:=2) (cs:=[.slice B (g.datas).length H,.slice D (g.inputs).length I,.slice E (g.funs).length L,.slice F m3 M]) J d.toSees results25 rfl rfl isAgg27 sizeOf27 rfl rfl rfl ?_)
 show Out (cW t) _ _
 rw [y4j r b l]
 exact ⟨(A,_,_,_,_),rfl,⟨e,s,u,v⟩,N⟩
 refine yC fun a J=>?_
 refine Sto 2 fun w N a J=>?_
 refine go fun a J=>?_
 have d:=N
 replace N:=N.dl [2,1,0]
 refine hQ _ _ _ (mK (i:=2) (cs:=[.slice none 0 0,.slice none 0 0,.slice none 0 0,.slice none 0 0]) J d.toSees results25 rfl rfl isAgg27 sizeOf27 rfl rfl rfl ?_)
 show Out (cW t) _ _
 rw [q6u r b l]
 exact ⟨rfl,N.le (e)⟩
 replace N:=N.nf
 have z:=x4o b
 refine Alc fun R w N a J=>?_
 refine Sto 0 fun w N a J=>?_
 refine yC fun a J=>?_
 refine Sto 1 fun w N a J=>?_
 refine go fun a J=>?_
 have d:=N
 replace N:=N.dl [1,0]
 refine hQ _ _ _ (mK (i:=1) (cs:=[.slice none 0 0,.slice none 0 0,.slice none 0 0,.slice none 0 0]) J d.toSees results25 rfl rfl isAgg27 sizeOf27 rfl rfl rfl ?_)
 show Out (cW t) _ _
 rw [j1i r b]
 exact ⟨rfl,N⟩
def textB:Bs:=⟨#[100,97,116,97,32,76,105,115,116,32,61,32,78,105,108,32,124,32,67,111,110,115,32,73,110,116,32,76,105,115,116,10,105,110,112,117,116,32,120,115,32,58,32,76,105,115,116,10,102,117,110,32,115,117,109,32,40,108,32,58,32,76,105,115,116,41,32,58,32,73,110,116,32,61,32,40,99,97,115,101,32,108,32,40,78,105,108,32,45,62,32,48,41,32,40,67,111,110,115,32,104,32,116,32,45,62,32,40,43,32,104,32,40,115,117,109,32,116,41,41,41,41,10,102,117,110,32,116,111,116,97,108,32,58,32,73,110,116,32,61,32,40,115,117,109,32,33,120,115,41,10,102,117,110,32,108,101,115,115,32,40,97,32,58,32,73,110,116,41,32,40,98,32,58,32,73,110,116,41,32,58,32,73,110,116,32,61,32,40,99,97,115,101,32,40,60,32,97,32,98,41,32,40,70,97,108,115,101,32,45,62,32,48,41,32,40,84,114,117,101,32,45,62,32,49,41,41,10,111,117,116,112,117,116,32,116,111,116,97,108,10]⟩
theorem j5h {V:Fz} {K:List Res} {w:World} (N:Mem V K w):Calls prog 57 #[] w (fun ee w'=>ee=.returned (.string textB)/\Mem V K w'):=by
 refine zM func57 ntmps57 fun Q hQ a J=>?_
 refine zF ?_
 exact ⟨rfl,N⟩
theorem z1j {V:Fz} {K:List Res} {w:World} {d g h i:Value} {ds:List Data} {name:Bs} (b:SliceOf RData V 2 d ds) (N:Mem V K w) :
  Calls prog 58 #[.agg #[d,g,h,i],.string name] w (fun ee w'=>ee=.returned (.bool (jG ds name))/\Mem V K w'):=by
 obtain ⟨k,l,rfl,e,f⟩:=b.fm
 refine zM func58 ntmps58 fun Q hQ a J=>?_
 refine Bx fun j w N a J=>?_
 refine zS call114 (fun w N a J=>?_) (c:=z5l b N)
 refine zF ?_
 replace N:=N.dl [0]
 exact ⟨rfl,N⟩
end Go.Sw

namespace Go.Sw
open Go.Proofs
set_option maxRecDepth 40000
set_option maxHeartbeats 4000000
def z_l:Bs:=⟨#[108]⟩
def z0u:Bs:=⟨#[78,105,108]⟩
def z_h:Bs:=⟨#[104]⟩
def z_t:Bs:=⟨#[116]⟩
def uF:Bs:=⟨#[115,117,109]⟩
def zPlus:Bs:=⟨#[43]⟩
def sF:Bs:=⟨#[67,111,110,115]⟩
def z_xs:Bs:=⟨#[120,115]⟩
def z_a:Bs:=⟨#[97]⟩
def z_b:Bs:=⟨#[98]⟩
def j5t:Bs:=⟨#[60]⟩
def y0m:Bs:=⟨#[70,97,108,115,101]⟩
def q4d:Bs:=⟨#[84,114,117,101]⟩
def z_data:Bs:=⟨#[100,97,116,97]⟩
def tH:Bs:=⟨#[76,105,115,116]⟩
def zEq:Bs:=⟨#[61]⟩
def zBar:Bs:=⟨#[124]⟩
def aD:Bs:=⟨#[73,110,116]⟩
def z_input:Bs:=⟨#[105,110,112,117,116]⟩
def z4p:Bs:=⟨#[58]⟩
def z_fun:Bs:=⟨#[102,117,110]⟩
def z8p:Bs:=⟨#[40]⟩
def z8o:Bs:=⟨#[41]⟩
def z_case:Bs:=⟨#[99,97,115,101]⟩
def q4c:Bs:=⟨#[45,62]⟩
def z_0:Bs:=⟨#[48]⟩
def aY:Bs:=⟨#[116,111,116,97,108]⟩
def x6k:Bs:=⟨#[33,120,115]⟩
def dH:Bs:=⟨#[108,101,115,115]⟩
def z_1:Bs:=⟨#[49]⟩
def x6n:Bs:=⟨#[111,117,116,112,117,116]⟩
def saneWs:List Bs:=[z_data,tH,zEq,z0u,zBar,sF,aD,tH,z_input,z_xs,z4p,tH,z_fun,uF,z8p,z_l,z4p,tH,z8o,z4p,aD,zEq,z8p,z_case,z_l,z8p,z0u,q4c,z_0,z8o,z8p,sF,z_h,z_t,q4c,z8p,zPlus,z_h,z8p,uF,z_t,z8o,z8o,z8o,z8o,z_fun,aY,z4p,aD,zEq,z8p,uF,x6k,z8o,z_fun,dH,z8p,z_a,z4p,aD,z8o,z8p,z_b,z4p,aD,z8o,z4p,aD,zEq,z8p,z_case,z8p,j5t,z_a,z_b,z8o,z8p,y0m,q4c,z_0,z8o,z8p,q4d,q4c,z_1,z8o,z8o,x6n,aY]
def saneC:Core:=⟨[⟨tH,[⟨z0u,[]⟩,⟨sF,[aD,tH]⟩]⟩],
 [⟨z_xs,tH⟩],
 [⟨uF,[⟨z_l,tH⟩],aD,(.mk 7 0 sNo [(.mk 2 0 z_l [] [])] [(.mk z0u [] (.mk 1 0 sNo [] [])),(.mk sF [z_h,z_t] (.mk 8 0 zPlus [(.mk 2 0 z_h [] []),(.mk 5 0 uF [(.mk 2 0 z_t [] [])] [])] []))])⟩,
  ⟨aY,[],aD,(.mk 5 0 uF [(.mk 3 0 z_xs [] [])] [])⟩,
  ⟨dH,[⟨z_a,aD⟩,⟨z_b,aD⟩],aD,(.mk 7 0 sNo [(.mk 8 0 j5t [(.mk 2 0 z_a [] []),(.mk 2 0 z_b [] [])] [])] [(.mk y0m [] (.mk 1 0 sNo [] [])),(.mk q4d [] (.mk 1 1 sNo [] []))])⟩],
 [aY]⟩
def y5d:List Named:=[⟨z_xs,.mk sF 0 [.mk sNo 3 [],.mk sF 0 [.mk sNo 4 [],(.mk z0u 0 [])]]⟩]
def q7p:List Val:=[.mk sNo 2 [],.mk sNo 3 []]
def saneO:Outcome:=⟨[⟨aY,.mk sNo 7 []⟩],17⟩
theorem j2w:tF textB=saneWs:=by kernel_rfl
theorem j8q:z0s textB=.ok saneC:=by
 unfold z0s;rw [j2w];kernel_rfl
theorem z7z:yT saneC=0:=by kernel_rfl
theorem j1h:cW textB=.ok saneC:=y4j (by decide) j8q z7z
theorem x0k:AscB textB:=by
 intro j b h
 have a:textB.data.toList.all (fun b=>decide (b.toNat < 128))=true:=by kernel_rfl
 exact of_decide_eq_true (List.all_eq_true.1 a b (mgQ h))
theorem j2a:z0w saneC y5d 17=(saneO,0):=by kernel_rfl
theorem j1z:z0w saneC y5d 16=(y7r,4):=by kernel_rfl
theorem j1k:aQ saneC=(textB,0):=by kernel_rfl
theorem q5x:jG saneC.datas tH=true:=by kernel_rfl
theorem q6l:jG saneC.datas vV=false:=by kernel_rfl
theorem j6d:jN (zI saneC) uF=[uF]:=by kernel_rfl
theorem z8y:jN (zI saneC) aY=[uF]:=by kernel_rfl
theorem q9h:jN (zI saneC) dH=[]:=by kernel_rfl
theorem j1p {x:Bs} (h:Reach (zI saneC) dH x):x=dH:=by
 induction h with
 | refl=>rfl
 | step h1 a b=>subst b;rw [q9h] at a;cases a
theorem j1l:¬pA (zI saneC) dH:=by
 rintro ⟨x,b,hr⟩
 rw [j1p b] at hr
 have a:xT (tQ (zI saneC) dH)=false:=by kernel_rfl
 rw [a] at hr
 cases hr
theorem j7v:zL (zI saneC).funs dH=some ⟨dH,[⟨z_a,aD⟩,⟨z_b,aD⟩],aD,(.mk 7 0 sNo [(.mk 8 0 j5t [(.mk 2 0 z_a [] []),(.mk 2 0 z_b [] [])] [])] [(.mk y0m [] (.mk 1 0 sNo [] [])),(.mk q4d [] (.mk 1 1 sNo [] []))])⟩:=by kernel_rfl
theorem j0d:gA (zI saneC) q7p [⟨z_a,aD⟩,⟨z_b,aD⟩]=true:=by kernel_rfl
theorem q1s:kY (vC (qM ⟨(zI saneC).funs,[]⟩) ⟨dH,[⟨z_a,aD⟩,⟨z_b,aD⟩],aD,(.mk 7 0 sNo [(.mk 8 0 j5t [(.mk 2 0 z_a [] []),(.mk 2 0 z_b [] [])] [])] [(.mk y0m [] (.mk 1 0 sNo [] [])),(.mk q4d [] (.mk 1 1 sNo [] []))])⟩ q7p) 9=.ok (.mk sNo 1 [],3):=by kernel_rfl
theorem j6c:qB saneC dH q7p 9=(.mk sNo 1 [],6,0):=by
 unfold qB
 rw [if_neg (not_not_intro z7z),if_neg (by decide),j7v]
 simp only
 rw [if_neg (by rw [j0d];decide),if_neg j1l,show (9:Int).toNat=9 from rfl,q1s]
 rfl
theorem j0x {ds:List Bs} (h:Reached (zI saneC) saneC.outputs ds):cS saneC.funs ds=[uF,aY]:=by
 have h1:=h.starts aY (by simp [saneC])
 have c:=h.closed _ h1 uF (by rw [z8y];simp)
 have d:¬dH∈ds:=fun N=>by
  have:=h.least (fun x=>x=aY∨x=uF) (fun x b=>.inl (by simpa [saneC] using b)) (fun x b y a=>by
   rcases b with rfl | rfl
   ·rw [z8y] at a;exact .inr (by simpa using a)
   ·rw [j6d] at a;exact .inr (by simpa using a)) _ N
  rcases this with h | h <;> exact absurd h (by decide)
 show cS [_,_,_] ds=_
 rw [z8c (has_mem.2 c),z8c (has_mem.2 h1),q6k (Bool.eq_false_iff.2 fun h=>d (has_mem.1 h)),q0h]
end Go.Sw

namespace Go.Sw
open Go.Proofs.Tryz
open Go.Proofs
set_option maxRecDepth 20000
set_option maxHeartbeats 4000000
theorem q7a {V:Fz} {K:List Res} {w:World} {d0:List Value} {c:Core} (P:RCore V d0 c) (G:Glob V) (T_:Tabs V) (N:Mem V K w) :
  Calls prog 23 #[.agg d0.toArray] w (fun ee w'=>ee=.returned (.tuple #[.string (aQ c).1,.int .i64 (aQ c).2])/\Mem V K w'):=by
 obtain ⟨p3,c4,p9,f2,m2,g2,n2,c22,rfl,h2,h8,P0,Q0,l2,n1,H1,A0,I1,B0,J1,C0⟩:=RCore.fm P
 refine zM func23 ntmps23 fun Q hQ a J=>?_
 refine Bx fun c2 w N a J=>?_
 refine zS call36 (fun w N a J=>?_) (c:=q4x P G N)
 by_cases B:yT c=0
 refine Alc fun e w N a J=>?_
 refine go fun a J=>?_
 replace N:=N.nilRow 5 1
 replace N:=N.nf
 have D:=nM B
 have M:=(mH B).1
 have N1:=y4q B (z7d P)
 refine go fun a J=>?_
 refine zV (J.ks [1,5,25,26]) N (fun R mm a w=>∃(i:Nat) (bp:Option Addr) (bv:Value) (acc:Bs),mm=c.datas.length - i/\R V [(27,.int .i64 ((i:Nat):Int))] [(0,.gs (bv) 5 1 (Lib.strCells acc)),(1,.blk e (ob [.pointer bp,bv] 130))] a w/\((bp=none∨bp=some ⟨e,0,none⟩)/\acc++(qY ((c.datas.drop i).map tN)++(qY (c.inputs.map aK)++(qY (c.funs.map tR)++qY (c.outputs.map uA))))=kU c)) (c.datas.length - 0) ⟨0,none,.slice none 0 0,⟨#[]⟩,rfl,⟨J.pk,N⟩,⟨.inl rfl,oE _⟩⟩ ?_
 clear N J
 rintro mm a w ⟨i,bp,bv,acc,h,⟨J,N⟩,q⟩ Y1 x0
 replace N:=N.nf
 obtain ⟨k,q⟩:=q
 by_cases q0:i < c.datas.length
 refine go fun a J=>?_
 obtain ⟨q2,rfl,z,m,y1,F1,D1,F0⟩:=h2.el n1 q0
 obtain ⟨t2,rfl,s0⟩:=id F0
 obtain ⟨o2,i2,rfl,K1,D0⟩:=s0.fm
 refine Alc fun d2 w N a J=>?_
 refine Sto 0 fun w N a J=>?_
 refine go fun a J=>?_
 replace N:=N.nilRow 9 1
 replace N:=N.nf
 refine go fun a J=>?_
 refine zV (J.ks [1,5,7,25,26,27,32,33]) N (fun R mm a w=>∃(j:Nat) (u:Value) (ac:List Bs),mm=z.cons.length - j/\R V [(8,u),(34,.int .i64 ((j:Nat):Int))] [(0,.gs (u) 9 1 (strs ac))] a w/\(ac=(z.cons.map z1e).take j)) (z.cons.length - 0) ⟨0,.slice none 0 0,[],rfl,⟨J.pk,N⟩,rfl⟩ ?_
 clear N J
 rintro mm a w ⟨j,u,ac,h,⟨J,N⟩,C⟩ Z1 y0
 replace N:=N.nf
 by_cases t0:j < z.cons.length
 refine go fun a J=>?_
 obtain ⟨r2,rfl,p0,I,z1,G1,E1,G0⟩:=s0.el D0 t0
 obtain ⟨u2,rfl,u0⟩:=id G0
 obtain ⟨p2,c76,rfl,L1,M1⟩:=u0.fm
 refine Alc fun e2 w N a J=>?_
 refine Sto 0 fun w N a J=>?_
 refine qH fun v80 w N a J=>?_
 refine qP 0 wQ (fun v2 w N a J=>?_) (hr:=(SliceOf.strs.1 u0).rowIn N.toSees) (h1:=dA _) (hb:=by have h_:=y1h D M (mgQ m) (mgQ I);have g0:(⟨#[32]⟩:Bs).size=1:=rfl;rw [g0] at h_;simp only [lcQ,lnQ,yF] at h_ ⊢;omega)
 refine zS call67 (fun w N a J=>?_) (c:=y3n (l:=p0.name::p0.fields) (sep:=⟨#[32]⟩) (by have h_:=y1h D M (mgQ m) (mgQ I);omega) N)
 replace N:=N.nf
 refine qH fun w2 w N a J=>?_
 refine qP 2 wQ (fun o1 w N a J=>?_) (hb:=by have h_:=z7e D M (mgQ m);have g0:(⟨#[32,124,32]⟩:Bs).size=3:=rfl;rw [g0] at h_;have r0:=congrArg List.length C;rw [List.length_take] at r0;simp only [lcQ,lnQ,yF] at r0 ⊢;omega)
 first | rw [jM] at N | rw [<- yP] at N
 refine go fun a J=>?_
 replace N:=N.dl [1,0]
 refine y0 _ _ _ (by subst h;omega) ⟨(j+1),(o1),(ac++[z1e p0]),rfl,⟨J.pk,by exact N⟩,?_⟩
 rw [C];exact (y7p I).symm
 refine Reg [1,2,1,1,1,0,1,1,0] [1,4] fun w N a J=>?_
 have E:ac=z.cons.map z1e:=by rw [C];exact q2u t0
 have f:=z4v m q
 simp only [tN,zB,<- E] at f
 refine Qq (fun a J=>?_) (o:=by exact fun J O=>yE J rfl rfl (by (try simp only [zB]);omega))
 refine Qq (fun a J=>?_) (o:=by exact fun J O=>yE J rfl rfl (by (try simp only [zB]);omega))
 refine zS call67 (fun w N a J=>?_) (c:=y3n (l:=ac) (sep:=⟨#[32,124,32]⟩) (by have h_:=z7e D M (mgQ m);rw [<- E] at h_;omega) N)
 replace N:=N.nf
 refine Qq (fun a J=>?_) (o:=by exact fun J O=>yE J rfl rfl (by (try simp only [zB]);omega))
 refine Qq (fun a J=>?_) (o:=by exact fun J O=>yE J rfl rfl (by (try simp only [zB]);omega))
 replace N:=N.ar [] [1,2]
 refine qO call68 (fun p1 w C1 N a J=>?_) (c:=yJ (t:=acc) (s:=(((((⟨#[100,97,116,97,32]⟩:Bs)++z.name)++(⟨#[32,61,32]⟩:Bs))++(pE (⟨#[32,124,32]⟩:Bs) ac))++(⟨#[10]⟩:Bs))) k (by (try simp only [zB]);omega) N)
 replace N:=N.nf
 refine go fun a J=>?_
 replace N:=N.ar [2] [2,1,2]
 refine x0 _ _ _ (by subst h;omega) ⟨(i+1),((some ⟨e,0,none⟩)),(p1),((acc++(((((⟨#[100,97,116,97,32]⟩:Bs)++z.name)++(⟨#[32,61,32]⟩:Bs))++(pE (⟨#[32,124,32]⟩:Bs) ac))++(⟨#[10]⟩:Bs)))),rfl,⟨J.pk,by exact N⟩,?_⟩
 rw [E];exact ⟨.inr rfl,z1d m q⟩
 refine go fun a J=>?_
 refine zV (J.ks [1,5,60,61]) N (fun R mm a w=>∃(i:Nat) (bp:Option Addr) (bv:Value) (acc:Bs),mm=c.inputs.length - i/\R V [(62,.int .i64 ((i:Nat):Int))] [(0,.gs (bv) 5 1 (Lib.strCells acc)),(1,.blk e (ob [.pointer bp,bv] 130))] a w/\((bp=none∨bp=some ⟨e,0,none⟩)/\acc++(qY ((c.inputs.drop i).map aK)++(qY (c.funs.map tR)++qY (c.outputs.map uA)))=kU c)) (c.inputs.length - 0) ⟨0,bp,bv,acc,rfl,⟨J.pk,N⟩,⟨k,nB q0 q⟩⟩ ?_
 clear N J
 rintro mm a w ⟨i,bp,bv,acc,h,⟨J,N⟩,r⟩ a2 z0
 replace N:=N.nf
 obtain ⟨k,r⟩:=r
 by_cases w0:i < c.inputs.length
 refine go fun a J=>?_
 obtain ⟨s2,rfl,S,c0,M0,d1,Y0,l0⟩:=h8.el A0 w0
 obtain rfl:=id l0
 refine Alc fun t1 w N a J=>?_
 refine Sto 0 fun w N a J=>?_
 refine go fun a J=>?_
 have f:=z4v c0 r
 simp only [aK,zB] at f
 refine Qq (fun a J=>?_) (o:=by exact fun J O=>yE J rfl rfl (by (try simp only [zB]);omega))
 refine Qq (fun a J=>?_) (o:=by exact fun J O=>yE J rfl rfl (by (try simp only [zB]);omega))
 refine Qq (fun a J=>?_) (o:=by exact fun J O=>yE J rfl rfl (by (try simp only [zB]);omega))
 refine Qq (fun a J=>?_) (o:=by exact fun J O=>yE J rfl rfl (by (try simp only [zB]);omega))
 replace N:=N.ar [] [1,2]
 refine qO call68 (fun H0 w R0 N a J=>?_) (c:=yJ (t:=acc) (s:=(((((⟨#[105,110,112,117,116,32]⟩:Bs)++S.name)++(⟨#[32,58,32]⟩:Bs))++S.type)++(⟨#[10]⟩:Bs))) k (by (try simp only [zB]);omega) N)
 replace N:=N.nf
 refine go fun a J=>?_
 replace N:=N.ar [2] [2,1,2]
 refine z0 _ _ _ (by subst h;omega) ⟨(i+1),((some ⟨e,0,none⟩)),(H0),((acc++(((((⟨#[105,110,112,117,116,32]⟩:Bs)++S.name)++(⟨#[32,58,32]⟩:Bs))++S.type)++(⟨#[10]⟩:Bs)))),rfl,⟨J.pk,by exact N⟩,?_⟩
 exact ⟨.inr rfl,z1d c0 r⟩
 refine go fun a J=>?_
 refine zV (J.ks [1,5,77,78]) N (fun R mm a w=>∃(i:Nat) (bp:Option Addr) (bv:Value) (acc:Bs),mm=c.funs.length - i/\R V [(79,.int .i64 ((i:Nat):Int))] [(0,.gs (bv) 5 1 (Lib.strCells acc)),(1,.blk e (ob [.pointer bp,bv] 130))] a w/\((bp=none∨bp=some ⟨e,0,none⟩)/\acc++(qY ((c.funs.drop i).map tR)++qY (c.outputs.map uA))=kU c)) (c.funs.length - 0) ⟨0,bp,bv,acc,rfl,⟨J.pk,N⟩,⟨k,nB w0 r⟩⟩ ?_
 clear N J
 rintro mm a w ⟨i,bp,bv,acc,h,⟨J,N⟩,n⟩ q1 h0
 replace N:=N.nf
 obtain ⟨k,n⟩:=n
 by_cases T:i < c.funs.length
 refine go fun a J=>?_
 obtain ⟨S1,rfl,b,y,N0,e1,Z0,m0⟩:=P0.el B0 T
 obtain ⟨V1,u1,rfl,U,W⟩:=id m0
 obtain ⟨P1,c127,rfl,i1,k0⟩:=U.fm
 obtain ⟨Q1,c135,R1,x1,rfl,c1,A1,B1,j1,l1,k1,m1⟩:=REx.fm W
 refine Alc fun v1 w N a J=>?_
 refine Sto 0 fun w N a J=>?_
 refine go fun a J=>?_
 have a0:=j7e y n
 have f:=congrArg ByteArray.size a0
 simp only [zB] at f
 refine Qq (fun a J=>?_) (o:=by exact fun J O=>yE J rfl rfl (by (try simp only [zB]);omega))
 replace N:=N.ar [] [1,2]
 refine qO call68 (fun I0 w S0 N a J=>?_) (c:=yJ (t:=acc) (s:=((⟨#[102,117,110,32]⟩:Bs)++b.name)) k (by (try simp only [zB]);omega) N)
 replace N:=N.nf
 refine go fun a J=>?_
 refine zV (J.ks [1,5,14,77,78,79,88,89]) N (fun R mm a w=>∃(j:Nat) (e0:Value) (d:Bs),mm=b.params.length - j/\R V [(90,.int .i64 ((j:Nat):Int))] [(0,.blk e (ob [.pointer (some ⟨e,0,none⟩),e0] 130)),(1,.gs (e0) 5 1 (Lib.strCells d))] a w/\(d++(qY ((b.params.drop j).map gE)++((((⟨#[32,58,32]⟩:Bs)++b.result)++⟨#[32,61,32]⟩)++((wB b.body++⟨#[10]⟩)++(qY ((c.funs.drop (i+1)).map tR)++qY (c.outputs.map uA)))))=kU c)) (b.params.length - 0) ⟨0,I0,(acc++((⟨#[102,117,110,32]⟩:Bs)++b.name)),rfl,⟨J.pk,N⟩,a0⟩ ?_
 clear N J
 rintro mm a w ⟨j,e0,d,h,⟨J,N⟩,v⟩ r1 i0
 replace N:=N.nf
 by_cases X:j < b.params.length
 refine go fun a J=>?_
 obtain ⟨T1,rfl,A,F,O0,f1,a1,n0⟩:=U.el k0 X
 obtain rfl:=id n0
 refine Alc fun w1 w N a J=>?_
 refine Sto 0 fun w N a J=>?_
 refine go fun a J=>?_
 have f:=z4v F v
 simp only [gE,zB] at f
 refine Qq (fun a J=>?_) (o:=by exact fun J O=>yE J rfl rfl (by (try simp only [zB]);omega))
 refine Qq (fun a J=>?_) (o:=by exact fun J O=>yE J rfl rfl (by (try simp only [zB]);omega))
 refine Qq (fun a J=>?_) (o:=by exact fun J O=>yE J rfl rfl (by (try simp only [zB]);omega))
 refine Qq (fun a J=>?_) (o:=by exact fun J O=>yE J rfl rfl (by (try simp only [zB]);omega))
 replace N:=N.ar [] [2,2]
 refine qO call68 (fun J0 w T0 N a J=>?_) (c:=yJ (t:=d) (s:=(((((⟨#[32,40]⟩:Bs)++A.name)++(⟨#[32,58,32]⟩:Bs))++A.type)++(⟨#[41]⟩:Bs))) (.inr rfl) (by (try simp only [zB]);omega) N)
 replace N:=N.nf
 refine go fun a J=>?_
 replace N:=N.dl [2]
 refine i0 _ _ _ (by subst h;omega) ⟨(j+1),(J0),((d++(((((⟨#[32,40]⟩:Bs)++A.name)++(⟨#[32,58,32]⟩:Bs))++A.type)++(⟨#[41]⟩:Bs)))),rfl,⟨J.pk,by exact N⟩,?_⟩
 exact z1d F v
 refine go fun a J=>?_
 have b0:=nB X v
 have E0:=congrArg ByteArray.size b0
 simp only [zB] at E0
 have O1:=jL b.body
 refine Qq (fun a J=>?_) (o:=by exact fun J O=>yE J rfl rfl (by (try simp only [zB]);omega))
 refine Qq (fun a J=>?_) (o:=by exact fun J O=>yE J rfl rfl (by (try simp only [zB]);omega))
 replace N:=N.ar [] [1,1]
 refine qO call68 (fun W1 w U0 N a J=>?_) (c:=yJ (t:=d) (s:=(((⟨#[32,58,32]⟩:Bs)++b.result)++(⟨#[32,61,32]⟩:Bs))) (.inr rfl) (by (try simp only [zB]);omega) N)
 replace N:=N.nf
 replace N:=N.ar [] [1,1]
 refine qO call69 (fun X1 w V0 N a J=>?_) (c:=x6f (t:=(d++(((⟨#[32,58,32]⟩:Bs)++b.result)++(⟨#[32,61,32]⟩:Bs)))) (j5p D (mgQ y) (z7d P _ (mgQ y))) W (.inr rfl) T_ (by (try simp only [zB]);omega) N)
 replace N:=N.nf
 replace N:=N.ar [] [1,1]
 refine qO call70 (fun K0 w W0 N a J=>?_) (c:=aV (t:=((d++(((⟨#[32,58,32]⟩:Bs)++b.result)++(⟨#[32,61,32]⟩:Bs)))++wB b.body)) (c:=10) (.inr rfl) (by (try simp only [zB]);omega) N)
 replace N:=N.nf
 refine go fun a J=>?_
 replace N:=N.ar [2] [2,1,2]
 refine h0 _ _ _ (by subst h;omega) ⟨(i+1),((some ⟨e,0,none⟩)),(K0),((((d++(((⟨#[32,58,32]⟩:Bs)++b.result)++(⟨#[32,61,32]⟩:Bs)))++wB b.body)++⟨#[10]⟩)),rfl,⟨J.pk,by exact N⟩,?_⟩
 exact ⟨.inr rfl,x2v b0⟩
 refine go fun a J=>?_
 refine zV (J.ks [5,115,116]) N (fun R mm a w=>∃(i:Nat) (bp:Option Addr) (bv:Value) (acc:Bs),mm=c.outputs.length - i/\R V [(117,.int .i64 ((i:Nat):Int))] [(0,.gs (bv) 5 1 (Lib.strCells acc)),(1,.blk e (ob [.pointer bp,bv] 130))] a w/\((bp=none∨bp=some ⟨e,0,none⟩)/\acc++(qY ((c.outputs.drop i).map uA)++⟨#[]⟩)=kU c)) (c.outputs.length - 0) ⟨0,bp,bv,acc,rfl,⟨J.pk,N⟩,⟨k,by have h_:=nB T n;rw [<- h_,tI];rfl⟩⟩ ?_
 clear N J
 rintro mm a w ⟨i,bp,bv,acc,h,⟨J,N⟩,g⟩ s1 j0
 replace N:=N.nf
 obtain ⟨k,g⟩:=g
 by_cases Y:i < c.outputs.length
 refine go fun a J=>?_
 obtain ⟨U1,rfl,L,H,f0,g1,b1,o0⟩:=Q0.el C0 Y
 obtain rfl:f0=[.string L]:=o0
 refine go fun a J=>?_
 have f:=z4v H g
 simp only [uA,zB] at f
 refine Qq (fun a J=>?_) (o:=by exact fun J O=>yE J rfl rfl (by (try simp only [zB]);omega))
 refine Qq (fun a J=>?_) (o:=by exact fun J O=>yE J rfl rfl (by (try simp only [zB]);omega))
 replace N:=N.pl 1
 refine qO call68 (fun L0 w X0 N a J=>?_) (c:=yJ (t:=acc) (s:=(((⟨#[111,117,116,112,117,116,32]⟩:Bs)++L)++(⟨#[10]⟩:Bs))) k (by (try simp only [zB]);omega) N)
 replace N:=N.nf
 refine go fun a J=>?_
 replace N:=N.ar [] [2,1,2]
 refine j0 _ _ _ (by subst h;omega) ⟨(i+1),((some ⟨e,0,none⟩)),(L0),((acc++(((⟨#[111,117,116,112,117,116,32]⟩:Bs)++L)++(⟨#[10]⟩:Bs)))),rfl,⟨J.pk,by exact N⟩,?_⟩
 exact ⟨.inr rfl,z1d H g⟩
 refine go fun a J=>?_
 have p:=nB Y g
 rw [tI] at p
 replace N:=N.pl 1
 refine zS call71 (fun w N a J=>?_) (c:=y6p (t:=acc) N)
 by_cases Z:60000 < acc.size
 refine jS ?_
 replace N:=N.dl [2,1,0]
 exact ⟨by rw [z9n B (p▸Z)],N⟩
 replace N:=N.ar [] [1,1]
 refine zS call72 (fun w N a J=>?_) (c:=cK (t:=acc) N)
 replace N:=N.nf
 refine jS ?_
 replace N:=N.dl [0]
 exact ⟨by rw [q0l B (p▸Z),p],N⟩
 refine jS ?_
 replace N:=N.dl [0]
 exact ⟨by rw [z9o B],N⟩
end Go.Sw

namespace Go.Sw
def j5m (c:Core):List Bs:=c.outputs++c.funs.flatMap fun f=>qJ f.body
theorem j0t {c:Core} (h:yT c=0):c.outputs.length<=1000:=by
 obtain ⟨hl,_⟩:=mH h
 simp only [xX,Bool.or_eq_false_iff,decide_eq_false_iff_not] at hl
 omega
theorem j0s {c:Core} (h:yT c=0):c.funs.length<=1000000:=by
 obtain ⟨hl,_⟩:=mH h
 simp only [xX,Bool.or_eq_false_iff,decide_eq_false_iff_not] at hl
 omega
theorem z1p {c:Core} (h:yT c=0):(∀x,(jN (zI c) x).length<=6000)/\(∀x,∀y∈jN (zI c) x,y∈j5m c)/\(j5m c).length<=2000000:=by
 obtain ⟨hl,hr⟩:=mH h
 have e:wY c=true:=by simp only [qT,baQ] at hr;exact hr.1.1.1.1.1
 have d:c.funs.length<=300/\c.outputs.length<=6:=by
  simp only [xX,Bool.or_eq_false_iff,decide_eq_false_iff_not] at hl
  omega
 refine ⟨(uR h).1,fun x y b=>?_,?_⟩
 ·unfold jN tQ at b
  cases a:zL (zI c).funs x with
  | none=>rw [a] at b;simp [ex0,qJ,calledPs,calledPa] at b
  | some f=>
   rw [a] at b
   exact List.mem_append.2 (.inr (List.mem_flatMap.2 ⟨f,dW e a,b⟩))
 ·have:=y2x (l:=c.funs) (f:=fun f=>qJ f.body) (M:=6000) (fun f a=>z0e (cQ hl a))
  simp only [j5m,laQ]
  have:c.funs.length * 6000<=300 * 6000:=Nat.mul_le_mul_right _ d.1
  omega
end Go.Sw

namespace Go.Sw
open Go.Proofs
set_option maxRecDepth 20000
set_option maxHeartbeats 4000000
end Go.Sw

namespace Go.Sw
open Go.Proofs.Tryz
open Go.Proofs
set_option maxRecDepth 20000
set_option maxHeartbeats 4000000
theorem x3w {V:Fz} {K:List Res} {w:World} {p:Addr} {T:Table} {mb:Nat} {ds:List Bs} (rT:RTableW V p T) (hl:T.core.funs.length<=1000000) (N:Mem V (.mp mb (jI ds)::K) w) :
  Calls prog 92 #[.pointer (some p),.map (some mb)] w (fun ee w'=>∃y:Value,ee=.returned y/\True/\Mem V (.gs y 9 1 (strs (cS T.core.funs ds))::K) w'):=by
 obtain ⟨z1,z2,z3,z4,m5,m6,m7,m8,d9,t,d,P,S⟩:=rT.ex
 obtain ⟨e0,Z,rfl,v,m⟩:=d.fm
 refine zM func92 ntmps92 fun Q hQ a J=>?_
 refine go fun a J=>?_
 replace N:=N.nilRow 9 1
 replace N:=N.nf
 refine zV (J.ks [1,12,13]) N (fun R mm a w=>∃(i:Nat) (u:Value) (ns:List Bs),mm=T.core.funs.length - i/\R V [(5,u),(14,.int .i64 ((i:Nat):Int))] [(0,.gs (u) 9 1 (strs ns))] a w/\(cS T.core.funs ds=ns++cS (T.core.funs.drop i) ds/\ns.length<=i)) (T.core.funs.length - 0) ⟨0,.slice none 0 0,[],rfl,⟨J.pk,N⟩,⟨rfl,Nat.zero_le _⟩⟩ ?_
 clear N J
 rintro mm a w ⟨i,u,ns,l,⟨J,N⟩,k⟩ W f
 replace N:=N.nf
 obtain ⟨h,M⟩:=k
 by_cases j:i < T.core.funs.length
 refine go fun a J=>?_
 obtain ⟨i0,rfl,e,g,A,D,B,n⟩:=d.el m j
 obtain ⟨j0,X,rfl,r,s⟩:=id n
 obtain ⟨f0,a0,rfl,E,H⟩:=r.fm
 obtain ⟨g0,b0,h0,c53,rfl,C,c0,d0,F,I,G,L⟩:=REx.fm s
 refine Alc fun Y w N a J=>?_
 refine Sto 0 fun w N a J=>?_
 refine go fun a J=>?_
 rcases c:yO ((jI ds)) e.name with _ | U
 have b:=congrArg (zK false (.bool false)) c
 refine Qq (fun a J=>?_) (o:=by exact fun J O=>Ok.cast (qG 2 runUnderlying121 runUnderlying9 zeroValue4 J O rfl rfl rfl) (show zK false (.bool false) (yO ((jI ds)) e.name)=.bool false from b))
 refine go fun a J=>?_
 replace N:=N.dl [0]
 refine f _ _ _ (by subst l;omega) ⟨(i+1),(u),(ns),rfl,⟨J.pk,N⟩,?_⟩
 exact ⟨by rw [h,zA g,q6k (z6e c)],by omega⟩
 obtain ⟨rfl,q⟩:=z6f c
 have b:=congrArg (zK false (.bool false)) c
 refine Qq (fun a J=>?_) (o:=by exact fun J O=>Ok.cast (qG 2 runUnderlying121 runUnderlying9 zeroValue4 J O rfl rfl rfl) (show zK false (.bool false) (yO ((jI ds)) e.name)=.bool true from b))
 refine qH fun k0 w N a J=>?_
 refine qP 2 wQ (fun z w N a J=>?_)
 refine go fun a J=>?_
 first | rw [jM] at N | rw [<- yP] at N
 replace N:=N.dl [1,0]
 refine f _ _ _ (by subst l;omega) ⟨(i+1),(z),(ns++[e.name]),rfl,⟨J.pk,N⟩,?_⟩
 exact ⟨by rw [h,zA g,z8c q,List.append_assoc];rfl,by simp only [laQ,lcQ,lnQ];omega⟩
 refine zF ?_
 replace N:=N.dl [1]
 rw [h,zE j,q0h,List.append_nil];exact ⟨_,rfl,trivial,N⟩
theorem y7t {V:Fz} {K:List Res} {w:World} {d0:List Value} {c:Core} {v:Value} (t:RCoreX V d0 c v) (f:yT c=0) (F:c.outputs≠[]) (G:Glob V) (N:Mem V (.gs v 9 1 (strs c.outputs)::K) w) :
  Calls prog 37 #[.agg d0.toArray] w (fun ee w'=>∃y:Fz×Value×List Bs,ee=.returned (.tuple #[y.2.1,.int .i64 ((0:Nat):Int)])/\(V.Le y.1/\Reached (zI c) c.outputs y.2.2)/\Mem y.1 (.gs y.2.1 9 1 (strs (cS c.funs y.2.2))::K) w'):=by
 obtain ⟨s1,s2,s3,q4,m,rfl,rfl,h6,h7,h8⟩:=id t
 obtain ⟨p9,B,rfl,Y,b0⟩:=h6.fm
 obtain ⟨I,C,rfl,Z,c0⟩:=h7.fm
 obtain ⟨L,D,rfl,a0,e0⟩:=h8.fm
 refine zM func37 ntmps37 fun Q hQ a J=>?_
 refine Bx fun A w N a J=>?_
 replace N:=N.pl 1
 refine qO call43 (fun M w p N a J=>?_) (c:=q6g (R:=[.gs (.slice q4 c.outputs.length m) 9 1 (strs c.outputs)]) (K:=.blk A (ob [.slice p9 c.datas.length B,.slice I c.inputs.length C,.slice L c.funs.length D,.slice q4 c.outputs.length m] 27)::K) t Thaw.own G N)
 obtain ⟨u,l0⟩:=M
 obtain ⟨e,h⟩:=p
 simp only at e h N J
 rw [if_pos f,f] at J
 obtain ⟨j,r⟩:=h f
 replace G:=G.mono e
 replace N:=N.nf
 refine Qq (fun a J=>?_) (o:=by exact fun J O=>sE false J rfl rfl rfl)
 refine go fun a J=>?_
 have k:=N
 clear N
 obtain ⟨W,E,z,H,s,N⟩:=y3b (l:=c.outputs) (i:=0) k rfl F
 clear k
 have d:=N
 have b:=J
 clear N J
 rw [H] at b d
 have N:=d
 have J:=b
 clear d b
 replace N:=N.nf
 refine qO call62 (fun P w q N a J=>?_) (c:=q7c (U:=j5m c) (j).weak s (j0t f) (fun x hx=>List.mem_append.2 (.inl hx)) (z1p f).2.2 (z1p f).1 (z1p f).2.1 N)
 obtain ⟨T,n⟩:=P
 have g:=q
 simp only at g N J
 replace N:=N.nf
 refine qO call92 (fun S w X N a J=>?_) (c:=x3w (j).weak (j0s f) N)
 replace N:=N.nf
 refine jS ?_
 replace N:=N.dl [1]
 exact ⟨(u,S,n),rfl,⟨e,g⟩,N⟩
end Go.Sw

namespace Go.Sw
open Go.Proofs.Tryz
open Go.Proofs
set_option maxRecDepth 100000
theorem z6d {V:Fz} {s:Bs} {n:Int} (h:-9223372036854775808<=n/\n<=9223372036854775807):RVal V [.string s,.int .i64 n,.slice none 0 0] (.mk s n []):=RVal.iff.2 ⟨_,rfl,h,SliceOf.nil 3⟩
theorem j5a {V:Fz} {s:Bs} {n:Int} {v:Value} {l:List Val} (h:-9223372036854775808<=n/\n<=9223372036854775807) (hl:SliceOf RVal V 3 v l):RVal V [.string s,.int .i64 n,v] (.mk s n l):=RVal.iff.2 ⟨v,rfl,h,hl⟩
theorem y5w {V:Fz} {a c2:List Value} {x y:Val} (h1:RVal V a x) (c:a.length=3) (b:RVal V c2 y) (d:c2.length=3):Chunks (RVal V) 3 (a++(c2++[])) [x,y] :=
 ⟨a,_,rfl,c,h1,c2,_,rfl,d,b,rfl⟩
theorem j8g {V:Fz} {c:List Value} {s:Bs} {x:Val} (h:RVal V c x) (l:c.length=3):Chunks (RNamed V) 4 ((.string s::c)++[]) [⟨s,x⟩] :=
 ⟨.string s::c,_,rfl,by simp [l],⟨c,rfl,h⟩,rfl⟩
section
variable {V:Fz} {K:List Res} {w:World} {d0:List Value} {va v:Value}
theorem j8i (G:Glob V) (N:Mem V K w) :
  Calls prog 25 #[.string textB] w (fun ee w'=>∃y:Fz×List Value×Value,ee=.returned (.tuple #[.agg y.2.1.toArray,.int .i64 ((0:Nat):Int),.int .i64 ((0:Nat):Int)])/\(V.Le y.1/\RCoreX y.1 y.2.1 saneC y.2.2)/\Mem y.1 (.gs y.2.2 9 1 (strs saneC.outputs)::K) w'):=by
 have h1:=x4i G x0k N
 rw [j1h] at h1
 refine h1.mono fun ee w' h=>?_
 obtain ⟨⟨Ψ,v0,b,v2,v3⟩,h1,⟨d,e,f,g⟩,a⟩:=h
 obtain ⟨p,m,c,rfl,hl,_⟩:=a.toSees.gsForm (i:=0) rfl
 have hm':m=saneC.outputs.length:=by simpa [strs] using hl.symm
 subst hm'
 exact ⟨(Ψ,[v0,b,v2,.slice p saneC.outputs.length c],.slice p saneC.outputs.length c),h1,⟨d,⟨v0,b,v2,p,c,rfl,rfl,e,f,g⟩⟩,a⟩
theorem j8x (f:RCore V d0 saneC) (rl:SliceOf RNamed V 4 va y5d) (G:Glob V) (N:Mem V K w) :
  Calls prog 15 #[.agg d0.toArray,va,.int .i64 ((17:Nat):Int)] w (fun ee w'=>∃y:Fz×Addr×Nat×Value,ee=.returned (.tuple #[.agg #[.slice (some y.2.1) 1 y.2.2.1,.int .i64 ((17:Nat):Int)],.int .i64 ((0:Nat):Int)]) /\
   (V.Le y.1/\NewRow V (.slice (some y.2.1) 1 y.2.2.1)/\At y.1 (y.2.1.add (0 * 4)) [.string aY,.string sNo,.int .i64 ((7:Nat):Int),y.2.2.2])/\Mem y.1 K w'):=by
 refine (y4y (fuel:=17) f rl G N).mono fun ee w' h=>?_
 rw [j2a] at h
 obtain ⟨⟨Ψ,d⟩,h1,⟨g,i,j⟩,k⟩:=h
 obtain ⟨s,rfl,O⟩:=i
 obtain ⟨cs,hr,l⟩:=O
 obtain ⟨o,rest,rfl,n,⟨b,rfl,hb⟩,rfl⟩:=l
 obtain ⟨s2,rfl,_,_⟩:=RVal.iff.1 hb
 rcases hr with ⟨_,J⟩ | ⟨q,m,c,rfl,hl,_,a⟩
 ·cases J
 ·have e:m=1:=by simp at hl;omega
  subst e
  exact ⟨(Ψ,q,c,s2),h1,⟨g,j _ _ rfl,a (by simp)⟩,k⟩
theorem j8w (a:RCore V d0 saneC) (rl:SliceOf RNamed V 4 va y5d) (G:Glob V) (N:Mem V K w) :
  Calls prog 15 #[.agg d0.toArray,va,.int .i64 ((16:Nat):Int)] w (fun ee w'=>∃y:Fz×Option Addr×Nat,ee=.returned (.tuple #[.agg #[.slice y.2.1 0 y.2.2,.int .i64 ((0:Nat):Int)],.int .i64 ((4:Nat):Int)])/\V.Le y.1/\Mem y.1 K w'):=by
 refine (j8v (fuel:=16) a rl G N).mono fun ee w' h=>?_
 rw [j1z] at h
 obtain ⟨⟨Ψ,d⟩,h1,⟨b,e⟩,f⟩:=h
 obtain ⟨s,rfl,O⟩:=e
 obtain ⟨p,c,rfl,_⟩:=O.form (by decide)
 exact ⟨(Ψ,p,c),h1,b,f⟩
theorem j8m (a:RCore V d0 saneC) (G:Glob V) (b:Tabs V) (N:Mem V K w) :
  Calls prog 23 #[.agg d0.toArray] w (fun ee w'=>ee=.returned (.tuple #[.string textB,.int .i64 ((0:Nat):Int)])/\Mem V K w'):=by
 refine (q7a a G b N).mono fun ee w' h=>?_
 rw [j1k] at h
 exact h
theorem x0r (a:RCore V d0 saneC) (rl:SliceOf RVal V 3 va q7p) (G:Glob V) (N:Mem V K w) :
  Calls prog 20 #[.agg d0.toArray,.string dH,va,.int .i64 ((9:Nat):Int)] w (fun ee w'=>∃y:Fz×Option Addr×Nat,ee=.returned (.tuple #[.agg #[.string sNo,.int .i64 ((1:Nat):Int),.slice y.2.1 0 y.2.2],.int .i64 ((6:Nat):Int),.int .i64 ((0:Nat):Int)])/\V.Le y.1/\Mem y.1 K w'):=by
 refine (q9f (fuel:=9) a rl (fun h=>j6b h _ _) G N).mono fun ee w' h=>?_
 rw [j6c] at h
 obtain ⟨⟨Ψ,d⟩,h1,⟨b,e⟩,f⟩:=h
 obtain ⟨s,rfl,_,O⟩:=RVal.iff.1 e
 obtain ⟨p,c,rfl,_⟩:=O.form (by decide)
 exact ⟨(Ψ,p,c),h1,b,f⟩
theorem j8o (a:RCoreX V d0 saneC v) (G:Glob V) (N:Mem V (.gs v 9 1 (strs saneC.outputs)::K) w) :
  Calls prog 37 #[.agg d0.toArray] w (fun ee w'=>∃y:Fz×Value,ee=.returned (.tuple #[y.2,.int .i64 ((0:Nat):Int)])/\V.Le y.1/\Mem y.1 (.gs y.2 9 1 (strs [uF,aY])::K) w'):=by
 refine (y7t a z7z (by simp [saneC]) G N).mono fun ee w' h=>?_
 obtain ⟨⟨Ψ,v',ds⟩,h1,⟨c,d⟩,b⟩:=h
 rw [j0x d] at b
 exact ⟨(Ψ,v'),h1,c,b⟩
theorem j0l {b d f g:Value} (a:RCoreX V [b,d,f,g] saneC v) (N:Mem V K w) :
  Calls prog 58 #[.agg #[b,d,f,g],.string tH] w (fun ee w'=>ee=.returned (.bool true)/\Mem V K w'):=by
 obtain ⟨s,t,u,q,c,_,e,h1,_,_⟩:=a
 injection e with i _
 subst i
 refine (z1j h1 N).mono fun ee w' h=>?_
 rw [q5x] at h
 exact h
theorem j1a {b d f g:Value} (a:RCoreX V [b,d,f,g] saneC v) (N:Mem V K w) :
  Calls prog 58 #[.agg #[b,d,f,g],.string vV] w (fun ee w'=>ee=.returned (.bool false)/\Mem V K w'):=by
 obtain ⟨s,t,u,q,c,_,e,h1,_,_⟩:=a
 injection e with i _
 subst i
 refine (z1j h1 N).mono fun ee w' h=>?_
 rw [q6l] at h
 exact h
end
end Go.Sw

namespace Go.Sw
open Go.Proofs.Tryz
open Go.Proofs
set_option maxRecDepth 20000
set_option maxHeartbeats 4000000
theorem sane_ok {V:Fz} {K:List Res} {w:World} (G:Glob V) (p:Tabs V) (N:Mem V K w) :
  Calls prog 18 #[] w (fun ee w'=>ee=.returned (.bool true)/\Mem V K w'):=by
 refine zM func18 ntmps18 fun Q hQ a J=>?_
 refine zS call57 (fun w N a J=>?_) (c:=j5h N)
 refine qO call25 (fun y3 w i0 N a J=>?_) (c:=j8i G N)
 obtain ⟨p1,d6,v7⟩:=y3
 obtain ⟨P,l⟩:=i0
 simp only at P l N J
 replace G:=G.mono P
 replace p:=Tabs.mono p P
 obtain ⟨g1,h1,i1,f1,r0,rfl,rfl,f0,g0,h0⟩:=id l
 obtain ⟨X0,S0,rfl,s0,A0⟩:=f0.fm
 obtain ⟨Y0,c23,rfl,t0,B0⟩:=g0.fm
 obtain ⟨Z0,c27,rfl,u0,C0⟩:=h0.fm
 replace N:=N.nf
 refine Alc fun O0 w N a J=>?_
 refine Sto 0 fun w N a J=>?_
 refine yC fun a J=>?_
 refine Alc fun P0 w N a J=>?_
 refine Sto 0 fun w N a J=>?_
 refine yC fun a J=>?_
 refine yC fun a J=>?_
 refine qH fun k1 w N a J=>?_
 have f:=N
 clear N
 obtain ⟨a0,A,N,F⟩:=f.freezeRow (i:=0) rfl
 clear f
 replace G:=G.mono A
 replace p:=Tabs.mono p A
 replace l:=l.mono A
 replace N:=N.nf
 have q:SliceOf RVal a0 3 _ ([(Val.mk sNo 4 []),(Val.mk z0u 0 [])]):=⟨_,F,(show Chunks (RVal _) 3 ([.string ⟨#[]⟩,.int .i64 ((4:Nat):Int),.slice none 0 0]++([.string ⟨#[78,105,108]⟩,.int .i64 ((0:Nat):Int),.slice none 0 0]++[])) [(Val.mk sNo 4 []),(Val.mk z0u 0 [])] from y5w (z6d (by decide)) rfl (z6d (by decide)) rfl)⟩
 obtain ⟨k0,c40,z,w0,D0⟩:=q.form (by decide)
 have g:=N
 clear N
 subst z
 have N:=g
 clear g
 refine yC fun a J=>?_
 refine qH fun l1 w N a J=>?_
 have f:=N
 clear N
 obtain ⟨b0,u,N,H⟩:=f.freezeRow (i:=0) rfl
 clear f
 replace G:=G.mono u
 replace p:=Tabs.mono p u
 replace l:=l.mono u
 replace q:=q.up u
 replace N:=N.nf
 have r:SliceOf RVal b0 3 _ ([(Val.mk sNo 3 []),(Val.mk sF 0 [(Val.mk sNo 4 []),(Val.mk z0u 0 [])])]):=⟨_,H,(show Chunks (RVal _) 3 ([.string ⟨#[]⟩,.int .i64 ((3:Nat):Int),.slice none 0 0]++([.string ⟨#[67,111,110,115]⟩,.int .i64 ((0:Nat):Int),.slice k0 ([(Val.mk sNo 4 []),(Val.mk z0u 0 [])]).length c40]++[])) [(Val.mk sNo 3 []),(Val.mk sF 0 [(Val.mk sNo 4 []),(Val.mk z0u 0 [])])] from y5w (z6d (by decide)) rfl (j5a (by decide) q) rfl)⟩
 obtain ⟨l0,e0,z,x0,E0⟩:=r.form (by decide)
 have g:=N
 clear N
 subst z
 have N:=g
 clear g
 refine yC fun a J=>?_
 refine z3t fun a J=>?_
 refine qH fun m1 w N a J=>?_
 have f:=N
 clear N
 obtain ⟨c0,v,N,I⟩:=f.freezeRow (i:=0) rfl
 clear f
 replace G:=G.mono v
 replace p:=Tabs.mono p v
 replace l:=l.mono v
 replace r:=r.up v
 replace N:=N.nf
 have h:SliceOf RNamed c0 4 _ (y5d):=⟨_,I,(show Chunks (RNamed _) 4 ([.string ⟨#[120,115]⟩,.string ⟨#[67,111,110,115]⟩,.int .i64 ((0:Nat):Int),.slice l0 ([(Val.mk sNo 3 []),(Val.mk sF 0 [(Val.mk sNo 4 []),(Val.mk z0u 0 [])])]).length e0]++[]) [⟨z_xs,(Val.mk sF 0 [(Val.mk sNo 3 []),(Val.mk sF 0 [(Val.mk sNo 4 []),(Val.mk z0u 0 [])])])⟩] from j8g (j5a (by decide) r) rfl)⟩
 obtain ⟨a1,c58,z,y0,F0⟩:=h.form (by decide)
 have g:=N
 clear N
 subst z
 have N:=g
 clear g
 refine go fun a J=>?_
 have j0:=l
 have G0:=G
 obtain ⟨J0,T,t,L,j⟩:=N.freezeRowD (i:=2) rfl (by simp [saneC,strs])
 have N:=t
 clear t
 replace G:=G.mono j.le
 replace p:=Tabs.mono p j.le
 replace l:=l.mono j.le
 replace h:=h.mono RNamed.mono j.le
 replace N:=N.nf
 have d:=l.full (SliceOf.strs.2 L)
 refine qO call15 (fun m0 w U N a J=>?_) (c:=j8x d h G N)
 obtain ⟨K0,b1,T0,j1⟩:=m0
 obtain ⟨m,D,e⟩:=U
 simp only at m D e N J
 have Y:=j.ne (Fz.Le.refl _) D rfl
 replace G:=G.mono m
 replace p:=Tabs.mono p m
 replace h:=h.up m
 replace d:=RCore.mono _ _ _ _ m d
 replace N:=N.nf
 refine Alc fun Q0 w N a J=>?_
 refine Sto 0 fun w N a J=>?_
 refine qO call15 (fun n0 w W N a J=>?_) (c:=j8w d h G N)
 obtain ⟨L0,c1,U0⟩:=n0
 have n:=W
 simp only at n N J
 replace G:=G.mono n
 replace p:=Tabs.mono p n
 replace d:=RCore.mono _ _ _ _ n d
 replace e:=e.mono n
 replace N:=N.nf
 refine Alc fun R0 w N a J=>?_
 refine Sto 0 fun w N a J=>?_
 refine zS call23 (fun w N a J=>?_) (c:=j8m d G p N)
 refine yC fun a J=>?_
 refine yC fun a J=>?_
 refine qH fun n1 w N a J=>?_
 have f:=N
 clear N
 obtain ⟨d0,y,N,M⟩:=f.freezeRow (i:=0) rfl
 clear f
 replace G:=G.mono y
 replace p:=Tabs.mono p y
 replace d:=RCore.mono _ _ _ _ y d
 replace e:=e.mono y
 replace N:=N.nf
 have E:SliceOf RVal d0 3 _ (q7p):=⟨_,M,(show Chunks (RVal _) 3 ([.string ⟨#[]⟩,.int .i64 ((2:Nat):Int),.slice none 0 0]++([.string ⟨#[]⟩,.int .i64 ((3:Nat):Int),.slice none 0 0]++[])) [(Val.mk sNo 2 []),(Val.mk sNo 3 [])] from y5w (z6d (by decide)) rfl (z6d (by decide)) rfl)⟩
 obtain ⟨d1,V0,z,z0,H0⟩:=E.form (by decide)
 have g:=N
 clear N
 subst z
 have N:=g
 clear g
 refine qO call20 (fun o0 w X N a J=>?_) (c:=x0r d E G N)
 obtain ⟨M0,e1,W0⟩:=o0
 have k:=X
 simp only at k N J
 replace G:=G.mono k
 replace p:=Tabs.mono p k
 replace d:=RCore.mono _ _ _ _ k d
 replace e:=e.mono k
 replace N:=N.nf
 refine Alc fun q0 w N a J=>?_
 refine Sto 0 fun w N a J=>?_
 refine go fun a J=>?_
 obtain ⟨C,t⟩:=j.back _ _ _ ((((m).trans n).trans y).trans k) N
 have N:=t
 clear t
 have B:=j0.mono C
 have GZ:=G0.mono C
 have R:=e.del (b:=T) Y
 replace N:=N.nf
 refine qO call37 (fun Z w S N a J=>?_) (c:=j8o B GZ N)
 obtain ⟨p0,I0⟩:=Z
 have s:=S
 simp only at s N J
 replace B:=B.mono s
 replace R:=R.mono s
 replace N:=N.nf
 refine Qq (fun a J=>?_) (o:=by exact fun J O=>vI true J rfl rfl rfl)
 refine Qq (fun a J=>?_) (o:=by exact fun J O=>vI true J rfl rfl rfl)
 refine Qq (fun a J=>?_) (o:=by exact fun J O=>vI true J rfl rfl rfl)
 refine Qq (fun a J=>?_) (o:=by exact fun J O=>vI true J rfl rfl rfl)
 refine Qq (fun a J=>?_) (o:=by exact fun J O=>vI true J rfl rfl rfl)
 refine Qq (fun a J=>?_) (o:=by exact fun J O=>vI true J rfl rfl rfl)
 refine Qq (fun a J=>?_) (o:=by exact fun J O=>vI true J rfl rfl rfl)
 refine Qq (fun a J=>?_) (o:=by exact fun J O=>vI true J rfl rfl rfl)
 refine Qq (fun a J=>?_) (o:=by exact fun J O=>z2l 0 J rfl rfl runUnderlying28 sizeOf62 (by decide))
 refine Qq (fun a J=>?_) (o:=by exact fun J O=>vI true J rfl rfl rfl)
 refine Qq (fun a J=>?_) (o:=by exact fun J O=>vI true J rfl rfl rfl)
 refine zS call57 (fun w N a J=>?_) (c:=j5h N)
 refine Qq (fun a J=>?_) (o:=by exact fun J O=>y6m true J rfl rfl (decide_eq_true rfl))
 refine Qq (fun a J=>?_) (o:=by exact fun J O=>vI true J rfl rfl rfl)
 refine Qq (fun a J=>?_) (o:=by exact fun J O=>vI true J rfl rfl rfl)
 refine Qq (fun a J=>?_) (o:=by exact fun J O=>y6l 0 (2) J O rfl rfl (rfl) (by decide) runUnderlying25)
 refine Qq (fun a J=>?_) (o:=by exact fun J O=>vI true J rfl rfl rfl)
 refine zS call58 (fun w N a J=>?_) (c:=j0l B N)
 refine zS call58 (fun w N a J=>?_) (c:=j1a B N)
 refine zF ?_
 replace N:=N.le ((((((P).trans A).trans u).trans v).trans C).trans s)
 replace N:=N.dl [5,4,3,2,1,0]
 exact ⟨by rfl,N⟩
end Go.Sw

namespace Go.Sw
open Go.Proofs
section
variable {P:Program} {n:Nat} {E:List (Nat×Value)} {D:List Deferred} {a:Act} {w:World} {ty:TypeId}
end
mutual
theorem y5c:∀v:Val,q0p v v=true
 | .mk c n l=>by simp only [q0p,Val.con,Val.num,Val.args,decide_true,Bool.true_and];exact sameVs_refl l
theorem sameVs_refl:∀l:List Val,sameVs l l=true
 | []=>by simp only [sameVs]
 | x::xs=>by rw [q7o,y5c x,sameVs_refl xs];rfl
end
theorem q7n:∀l:List Named,q3k l l=true
 | []=>rfl
 | x::xs=>by rw [q7m,y5c,q7n xs];simp
end Go.Sw

namespace Go.Sw
def z1h (cur:Tx):List Tx:=if cur=[] then [] else [cur]
def dD:Tx->Tx->List Tx
 | cur,[]=>z1h cur
 | cur,b::l=>if b=32∨b=10 then z1h cur++dD [] l
  else if b=40∨b=41 then z1h cur++[b]::dD [] l
  else dD (cur++[b]) l
theorem q3o {t:Bs} {i:Nat} (h:i < t.size):(tx t).drop i=t[i]::(tx t).drop (i+1):=by
 have h1:(tx t).length=t.size:=hY t
 rw [List.drop_eq_getElem_cons (by omega)]
 congr 1
theorem tx_end {t:Bs} {i:Nat} (h:¬i < t.size):(tx t).drop i=[]:=List.drop_of_length_le (by rw [hY];omega)
theorem z5v {t:Bs} {i n:Nat}:t.extract i (i+n)=jH (((tx t).drop i).take n):=by
 apply ByteArray.ext
 rw [ByteArray.data_extract]
 apply Array.ext'
 simp only [jH,tx,Array.toList_extract,List.extract_eq_take_drop,Nat.add_sub_cancel_left]
theorem aG {b:UInt8} {k:Nat} (a:k < 256):b.toNat=k↔b=k.toUInt8:=by
 constructor
 ·intro h;apply UInt8.toNat_inj.1;rw [h,Nat.toUInt8,UInt8.toNat_ofNat'];omega
 ·intro h;rw [h,Nat.toUInt8,UInt8.toNat_ofNat'];omega
theorem y6d {t:Bs} {i:Nat} (cur:Tx):∀n,n<=yQ t i->dD cur ((tx t).drop i)=dD (cur++((tx t).drop i).take n) ((tx t).drop (i+n))
 | 0,_=>by simp
 | n+1,h=>by
  rw [y6d cur n (by omega)]
  have h1:=sA (fun c=> !y5e c) t t.size i n (by unfold yQ at h;omega)
  have b:=q3o h1.1
  have j:(((tx t).drop i).take (n+1))=((tx t).drop i).take n++[t[i+n]'h1.1]:=by
   have m:((tx t).drop i)[n]? = some (t[i+n]'h1.1):=by
    rw [List.getElem?_drop]
    have:=congrArg (fun l=>l[0]?) b
    simpa [List.getElem?_drop] using this
   rw [List.take_add_one,m];rfl
  rw [j,b,show i+(n+1)=i+n+1 by omega,<- List.append_assoc]
  have a:=h1.2
  rw [cL h1.1] at a
  simp only [y5e,Bool.not_eq_true',Bool.or_eq_false_iff,decide_eq_false_iff_not] at a
  have e (k:Nat) (o:k < 256) (p:¬(t[i+n]'h1.1).toNat=k):¬(t[i+n]'h1.1)=k.toUInt8:=fun h=>p ((aG o).2 h)
  have d:=e 32 (by decide) a.1.1.1
  have e2:=e 10 (by decide) a.1.1.2
  have f:=e 40 (by decide) a.1.2
  have g:=e 41 (by decide) a.2
  rw [dD,if_neg (by rintro (h | h);exact d h;exact e2 h),if_neg (by rintro (h | h);exact f h;exact g h)]
theorem q3u {cur l:Tx} (h:l=[]∨∃b r,l=b::r/\(b=32∨b=10∨b=40∨b=41)):dD cur l=z1h cur++dD [] l:=by
 rcases h with rfl | ⟨b,r,rfl,h⟩
 ·simp [dD,z1h]
 ·simp only [dD]
  split
  ·simp [z1h]
  ·rename_i h1
   split
   ·simp [z1h]
   ·rename_i a
    rcases h with h | h | h | h
    ·exact absurd (.inl h) h1
    ·exact absurd (.inr h) h1
    ·exact absurd (.inl h) a
    ·exact absurd (.inr h) a
theorem z8l (t:Bs):∀f i,t.size<=i+f->vZ t f i=(dD [] ((tx t).drop i)).map jH
 | f,i,g=>by
  by_cases h:i < t.size
  ·have d:=q3o h
   have hb:=cL h
   obtain ⟨f,rfl⟩:∃k,f=k+1:=⟨f - 1,by omega⟩
   by_cases h1:zH t i=32∨zH t i=10
   ·rw [q8n h g h1,d,dD,if_pos (by rw [hb] at h1;exact h1.imp (aG (by decide)).1 (aG (by decide)).1),z8l t _ (i+1) (by omega)];rfl
   ·have h1':¬(t[i]=32∨t[i]=10):=fun h=>h1 (by rw [hb];exact h.imp (aG (by decide)).2 (aG (by decide)).2)
    by_cases b:zH t i=40∨zH t i=41
    ·rw [q1f h g h1 b,d,dD,if_neg h1',if_pos (by rw [hb] at b;exact b.imp (aG (by decide)).1 (aG (by decide)).1),z8l t _ (i+1) (by omega),z5v,d];rfl
    ·rw [y6e h g h1 b]
     have n:=z9t h h1 b
     have m:=z0j (Nat.le_of_lt h)
     rw [y6d [] (yQ t i) (Nat.le_refl _),List.nil_append,z8l t _ (i+yQ t i) (by omega),q3u (cur:=((tx t).drop i).take (yQ t i)) ?_]
     ·have j:((tx t).drop i).take (yQ t i)≠[]:=by
       rw [d];intro e
       obtain ⟨k,l⟩:∃k,yQ t i=k+1:=⟨yQ t i - 1,by omega⟩
       rw [l] at e;cases e
      rw [z1h,if_neg j,z5v];rfl
     ·by_cases J:i+yQ t i < t.size
      ·have a:=y4z (fun c=> !y5e c) t t.size i (by omega) J
       refine .inr ⟨_,_,q3o J,?_⟩
       rw [show i+yL (fun c=> !y5e c) t t.size i=i+yQ t i from rfl,cL J] at a
       simp only [y5e,Bool.not_eq_false',Bool.or_eq_true,decide_eq_true_eq] at a
       rcases a with ((a | a) | a) | a
       ·exact .inl ((aG (by decide)).1 a)
       ·exact .inr (.inl ((aG (by decide)).1 a))
       ·exact .inr (.inr (.inl ((aG (by decide)).1 a)))
       ·exact .inr (.inr (.inr ((aG (by decide)).1 a)))
      ·exact .inl (tx_end J)
  ·rw [q1d h,tx_end h];rfl
termination_by f=>f
theorem j0w {t:Bs} {pos:Nat}:∀j,j < yX t pos->yK (zH t (pos+j))=true∨zH t (pos+j)=39:=by
 intro j a
 unfold yX at a
 split at a
 ·rename_i b
  split at a
  ·by_cases h1:j < yL yK t t.size pos
   ·exact .inl (sA _ _ _ _ _ h1).2
   ·by_cases d:j=yL yK t t.size pos
    ·exact .inr (by rw [d];exact b)
    ·have c:=(sA zY t t.size (pos+(yL yK t t.size pos+1)) (j - (yL yK t t.size pos+1)) (by omega)).2
     rw [show pos+(yL yK t t.size pos+1)+(j - (yL yK t t.size pos+1))=pos+j by omega] at c
     exact .inl (by simp [yK,c])
  ·exact .inl (sA _ _ _ _ _ a).2
 ·exact .inl (sA _ _ _ _ _ a).2
theorem q0f {t:Bs} {pos:Nat} {kd:Int} {k:Tok} (h:kK t pos kd=.ok k):(k.kind=5∨k.kind=kd)/\k.text=t.extract pos (pos+yX t pos):=by
 unfold kK at h
 split at h
 ·cases h
 ·simp only [Except.ok.injEq] at h
  subst h
  refine ⟨?_,rfl⟩
  simp only
  split
  ·exact .inl rfl
  ·exact .inr rfl
theorem q8b {t:Bs} {pos:Nat} {k:Tok} (h:zW t pos=.ok k) (a:k.kind=2∨k.kind=3):((k.kind=2/\qK (zH t pos)=true)∨(k.kind=3/\qS (zH t pos)=true))/\k.text=t.extract pos (pos+yX t pos):=by
 unfold zW at h
 split at h
 ·unfold z1u at h
  split at h
  ·cases h
  ·split at h
   ·cases h
   ·simp only [Except.ok.injEq] at h;subst h;simp only at a;omega
 split at h
 ·rename_i O
  obtain ⟨h1,b⟩:=q0f h
  exact ⟨.inl ⟨by omega,O⟩,b⟩
 split at h
 ·rename_i O
  obtain ⟨h1,b⟩:=q0f h
  exact ⟨.inr ⟨by omega,O⟩,b⟩
 split at h
 ·obtain ⟨_,rfl⟩:=tV h;simp only at a;omega
 split at h
 ·obtain ⟨_,rfl⟩:=tV h;simp only at a;omega
 split at h
 ·obtain ⟨_,rfl⟩:=tV h;simp only at a;omega
 ·cases h
theorem j7i {s:Bs} {κ:Int} (d:kW s=κ) (h:κ=2∨κ=3):0 < s.size/\((κ=2/\qK (zH s 0)=true)∨(κ=3/\qS (zH s 0)=true))/\∀j,j < s.size->yK (zH s j)=true∨zH s j=39:=by
 unfold kW at d
 split at d
 ·omega
 split at d
 ·rename_i k c
  split at d
  ·rename_i e
   unfold aB at c
   rw [gN] at c
   split at c
   ·cases c
   rename_i q hq
   split at c
   ·rename_i f
    split at c
    ·cases c
    rename_i k' hk'
    split at c
    ·cases c
    simp only [Except.ok.injEq,List.cons.injEq] at c
    obtain ⟨rfl,_⟩:=c
    obtain ⟨h1,g⟩:=q8b hk' (by omega)
    have i:(s.extract q (q+yX s q)).size=s.size:=by rw [<- g,e]
    rw [ByteArray.size_extract] at i
    have l:q=0:=by omega
    subst l
    refine ⟨f,?_,fun j m=>?_⟩
    ·rcases h1 with ⟨a,b⟩ | ⟨a,b⟩
     ·exact .inl ⟨by omega,b⟩
     ·exact .inr ⟨by omega,b⟩
    ·have:=j0w (t:=s) (pos:=0) j (by omega)
     rwa [Nat.zero_add] at this
   ·cases c
  ·omega
 ·omega
theorem q5r {s:Bs} (h:kW s=2∨kW s=3):0 < s.size/\((kW s=2/\qK (zH s 0)=true)∨(kW s=3/\qS (zH s 0)=true))/\∀j,j < s.size->yK (zH s j)=true∨zH s j=39:=j7i rfl h
theorem j8b {s:Bs} (h:qF s=true):kW s=2:=by simpa [qF] using h
theorem x0w {s:Bs} (h:qC s=true):kW s=3:=by simpa [qC] using h
theorem q9u:∀(f n:Nat),∀b∈gJ f n,48<=b.toNat/\b.toNat<=57
 | 0,_,_,h=>by cases h
 | f+1,n,b,h=>by
  simp only [gJ] at h
  split at h
  ·simp only [List.mem_singleton] at h;subst h;simp [Nat.toUInt8,UInt8.toNat_ofNat'];omega
  ·rcases List.mem_cons.1 h with rfl | h
   ·simp [Nat.toUInt8,UInt8.toNat_ofNat'];omega
   ·exact q9u f _ b h
theorem q6z {s:Bs} (h:kL (s.extract 0 s.size) ⟨#[40,42]⟩=true):zH s 0=40:=by
 simp only [kL,baQ,decide_eq_true_eq] at h
 obtain ⟨h1,c⟩:=h
 have h1:2<=s.size:=by
  have d:(⟨#[40,42]⟩:Bs).size=2:=rfl
  rw [ByteArray.size_extract] at h1;omega
 have a:=congrArg (fun b:Bs=>zH b 0) c
 have e:zH (⟨#[40,42]⟩:Bs) 0=40:=by decide
 rw [e] at a
 rw [<- a]
 rw [cL (by omega),cL (by rw [ByteArray.size_extract,ByteArray.size_extract];have d:(⟨#[40,42]⟩:Bs).size=2:=rfl;omega)]
 simp [ByteArray.getElem_extract]
theorem q6w {s:Bs} (hb:xK (zH s 0)=false) (a:zH s 0≠40):cC s 0=.ok 0:=by
 have hr:yL xK s s.size 0=0:=by rw [xQ,if_neg (by simp [hb])]
 unfold cC
 rw [z1v,hr,if_neg (fun h=>a (q6z h))]
theorem x4j (s:Bs):∃q,cC s s.size=.ok q/\s.size<=q:=by
 have hr:yL xK s s.size s.size=0:=by rw [xQ,if_neg (by omega)]
 refine ⟨s.size,?_,Nat.le_refl _⟩
 unfold cC
 rw [z1v,hr,if_neg]
 ·rfl
 ·intro h
  have:=jK h
  have a:(⟨#[40,42]⟩:Bs).size=2:=rfl
  omega
theorem q7w {c:Nat} (h:qK c=true∨qS c=true):xK c=false/\c≠40/\zY c=false/\c≠126:=by
 simp only [qK,qS,baQ,decide_eq_true_eq] at h
 refine ⟨?_,by omega,?_,by omega⟩
 ·simp only [xK,Bool.or_eq_false_iff,decide_eq_false_iff_not];omega
 ·simp only [zY,Bool.and_eq_false_iff,decide_eq_false_iff_not];omega
def y3p (c:Nat):Int:=if qK c then 2 else 3
theorem q3n {s:Bs} (h:qK (zH s 0)=true∨qS (zH s 0)=true):zW s 0=kK s 0 (y3p (zH s 0)):=by
 obtain ⟨_,_,a,b⟩:=q7w h
 unfold zW y3p
 rw [if_neg (by simp [a,b])]
 by_cases O:qK (zH s 0)=true
 ·rw [if_pos O,if_pos O]
 ·rw [if_neg O,if_neg O,if_pos (h.resolve_left O)]
theorem gU {s:Bs} (f:s.size<=24) (b:0 < s.size) (h:qK (zH s 0)=true∨qS (zH s 0)=true) :
  kW s=if yX s 0=s.size then (if z1k s then 5 else y3p (zH s 0)) else 0:=by
 have hl:=y3z s 0 (by omega)
 obtain ⟨h1,d,_,_⟩:=q7w h
 have i:kK s 0 (y3p (zH s 0))=.ok ⟨if z1k (s.extract 0 (0+yX s 0)) then 5 else y3p (zH s 0),0,s.extract 0 (0+yX s 0),0⟩:=by
  unfold kK;rw [if_neg (by omega)]
 unfold kW
 rw [if_neg (by omega)]
 unfold aB
 rw [gN,q6w h1 d]
 simp only [if_pos b,q3n h,i]
 by_cases O:yX s 0=s.size
 ·have j:s.extract 0 (0+yX s 0)=s:=by rw [O,Nat.zero_add];simp
  rw [j,if_pos O]
  obtain ⟨q,hq,g⟩:=x4j s
  have:gN s s.size (0+s.size)=.ok []:=by
   rw [Nat.zero_add,show s.size=(s.size - 1)+1 by omega,gN,show s.size - 1+1=s.size by omega,hq]
   simp only [if_neg (show ¬q < s.size by omega)]
  rw [this]
  simp
 ·rw [if_neg O]
  have a:s.extract 0 (0+yX s 0)≠s:=fun e=>by
   have:=congrArg ByteArray.size e
   rw [ByteArray.size_extract] at this;omega
  cases gN s s.size (0+(s.extract 0 (0+yX s 0)).size) with
  | error c=>rfl
  | ok l=>
   cases l with
   | nil=>simp only [if_neg a]
   | cons k l=>rfl
theorem y4k {c:Nat} (h:qK c=true∨qS c=true):yK c=true:=by
 unfold yK;rcases h with h | h <;> simp [h]
theorem q8l {s:Bs} (a:0 < s.size) (h:qK (zH s 0)=true∨qS (zH s 0)=true):yL yK s s.size 0=xF s:=by
 rw [xQ,if_pos ⟨a,y4k h⟩];unfold xF;rw [Nat.zero_add];omega
theorem q2x {s:Bs} (b:0 < s.size) (h:qK (zH s 0)=true∨qS (zH s 0)=true) :
  yX s 0=s.size↔(xF s=s.size∨(zH s (xF s)=39/\xF s+1≠s.size/\xF s+1+yL zY s s.size (xF s+1)=s.size)):=by
 unfold yX
 rw [q8l b h,Nat.zero_add,Nat.zero_add]
 by_cases a:zH s (xF s)=39
 ·rw [if_pos a]
  have c:=tK (t:=s) (i:=xF s) (by omega)
  have hr:=kM zY s s.size (xF s+1) (by omega)
  split <;> omega
 ·rw [if_neg a];omega
theorem q1c {s:Bs} {lo f:Nat} (h:∀c,lo<=c->c<=f->qK c=true∨qS c=true) :
  z0t s lo f=true↔(0 < s.size/\s.size<=24/\lo<=zH s 0/\zH s 0<=f/\yX s 0=s.size):=by
 unfold z0t
 by_cases i:s.size < 1∨24 < s.size∨zH s 0 < lo∨f < zH s 0
 ·rw [if_pos i]
  refine ⟨fun g=>(by cases g),fun ⟨a,b,c,d,_⟩=>?_⟩
  omega
 ·rw [if_neg i]
  have hb:=h (zH s 0) (by omega) (by omega)
  rw [q2x (by omega) hb]
  by_cases h1:xF s=s.size
  ·rw [if_pos h1]
   exact ⟨fun _=>⟨by omega,by omega,by omega,by omega,.inl h1⟩,fun _=>rfl⟩
  ·rw [if_neg h1]
   by_cases e:zH s (xF s)≠39∨xF s+1=s.size
   ·rw [if_pos e]
    refine ⟨fun g=>(by cases g),fun ⟨_,_,_,_,g⟩=>?_⟩
    rcases g with g | ⟨g1,j,_⟩
    ·exact absurd g h1
    ·rcases e with e | e
     ·exact absurd g1 e
     ·exact absurd e j
   ·rw [if_neg e,decide_eq_true_eq]
    simp only [not_or,Decidable.not_not] at e
    exact ⟨fun g=>⟨by omega,by omega,by omega,by omega,.inr ⟨e.1,e.2,g⟩⟩,fun ⟨_,_,_,_,g⟩=>by rcases g with g | ⟨_,_,g⟩;exact absurd g h1;exact g⟩
theorem y3l (s:Bs):z1k s=sG wordsL s:=by
 unfold z1k wordsM
 have:∀l:List Bs,(yO (l.map (fun s=>(s,Value.int .i64 5))) s).isSome=sG l s:=by
  intro l
  induction l with
  | nil=>rfl
  | cons x l c=>
   simp only [List.map_cons,yO,z7s]
   by_cases a:s=x
   ·rw [if_pos a];simp [a]
   ·rw [if_neg a,c];have b:¬x=s:=fun e=>a e.symm
    simp [b]
 exact this wordsL
theorem q6b {s:Bs} (h:kW s=2∨kW s=3):s.size<=24:=by
 unfold kW at h
 by_cases a:24 < s.size
 ·rw [if_pos a] at h;omega
 ·omega
theorem x3u (s:Bs):z3o s=qF s:=by
 apply Bool.eq_iff_iff.2
 unfold z3o
 rw [baQ,q1c (fun c h1 a=>.inl (by simp [qK,h1,a])),<- y3l]
 constructor
 ·rintro ⟨⟨h1,a,e,f,g⟩,i⟩
  have O:qK (zH s 0)=true:=by simp [qK,e,f]
  simp only [qF,decide_eq_true_eq]
  rw [gU a h1 (.inl O),if_pos g,if_neg (by simpa using i),y3p,if_pos O]
 ·intro h
  have b:=j8b h
  obtain ⟨h1,a,_⟩:=q5r (.inl b)
  have d:=q6b (.inl b)
  have O:qK (zH s 0)=true:=by
   rcases a with ⟨_,a⟩ | ⟨a,_⟩
   ·exact a
   ·omega
  rw [gU d h1 (.inl O)] at b
  have hs':=O
  simp only [qK,baQ,decide_eq_true_eq] at hs'
  split at b
  ·rename_i hl
   refine ⟨⟨h1,d,hs'.1,hs'.2,hl⟩,?_⟩
   split at b
   ·cases b
   ·rename_i j;simpa using j
  ·cases b
theorem j2u {s:Bs} (h:z1k s=true):qK (zH s 0)=true:=by
 rw [y3l] at h
 have:=(z5h (l:=wordsL)).1 h
 simp only [wordsL,List.mem_cons,List.not_mem_nil,or_false] at this
 rcases this with rfl | rfl | rfl | rfl | rfl | rfl | rfl | rfl | rfl | rfl | rfl | rfl | rfl | rfl | rfl <;> decide
theorem j3p (s:Bs):conR s=qC s:=by
 apply Bool.eq_iff_iff.2
 unfold conR
 rw [q1c (fun c h1 a=>.inr (by simp [qS,h1,a]))]
 have e:∀c,qS c=true->qK c=false:=fun c h=>by
  simp only [qS,baQ,decide_eq_true_eq] at h
  simp only [qK,Bool.and_eq_false_iff,decide_eq_false_iff_not];omega
 constructor
 ·rintro ⟨h1,a,f,i,j⟩
  have O:qS (zH s 0)=true:=by simp [qS,f,i]
  simp only [qC,decide_eq_true_eq]
  rw [gU a h1 (.inr O),if_pos j,if_neg (fun g=>by have:=j2u g;rw [e _ O] at this;cases this),y3p,if_neg (by rw [e _ O];decide)]
 ·intro h
  have d:=x0w h
  obtain ⟨h1,a,_⟩:=q5r (.inr d)
  have b:=q6b (.inr d)
  have O:qS (zH s 0)=true:=by
   rcases a with ⟨a,_⟩ | ⟨_,a⟩
   ·omega
   ·exact a
  rw [gU b h1 (.inr O)] at d
  have hs':=O
  simp only [qS,baQ,decide_eq_true_eq] at hs'
  split at d
  ·rename_i hl;exact ⟨h1,b,hs'.1,hs'.2,hl⟩
  ·cases d
end Go.Sw
