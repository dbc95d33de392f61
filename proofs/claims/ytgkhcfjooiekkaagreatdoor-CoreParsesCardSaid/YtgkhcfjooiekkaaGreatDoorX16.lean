import Derived.Test.YtgkhcfjooiekkaaGreatDoorX15
set_option linter.unusedVariables false
set_option linter.unusedSimpArgs false
namespace Go.Sw
open Go.Proofs Go.Proofs.Tryz
set_option maxRecDepth 20000
set_option maxHeartbeats 4000000
section
variable {ws:List Bs}
theorem q6q:∀f,LeY ws (pN ws f)
 | 0=>fun s h=>h
 | f+1=>fun s h=>by
  unfold pN
  split
  ·exact conY_le s h
  ·rename_i g
   simp only [not_or,Decidable.not_not] at g
   exact q6q f _ (by simp only;exact wO g.2 (by decide))
theorem y5x:∀f,LeY ws (vC ws f)
 | 0=>fun s h=>h
 | f+1=>fun s h=>by
  unfold vC
  split
  ·rename_i g
   exact y5x f _ (vV (by decide) (z8u (s.1+1,s.2) (wO g.2 (by decide))))
  ·exact h
theorem x3b (c:Core):LeY ws (pX ws c):=fun s h=>by
 unfold pX
 have a:∀{w:Bs},w≠sNo->zB ws s.1=w->s.1+1<=ws.length:=fun b g=>wO g b
 split
 ·rename_i g
  exact q6q _ _ (vV (by decide) (kR false (s.1+1,s.2) (a (by decide) g)))
 ·split
  ·rename_i g
   exact z8u (s.1+1,s.2) (a (by decide) g)
  ·split
   ·rename_i g
    exact oK 250 _ (vV (by decide) (kR false _ (vV (by decide) (y5x _ _ (kR true (s.1+1,s.2) (a (by decide) g))))))
   ·split
    ·rename_i g
     exact kR true (s.1+1,s.2) (a (by decide) g)
    ·exact h
theorem y1i {α:Type} {t:Sr->α×Sr} {r:Nat->Rd α} (h:∀i,AtY (t (i,false)) (r i)) (a:Goes ws r) (i:Nat):(t (i,false)).2.2=true∨i < (t (i,false)).2.1:=by
 cases hr:r i with
 | ok y=>
  obtain ⟨x,j⟩:=y
  rw [y9x (h i) hr];exact .inr (a _ _ hr).1
 | error n=>
  obtain ⟨m,_,h2⟩:=z7k (h i) hr
  rw [h2];exact .inl rfl
theorem j1n (c:Core) (i:Nat):(pX ws c (i,false)).2.2=true∨i < (pX ws c (i,false)).2.1:=by
 unfold pX
 split
 ·rcases y1i (ws:=ws) q6s z7u (i+1) with g | g
  ·exact .inl g
  ·exact .inr (by simp only;omega)
 ·split
  ·rcases y1i (ws:=ws) z2y param_goes (i+1) with g | g
   ·exact .inl g
   ·exact .inr (by simp only;omega)
  ·split
   ·rcases y1i (ws:=ws) j6e y4r (i+1) with g | g
    ·exact .inl g
    ·exact .inr (by simp only;omega)
   ·split
    ·rcases y1i (ws:=ws) (pD true) z2w (i+1) with g | g
     ·exact .inl g
     ·exact .inr (by simp only;omega)
    ·exact .inl rfl
def q1l (c:Core):Nat:=c.datas.length+c.inputs.length+c.funs.length+c.outputs.length
theorem j8r (c:Core) (s:Sr):q1l (pX ws c s).1<=q1l c+1:=by
 unfold pX q1l
 split
 ·simp only [laQ,lcQ,lnQ];omega
 ·split
  ·simp only [laQ,lcQ,lnQ];omega
  ·split
   ·simp only [laQ,lcQ,lnQ];omega
   ·split
    ·simp only [laQ,lcQ,lnQ];omega
    ·simp only;omega
structure DeclsI (ws:List Bs) (r:Core×Sr) (c:Core) (f:Nat) (s:Sr):Prop where
 eq:r=dX ws f c s
 le:s.1<=ws.length
 gas:s.2=false->ws.length < s.1+f
 len:q1l c+f<=ws.length+1
theorem DeclsI.start:DeclsI ws (dX ws (ws.length+1) ⟨[],[],[],[]⟩ (0,false)) ⟨[],[],[],[]⟩ (ws.length+1) (0,false):=⟨rfl,Nat.zero_le _,fun _=>by simp only;omega,by simp [q1l]⟩
theorem DeclsI.next {r:Core×Sr} {c:Core} {f i:Nat} (a:DeclsI ws r c f (i,false)) (h:i < ws.length):0 < f/\DeclsI ws r (pX ws c (i,false)).1 (f - 1) (pX ws c (i,false)).2:=by
 have b:=a.gas rfl
 obtain ⟨f,rfl⟩:∃k,f=k+1:=⟨f - 1,by simp only at b;omega⟩
 have hl:=a.len
 have d:=j8r (ws:=ws) c (i,false)
 refine ⟨Nat.succ_pos _,?_,x3b c _ a.le,fun g=>?_,by simp only [Nat.add_sub_cancel];omega⟩
 ·rw [a.eq,dX,if_pos ⟨h,rfl⟩];rfl
 ·rcases j1n (ws:=ws) c i with q | q
  ·rw [g] at q;cases q
  ·simp only [Nat.add_sub_cancel] at b ⊢;omega
theorem DeclsI.fin {r:Core×Sr} {c:Core} {f:Nat} {s:Sr} (a:DeclsI ws r c f s) (h:s.2=true∨¬s.1 < ws.length):r=(c,s):=by
 rw [a.eq]
 cases f with
 | zero=>rfl
 | succ f=>rw [dX,if_neg];rcases h with h | h;simp [h];exact fun g=>h g.1
end
def aX:Core:=⟨[],[],[],[]⟩
def cI (t:Bs):Core×Sr:=dX (vE t) ((vE t).length+1) aX (0,false)
def gE (t:Bs):Core×Int×Int :=
 if 60000 < t.size then (aX,0,2)
 else if (cI t).2.2=true then (aX,(((cI t).2.1+1:Nat):Int),5)
 else if mO (cI t).1≠0 then (aX,0,mO (cI t).1)
 else ((cI t).1,0,0)
theorem x6h (t:Bs):gE t=match nG t with
  | .error c=>(aX,((c.1:Nat):Int),c.2)
  | .ok c=>(c,0,0):=by
 unfold gE
 by_cases hl:60000 < t.size
 ·rw [if_pos hl,y6b hl];rfl
 ·rw [if_neg hl]
  have h:=q0k (ws:=vE t) ((vE t).length+1) aX 0 (Nat.zero_le _) (by omega)
  cases hr:tN t with
  | error n=>
   have hr':qW (vE t) ((vE t).length+1) aX 0=.error n:=hr
   rw [hr'] at h
   obtain ⟨m,rfl,h2⟩:=h
   rw [y6c hl hr]
   have a:(cI t).2=(m,true):=h2
   rw [if_pos (congrArg Prod.snd a),a]
  | ok c=>
   have hr':qW (vE t) ((vE t).length+1) aX 0=.ok c:=hr
   rw [hr'] at h
   obtain ⟨j,h2⟩:=h
   have a:cI t=(c,(j,false)):=h2
   rw [if_neg (by rw [a];exact Bool.false_ne_true),a]
   simp only
   by_cases b:qL c=0
   ·rw [z4p hl hr b,if_neg (not_not_intro (by rw [y2o];exact b))]
   ·rw [y0j hl hr b,if_pos (by rw [y2o];exact b),y2o];rfl
theorem q0t {ws:List Bs} (a:ws.length<=1000000) (b:∀j,(zB ws j).size<=1000000):∀d,d<=1000->tV ws d
 | 0,_=>q7d a b
 | d+1,h=>q7c a (by omega) b (j9n a (by omega) (q0t a b d (by omega)))
theorem q8t {t:Bs} (h:60000 < t.size):(aX,((0:Nat):Int),((2:Nat):Int))=gE t:=by unfold gE;rw [if_pos h];rfl
theorem y5z {t:Bs} {c:Core} {i:Nat} (h:¬60000 < t.size) (a:cI t=(c,(i,true))):(aX,((i+1:Nat):Int),((5:Nat):Int))=gE t:=by
 unfold gE;rw [if_neg h,if_pos (by rw [a]),a];rfl
theorem x0w {t:Bs} {c:Core} {i:Nat} (h:¬60000 < t.size) (a:cI t=(c,(i,false))) (b:¬mO c=0):(aX,((0:Nat):Int),mO c)=gE t:=by
 unfold gE;rw [if_neg h,if_neg (by rw [a];exact Bool.false_ne_true),if_pos (by rw [a];exact b),a];rfl
theorem j3d {t:Bs} {c:Core} {i:Nat} (h:¬60000 < t.size) (a:cI t=(c,(i,false))) (b:mO c=0):(c,((0:Nat):Int),((0:Nat):Int))=gE t:=by
 unfold gE;rw [if_neg h,if_neg (by rw [a];exact Bool.false_ne_true),if_neg (by rw [a];exact not_not_intro b),a];rfl
theorem y6m (V:Fz):RCore V [.slice none 0 0,.slice none 0 0,.slice none 0 0,.slice none 0 0] aX:=⟨_,_,_,_,rfl,SliceOf.nil _,SliceOf.nil _,SliceOf.nil _,SliceOf.nil _⟩
theorem j3c {V:Fz} {K:List Res} {w:World} {s:Bs} (N:Mem V K w) :
  Calls prog 26 #[.string s] w (fun ee w'=>∃y:Fz×List Value×(Core×Int×Int),ee=.returned (.tuple #[.agg y.2.1.toArray,.int .i64 y.2.2.2.1,.int .i64 y.2.2.2.2])/\(V.Le y.1/\RCore y.1 y.2.1 y.2.2.1/\y.2.2=gE s)/\Mem y.1 K w'):=by
 obtain ⟨ws,D⟩:∃ws,ws=vE s:=⟨_,rfl⟩
 refine zI func26 ntmps26 fun Q hQ a J=>?_
 refine Alc fun b2 w N a J=>?_
 by_cases h5:60000 < s.size
 refine zU fun a J=>?_
 refine Sto 0 fun w N a J=>?_
 refine go fun a J=>?_
 have o:=N
 replace N:=N.dl [0]
 refine hQ _ _ _ (kC (i:=0) (cs:=[.slice none 0 0,.slice none 0 0,.slice none 0 0,.slice none 0 0]) J o.toSees results26 rfl rfl isAgg27 sizeOf27 rfl rfl rfl ?_)
 exact ⟨(V,_,(aX,((0:Nat):Int),((2:Nat):Int))),rfl,⟨Fz.Le.refl _,y6m _,q8t h5⟩,N⟩
 refine go fun a J=>?_
 refine st J rfl rfl rfl (kG J rfl call75 (x1y (by omega) N) fun v8 w N a J=>?_)
 replace N:=N.nf
 rw [<- D] at N
 replace N:=N.nf
 have d:=N
 clear N
 obtain ⟨w0,E,N,P⟩:=d.freezeRow (i:=0) rfl
 clear d
 replace N:=N.nf
 have L:SliceOf RStr w0 1 _ (ws):=SliceOf.strs.2 P
 obtain ⟨Y0,U0,q,a1,f1⟩:=L.form (by decide)
 have e:=N
 clear N
 subst q
 have N:=e
 clear e
 have rl:=L
 have K0:ws.length<=1000000:=by rw [D];exact Nat.le_trans (dS s.size 0) (by omega)
 have W0:∀j,(zB ws j).size<=1000000:=by rw [D];exact fun j=>q2b (fun x hx=>Nat.le_trans (dT s.size 0 x hx) (by omega)) j
 have hE:tV ws 250:=q0t K0 W0 250 (by decide)
 refine zU fun a J=>?_
 refine Bx fun R0 w N a J=>?_
 refine Alc fun S0 w N a J=>?_
 refine go fun a J=>?_
 replace N:=N.nilRow 133 2
 replace N:=N.nf
 replace N:=N.nilRow 72 2
 replace N:=N.nf
 replace N:=N.nilRow 68 8
 replace N:=N.nf
 replace N:=N.nilRow 9 1
 replace N:=N.nf
 refine zR (J.ks [2,5,6]) N (fun R mm a w=>∃(l:Fz) (g:Core) (i_:Nat) (b_:Bool) (v1:Value) (v2:Value) (v3:Value) (v4:Value) (n0:List Value) (o0:List Value) (p0:List Value) (f_:Nat),mm=f_/\R l [] [(0,.gs (v4) 9 1 (strs g.outputs)),(1,.gs (v3) 68 8 p0),(2,.gs (v2) 72 2 o0),(3,.gs (v1) 133 2 n0),(4,.blk S0 (ob [v1,v2,v3,v4] 27)),(5,.blk R0 (ob [.slice Y0 (ws).length U0,.int .i64 i_,.bool b_] 150))] a w/\(w0.Le l/\(Chunks (RData l) 2 n0 g.datas/\Chunks (RParam l) 2 o0 g.inputs/\Chunks (RFun l) 8 p0 g.funs/\DeclsI ws (cI s) g f_ (i_,b_)))) ((ws.length+1)) ⟨w0,aX,0,false,.slice none 0 0,.slice none 0 0,.slice none 0 0,.slice none 0 0,[],[],[],ws.length+1,rfl,⟨J.pk,N⟩,⟨Fz.Le.refl _,⟨rfl,rfl,rfl,D▸DeclsI.start⟩⟩⟩ ?_
 clear N J
 rintro mm a w ⟨l,g,i_,b_,v1,v2,v3,v4,n0,o0,p0,f_,V0,⟨J,N⟩,I⟩ k1 H0
 replace N:=N.nf
 obtain ⟨n,I⟩:=I
 replace rl:=rl.up n
 obtain ⟨G,r,m,H⟩:=I
 have m1:i_<=ws.length:=H.le
 refine Reg [1,1,1,2,1,1,1,2,1,1,1,1,1,1,2,1,1] [0,1,2,3,4,5,6] fun w N a J=>?_
 by_cases C0:i_ < (ws).length
 refine go fun a J=>?_
 cases b_
 refine go fun a J=>?_
 have a0:=H.next C0
 replace N:=N.ar [] [1,2,3,5]
 refine zV call76 (fun Z0 w G0 N a J=>?_) (c:=j8q K0 hE (i:=i_) (b:=false) (c:=g) rl H.le G r m (by have h_:=H.len;unfold q1l at h_;omega) N)
 obtain ⟨L0,⟨f0,g0,h0,i0⟩,⟨y0,z0,A0⟩,Q0,X0,T0⟩:=Z0
 obtain ⟨u,X,Y,Z,b0⟩:=G0
 simp only at u X Y Z b0 N J
 rw [<- b0] at a0
 obtain ⟨J0,F0⟩:=a0
 replace G:=G.mono fun _ _ h=>h.up u
 replace r:=r.mono fun _ _ h=>RParam.mono _ _ _ _ u h
 replace m:=m.mono fun _ _ h=>h.up u
 replace N:=N.nf
 refine st0 J rfl rfl (qF 5 (cs:=[v1,v2,v3,v4]) (vs:=[f0,g0,h0,i0]) J N rfl rfl rfl rfl sizeOf27 rfl (qE (N.toSees.gsOne (i:=1) rfl) (qE (N.toSees.gsOne (i:=2) rfl) (qE (N.toSees.gsOne (i:=3) rfl) (qE (N.toSees.gsOne (i:=4) rfl) rfl)))) rfl fun w N a J=>?_)
 replace N:=N.nf
 refine go fun a J=>?_
 replace N:=N.ar [] [6,1,6,3,4,5,6]
 refine H0 ((f_ - 1)) _ _ (by subst V0;exact Nat.sub_lt J0 Nat.one_pos) ⟨(L0),(Q0),(X0),(T0),(f0),(g0),(h0),(i0),(y0),(z0),(A0),(f_ - 1),rfl,⟨J.pk,by exact N⟩,?_⟩
 refine ⟨(n).trans u,?_⟩
 exact ⟨X,Y,Z,F0⟩
 have t:cI s=_:=H.fin (.inl rfl)
 refine Reg [1,1,1,1,2,1,0,1,1] [0,1,2,3,4,5,6] fun w N a J=>?_
 refine zU fun a J=>?_
 refine Sto 6 fun w N a J=>?_
 refine go fun a J=>?_
 have o:=N
 replace N:=N.dl [6,5,4,3,2,1,0]
 rotate_left
 have t:cI s=_:=H.fin (.inr C0)
 refine go fun a J=>?_
 cases b_
 refine go fun a J=>?_
 have q0:=Cap.own N (i:=0) rfl
 have d:=N
 clear N
 obtain ⟨M0,z,N,S⟩:=d.freezeRow (i:=3) rfl
 clear d
 replace G:=G.mono fun _ _ h=>h.up z
 replace r:=r.mono fun _ _ h=>RParam.mono _ _ _ _ z h
 replace m:=m.mono fun _ _ h=>h.up z
 replace N:=N.nf
 have f:SliceOf RData M0 2 _ (g.datas):=⟨_,S,G⟩
 obtain ⟨r0,j0,q,b1,g1⟩:=f.form (by decide)
 have e:=N
 clear N
 subst q
 have N:=e
 clear e
 have d:=N
 clear N
 obtain ⟨N0,A,N,T⟩:=d.freezeRow (i:=2) rfl
 clear d
 replace r:=r.mono fun _ _ h=>RParam.mono _ _ _ _ A h
 replace m:=m.mono fun _ _ h=>h.up A
 replace f:=f.up A
 replace N:=N.nf
 have k:SliceOf RParam N0 2 _ (g.inputs):=⟨_,T,r⟩
 obtain ⟨s0,k0,q,c1,h1⟩:=k.form (by decide)
 have e:=N
 clear N
 subst q
 have N:=e
 clear e
 have d:=N
 clear N
 obtain ⟨O0,B,N,U⟩:=d.freezeRow (i:=1) rfl
 clear d
 replace m:=m.mono fun _ _ h=>h.up B
 replace f:=f.up B
 replace k:=k.up B
 replace N:=N.nf
 have p:SliceOf RFun O0 8 _ (g.funs):=⟨_,U,m⟩
 obtain ⟨t0,l0,q,d1,i1⟩:=p.form (by decide)
 have e:=N
 clear N
 subst q
 have N:=e
 clear e
 have d:=N
 clear N
 obtain ⟨F,C,N,W⟩:=d.freezeRow (i:=0) rfl
 clear d
 replace f:=f.up C
 replace k:=k.up C
 replace p:=p.up C
 replace N:=N.nf
 have M:SliceOf RStr F 1 _ (g.outputs):=SliceOf.strs.2 W
 obtain ⟨u0,m0,q,e1,j1⟩:=M.form (by decide)
 have e:=N
 clear N
 subst q
 have N:=e
 clear e
 have d0:RCore F [.slice r0 (g.datas).length j0,.slice s0 (g.inputs).length k0,.slice t0 (g.funs).length l0,.slice u0 (g.outputs).length m0] g:=⟨_,_,_,_,rfl,f,k,p,M⟩
 have I0:∀v,[.slice r0 (g.datas).length j0,.slice s0 (g.inputs).length k0,.slice t0 (g.funs).length l0,.slice u0 (g.outputs).length m0][3]? = some v->Cap v:=fun v h=>by injection h with h;subst h;exact q0
 refine zO call52 (fun w N a J=>?_) (c:=j1i d0 I0 N)
 by_cases E0:mO g=0
 refine Sto 2 fun w N a J=>?_
 refine go fun a J=>?_
 have o:=N
 replace N:=N.dl [2,1,0]
 refine hQ _ _ _ (kC (i:=2) (cs:=[.slice r0 (g.datas).length j0,.slice s0 (g.inputs).length k0,.slice t0 (g.funs).length l0,.slice u0 (g.outputs).length m0]) J o.toSees results26 rfl rfl isAgg27 sizeOf27 rfl rfl rfl ?_)
 exact ⟨(F,_,(g,((0:Nat):Int),((0:Nat):Int))),rfl,⟨(((((E).trans n).trans z).trans A).trans B).trans C,d0,j3d h5 t E0⟩,N⟩
 refine zU fun a J=>?_
 refine Sto 2 fun w N a J=>?_
 refine go fun a J=>?_
 have o:=N
 replace N:=N.dl [2,1,0]
 refine hQ _ _ _ (kC (i:=2) (cs:=[.slice none 0 0,.slice none 0 0,.slice none 0 0,.slice none 0 0]) J o.toSees results26 rfl rfl isAgg27 sizeOf27 rfl rfl rfl ?_)
 exact ⟨(F,_,(aX,((0:Nat):Int),mO g)),rfl,⟨(((((E).trans n).trans z).trans A).trans B).trans C,y6m _,x0w h5 t E0⟩,N⟩
 refine Reg [1,1,1,1,2,1,0,1,1] [0,1,2,3,4,5,6] fun w N a J=>?_
 refine zU fun a J=>?_
 refine Sto 6 fun w N a J=>?_
 refine go fun a J=>?_
 have o:=N
 replace N:=N.dl [6,5,4,3,2,1,0]
 rotate_left
 all_goals (refine hQ _ _ _ (kC (i:=6) (cs:=[.slice none 0 0,.slice none 0 0,.slice none 0 0,.slice none 0 0]) J o.toSees results26 rfl rfl isAgg27 sizeOf27 rfl rfl rfl ?_);exact ⟨(l,_,(aX,((i_+1:Nat):Int),((5:Nat):Int))),rfl,⟨(E).trans n,y6m _,y5z h5 t⟩,N⟩)
theorem q9o {V:Fz} {K:List Res} {w:World} {d0 d1:List Value} {v u:Core} (b:RCore V d0 v) (a:RCore V d1 u) (h:v=u) (N:Mem V K w) :
  Calls Tryz.prog 27 #[.agg d0.toArray,.agg d1.toArray] w (fun ee w'=>ee=.returned (.bool true)/\Mem V K w'):=by
 subst h
 refine (same_ok b a N).mono fun ee w' h=>?_
 rw [j4a] at h
 exact h
theorem q4z {V:Fz} {K:List Res} {w:World} {t:Bs} (G:Glob V) (N:Mem V K w) :
  Calls Tryz.prog 25 #[.string t] w (fun ee w'=>∃y:Fz×List Value×(Core×Int×Int),ee=.returned (.tuple #[.agg y.2.1.toArray,.int .i64 y.2.2.2.1,.int .i64 y.2.2.2.2])/\(V.Le y.1/\RCore y.1 y.2.1 y.2.2.1/\y.2.2=gE t)/\Mem y.1 K w'):=by
 refine (q8u G N).mono fun ee w' h=>?_
 have d:=x6h t
 cases hr:nG t with
 | error c=>
  rw [hr] at h d
  obtain ⟨h1,h2⟩:=h
  exact ⟨(V,_,(aX,((c.1:Nat):Int),c.2)),h1,⟨Fz.Le.refl V,y6m V,d.symm⟩,h2⟩
 | ok c=>
  rw [hr] at h d
  obtain ⟨⟨Ψ,v0,f,v2,v3⟩,h1,⟨h2,g,j,k⟩,l⟩:=h
  obtain ⟨Ψ2,a,e,b⟩:=l.freezeRow (i:=0) rfl
  exact ⟨(Ψ2,[v0,f,v2,v3],(c,((0:Nat):Int),((0:Nat):Int))),h1,⟨h2.trans a,⟨v0,f,v2,v3,rfl,g.mono RData.mono a,j.mono RParam.mono a,k.mono RFun.mono a,SliceOf.strs.2 b⟩,d.symm⟩,e⟩
end Go.Sw
namespace Go.Sw
open Go.Proofs
set_option maxRecDepth 40000
set_option maxHeartbeats 4000000
def z_l:Bs:=⟨#[108]⟩
def z0q:Bs:=⟨#[78,105,108]⟩
def z_h:Bs:=⟨#[104]⟩
def z_t:Bs:=⟨#[116]⟩
def tT:Bs:=⟨#[115,117,109]⟩
def zPlus:Bs:=⟨#[43]⟩
def oW:Bs:=⟨#[67,111,110,115]⟩
def z_xs:Bs:=⟨#[120,115]⟩
def z_a:Bs:=⟨#[97]⟩
def z_b:Bs:=⟨#[98]⟩
def j8c:Bs:=⟨#[60]⟩
def y1t:Bs:=⟨#[70,97,108,115,101]⟩
def q5v:Bs:=⟨#[84,114,117,101]⟩
def z_data:Bs:=⟨#[100,97,116,97]⟩
def sV:Bs:=⟨#[76,105,115,116]⟩
def zEq:Bs:=⟨#[61]⟩
def zBar:Bs:=⟨#[124]⟩
def nU:Bs:=⟨#[73,110,116]⟩
def z_input:Bs:=⟨#[105,110,112,117,116]⟩
def z5f:Bs:=⟨#[58]⟩
def z_fun:Bs:=⟨#[102,117,110]⟩
def z9j:Bs:=⟨#[40]⟩
def z9i:Bs:=⟨#[41]⟩
def z_case:Bs:=⟨#[99,97,115,101]⟩
def q5u:Bs:=⟨#[45,62]⟩
def z_0:Bs:=⟨#[48]⟩
def aS:Bs:=⟨#[116,111,116,97,108]⟩
def x8p:Bs:=⟨#[33,120,115]⟩
def pM:Bs:=⟨#[108,101,115,115]⟩
def z_1:Bs:=⟨#[49]⟩
def x8s:Bs:=⟨#[111,117,116,112,117,116]⟩
def saneWs:List Bs:=[z_data,sV,zEq,z0q,zBar,oW,nU,sV,z_input,z_xs,z5f,sV,z_fun,tT,z9j,z_l,z5f,sV,z9i,z5f,nU,zEq,z9j,z_case,z_l,z9j,z0q,q5u,z_0,z9i,z9j,oW,z_h,z_t,q5u,z9j,zPlus,z_h,z9j,tT,z_t,z9i,z9i,z9i,z9i,z_fun,aS,z5f,nU,zEq,z9j,tT,x8p,z9i,z_fun,pM,z9j,z_a,z5f,nU,z9i,z9j,z_b,z5f,nU,z9i,z5f,nU,zEq,z9j,z_case,z9j,j8c,z_a,z_b,z9i,z9j,y1t,q5u,z_0,z9i,z9j,q5v,q5u,z_1,z9i,z9i,x8s,aS]
def saneC:Core:=⟨[⟨sV,[⟨z0q,[]⟩,⟨oW,[nU,sV]⟩]⟩],
 [⟨z_xs,sV⟩],
 [⟨tT,[⟨z_l,sV⟩],nU,(.mk 7 0 sNo [(.mk 2 0 z_l [] [])] [(.mk z0q [] (.mk 1 0 sNo [] [])),(.mk oW [z_h,z_t] (.mk 8 0 zPlus [(.mk 2 0 z_h [] []),(.mk 5 0 tT [(.mk 2 0 z_t [] [])] [])] []))])⟩,
  ⟨aS,[],nU,(.mk 5 0 tT [(.mk 3 0 z_xs [] [])] [])⟩,
  ⟨pM,[⟨z_a,nU⟩,⟨z_b,nU⟩],nU,(.mk 7 0 sNo [(.mk 8 0 j8c [(.mk 2 0 z_a [] []),(.mk 2 0 z_b [] [])] [])] [(.mk y1t [] (.mk 1 0 sNo [] [])),(.mk q5v [] (.mk 1 1 sNo [] []))])⟩],
 [aS]⟩
def z1v:List Named:=[⟨z_xs,.mk oW 0 [.mk sNo 3 [],.mk oW 0 [.mk sNo 4 [],(.mk z0q 0 [])]]⟩]
def z6u:List Val:=[.mk sNo 2 [],.mk sNo 3 []]
def saneO:Outcome:=⟨[⟨aS,.mk sNo 7 []⟩],17⟩
theorem j4w:vE y0u=saneWs:=by kernel_rfl
theorem x1e:tN y0u=.ok saneC:=by
 unfold tN;rw [j4w];kernel_rfl
theorem z8q:qL saneC=0:=by kernel_rfl
theorem j3e:nG y0u=.ok saneC:=z4p (by decide) x1e z8q
theorem j3w:z3j saneC z1v 17=(saneO,0):=by kernel_rfl
theorem j3v:z3j saneC z1v 16=(y9g,4):=by kernel_rfl
theorem j3g:uO saneC=(y0u,0):=by kernel_rfl
theorem q7w:xD saneC.datas sV=true:=by kernel_rfl
theorem q8j:xD saneC.datas wG=false:=by kernel_rfl
theorem j8k:jY (zN saneC) tT=[tT]:=by kernel_rfl
theorem z9t:jY (zN saneC) aS=[tT]:=by kernel_rfl
theorem j1g:jY (zN saneC) pM=[]:=by kernel_rfl
theorem j3k {x:Bs} (h:Reach (zN saneC) pM x):x=pM:=by
 induction h with
 | refl=>rfl
 | step h1 h2 a=>subst a;rw [j1g] at h2;cases h2
theorem j3h:¬cZ (zN saneC) pM:=by
 rintro ⟨x,a,hr⟩
 rw [j3k a] at hr
 have h2:wD (tF (zN saneC) pM)=false:=by kernel_rfl
 rw [h2] at hr
 cases hr
theorem x0g:zW (zN saneC).funs pM=some ⟨pM,[⟨z_a,nU⟩,⟨z_b,nU⟩],nU,(.mk 7 0 sNo [(.mk 8 0 j8c [(.mk 2 0 z_a [] []),(.mk 2 0 z_b [] [])] [])] [(.mk y1t [] (.mk 1 0 sNo [] [])),(.mk q5v [] (.mk 1 1 sNo [] []))])⟩:=by kernel_rfl
theorem j2a:sQ (zN saneC) z6u [⟨z_a,nU⟩,⟨z_b,nU⟩]=true:=by kernel_rfl
theorem q3k:wJ (vN (jR ⟨(zN saneC).funs,[]⟩) ⟨pM,[⟨z_a,nU⟩,⟨z_b,nU⟩],nU,(.mk 7 0 sNo [(.mk 8 0 j8c [(.mk 2 0 z_a [] []),(.mk 2 0 z_b [] [])] [])] [(.mk y1t [] (.mk 1 0 sNo [] [])),(.mk q5v [] (.mk 1 1 sNo [] []))])⟩ z6u) 9=.ok (.mk sNo 1 [],3):=by kernel_rfl
theorem j8j:qR saneC pM z6u 9=(.mk sNo 1 [],6,0):=by
 unfold qR
 rw [if_neg (not_not_intro z8q),if_neg (by decide),x0g]
 simp only
 rw [if_neg (by rw [j2a];decide),if_neg j3h,show (9:Int).toNat=9 from rfl,q3k]
 rfl
theorem j2t {ds:List Bs} (h:Reached (zN saneC) saneC.outputs ds):cP saneC.funs ds=[tT,aS]:=by
 have h1:=h.starts aS (by simp [saneC])
 have h2:=h.closed _ h1 tT (by rw [z9t];simp)
 have c:¬pM∈ds:=fun N=>by
  have:=h.least (fun x=>x=aS∨x=tT) (fun x b=>.inl (by simpa [saneC] using b)) (fun x b y a=>by
   rcases b with rfl | rfl
   ·rw [z9t] at a;exact .inr (by simpa using a)
   ·rw [j8k] at a;exact .inr (by simpa using a)) _ N
  rcases this with h | h <;> exact absurd h (by decide)
 show cP [_,_,_] ds=_
 rw [z8t (has_mem.2 h2),z8t (has_mem.2 h1),q8i (Bool.eq_false_iff.2 fun h=>c (has_mem.1 h)),q1u]
end Go.Sw
namespace Go.Sw
open Go.Proofs Go.Proofs.Tryz
set_option maxRecDepth 20000
set_option maxHeartbeats 4000000
structure PrintSafe (c:Core):Prop where
 size:(gF c).size<=8796093022208
 con:∀d∈c.datas,∀x∈d.cons,nE (x.name::x.fields)+(⟨#[32]⟩:Bs).size * (x.name::x.fields).length<=425
 data:∀d∈c.datas,nE (d.cons.map z9u)+(⟨#[32,124,32]⟩:Bs).size * (d.cons.map z9u).length<=6848
 body:∀f∈c.funs,wfE f.body=true
theorem x1a {V:Fz} {K:List Res} {w:World} {d0:List Value} {c:Core} (G0:RCore V d0 c) (hS:qL c=0->PrintSafe c) (G:Glob V) (T_:Tabs V) (N:Mem V K w) :
  Calls prog 23 #[.agg d0.toArray] w (fun ee w'=>ee=.returned (.tuple #[.string (uO c).1,.int .i64 (uO c).2])/\Mem V K w'):=by
 obtain ⟨p3,c4,p9,f2,m2,g2,n2,c22,rfl,h2,h8,P0,Q0,l2,n1,H1,z0,I1,A0,J1,B0⟩:=RCore.fm G0
 refine zI func23 ntmps23 fun Q hQ a J=>?_
 refine Bx fun c2 w N a J=>?_
 refine zO call36 (fun w N a J=>?_) (c:=q6o G0 G N)
 by_cases L:qL c=0
 refine Alc fun e w N a J=>?_
 refine go fun a J=>?_
 replace N:=N.nilRow 5 1
 replace N:=N.nf
 have A:=hS L
 have N1:=A.size
 refine go fun a J=>?_
 refine zR (J.ks [1,5,25,26]) N (fun R mm a w=>∃(i:Nat) (bp:Option Addr) (bv:Value) (acc:Bs),mm=c.datas.length - i/\R V [(27,.int .i64 i)] [(0,.gs (bv) 5 1 (Lib.strCells acc)),(1,.blk e (ob [.pointer bp,bv] 130))] a w/\((bp=none∨bp=some ⟨e,0,none⟩)/\acc++(aB ((c.datas.drop i).map dataB)++(aB (c.inputs.map q4j)++(aB (c.funs.map funB)++aB (c.outputs.map outB))))=gF c)) (c.datas.length - 0) ⟨0,none,.slice none 0 0,⟨#[]⟩,rfl,⟨J.pk,N⟩,⟨.inl rfl,z8f _⟩⟩ ?_
 clear N J
 rintro mm a w ⟨i,bp,bv,acc,h,⟨J,N⟩,q⟩ Y1 w0
 replace N:=N.nf
 obtain ⟨k,q⟩:=q
 by_cases p0:i < c.datas.length
 refine go fun a J=>?_
 obtain ⟨q2,rfl,y,m,y1,F1,D1,E0⟩:=h2.el n1 p0
 obtain ⟨t2,rfl,r0⟩:=id E0
 obtain ⟨o2,i2,rfl,K1,C0⟩:=r0.fm
 refine Alc fun d2 w N a J=>?_
 refine Sto 0 fun w N a J=>?_
 refine go fun a J=>?_
 replace N:=N.nilRow 9 1
 replace N:=N.nf
 refine go fun a J=>?_
 refine zR (J.ks [1,5,7,25,26,27,32,33]) N (fun R mm a w=>∃(j:Nat) (u:Value) (ac:List Bs),mm=y.cons.length - j/\R V [(8,u),(34,.int .i64 j)] [(0,.gs (u) 9 1 (strs ac))] a w/\(ac=(y.cons.map z9u).take j)) (y.cons.length - 0) ⟨0,.slice none 0 0,[],rfl,⟨J.pk,N⟩,rfl⟩ ?_
 clear N J
 rintro mm a w ⟨j,u,ac,h,⟨J,N⟩,B⟩ Z1 x0
 replace N:=N.nf
 by_cases s0:j < y.cons.length
 refine go fun a J=>?_
 obtain ⟨r2,rfl,o0,H,z1,G1,E1,F0⟩:=r0.el C0 s0
 obtain ⟨u2,rfl,t0⟩:=id F0
 obtain ⟨p2,c76,rfl,L1,M1⟩:=t0.fm
 refine Alc fun e2 w N a J=>?_
 refine Sto 0 fun w N a J=>?_
 refine yK fun v80 w N a J=>?_
 refine yU 0 vA (fun v2 w N a J=>?_) (hr:=(SliceOf.strs.1 t0).rowIn N.toSees) (h1:=cR _) (hb:=by have h_:=A.con _ (mgQ m) _ (mgQ H);have f0:(⟨#[32]⟩:Bs).size=1:=rfl;rw [f0] at h_;simp only [lcQ,lnQ,zZ] at h_ ⊢;omega)
 refine zO call67 (fun w N a J=>?_) (c:=y5e (l:=o0.name::o0.fields) (sep:=⟨#[32]⟩) (by have h_:=A.con _ (mgQ m) _ (mgQ H);omega) N)
 replace N:=N.nf
 refine yK fun w2 w N a J=>?_
 refine yU 2 vA (fun o1 w N a J=>?_) (hb:=by have h_:=A.data _ (mgQ m);have f0:(⟨#[32,124,32]⟩:Bs).size=3:=rfl;rw [f0] at h_;have q0:=congrArg List.length B;rw [List.length_take] at q0;simp only [lcQ,lnQ,zZ] at q0 ⊢;omega)
 first | rw [qM] at N | rw [<- yE] at N
 refine go fun a J=>?_
 replace N:=N.dl [1,0]
 refine x0 _ _ _ (by subst h;omega) ⟨(j+1),(o1),(ac++[z9u o0]),rfl,⟨J.pk,by exact N⟩,?_⟩
 rw [B];exact (y9e H).symm
 refine Reg [1,2,1,1,1,0,1,1,0] [1,4] fun w N a J=>?_
 have C:ac=y.cons.map z9u:=by rw [B];exact q4n s0
 have f:=z5k m q
 simp only [dataB,zL,<- C] at f
 refine Qq (fun a J=>?_) (o:=by exact fun J O=>vF J rfl rfl (by (try simp only [zL]);omega))
 refine Qq (fun a J=>?_) (o:=by exact fun J O=>vF J rfl rfl (by (try simp only [zL]);omega))
 refine zO call67 (fun w N a J=>?_) (c:=y5e (l:=ac) (sep:=⟨#[32,124,32]⟩) (by have h_:=A.data _ (mgQ m);rw [<- C] at h_;omega) N)
 replace N:=N.nf
 refine Qq (fun a J=>?_) (o:=by exact fun J O=>vF J rfl rfl (by (try simp only [zL]);omega))
 refine Qq (fun a J=>?_) (o:=by exact fun J O=>vF J rfl rfl (by (try simp only [zL]);omega))
 replace N:=N.ar [] [1,2]
 refine zV call68 (fun p1 w C1 N a J=>?_) (c:=yM (t:=acc) (s:=(((((⟨#[100,97,116,97,32]⟩:Bs)++y.name)++(⟨#[32,61,32]⟩:Bs))++(mU (⟨#[32,124,32]⟩:Bs) ac))++(⟨#[10]⟩:Bs))) k (by (try simp only [zL]);omega) N)
 replace N:=N.nf
 refine go fun a J=>?_
 replace N:=N.ar [2] [2,1,2]
 refine w0 _ _ _ (by subst h;omega) ⟨(i+1),((some ⟨e,0,none⟩)),(p1),((acc++(((((⟨#[100,97,116,97,32]⟩:Bs)++y.name)++(⟨#[32,61,32]⟩:Bs))++(mU (⟨#[32,124,32]⟩:Bs) ac))++(⟨#[10]⟩:Bs)))),rfl,⟨J.pk,by exact N⟩,?_⟩
 rw [C];exact ⟨.inr rfl,z5l m q⟩
 refine go fun a J=>?_
 refine zR (J.ks [1,5,60,61]) N (fun R mm a w=>∃(i:Nat) (bp:Option Addr) (bv:Value) (acc:Bs),mm=c.inputs.length - i/\R V [(62,.int .i64 i)] [(0,.gs (bv) 5 1 (Lib.strCells acc)),(1,.blk e (ob [.pointer bp,bv] 130))] a w/\((bp=none∨bp=some ⟨e,0,none⟩)/\acc++(aB ((c.inputs.drop i).map q4j)++(aB (c.funs.map funB)++aB (c.outputs.map outB)))=gF c)) (c.inputs.length - 0) ⟨0,bp,bv,acc,rfl,⟨J.pk,N⟩,⟨k,z0y p0 q⟩⟩ ?_
 clear N J
 rintro mm a w ⟨i,bp,bv,acc,h,⟨J,N⟩,r⟩ a2 y0
 replace N:=N.nf
 obtain ⟨k,r⟩:=r
 by_cases u0:i < c.inputs.length
 refine go fun a J=>?_
 obtain ⟨s2,rfl,M,a0,M0,d1,Y0,k0⟩:=h8.el z0 u0
 obtain rfl:=id k0
 refine Alc fun t1 w N a J=>?_
 refine Sto 0 fun w N a J=>?_
 refine go fun a J=>?_
 have f:=z5k a0 r
 simp only [q4j,zL] at f
 refine Qq (fun a J=>?_) (o:=by exact fun J O=>vF J rfl rfl (by (try simp only [zL]);omega))
 refine Qq (fun a J=>?_) (o:=by exact fun J O=>vF J rfl rfl (by (try simp only [zL]);omega))
 refine Qq (fun a J=>?_) (o:=by exact fun J O=>vF J rfl rfl (by (try simp only [zL]);omega))
 refine Qq (fun a J=>?_) (o:=by exact fun J O=>vF J rfl rfl (by (try simp only [zL]);omega))
 replace N:=N.ar [] [1,2]
 refine zV call68 (fun H0 w R0 N a J=>?_) (c:=yM (t:=acc) (s:=(((((⟨#[105,110,112,117,116,32]⟩:Bs)++M.name)++(⟨#[32,58,32]⟩:Bs))++M.type)++(⟨#[10]⟩:Bs))) k (by (try simp only [zL]);omega) N)
 replace N:=N.nf
 refine go fun a J=>?_
 replace N:=N.ar [2] [2,1,2]
 refine y0 _ _ _ (by subst h;omega) ⟨(i+1),((some ⟨e,0,none⟩)),(H0),((acc++(((((⟨#[105,110,112,117,116,32]⟩:Bs)++M.name)++(⟨#[32,58,32]⟩:Bs))++M.type)++(⟨#[10]⟩:Bs)))),rfl,⟨J.pk,by exact N⟩,?_⟩
 exact ⟨.inr rfl,z5l a0 r⟩
 refine go fun a J=>?_
 refine zR (J.ks [1,5,77,78]) N (fun R mm a w=>∃(i:Nat) (bp:Option Addr) (bv:Value) (acc:Bs),mm=c.funs.length - i/\R V [(79,.int .i64 i)] [(0,.gs (bv) 5 1 (Lib.strCells acc)),(1,.blk e (ob [.pointer bp,bv] 130))] a w/\((bp=none∨bp=some ⟨e,0,none⟩)/\acc++(aB ((c.funs.drop i).map funB)++aB (c.outputs.map outB))=gF c)) (c.funs.length - 0) ⟨0,bp,bv,acc,rfl,⟨J.pk,N⟩,⟨k,z0y u0 r⟩⟩ ?_
 clear N J
 rintro mm a w ⟨i,bp,bv,acc,h,⟨J,N⟩,n⟩ q1 g0
 replace N:=N.nf
 obtain ⟨k,n⟩:=n
 by_cases P:i < c.funs.length
 refine go fun a J=>?_
 obtain ⟨S1,rfl,b,D,N0,e1,Z0,l0⟩:=P0.el A0 P
 obtain ⟨V1,u1,rfl,S,T⟩:=id l0
 obtain ⟨P1,c127,rfl,i1,j0⟩:=S.fm
 obtain ⟨Q1,c135,R1,x1,rfl,c1,A1,B1,j1,l1,k1,m1⟩:=REx.fm T
 refine Alc fun v1 w N a J=>?_
 refine Sto 0 fun w N a J=>?_
 refine go fun a J=>?_
 have Y:=j9s D n
 have f:=congrArg ByteArray.size Y
 simp only [zL] at f
 refine Qq (fun a J=>?_) (o:=by exact fun J O=>vF J rfl rfl (by (try simp only [zL]);omega))
 replace N:=N.ar [] [1,2]
 refine zV call68 (fun I0 w S0 N a J=>?_) (c:=yM (t:=acc) (s:=((⟨#[102,117,110,32]⟩:Bs)++b.name)) k (by (try simp only [zL]);omega) N)
 replace N:=N.nf
 refine go fun a J=>?_
 refine zR (J.ks [1,5,14,77,78,79,88,89]) N (fun R mm a w=>∃(j:Nat) (b0:Value) (d:Bs),mm=b.params.length - j/\R V [(90,.int .i64 j)] [(0,.blk e (ob [.pointer (some ⟨e,0,none⟩),b0] 130)),(1,.gs (b0) 5 1 (Lib.strCells d))] a w/\(d++(aB ((b.params.drop j).map q4w)++((((⟨#[32,58,32]⟩:Bs)++b.result)++⟨#[32,61,32]⟩)++((wB b.body++⟨#[10]⟩)++(aB ((c.funs.drop (i+1)).map funB)++aB (c.outputs.map outB)))))=gF c)) (b.params.length - 0) ⟨0,I0,(acc++((⟨#[102,117,110,32]⟩:Bs)++b.name)),rfl,⟨J.pk,N⟩,Y⟩ ?_
 clear N J
 rintro mm a w ⟨j,b0,d,h,⟨J,N⟩,v⟩ r1 h0
 replace N:=N.nf
 by_cases U:j < b.params.length
 refine go fun a J=>?_
 obtain ⟨T1,rfl,z,E,O0,f1,a1,m0⟩:=S.el j0 U
 obtain rfl:=id m0
 refine Alc fun w1 w N a J=>?_
 refine Sto 0 fun w N a J=>?_
 refine go fun a J=>?_
 have f:=z5k E v
 simp only [q4w,zL] at f
 refine Qq (fun a J=>?_) (o:=by exact fun J O=>vF J rfl rfl (by (try simp only [zL]);omega))
 refine Qq (fun a J=>?_) (o:=by exact fun J O=>vF J rfl rfl (by (try simp only [zL]);omega))
 refine Qq (fun a J=>?_) (o:=by exact fun J O=>vF J rfl rfl (by (try simp only [zL]);omega))
 refine Qq (fun a J=>?_) (o:=by exact fun J O=>vF J rfl rfl (by (try simp only [zL]);omega))
 replace N:=N.ar [] [2,2]
 refine zV call68 (fun J0 w T0 N a J=>?_) (c:=yM (t:=d) (s:=(((((⟨#[32,40]⟩:Bs)++z.name)++(⟨#[32,58,32]⟩:Bs))++z.type)++(⟨#[41]⟩:Bs))) (.inr rfl) (by (try simp only [zL]);omega) N)
 replace N:=N.nf
 refine go fun a J=>?_
 replace N:=N.dl [2]
 refine h0 _ _ _ (by subst h;omega) ⟨(j+1),(J0),((d++(((((⟨#[32,40]⟩:Bs)++z.name)++(⟨#[32,58,32]⟩:Bs))++z.type)++(⟨#[41]⟩:Bs)))),rfl,⟨J.pk,by exact N⟩,?_⟩
 exact z5l E v
 refine go fun a J=>?_
 have Z:=z0y U v
 have D0:=congrArg ByteArray.size Z
 simp only [zL] at D0
 have O1:=xF b.body
 refine Qq (fun a J=>?_) (o:=by exact fun J O=>vF J rfl rfl (by (try simp only [zL]);omega))
 refine Qq (fun a J=>?_) (o:=by exact fun J O=>vF J rfl rfl (by (try simp only [zL]);omega))
 replace N:=N.ar [] [1,1]
 refine zV call68 (fun W1 w U0 N a J=>?_) (c:=yM (t:=d) (s:=(((⟨#[32,58,32]⟩:Bs)++b.result)++(⟨#[32,61,32]⟩:Bs))) (.inr rfl) (by (try simp only [zL]);omega) N)
 replace N:=N.nf
 replace N:=N.ar [] [1,1]
 refine zV call69 (fun X1 w V0 N a J=>?_) (c:=x8m (t:=(d++(((⟨#[32,58,32]⟩:Bs)++b.result)++(⟨#[32,61,32]⟩:Bs)))) (A.body _ (mgQ D)) T (.inr rfl) T_ (by (try simp only [zL]);omega) N)
 replace N:=N.nf
 replace N:=N.ar [] [1,1]
 refine zV call70 (fun K0 w W0 N a J=>?_) (c:=aQ (t:=((d++(((⟨#[32,58,32]⟩:Bs)++b.result)++(⟨#[32,61,32]⟩:Bs)))++wB b.body)) (c:=10) (.inr rfl) (by (try simp only [zL]);omega) N)
 replace N:=N.nf
 refine go fun a J=>?_
 replace N:=N.ar [2] [2,1,2]
 refine g0 _ _ _ (by subst h;omega) ⟨(i+1),((some ⟨e,0,none⟩)),(K0),((((d++(((⟨#[32,58,32]⟩:Bs)++b.result)++(⟨#[32,61,32]⟩:Bs)))++wB b.body)++⟨#[10]⟩)),rfl,⟨J.pk,by exact N⟩,?_⟩
 exact ⟨.inr rfl,x4y Z⟩
 refine go fun a J=>?_
 refine zR (J.ks [5,115,116]) N (fun R mm a w=>∃(i:Nat) (bp:Option Addr) (bv:Value) (acc:Bs),mm=c.outputs.length - i/\R V [(117,.int .i64 i)] [(0,.gs (bv) 5 1 (Lib.strCells acc)),(1,.blk e (ob [.pointer bp,bv] 130))] a w/\((bp=none∨bp=some ⟨e,0,none⟩)/\acc++(aB ((c.outputs.drop i).map outB)++⟨#[]⟩)=gF c)) (c.outputs.length - 0) ⟨0,bp,bv,acc,rfl,⟨J.pk,N⟩,⟨k,by have h_:=z0y P n;rw [<- h_,y9r];rfl⟩⟩ ?_
 clear N J
 rintro mm a w ⟨i,bp,bv,acc,h,⟨J,N⟩,g⟩ s1 i0
 replace N:=N.nf
 obtain ⟨k,g⟩:=g
 by_cases W:i < c.outputs.length
 refine go fun a J=>?_
 obtain ⟨U1,rfl,I,F,c0,g1,b1,n0⟩:=Q0.el B0 W
 obtain rfl:c0=[.string I]:=n0
 refine go fun a J=>?_
 have f:=z5k F g
 simp only [outB,zL] at f
 refine Qq (fun a J=>?_) (o:=by exact fun J O=>vF J rfl rfl (by (try simp only [zL]);omega))
 refine Qq (fun a J=>?_) (o:=by exact fun J O=>vF J rfl rfl (by (try simp only [zL]);omega))
 replace N:=N.pl 1
 refine zV call68 (fun L0 w X0 N a J=>?_) (c:=yM (t:=acc) (s:=(((⟨#[111,117,116,112,117,116,32]⟩:Bs)++I)++(⟨#[10]⟩:Bs))) k (by (try simp only [zL]);omega) N)
 replace N:=N.nf
 refine go fun a J=>?_
 replace N:=N.ar [] [2,1,2]
 refine i0 _ _ _ (by subst h;omega) ⟨(i+1),((some ⟨e,0,none⟩)),(L0),((acc++(((⟨#[111,117,116,112,117,116,32]⟩:Bs)++I)++(⟨#[10]⟩:Bs)))),rfl,⟨J.pk,by exact N⟩,?_⟩
 exact ⟨.inr rfl,z5l F g⟩
 refine go fun a J=>?_
 have p:=z0y W g
 rw [y9r] at p
 replace N:=N.pl 1
 refine zO call71 (fun w N a J=>?_) (c:=y8d (t:=acc) N)
 by_cases X:60000 < acc.size
 refine jO ?_
 replace N:=N.dl [2,1,0]
 exact ⟨by rw [q9b L (p▸X)],N⟩
 replace N:=N.ar [] [1,1]
 refine zO call72 (fun w N a J=>?_) (c:=cF (t:=acc) N)
 replace N:=N.nf
 refine jO ?_
 replace N:=N.dl [0]
 exact ⟨by rw [x0z L (p▸X),p],N⟩
 refine jO ?_
 replace N:=N.dl [0]
 exact ⟨by rw [q9c L],N⟩
def j7x (c:Core):List Bs:=c.outputs++c.funs.flatMap fun f=>qU f.body
theorem j2q {c:Core} (h:qL c=0):c.outputs.length<=1000:=by
 obtain ⟨hl,_⟩:=cN h
 simp only [kO,Bool.or_eq_false_iff,decide_eq_false_iff_not] at hl
 omega
theorem j2p {c:Core} (h:qL c=0):c.funs.length<=1000000:=by
 obtain ⟨hl,_⟩:=cN h
 simp only [kO,Bool.or_eq_false_iff,decide_eq_false_iff_not] at hl
 omega
theorem z1k {c:Core} (h:qL c=0):(∀x,(jY (zN c) x).length<=6000)/\(∀x,∀y∈jY (zN c) x,y∈j7x c)/\(j7x c).length<=2000000:=by
 obtain ⟨hl,hr⟩:=cN h
 have e:pA c=true:=by simp only [jA,baQ] at hr;exact hr.1.1.1.1.1
 have d:c.funs.length<=300/\c.outputs.length<=6:=by
  simp only [kO,Bool.or_eq_false_iff,decide_eq_false_iff_not] at hl
  omega
 refine ⟨(uH h).1,fun x y b=>?_,?_⟩
 ·unfold jY tF at b
  cases a:zW (zN c).funs x with
  | none=>rw [a] at b;simp [ex0,qU,calledPs,calledPa] at b
  | some f=>
   rw [a] at b
   exact List.mem_append.2 (.inr (List.mem_flatMap.2 ⟨f,dP e a,b⟩))
 ·have:=y4m (l:=c.funs) (f:=fun f=>qU f.body) (M:=6000) (fun f a=>uV (oP hl a))
  simp only [j7x,laQ]
  have:c.funs.length * 6000<=300 * 6000:=Nat.mul_le_mul_right _ d.1
  omega
theorem x5x {V:Fz} {K:List Res} {w:World} {p:Addr} {T:Table} {mb:Nat} {ds:List Bs} (rT:RTableW V p T) (hl:T.core.funs.length<=1000000) (N:Mem V (.mp mb (jG ds)::K) w) :
  Calls prog 92 #[.pointer (some p),.map (some mb)] w (fun ee w'=>∃y:Value,ee=.returned y/\True/\Mem V (.gs y 9 1 (strs (cP T.core.funs ds))::K) w'):=by
 obtain ⟨z1,z2,z3,z4,m5,m6,m7,m8,d9,t,d,P,S⟩:=rT.ex
 obtain ⟨f0,Z,rfl,v,m⟩:=d.fm
 refine zI func92 ntmps92 fun Q hQ a J=>?_
 refine go fun a J=>?_
 replace N:=N.nilRow 9 1
 replace N:=N.nf
 refine zR (J.ks [1,12,13]) N (fun R mm a w=>∃(i:Nat) (u:Value) (ns:List Bs),mm=T.core.funs.length - i/\R V [(5,u),(14,.int .i64 i)] [(0,.gs (u) 9 1 (strs ns))] a w/\(cP T.core.funs ds=ns++cP (T.core.funs.drop i) ds/\ns.length<=i)) (T.core.funs.length - 0) ⟨0,.slice none 0 0,[],rfl,⟨J.pk,N⟩,⟨rfl,Nat.zero_le _⟩⟩ ?_
 clear N J
 rintro mm a w ⟨i,u,ns,l,⟨J,N⟩,k⟩ W f
 replace N:=N.nf
 obtain ⟨h,M⟩:=k
 by_cases j:i < T.core.funs.length
 refine go fun a J=>?_
 obtain ⟨j0,rfl,e,g,A,D,B,n⟩:=d.el m j
 obtain ⟨k0,X,rfl,r,s⟩:=id n
 obtain ⟨g0,a0,rfl,E,H⟩:=r.fm
 obtain ⟨h0,b0,i0,c53,rfl,C,c0,d0,F,I,G,L⟩:=REx.fm s
 refine Alc fun Y w N a J=>?_
 refine Sto 0 fun w N a J=>?_
 refine go fun a J=>?_
 rcases c:yV ((jG ds)) e.name with _ | U
 have b:=congrArg (zK false (.bool false)) c
 refine Qq (fun a J=>?_) (o:=by exact fun J O=>Ok.cast (qG 2 runUnderlying121 runUnderlying9 zeroValue4 J O rfl rfl rfl) (show zK false (.bool false) (yV ((jG ds)) e.name)=.bool false from b))
 refine go fun a J=>?_
 replace N:=N.dl [0]
 refine f _ _ _ (by subst l;omega) ⟨(i+1),(u),(ns),rfl,⟨J.pk,N⟩,?_⟩
 exact ⟨by rw [h,zA g,q8i (z6v c)],by omega⟩
 obtain ⟨rfl,q⟩:=z6w c
 have b:=congrArg (zK false (.bool false)) c
 refine Qq (fun a J=>?_) (o:=by exact fun J O=>Ok.cast (qG 2 runUnderlying121 runUnderlying9 zeroValue4 J O rfl rfl rfl) (show zK false (.bool false) (yV ((jG ds)) e.name)=.bool true from b))
 refine yK fun l0 w N a J=>?_
 refine yU 2 vA (fun z w N a J=>?_)
 refine go fun a J=>?_
 first | rw [qM] at N | rw [<- yE] at N
 replace N:=N.dl [1,0]
 refine f _ _ _ (by subst l;omega) ⟨(i+1),(z),(ns++[e.name]),rfl,⟨J.pk,N⟩,?_⟩
 exact ⟨by rw [h,zA g,z8t q,List.append_assoc];rfl,by simp only [laQ,lcQ,lnQ];omega⟩
 refine zF ?_
 replace N:=N.dl [1]
 rw [h,zE j,q1u,List.append_nil];exact ⟨_,rfl,trivial,N⟩
theorem y9i {V:Fz} {K:List Res} {w:World} {d0:List Value} {c:Core} {v:Value} (t:RCoreX V d0 c v) (f:qL c=0) (F:c.outputs≠[]) (G:Glob V) (N:Mem V (.gs v 9 1 (strs c.outputs)::K) w) :
  Calls prog 37 #[.agg d0.toArray] w (fun ee w'=>∃y:Fz×Value×List Bs,ee=.returned (.tuple #[y.2.1,.int .i64 ((0:Nat):Int)])/\(V.Le y.1/\Reached (zN c) c.outputs y.2.2)/\Mem y.1 (.gs y.2.1 9 1 (strs (cP c.funs y.2.2))::K) w'):=by
 obtain ⟨s1,s2,s3,q4,m,rfl,rfl,h6,h7,h8⟩:=id t
 obtain ⟨p9,B,rfl,Y,b0⟩:=h6.fm
 obtain ⟨I,C,rfl,Z,c0⟩:=h7.fm
 obtain ⟨L,D,rfl,a0,f0⟩:=h8.fm
 refine zI func37 ntmps37 fun Q hQ a J=>?_
 refine Bx fun A w N a J=>?_
 replace N:=N.pl 1
 refine zV call43 (fun M w p N a J=>?_) (c:=q8e (R:=[.gs (.slice q4 c.outputs.length m) 9 1 (strs c.outputs)]) (K:=.blk A (ob [.slice p9 c.datas.length B,.slice I c.inputs.length C,.slice L c.funs.length D,.slice q4 c.outputs.length m] 27)::K) t Thaw.own G N)
 obtain ⟨u,m0⟩:=M
 obtain ⟨e,h⟩:=p
 simp only at e h N J
 rw [if_pos f,f] at J
 obtain ⟨j,r⟩:=h f
 replace G:=G.mono e
 replace N:=N.nf
 refine Qq (fun a J=>?_) (o:=by exact fun J O=>oV false J rfl rfl rfl)
 refine go fun a J=>?_
 have k:=N
 clear N
 obtain ⟨W,E,z,H,s,N⟩:=y4s (l:=c.outputs) (i:=0) k rfl F
 clear k
 have d:=N
 have b:=J
 clear N J
 rw [H] at b d
 have N:=d
 have J:=b
 clear d b
 replace N:=N.nf
 refine zV call62 (fun P w q N a J=>?_) (c:=q9e (U:=j7x c) (j).weak s (j2q f) (fun x hx=>List.mem_append.2 (.inl hx)) (z1k f).2.2 (z1k f).1 (z1k f).2.1 N)
 obtain ⟨T,n⟩:=P
 have g:=q
 simp only at g N J
 replace N:=N.nf
 refine zV call92 (fun S w X N a J=>?_) (c:=x5x (j).weak (j2p f) N)
 replace N:=N.nf
 refine jO ?_
 replace N:=N.dl [1]
 exact ⟨(u,S,n),rfl,⟨e,g⟩,N⟩
end Go.Sw
namespace Go.Sw
open Go.Proofs.Tryz
open Go.Proofs
set_option maxRecDepth 100000
theorem z6r {V:Fz} {s:Bs} {n:Int} (h:-9223372036854775808<=n/\n<=9223372036854775807):RVal V [.string s,.int .i64 n,.slice none 0 0] (.mk s n []):=RVal.iff.2 ⟨_,rfl,h,SliceOf.nil 3⟩
theorem j7j {V:Fz} {s:Bs} {n:Int} {v:Value} {l:List Val} (h:-9223372036854775808<=n/\n<=9223372036854775807) (hl:SliceOf RVal V 3 v l):RVal V [.string s,.int .i64 n,v] (.mk s n l):=RVal.iff.2 ⟨v,rfl,h,hl⟩
theorem y7n {V:Fz} {a c2:List Value} {x y:Val} (h1:RVal V a x) (b:a.length=3) (h2:RVal V c2 y) (c:c2.length=3):Chunks (RVal V) 3 (a++(c2++[])) [x,y] :=
 ⟨a,_,rfl,b,h1,c2,_,rfl,c,h2,rfl⟩
theorem x0t {V:Fz} {c:List Value} {s:Bs} {x:Val} (h:RVal V c x) (l:c.length=3):Chunks (RNamed V) 4 ((.string s::c)++[]) [⟨s,x⟩] :=
 ⟨.string s::c,_,rfl,by simp [l],⟨c,rfl,h⟩,rfl⟩
def evOk {α:Type}:Ev α->Bool
 | .stuck=>false
 | _=>true
theorem j6c {α:Type} {x:Ev α} (h:evOk x=true):x≠.stuck:=fun e=>by rw [e] at h;cases h
theorem z3s:j5i saneC z1v:=fun _ _ g=>by
 by_cases a:g < 17
 ·have h:(List.range 17).all (fun g=>evOk (vR ⟨(zN saneC).funs,inpP z1v⟩ saneC.outputs g))=true:=by kernel_rfl
  exact j6c (List.all_eq_true.1 h g (List.mem_range.2 a))
 ·have h:vR ⟨(zN saneC).funs,inpP z1v⟩ saneC.outputs 17=.ok [.mk sNo 7 []] 0:=by kernel_rfl
  have h2:=q1y h (g - 17)
  rw [show 17 - 0+(g - 17)=g by omega] at h2
  rw [h2];exact fun e=>by cases e
theorem y2j:q5w saneC pM z6u:=fun f b _ _ g=>by
 have hl:zW (zN saneC).funs pM=some f:=b
 have a:evOk (vN (jR ⟨(zN saneC).funs,[]⟩) ((zW (zN saneC).funs pM).getD ⟨sNo,[],sNo,(.mk 0 0 sNo [] [])⟩) z6u g)=true:=by
  by_cases c:g < 5
  ·have h:(List.range 5).all (fun g=>evOk (vN (jR ⟨(zN saneC).funs,[]⟩) ((zW (zN saneC).funs pM).getD ⟨sNo,[],sNo,(.mk 0 0 sNo [] [])⟩) z6u g))=true:=by kernel_rfl
   exact List.all_eq_true.1 h g (List.mem_range.2 c)
  ·have h:vN (jR ⟨(zN saneC).funs,[]⟩) ((zW (zN saneC).funs pM).getD ⟨sNo,[],sNo,(.mk 0 0 sNo [] [])⟩) z6u 5=.ok (.mk sNo 1 []) 0:=by kernel_rfl
   have h2:=q0a h (g - 5)
   rw [show 5 - 0+(g - 5)=g by omega] at h2
   rw [h2];rfl
 rw [hl] at a
 exact j6c a
theorem y1g:PrintSafe saneC where
 size:=by
  have h:decide ((gF saneC).size<=8796093022208)=true:=by kernel_rfl
  exact of_decide_eq_true h
 con d a x c:=by
  have h:saneC.datas.all (fun d=>d.cons.all fun x=>decide (nE (x.name::x.fields)+(⟨#[32]⟩:Bs).size * (x.name::x.fields).length<=425))=true:=by kernel_rfl
  exact of_decide_eq_true (List.all_eq_true.1 (List.all_eq_true.1 h d a) x c)
 data d a:=by
  have h:saneC.datas.all (fun d=>decide (nE (d.cons.map z9u)+(⟨#[32,124,32]⟩:Bs).size * (d.cons.map z9u).length<=6848))=true:=by kernel_rfl
  exact of_decide_eq_true (List.all_eq_true.1 h d a)
 body f b:=by
  have h:saneC.funs.all (fun f=>wfE f.body)=true:=by kernel_rfl
  exact List.all_eq_true.1 h f b
section
variable {V:Fz} {K:List Res} {w:World} {d0:List Value} {va v:Value}
theorem x0x (G:Glob V) (N:Mem V K w) :
  Calls prog 25 #[.string y0u] w (fun ee w'=>∃y:Fz×List Value×Value,ee=.returned (.tuple #[.agg y.2.1.toArray,.int .i64 ((0:Nat):Int),.int .i64 ((0:Nat):Int)])/\(V.Le y.1/\RCoreX y.1 y.2.1 saneC y.2.2)/\Mem y.1 (.gs y.2.2 9 1 (strs saneC.outputs)::K) w'):=by
 have h1:=q8u (t:=y0u) G N
 rw [j3e] at h1
 refine h1.mono fun ee w' h=>?_
 obtain ⟨⟨Ψ,v0,b,v2,v3⟩,h1,⟨h2,d,e,f⟩,a⟩:=h
 obtain ⟨p,m,c,rfl,hl,_⟩:=a.toSees.gsForm (i:=0) rfl
 have hm':m=saneC.outputs.length:=by simpa [strs] using hl.symm
 subst hm'
 exact ⟨(Ψ,[v0,b,v2,.slice p saneC.outputs.length c],.slice p saneC.outputs.length c),h1,⟨h2,⟨v0,b,v2,p,c,rfl,rfl,d,e,f⟩⟩,a⟩
theorem x1k (f:RCore V d0 saneC) (rl:SliceOf RNamed V 4 va z1v) (G:Glob V) (N:Mem V K w) :
  Calls prog 15 #[.agg d0.toArray,va,.int .i64 ((17:Nat):Int)] w (fun ee w'=>∃y:Fz×Addr×Nat×Value,ee=.returned (.tuple #[.agg #[.slice (some y.2.1) 1 y.2.2.1,.int .i64 ((17:Nat):Int)],.int .i64 ((0:Nat):Int)]) /\
   (V.Le y.1/\NewRow V (.slice (some y.2.1) 1 y.2.2.1)/\At y.1 (y.2.1.add (0 * 4)) [.string aS,.string sNo,.int .i64 ((7:Nat):Int),y.2.2.2])/\Mem y.1 K w'):=by
 refine (y6s (fuel:=17) f rl z3s G N).mono fun ee w' h=>?_
 rw [j3w] at h
 obtain ⟨⟨Ψ,d⟩,h1,⟨h2,g,i⟩,j⟩:=h
 obtain ⟨s,rfl,O⟩:=g
 obtain ⟨cs,hr,k⟩:=O
 obtain ⟨n,rest,rfl,l,⟨b,rfl,hb⟩,rfl⟩:=k
 obtain ⟨s2,rfl,_,_⟩:=RVal.iff.1 hb
 rcases hr with ⟨_,J⟩ | ⟨q,m,c,rfl,hl,_,a⟩
 ·cases J
 ·have e:m=1:=by simp at hl;omega
  subst e
  exact ⟨(Ψ,q,c,s2),h1,⟨h2,i _ _ rfl,a (by simp)⟩,j⟩
theorem x1j (a:RCore V d0 saneC) (rl:SliceOf RNamed V 4 va z1v) (G:Glob V) (N:Mem V K w) :
  Calls prog 15 #[.agg d0.toArray,va,.int .i64 ((16:Nat):Int)] w (fun ee w'=>∃y:Fz×Option Addr×Nat,ee=.returned (.tuple #[.agg #[.slice y.2.1 0 y.2.2,.int .i64 ((0:Nat):Int)],.int .i64 ((4:Nat):Int)])/\V.Le y.1/\Mem y.1 K w'):=by
 refine (y6s (fuel:=16) a rl z3s G N).mono fun ee w' h=>?_
 rw [j3v] at h
 obtain ⟨⟨Ψ,d⟩,h1,⟨h2,b,_⟩,e⟩:=h
 obtain ⟨s,rfl,O⟩:=b
 obtain ⟨p,c,rfl,_⟩:=O.form (by decide)
 exact ⟨(Ψ,p,c),h1,h2,e⟩
theorem x1b (a:RCore V d0 saneC) (G:Glob V) (b:Tabs V) (N:Mem V K w) :
  Calls prog 23 #[.agg d0.toArray] w (fun ee w'=>ee=.returned (.tuple #[.string y0u,.int .i64 ((0:Nat):Int)])/\Mem V K w'):=by
 refine (x1a a (fun _=>y1g) G b N).mono fun ee w' h=>?_
 rw [j3g] at h
 exact h
theorem x2r (a:RCore V d0 saneC) (rl:SliceOf RVal V 3 va z6u) (G:Glob V) (N:Mem V K w) :
  Calls prog 20 #[.agg d0.toArray,.string pM,va,.int .i64 ((9:Nat):Int)] w (fun ee w'=>∃y:Fz×Option Addr×Nat,ee=.returned (.tuple #[.agg #[.string sNo,.int .i64 ((1:Nat):Int),.slice y.2.1 0 y.2.2],.int .i64 ((6:Nat):Int),.int .i64 ((0:Nat):Int)])/\V.Le y.1/\Mem y.1 K w'):=by
 refine (j1d (fuel:=9) a rl (fun _=>y2j) G N).mono fun ee w' h=>?_
 rw [j8j] at h
 obtain ⟨⟨Ψ,d⟩,h1,⟨h2,b⟩,e⟩:=h
 obtain ⟨s,rfl,_,O⟩:=RVal.iff.1 b
 obtain ⟨p,c,rfl,_⟩:=O.form (by decide)
 exact ⟨(Ψ,p,c),h1,h2,e⟩
theorem x1c (a:RCoreX V d0 saneC v) (G:Glob V) (N:Mem V (.gs v 9 1 (strs saneC.outputs)::K) w) :
  Calls prog 37 #[.agg d0.toArray] w (fun ee w'=>∃y:Fz×Value,ee=.returned (.tuple #[y.2,.int .i64 ((0:Nat):Int)])/\V.Le y.1/\Mem y.1 (.gs y.2 9 1 (strs [tT,aS])::K) w'):=by
 refine (y9i a z8q (by simp [saneC]) G N).mono fun ee w' h=>?_
 obtain ⟨⟨Ψ,v',ds⟩,h1,⟨h2,c⟩,b⟩:=h
 rw [j2t c] at b
 exact ⟨(Ψ,v'),h1,h2,b⟩
theorem j2h {b d f g:Value} (a:RCoreX V [b,d,f,g] saneC v) (N:Mem V K w) :
  Calls prog 58 #[.agg #[b,d,f,g],.string sV] w (fun ee w'=>ee=.returned (.bool true)/\Mem V K w'):=by
 obtain ⟨s,t,u,q,c,_,e,h1,_,_⟩:=a
 injection e with i _
 subst i
 refine (z1f h1 N).mono fun ee w' h=>?_
 rw [q7w] at h
 exact h
theorem j2x {b d f g:Value} (a:RCoreX V [b,d,f,g] saneC v) (N:Mem V K w) :
  Calls prog 58 #[.agg #[b,d,f,g],.string wG] w (fun ee w'=>ee=.returned (.bool false)/\Mem V K w'):=by
 obtain ⟨s,t,u,q,c,_,e,h1,_,_⟩:=a
 injection e with i _
 subst i
 refine (z1f h1 N).mono fun ee w' h=>?_
 rw [q8j] at h
 exact h
end
end Go.Sw
namespace Go.Sw
open Go.Proofs Go.Proofs.Tryz
set_option maxRecDepth 20000
set_option maxHeartbeats 4000000
theorem sane_ok {V:Fz} {K:List Res} {w:World} (G:Glob V) (p:Tabs V) (N:Mem V K w) :
  Calls prog 18 #[] w (fun ee w'=>ee=.returned (.bool true)/\Mem V K w'):=by
 refine zI func18 ntmps18 fun Q hQ a J=>?_
 refine zO call57 (fun w N a J=>?_) (c:=j7q N)
 refine zV call25 (fun y3 w j0 N a J=>?_) (c:=x0x G N)
 obtain ⟨q1,d6,v7⟩:=y3
 obtain ⟨P,l⟩:=j0
 simp only at P l N J
 replace G:=G.mono P
 replace p:=Tabs.mono p P
 obtain ⟨h1,i1,j1,g1,s0,rfl,rfl,g0,h0,i0⟩:=id l
 obtain ⟨Y0,T0,rfl,t0,B0⟩:=g0.fm
 obtain ⟨Z0,c23,rfl,u0,C0⟩:=h0.fm
 obtain ⟨a1,c27,rfl,w0,D0⟩:=i0.fm
 replace N:=N.nf
 refine Alc fun P0 w N a J=>?_
 refine Sto 0 fun w N a J=>?_
 refine zU fun a J=>?_
 refine Alc fun Q0 w N a J=>?_
 refine Sto 0 fun w N a J=>?_
 refine zU fun a J=>?_
 refine zU fun a J=>?_
 refine yK fun l1 w N a J=>?_
 have f:=N
 clear N
 obtain ⟨a0,A,N,F⟩:=f.freezeRow (i:=0) rfl
 clear f
 replace G:=G.mono A
 replace p:=Tabs.mono p A
 replace l:=l.mono A
 replace N:=N.nf
 have q:SliceOf RVal a0 3 _ ([(Val.mk sNo 4 []),(Val.mk z0q 0 [])]):=⟨_,F,(show Chunks (RVal _) 3 ([.string ⟨#[]⟩,.int .i64 ((4:Nat):Int),.slice none 0 0]++([.string ⟨#[78,105,108]⟩,.int .i64 ((0:Nat):Int),.slice none 0 0]++[])) [(Val.mk sNo 4 []),(Val.mk z0q 0 [])] from y7n (z6r (by decide)) rfl (z6r (by decide)) rfl)⟩
 obtain ⟨l0,c40,z,x0,E0⟩:=q.form (by decide)
 have g:=N
 clear N
 subst z
 have N:=g
 clear g
 refine zU fun a J=>?_
 refine yK fun m1 w N a J=>?_
 have f:=N
 clear N
 obtain ⟨b0,u,N,H⟩:=f.freezeRow (i:=0) rfl
 clear f
 replace G:=G.mono u
 replace p:=Tabs.mono p u
 replace l:=l.mono u
 replace q:=q.up u
 replace N:=N.nf
 have r:SliceOf RVal b0 3 _ ([(Val.mk sNo 3 []),(Val.mk oW 0 [(Val.mk sNo 4 []),(Val.mk z0q 0 [])])]):=⟨_,H,(show Chunks (RVal _) 3 ([.string ⟨#[]⟩,.int .i64 ((3:Nat):Int),.slice none 0 0]++([.string ⟨#[67,111,110,115]⟩,.int .i64 ((0:Nat):Int),.slice l0 ([(Val.mk sNo 4 []),(Val.mk z0q 0 [])]).length c40]++[])) [(Val.mk sNo 3 []),(Val.mk oW 0 [(Val.mk sNo 4 []),(Val.mk z0q 0 [])])] from y7n (z6r (by decide)) rfl (j7j (by decide) q) rfl)⟩
 obtain ⟨m0,f0,z,y0,F0⟩:=r.form (by decide)
 have g:=N
 clear N
 subst z
 have N:=g
 clear g
 refine zU fun a J=>?_
 refine z3v fun a J=>?_
 refine yK fun n1 w N a J=>?_
 have f:=N
 clear N
 obtain ⟨c0,v,N,I⟩:=f.freezeRow (i:=0) rfl
 clear f
 replace G:=G.mono v
 replace p:=Tabs.mono p v
 replace l:=l.mono v
 replace r:=r.up v
 replace N:=N.nf
 have h:SliceOf RNamed c0 4 _ (z1v):=⟨_,I,(show Chunks (RNamed _) 4 ([.string ⟨#[120,115]⟩,.string ⟨#[67,111,110,115]⟩,.int .i64 ((0:Nat):Int),.slice m0 ([(Val.mk sNo 3 []),(Val.mk oW 0 [(Val.mk sNo 4 []),(Val.mk z0q 0 [])])]).length f0]++[]) [⟨z_xs,(Val.mk oW 0 [(Val.mk sNo 3 []),(Val.mk oW 0 [(Val.mk sNo 4 []),(Val.mk z0q 0 [])])])⟩] from x0t (j7j (by decide) r) rfl)⟩
 obtain ⟨b1,c58,z,z0,H0⟩:=h.form (by decide)
 have g:=N
 clear N
 subst z
 have N:=g
 clear g
 refine go fun a J=>?_
 have k0:=l
 have G0:=G
 obtain ⟨K0,T,t,L,j⟩:=N.freezeRowD (i:=2) rfl (by simp [saneC,strs])
 have N:=t
 clear t
 replace G:=G.mono j.le
 replace p:=Tabs.mono p j.le
 replace l:=l.mono j.le
 replace h:=h.mono RNamed.mono j.le
 replace N:=N.nf
 have d:=l.full (SliceOf.strs.2 L)
 refine zV call15 (fun n0 w U N a J=>?_) (c:=x1k d h G N)
 obtain ⟨L0,c1,U0,k1⟩:=n0
 obtain ⟨m,D,e⟩:=U
 simp only at m D e N J
 have Y:=j.ne (Fz.Le.refl _) D rfl
 replace G:=G.mono m
 replace p:=Tabs.mono p m
 replace h:=h.up m
 replace d:=d.up m
 replace N:=N.nf
 refine Alc fun R0 w N a J=>?_
 refine Sto 0 fun w N a J=>?_
 refine zV call15 (fun o0 w W N a J=>?_) (c:=x1j d h G N)
 obtain ⟨M0,d1,V0⟩:=o0
 have n:=W
 simp only at n N J
 replace G:=G.mono n
 replace p:=Tabs.mono p n
 replace d:=d.up n
 replace e:=e.mono n
 replace N:=N.nf
 refine Alc fun S0 w N a J=>?_
 refine Sto 0 fun w N a J=>?_
 refine zO call23 (fun w N a J=>?_) (c:=x1b d G p N)
 refine zU fun a J=>?_
 refine zU fun a J=>?_
 refine yK fun o1 w N a J=>?_
 have f:=N
 clear N
 obtain ⟨d0,y,N,M⟩:=f.freezeRow (i:=0) rfl
 clear f
 replace G:=G.mono y
 replace p:=Tabs.mono p y
 replace d:=d.up y
 replace e:=e.mono y
 replace N:=N.nf
 have E:SliceOf RVal d0 3 _ (z6u):=⟨_,M,(show Chunks (RVal _) 3 ([.string ⟨#[]⟩,.int .i64 ((2:Nat):Int),.slice none 0 0]++([.string ⟨#[]⟩,.int .i64 ((3:Nat):Int),.slice none 0 0]++[])) [(Val.mk sNo 2 []),(Val.mk sNo 3 [])] from y7n (z6r (by decide)) rfl (z6r (by decide)) rfl)⟩
 obtain ⟨e1,W0,z,A0,I0⟩:=E.form (by decide)
 have g:=N
 clear N
 subst z
 have N:=g
 clear g
 refine zV call20 (fun p0 w X N a J=>?_) (c:=x2r d E G N)
 obtain ⟨N0,f1,X0⟩:=p0
 have k:=X
 simp only at k N J
 replace G:=G.mono k
 replace p:=Tabs.mono p k
 replace d:=d.up k
 replace e:=e.mono k
 replace N:=N.nf
 refine Alc fun r0 w N a J=>?_
 refine Sto 0 fun w N a J=>?_
 refine go fun a J=>?_
 obtain ⟨C,t⟩:=j.back _ _ _ ((((m).trans n).trans y).trans k) N
 have N:=t
 clear t
 have B:=k0.mono C
 have GZ:=G0.mono C
 have R:=e.del (b:=T) Y
 replace N:=N.nf
 refine zV call37 (fun Z w S N a J=>?_) (c:=x1c B GZ N)
 obtain ⟨q0,J0⟩:=Z
 have s:=S
 simp only at s N J
 replace B:=B.mono s
 replace R:=R.mono s
 replace N:=N.nf
 refine Qq (fun a J=>?_) (o:=by exact fun J O=>xH true J rfl rfl rfl)
 refine Qq (fun a J=>?_) (o:=by exact fun J O=>xH true J rfl rfl rfl)
 refine Qq (fun a J=>?_) (o:=by exact fun J O=>xH true J rfl rfl rfl)
 refine Qq (fun a J=>?_) (o:=by exact fun J O=>xH true J rfl rfl rfl)
 refine Qq (fun a J=>?_) (o:=by exact fun J O=>xH true J rfl rfl rfl)
 refine Qq (fun a J=>?_) (o:=by exact fun J O=>xH true J rfl rfl rfl)
 refine Qq (fun a J=>?_) (o:=by exact fun J O=>xH true J rfl rfl rfl)
 refine Qq (fun a J=>?_) (o:=by exact fun J O=>xH true J rfl rfl rfl)
 refine Qq (fun a J=>?_) (o:=by exact fun J O=>z2g 0 J rfl rfl runUnderlying28 sizeOf62 (by decide))
 refine Qq (fun a J=>?_) (o:=by exact fun J O=>xH true J rfl rfl rfl)
 refine Qq (fun a J=>?_) (o:=by exact fun J O=>xH true J rfl rfl rfl)
 refine zO call57 (fun w N a J=>?_) (c:=j7q N)
 refine Qq (fun a J=>?_) (o:=by exact fun J O=>q5r true J rfl rfl (decide_eq_true rfl))
 refine Qq (fun a J=>?_) (o:=by exact fun J O=>xH true J rfl rfl rfl)
 refine Qq (fun a J=>?_) (o:=by exact fun J O=>xH true J rfl rfl rfl)
 refine Qq (fun a J=>?_) (o:=by exact fun J O=>y7y 0 (2) J O rfl rfl (rfl) (by decide) runUnderlying25)
 refine Qq (fun a J=>?_) (o:=by exact fun J O=>xH true J rfl rfl rfl)
 refine zO call58 (fun w N a J=>?_) (c:=j2h B N)
 refine zO call58 (fun w N a J=>?_) (c:=j2x B N)
 refine zF ?_
 replace N:=N.le ((((((P).trans A).trans u).trans v).trans C).trans s)
 replace N:=N.dl [5,4,3,2,1,0]
 exact ⟨by rfl,N⟩
section
variable {P:Program} {n:Nat} {E:List (Nat×Value)} {D:List Deferred} {a:Act} {w:World} {ty:TypeId}
end
theorem y8t {V:Fz} {K:List Res} {w:World} {t:Bs} (G:Glob V) (j:Tabs V) (N:Mem V K w) :
  Calls prog 6 #[.string t] w (fun ee w'=>ee=.returned (.bool true)/\Mem V K w'):=by
 refine zI func6 ntmps6 fun Q hQ a J=>?_
 refine zV call25 (fun y3 w m N a J=>?_) (c:=q4z G N)
 obtain ⟨u0,d6,C7,i8,k9⟩:=y3
 obtain ⟨e,b,g⟩:=m
 simp only at e b g N J
 replace G:=G.mono e
 replace j:=Tabs.mono j e
 replace N:=N.nf
 obtain ⟨l0,T,m0,c22,n0,U,o0,W,rfl,a0,b0,c0,d0,o,z,p,A,q,B,r,C⟩:=RCore.fm b
 refine Alc fun R w N a J=>?_
 refine Sto 0 fun w N a J=>?_
 refine zV call26 (fun n w k N a J=>?_) (c:=j3c N)
 obtain ⟨M,Z,P,j0,k0⟩:=n
 obtain ⟨d,f,h⟩:=k
 simp only at d f h N J
 replace G:=G.mono d
 replace j:=Tabs.mono j d
 replace b:=b.up d
 replace N:=N.nf
 obtain ⟨p0,X,q0,c58,r0,c64,s0,Y,rfl,f0,g0,h0,i0,s,D,u,E,v,F,y,H⟩:=RCore.fm f
 have i:=g.trans h.symm
 simp only [Prod.mk.injEq] at i
 obtain ⟨l,I,L⟩:=i
 refine Alc fun S w N a J=>?_
 refine Sto 0 fun w N a J=>?_
 refine zO call18 (fun w N a J=>?_) (c:=sane_ok G j N)
 refine zO call27 (fun w N a J=>?_) (c:=q9o b f l N)
 refine zF ?_
 replace N:=N.le ((e).trans d)
 replace N:=N.dl [1,0]
 exact ⟨by rfl,N⟩
end Go.Sw
