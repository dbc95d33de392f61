/- OptSites: for every traced program and every step the law returns true: no step makes a site that was not there, and none of Optimize does; the statement optSitesCardSaid, as it is given; nothing is assumed beyond it. -/
import Derived.Test.YtlfobekmmndchaaGreatDoorX16
set_option linter.unusedVariables false
set_option linter.unusedSimpArgs false
namespace Go.Sw
open Go.Proofs Go.Proofs.Tryz
set_option maxRecDepth 20000
set_option maxHeartbeats 4000000
theorem oG {l:List TA} {i:Nat} {a:TA} (h:l[i]? = some a):sitesTa (l.drop i)=yB a.body++sitesTa (l.drop (i+1)):=by
 rw [yI h];cases a;rfl
theorem oH {l:List TE} {i:Nat} {x:TE} (h:l[i]? = some x):sitesTs (l.drop i)=yB x++sitesTs (l.drop (i+1)):=by
 rw [yI h];rfl
mutual
theorem y0o:∀e:TE,(yB e).length<=zC e
 | .mk k nm op num site args arms body=>by
  have a:=sitesa_le arms
  have d:=sitess_le body
  rw [xI]
  simp only [yB,TE.arms,TE.body,laQ]
  have f:(if 0 < site then [site] else []).length<=1:=by split <;> simp
  omega
theorem sitess_le:∀l:List TE,(sitesTs l).length<=weightTs l
 | []=>Nat.zero_le _
 | x::l=>by
  have a:=y0o x
  have d:=sitess_le l
  simp only [sitesTs,weightTs,laQ];omega
theorem sitesa_le:∀l:List TA,(sitesTa l).length<=weightTa l
 | []=>Nat.zero_le _
 | .mk c vs b::l=>by
  have a:=y0o b
  have d:=sitesa_le l
  simp only [sitesTa,weightTa,laQ];omega
end
def jQ (l:List TFn):List Int:=l.flatMap fun f=>yB f.body
theorem pS {l:List TFn} {i:Nat} {f:TFn} (h:l[i]? = some f):jQ (l.drop i)=yB f.body++jQ (l.drop (i+1)):=by
 rw [yI h];rfl
theorem z4y:∀l:List TFn,(jQ l).length<=(l.map fun f=>zC f.body).sum
 | []=>Nat.zero_le _
 | f::l=>by
  have b:=y0o f.body
  have a:=z4y l
  simp only [jQ,List.flatMap_cons,laQ,List.map_cons,List.sum_cons] at a ⊢;omega
theorem z0i {T:Trc} (h:GoodP T):(jQ T.funs).length<=20000:=Nat.le_trans (z4y T.funs) h.fit
def y1p (z:Trc×List Rw):Prop:=GoodP z.1/\SmP z.1/\z.2.length<=500
theorem y3y {T U:Trc} {o q:List Rw} {l:List Rw} (c:∀r∈l,r.rule≠6) (h:vA T o l=some (U,q)) (a:y1p (T,o)):y1p (U,q):=by
 obtain ⟨r,_,_,rfl,d⟩:=z4a h
 obtain ⟨g1,b,g3⟩:=z3z c h a.1 a.2.1
 refine ⟨g1,b,?_⟩
 have:=a.2.2
 simp only at this ⊢
 rw [laQ,List.length_singleton];omega
theorem y3t:∀(g:Nat) (T:Trc) (o:List Rw) (i:Nat),y1p (T,o)->y1p (nV g T o i)
 | 0,_,_,_,h=>h
 | g+1,T,o,i,h=>by
  rw [nV]
  split
  ·rename_i V q hq;exact y3t g V q i (y3y (fun r a=>by have:=aA a;omega) hq h)
  ·exact h
theorem y3c:∀(l:List Nat) (z:Trc×List Rw),y1p z->y1p (l.foldl (fun s i=>nV 501 s.1 s.2 i) z)
 | [],_,h=>h
 | i::l,z,h=>y3c l _ (y3t 501 z.1 z.2 i h)
theorem y4a:∀(g:Nat) (T:Trc) (o:List Rw),y1p (T,o)->y1p (z6a g T o)
 | 0,_,_,h=>h
 | g+1,T,o,h=>by
  rw [z6a]
  have a:=y3c (List.range T.funs.length) (T,o) h
  split
  rename_i U q hq
  have e:y1p (U,q):=by rw [<- hq];exact a
  split
  ·rename_i V p b;exact y4a g V p (y3y (fun r a=>oL a) b e)
  ·exact e
theorem y2c {T:Trc} (h:zL T=true):y1p (xA T):=y4a 502 T [] ⟨kP h,sI h,Nat.zero_le _⟩
theorem gU {T U:Trc} {r:Rw} (h:pD T r=.ok U):zL T=true/\jW T r=.ok U:=by
 cases a:zL T with
 | true=>rw [aY a] at h;exact ⟨rfl,h⟩
 | false=>rw [uU a] at h;cases h
theorem y9l {T U:Trc} {r:Rw} (h:pD T r=.ok U):GoodP U:=sA (kP (gU h).1) (gU h).2
def z7c (e:TE):Prop:=∀{Φ:Fz} {K:List Res} {w:World} {d:List Value} {a:Value} {l:List Int},RTE Φ d e->l.length+(yB e).length<=1000000->Mem Φ (.gs a 3 1 (aF l)::K) w ->
  Calls prog 17 #[a,.agg d.toArray] w (fun ee w'=>∃y:Value,ee=.returned y/\True/\Mem Φ (.gs y 3 1 (aF (l++yB e))::K) w')
theorem q7o {e:TE} (e0:∀a∈e.arms,z7c a.body) (f0:∀x∈e.body,z7c x):z7c e:=by
 intro Φ K w d v_ l re C1 N
 have e2:=re
 obtain ⟨p3,c4,p9,C,E,D,rfl,D1,E1,h2,h8,W,r2,s2,J1,I,K1,L⟩:=RTE.fm re
 refine zJ func17 ntmps17 fun Q hQ a J=>?_
 refine Bx fun n w N a J=>?_
 by_cases X:0 < e.site
 refine qG fun k0 w N a J=>?_
 refine vL 2 cP (fun e1 w N a J=>?_) (hb:=by rw [jR];have g:=congrArg List.length (pY e);rw [if_pos (by assumption)] at g;simp only [laQ,lcQ,lnQ] at g ⊢;omega)
 rw [<- tT] at N
 refine go fun a J=>?_
 refine pX (fun mm a w=>∃(i:Nat) (f:List Int) (k:Value),mm=e.arms.length - i/\EnvR 45 [(0,k),(3,.pointer (some ⟨n,0,none⟩)),(5,.int .i64 i)] [] a/\Mem Φ (.gs (k0) 3 1 [.int .i64 (e.site)]::.blk n (ob [.int .i64 (e.kind),.string e.name,.string e.op,.int .i64 (e.num),.int .i64 (e.site),.slice p3 e.args.length c4,.slice p9 e.arms.length C,.slice E e.body.length D] 48)::.gs (k) 3 1 (aF f)::K) w/\(f++(sitesTa (e.arms.drop i)++sitesTs e.body)=l++yB e)) (e.arms.length - 0) ⟨0,(l++[e.site]),e1,rfl,J.pk,N,by rw [pY e,if_pos X,List.drop_zero];simp only [List.append_assoc]⟩ ?_
 clear N J
 rintro mm a w ⟨i,f,k,r,J,N,v⟩ f2 b0
 by_cases Y:i < e.arms.length
 refine go fun a J=>?_
 obtain ⟨w2,rfl,m,A,p1,H1,d0,g0⟩:=h8.el I Y
 obtain ⟨t2,c46,i2,rfl,l2,Z,L1,R1⟩:=RTA.fm g0
 obtain ⟨b1,r0,c1,s0,d1,t0,rfl,F1,G1,m2,n2,o2,M1,S1,N1,T1,O1,U1⟩:=RTE.fm Z
 refine Qq (fun a J=>?_) (o:=by exact fun J O=>kB 2 (vs:=[.int .i64 (m.body.kind),.string m.body.name,.string m.body.op,.int .i64 (m.body.num),.int .i64 (m.body.site),.slice b1 m.body.args.length r0,.slice c1 m.body.arms.length s0,.slice d1 m.body.body.length t0]) J O rfl d0 isAgg48 sizeOf48 rfl rfl)
 replace N:=N.pl 2
 refine yF call17 (fun g1 w A1 N a J=>?_) (c:=e0 _ (mgQ A) Z (by have g:=congrArg List.length v;rw [oG A] at g;simp only [laQ] at g;omega) N)
 refine go fun a J=>?_
 replace N:=N.ar [] [2,2]
 refine b0 _ _ _ (by subst r;omega) ⟨(i+1),((f++yB m.body)),(g1),rfl,J.pk,N,?_⟩
 rw [<- v,oG A];simp only [List.append_assoc]
 refine go fun a J=>?_
 refine pX (fun mm a w=>∃(u:Nat) (b:List Int) (j:Value),mm=e.body.length - u/\EnvR 45 [(0,j),(3,.pointer (some ⟨n,0,none⟩)),(6,.int .i64 u)] [] a/\Mem Φ (.gs (k0) 3 1 [.int .i64 (e.site)]::.blk n (ob [.int .i64 (e.kind),.string e.name,.string e.op,.int .i64 (e.num),.int .i64 (e.site),.slice p3 e.args.length c4,.slice p9 e.arms.length C,.slice E e.body.length D] 48)::.gs (j) 3 1 (aF b)::K) w/\(b++sitesTs (e.body.drop u)=l++yB e)) (e.body.length - 0) ⟨0,f,k,rfl,J.pk,N,by rw [<- v,qE Y];rfl⟩ ?_
 clear N J
 rintro mm a w ⟨u,b,j,r,J,N,y⟩ g2 c0
 by_cases a0:u < e.body.length
 refine go fun a J=>?_
 obtain ⟨x2,rfl,f1,B,q1,I1,B1,M⟩:=W.el L a0
 obtain ⟨u2,j2,v2,k2,X1,k1,rfl,B0,C0,p2,q2,r1,P1,V1,Q1,W1,J0,R0⟩:=RTE.fm M
 replace N:=N.pl 2
 refine yF call17 (fun m0 w x0 N a J=>?_) (c:=f0 _ (mgQ B) M (by have g:=congrArg List.length y;rw [oH B] at g;simp only [laQ] at g;omega) N)
 refine go fun a J=>?_
 replace N:=N.ar [] [2,2]
 refine c0 _ _ _ (by subst r;omega) ⟨(u+1),((b++yB f1)),(m0),rfl,J.pk,N,?_⟩
 rw [<- y,oH B];simp only [List.append_assoc]
 refine yK ?_
 replace N:=N.dl [1,0]
 rw [show l++yB e=b from by rw [<- y,qE a0];exact List.append_nil _];exact ⟨_,rfl,trivial,N⟩
 refine go fun a J=>?_
 refine pX (fun mm a w=>∃(i:Nat) (f:List Int) (k:Value),mm=e.arms.length - i/\EnvR 45 [(0,k),(3,.pointer (some ⟨n,0,none⟩)),(5,.int .i64 i)] [] a/\Mem Φ (.blk n (ob [.int .i64 (e.kind),.string e.name,.string e.op,.int .i64 (e.num),.int .i64 (e.site),.slice p3 e.args.length c4,.slice p9 e.arms.length C,.slice E e.body.length D] 48)::.gs (k) 3 1 (aF f)::K) w/\(f++(sitesTa (e.arms.drop i)++sitesTs e.body)=l++yB e)) (e.arms.length - 0) ⟨0,l,v_,rfl,J.pk,N,by rw [pY e,if_neg X];rfl⟩ ?_
 clear N J
 rintro mm a w ⟨i,f,k,r,J,N,p⟩ h1 P
 by_cases F:i < e.arms.length
 refine go fun a J=>?_
 obtain ⟨c2,rfl,h,s,u0,H0,S,T⟩:=h8.el I F
 obtain ⟨Y1,l1,j1,rfl,s1,G,K0,S0⟩:=RTA.fm T
 obtain ⟨h0,U,i0,c143,j0,V,rfl,D0,E0,t1,u1,v1,L0,U0,M0,V0,N0,X0⟩:=RTE.fm G
 refine Qq (fun a J=>?_) (o:=by exact fun J O=>kB 2 (vs:=[.int .i64 (h.body.kind),.string h.body.name,.string h.body.op,.int .i64 (h.body.num),.int .i64 (h.body.site),.slice h0 h.body.args.length U,.slice i0 h.body.arms.length c143,.slice j0 h.body.body.length V]) J O rfl S isAgg48 sizeOf48 rfl rfl)
 replace N:=N.pl 1
 refine yF call17 (fun n0 w y0 N a J=>?_) (c:=e0 _ (mgQ s) G (by have g:=congrArg List.length p;rw [oG s] at g;simp only [laQ] at g;omega) N)
 refine go fun a J=>?_
 replace N:=N.pl 1
 refine P _ _ _ (by subst r;omega) ⟨(i+1),((f++yB h.body)),(n0),rfl,J.pk,N,?_⟩
 rw [<- p,oG s];simp only [List.append_assoc]
 refine go fun a J=>?_
 refine pX (fun mm a w=>∃(u:Nat) (b:List Int) (j:Value),mm=e.body.length - u/\EnvR 45 [(0,j),(3,.pointer (some ⟨n,0,none⟩)),(6,.int .i64 u)] [] a/\Mem Φ (.blk n (ob [.int .i64 (e.kind),.string e.name,.string e.op,.int .i64 (e.num),.int .i64 (e.site),.slice p3 e.args.length c4,.slice p9 e.arms.length C,.slice E e.body.length D] 48)::.gs (j) 3 1 (aF b)::K) w/\(b++sitesTs (e.body.drop u)=l++yB e)) (e.body.length - 0) ⟨0,f,k,rfl,J.pk,N,by rw [<- p,qE F];rfl⟩ ?_
 clear N J
 rintro mm a w ⟨u,b,j,r,J,N,q⟩ i1 R
 by_cases H:u < e.body.length
 refine go fun a J=>?_
 obtain ⟨d2,rfl,l0,t,w0,I0,A0,z⟩:=W.el L H
 obtain ⟨Z1,m1,a2,n1,b2,o1,rfl,F0,G0,w1,x1,y1,O0,Y0,P0,Z0,Q0,a1⟩:=RTE.fm z
 replace N:=N.pl 1
 refine yF call17 (fun o0 w z0 N a J=>?_) (c:=f0 _ (mgQ t) z (by have g:=congrArg List.length q;rw [oH t] at g;simp only [laQ] at g;omega) N)
 refine go fun a J=>?_
 replace N:=N.pl 1
 refine R _ _ _ (by subst r;omega) ⟨(u+1),((b++yB l0)),(o0),rfl,J.pk,N,?_⟩
 rw [<- q,oH t];simp only [List.append_assoc]
 refine yK ?_
 replace N:=N.dl [0]
 rw [show l++yB e=b from by rw [<- q,qE H];exact List.append_nil _];exact ⟨_,rfl,trivial,N⟩
theorem z0w:∀(n:Nat) (e:TE),zC e < n->z7c e
 | 0,_,h=>by omega
 | n+1,e,h=>q7o (fun a b=>z0w n a.body (by have:=wG b;omega)) (fun x c=>z0w n x (by have:=kD c;omega))
theorem y0q (e:TE):z7c e:=z0w _ e (Nat.lt_succ_self _)
section
variable {Φ:Fz} {K:List Res} {w:World}
theorem y8p {tc:List Value} {T:Trc} (b:zL T=false) (a:RTrc Φ tc T) (G:Glob Φ) (N:Mem Φ K w) :
  Calls prog 16 #[.agg tc.toArray] w (fun ee w'=>ee=.returned (.tuple #[.agg zTrc.toArray,.slice none 0 0,.int .i64 ((120:Nat):Int)])/\Mem Φ K w'):=by
 have h:=z4q a G N
 rw [show dem (zL T)=.error () from by rw [b];rfl] at h
 exact h
theorem j1q {tc rc:List Value} {T:Trc} {r:Rw} (b:zL T=false) (rx:RRw Φ rc r) (a:RTrc Φ tc T) (G:Glob Φ) (N:Mem Φ K w) :
  Calls prog 13 #[.agg tc.toArray,.agg rc.toArray] w (fun ee w'=>ee=.returned (.tuple #[.agg zTrc.toArray,.int .i64 ((120:Nat):Int)])/\Mem Φ K w'):=z3l (uU b) rx a G N
theorem j4z (Φ:Fz):RTrc Φ zTrc ⟨[],[],[],[]⟩:=⟨_,_,_,_,rfl,Nat.le_refl 0,SliceOf.nil 3,SliceOf.nil 1,SliceOf.nil 11,SliceOf.nil 1⟩
theorem j1p {Φ:Fz} {tc rc:List Value} {T:Trc} {r:Rw} (rx:RRw Φ rc r) (a:RTrc Φ tc T) (G:Glob Φ):∃(U:Trc) (c:Int),(∀s∈jQ U.funs,s∈jQ T.funs)/\(jQ U.funs).length<=20000 /\
  ∀{K:List Res} {w:World},Mem Φ K w->Calls prog 13 #[.agg tc.toArray,.agg rc.toArray] w (fun ee w'=>∃q:Fz×List Value,ee=.returned (.tuple #[.agg q.2.toArray,.int .i64 c])/\(Φ.Le q.1/\RTrc q.1 q.2 U)/\Mem q.1 K w'):=by
 cases h:pD T r with
 | ok U=>exact ⟨U,0,y9a (gU h).2,z0i (y9l h),fun N=>tM h rx a G N⟩
 | error c=>exact ⟨⟨[],[],[],[]⟩,c,(fun _ h=>by cases h),Nat.zero_le _,fun N=>(z3l h rx a G N).mono fun ee w' h=>⟨(Φ,zTrc),h.1,⟨Fz.Le.refl _,j4z _⟩,h.2⟩⟩
theorem y7q {tc rc:List Value} {T:Trc} {ru fn nu:Int} {path:List Int} (f:RTrc Φ tc T) (rx:RRw Φ rc ⟨ru,fn,path,nu⟩) (G:Glob Φ) (j:zL T=false) (N:Mem Φ K w) :
  Calls prog 6 #[.agg tc.toArray,.agg rc.toArray] w (fun ee w'=>ee=.returned (.bool true)/\Mem Φ K w'):=by
 have Gl:=G
 have b:=f
 obtain ⟨W,c4,X,C,M,D,P,c22,rfl,k,U,V,F,H,I,L,l,p,m,q,n,r⟩:=RTrc.fm f
 have g:=rx
 obtain ⟨S,e,h,t,u,v,d⟩:=rx
 subst e
 obtain ⟨R,E,rfl,i,s⟩:=d.fm
 refine zJ func6 ntmps6 fun Q hQ a J=>?_
 refine Bx fun y w N a J=>?_
 refine Bx fun z w N a J=>?_
 refine zF call11 (fun w N a J=>?_) (c:=z6w Gl N)
 refine zF call13 (fun w N a J=>?_) (c:=j1q j g b Gl N)
 refine Alc fun A w N a J=>?_
 refine Sto 0 fun w N a J=>?_
 refine zF call16 (fun w N a J=>?_) (c:=y8p j b Gl N)
 refine Alc fun B w N a J=>?_
 refine Sto 0 fun w N a J=>?_
 refine Qq (fun a J=>?_) (o:=by exact fun J O=>jG true J rfl rfl rfl)
 refine Qq (fun a J=>?_) (o:=by exact fun J O=>jG true J rfl rfl rfl)
 refine yK ?_
 replace N:=N.dl [3,2,1,0]
 exact ⟨rfl,N⟩
theorem hN {f:Bool} {x a:Int} {l:List Int} {j:Nat} (h:f=true∨x∈l.drop j) (b:l[j]? = some a):(f || decide (a=x))=true∨x∈l.drop (j+1):=by
 rcases h with h | h
 left;rw [h];rfl
 rw [yI b] at h
 rcases List.mem_cons.1 h with h | h
 left;rw [decide_eq_true h.symm,Bool.or_true]
 exact .inr h
theorem j3m {f:Bool} {x:Int} {l:List Int} {j:Nat} (h:f=true∨x∈l.drop j) (a:¬j < l.length):f=true:=by
 rcases h with h | h
 exact h
 rw [qE a] at h;cases h
theorem y2a {tc rc:List Value} {T:Trc} {ru fn nu:Int} {path:List Int} (T1:RTrc Φ tc T) (rx:RRw Φ rc ⟨ru,fn,path,nu⟩) (G:Glob Φ) (hc:zL T=true) (N:Mem Φ K w) :
  Calls prog 6 #[.agg tc.toArray,.agg rc.toArray] w (fun ee w'=>ee=.returned (.bool true)/\Mem Φ K w'):=by
 have Gl:=G
 have b:=T1
 obtain ⟨p3,c4,p9,z0,c1,A0,d1,c22,rfl,N3,h2,h8,c0,B4,I4,J4,P3,a4,Q3,E1,R3,b4⟩:=RTrc.fm T1
 have e:=rx
 obtain ⟨K4,I1,a2,k4,l4,m4,H1⟩:=rx
 subst I1
 obtain ⟨e1,B0,rfl,Q2,d4⟩:=H1.fm
 obtain ⟨v,c_,n2,M3,B1⟩:=j1p e b Gl
 have u0:=y2c hc
 have L3:=z0i (kP hc)
 have d0:=z0i u0.1
 obtain ⟨t,S_,A1⟩:∃OO S,xA T=(OO,S):=⟨_,_,rfl⟩
 have W:=y0t (T:=T)
 rw [A1] at W d0 u0
 replace d0:(jQ t.funs).length<=20000:=d0
 replace W:∀s∈xB t,s∈xB T:=W
 refine zJ func6 ntmps6 fun Q hQ a J=>?_
 refine Bx fun k0 w N a J=>?_
 refine Bx fun y0 w N a J=>?_
 refine zF call11 (fun w N a J=>?_) (c:=z6w Gl N)
 refine yF call13 (fun h3 w n N a J=>?_) (c:=B1 N)
 obtain ⟨y4,A4⟩:=h3
 simp only at n N J
 replace Gl:=Gl.mono n.1
 replace c0:=c0.mono RTFn.mono n.1
 replace b:=RTrc.mono _ _ _ _ n.1 b
 replace e:=RRw.mono _ _ _ _ n.1 e
 have w0:=n.2
 have k:=w0
 obtain ⟨f1,c44,g1,c50,h1,C0,i1,D0,rfl,O3,C4,D4,I0,E4,S3,e4,T3,f4,U3,F1,V3,g4⟩:=RTrc.fm w0
 replace N:=N.nf
 refine Alc fun a0 w N a J=>?_
 refine Sto 0 fun w N a J=>?_
 refine yF call16 (fun i3 w d N a J=>?_) (c:=z2j hc b Gl N)
 obtain ⟨H,b2,v72⟩:=i3
 simp only at d N J
 have X:=d.2.2.1
 have E:=d.2.1
 rw [A1] at E X
 replace E:RTrc H b2 t:=E
 replace X:SliceOf RRw H 4 v72 S_:=X
 replace c0:=c0.mono RTFn.mono d.1
 replace b:=RTrc.mono _ _ _ _ d.1 b
 replace e:=RRw.mono _ _ _ _ d.1 e
 replace k:=RTrc.mono _ _ _ _ d.1 k
 replace I0:=I0.mono RTFn.mono d.1
 have z:=E
 obtain ⟨j1,c79,k1,c85,l1,E0,m1,F0,rfl,s2,F4,G4,f2,H4,W3,h4,X3,i4,Y3,G1,Z3,j4⟩:=RTrc.fm E
 replace N:=N.nf
 have l0:=X
 obtain ⟨n4,s3,rfl,X1,R2⟩:=l0.fm
 replace N:=N.nf
 refine Alc fun y w N a J=>?_
 refine Sto 0 fun w N a J=>?_
 refine Qq (fun a J=>?_) (o:=by exact fun J O=>jG false J rfl rfl rfl)
 refine go fun a J=>?_
 replace N:=N.nilRow 3 1
 replace N:=N.nf
 refine pX (fun mm a w=>∃(i:Nat) (j:List Int) (U:Value),mm=T.funs.length - i/\EnvR 111 [(2,.pointer (some ⟨k0,0,none⟩)),(5,.bool true),(6,.pointer (some ⟨a0,0,none⟩)),(8,.pointer (some ⟨y,0,none⟩)),(11,U),(12,.slice none 0 0),(13,.int .i64 i)] [] a/\Mem H (.gs (U) 3 1 (aF j)::.blk y (ob [.slice j1 t.cons.length c79,.slice k1 t.inputs.length c85,.slice l1 t.funs.length E0,.slice m1 t.outputs.length F0] 26)::.blk a0 (ob [.slice f1 v.cons.length c44,.slice g1 v.inputs.length c50,.slice h1 v.funs.length C0,.slice i1 v.outputs.length D0] 26)::.blk y0 (ob [.int .i64 (ru),.int .i64 (fn),.slice e1 path.length B0,.int .i64 (nu)] 36)::.blk k0 (ob [.slice p3 T.cons.length c4,.slice p9 T.inputs.length z0,.slice c1 T.funs.length A0,.slice d1 T.outputs.length c22] 26)::K) w/\(j++jQ (T.funs.drop i)=jQ T.funs)) (T.funs.length - 0) ⟨0,[],.slice none 0 0,rfl,J.pk,N,rfl⟩ ?_
 clear N J
 rintro mm a w ⟨i,j,U,q,J,N,I⟩ j3 J0
 by_cases n0:i < T.funs.length
 refine go fun a J=>?_
 obtain ⟨t4,rfl,f,g0,c2,z2,N0,S0⟩:=c0.el E1 n0
 obtain ⟨o4,t3,o3,rfl,y3,o0,E2,S2⟩:=RTFn.fm S0
 obtain ⟨K1,r1,L1,c143,M1,s1,rfl,t2,u2,z3,A3,B3,F2,T2,G2,U2,H2,V2⟩:=RTE.fm o0
 refine Qq (fun a J=>?_) (o:=by exact fun J O=>kB 3 (vs:=[.int .i64 (f.body.kind),.string f.body.name,.string f.body.op,.int .i64 (f.body.num),.int .i64 (f.body.site),.slice K1 f.body.args.length r1,.slice L1 f.body.arms.length c143,.slice M1 f.body.body.length s1]) J O rfl N0 isAgg48 sizeOf48 rfl rfl)
 refine yF call17 (fun U1 w j2 N a J=>?_) (c:=y0q _ o0 (by have B:=congrArg List.length I;rw [pS g0] at B;simp only [laQ] at B;omega) N)
 refine go fun a J=>?_
 refine J0 _ _ _ (by subst q;omega) ⟨(i+1),((j++yB f.body)),(U1),rfl,J.pk,N,?_⟩
 rw [<- I,pS g0];simp only [List.append_assoc]
 refine go fun a J=>?_
 replace N:=N.nilRow 3 1
 replace N:=N.nf
 refine pX (fun mm a w=>∃(j_:Nat) (Z:List Int) (m0:Value),mm=v.funs.length - j_/\EnvR 111 [(5,.bool true),(6,.pointer (some ⟨a0,0,none⟩)),(8,.pointer (some ⟨y,0,none⟩)),(11,U),(12,m0),(14,.int .i64 j_)] [] a/\Mem H (.gs (m0) 3 1 (aF Z)::.gs (U) 3 1 (aF j)::.blk y (ob [.slice j1 t.cons.length c79,.slice k1 t.inputs.length c85,.slice l1 t.funs.length E0,.slice m1 t.outputs.length F0] 26)::.blk a0 (ob [.slice f1 v.cons.length c44,.slice g1 v.inputs.length c50,.slice h1 v.funs.length C0,.slice i1 v.outputs.length D0] 26)::.blk y0 (ob [.int .i64 (ru),.int .i64 (fn),.slice e1 path.length B0,.int .i64 (nu)] 36)::.blk k0 (ob [.slice p3 T.cons.length c4,.slice p9 T.inputs.length z0,.slice c1 T.funs.length A0,.slice d1 T.outputs.length c22] 26)::K) w/\(Z++jQ (v.funs.drop j_)=jQ v.funs)) (v.funs.length - 0) ⟨0,[],.slice none 0 0,rfl,J.pk,N,rfl⟩ ?_
 clear N J
 rintro mm a w ⟨j_,Z,m0,q,J,N,L⟩ k3 K0
 by_cases p0:j_ < v.funs.length
 refine go fun a J=>?_
 obtain ⟨u4,rfl,g,h0,d2,A2,O0,U0⟩:=I0.el F1 p0
 obtain ⟨p4,u3,q3,rfl,C3,q0,I2,W2⟩:=RTFn.fm U0
 obtain ⟨N1,t1,O1,u1,P1,v1,rfl,v2,w2,D3,E3,F3,J2,X2,K2,Y2,L2,Z2⟩:=RTE.fm q0
 refine Qq (fun a J=>?_) (o:=by exact fun J O=>kB 3 (vs:=[.int .i64 (g.body.kind),.string g.body.name,.string g.body.op,.int .i64 (g.body.num),.int .i64 (g.body.site),.slice N1 g.body.args.length t1,.slice O1 g.body.arms.length u1,.slice P1 g.body.body.length v1]) J O rfl O0 isAgg48 sizeOf48 rfl rfl)
 refine yF call17 (fun V1 w k2 N a J=>?_) (c:=y0q _ q0 (by have B:=congrArg List.length L;rw [pS h0] at B;simp only [laQ] at B;omega) N)
 refine go fun a J=>?_
 refine K0 _ _ _ (by subst q;omega) ⟨(j_+1),((Z++yB g.body)),(V1),rfl,J.pk,N,?_⟩
 rw [<- L,pS h0];simp only [List.append_assoc]
 refine go fun a J=>?_
 refine pX (fun mm a w=>∃(k_:Nat) (u:List Int) (n1:Value),mm=t.funs.length - k_/\EnvR 111 [(5,.bool true),(8,.pointer (some ⟨y,0,none⟩)),(11,U),(12,n1),(15,.int .i64 k_)] [] a/\Mem H (.gs (n1) 3 1 (aF u)::.gs (U) 3 1 (aF j)::.blk y (ob [.slice j1 t.cons.length c79,.slice k1 t.inputs.length c85,.slice l1 t.funs.length E0,.slice m1 t.outputs.length F0] 26)::.blk a0 (ob [.slice f1 v.cons.length c44,.slice g1 v.inputs.length c50,.slice h1 v.funs.length C0,.slice i1 v.outputs.length D0] 26)::.blk y0 (ob [.int .i64 (ru),.int .i64 (fn),.slice e1 path.length B0,.int .i64 (nu)] 36)::.blk k0 (ob [.slice p3 T.cons.length c4,.slice p9 T.inputs.length z0,.slice c1 T.funs.length A0,.slice d1 T.outputs.length c22] 26)::K) w/\(u++jQ (t.funs.drop k_)=jQ v.funs++jQ t.funs)) (t.funs.length - 0) ⟨0,Z,m0,rfl,J.pk,N,by rw [show Z=jQ v.funs from by rw [<- L,qE p0];exact (List.append_nil _).symm];rfl⟩ ?_
 clear N J
 rintro mm a w ⟨k_,u,n1,q,J,N,M⟩ l3 L0
 by_cases r0:k_ < t.funs.length
 refine go fun a J=>?_
 obtain ⟨v4,rfl,h,i0,e2,B2,P0,V0⟩:=f2.el G1 r0
 obtain ⟨q4,v3,r3,rfl,G3,s0,M2,a3⟩:=RTFn.fm V0
 obtain ⟨Q1,w1,R1,c233,S1,x1,rfl,x2,y2,H3,I3,J3,N2,b3,O2,d3,P2,e3⟩:=RTE.fm s0
 refine Qq (fun a J=>?_) (o:=by exact fun J O=>kB 3 (vs:=[.int .i64 (h.body.kind),.string h.body.name,.string h.body.op,.int .i64 (h.body.num),.int .i64 (h.body.site),.slice Q1 h.body.args.length w1,.slice R1 h.body.arms.length c233,.slice S1 h.body.body.length x1]) J O rfl P0 isAgg48 sizeOf48 rfl rfl)
 refine yF call17 (fun W1 w l2 N a J=>?_) (c:=y0q _ s0 (by have B:=congrArg List.length M;rw [pS i0] at B;simp only [laQ] at B;omega) N)
 refine go fun a J=>?_
 refine L0 _ _ _ (by subst q;omega) ⟨(k_+1),((u++yB h.body)),(W1),rfl,J.pk,N,?_⟩
 rw [<- M,pS i0];simp only [List.append_assoc]
 refine go fun a J=>?_
 have g2:j=jQ T.funs:=by rw [<- I,qE n0];exact (List.append_nil _).symm
 have i2:u=jQ v.funs++jQ t.funs:=by rw [<- M,qE r0];exact (List.append_nil _).symm
 have C:=N
 clear N
 obtain ⟨o1,r,N,e0,C1⟩:=C.freezeRowC (i:=1) rfl
 clear C
 replace b:=RTrc.mono _ _ _ _ r b
 replace e:=RRw.mono _ _ _ _ r e
 replace k:=RTrc.mono _ _ _ _ r k
 replace z:=RTrc.mono _ _ _ _ r z
 replace N:=N.nf
 have m:SliceOf RInt o1 1 _ (j):=⟨_,e0,dG _⟩
 obtain ⟨r4,w3,Z0,Y1,Q0⟩:=m.form (by decide)
 have D:=N
 clear N
 subst Z0
 have N:=D
 clear D
 have C:=N
 clear N
 obtain ⟨V,l,N,f0,D1⟩:=C.freezeRowC (i:=0) rfl
 clear C
 replace b:=RTrc.mono _ _ _ _ l b
 replace e:=RRw.mono _ _ _ _ l e
 replace k:=RTrc.mono _ _ _ _ l k
 replace z:=RTrc.mono _ _ _ _ l z
 replace m:=m.mono RInt.mono l
 replace N:=N.nf
 have Y:SliceOf RInt V 1 _ (u):=⟨_,f0,dG _⟩
 obtain ⟨s4,x3,Z0,Z1,R0⟩:=Y.form (by decide)
 have D:=N
 clear N
 subst Z0
 have N:=D
 clear D
 have z1:∀s∈u,s∈j:=fun s O=>by
  rw [i2] at O;rw [g2]
  rcases List.mem_append.1 O with h_ | h_
  exact n2 s h_
  exact W s h_
 refine go fun a J=>?_
 refine qD (J.ks [5,11,12]) N (fun R mm a w=>∃(i_:Nat),mm=u.length - i_/\R V [(16,.int .i64 i_)] [] a w/\(True)) (u.length - 0) ⟨0,rfl,⟨J.pk,N⟩,trivial⟩ ?_
 clear N J
 rintro mm a w ⟨i_,q,⟨J,N⟩,m2⟩ m3 M0
 by_cases y1:i_ < u.length
 refine go fun a J=>?_
 skip
 obtain ⟨w4,rfl,j0,a1,G0,C2,o2,X0⟩:=Y.el R0 y1
 obtain rfl:G0=[.int .i64 j0]:=X0
 have b1:=z1 _ (mgQ a1)
 refine qD (J.ks [5,11,12,16]) N (fun R mm a w=>∃(F:Nat) (b0:Bool),mm=j.length - F/\R V [(17,.bool b0),(18,.int .i64 F)] [] a w/\(b0=true∨j0∈j.drop F)) (j.length - 0) ⟨0,false,rfl,⟨J.pk,N⟩,.inr b1⟩ ?_
 clear N J
 rintro mm a w ⟨F,b0,q,⟨J,N⟩,p⟩ n3 P
 by_cases t0:F < j.length
 refine Reg [1,1,1,1,1,2,1,1,1,2,1,1,1] [0,1,2,3] fun w N a J=>?_
 refine go fun a J=>?_
 cases b0
 refine go fun a J=>?_
 obtain ⟨x4,rfl,x0,A,H0,D2,p2,Y0⟩:=m.el Q0 t0
 obtain rfl:H0=[.int .i64 x0]:=Y0
 by_cases K3:x0=j0
 refine go fun a J=>?_
 refine P _ _ _ (by subst q;omega) ⟨(F+1),(true),rfl,⟨J.pk,N⟩,?_⟩
 first
  | exact .inl rfl
  | (have h_:=hN p A;exact h_.elim (fun q_=>absurd (by simpa using q_) (by assumption)) Or.inr)
  | (have h_:=hN p A;simpa using h_)
 refine go fun a J=>?_
 refine P _ _ _ (by subst q;omega) ⟨(F+1),(false),rfl,⟨J.pk,N⟩,?_⟩
 first
  | exact .inl rfl
  | (have h_:=hN p A;exact h_.elim (fun q_=>absurd (by simpa using q_) (by assumption)) Or.inr)
  | (have h_:=hN p A;simpa using h_)
 refine go fun a J=>?_
 refine P _ _ _ (by subst q;omega) ⟨(F+1),(true),rfl,⟨J.pk,N⟩,?_⟩
 exact .inl rfl
 refine go fun a J=>?_
 have r2:b0=true:=j3m p t0
 subst r2
 refine go fun a J=>?_
 refine M0 _ _ _ (by subst q;omega) ⟨(i_+1),rfl,⟨J.pk,N⟩,?_⟩
 exact trivial
 refine yK ?_
 replace N:=N.le ((((n.1).trans d.1).trans r).trans l)
 replace N:=N.dl [3,2,1,0]
 exact ⟨rfl,N⟩
theorem q2v {tc rc:List Value} {T:Trc} {ru fn nu:Int} {path:List Int} (a:RTrc Φ tc T) (rx:RRw Φ rc ⟨ru,fn,path,nu⟩) (G:Glob Φ) (N:Mem Φ K w) :
  Calls prog 6 #[.agg tc.toArray,.agg rc.toArray] w (fun ee w'=>ee=.returned (.bool true)/\Mem Φ K w'):=by
 cases h:zL T with
 | true=>exact y2a a rx G h N
 | false=>exact y7q a rx G h N
end
end Go.Sw
namespace Go.Proofs.YtlfobekmmndchaaGreatDoor
open Go.ChangeShapes Go.WideShapes Go.ChangeAt Go.RowKit Go.Sw
set_option maxRecDepth 100000
theorem tt {a b:Bool} (c:a=true) (hb:b=true):(a&&b)=true:=by rw [c,hb];rfl
theorem q2l:Rows.optSitesRow.wf (OpenSpec.ofChange Rows.optSitesSpec)=true:=by kernel_rfl
theorem q2m:laidOutB Tryz.prog=true:=by kernel_rfl
theorem q2n:mapsRowed Tryz.prog=true:=by kernel_rfl
theorem q2o:Tryz.f6.params.all (Tryz.prog.readableRec ·)=true:=by kernel_rfl
theorem q2p:namedTie Tryz.prog Rows.optSitesRow.named Rows.optSitesSpec.vars=true:=by kernel_rfl
theorem q2q:(Rows.optSitesRow.stops==[])=true:=by kernel_rfl
theorem q2r:(Tryz.prog.stops==[])=true:=by kernel_rfl
theorem q2s:(Rows.optSitesRow.knobs==[])=true:=by kernel_rfl
theorem q2t:(Tryz.prog.stopKnobs==[])=true:=by kernel_rfl
theorem q2u:(Rows.optSitesRow.inPlace==Tryz.prog.inPlace 6)=true:=by kernel_rfl
theorem y7r:(Rows.optSitesRow.unfollowed==Tryz.prog.unfollowed 6)=true:=by kernel_rfl
theorem y7s:(Rows.optSitesRow.recurses==Tryz.prog.recurses 6)=true:=by kernel_rfl
theorem y7t:(Rows.optSitesRow.named==Tryz.prog.varsNamed 6)=true:=by kernel_rfl
theorem y7u:(Rows.optSitesRow.maps==(Tryz.f6.params.toList++Rows.optSitesSpec.plain.varTypes Tryz.prog).any (Tryz.prog.mapsRec ·))=true:=by kernel_rfl
theorem y7v:(Rows.optSitesRow.ifaces==(Tryz.f6.params.toList++Rows.optSitesSpec.plain.varTypes Tryz.prog).any (Tryz.prog.ifacesRec ·))=true:=by kernel_rfl
theorem y7w:(Rows.optSitesRow.mapsOut==Tryz.prog.mapsAmong Tryz.f6.resultTypes.toList)=true:=by kernel_rfl
theorem y7x:(Rows.optSitesRow.loops==(Tryz.f6.params.toList++Rows.optSitesSpec.plain.varTypes Tryz.prog).any (Tryz.prog.loopsFrom ·))=true:=by kernel_rfl
theorem y7y:(Rows.optSitesRow.wideKeys==(Tryz.f6.params.toList++Rows.optSitesSpec.plain.varTypes Tryz.prog++Tryz.f6.resultTypes.toList).any (Tryz.prog.wideKeysFrom ·))=true:=by kernel_rfl
theorem y7z:Rows.optSitesSpec.vars.all (Tryz.prog.varReadable ·)=true:=by kernel_rfl
theorem y8c:Tryz.f6.resultTypes.all (fun t=>Tryz.prog.readableRec t&&decide (t < Tryz.prog.types.size))=true:=by kernel_rfl
theorem y8d:(Rows.optSitesRow.ifacesOut==Tryz.f6.resultTypes.toList.any (Tryz.prog.ifacesRec ·))=true:=by kernel_rfl
theorem y8e:(Rows.optSitesRow.loopsOut==Tryz.f6.resultTypes.toList.any (Tryz.prog.loopsFrom ·))=true:=by kernel_rfl
theorem y8f:(Rows.optSitesRow.plainKeys==Tryz.prog.plainKeys)=true:=by kernel_rfl
theorem y8g:Rows.optSitesRow.shortTexts.isNone=true:=by kernel_rfl
theorem y8h:Tryz.prog.stopsHeard=true:=by kernel_rfl
theorem y8i:Tryz.prog.mayEnter=true:=by kernel_rfl
theorem y8j:(Rows.optSitesRow.lifted==Tryz.prog.liftsFinal)=true:=by kernel_rfl
theorem y8k:(Tryz.prog.make==some Rows.optSitesRow.make)=true:=by kernel_rfl
theorem y8l:(Rows.optSitesRow.kinds==(if Rows.optSitesRow.domain.isEmpty then [] else Tryz.f6.params.toList.map fun t=>match Tryz.prog.underlying t with | some (.int k)=>some k | _=>Option.none))=true:=by kernel_rfl
theorem y8m:(Rows.optSitesRow.pinned==Rows.optSitesRow.pinnedBy)=true:=by kernel_rfl
theorem y8n:(Rows.optSitesRow.veiled==(Tryz.f6.params.toList++Rows.optSitesSpec.plain.varTypes Tryz.prog++Tryz.f6.resultTypes.toList).any (Tryz.prog.veiledRec ·))=true:=by kernel_rfl
theorem y8o:Rows.optSitesRow.veiledFits Tryz.prog Tryz.f6.params.toList (Tryz.f6.params.toList++Rows.optSitesSpec.plain.varTypes Tryz.prog++Tryz.f6.resultTypes.toList)=true:=by kernel_rfl
theorem z6f:joinedFacts Tryz.prog 6 Tryz.f6 Rows.optSitesSpec Rows.optSitesRow=true:=(tt (tt (tt (tt (tt (tt (tt (tt (tt (tt (tt (tt (tt (tt (tt (tt (tt (tt (tt (tt (tt (tt (tt (tt (tt (tt (tt (tt (tt (tt (tt q2l q2m) q2n) q2o) q2p) q2q) q2r) q2s) q2t) q2u) y7r) y7s) y7t) y7u) y7v) y7w) y7x) y7y) y7z) y8c) y8d) y8e) y8f) y8g) y8h) y8i) y8j) y8k) y8l) y8m) y8n) y8o)
theorem optSites_named:Tryz.prog.funcNamed "restitch/restitchlaw15.OptSites" = some 6:=by kernel_rfl
theorem z6h:Tryz.checked.prog.inits.idxOf? 6=none:=by kernel_rfl
theorem z4c:Tryz.f6.resultTypes=#[4]:=by kernel_rfl
theorem y2b:([26,36].all fun t=>Tryz.prog.readableRec t&&decide (t < Tryz.prog.types.size))=true:=by kernel_rfl
theorem z6i:Rows.optSitesRow.wfByText (OpenSpec.ofChange Rows.optSitesSpec)=true:=by kernel_rfl
theorem y1z:false=Rows.optSitesRow.goesBy Tryz.prog:=by kernel_rfl
theorem z9s:([26,36].all fun u=> !Tryz.prog.wantsStandIn u)=true:=by kernel_rfl
abbrev optSites_args:Array Value:=#[.agg #[.slice none 0 0,.slice none 0 0,.slice none 0 0,.slice none 0 0],.agg #[.int .i64 0,.int .i64 0,.slice none 0 0,.int .i64 0]]
theorem z6g (os:Os) (started:os.Started) (H:Type) (enc:TypeId×Value->H) :
  ReturnsInHanded {} Tryz.checked os 6 .any (fun w args=>(Rows.optSitesSpec.pre enc Tryz.prog Tryz.f6 [] false w args/\laidMetH Tryz.prog laidAll w)/\sizedMet enc Tryz.prog Tryz.f6 (OpenSpec.ofChange Rows.optSitesSpec) false w args)
   (Rows.optSitesSpec.post enc Tryz.prog Tryz.f6 false true false false):=by
 refine z5q (C:=Tryz.checked) (X:=fun w _=>laidMetH Tryz.prog laidAll w) (fun _ _ _ s h=>h.of_heap s) own started z6h Tryz.func6
  (ChangeSpec.witness_shaped (enc:=enc) (C:=Tryz.checked) (os:=os) (X:=fun w _=>laidMetH Tryz.prog laidAll w) false (World.laidAll Tryz.prog os laidAll) optSites_args 8 (World.laidAll_os _ _ _)
   (World.shaped_of_ZipB (by as_aux_lemma=>kernel_rfl) (by as_aux_lemma=>kernel_rfl)) (by as_aux_lemma=>kernel_rfl) (by as_aux_lemma=>kernel_rfl) (by as_aux_lemma=>kernel_rfl)
   (by rw [dH];exact q1r os _)) ?_
 intro W base args ds gs before b m l f
 have a:∀(j:Nat) t v,Tryz.f6.params[j]? = some t->args[j]? = some v->Value.okWide Tryz.prog W .any base t v:=b
 have hW':=m
 obtain ⟨p,q,d,A,rfl,_,_⟩:=m
 have k:DataW.TrodAll enc Tryz.prog W 0 (fun _=>true) true Tryz.f6.params.toList args.toList ds p:=d
 rw [Tryz.params6] at k a
 obtain ⟨v0,v1,y,z,B,p1,rfl,rfl,rfl,n,o⟩:=trodAll_two k
 rw [dH] at l
 obtain ⟨cs,c,rfl,g⟩:=j1b (a 0 26 v0 rfl rfl) n
 obtain ⟨rc,ru,fn,path,nu,rfl,i⟩:=rw_arg (a 1 36 v1 rfl rfl) o
 refine (q2v g i (q9w f l) (Mem.whole W)).mono fun e W' ⟨J,N⟩=>?_
 subst J
 exact ⟨_,rfl,q1s hW' rfl (fun gs r=>by subst r;rfl) z4c (by rw [Tryz.params6];exact fun t u=>j0r y2b u) N⟩
theorem z9r:Rows.OptSitesSaid :=
 OpenClaim.holds_of_wide 6 Tryz.f6 rfl rfl rfl rfl rfl rfl rfl ⟨rfl,rfl,rfl,rfl,rfl⟩ rfl rfl rfl rfl rfl optSites_named Tryz.func6 z6f
  (of_decide_eq_true (by as_aux_lemma=>kernel_rfl)) (by unfold Func.isWrapper;first | (rw [if_pos (by decide +kernel)];as_aux_lemma=>kernel_rfl) | (rw [if_neg (by decide +kernel)];exact ⟨rfl,rfl⟩))
  (fun os started H enc _=>z6g os started H enc)
theorem optSites_card:Rows.OptSitesCardSaid :=
 Claim7.holds_tied_plain_at .later [] [.data,.data,.data,.data,.sentinel,.sentinel,.pinned] true (true,"85501da53bcbeb676a92cebcef877aabde4957abcbe701bf1dd5251624ce4289") true z9r (fun _ h=>by cases h) z6i (fun _ h=>by cases h) optSites_row_tie rfl ⟨rfl,rfl⟩ j0i rfl
  (fun f fn c a=>by
   obtain rfl:f=6:=Option.some.inj (optSites_named.symm.trans c) |>.symm
   obtain rfl:fn=Tryz.f6:=(Option.some.inj (Tryz.func6.symm.trans a)).symm
   exact ⟨q1t,fun j t b=>by
    rw [Tryz.params6] at b
    have N:t∈[26,36]:=by simpa using Array.mem_of_getElem? b
    exact (show Tryz.prog.wantsStandIn t=false by simpa using List.all_eq_true.1 z9s t N)⟩)
  y1z
#print axioms optSites_card
end Go.Proofs.YtlfobekmmndchaaGreatDoor
