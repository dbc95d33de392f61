import Derived.Test.YtgkhcfjooiekkaaGreatDoorX06
set_option linter.unusedVariables false
set_option linter.unusedSimpArgs false
namespace Go.Sw
open Go.Proofs.Tryz
open Go.Proofs
set_option maxRecDepth 20000
set_option maxHeartbeats 4000000
variable {V:Fz} {K:List Res} {w:World}
theorem j7d {L:Addr} {T:Table} {d1:List Value} {e:Ex} {b:Nat} {s:Scope} (j:RTable V L T) (g:REx V d1 e) (N:Mem V (.mp b (jW s)::K) w) :
  Calls prog 139 #[.pointer (some L),.agg d1.toArray,.map (some b)] w (fun ee w'=>ee=.returned (.string (gM e))/\Mem V (.mp b (jW s)::K) w'):=by
 obtain ⟨k,m1,m2,m3,m4,d5,d6,d7,d8,h,i,f,c0,F,C,G,D,H,E,I⟩:=j.ex
 obtain ⟨d0,c24,e0,P,f0,R,g0,c42,rfl,W,X,Y,Z,n,u,o,v,p,y,q,z⟩:=RCore.fm f
 obtain ⟨h0,S,i0,U,rfl,m,a0,b0,r,A,t,B⟩:=REx.fm g
 refine zM func139 ntmps139 fun Q l a J=>?_
 refine Bx J N fun M w N a J=>?_
 refine zW call186 J N (fun d w N a J=>?_) (fun d w N a J=>?_) (c:=oT g N)
 refine go J N fun a J=>?_
 replace N:=N.dl [0]
 refine zD l J N ?_
 exact z5t N (by simp [gM,sNo,yA,d])
 refine go J N fun a J=>?_
 replace N:=N.dl [0]
 refine zD l J N ?_
 exact z5t N (by simp [gM,sNo,yA,d])
theorem q7o {U:Addr} {T:Table} {d1:List Value} {e:Ex} {b:Nat} {s:Scope} (n:RTable V U T) (j:REx V d1 e) (N:Mem V (.mp b (jW s)::K) w) :
  Calls prog 140 #[.pointer (some U),.agg d1.toArray,.map (some b)] w (fun ee w'=>ee=.returned (.string (wF e s))/\Mem V (.mp b (jW s)::K) w'):=by
 obtain ⟨q,m1,m2,m3,m4,d5,d6,d7,d8,l,m,h,j0,M,H,P,I,R,L,S⟩:=n.ex
 obtain ⟨k0,c24,l0,Y,m0,Z,n0,c42,rfl,d0,e0,f0,g0,t,B,u,C,v,D,y,E⟩:=RCore.fm h
 obtain ⟨o0,a0,q0,b0,rfl,r,h0,i0,z,F,A,G⟩:=REx.fm j
 refine zM func140 ntmps140 fun Q k a J=>?_
 refine Bx J N fun X w N a J=>?_
 refine zW call186 J N (fun f w N a J=>?_) (fun f w N a J=>?_) (c:=oT j N)
 refine go J N fun a J=>?_
 rcases g:yO ((jW s)) e.name with _ | W
 have d:=congrArg (zK false (.string ⟨#[]⟩)) g
 refine Qq J N (fun a J=>?_) (o:=by exact fun _ _ _ J O=>Ok.cast (qF 1 runUnderlying157 runUnderlying9 zeroValue9 J O rfl rfl rfl) (show zK false (.string ⟨#[]⟩) (yO ((jW s)) e.name)=.string ⟨#[]⟩ from d))
 refine go J N fun a J=>?_
 replace N:=N.dl [0]
 refine zD k J N ?_
 exact z5t N (by have e_:=j7z g;simp [wF,sNo,f,e_])
 obtain ⟨p,i,rfl⟩:=j8a g
 have d:=congrArg (zK false (.string ⟨#[]⟩)) g
 refine Qq J N (fun a J=>?_) (o:=by exact fun _ _ _ J O=>Ok.cast (qF 1 runUnderlying157 runUnderlying9 zeroValue9 J O rfl rfl rfl) (show zK false (.string ⟨#[]⟩) (yO ((jW s)) e.name)=.string p from d))
 refine go J N fun a J=>?_
 replace N:=N.dl [0]
 refine zD k J N ?_
 exact z5t N (by simp [wF,sNo,f,i])
 refine go J N fun a J=>?_
 replace N:=N.dl [0]
 refine zD k J N ?_
 exact z5t N (by simp [wF,sNo,f])
theorem j6i {W:Addr} {T:Table} {d1:List Value} {e:Ex} {b:Nat} {s:Scope} (r:RTable V W T) (l:REx V d1 e) (N:Mem V (.mp b (jW s)::K) w) :
  Calls prog 141 #[.pointer (some W),.agg d1.toArray,.map (some b)] w (fun ee w'=>ee=.returned (.string (oD T e))/\Mem V (.mp b (jW s)::K) w'):=by
 obtain ⟨u,m1,m2,m3,m4,d5,d6,d7,m,p,q,h,k0,R,M,S,P,U,i,j⟩:=r.ex
 obtain ⟨l0,c24,m0,Z,n0,a0,o0,c42,rfl,e0,f0,g0,h0,y,E,z,F,A,G,B,H⟩:=RCore.fm h
 obtain ⟨q0,b0,r0,c0,rfl,v,i0,j0,C,I,D,L⟩:=REx.fm l
 refine zM func141 ntmps141 fun Q n a J=>?_
 refine Bx J N fun Y w N a J=>?_
 refine zW call186 J N (fun f w N a J=>?_) (fun f w N a J=>?_) (c:=oT l N)
 refine Reg [1,1,1,2,1,2,2,1] [0,1] J N fun w N a J=>?_
 refine go J N fun a J=>?_
 rcases g:yO (m) e.name with _ | X
 have d:=congrArg (zK false (.string ⟨#[]⟩)) g
 refine Qq J N (fun a J=>?_) (o:=by exact fun _ _ _ J O=>Ok.cast (zY runUnderlying104 runUnderlying9 zeroValue9 J O rfl rfl i) (show zK false (.string ⟨#[]⟩) (yO (m) e.name)=.string ⟨#[]⟩ from d))
 refine go J N fun a J=>?_
 replace N:=N.dl [0]
 refine zD n J N ?_
 exact z5t N (by have e_:=MapRel.none j g;simp [oD,sNo,f,e_])
 obtain ⟨t,k,rfl⟩:=j.get g
 have d:=congrArg (zK false (.string ⟨#[]⟩)) g
 refine Qq J N (fun a J=>?_) (o:=by exact fun _ _ _ J O=>Ok.cast (zY runUnderlying104 runUnderlying9 zeroValue9 J O rfl rfl i) (show zK false (.string ⟨#[]⟩) (yO (m) e.name)=.string t from d))
 refine go J N fun a J=>?_
 replace N:=N.dl [0]
 refine zD n J N ?_
 exact z5t N (by simp [oD,sNo,f,k])
 refine go J N fun a J=>?_
 replace N:=N.dl [0]
 refine zD n J N ?_
 exact z5t N (by simp [oD,sNo,f])
theorem q8n {p0:Addr} {T:Table} {v1:Value} {xs:List Ex} {b:Nat} {s:Scope} {v3:Value} {ts:List Bs} (y:RTable V p0 T) (n:SliceOf REx V 5 v1 xs) (m:SliceOf RStr V 1 v3 ts) (ih:∀x:Ex,x∈xs->∀{V:Fz} {K:List Res} {w:World} {p:Addr} {d:List Value} {b:Nat} {s:Scope},RTable V p T->REx V d x->Mem V (.mp b (jW s)::K) w->Calls prog 86 #[.pointer (some p),.agg d.toArray,.map (some b)] w (fun ee w'=>ee=.returned (.string (zF T x s).1)/\Mem V (.mp b (jW (zF T x s).2)::K) w')) (N:Mem V (.mp b (jW s)::K) w) :
  Calls prog 187 #[.pointer (some p0),v1,.map (some b),v3] w (fun ee w'=>ee=.returned (.bool ((xP T xs s ts).1))/\Mem V (.mp b (jW (xP T xs s ts).2)::K) w'):=by
 obtain ⟨G,m1,m2,m3,m4,d5,d6,d7,d8,B,C,h,J0,k0,h0,l0,i0,m0,j0,n0⟩:=y.ex
 obtain ⟨K0,c24,L0,t0,M0,u0,N0,c42,rfl,x0,y0,z0,A0,U,b0,W,c0,X,d0,Y,e0⟩:=RCore.fm h
 obtain ⟨p1,c1,rfl,G0,E⟩:=n.fm
 obtain ⟨p3,c3,rfl,H0,F⟩:=m.fm
 refine zM func187 ntmps187 fun Q A a J=>?_
 refine go J N fun a J=>?_
 by_cases B0:xs.length=ts.length
 refine go J N fun a J=>?_
 refine zV (J.ks [0,2,3,17,18]) N (fun R mm a w=>∃(i:Nat) (q:Scope),mm=xs.length - i/\R V [(19,.int .i64 ((i:Nat):Int))] [(0,.mp b (jW q))] a w/\(xP T xs s ts=allQ T (xs.drop i) q (ts.drop i))) (xs.length - 0) ⟨0,s,rfl,⟨J.pk,N⟩,by simp [xP, *]⟩ ?_
 clear N J
 rintro mm a w ⟨i,q,D,⟨J,N⟩,f⟩ r0 t
 replace N:=N.nf
 refine go J N fun a J=>?_
 by_cases r:i < xs.length
 refine go J N fun a J=>?_
 obtain ⟨Q0,rfl,j,g,H,P,I,k⟩:=n.el E r
 obtain ⟨O0,c68,P0,w0,rfl,M,C0,D0,Z,f0,a0,g0⟩:=REx.fm k
 refine Alc J N fun s0 w N a J=>?_
 refine Sto 0 J N fun w N a J=>?_
 replace N:=N.pl 1
 refine zS call86 J N (fun w N a J=>?_) (c:=ih _ (by exact mgQ g) y k N)
 refine go J N fun a J=>?_
 by_cases E0:(zF T j q).1=(⟨#[]⟩:Bs)
 refine go J N fun a J=>?_
 replace N:=N.dl [1]
 refine zD A J N ?_
 have e:xP T xs s ts=(false,(zF T j q).2):=by
  rw [f,zA g];simp [allQ,sNo, *]
 show _/\_;rw [e];exact ⟨rfl,N⟩
 refine go J N fun a J=>?_
 have u:i < ts.length:=by omega
 obtain ⟨R0,rfl,z,l,o,S,L,v⟩:=m.el F u
 obtain rfl:o=[.string z]:=v
 refine go J N fun a J=>?_
 by_cases F0:(zF T j q).1=z
 refine go J N fun a J=>?_
 replace N:=N.dl [1]
 refine t _ _ _ (by subst D;omega) ⟨(i+1),((zF T j q).2),rfl,⟨J.pk,N⟩,?_⟩
 rw [f,zA g,zA l];rw [z2a,if_neg (by rintro (h_ | h_) <;> simp_all [sNo])]
 refine go J N fun a J=>?_
 replace N:=N.dl [1]
 refine zD A J N ?_
 have e:xP T xs s ts=(false,(zF T j q).2):=by
  rw [f,zA g,zA l];simp [allQ,sNo, *]
 show _/\_;rw [e];exact ⟨rfl,N⟩
 refine zD A J N ?_
 have e:xP T xs s ts=(true,q):=by
  rw [f,zE r];rfl
 show _/\_;rw [e];exact ⟨rfl,N⟩
 refine zD A J N ?_
 have e:xP T xs s ts=(false,s):=by
  simp [xP, *]
 show _/\_;rw [e];exact ⟨rfl,N⟩
end Go.Sw

namespace Go.Sw
open Go.Proofs.Tryz
open Go.Proofs
set_option maxRecDepth 20000
set_option maxHeartbeats 4000000
theorem con_ok {V:Fz} {K:List Res} {w:World} {p0:Addr} {T:Table} {d1:List Value} {e:Ex} {b:Nat} {s:Scope} (t:RTable V p0 T) (u:REx V d1 e) (ih:∀x:Ex,x.sz < e.sz->∀{V:Fz} {K:List Res} {w:World} {p:Addr} {d:List Value} {b:Nat} {s:Scope},RTable V p T->REx V d x->Mem V (.mp b (jW s)::K) w->Calls prog 86 #[.pointer (some p),.agg d.toArray,.map (some b)] w (fun ee w'=>ee=.returned (.string (zF T x s).1)/\Mem V (.mp b (jW (zF T x s).2)::K) w')) (N:Mem V (.mp b (jW s)::K) w) :
  Calls prog 142 #[.pointer (some p0),.agg d1.toArray,.map (some b)] w (fun ee w'=>ee=.returned (.string ((sI T e s).1))/\Mem V (.mp b (jW (sI T e s).2)::K) w'):=by
 obtain ⟨E,m1,m2,m3,m4,d5,y,d7,d8,B,C,j,B0,f0,k,l,d0,g0,e0,h0⟩:=t.ex
 obtain ⟨C0,c24,D0,o0,E0,q0,F0,c42,rfl,t0,u0,w0,x0,H,U,I,W,L,X,M,Y⟩:=RCore.fm j
 obtain ⟨G0,r0,H0,s0,rfl,G,z,y0,P,Z,R,a0⟩:=REx.fm u
 refine zM func142 ntmps142 fun Q v a J=>?_
 refine Bx J N fun k0 w N a J=>?_
 refine Reg [1,1,1,2,1,2,2,1,1,1,0,0,1] [0,1] J N fun w N a J=>?_
 refine go J N fun a J=>?_
 rcases h:yO (y) e.name with _ | j0
 have f:=congrArg (zK true (.agg #[.string ⟨#[]⟩,.string ⟨#[]⟩,.slice none 0 0])) h
 refine Qq J N (fun a J=>?_) (o:=by exact fun _ _ _ J O=>Ok.cast (zY runUnderlying102 runUnderlying9 zeroValue190 J O rfl rfl k) (show zK true (.agg #[.string ⟨#[]⟩,.string ⟨#[]⟩,.slice none 0 0]) (yO (y) e.name)=.tuple #[.agg #[.string ⟨#[]⟩,.string ⟨#[]⟩,.slice none 0 0],.bool false] from f))
 refine Alc J N fun l0 w N a J=>?_
 refine Sto 0 J N fun w N a J=>?_
 refine go J N fun a J=>?_
 replace N:=N.dl [1,0]
 refine zD v J N ?_
 have g:sI T e s=((⟨#[]⟩:Bs),s):=by
  have e_:=MapRel.none l h
  simp [sI,sNo, *]
 show _/\_;rw [g];exact ⟨rfl,N⟩
 obtain ⟨i,c0,F,rfl,r⟩:=l.get h
 obtain ⟨m0,rfl,A⟩:=id r
 obtain ⟨I0,rfl,m⟩:=id A
 obtain ⟨D,c76,rfl,S,b0⟩:=m.fm
 have f:=congrArg (zK true (.agg #[.string ⟨#[]⟩,.string ⟨#[]⟩,.slice none 0 0])) h
 refine Qq J N (fun a J=>?_) (o:=by exact fun _ _ _ J O=>Ok.cast (zY runUnderlying102 runUnderlying9 zeroValue190 J O rfl rfl k) (show zK true (.agg #[.string ⟨#[]⟩,.string ⟨#[]⟩,.slice none 0 0]) (yO (y) e.name)=.tuple #[.agg #[.string i.data,.string i.con.name,.slice D i.con.fields.length c76],.bool true] from f))
 refine Alc J N fun n0 w N a J=>?_
 refine Sto 0 J N fun w N a J=>?_
 refine zW call186 J N (fun n w N a J=>?_) (fun n w N a J=>?_) (c:=oT u N)
 replace N:=N.pl 2
 refine zW call187 J N (fun q w N a J=>?_) (fun q w N a J=>?_) (c:=q8n (T:=T) t z m (fun x hx=>ih x (Ex.lt_args hx)) N)
 refine go J N fun a J=>?_
 replace N:=N.dl [2,1]
 refine zD v J N ?_
 have g:sI T e s=(i.data,(xP T e.args s i.con.fields).2):=by
  simp [sI,sNo, *]
 show _/\_;rw [g];exact ⟨rfl,N⟩
 refine go J N fun a J=>?_
 replace N:=N.dl [2,1]
 refine zD v J N ?_
 have g:sI T e s=((⟨#[]⟩:Bs),(xP T e.args s i.con.fields).2):=by
  simp [sI,sNo, *]
 show _/\_;rw [g];exact ⟨rfl,N⟩
 refine go J N fun a J=>?_
 replace N:=N.dl [1,0]
 refine zD v J N ?_
 have g:sI T e s=((⟨#[]⟩:Bs),s):=by
  simp [sI,sNo, *]
 show _/\_;rw [g];exact ⟨rfl,N⟩
end Go.Sw

namespace Go.Sw
open Go.Proofs
set_option maxRecDepth 20000
set_option maxHeartbeats 4000000
theorem z7z {V:Fz} {K:List Res} {w:World} (N:Mem V K w) :
  Calls Tryz.prog 188 #[] w (fun ee w'=>∃y:Fz×List Value,ee=.returned (.agg y.2.toArray)/\(V.Le y.1/\RData y.1 y.2 truthsD)/\Mem y.1 K w'):=by
 refine zM Tryz.func188 Tryz.ntmps188 fun Q n a J=>?_
 refine Alc J N fun o w N a J=>?_
 refine yE J N fun a J=>?_
 refine yE J N fun a J=>?_
 refine qG J N fun v4 w N a J=>?_
 have b:=N
 clear N
 obtain ⟨f,j,N,e⟩:=b.freezeRow (i:=0) rfl
 clear b
 replace N:=N.nf
 have d:SliceOf RCon f 2 _ (truthsD.cons):=⟨_,e,⟨[_,_],[_,_],rfl,rfl,⟨_,rfl,SliceOf.nil 1⟩,[_,_],[],rfl,rfl,⟨_,rfl,SliceOf.nil 1⟩,rfl⟩⟩
 obtain ⟨p,m,h,k,l⟩:=d.form (by decide)
 have c:=N
 clear N
 subst h
 have N:=c
 clear c
 refine yE J N fun a J=>?_
 refine Sto 0 J N fun w N a J=>?_
 refine go J N fun a J=>?_
 have g:=N
 replace N:=N.dl [0]
 refine jS n J g ?_
 exact ⟨(f,_),rfl,⟨j,_,rfl,d⟩,N⟩
end Go.Sw

namespace Go.Sw
open Go.Proofs.Tryz
open Go.Proofs
set_option maxRecDepth 20000
set_option maxHeartbeats 4000000
theorem op_ok {V:Fz} {K:List Res} {w:World} {p0:Addr} {T:Table} {d1:List Value} {e:Ex} {b:Nat} {s:Scope} (u:RTable V p0 T) (k:REx V d1 e) (ih:∀x:Ex,x.sz < e.sz->∀{V:Fz} {K:List Res} {w:World} {p:Addr} {d:List Value} {b:Nat} {s:Scope},RTable V p T->REx V d x->Mem V (.mp b (jW s)::K) w->Calls prog 86 #[.pointer (some p),.agg d.toArray,.map (some b)] w (fun ee w'=>ee=.returned (.string (zF T x s).1)/\Mem V (.mp b (jW (zF T x s).2)::K) w')) (N:Mem V (.mp b (jW s)::K) w) :
  Calls prog 146 #[.pointer (some p0),.agg d1.toArray,.map (some b)] w (fun ee w'=>ee=.returned (.string ((mT T e s).1))/\Mem V (.mp b (jW (mT T e s).2)::K) w'):=by
 obtain ⟨a0,m1,m2,m3,m4,d5,d6,d7,d8,h,L,m,b1,x0,t0,y0,u0,z0,w0,A0⟩:=u.ex
 obtain ⟨c1,c24,e1,I0,f1,J0,g1,c42,rfl,O0,P0,Q0,R0,e0,l0,f0,m0,g0,n0,h0,o0⟩:=RCore.fm m
 obtain ⟨h1,K0,i1,L0,rfl,d0,A,S0,i0,q0,j0,r0⟩:=REx.fm k
 refine zM func146 ntmps146 fun Q r a J=>?_
 refine Bx J N fun H0 w N a J=>?_
 refine zW call186 J N (fun E w N a J=>?_) (fun E w N a J=>?_) (c:=oT k N)
 refine qG J N fun k1 w N a J=>?_
 have v:=N
 clear N
 obtain ⟨I,f,N,t⟩:=v.freezeRow (i:=0) rfl
 clear v
 replace h:=h.mono f
 replace u:=u.mono f
 replace A:=A.up f
 replace k:=REx.mono _ _ _ _ f k
 replace N:=N.nf
 have q:SliceOf RStr I 1 _ ([yA,yA]):=SliceOf.strs.2 t
 obtain ⟨j1,M0,U,k0,s0⟩:=q.form (by decide)
 have y:=N
 clear N
 subst U
 have N:=y
 clear y
 replace N:=N.pl 1
 refine zW call187 J N (fun F w N a J=>?_) (fun F w N a J=>?_) (c:=q8n (T:=T) u A q (fun x hx=>ih x (Ex.lt_args hx)) N)
 refine go J N fun a J=>?_
 by_cases T0:e.name=(⟨#[43]⟩:Bs)
 refine go J N fun a J=>?_
 replace N:=N.le (f)
 replace N:=N.dl [1]
 refine zD r J N ?_
 have g:mT T e s=((⟨#[73,110,116]⟩:Bs),(xP T e.args s ([yA,yA])).2):=by simp [mT,opT,sNo,vS,truthsD, *] <;> rfl
 show _/\_;rw [g];exact ⟨rfl,N⟩
 refine go J N fun a J=>?_
 by_cases U0:e.name=(⟨#[45]⟩:Bs)
 refine go J N fun a J=>?_
 replace N:=N.le (f)
 replace N:=N.dl [1]
 refine zD r J N ?_
 have g:mT T e s=((⟨#[73,110,116]⟩:Bs),(xP T e.args s ([yA,yA])).2):=by simp [mT,opT,sNo,vS,truthsD, *] <;> rfl
 show _/\_;rw [g];exact ⟨rfl,N⟩
 refine go J N fun a J=>?_
 by_cases V0:e.name=(⟨#[42]⟩:Bs)
 refine go J N fun a J=>?_
 replace N:=N.le (f)
 replace N:=N.dl [1]
 refine zD r J N ?_
 have g:mT T e s=((⟨#[73,110,116]⟩:Bs),(xP T e.args s ([yA,yA])).2):=by simp [mT,opT,sNo,vS,truthsD, *] <;> rfl
 show _/\_;rw [g];exact ⟨rfl,N⟩
 refine go J N fun a J=>?_
 by_cases W0:e.name=(⟨#[47]⟩:Bs)
 refine go J N fun a J=>?_
 replace N:=N.le (f)
 replace N:=N.dl [1]
 refine zD r J N ?_
 have g:mT T e s=((⟨#[73,110,116]⟩:Bs),(xP T e.args s ([yA,yA])).2):=by simp [mT,opT,sNo,vS,truthsD, *] <;> rfl
 show _/\_;rw [g];exact ⟨rfl,N⟩
 refine go J N fun a J=>?_
 by_cases X0:e.name=(⟨#[37]⟩:Bs)
 refine go J N fun a J=>?_
 replace N:=N.le (f)
 replace N:=N.dl [1]
 refine zD r J N ?_
 have g:mT T e s=((⟨#[73,110,116]⟩:Bs),(xP T e.args s ([yA,yA])).2):=by simp [mT,opT,sNo,vS,truthsD, *] <;> rfl
 show _/\_;rw [g];exact ⟨rfl,N⟩
 refine go J N fun a J=>?_
 by_cases Y0:e.name=(⟨#[60]⟩:Bs)
 refine qH call188 J N (fun W w G N a J=>?_) (c:=z7z N)
 obtain ⟨G0,N0⟩:=W
 obtain ⟨l,z⟩:=G
 simp only at l z N J
 replace h:=h.mono l
 replace k:=REx.mono _ _ _ _ l k
 replace N:=N.nf
 obtain ⟨E0,rfl,C⟩:=id z
 obtain ⟨C0,Y,rfl,M,R⟩:=C.fm
 refine Qq J N (fun a J=>?_) (o:=by exact fun _ _ _ J O=>j4v runUnderlying133 rfl isAgg9 J rfl rfl)
 refine go J N fun a J=>?_
 replace N:=N.le ((f).trans l)
 replace N:=N.dl [1]
 refine zD r J N ?_
 have g:mT T e s=(truthsD.name,(xP T e.args s ([yA,yA])).2):=by simp [mT,opT,sNo,vS,truthsD, *] <;> rfl
 show _/\_;rw [g];exact ⟨rfl,N⟩
 refine go J N fun a J=>?_
 by_cases c0:e.name=(⟨#[61]⟩:Bs)
 refine qH call188 J N (fun H w B N a J=>?_) (c:=z7z N)
 obtain ⟨X,b0⟩:=H
 obtain ⟨j,n⟩:=B
 simp only at j n N J
 replace h:=h.mono j
 replace k:=REx.mono _ _ _ _ j k
 replace N:=N.nf
 obtain ⟨F0,rfl,D⟩:=id n
 obtain ⟨D0,Z,rfl,P,S⟩:=D.fm
 refine Qq J N (fun a J=>?_) (o:=by exact fun _ _ _ J O=>j4v runUnderlying133 rfl isAgg9 J rfl rfl)
 refine go J N fun a J=>?_
 replace N:=N.le ((f).trans j)
 replace N:=N.dl [1]
 refine zD r J N ?_
 have g:mT T e s=(truthsD.name,(xP T e.args s ([yA,yA])).2):=by simp [mT,opT,sNo,vS,truthsD, *] <;> rfl
 show _/\_;rw [g];exact ⟨rfl,N⟩
 refine go J N fun a J=>?_
 replace N:=N.le (f)
 replace N:=N.dl [1]
 refine zD r J N ?_
 have g:mT T e s=((⟨#[]⟩:Bs),(xP T e.args s ([yA,yA])).2):=by simp [mT,opT,sNo,vS,truthsD, *] <;> rfl
 show _/\_;rw [g];exact ⟨rfl,N⟩
 refine go J N fun a J=>?_
 replace N:=N.le (f)
 replace N:=N.dl [1]
 refine zD r J N ?_
 have g:mT T e s=((⟨#[]⟩:Bs),(xP T e.args s ([yA,yA])).2):=by simp [mT,opT,sNo,vS,truthsD, *] <;> rfl
 show _/\_;rw [g];exact ⟨rfl,N⟩
 refine go J N fun a J=>?_
 replace N:=N.dl [0]
 refine zD r J N ?_
 have g:mT T e s=((⟨#[]⟩:Bs),s):=by simp [mT,opT,sNo,vS,truthsD, *] <;> rfl
 show _/\_;rw [g];exact ⟨rfl,N⟩
theorem call_ok {V:Fz} {K:List Res} {w:World} {p0:Addr} {T:Table} {d1:List Value} {e:Ex} {b:Nat} {s:Scope} (z:RTable V p0 T) (A:REx V d1 e) (hT:∀n f,zN T.funs n=some f->f.params.length<=1000) (ih:∀x:Ex,x.sz < e.sz->∀{V:Fz} {K:List Res} {w:World} {p:Addr} {d:List Value} {b:Nat} {s:Scope},RTable V p T->REx V d x->Mem V (.mp b (jW s)::K) w->Calls prog 86 #[.pointer (some p),.agg d.toArray,.map (some b)] w (fun ee w'=>ee=.returned (.string (zF T x s).1)/\Mem V (.mp b (jW (zF T x s).2)::K) w')) (N:Mem V (.mp b (jW s)::K) w) :
  Calls prog 143 #[.pointer (some p0),.agg d1.toArray,.map (some b)] w (fun ee w'=>ee=.returned (.string ((mV T e s).1))/\Mem V (.mp b (jW (mV T e s).2)::K) w'):=by
 obtain ⟨x0,m1,m2,m3,m4,d5,d6,d7,d8,r,j0,t,y1,U0,S0,V0,E,F,T0,W0⟩:=z.ex
 obtain ⟨z1,c24,A1,i1,B1,j1,C1,c42,rfl,n1,o1,p1,q1,B0,K0,C0,L0,D0,M0,E0,N0⟩:=RCore.fm t
 obtain ⟨D1,k1,E1,l1,rfl,z0,G,r1,F0,O0,G0,P0⟩:=REx.fm A
 refine zM func143 ntmps143 fun Q hQ a J=>?_
 refine Bx J N fun e1 w N a J=>?_
 refine Reg [1,1,1,2,1,2,2,1,1,1,0,0,1] [0,1] J N fun w N a J=>?_
 refine go J N fun a J=>?_
 rcases m:yO (d7) e.name with _ | b1
 have k:=congrArg (zK true (.agg #[.string ⟨#[]⟩,.slice none 0 0,.string ⟨#[]⟩,.int .i64 ((0:Nat):Int),.int .i64 ((0:Nat):Int),.string ⟨#[]⟩,.slice none 0 0,.slice none 0 0])) m
 refine Qq J N (fun a J=>?_) (o:=by exact fun _ _ _ J O=>Ok.cast (zY runUnderlying103 runUnderlying9 zeroValue68 J O rfl rfl E) (show zK true (.agg #[.string ⟨#[]⟩,.slice none 0 0,.string ⟨#[]⟩,.int .i64 ((0:Nat):Int),.int .i64 ((0:Nat):Int),.string ⟨#[]⟩,.slice none 0 0,.slice none 0 0]) (yO (d7) e.name)=.tuple #[.agg #[.string ⟨#[]⟩,.slice none 0 0,.string ⟨#[]⟩,.int .i64 ((0:Nat):Int),.int .i64 ((0:Nat):Int),.string ⟨#[]⟩,.slice none 0 0,.slice none 0 0],.bool false] from k))
 refine Alc J N fun f1 w N a J=>?_
 refine Sto 0 J N fun w N a J=>?_
 refine go J N fun a J=>?_
 replace N:=N.dl [1,0]
 refine zD hQ J N ?_
 have l:mV T e s=((⟨#[]⟩:Bs),s):=by
  have e_:=MapRel.none F m
  simp [mV,sNo, *]
 show _/\_;rw [l];exact ⟨rfl,N⟩
 obtain ⟨g,Z,y0,rfl,v⟩:=F.get m
 obtain ⟨F1,g1,rfl,S,H⟩:=id v
 obtain ⟨r0,d0,rfl,H0,X⟩:=S.fm
 obtain ⟨s0,e0,t0,f0,rfl,A0,s1,t1,I0,Q0,J0,R0⟩:=REx.fm H
 have k:=congrArg (zK true (.agg #[.string ⟨#[]⟩,.slice none 0 0,.string ⟨#[]⟩,.int .i64 ((0:Nat):Int),.int .i64 ((0:Nat):Int),.string ⟨#[]⟩,.slice none 0 0,.slice none 0 0])) m
 refine Qq J N (fun a J=>?_) (o:=by exact fun _ _ _ J O=>Ok.cast (zY runUnderlying103 runUnderlying9 zeroValue68 J O rfl rfl E) (show zK true (.agg #[.string ⟨#[]⟩,.slice none 0 0,.string ⟨#[]⟩,.int .i64 ((0:Nat):Int),.int .i64 ((0:Nat):Int),.string ⟨#[]⟩,.slice none 0 0,.slice none 0 0]) (yO (d7) e.name)=.tuple #[.agg #[.string g.name,.slice r0 g.params.length d0,.string g.result,.int .i64 (g.body.kind),.int .i64 (g.body.num),.string g.body.name,.slice s0 g.body.args.length e0,.slice t0 g.body.arms.length f0],.bool true] from k))
 refine Alc J N fun h1 w N a J=>?_
 refine Sto 0 J N fun w N a J=>?_
 refine zW call186 J N (fun U w N a J=>?_) (fun U w N a J=>?_) (c:=oT A N)
 refine go J N fun a J=>?_
 replace N:=N.nilRow 9 1
 replace N:=N.nf
 refine go J N fun a J=>?_
 refine zV (J.ks [0,2,4,7,30,31]) N (fun R mm a w=>∃(i:Nat) (u:Value) (ty:List Bs),mm=g.params.length - i/\R V [(9,u),(32,.int .i64 ((i:Nat):Int))] [(0,.gs (u) 9 1 (strs ty))] a w/\(g.params.map Param.type=ty++(g.params.drop i).map Param.type)) (g.params.length - 0) ⟨0,.slice none 0 0,[],rfl,⟨J.pk,N⟩,by simp⟩ ?_
 clear N J
 rintro mm a w ⟨i,u,ty,m0,⟨J,N⟩,j⟩ c1 W
 replace N:=N.nf
 refine go J N fun a J=>?_
 by_cases B:i < g.params.length
 refine go J N fun a J=>?_
 obtain ⟨Z0,rfl,b0,M,g0,k0,i0,L⟩:=S.el X B
 obtain rfl:=id L
 refine Alc J N fun u0 w N a J=>?_
 refine Sto 0 J N fun w N a J=>?_
 refine qG J N fun a1 w N a J=>?_
 refine qN 2 wM J N (fun a0 w N a J=>?_) (hb:=by have o0:=congrArg List.length j;have v1:=hT _ _ Z;simp only [List.length_map,laQ,yF,lcQ,lnQ] at o0 ⊢;omega)
 first | rw [jJ] at N | rw [<- yQ] at N
 refine go J N fun a J=>?_
 replace N:=N.dl [1,0]
 refine W _ _ _ (by subst m0;omega) ⟨(i+1),(a0),((ty++[b0.type])),rfl,⟨J.pk,N⟩,?_⟩
 rw [j,zA M];simp
 refine go J N fun a J=>?_
 have Y:ty=g.params.map Param.type:=by rw [j,zE B];simp
 subst Y
 refine go J N fun a J=>?_
 have C:=N
 clear N
 obtain ⟨P,h,N,y⟩:=C.freezeRow (i:=0) rfl
 clear C
 replace r:=r.mono h
 replace z:=z.mono h
 replace G:=G.up h
 replace A:=REx.mono _ _ _ _ h A
 replace v:=RFun.mono _ _ _ _ h v
 replace H:=REx.mono _ _ _ _ h H
 replace N:=N.nf
 have q:SliceOf RStr P 1 _ ((g.params.map Param.type)):=SliceOf.strs.2 y
 obtain ⟨Y0,w0,q0,l0,n0⟩:=q.form (by decide)
 have D:=N
 clear N
 subst q0
 have N:=D
 clear D
 replace N:=N.pl 2
 refine zW call187 J N (fun I w N a J=>?_) (fun I w N a J=>?_) (c:=q8n (T:=T) z G q (fun x hx=>ih x (Ex.lt_args hx)) N)
 refine go J N fun a J=>?_
 replace N:=N.le (h)
 replace N:=N.dl [2,1]
 refine zD hQ J N ?_
 have l:mV T e s=(g.result,(xP T e.args s (g.params.map Param.type)).2):=by
  clear j
  simp [mV,sNo, *]
 show _/\_;rw [l];exact ⟨rfl,N⟩
 refine go J N fun a J=>?_
 replace N:=N.le (h)
 replace N:=N.dl [2,1]
 refine zD hQ J N ?_
 have l:mV T e s=((⟨#[]⟩:Bs),(xP T e.args s (g.params.map Param.type)).2):=by
  clear j
  simp [mV,sNo, *]
 show _/\_;rw [l];exact ⟨rfl,N⟩
 refine go J N fun a J=>?_
 replace N:=N.dl [1,0]
 refine zD hQ J N ?_
 have l:mV T e s=((⟨#[]⟩:Bs),s):=by
  simp [mV,sNo, *]
 show _/\_;rw [l];exact ⟨rfl,N⟩
theorem x4h {V:Fz} {K:List Res} {w:World} {p0:Addr} {T:Table} {d1:List Value} {e:Ex} {b:Nat} {s:Scope} (t0:RTable V p0 T) (D1:REx V d1 e) (ih:∀x:Ex,x.sz < e.sz->∀{V:Fz} {K:List Res} {w:World} {p:Addr} {d:List Value} {b:Nat} {s:Scope},RTable V p T->REx V d x->Mem V (.mp b (jW s)::K) w->Calls prog 86 #[.pointer (some p),.agg d.toArray,.map (some b)] w (fun ee w'=>ee=.returned (.string (zF T x s).1)/\Mem V (.mp b (jW (zF T x s).2)::K) w')) (N:Mem V (.mp b (jW s)::K) w) :
  Calls prog 145 #[.pointer (some p0),.agg d1.toArray,.map (some b)] w (fun ee w'=>ee=.returned (.string ((jO T e s).1))/\Mem V (.mp b (jW (jO T e s).2)::K) w'):=by
 obtain ⟨Y2,m1,m2,m3,m4,d5,d6,d7,d8,W1,X1,o0,u0,i0,P3,S3,Q3,T3,R3,U3⟩:=t0.ex
 obtain ⟨J4,c24,K4,x4,L4,y4,M4,c42,rfl,D4,E4,F4,G4,A3,J3,B3,K3,C3,L3,D3,M3⟩:=RCore.fm o0
 obtain ⟨N4,z4,O4,A4,rfl,w3,L1,x1,E3,A1,F3,E0⟩:=REx.fm D1
 refine zM func145 ntmps145 fun Q hQ a J=>?_
 refine Bx J N fun v4 w N a J=>?_
 refine zW call186 J N (fun D0 w N a J=>?_) (fun D0 w N a J=>?_) (c:=oT D1 N)
 refine go J N fun a J=>?_
 refine yZ [1,1,1,2,1,1,2,1,2,1,0,2,1,1,1,0,0,1] (.q 0 (.q 1 (.q 2 (.q 3 (.q 4 (.q 5 (.q 6 (.q 7 (.q 8 (.q 9 (.e2 10 15 (.q 11 (.q 12 (.q 13 (.q 14 (.e 15 (.e 16 (.q 17 (.done)))))))) (.e 10 (.q 11 (.q 12 (.q 13 (.q 14 (.e 16 (.q 17 (.done))))))))))))))))))) [0] J N fun w N=>?_
 have z3:=xI (n:=1) D0
 refine go J N fun a J=>?_
 have z1:0 < e.args.length:=by omega
 obtain ⟨R4,rfl,F,j,Z2,y3,v3,s0⟩:=L1.el A1 z1
 obtain ⟨P4,c75,Q4,B4,rfl,x3,H4,I4,G3,N3,H3,O3⟩:=REx.fm s0
 refine go J N fun a J=>?_
 refine aR ?_ ?_
 replace N:=N.pl 1
 refine zS call86 J N (fun w N a J=>?_) (c:=ih _ (by first | exact Ex.lt_args (mgQ j) | exact Ex.lt_arms (mgQ j)) t0 s0 N)
 rcases h0:yO (d5) ((zF T F s).1) with _ | u4
 have g0:=congrArg (zK true (.agg #[.string ⟨#[]⟩,.slice none 0 0])) h0
 refine Qq J N (fun a J=>?_) (o:=by exact fun _ _ _ J O=>Ok.cast (zY runUnderlying101 runUnderlying9 zeroValue133 J O rfl rfl u0) (show zK true (.agg #[.string ⟨#[]⟩,.slice none 0 0]) (yO (d5) ((zF T F s).1))=.tuple #[.agg #[.string ⟨#[]⟩,.slice none 0 0],.bool false] from g0))
 refine Alc J N fun w4 w N a J=>?_
 refine Sto 0 J N fun w N a J=>?_
 refine go J N fun a J=>?_
 replace N:=N.dl [2,0]
 refine zD hQ J N ?_
 have h:jO T e s=((⟨#[]⟩:Bs),(zF T F s).2):=by
  have e_:=MapRel.none i0 h0
  simp [jO,qY j,sNo, *]
 show _/\_;rw [h];exact ⟨rfl,N⟩
 obtain ⟨L,e0,a3,rfl,B1⟩:=i0.get h0
 obtain ⟨S4,rfl,y1⟩:=id B1
 obtain ⟨A2,F1,rfl,I3,Z0⟩:=y1.fm
 have g0:=congrArg (zK true (.agg #[.string ⟨#[]⟩,.slice none 0 0])) h0
 refine Qq J N (fun a J=>?_) (o:=by exact fun _ _ _ J O=>Ok.cast (zY runUnderlying101 runUnderlying9 zeroValue133 J O rfl rfl u0) (show zK true (.agg #[.string ⟨#[]⟩,.slice none 0 0]) (yO (d5) ((zF T F s).1))=.tuple #[.agg #[.string L.name,.slice A2 L.cons.length F1],.bool true] from g0))
 refine Alc J N fun I2 w N a J=>?_
 refine Sto 0 J N fun w N a J=>?_
 refine go J N fun a J=>?_
 by_cases b3:L.cons.length=e.arms.length
 refine go J N fun a J=>?_
 refine zV (J.ks [0,2,4,48,49]) N (fun R mm a w=>∃(i:Nat) (q:Scope) (out:Bs),mm=L.cons.length - i/\R V [(9,.string out),(50,.int .i64 ((i:Nat):Int))] [(1,.mp b (jW q))] a w/\(splitP T e.arms L.cons true sNo ((zF T F s).2)=splitP T (e.arms.drop i) (L.cons.drop i) (decide (i=0)) out q)) (L.cons.length - 0) ⟨0,(zF T F s).2,sNo,rfl,⟨J.pk,N⟩,rfl⟩ ?_
 clear N J
 rintro mm a w ⟨i,q,out,G,⟨J,N⟩,C⟩ C2 m0
 replace N:=N.nf
 refine go J N fun a J=>?_
 by_cases w0:i < L.cons.length
 refine go J N fun a J=>?_
 obtain ⟨e4,rfl,r,H,G1,a2,M1,e1⟩:=y1.el Z0 w0
 obtain ⟨p4,rfl,x0⟩:=id e1
 obtain ⟨W3,Q2,rfl,l2,a1⟩:=x0.fm
 refine Alc J N fun J2 w N a J=>?_
 refine Sto 0 J N fun w N a J=>?_
 refine go J N fun a J=>?_
 have V0:i < e.arms.length:=by omega
 obtain ⟨f4,rfl,f,z,H1,b2,N1,f1⟩:=x1.el E0 V0
 obtain ⟨q4,K2,rfl,k0,y0⟩:=RArm.iff.1 f1
 obtain ⟨X3,R2,rfl,n2,q0⟩:=k0.fm
 obtain ⟨Y3,S2,Z3,T2,rfl,Y1,d3,e3,o2,w2,p2,x2⟩:=REx.fm y0
 refine Alc J N fun L2 w N a J=>?_
 refine Sto 0 J N fun w N a J=>?_
 refine go J N fun a J=>?_
 by_cases f3:f.con=r.name
 refine go J N fun a J=>?_
 by_cases g3:f.vars.length=r.fields.length
 refine go J N fun a J=>?_
 refine zV (J.ks [0,2,4,9,10,11,12,48,49,50,75,76]) N (fun R mm a w=>∃(k:Nat) (y:Scope),mm=f.vars.length - k/\R V [(77,.int .i64 ((k:Nat):Int))] [(3,.mp b (jW y))] a w/\(putAll q f.vars r.fields=putAll y (f.vars.drop k) (r.fields.drop k))) (f.vars.length - 0) ⟨0,q,rfl,⟨J.pk,N⟩,rfl⟩ ?_
 clear N J
 rintro mm a w ⟨k,y,G,⟨J,N⟩,P⟩ D2 R0
 replace N:=N.nf
 refine go J N fun a J=>?_
 by_cases a0:k < f.vars.length
 refine go J N fun a J=>?_
 obtain ⟨g4,rfl,F0,q1,L0,c2,O1,g1⟩:=k0.el q0 a0
 obtain rfl:L0=[.string F0]:=g1
 refine go J N fun a J=>?_
 have W0:k < r.fields.length:=by omega
 obtain ⟨h4,rfl,G0,r1,M0,d2,P1,h1⟩:=x0.el a1 W0
 obtain rfl:M0=[.string G0]:=h1
 refine z4h 3 runUnderlying157 runUnderlying9 J N fun w N a J=>?_
 rw [z1o] at N
 refine go J N fun a J=>?_
 refine R0 _ _ _ (by subst G;omega) ⟨(k+1),((wH y F0 G0)),rfl,⟨J.pk,N⟩,?_⟩
 rw [P,zA q1,zA r1];rfl
 replace N:=N.pl 3
 refine zS call86 J N (fun w N a J=>?_) (c:=ih _ (by first | exact Ex.lt_args (mgQ z) | exact Ex.lt_arms (mgQ z)) t0 y0 N)
 refine go J N fun a J=>?_
 refine zV (J.ks [0,2,4,9,10,15,48,49,50,96,97]) N (fun R mm a w=>∃(k3:Nat) (M:Scope),mm=f.vars.length - k3/\R V [(98,.int .i64 ((k3:Nat):Int))] [(0,.mp b (jW M))] a w/\(hO ((zF T f.body y).2) f.vars=hO M (f.vars.drop k3))) (f.vars.length - 0) ⟨0,(zF T f.body y).2,rfl,⟨J.pk,N⟩,rfl⟩ ?_
 clear N J
 rintro mm a w ⟨k3,M,G,⟨J,N⟩,S⟩ E2 S0
 replace N:=N.nf
 refine go J N fun a J=>?_
 by_cases b0:k3 < f.vars.length
 refine go J N fun a J=>?_
 obtain ⟨i4,rfl,H0,s1,N0,f2,Q1,i1⟩:=k0.el q0 b0
 obtain rfl:N0=[.string H0]:=i1
 refine go J N fun a J=>?_
 refine st0 J rfl rfl (y2a 0 runUnderlying157 runUnderlying9 J N rfl rfl rfl fun w N a J=>?_)
 rw [z5z] at N
 refine go J N fun a J=>?_
 refine S0 _ _ _ (by subst G;omega) ⟨(k3+1),((z9u M H0)),rfl,⟨J.pk,N⟩,?_⟩
 rw [S,zA s1];rfl
 refine go J N fun a J=>?_
 by_cases h3:(zF T f.body y).1=(⟨#[]⟩:Bs)
 refine go J N fun a J=>?_
 replace N:=N.dl [4,3,2,1]
 refine zD hQ J N ?_
 have h:jO T e s=((⟨#[]⟩:Bs),M):=by
  have E:mS T f r q=((zF T f.body y).1,M):=by
   have B:putAll q f.vars r.fields=y:=by rw [P,zE a0,xA]
   have m:=S
   rw [zE b0] at m
   rw [mS,B,m];rfl
  have v:L.cons.length=e.arms.length:=by assumption
  rw [jO,if_pos (by assumption),qY j,e0]
  simp only
  rw [if_pos v,C,zA z,zA H,qW,if_neg (by simp [*]),E,if_pos (by simp_all [sNo] <;> omega)];rfl
 show _/\_;rw [h];exact ⟨rfl,N⟩
 refine go J N fun a J=>?_
 by_cases i3:0 < i
 refine go J N fun a J=>?_
 by_cases j3:(zF T f.body y).1=out
 refine go J N fun a J=>?_
 replace N:=N.ar [2,1] [2,1,2]
 refine m0 _ _ _ (by subst G;omega) ⟨(i+1),(M),((zF T f.body y).1),rfl,⟨J.pk,N⟩,?_⟩
 have E:mS T f r q=((zF T f.body y).1,M):=by
  have B:putAll q f.vars r.fields=y:=by rw [P,zE a0,xA]
  have m:=S
  rw [zE b0] at m
  rw [mS,B,m];rfl
 rw [C,zA z,zA H,qW,if_neg (by simp [*]),E,if_neg (by simp_all [sNo] <;> omega)];simp
 refine go J N fun a J=>?_
 replace N:=N.dl [4,3,2,1]
 refine zD hQ J N ?_
 have h:jO T e s=((⟨#[]⟩:Bs),M):=by
  have E:mS T f r q=((zF T f.body y).1,M):=by
   have B:putAll q f.vars r.fields=y:=by rw [P,zE a0,xA]
   have m:=S
   rw [zE b0] at m
   rw [mS,B,m];rfl
  have v:L.cons.length=e.arms.length:=by assumption
  rw [jO,if_pos (by assumption),qY j,e0]
  simp only
  rw [if_pos v,C,zA z,zA H,qW,if_neg (by simp [*]),E,if_pos (by simp_all [sNo] <;> omega)];rfl
 show _/\_;rw [h];exact ⟨rfl,N⟩
 refine go J N fun a J=>?_
 replace N:=N.ar [2,1] [2,1,2]
 refine m0 _ _ _ (by subst G;omega) ⟨(i+1),(M),((zF T f.body y).1),rfl,⟨J.pk,N⟩,?_⟩
 have E:mS T f r q=((zF T f.body y).1,M):=by
  have B:putAll q f.vars r.fields=y:=by rw [P,zE a0,xA]
  have m:=S
  rw [zE b0] at m
  rw [mS,B,m];rfl
 rw [C,zA z,zA H,qW,if_neg (by simp [*]),E,if_neg (by simp_all [sNo] <;> omega)];simp
 refine go J N fun a J=>?_
 replace N:=N.dl [4,2,1,0]
 refine zD hQ J N ?_
 have h:jO T e s=((⟨#[]⟩:Bs),q):=by
  have v:L.cons.length=e.arms.length:=by assumption
  rw [jO,if_pos (by assumption),qY j,e0]
  simp only
  rw [if_pos v,C,zA z,zA H,qW,if_pos (by simp [*])]
  all_goals rfl
 show _/\_;rw [h];exact ⟨rfl,N⟩
 refine go J N fun a J=>?_
 replace N:=N.dl [4,2,1,0]
 refine zD hQ J N ?_
 have h:jO T e s=((⟨#[]⟩:Bs),q):=by
  have v:L.cons.length=e.arms.length:=by assumption
  rw [jO,if_pos (by assumption),qY j,e0]
  simp only
  rw [if_pos v,C,zA z,zA H,qW,if_pos (by simp [*])]
  all_goals rfl
 show _/\_;rw [h];exact ⟨rfl,N⟩
 refine go J N fun a J=>?_
 replace N:=N.dl [2,0]
 refine zD hQ J N ?_
 have h:jO T e s=(out,q):=by
  have v:L.cons.length=e.arms.length:=by assumption
  rw [jO,if_pos (by assumption),qY j,e0]
  simp only
  rw [if_pos v,C,zE w0,zE (l:=e.arms) (by omega)];rfl
 show _/\_;rw [h];exact ⟨rfl,N⟩
 refine go J N fun a J=>?_
 replace N:=N.dl [2,0]
 refine zD hQ J N ?_
 have h:jO T e s=((⟨#[]⟩:Bs),(zF T F s).2):=by
  simp [jO,qY j,sNo, *]
 show _/\_;rw [h];exact ⟨rfl,N⟩
 refine Alc J N fun M2 w N a J=>?_
 replace N:=N.pl 2
 refine zS call86 J N (fun w N a J=>?_) (c:=ih _ (by first | exact Ex.lt_args (mgQ j) | exact Ex.lt_arms (mgQ j)) t0 s0 N)
 rcases Y:yO (d5) ((zF T F s).1) with _ | B2
 have Z:=congrArg (zK true (.agg #[.string ⟨#[]⟩,.slice none 0 0])) Y
 refine Qq J N (fun a J=>?_) (o:=by exact fun _ _ _ J O=>Ok.cast (zY runUnderlying101 runUnderlying9 zeroValue133 J O rfl rfl u0) (show zK true (.agg #[.string ⟨#[]⟩,.slice none 0 0]) (yO (d5) ((zF T F s).1))=.tuple #[.agg #[.string ⟨#[]⟩,.slice none 0 0],.bool false] from Z))
 refine Sto 1 J N fun w N a J=>?_
 refine go J N fun a J=>?_
 replace N:=N.dl [2,1]
 refine zD hQ J N ?_
 have h:jO T e s=((⟨#[]⟩:Bs),(zF T F s).2):=by
  have e_:=MapRel.none i0 Y
  simp [jO,qY j,sNo, *]
 show _/\_;rw [h];exact ⟨rfl,N⟩
 obtain ⟨u,X,I1,rfl,j1⟩:=i0.get Y
 obtain ⟨r4,rfl,z0⟩:=id j1
 obtain ⟨C1,c232,rfl,r2,b1⟩:=z0.fm
 have Z:=congrArg (zK true (.agg #[.string ⟨#[]⟩,.slice none 0 0])) Y
 refine Qq J N (fun a J=>?_) (o:=by exact fun _ _ _ J O=>Ok.cast (zY runUnderlying101 runUnderlying9 zeroValue133 J O rfl rfl u0) (show zK true (.agg #[.string ⟨#[]⟩,.slice none 0 0]) (yO (d5) ((zF T F s).1))=.tuple #[.agg #[.string u.name,.slice C1 u.cons.length c232],.bool true] from Z))
 refine Sto 1 J N fun w N a J=>?_
 refine go J N fun a J=>?_
 by_cases l3:u.cons.length=e.arms.length
 refine go J N fun a J=>?_
 refine zV (J.ks [0,2,4,48,49]) N (fun R mm a w=>∃(i:Nat) (q:Scope) (out:Bs),mm=u.cons.length - i/\R V [(9,.string out),(50,.int .i64 ((i:Nat):Int))] [(0,.mp b (jW q))] a w/\(splitP T e.arms u.cons true sNo ((zF T F s).2)=splitP T (e.arms.drop i) (u.cons.drop i) (decide (i=0)) out q)) (u.cons.length - 0) ⟨0,(zF T F s).2,sNo,rfl,⟨J.pk,N⟩,rfl⟩ ?_
 clear N J
 rintro mm a w ⟨i,q,out,G,⟨J,N⟩,D⟩ F2 n0
 replace N:=N.nf
 refine go J N fun a J=>?_
 by_cases A0:i < u.cons.length
 refine go J N fun a J=>?_
 obtain ⟨j4,rfl,t,I,J1,g2,R1,k1⟩:=z0.el b1 A0
 obtain ⟨s4,rfl,B0⟩:=id k1
 obtain ⟨a4,U2,rfl,s2,c1⟩:=B0.fm
 refine Alc J N fun N2 w N a J=>?_
 refine Sto 0 J N fun w N a J=>?_
 refine go J N fun a J=>?_
 have X0:i < e.arms.length:=by omega
 obtain ⟨k4,rfl,g,A,K1,h2,S1,l1⟩:=x1.el E0 X0
 obtain ⟨t4,O2,rfl,l0,C0⟩:=RArm.iff.1 l1
 obtain ⟨b4,V2,rfl,t2,r0⟩:=l0.fm
 obtain ⟨c4,W2,d4,X2,rfl,Z1,n3,o3,u2,y2,v2,z2⟩:=REx.fm C0
 refine Alc J N fun P2 w N a J=>?_
 refine Sto 0 J N fun w N a J=>?_
 refine go J N fun a J=>?_
 by_cases p3:g.con=t.name
 refine go J N fun a J=>?_
 by_cases r3:g.vars.length=t.fields.length
 refine go J N fun a J=>?_
 refine zV (J.ks [0,2,4,9,10,11,12,48,49,50,75,76]) N (fun R mm a w=>∃(k:Nat) (y:Scope),mm=g.vars.length - k/\R V [(77,.int .i64 ((k:Nat):Int))] [(2,.mp b (jW y))] a w/\(putAll q g.vars t.fields=putAll y (g.vars.drop k) (t.fields.drop k))) (g.vars.length - 0) ⟨0,q,rfl,⟨J.pk,N⟩,rfl⟩ ?_
 clear N J
 rintro mm a w ⟨k,y,G,⟨J,N⟩,U⟩ G2 T0
 replace N:=N.nf
 refine go J N fun a J=>?_
 by_cases c0:k < g.vars.length
 refine go J N fun a J=>?_
 obtain ⟨l4,rfl,I0,t1,O0,i2,T1,n1⟩:=l0.el r0 c0
 obtain rfl:O0=[.string I0]:=n1
 refine go J N fun a J=>?_
 have Y0:k < t.fields.length:=by omega
 obtain ⟨n4,rfl,J0,u1,P0,j2,U1,o1⟩:=B0.el c1 Y0
 obtain rfl:P0=[.string J0]:=o1
 refine z4h 2 runUnderlying157 runUnderlying9 J N fun w N a J=>?_
 rw [z1o] at N
 refine go J N fun a J=>?_
 refine T0 _ _ _ (by subst G;omega) ⟨(k+1),((wH y I0 J0)),rfl,⟨J.pk,N⟩,?_⟩
 rw [U,zA t1,zA u1];rfl
 replace N:=N.pl 2
 refine zS call86 J N (fun w N a J=>?_) (c:=ih _ (by first | exact Ex.lt_args (mgQ A) | exact Ex.lt_arms (mgQ A)) t0 C0 N)
 refine go J N fun a J=>?_
 refine zV (J.ks [0,2,4,9,10,15,48,49,50,96,97]) N (fun R mm a w=>∃(k3:Nat) (M:Scope),mm=g.vars.length - k3/\R V [(98,.int .i64 ((k3:Nat):Int))] [(0,.mp b (jW M))] a w/\(hO ((zF T g.body y).2) g.vars=hO M (g.vars.drop k3))) (g.vars.length - 0) ⟨0,(zF T g.body y).2,rfl,⟨J.pk,N⟩,rfl⟩ ?_
 clear N J
 rintro mm a w ⟨k3,M,G,⟨J,N⟩,W⟩ H2 U0
 replace N:=N.nf
 refine go J N fun a J=>?_
 by_cases d0:k3 < g.vars.length
 refine go J N fun a J=>?_
 obtain ⟨o4,rfl,K0,v1,Q0,k2,V1,p1⟩:=l0.el r0 d0
 obtain rfl:Q0=[.string K0]:=p1
 refine go J N fun a J=>?_
 refine st0 J rfl rfl (y2a 0 runUnderlying157 runUnderlying9 J N rfl rfl rfl fun w N a J=>?_)
 rw [z5z] at N
 refine go J N fun a J=>?_
 refine U0 _ _ _ (by subst G;omega) ⟨(k3+1),((z9u M K0)),rfl,⟨J.pk,N⟩,?_⟩
 rw [W,zA v1];rfl
 refine go J N fun a J=>?_
 by_cases s3:(zF T g.body y).1=(⟨#[]⟩:Bs)
 refine go J N fun a J=>?_
 replace N:=N.dl [4,3,2,1]
 refine zD hQ J N ?_
 have h:jO T e s=((⟨#[]⟩:Bs),M):=by
  have E:mS T g t q=((zF T g.body y).1,M):=by
   have B:putAll q g.vars t.fields=y:=by rw [U,zE c0,xA]
   have m:=W
   rw [zE d0] at m
   rw [mS,B,m];rfl
  have v:u.cons.length=e.arms.length:=by assumption
  rw [jO,if_pos (by assumption),qY j,X]
  simp only
  rw [if_pos v,D,zA A,zA I,qW,if_neg (by simp [*]),E,if_pos (by simp_all [sNo] <;> omega)];rfl
 show _/\_;rw [h];exact ⟨rfl,N⟩
 refine go J N fun a J=>?_
 by_cases t3:0 < i
 refine go J N fun a J=>?_
 by_cases u3:(zF T g.body y).1=out
 refine go J N fun a J=>?_
 replace N:=N.dl [2,1]
 refine n0 _ _ _ (by subst G;omega) ⟨(i+1),(M),((zF T g.body y).1),rfl,⟨J.pk,N⟩,?_⟩
 have E:mS T g t q=((zF T g.body y).1,M):=by
  have B:putAll q g.vars t.fields=y:=by rw [U,zE c0,xA]
  have m:=W
  rw [zE d0] at m
  rw [mS,B,m];rfl
 rw [D,zA A,zA I,qW,if_neg (by simp [*]),E,if_neg (by simp_all [sNo] <;> omega)];simp
 refine go J N fun a J=>?_
 replace N:=N.dl [4,3,2,1]
 refine zD hQ J N ?_
 have h:jO T e s=((⟨#[]⟩:Bs),M):=by
  have E:mS T g t q=((zF T g.body y).1,M):=by
   have B:putAll q g.vars t.fields=y:=by rw [U,zE c0,xA]
   have m:=W
   rw [zE d0] at m
   rw [mS,B,m];rfl
  have v:u.cons.length=e.arms.length:=by assumption
  rw [jO,if_pos (by assumption),qY j,X]
  simp only
  rw [if_pos v,D,zA A,zA I,qW,if_neg (by simp [*]),E,if_pos (by simp_all [sNo] <;> omega)];rfl
 show _/\_;rw [h];exact ⟨rfl,N⟩
 refine go J N fun a J=>?_
 replace N:=N.dl [2,1]
 refine n0 _ _ _ (by subst G;omega) ⟨(i+1),(M),((zF T g.body y).1),rfl,⟨J.pk,N⟩,?_⟩
 have E:mS T g t q=((zF T g.body y).1,M):=by
  have B:putAll q g.vars t.fields=y:=by rw [U,zE c0,xA]
  have m:=W
  rw [zE d0] at m
  rw [mS,B,m];rfl
 rw [D,zA A,zA I,qW,if_neg (by simp [*]),E,if_neg (by simp_all [sNo] <;> omega)];simp
 refine go J N fun a J=>?_
 replace N:=N.dl [4,3,1,0]
 refine zD hQ J N ?_
 have h:jO T e s=((⟨#[]⟩:Bs),q):=by
  have v:u.cons.length=e.arms.length:=by assumption
  rw [jO,if_pos (by assumption),qY j,X]
  simp only
  rw [if_pos v,D,zA A,zA I,qW,if_pos (by simp [*])]
  all_goals rfl
 show _/\_;rw [h];exact ⟨rfl,N⟩
 refine go J N fun a J=>?_
 replace N:=N.dl [4,3,1,0]
 refine zD hQ J N ?_
 have h:jO T e s=((⟨#[]⟩:Bs),q):=by
  have v:u.cons.length=e.arms.length:=by assumption
  rw [jO,if_pos (by assumption),qY j,X]
  simp only
  rw [if_pos v,D,zA A,zA I,qW,if_pos (by simp [*])]
  all_goals rfl
 show _/\_;rw [h];exact ⟨rfl,N⟩
 refine go J N fun a J=>?_
 replace N:=N.dl [2,1]
 refine zD hQ J N ?_
 have h:jO T e s=(out,q):=by
  have v:u.cons.length=e.arms.length:=by assumption
  rw [jO,if_pos (by assumption),qY j,X]
  simp only
  rw [if_pos v,D,zE A0,zE (l:=e.arms) (by omega)];rfl
 show _/\_;rw [h];exact ⟨rfl,N⟩
 refine go J N fun a J=>?_
 replace N:=N.dl [2,1]
 refine zD hQ J N ?_
 have h:jO T e s=((⟨#[]⟩:Bs),(zF T F s).2):=by
  simp [jO,qY j,sNo, *]
 show _/\_;rw [h];exact ⟨rfl,N⟩
 refine go J N fun a J=>?_
 replace N:=N.dl [0]
 refine zD hQ J N ?_
 have h:jO T e s=((⟨#[]⟩:Bs),s):=by
  simp [jO,sNo, *]
 show _/\_;rw [h];exact ⟨rfl,N⟩
theorem let_ok {V:Fz} {K:List Res} {w:World} {p0:Addr} {T:Table} {d1:List Value} {e:Ex} {b:Nat} {s:Scope} (o:RTable V p0 T) (y:REx V d1 e) (ih:∀x:Ex,x.sz < e.sz->∀{V:Fz} {K:List Res} {w:World} {p:Addr} {d:List Value} {b:Nat} {s:Scope},RTable V p T->REx V d x->Mem V (.mp b (jW s)::K) w->Calls prog 86 #[.pointer (some p),.agg d.toArray,.map (some b)] w (fun ee w'=>ee=.returned (.string (zF T x s).1)/\Mem V (.mp b (jW (zF T x s).2)::K) w')) (N:Mem V (.mp b (jW s)::K) w) :
  Calls prog 144 #[.pointer (some p0),.agg d1.toArray,.map (some b)] w (fun ee w'=>ee=.returned (.string ((z0e T e s).1))/\Mem V (.mp b (jW (z0e T e s).2)::K) w'):=by
 obtain ⟨M,m1,m2,m3,m4,d5,d6,d7,d8,B,C,h,T0,z0,w0,A0,x0,B0,y0,C0⟩:=o.ex
 obtain ⟨U0,c24,V0,H0,W0,I0,X0,c42,rfl,M0,N0,O0,P0,e0,m0,f0,n0,g0,o0,h0,q0⟩:=RCore.fm h
 obtain ⟨Y0,J0,Z0,K0,rfl,Z,q,Q0,i0,v,j0,r0⟩:=REx.fm y
 refine enterB func144 rfl ntmps144 rfl (fun Q A a J=>?_)
 refine Bx J N fun G0 w N a J=>?_
 refine zW call186 J N (fun f w N a J=>?_) (fun f w N a J=>?_) (c:=oT y N)
 refine go J N fun a J=>?_
 have d0:=xI (n:=2) f
 refine go J N fun a J=>?_
 have t:0 < e.args.length:=by omega
 obtain ⟨c1,rfl,g,j,P,b0,X,l⟩:=q.el v t
 obtain ⟨a1,c75,b1,L0,rfl,a0,R0,S0,k0,s0,l0,t0⟩:=REx.fm l
 replace N:=N.pl 1
 refine zS call86 J N (fun w N a J=>?_) (c:=ih _ (by exact Ex.lt_args (mgQ j)) o l N)
 refine go J N fun a J=>?_
 by_cases r:(zF T g s).1=(⟨#[]⟩:Bs)
 refine go J N fun a J=>?_
 replace N:=N.dl [1]
 refine A _ _ _ (ret1B J results144 rfl ?_)
 have i:z0e T e s=((⟨#[]⟩:Bs),(zF T g s).2):=by
  rw [z0e,if_pos f,z2n j r];rfl
 show _/\_;rw [i];exact ⟨rfl,N⟩
 refine z4h 0 runUnderlying157 runUnderlying9 J N fun w N a J=>?_
 rw [z1o] at N
 refine go J N fun a J=>?_
 refine z7v J rfl fun a S J=>?_
 refine go J N fun a J=>?_
 have u:1 < e.args.length:=by omega
 obtain ⟨z,k⟩:=qX u
 obtain ⟨R,c0,Y,m⟩:=q.elem k
 obtain ⟨E0,I,F0,L,rfl,D,U,W,E,G,F,H⟩:=REx.fm m
 refine zS call86 J N (fun w N a J=>?_) (c:=ih _ (by exact Ex.lt_args (mgQ k)) o m N)
 refine go J N fun a J=>?_
 replace N:=N.dl [1]
 refine A _ _ _ (q2p 0 runUnderlying157 runUnderlying9 J results144 rfl N rfl fun w N=>?_)
 rw [z5z] at N
 have i:z0e T e s=((zF T z (wH ((zF T g s).2) e.name ((zF T g s).1))).1,(z9u ((zF T z (wH ((zF T g s).2) e.name ((zF T g s).1))).2) e.name)):=by
  rw [z0e,if_pos f,oJ j k r]
 show _/\_;rw [i];exact ⟨rfl,N⟩
 refine go J N fun a J=>?_
 replace N:=N.dl [0]
 refine A _ _ _ (ret1B J results144 rfl ?_)
 have i:z0e T e s=((⟨#[]⟩:Bs),s):=by
  simp [z0e,sNo, *]
 show _/\_;rw [i];exact ⟨rfl,N⟩
theorem j2a {V:Fz} {K:List Res} {w:World} {g:Addr} {T:Table} {d1:List Value} {e:Ex} {b:Nat} {s:Scope} (i:RTable V g T) (j:REx V d1 e) (hT:∀n f,zN T.funs n=some f->f.params.length<=1000) (Z:∀x:Ex,x.sz < e.sz->∀{V:Fz} {K:List Res} {w:World} {p:Addr} {d:List Value} {b:Nat} {s:Scope},RTable V p T->REx V d x->Mem V (.mp b (jW s)::K) w->Calls prog 86 #[.pointer (some p),.agg d.toArray,.map (some b)] w (fun ee w'=>ee=.returned (.string (zF T x s).1)/\Mem V (.mp b (jW (zF T x s).2)::K) w')) (N:Mem V (.mp b (jW s)::K) w) :
  Calls prog 86 #[.pointer (some g),.agg d1.toArray,.map (some b)] w (fun ee w'=>ee=.returned (.string ((zF T e s).1))/\Mem V (.mp b (jW (zF T e s).2)::K) w'):=by
 obtain ⟨c0,m1,m2,m3,m4,d5,d6,d7,d8,a0,b0,k,M0,u0,r0,w0,s0,x0,t0,y0⟩:=i.ex
 obtain ⟨N0,c24,O0,B0,P0,C0,Q0,c42,rfl,F0,G0,H0,I0,e0,k0,f0,l0,g0,m0,h0,n0⟩:=RCore.fm k
 obtain ⟨R0,D0,S0,E0,rfl,d0,J0,K0,i0,o0,j0,q0⟩:=REx.fm j
 refine zM func86 ntmps86 fun Q l a J=>?_
 refine Bx J N fun z0 w N a J=>?_
 refine go J N fun a J=>?_
 refine st J rfl rfl rfl (q1p N fun A0 w N a J=>?_)
 refine go J N fun a J=>?_
 refine st0 J rfl rfl (wK 0 runUnderlying218 runUnderlying3 J N rfl rfl rfl rfl fun w N a J=>?_)
 replace N:=N.nf
 refine go J N fun a J=>?_
 refine st0 J rfl rfl (wK 0 runUnderlying218 runUnderlying3 J N rfl rfl rfl rfl fun w N a J=>?_)
 replace N:=N.nf
 refine go J N fun a J=>?_
 refine st0 J rfl rfl (wK 0 runUnderlying218 runUnderlying3 J N rfl rfl rfl rfl fun w N a J=>?_)
 replace N:=N.nf
 refine go J N fun a J=>?_
 refine st0 J rfl rfl (wK 0 runUnderlying218 runUnderlying3 J N rfl rfl rfl rfl fun w N a J=>?_)
 replace N:=N.nf
 refine go J N fun a J=>?_
 refine st0 J rfl rfl (wK 0 runUnderlying218 runUnderlying3 J N rfl rfl rfl rfl fun w N a J=>?_)
 replace N:=N.nf
 refine go J N fun a J=>?_
 refine st0 J rfl rfl (wK 0 runUnderlying218 runUnderlying3 J N rfl rfl rfl rfl fun w N a J=>?_)
 replace N:=N.nf
 refine go J N fun a J=>?_
 refine st0 J rfl rfl (wK 0 runUnderlying218 runUnderlying3 J N rfl rfl rfl rfl fun w N a J=>?_)
 replace N:=N.nf
 refine go J N fun a J=>?_
 refine st0 J rfl rfl (wK 0 runUnderlying218 runUnderlying3 J N rfl rfl rfl rfl fun w N a J=>?_)
 replace N:=N.nf
 refine go J N fun a J=>?_
 by_cases q:e.kind=1
 have M:gH [(1,.func (.func 139) #[.pointer (some g)] #[]),(2,.func (.func 140) #[.pointer (some g)] #[]),(3,.func (.func 141) #[.pointer (some g)] #[]),(4,.func (.func 142) #[.pointer (some g)] #[]),(5,.func (.func 143) #[.pointer (some g)] #[]),(6,.func (.func 144) #[.pointer (some g)] #[]),(7,.func (.func 145) #[.pointer (some g)] #[]),(8,.func (.func 146) #[.pointer (some g)] #[])] (e.kind)=some (.func (.func 139) #[.pointer (some g)] #[]):=by rw [q];rfl
 have C:=congrArg (zK true (.nilFunc)) M
 refine Qq J N (fun a J=>?_) (o:=by exact fun _ _ _ J O=>Ok.cast (xM 0 runUnderlying218 runUnderlying3 zeroValue160 J O rfl rfl rfl) (show zK true (.nilFunc) (gH [(1,.func (.func 139) #[.pointer (some g)] #[]),(2,.func (.func 140) #[.pointer (some g)] #[]),(3,.func (.func 141) #[.pointer (some g)] #[]),(4,.func (.func 142) #[.pointer (some g)] #[]),(5,.func (.func 143) #[.pointer (some g)] #[]),(6,.func (.func 144) #[.pointer (some g)] #[]),(7,.func (.func 145) #[.pointer (some g)] #[]),(8,.func (.func 146) #[.pointer (some g)] #[])] (e.kind))=.tuple #[.func (.func 139) #[.pointer (some g)] #[],.bool true] from C))
 replace N:=N.pl 2
 refine q0y call139 J N (fun w N a J=>?_) (c:=by exact j7d i j N)
 refine go J N fun a J=>?_
 replace N:=N.dl [2,1]
 refine zD l J N ?_
 have h:zF T e s=((gM e),s):=by rw [nN T e s q]
 show _/\_;rw [h];exact ⟨rfl,N⟩
 by_cases r:e.kind=2
 have P:gH [(1,.func (.func 139) #[.pointer (some g)] #[]),(2,.func (.func 140) #[.pointer (some g)] #[]),(3,.func (.func 141) #[.pointer (some g)] #[]),(4,.func (.func 142) #[.pointer (some g)] #[]),(5,.func (.func 143) #[.pointer (some g)] #[]),(6,.func (.func 144) #[.pointer (some g)] #[]),(7,.func (.func 145) #[.pointer (some g)] #[]),(8,.func (.func 146) #[.pointer (some g)] #[])] (e.kind)=some (.func (.func 140) #[.pointer (some g)] #[]):=by rw [r];rfl
 have D:=congrArg (zK true (.nilFunc)) P
 refine Qq J N (fun a J=>?_) (o:=by exact fun _ _ _ J O=>Ok.cast (xM 0 runUnderlying218 runUnderlying3 zeroValue160 J O rfl rfl rfl) (show zK true (.nilFunc) (gH [(1,.func (.func 139) #[.pointer (some g)] #[]),(2,.func (.func 140) #[.pointer (some g)] #[]),(3,.func (.func 141) #[.pointer (some g)] #[]),(4,.func (.func 142) #[.pointer (some g)] #[]),(5,.func (.func 143) #[.pointer (some g)] #[]),(6,.func (.func 144) #[.pointer (some g)] #[]),(7,.func (.func 145) #[.pointer (some g)] #[]),(8,.func (.func 146) #[.pointer (some g)] #[])] (e.kind))=.tuple #[.func (.func 140) #[.pointer (some g)] #[],.bool true] from D))
 replace N:=N.pl 2
 refine q0y call140 J N (fun w N a J=>?_) (c:=by exact q7o i j N)
 refine go J N fun a J=>?_
 replace N:=N.dl [2,1]
 refine zD l J N ?_
 have h:zF T e s=((wF e s),s):=by rw [mN T e s r]
 show _/\_;rw [h];exact ⟨rfl,N⟩
 by_cases t:e.kind=3
 have R:gH [(1,.func (.func 139) #[.pointer (some g)] #[]),(2,.func (.func 140) #[.pointer (some g)] #[]),(3,.func (.func 141) #[.pointer (some g)] #[]),(4,.func (.func 142) #[.pointer (some g)] #[]),(5,.func (.func 143) #[.pointer (some g)] #[]),(6,.func (.func 144) #[.pointer (some g)] #[]),(7,.func (.func 145) #[.pointer (some g)] #[]),(8,.func (.func 146) #[.pointer (some g)] #[])] (e.kind)=some (.func (.func 141) #[.pointer (some g)] #[]):=by rw [t];rfl
 have E:=congrArg (zK true (.nilFunc)) R
 refine Qq J N (fun a J=>?_) (o:=by exact fun _ _ _ J O=>Ok.cast (xM 0 runUnderlying218 runUnderlying3 zeroValue160 J O rfl rfl rfl) (show zK true (.nilFunc) (gH [(1,.func (.func 139) #[.pointer (some g)] #[]),(2,.func (.func 140) #[.pointer (some g)] #[]),(3,.func (.func 141) #[.pointer (some g)] #[]),(4,.func (.func 142) #[.pointer (some g)] #[]),(5,.func (.func 143) #[.pointer (some g)] #[]),(6,.func (.func 144) #[.pointer (some g)] #[]),(7,.func (.func 145) #[.pointer (some g)] #[]),(8,.func (.func 146) #[.pointer (some g)] #[])] (e.kind))=.tuple #[.func (.func 141) #[.pointer (some g)] #[],.bool true] from E))
 replace N:=N.pl 2
 refine q0y call141 J N (fun w N a J=>?_) (c:=by exact j6i i j N)
 refine go J N fun a J=>?_
 replace N:=N.dl [2,1]
 refine zD l J N ?_
 have h:zF T e s=((oD T e),s):=by rw [mK T e s t]
 show _/\_;rw [h];exact ⟨rfl,N⟩
 by_cases u:e.kind=4
 have S:gH [(1,.func (.func 139) #[.pointer (some g)] #[]),(2,.func (.func 140) #[.pointer (some g)] #[]),(3,.func (.func 141) #[.pointer (some g)] #[]),(4,.func (.func 142) #[.pointer (some g)] #[]),(5,.func (.func 143) #[.pointer (some g)] #[]),(6,.func (.func 144) #[.pointer (some g)] #[]),(7,.func (.func 145) #[.pointer (some g)] #[]),(8,.func (.func 146) #[.pointer (some g)] #[])] (e.kind)=some (.func (.func 142) #[.pointer (some g)] #[]):=by rw [u];rfl
 have F:=congrArg (zK true (.nilFunc)) S
 refine Qq J N (fun a J=>?_) (o:=by exact fun _ _ _ J O=>Ok.cast (xM 0 runUnderlying218 runUnderlying3 zeroValue160 J O rfl rfl rfl) (show zK true (.nilFunc) (gH [(1,.func (.func 139) #[.pointer (some g)] #[]),(2,.func (.func 140) #[.pointer (some g)] #[]),(3,.func (.func 141) #[.pointer (some g)] #[]),(4,.func (.func 142) #[.pointer (some g)] #[]),(5,.func (.func 143) #[.pointer (some g)] #[]),(6,.func (.func 144) #[.pointer (some g)] #[]),(7,.func (.func 145) #[.pointer (some g)] #[]),(8,.func (.func 146) #[.pointer (some g)] #[])] (e.kind))=.tuple #[.func (.func 142) #[.pointer (some g)] #[],.bool true] from F))
 replace N:=N.pl 2
 refine q0y call142 J N (fun w N a J=>?_) (c:=by exact con_ok i j Z N)
 refine go J N fun a J=>?_
 replace N:=N.dl [2,1]
 refine zD l J N ?_
 have h:zF T e s=((sI T e s).1,(sI T e s).2):=by rw [mJ T e s u]
 show _/\_;rw [h];exact ⟨rfl,N⟩
 by_cases v:e.kind=5
 have U:gH [(1,.func (.func 139) #[.pointer (some g)] #[]),(2,.func (.func 140) #[.pointer (some g)] #[]),(3,.func (.func 141) #[.pointer (some g)] #[]),(4,.func (.func 142) #[.pointer (some g)] #[]),(5,.func (.func 143) #[.pointer (some g)] #[]),(6,.func (.func 144) #[.pointer (some g)] #[]),(7,.func (.func 145) #[.pointer (some g)] #[]),(8,.func (.func 146) #[.pointer (some g)] #[])] (e.kind)=some (.func (.func 143) #[.pointer (some g)] #[]):=by rw [v];rfl
 have G:=congrArg (zK true (.nilFunc)) U
 refine Qq J N (fun a J=>?_) (o:=by exact fun _ _ _ J O=>Ok.cast (xM 0 runUnderlying218 runUnderlying3 zeroValue160 J O rfl rfl rfl) (show zK true (.nilFunc) (gH [(1,.func (.func 139) #[.pointer (some g)] #[]),(2,.func (.func 140) #[.pointer (some g)] #[]),(3,.func (.func 141) #[.pointer (some g)] #[]),(4,.func (.func 142) #[.pointer (some g)] #[]),(5,.func (.func 143) #[.pointer (some g)] #[]),(6,.func (.func 144) #[.pointer (some g)] #[]),(7,.func (.func 145) #[.pointer (some g)] #[]),(8,.func (.func 146) #[.pointer (some g)] #[])] (e.kind))=.tuple #[.func (.func 143) #[.pointer (some g)] #[],.bool true] from G))
 replace N:=N.pl 2
 refine q0y call143 J N (fun w N a J=>?_) (c:=by exact call_ok i j hT Z N)
 refine go J N fun a J=>?_
 replace N:=N.dl [2,1]
 refine zD l J N ?_
 have h:zF T e s=((mV T e s).1,(mV T e s).2):=by rw [wO T e s v]
 show _/\_;rw [h];exact ⟨rfl,N⟩
 by_cases y:e.kind=6
 have W:gH [(1,.func (.func 139) #[.pointer (some g)] #[]),(2,.func (.func 140) #[.pointer (some g)] #[]),(3,.func (.func 141) #[.pointer (some g)] #[]),(4,.func (.func 142) #[.pointer (some g)] #[]),(5,.func (.func 143) #[.pointer (some g)] #[]),(6,.func (.func 144) #[.pointer (some g)] #[]),(7,.func (.func 145) #[.pointer (some g)] #[]),(8,.func (.func 146) #[.pointer (some g)] #[])] (e.kind)=some (.func (.func 144) #[.pointer (some g)] #[]):=by rw [y];rfl
 have H:=congrArg (zK true (.nilFunc)) W
 refine Qq J N (fun a J=>?_) (o:=by exact fun _ _ _ J O=>Ok.cast (xM 0 runUnderlying218 runUnderlying3 zeroValue160 J O rfl rfl rfl) (show zK true (.nilFunc) (gH [(1,.func (.func 139) #[.pointer (some g)] #[]),(2,.func (.func 140) #[.pointer (some g)] #[]),(3,.func (.func 141) #[.pointer (some g)] #[]),(4,.func (.func 142) #[.pointer (some g)] #[]),(5,.func (.func 143) #[.pointer (some g)] #[]),(6,.func (.func 144) #[.pointer (some g)] #[]),(7,.func (.func 145) #[.pointer (some g)] #[]),(8,.func (.func 146) #[.pointer (some g)] #[])] (e.kind))=.tuple #[.func (.func 144) #[.pointer (some g)] #[],.bool true] from H))
 replace N:=N.pl 2
 refine q0y call144 J N (fun w N a J=>?_) (c:=by exact let_ok i j Z N)
 refine go J N fun a J=>?_
 replace N:=N.dl [2,1]
 refine zD l J N ?_
 have h:zF T e s=((z0e T e s).1,(z0e T e s).2):=by rw [mL T e s y]
 show _/\_;rw [h];exact ⟨rfl,N⟩
 by_cases z:e.kind=7
 have X:gH [(1,.func (.func 139) #[.pointer (some g)] #[]),(2,.func (.func 140) #[.pointer (some g)] #[]),(3,.func (.func 141) #[.pointer (some g)] #[]),(4,.func (.func 142) #[.pointer (some g)] #[]),(5,.func (.func 143) #[.pointer (some g)] #[]),(6,.func (.func 144) #[.pointer (some g)] #[]),(7,.func (.func 145) #[.pointer (some g)] #[]),(8,.func (.func 146) #[.pointer (some g)] #[])] (e.kind)=some (.func (.func 145) #[.pointer (some g)] #[]):=by rw [z];rfl
 have I:=congrArg (zK true (.nilFunc)) X
 refine Qq J N (fun a J=>?_) (o:=by exact fun _ _ _ J O=>Ok.cast (xM 0 runUnderlying218 runUnderlying3 zeroValue160 J O rfl rfl rfl) (show zK true (.nilFunc) (gH [(1,.func (.func 139) #[.pointer (some g)] #[]),(2,.func (.func 140) #[.pointer (some g)] #[]),(3,.func (.func 141) #[.pointer (some g)] #[]),(4,.func (.func 142) #[.pointer (some g)] #[]),(5,.func (.func 143) #[.pointer (some g)] #[]),(6,.func (.func 144) #[.pointer (some g)] #[]),(7,.func (.func 145) #[.pointer (some g)] #[]),(8,.func (.func 146) #[.pointer (some g)] #[])] (e.kind))=.tuple #[.func (.func 145) #[.pointer (some g)] #[],.bool true] from I))
 replace N:=N.pl 2
 refine q0y call145 J N (fun w N a J=>?_) (c:=by exact x4h i j Z N)
 refine go J N fun a J=>?_
 replace N:=N.dl [2,1]
 refine zD l J N ?_
 have h:zF T e s=((jO T e s).1,(jO T e s).2):=by rw [mI T e s z]
 show _/\_;rw [h];exact ⟨rfl,N⟩
 by_cases A:e.kind=8
 have Y:gH [(1,.func (.func 139) #[.pointer (some g)] #[]),(2,.func (.func 140) #[.pointer (some g)] #[]),(3,.func (.func 141) #[.pointer (some g)] #[]),(4,.func (.func 142) #[.pointer (some g)] #[]),(5,.func (.func 143) #[.pointer (some g)] #[]),(6,.func (.func 144) #[.pointer (some g)] #[]),(7,.func (.func 145) #[.pointer (some g)] #[]),(8,.func (.func 146) #[.pointer (some g)] #[])] (e.kind)=some (.func (.func 146) #[.pointer (some g)] #[]):=by rw [A];rfl
 have L:=congrArg (zK true (.nilFunc)) Y
 refine Qq J N (fun a J=>?_) (o:=by exact fun _ _ _ J O=>Ok.cast (xM 0 runUnderlying218 runUnderlying3 zeroValue160 J O rfl rfl rfl) (show zK true (.nilFunc) (gH [(1,.func (.func 139) #[.pointer (some g)] #[]),(2,.func (.func 140) #[.pointer (some g)] #[]),(3,.func (.func 141) #[.pointer (some g)] #[]),(4,.func (.func 142) #[.pointer (some g)] #[]),(5,.func (.func 143) #[.pointer (some g)] #[]),(6,.func (.func 144) #[.pointer (some g)] #[]),(7,.func (.func 145) #[.pointer (some g)] #[]),(8,.func (.func 146) #[.pointer (some g)] #[])] (e.kind))=.tuple #[.func (.func 146) #[.pointer (some g)] #[],.bool true] from L))
 replace N:=N.pl 2
 refine q0y call146 J N (fun w N a J=>?_) (c:=by exact op_ok i j Z N)
 refine go J N fun a J=>?_
 replace N:=N.dl [2,1]
 refine zD l J N ?_
 have h:zF T e s=((mT T e s).1,(mT T e s).2):=by rw [nY T e s A]
 show _/\_;rw [h];exact ⟨rfl,N⟩
 have B:gH [(1,.func (.func 139) #[.pointer (some g)] #[]),(2,.func (.func 140) #[.pointer (some g)] #[]),(3,.func (.func 141) #[.pointer (some g)] #[]),(4,.func (.func 142) #[.pointer (some g)] #[]),(5,.func (.func 143) #[.pointer (some g)] #[]),(6,.func (.func 144) #[.pointer (some g)] #[]),(7,.func (.func 145) #[.pointer (some g)] #[]),(8,.func (.func 146) #[.pointer (some g)] #[])] (e.kind)=none:=by simp [gH, *]
 have m:=congrArg (zK true (.nilFunc)) B
 refine Qq J N (fun a J=>?_) (o:=by exact fun _ _ _ J O=>Ok.cast (xM 0 runUnderlying218 runUnderlying3 zeroValue160 J O rfl rfl rfl) (show zK true (.nilFunc) (gH [(1,.func (.func 139) #[.pointer (some g)] #[]),(2,.func (.func 140) #[.pointer (some g)] #[]),(3,.func (.func 141) #[.pointer (some g)] #[]),(4,.func (.func 142) #[.pointer (some g)] #[]),(5,.func (.func 143) #[.pointer (some g)] #[]),(6,.func (.func 144) #[.pointer (some g)] #[]),(7,.func (.func 145) #[.pointer (some g)] #[]),(8,.func (.func 146) #[.pointer (some g)] #[])] (e.kind))=.tuple #[.nilFunc,.bool false] from m))
 refine go J N fun a J=>?_
 replace N:=N.dl [1,0]
 refine zD l J N ?_
 have h:zF T e s=((⟨#[]⟩:Bs),s):=by rw [mM T e s q r t u v y z A];rfl
 show _/\_;rw [h];exact ⟨rfl,N⟩
theorem x4q {T:Table} (a:∀n f,zN T.funs n=some f->f.params.length<=1000) {V:Fz} {K:List Res} {w:World} {p:Addr} {d:List Value} {e:Ex} {b:Nat} {s:Scope} (rT:RTable V p T) (re:REx V d e) (N:Mem V (.mp b (jW s)::K) w) :
  Calls prog 86 #[.pointer (some p),.agg d.toArray,.map (some b)] w (fun ee w'=>ee=.returned (.string (zF T e s).1)/\Mem V (.mp b (jW (zF T e s).2)::K) w'):=by
 suffices H:∀n (e:Ex),e.sz < n->∀{V:Fz} {K:List Res} {w:World} {p:Addr} {d:List Value} {b:Nat} {s:Scope},RTable V p T->REx V d e->Mem V (.mp b (jW s)::K) w ->
   Calls prog 86 #[.pointer (some p),.agg d.toArray,.map (some b)] w (fun ee w'=>ee=.returned (.string (zF T e s).1)/\Mem V (.mp b (jW (zF T e s).2)::K) w') from H _ e (Nat.lt_succ_self _) rT re N
 intro n
 induction n with
 | zero=>intro e h;omega
 | succ n c=>intro e h V K w p d b s rT re N;exact j2a rT re a (fun x j _ _ _ _ _ _ _ g i m=>c x (by omega) g i m) N
end Go.Sw
