import Derived.Test.YtlfobekmmndchaaGreatDoorX06
set_option linter.unusedVariables false
set_option linter.unusedSimpArgs false
namespace Go.Sw
open Go.Proofs Go.Proofs.Tryz
set_option maxRecDepth 20000
set_option maxHeartbeats 4000000
section
variable {T:Trc} {f:TFn} {m:List (Int×Int)} {sk y z:BS}
theorem fun_yes (a:OEqv ((⟨[],[],m⟩:BS).binds (f.params.map TPar.name) (f.params.map TPar.mod)) (some sk)) (J:jL T f.chg f.body sk=some z) (b:y.Eqv z):OEqv (dQ T f m) (some y):=by
 refine (a.bind fun p q h=>BS.Eqv.expr T f.chg f.body h).trans ?_
 rw [Option.bind_some,J];exact b.symm
theorem fun_bno (a:OEqv ((⟨[],[],m⟩:BS).binds (f.params.map TPar.name) (f.params.map TPar.mod)) none):dQ T f m=none:=by
 rw [dQ,a.none_iff.2 rfl];rfl
theorem fun_eno (a:OEqv ((⟨[],[],m⟩:BS).binds (f.params.map TPar.name) (f.params.map TPar.mod)) (some sk)) (J:jL T f.chg f.body sk=none):dQ T f m=none:=by
 have h:=a.bind fun p q h=>BS.Eqv.expr T f.chg f.body h
 rw [Option.bind_some,J] at h
 exact h.none_iff.2 rfl
end
theorem q8t {Φ:Fz} {K:List Res} {w:World} {ms:Nat} {pa fa:Addr} {T:Trc} {m:List (Int×Int)} (RP:RProg Φ pa T ms) {fd:List Value} {F:TFn} (A:At Φ fa fd) (rf:RTFn Φ fd F) (G:Glob Φ) (N:Mem Φ (.imp ms (xN m)::K) w) :
  Calls prog 86 #[.pointer (some pa),.pointer (some fa)] w (fun ee w'=>Out (xL (dQ T F m)) (fun z=>∃y:Value×BS,ee=.returned y.1/\y.2.Eqv z/\Mem Φ (.gs y.1 125 2 (xX y.2.list)::.imp ms (xN y.2.sites)::K) w') (fun _=>ee=.panicked jB/\Mem Φ K w')):=by
 have E:=rf
 obtain ⟨F0,V,W,k,D,s0,t0⟩:=RP.ex
 obtain ⟨X,I,Y,L,Z,c23,a0,M,rfl,g0,h9,G0,H0,I0,k0,u0,l0,w0,m0,x0,n0,y0⟩:=RTrc.fm D
 replace k:At Φ pa [.slice X T.cons.length I,.slice Y T.inputs.length L,.slice Z T.funs.length c23,.slice a0 T.outputs.length M,.map (some V),.map (some W),.map (some ms)]:=k
 obtain ⟨M0,c36,D0,rfl,P,q,o0,B⟩:=RTFn.fm rf
 obtain ⟨N0,c44,O0,c50,P0,E0,rfl,h0,i0,J0,K0,L0,p0,z0,q0,A0,r0,B0⟩:=RTE.fm q
 refine zJ func86 ntmps86 fun Q hQ a J=>?_
 refine MkM fun h w N a J=>?_
 replace N:=N.nf
 refine MkM fun i w N a J=>?_
 replace N:=N.nf
 refine yE fun a J=>?_
 refine Bx fun p w N a J=>?_
 refine go fun a J=>?_
 replace N:=N.nilRow 125 2
 replace N:=N.nf
 refine go fun a J=>?_
 refine qD (J.ks [1,5,17,18]) N (fun R mm a w=>∃(l:Nat) (sk:BS) (n:Value),mm=F.params.length - l/\R Φ [(19,.int .i64 l)] [(0,.gs (n) 125 2 (xX sk.list)),(1,.blk p (ob [.pointer (some pa),.pointer (some fa),.map (some h),.map (some i),n] 199)),(2,.mp i (zN sk.kinds)),(3,.mp h (zN (xW sk.list))),(4,.imp ms (xN sk.sites))] a w/\(OEqv ((⟨[],[],m⟩:BS).binds (F.params.map TPar.name) (F.params.map TPar.mod)) (sk.binds ((F.params.map TPar.name).drop l) ((F.params.map TPar.mod).drop l))/\NoK sk.kinds)) (F.params.length - 0) ⟨0,⟨[],[],m⟩,.slice none 0 0,rfl,⟨J.pk,N⟩,⟨.refl _,List.nodup_nil⟩⟩ ?_
 clear N J
 rintro mm a w ⟨l,sk,n,S,⟨J,N⟩,b⟩ C0 v
 replace N:=N.nf
 by_cases r:l < F.params.length
 refine go fun a J=>?_
 obtain ⟨Q0,rfl,j,e,d0,j0,f0,C⟩:=P.el B r
 obtain rfl:=id C
 refine Alc fun H w N a J=>?_
 refine Sto 0 fun w N a J=>?_
 replace N:=N.ar [] [1,3,4,4]
 refine cZ call127 (fun f o w d e0 N a J=>?_) (fun f w d N=>?_) (c:=z1j (s:=sk) (nm:=j.name) (m:=j.mod) G N)
 replace N:Mem Φ (.blk p (ob [.pointer (some pa),.pointer (some fa),.map (some h),.map (some i),o] 199)::.mp h (zN (xW f.list))::.mp i (zN f.kinds)::.gs (o) 125 2 (xX f.list)::.blk H (ob [.string j.name,.bool j.mod] 125)::.imp ms (xN f.sites)::K) w:=by rw [gW (zR d)];exact N
 refine go fun a J=>?_
 replace N:=N.ar [4] [4,2,3,3,4]
 refine v _ _ _ (by subst S;omega) ⟨(l+1),(f),(o),rfl,⟨J.pk,N⟩,?_⟩
 exact ⟨z7u b.1 (by rw [List.getElem?_map,e];rfl) (by rw [List.getElem?_map,e];rfl) (zR d),z1k (zR d) b.2⟩
 replace N:=N.dl [1,0]
 rw [show dQ T F m=none from fun_bno (y9z b.1 (by rw [List.getElem?_map,e];rfl) (by rw [List.getElem?_map,e];rfl) (yL d))];exact ⟨rfl,N⟩
 refine go fun a J=>?_
 have t:=y2q b.1 (by rw [List.length_map];exact r)
 replace N:=N.ar [] [4,1,3,4,4]
 refine cZ call128 (fun b0 c0 w g u N a J=>?_) (fun b0 w g N=>?_) (c:=j6p T F.body RP A E (At.part3 A) q G b.2 N)
 refine yK ?_
 replace N:=N.dl [2,1,0]
 exact j0m (fun_yes t (zR g) u.1) fun z_ U=>⟨c0,rfl,U,N⟩
 rw [show dQ T F m=none from fun_eno t (yL g)];exact ⟨rfl,N⟩
theorem y4s {deep:Nat}:∀{l:List TE} {n m:Nat},n<=20000->(∀x∈l,∀n m,kM x deep n=some m->m<=20000)->sizeTs l deep n=some m->m<=20000
 | [],n,m,h,_,e=>by simp only [sizeTs,Option.some.injEq] at e;omega
 | x::l,n,m,h,a,e=>by
  rw [sizeTs] at e
  obtain ⟨k,b,c⟩:=Option.bind_eq_some_iff.1 e
  exact y4s (a x msQ _ _ b) (fun y d=>a y (mcQ _ d)) c
theorem y4q {deep:Nat}:∀{l:List TA} {n m:Nat},n<=20000->(∀x∈l,∀n m,kM x.body deep n=some m->m<=20000)->sizeTa l deep n=some m->m<=20000
 | [],n,m,h,_,e=>by simp only [sizeTa,Option.some.injEq] at e;omega
 | x::l,n,m,h,a,e=>by
  rw [tD] at e
  obtain ⟨k,b,c⟩:=Option.bind_eq_some_iff.1 e
  exact y4q (a x msQ _ _ b) (fun y d=>a y (mcQ _ d)) c
theorem z4k:∀(k:Nat) (e:TE),zC e < k->∀(deep n m:Nat),kM e deep n=some m->m<=20000
 | 0,_,h=>absurd h (Nat.not_lt_zero _)
 | k+1,e,f=>fun deep n m h=>by
  rw [z2z] at h
  split at h
  rename_i d
  obtain ⟨q,b,c⟩:=Option.bind_eq_some_iff.1 h
  exact y4q (y4s d.1 (fun x a n m J=>z4k k x (by have:=kD a;omega) _ _ _ J) b) (fun x a n m J=>z4k k x.body (by have:=wG a;omega) _ _ _ J) c
  cases h
theorem y0u {e:TE} {deep n m:Nat} (h:kM e deep n=some m):m<=20000:=z4k _ e (Nat.lt_succ_self _) _ _ _ h
theorem y4r {l:List TE} {i:Nat} {x:TE} {deep n:Nat} (h:l[i]? = some x):sizeTs (l.drop i) deep n=(kM x deep n).bind (sizeTs (l.drop (i+1)) deep):=by rw [yI h,sizeTs]
theorem y4p {l:List TA} {i:Nat} {x:TA} {deep n:Nat} (h:l[i]? = some x):sizeTa (l.drop i) deep n=(kM x.body deep n).bind (sizeTa (l.drop (i+1)) deep):=by rw [yI h,tD]
theorem q3s {e:TE} {deep n:Nat} (h:n+1<=20000) (a:deep<=20000):kM e deep n=(sizeTs (e.body.drop 0) (deep+1) (n+1)).bind (sizeTa e.arms (deep+1)):=by rw [z2z,if_pos ⟨h,a⟩];rfl
theorem q3r {e:TE} {deep n:Nat} (h:¬(n+1<=20000/\deep<=20000)):kM e deep n=none:=by rw [z2z,if_neg h]
def y9g (e:TE):Prop:=∀{Φ:Fz} {K:List Res} {w:World} {bc:Nat} {a:Addr} {d:List Value} {deep n:Nat},At Φ a d->RTE Φ d e->n<=20000->deep<=20001->Mem Φ (.blk bc (ob [.int .i64 n] 3)::K) w ->
  Calls prog 84 #[.pointer (some a),.int .i64 deep,.pointer (some ⟨bc,0,none⟩)] w (fun ee w'=>Out (xL (kM e deep n)) (fun m=>ee=.returned (.tuple #[])/\Mem Φ (.blk bc (ob [.int .i64 ((m:Nat):Int)] 3)::K) w') (fun _=>ee=.panicked jB/\Mem Φ K w'))
theorem j5f {e:TE} (P:∀a∈e.arms,y9g a.body) (S:∀x∈e.body,y9g x):y9g e:=by
 intro Φ K w bc U0 d deep n P0 re hn hd N
 obtain ⟨p3,c4,p9,C0,V0,D0,rfl,d0,e0,h2,h8,M,Q0,R0,j0,E,k0,F⟩:=RTE.fm re
 refine zJ func84 ntmps84 fun Q hQ a J=>?_
 refine Sto 0 fun w N a J=>?_
 by_cases H0:(n+1)<=20000
 refine Qq (fun a J=>?_) (o:=by exact fun J O=>mS (i:=deep) (j:=20000) J rfl rfl)
 refine yG call83 (fun X w k N a J=>?_) (fun X w k N=>?_) (c:=yD (b:=(decide (deep<=20000))) N)
 refine go fun a J=>?_
 have c0:=of_decide_eq_true (zD k)
 refine qD (J.ks [0,1,2,26]) N (fun R mm a w=>∃(t:Nat) (H:Nat),mm=e.body.length - t/\R Φ [(27,.int .i64 t)] [(0,.blk bc (ob [.int .i64 H] 3))] a w/\(kM e deep n=(sizeTs (e.body.drop t) (deep+1) H).bind (sizeTa e.arms (deep+1))/\H<=20000)) (e.body.length - 0) ⟨0,n+1,rfl,⟨J.pk,N⟩,⟨q3s (by omega) (of_decide_eq_true (zD k)),by omega⟩⟩ ?_
 clear N J
 rintro mm a w ⟨t,H,s,⟨J,N⟩,g⟩ z0 A
 replace N:=N.nf
 by_cases v:t < e.body.length
 refine go fun a J=>?_
 obtain ⟨d1,rfl,f1,m,Z,h0,C,q⟩:=M.el F v
 obtain ⟨X0,c45,Y0,c51,Z0,E0,rfl,f0,g0,I0,J0,K0,l0,r0,m0,s0,n0,t0⟩:=RTE.fm q
 refine yG call84 (fun L w l N a J=>?_) (fun L w l N=>?_) (c:=S _ (mgQ m) C q g.2 (by omega) N)
 refine go fun a J=>?_
 refine A _ _ _ (by subst s;omega) ⟨(t+1),(L),rfl,⟨J.pk,N⟩,?_⟩
 exact ⟨by rw [g.1,y4r m,zR l];rfl,y0u (zR l)⟩
 rw [show kM e deep n=none from (by rw [g.1,y4r m,yL l];rfl)];exact ⟨rfl,N⟩
 refine go fun a J=>?_
 refine qD (J.ks [0,1,2,45]) N (fun R mm a w=>∃(u:Nat) (I:Nat),mm=e.arms.length - u/\R Φ [(46,.int .i64 u)] [(0,.blk bc (ob [.int .i64 I] 3))] a w/\(kM e deep n=sizeTa (e.arms.drop u) (deep+1) I/\I<=20000)) (e.arms.length - 0) ⟨0,H,rfl,⟨J.pk,N⟩,⟨by rw [g.1,qE v];rfl,g.2⟩⟩ ?_
 clear N J
 rintro mm a w ⟨u,I,s,⟨J,N⟩,h⟩ A0 B
 replace N:=N.nf
 by_cases y:u < e.arms.length
 refine go fun a J=>?_
 obtain ⟨e1,rfl,g1,p,a0,i0,D,G⟩:=h8.el E y
 obtain ⟨a1,c83,B0,rfl,M0,z,o0,u0⟩:=RTA.fm G
 obtain ⟨b1,F0,c1,G0,y0,Y,rfl,T,U,N0,O0,b0,p0,w0,q0,x0,V,W⟩:=RTE.fm z
 refine yG call84 (fun r w f N a J=>?_) (fun r w f N=>?_) (c:=P _ (mgQ p) (At.part2 D) z h.2 (by omega) N)
 refine go fun a J=>?_
 refine B _ _ _ (by subst s;omega) ⟨(u+1),(r),rfl,⟨J.pk,N⟩,?_⟩
 exact ⟨by rw [h.1,y4p p,zR f];rfl,y0u (zR f)⟩
 rw [show kM e deep n=none from (by rw [h.1,y4p p,yL f];rfl)];exact ⟨rfl,N⟩
 refine go fun a J=>?_
 refine hQ _ _ _ (yP J results84 ?_)
 rw [show kM e deep n=some I from by rw [h.1,qE y];rfl];exact ⟨rfl,N⟩
 replace N:=N.dl [0]
 have S0:=of_decide_eq_false (zP k)
 rw [show kM e deep n=none from q3r (by omega)];exact ⟨rfl,N⟩
 refine qC call83 (fun w N=>?_) (c:=zI N)
 replace N:=N.dl [0]
 rw [show kM e deep n=none from q3r (by omega)];exact ⟨rfl,N⟩
theorem z4j:∀(k:Nat) (e:TE),zC e < k->y9g e
 | 0,_,h=>absurd h (Nat.not_lt_zero _)
 | k+1,e,h=>j5f (fun a b=>z4j k a.body (by have:=wG b;omega)) (fun x c=>z4j k x (by have:=kD c;omega))
theorem size_ok (e:TE):y9g e:=z4j _ e (Nat.lt_succ_self _)
theorem x2i {Φ:Fz} {l:List Bs} {q:Option Addr} {c i:Nat} (h:SliceOf RStr Φ 1 (.slice q l.length c) l) (hi:i < l.length):SliceOf RStr Φ 1 (.slice q i c) (l.take i):=by
 rw [SliceOf.strs] at h ⊢
 rcases h with ⟨h,b⟩ | ⟨p,m,c',e,b,f,g⟩
 ·injection h with r b f;omega
 ·injection e with d e2 e3
  subst d;subst e2;subst e3
  rw [wT] at b
  refine .inr ⟨p,i,_,rfl,by simp [wT];omega,by omega,fun o=>?_⟩
  have hl:strs l≠[]:=fun e=>by have:=congrArg List.length e;rw [wT] at this;simp only [lnQ] at this;omega
  obtain ⟨O,arr,T,fr,k,n⟩:=g hl
  refine ⟨O,arr,T,fr,k,fun j v a=>n j v ?_⟩
  rw [strs,List.map_take] at a
  rw [List.getElem?_take] at a
  split at a
  ·exact a
  ·cases a
theorem q8l {n:Nat} {E:List (Nat×Value)} {D:List Deferred} {a:Act} {x hi:Operand} {t e ty:TypeId} {q:Option Addr} {m c i:Nat} {w:World} {P:Program} (J:EnvR n E D a) (g:ev E x=some (.slice q m c)) (d:ev E hi=some (.int .i64 i))
  (f:Under P t (.slice e)) (O:SizeT P e 1) (b:i<=c):Ok P a (.slice t x none (some hi) none) ty w (.slice q i c):=fun _ _ _ _=>by
 simp only [execOp,J.ev g,Option.map_some,Option.map_none,J.ev d,Instr.sliceAt]
 simp [Sem.run_bind,f w,O w,Instr.slice,Instr.sliceBounds,Instr.sliceBound,asIntOf,Result.andThen,Addr.add,b]
theorem ixM_any {α:Type} {nm:α->Bs} {n:Bs}:∀{l:List α} {i:Nat},yC (ixM nm i l) n=none↔(l.any fun x=>decide (nm x=n))=false
 | [],_=>by simp [ixM,yC]
 | x::l,i=>by
  rw [ixM,yC,List.any_cons]
  by_cases h:n=nm x
  ·rw [if_pos h,decide_eq_true h.symm];simp
  ·rw [if_neg h,decide_eq_false (fun e=>h e.symm),Bool.false_or];exact ixM_any
theorem j0c {α:Type} {nm:α->Bs} {x:α}:∀{l:List α} {i:Nat},yC (ixM nm i l) (nm x)=none->qJ (ixM nm i l) (nm x) ((i+l.length:Nat):Int)=ixM nm i (l++[x])
 | [],i,_=>by simp [ixM,qJ]
 | y::l,i,h=>by
  rw [ixM,yC] at h
  split at h
  ·cases h
  ·rename_i a
   rw [ixM,qJ,if_neg a,List.cons_append,ixM,<- j0c h]
   rw [show i+(y::l).length=i+1+l.length by simp only [lcQ];omega]
theorem z2d {α:Type} {nm:α->Bs} {x:α} {l:List α} {i:Nat} (b:l[i]? = some x) (h:yC (ixM nm 0 (l.take i)) (nm x)=none):qJ (ixM nm 0 (l.take i)) (nm x) (i:Int)=ixM nm 0 (l.take (i+1)):=by
 have hi:i < l.length:=(List.getElem?_eq_some_iff.1 b).1
 have a:=j0c (x:=x) h
 rw [List.length_take,Nat.min_eq_left (Nat.le_of_lt hi),Nat.zero_add] at a
 rw [a,jA b]
def TyN (l:List TCon) (t:List (Bs×Int)):Prop:=∀n,(yC t n).getD 0=(((l.filter fun c=>decide (c.type=n)).length:Nat):Int)
theorem TyN.start:TyN [] []:=fun _=>rfl
theorem TyN.le {l:List TCon} {t:List (Bs×Int)} (h:TyN l t) (n:Bs):0<=(yC t n).getD 0/\(yC t n).getD 0<=(l.length:Int):=by
 rw [h n];exact ⟨Int.natCast_nonneg _,by have:=List.length_filter_le (fun c:TCon=>decide (c.type=n)) l;omega⟩
theorem TyN.next {l:List TCon} {t:List (Bs×Int)} {c:TCon} (h:TyN l t):TyN (l++[c]) (qJ t c.type ((yC t c.type).getD 0+1)):=fun n=>by
 rw [xS,List.filter_append,laQ]
 by_cases e:n=c.type
 ·subst e;rw [if_pos rfl,h];simp
 ·rw [if_neg e,h];rw [List.filter_cons,if_neg (by simpa using fun q:c.type=n=>e q.symm)];simp
theorem TyN.zero {l:List TCon} {t:List (Bs×Int)} {n:Bs} (h:TyN l t):((yC t n).getD 0=0)↔(l.any fun c=>decide (c.type=n))=false:=by
 rw [h n,List.any_eq_false]
 constructor
 ·intro q x a b
  have:(l.filter fun c=>decide (c.type=n)).length=0:=by omega
  have:=List.eq_nil_of_length_eq_zero this
  have N:x∈l.filter fun c=>decide (c.type=n):=List.mem_filter.2 ⟨a,b⟩
  rw [this] at N;cases N
 ·intro q
  have:l.filter (fun c=>decide (c.type=n))=[]:=List.filter_eq_nil_iff.2 fun x a=>q x a
  rw [this];rfl
def z0e (l:List TCon) (i:Nat) (c:TCon):Bool := !((l.take i).any fun d=>decide (d.name=c.name))&&z0j c.name&&z0j c.type&&decide (c.fields.length<=16)
section
variable {l:List TCon} {i:Nat} {c d:TCon}
theorem conOk_0:aJ l 0 c=z0e l 0 c:=by simp [aJ,z0e]
theorem j7b (hi:¬i=0) (a:l[i - 1]? = some d) (h:d.type=c.type):aJ l i c=z0e l i c:=by
 cases i with
 | zero=>exact absurd rfl hi
 | succ k=>rw [Nat.add_sub_cancel] at a;simp [aJ,z0e,a,h]
theorem q0m (hi:¬i=0) (a:l[i - 1]? = some d) (h:¬d.type=c.type):aJ l i c=(z0e l i c && !((l.take i).any fun d=>decide (d.type=c.type))):=by
 cases i with
 | zero=>exact absurd rfl hi
 | succ k=>rw [Nat.add_sub_cancel] at a;simp [aJ,z0e,a,h]
theorem z1o (h:z0e l i c=false):aJ l i c=false:=by
 unfold aJ;unfold z0e at h;rw [h,Bool.false_and]
end
def inOk (T:Trc) (i:Nat) (n:Bs):Bool:=wY n && !(T.inputs.take i).contains n
def z8l (T:Trc) (i:Nat) (f:TFn):Bool := !((T.funs.take i).any fun g=>decide (g.name=f.name))&&wY f.name&&decide (f.params.length<=16)
section
variable {T:Trc}
theorem j3s (a:∀i c,i < T.cons.length->T.cons[i]? = some c->aJ T.cons i c=true) (b:∀i n,i < T.inputs.length->T.inputs[i]? = some n->inOk T i n=true)
  (d:∀i f,i < T.funs.length->T.funs[i]? = some f->z8l T i f=true) (e:T.outputs.all (dM T)=true):qL T=true:=by
 simp only [qL,baQ]
 refine ⟨⟨⟨List.all_eq_true.2 fun i hi=>?_,List.all_eq_true.2 fun i hi=>?_⟩,List.all_eq_true.2 fun i hi=>?_⟩,e⟩
 ·rw [List.mem_range] at hi;simp only [List.getElem?_eq_getElem hi];exact a i _ hi (List.getElem?_eq_getElem hi)
 ·rw [List.mem_range] at hi;simp only [List.getElem?_eq_getElem hi];exact b i _ hi (List.getElem?_eq_getElem hi)
 ·rw [List.mem_range] at hi;simp only [List.getElem?_eq_getElem hi];exact d i _ hi (List.getElem?_eq_getElem hi)
theorem gD {i:Nat} {c:TCon} (b:T.cons[i]? = some c) (h:aJ T.cons i c=false):qL T=false:=by
 rw [<- Bool.not_eq_true];intro a;rw [y3h a b] at h;cases h
theorem y3i {i:Nat} {n:Bs} (c:T.inputs[i]? = some n) (h:inOk T i n=false):qL T=false:=by
 rw [<- Bool.not_eq_true];intro b
 simp only [qL,baQ] at b
 have a:=List.all_eq_true.1 b.1.1.2 i (List.mem_range.2 (List.getElem?_eq_some_iff.1 c).1)
 simp only [c] at a
 rw [inOk] at h;rw [h] at a;cases a
theorem z3u {i:Nat} {f:TFn} (c:T.funs[i]? = some f) (h:z8l T i f=false):qL T=false:=by
 rw [<- Bool.not_eq_true];intro b
 simp only [qL,baQ] at b
 have a:=List.all_eq_true.1 b.1.2 i (List.mem_range.2 (List.getElem?_eq_some_iff.1 c).1)
 simp only [c] at a
 rw [z8l] at h;rw [h] at a;cases a
theorem z3v {i:Nat} {n:Bs} (b:T.outputs[i]? = some n) (h:dM T n=false):qL T=false:=by
 rw [<- Bool.not_eq_true];intro a
 simp only [qL,baQ] at a
 rw [List.all_eq_true.1 a.2 n (mgQ b)] at h;cases h
theorem x0s {n:Bs} (h:yC (nQ T) n=none):dM T n=false:=by rw [dM,q9h (gG h)]
theorem q6y {n:Bs} {j:Nat} {f:TFn} (h:T.funs.findIdx? (fun f=>decide (f.name=n))=some j) (a:T.funs[j]? = some f):dM T n=(f.chg&&decide (f.params.length=0)):=by rw [dM,q9g h a]
theorem j4o {i:Nat} {n:Bs} (h:T.outputs.all (dM T)=(T.outputs.drop i).all (dM T)) (b:T.outputs[i]? = some n) (a:dM T n=true):T.outputs.all (dM T)=(T.outputs.drop (i+1)).all (dM T):=by
 rw [h,yI b,List.all_cons,a,Bool.true_and]
end
theorem gQ {α:Type} {p:Nat->α->Bool} {l:List α} {i:Nat} {x:α} (h:∀k y,k < i->l[k]? = some y->p k y=true) (c:l[i]? = some x) (b:p i x=true):∀k y,k < i+1->l[k]? = some y->p k y=true:=fun k y d a=>by
 by_cases e:k=i
 ·subst e;rw [c] at a;cases a;exact b
 ·exact h k y (by omega) a
theorem z1c {α:Type} {p:Nat->α->Bool} {l:List α}:∀k y,k < 0->l[k]? = some y->p k y=true:=fun k _ h=>absurd h (Nat.not_lt_zero k)
theorem y1a {α:Type} {p:Nat->α->Bool} {l:List α} {i:Nat} (h:∀k y,k < i->l[k]? = some y->p k y=true) (hi:¬i < l.length):∀k y,k < l.length->l[k]? = some y->p k y=true:=fun k y b a=>h k y (by omega) a
theorem q5s {l:List TCon} {i:Nat} {c:TCon} {y:Int} (h:yC (ixM TCon.name 0 (l.take i)) c.name=some y):z0e l i c=false:=by
 have:((l.take i).any fun d=>decide (d.name=c.name))=true:=by
  rw [<- Bool.not_eq_false,<- ixM_any (i:=0),h];intro q;cases q
 rw [z0e,this];rfl
theorem q6f {T:Trc} {i:Nat} {f:TFn} {y:Int} (h:yC (ixM TFn.name 0 (T.funs.take i)) f.name=some y):z8l T i f=false:=by
 have:((T.funs.take i).any fun g=>decide (g.name=f.name))=true:=by
  rw [<- Bool.not_eq_false,<- ixM_any (i:=0),h];intro q;cases q
 rw [z8l,this];rfl
theorem j9v {Φ:Fz} {K:List Res} {w:World} {bp mc mf ms:Nat} {tc:List Value} {T:Trc} (f2:RTrc Φ tc T) (G:Glob Φ) (N:Mem Φ (.blk bp (ob (tc++[.map (some mc),.map (some mf),.map (some ms)]) 160)::.mp mc []::.mp mf []::K) w) :
  Calls prog 85 #[.pointer (some ⟨bp,0,none⟩)] w (fun ee w'=>Out (dem (qL T)) (fun _=>ee=.returned (.tuple #[])/\Mem Φ (.blk bp (ob (tc++[.map (some mc),.map (some mf),.map (some ms)]) 160)::.mp mc (zN (mT T))::.mp mf (zN (nQ T))::K) w') (fun _=>ee=.panicked jB/\Mem Φ K w')):=by
 obtain ⟨p3,c4,p9,l,B,m,s,c22,rfl,k1,h2,h8,d1,y1,e3,b2,J2,l1,K2,y0,L2,m1⟩:=RTrc.fm f2
 replace N:=N.nf
 refine zJ func85 ntmps85 fun Q hQ a J=>?_
 refine MkM fun C w N a J=>?_
 replace N:=N.nf
 refine go fun a J=>?_
 refine qD (J.ks [0,2,22,23]) N (fun R mm a w=>∃(i:Nat) (ty:List (Bs×Int)),mm=T.cons.length - i/\R Φ [(24,.int .i64 i)] [(0,.mp C (zN ty)),(2,.mp mc (zN (ixM TCon.name 0 (T.cons.take i))))] a w/\((∀k y,k < i->T.cons[k]? = some y->aJ T.cons k y=true)/\TyN (T.cons.take i) ty)) (T.cons.length - 0) ⟨0,[],rfl,⟨J.pk,N⟩,⟨z1c,TyN.start⟩⟩ ?_
 clear N J
 rintro mm a w ⟨i,ty,z,⟨J,N⟩,h⟩ Y2 i0
 replace N:=N.nf
 by_cases K0:i < T.cons.length
 refine go fun a J=>?_
 obtain ⟨Y,rfl,e,g,t2,H2,F2,n1⟩:=h2.el b2 K0
 obtain ⟨X,E,rfl,b3,M2,O2⟩:=RTCon.fm n1
 refine Alc fun D w N a J=>?_
 refine Sto 0 fun w N a J=>?_
 refine Reg [1,1,1,2,1,2,2,1,1,1,1,1] [0,1,2,3,4] fun w N a J=>?_
 refine go fun a J=>?_
 rcases q:jJ ((zN (ixM TCon.name 0 (T.cons.take i)))) e.name with _ | W2
 have L:=congrArg (zZ true (.int .i64 ((0:Nat):Int))) q
 refine Qq (fun a J=>?_) (o:=by exact fun J O=>Ok.cast (yZ 3 runUnderlying98 runUnderlying9 zeroValue3 J O rfl rfl rfl) (show zZ true (.int .i64 ((0:Nat):Int)) (jJ ((zN (ixM TCon.name 0 (T.cons.take i)))) e.name)=.tuple #[.int .i64 ((0:Nat):Int),.bool false] from L))
 refine zF call125 (fun w N a J=>?_) (c:=y3k G N)
 refine go fun a J=>?_
 generalize Z:(z0j e.name)=a1 at J
 cases a1
 refine qC call83 (fun w N=>?_) (c:=zI N)
 replace N:=N.dl [4,3,2,1,0]
 rw [show qL T=false from gD g (z1o (by simp [z0e,Z])),show dem false=.error () from rfl];exact ⟨rfl,N⟩
 refine zF call125 (fun w N a J=>?_) (c:=y3k G N)
 refine go fun a J=>?_
 generalize k0:(z0j e.type)=b1 at J
 cases b1
 refine qC call83 (fun w N=>?_) (c:=zI N)
 replace N:=N.dl [4,3,2,1,0]
 rw [show qL T=false from gD g (z1o (by simp [z0e,Z,k0])),show dem false=.error () from rfl];exact ⟨rfl,N⟩
 refine Qq (fun a J=>?_) (o:=by exact fun J O=>mS (i:=e.fields.length) (j:=16) J rfl rfl)
 refine yG call83 (fun c2 w l0 N a J=>?_) (fun c2 w l0 N=>?_) (c:=yD (b:=(decide (e.fields.length<=16))) N)
 refine Reg [1,1,1,2,1,2,1,0] [0,1,2,3,4] fun w N a J=>?_
 have f0:z0e T.cons i e=true:=by have c0:=ixM_any.1 (vQ q);have F:=zD l0;simp only [z0e,c0,F,Z,k0];rfl
 refine uF 3 runUnderlying98 runUnderlying9 fun w N a J=>?_
 replace N:Mem Φ (.blk D (ob [.string e.name,.string e.type,.slice X e.fields.length E] 85)::.mp C (zN ty)::.blk bp (ob [.slice (some Y) T.cons.length c4,.slice p9 T.inputs.length l,.slice B T.funs.length m,.slice s T.outputs.length c22,.map (some mc),.map (some mf),.map (some ms)] 160)::.mp mc (zN (qJ (ixM TCon.name 0 (T.cons.take i)) e.name ((i:Nat):Int)))::.mp mf (zN [])::K) w:=by rw [<- wP (ixM TCon.name 0 (T.cons.take i)) e.name ((i:Nat):Int)];exact N
 refine Reg [1,1,1,1,1,1,1,2,1,1,1,1,2,1,2,1,1] [0,1,2,3,4] fun w N a J=>?_
 by_cases e0:i=0
 refine Qq (fun a J=>?_) (o:=by exact fun J O=>Ok.cast (yZ 1 runUnderlying98 runUnderlying9 zeroValue3 J O rfl rfl rfl) (vP ty e.type))
 refine Qq (fun a J=>?_) (o:=by exact fun J O=>vW J rfl rfl)
 refine yG call83 (fun d2 w z0 N a J=>?_) (fun d2 w z0 N=>?_) (c:=yD (b:=(decide (((yC ty e.type).getD 0)=0))) N)
 refine Qq (fun a J=>?_) (o:=by exact fun J O=>Ok.cast (yZ 1 runUnderlying98 runUnderlying9 zeroValue3 J O rfl rfl rfl) (vP ty e.type))
 refine Qq (fun a J=>?_) (o:=by exact fun J O=>tJ ((yC ty e.type).getD 0+1) J rfl rfl (by have h_:=h.2.le e.type;rw [List.length_take] at h_;rw [cU (by omega)]))
 refine uF 1 runUnderlying98 runUnderlying9 fun w N a J=>?_
 replace N:Mem Φ (.blk D (ob [.string e.name,.string e.type,.slice X e.fields.length E] 85)::.mp C (zN (qJ ty e.type ((yC ty e.type).getD 0+1)))::.blk bp (ob [.slice (some Y) T.cons.length c4,.slice p9 T.inputs.length l,.slice B T.funs.length m,.slice s T.outputs.length c22,.map (some mc),.map (some mf),.map (some ms)] 160)::.mp mc (zN (qJ (ixM TCon.name 0 (T.cons.take i)) e.name ((i:Nat):Int)))::.mp mf (zN [])::K) w:=by rw [<- wP ty e.type ((yC ty e.type).getD 0+1)];exact N
 refine go fun a J=>?_
 replace N:Mem Φ (.blk D (ob [.string e.name,.string e.type,.slice X e.fields.length E] 85)::.mp C (zN (qJ ty e.type ((yC ty e.type).getD 0+1)))::.blk bp (ob [.slice (some Y) T.cons.length c4,.slice p9 T.inputs.length l,.slice B T.funs.length m,.slice s T.outputs.length c22,.map (some mc),.map (some mf),.map (some ms)] 160)::.mp mc (zN (ixM TCon.name 0 (T.cons.take (i+1))))::.mp mf (zN [])::K) w:=by rw [<- z2d g (vQ q)];exact N
 replace N:=N.dl [0]
 refine i0 _ _ _ (by subst z;omega) ⟨(i+1),((qJ ty e.type ((yC ty e.type).getD 0+1))),rfl,⟨J.pk,N⟩,?_⟩
 exact ⟨gQ h.1 g (by have h_:=f0;rw [e0] at h_ ⊢;rw [conOk_0];exact h_),by rw [jA g];exact h.2.next⟩
 replace N:=N.dl [4,3,2,1,0]
 exact absurd (h.2.zero.2 (by rw [e0];rfl)) (show ¬(yC ty e.type).getD 0=0 from of_decide_eq_false (zP z0))
 refine Qq (fun a J=>?_) (o:=by exact fun J O=>z5w ((i - 1:Nat):Int) J rfl rfl (by rw [cU (by omega)];omega))
 have g1:i - 1 < T.cons.length:=by omega
 obtain ⟨j2,a0⟩:=zW g1
 obtain ⟨u2,I2,G2,o1⟩:=h2.elem a0
 obtain ⟨f3,a3,rfl,d3,N2,P2⟩:=RTCon.fm o1
 by_cases L0:j2.type=e.type
 refine Qq (fun a J=>?_) (o:=by exact fun J O=>Ok.cast (yZ 1 runUnderlying98 runUnderlying9 zeroValue3 J O rfl rfl rfl) (vP ty e.type))
 refine Qq (fun a J=>?_) (o:=by exact fun J O=>tJ ((yC ty e.type).getD 0+1) J rfl rfl (by have h_:=h.2.le e.type;rw [List.length_take] at h_;rw [cU (by omega)]))
 refine uF 1 runUnderlying98 runUnderlying9 fun w N a J=>?_
 replace N:Mem Φ (.blk D (ob [.string e.name,.string e.type,.slice X e.fields.length E] 85)::.mp C (zN (qJ ty e.type ((yC ty e.type).getD 0+1)))::.blk bp (ob [.slice (some Y) T.cons.length c4,.slice p9 T.inputs.length l,.slice B T.funs.length m,.slice s T.outputs.length c22,.map (some mc),.map (some mf),.map (some ms)] 160)::.mp mc (zN (qJ (ixM TCon.name 0 (T.cons.take i)) e.name ((i:Nat):Int)))::.mp mf (zN [])::K) w:=by rw [<- wP ty e.type ((yC ty e.type).getD 0+1)];exact N
 refine go fun a J=>?_
 replace N:Mem Φ (.blk D (ob [.string e.name,.string e.type,.slice X e.fields.length E] 85)::.mp C (zN (qJ ty e.type ((yC ty e.type).getD 0+1)))::.blk bp (ob [.slice (some Y) T.cons.length c4,.slice p9 T.inputs.length l,.slice B T.funs.length m,.slice s T.outputs.length c22,.map (some mc),.map (some mf),.map (some ms)] 160)::.mp mc (zN (ixM TCon.name 0 (T.cons.take (i+1))))::.mp mf (zN [])::K) w:=by rw [<- z2d g (vQ q)];exact N
 replace N:=N.dl [0]
 refine i0 _ _ _ (by subst z;omega) ⟨(i+1),((qJ ty e.type ((yC ty e.type).getD 0+1))),rfl,⟨J.pk,N⟩,?_⟩
 exact ⟨gQ h.1 g (by rw [j7b e0 a0 L0];exact f0),by rw [jA g];exact h.2.next⟩
 refine Qq (fun a J=>?_) (o:=by exact fun J O=>Ok.cast (yZ 1 runUnderlying98 runUnderlying9 zeroValue3 J O rfl rfl rfl) (vP ty e.type))
 refine Qq (fun a J=>?_) (o:=by exact fun J O=>vW J rfl rfl)
 refine yG call83 (fun e2 w m0 N a J=>?_) (fun e2 w m0 N=>?_) (c:=yD (b:=(decide (((yC ty e.type).getD 0)=0))) N)
 refine Qq (fun a J=>?_) (o:=by exact fun J O=>Ok.cast (yZ 1 runUnderlying98 runUnderlying9 zeroValue3 J O rfl rfl rfl) (vP ty e.type))
 refine Qq (fun a J=>?_) (o:=by exact fun J O=>tJ ((yC ty e.type).getD 0+1) J rfl rfl (by have h_:=h.2.le e.type;rw [List.length_take] at h_;rw [cU (by omega)]))
 refine uF 1 runUnderlying98 runUnderlying9 fun w N a J=>?_
 replace N:Mem Φ (.blk D (ob [.string e.name,.string e.type,.slice X e.fields.length E] 85)::.mp C (zN (qJ ty e.type ((yC ty e.type).getD 0+1)))::.blk bp (ob [.slice (some Y) T.cons.length c4,.slice p9 T.inputs.length l,.slice B T.funs.length m,.slice s T.outputs.length c22,.map (some mc),.map (some mf),.map (some ms)] 160)::.mp mc (zN (qJ (ixM TCon.name 0 (T.cons.take i)) e.name ((i:Nat):Int)))::.mp mf (zN [])::K) w:=by rw [<- wP ty e.type ((yC ty e.type).getD 0+1)];exact N
 refine go fun a J=>?_
 replace N:Mem Φ (.blk D (ob [.string e.name,.string e.type,.slice X e.fields.length E] 85)::.mp C (zN (qJ ty e.type ((yC ty e.type).getD 0+1)))::.blk bp (ob [.slice (some Y) T.cons.length c4,.slice p9 T.inputs.length l,.slice B T.funs.length m,.slice s T.outputs.length c22,.map (some mc),.map (some mf),.map (some ms)] 160)::.mp mc (zN (ixM TCon.name 0 (T.cons.take (i+1))))::.mp mf (zN [])::K) w:=by rw [<- z2d g (vQ q)];exact N
 replace N:=N.dl [0]
 refine i0 _ _ _ (by subst z;omega) ⟨(i+1),((qJ ty e.type ((yC ty e.type).getD 0+1))),rfl,⟨J.pk,N⟩,?_⟩
 exact ⟨gQ h.1 g (by have c0:=h.2.zero.1 (of_decide_eq_true (zD m0));rw [q0m e0 a0 L0,f0,c0];rfl),by rw [jA g];exact h.2.next⟩
 replace N:=N.dl [4,3,2,1,0]
 rw [show qL T=false from gD g (by rw [q0m e0 a0 L0,(by simpa using mt h.2.zero.2 (show ¬(yC ty e.type).getD 0=0 from of_decide_eq_false (zP m0)):((T.cons.take i).any fun d=>decide (d.type=e.type))=true),Bool.not_true,Bool.and_false]),show dem false=.error () from rfl];exact ⟨rfl,N⟩
 replace N:=N.dl [4,3,2,1,0]
 have W:=zP l0
 rw [show qL T=false from gD g (z1o (by simp [z0e,W,Z,k0])),show dem false=.error () from rfl];exact ⟨rfl,N⟩
 obtain ⟨k2,p1,rfl⟩:=pW q
 have L:=congrArg (zZ true (.int .i64 ((0:Nat):Int))) q
 refine Qq (fun a J=>?_) (o:=by exact fun J O=>Ok.cast (yZ 3 runUnderlying98 runUnderlying9 zeroValue3 J O rfl rfl rfl) (show zZ true (.int .i64 ((0:Nat):Int)) (jJ ((zN (ixM TCon.name 0 (T.cons.take i)))) e.name)=.tuple #[.int .i64 (k2),.bool true] from L))
 refine qC call83 (fun w N=>?_) (c:=zI N)
 replace N:=N.dl [4,3,2,1,0]
 rw [show qL T=false from gD g (z1o (q5s p1)),show dem false=.error () from rfl];exact ⟨rfl,N⟩
 refine go fun a J=>?_
 replace N:=N.dl [0]
 replace N:Mem Φ (.blk bp (ob [.slice p3 T.cons.length c4,.slice p9 T.inputs.length l,.slice B T.funs.length m,.slice s T.outputs.length c22,.map (some mc),.map (some mf),.map (some ms)] 160)::.mp mc (zN (mT T))::.mp mf (zN [])::K) w:=by rw [show mT T=ixM TCon.name 0 (T.cons.take i) from by rw [mT,List.take_of_length_le (Nat.le_of_not_lt K0)]];exact N
 have h1:=y1a (p:=aJ T.cons) h.1 K0
 refine go fun a J=>?_
 refine qD (J.ks [0,98,99]) N (fun R mm a w=>∃(i:Nat),mm=T.inputs.length - i/\R Φ [(100,.int .i64 i)] [] a w/\(∀k y,k < i->T.inputs[k]? = some y->inOk T k y=true)) (T.inputs.length - 0) ⟨0,rfl,⟨J.pk,N⟩,z1c⟩ ?_
 clear N J
 rintro mm a w ⟨i,z,⟨J,N⟩,x0⟩ Z2 f1
 by_cases q0:i < T.inputs.length
 refine go fun a J=>?_
 obtain ⟨g3,rfl,Z0,n0,I0,H1,z1,Q0⟩:=h8.el l1 q0
 obtain rfl:I0=[.string Z0]:=Q0
 refine zF call126 (fun w N a J=>?_) (c:=z0k G N)
 refine go fun a J=>?_
 generalize H:(wY Z0)=F0 at J
 cases F0
 refine qC call83 (fun w N=>?_) (c:=zI N)
 replace N:=N.dl [2,1,0]
 rw [show qL T=false from y3i n0 (by simp [inOk,H]),show dem false=.error () from rfl];exact ⟨rfl,N⟩
 have V0:=x2i h8 q0
 refine Qq (fun a J=>?_) (o:=by exact fun J O=>q8l J rfl rfl runUnderlying23 sizeOf9 (Nat.le_of_lt (Nat.lt_of_lt_of_le q0 (show T.inputs.length<=l from k1))))
 refine zF call87 (fun w N a J=>?_) (c:=oF V0 N)
 refine yG call83 (fun r1 w P N a J=>?_) (fun r1 w P N=>?_) (c:=yD (b:=(!((((T.inputs.take i)).contains Z0)))) N)
 refine go fun a J=>?_
 refine f1 _ _ _ (by subst z;omega) ⟨(i+1),rfl,⟨J.pk,N⟩,?_⟩
 exact gQ x0 n0 (by have F:=zD P;simp only [inOk,F,H];rfl)
 replace N:=N.dl [2,1,0]
 have W:=zP P
 rw [show qL T=false from y3i n0 (by simp [inOk,W,H]),show dem false=.error () from rfl];exact ⟨rfl,N⟩
 have i1:=y1a (p:=inOk T) x0 q0
 refine go fun a J=>?_
 refine qD (J.ks [0,125,126]) N (fun R mm a w=>∃(i:Nat),mm=T.funs.length - i/\R Φ [(127,.int .i64 i)] [(2,.mp mf (zN (ixM TFn.name 0 (T.funs.take i))))] a w/\(∀k y,k < i->T.funs[k]? = some y->z8l T k y=true)) (T.funs.length - 0) ⟨0,rfl,⟨J.pk,N⟩,z1c⟩ ?_
 clear N J
 rintro mm a w ⟨i,z,⟨J,N⟩,g0⟩ l2 N0
 replace N:=N.nf
 by_cases d0:i < T.funs.length
 refine go fun a J=>?_
 obtain ⟨E0,rfl,f,r,w1,I1,A1,R0⟩:=d1.el y0 d0
 obtain ⟨A0,s0,n2,rfl,v2,c1,L1,T1⟩:=RTFn.fm R0
 obtain ⟨B0,t0,C0,c143,D0,u0,rfl,D1,E1,w2,x2,y2,M1,U1,N1,V1,O1,W1⟩:=RTE.fm c1
 refine Alc fun r0 w N a J=>?_
 refine Sto 0 fun w N a J=>?_
 refine Reg [1,1,1,2,1,2,2,1,1,1,1,1] [0,1,2,3] fun w N a J=>?_
 refine go fun a J=>?_
 rcases n:jJ ((zN (ixM TFn.name 0 (T.funs.take i)))) f.name with _ | g2
 have t:=congrArg (zZ true (.int .i64 ((0:Nat):Int))) n
 refine Qq (fun a J=>?_) (o:=by exact fun J O=>Ok.cast (yZ 3 runUnderlying98 runUnderlying9 zeroValue3 J O rfl rfl rfl) (show zZ true (.int .i64 ((0:Nat):Int)) (jJ ((zN (ixM TFn.name 0 (T.funs.take i)))) f.name)=.tuple #[.int .i64 ((0:Nat):Int),.bool false] from t))
 refine zF call126 (fun w N a J=>?_) (c:=z0k G N)
 refine go fun a J=>?_
 generalize I:(wY f.name)=G0 at J
 cases G0
 refine qC call83 (fun w N=>?_) (c:=zI N)
 replace N:=N.dl [3,2,1,0]
 rw [show qL T=false from z3u r (by simp [z8l,I]),show dem false=.error () from rfl];exact ⟨rfl,N⟩
 refine Qq (fun a J=>?_) (o:=by exact fun J O=>mS (i:=f.params.length) (j:=16) J rfl rfl)
 refine yG call83 (fun s1 w S N a J=>?_) (fun s1 w S N=>?_) (c:=yD (b:=(decide (f.params.length<=16))) N)
 refine Reg [1,1,1,2,1,2,1,0] [0,1,2,3] fun w N a J=>?_
 have M0:z8l T i f=true:=by have c0:=ixM_any.1 (vQ n);have F:=zD S;simp only [z8l,c0,F,I];rfl
 refine uF 3 runUnderlying98 runUnderlying9 fun w N a J=>?_
 replace N:Mem Φ (.blk r0 (ob [.string f.name,.bool f.chg,.slice A0 f.params.length s0,.int .i64 (f.body.kind),.string f.body.name,.string f.body.op,.int .i64 (f.body.num),.int .i64 (f.body.site),.slice B0 f.body.args.length t0,.slice C0 f.body.arms.length c143,.slice D0 f.body.body.length u0] 50)::.blk bp (ob [.slice p3 T.cons.length c4,.slice p9 T.inputs.length l,.slice (some E0) T.funs.length m,.slice s T.outputs.length c22,.map (some mc),.map (some mf),.map (some ms)] 160)::.mp mc (zN (mT T))::.mp mf (zN (qJ (ixM TFn.name 0 (T.funs.take i)) f.name ((i:Nat):Int)))::K) w:=by rw [<- wP (ixM TFn.name 0 (T.funs.take i)) f.name ((i:Nat):Int)];exact N
 refine go fun a J=>?_
 replace N:Mem Φ (.blk r0 (ob [.string f.name,.bool f.chg,.slice A0 f.params.length s0,.int .i64 (f.body.kind),.string f.body.name,.string f.body.op,.int .i64 (f.body.num),.int .i64 (f.body.site),.slice B0 f.body.args.length t0,.slice C0 f.body.arms.length c143,.slice D0 f.body.body.length u0] 50)::.blk bp (ob [.slice p3 T.cons.length c4,.slice p9 T.inputs.length l,.slice (some E0) T.funs.length m,.slice s T.outputs.length c22,.map (some mc),.map (some mf),.map (some ms)] 160)::.mp mc (zN (mT T))::.mp mf (zN (ixM TFn.name 0 (T.funs.take (i+1))))::K) w:=by rw [<- z2d r (vQ n)];exact N
 replace N:=N.dl [0]
 refine N0 _ _ _ (by subst z;omega) ⟨(i+1),rfl,⟨J.pk,N⟩,?_⟩
 exact gQ g0 r M0
 replace N:=N.dl [3,2,1,0]
 have W:=zP S
 rw [show qL T=false from z3u r (by simp [z8l,W,I]),show dem false=.error () from rfl];exact ⟨rfl,N⟩
 obtain ⟨u1,X0,rfl⟩:=pW n
 have t:=congrArg (zZ true (.int .i64 ((0:Nat):Int))) n
 refine Qq (fun a J=>?_) (o:=by exact fun J O=>Ok.cast (yZ 3 runUnderlying98 runUnderlying9 zeroValue3 J O rfl rfl rfl) (show zZ true (.int .i64 ((0:Nat):Int)) (jJ ((zN (ixM TFn.name 0 (T.funs.take i)))) f.name)=.tuple #[.int .i64 (u1),.bool true] from t))
 refine qC call83 (fun w N=>?_) (c:=zI N)
 replace N:=N.dl [3,2,1,0]
 rw [show qL T=false from z3u r (q6f X0),show dem false=.error () from rfl];exact ⟨rfl,N⟩
 refine go fun a J=>?_
 replace N:Mem Φ (.blk bp (ob [.slice p3 T.cons.length c4,.slice p9 T.inputs.length l,.slice B T.funs.length m,.slice s T.outputs.length c22,.map (some mc),.map (some mf),.map (some ms)] 160)::.mp mc (zN (mT T))::.mp mf (zN (nQ T))::K) w:=by rw [show nQ T=ixM TFn.name 0 (T.funs.take i) from by rw [nQ,List.take_of_length_le (Nat.le_of_not_lt d0)]];exact N
 have j1:=y1a (p:=z8l T) g0 d0
 refine go fun a J=>?_
 refine qD (J.ks [0,168,169]) N (fun R mm a w=>∃(i:Nat),mm=T.outputs.length - i/\R Φ [(170,.int .i64 i)] [] a w/\(T.outputs.all (dM T)=(T.outputs.drop i).all (dM T))) (T.outputs.length - 0) ⟨0,rfl,⟨J.pk,N⟩,rfl⟩ ?_
 clear N J
 rintro mm a w ⟨i,z,⟨J,N⟩,h0⟩ m2 O0
 by_cases w0:i < T.outputs.length
 refine go fun a J=>?_
 obtain ⟨U2,rfl,b0,A,J0,J1,B1,S0⟩:=y1.el m1 w0
 obtain rfl:J0=[.string b0]:=S0
 refine go fun a J=>?_
 rcases u:jJ ((zN (nQ T))) b0 with _ | i2
 have v:=congrArg (zZ true (.int .i64 ((0:Nat):Int))) u
 refine Qq (fun a J=>?_) (o:=by exact fun J O=>Ok.cast (yZ 2 runUnderlying98 runUnderlying9 zeroValue3 J O rfl rfl rfl) (show zZ true (.int .i64 ((0:Nat):Int)) (jJ ((zN (nQ T))) b0)=.tuple #[.int .i64 ((0:Nat):Int),.bool false] from v))
 refine qC call83 (fun w N=>?_) (c:=zI N)
 replace N:=N.dl [2,1,0]
 rw [show qL T=false from z3v A (x0s (vQ u)),show dem false=.error () from rfl];exact ⟨rfl,N⟩
 obtain ⟨X2,Y0,rfl⟩:=pW u
 obtain ⟨q1,rfl,M,P0⟩:=gH Y0
 have v:=congrArg (zZ true (.int .i64 ((0:Nat):Int))) u
 refine Qq (fun a J=>?_) (o:=by exact fun J O=>Ok.cast (yZ 2 runUnderlying98 runUnderlying9 zeroValue3 J O rfl rfl rfl) (show zZ true (.int .i64 ((0:Nat):Int)) (jJ ((zN (nQ T))) b0)=.tuple #[.int .i64 q1,.bool true] from v))
 refine go fun a J=>?_
 obtain ⟨V2,rfl,p0,V,x1,K1,C1,U0⟩:=d1.el y0 P0
 obtain ⟨Q2,p2,o2,rfl,z2,e1,P1,X1⟩:=RTFn.fm U0
 obtain ⟨R2,q2,S2,r2,T2,s2,rfl,F1,G1,B2,C2,D2,Q1,Y1,R1,Z1,S1,a2⟩:=RTE.fm e1
 refine go fun a J=>?_
 generalize j0:p0.chg=H0 at J
 cases H0
 refine qC call83 (fun w N=>?_) (c:=zI N)
 replace N:=N.dl [2,1,0]
 rw [show qL T=false from z3v A (by rw [q6y M V];simp [j0]),show dem false=.error () from rfl];exact ⟨rfl,N⟩
 refine Qq (fun a J=>?_) (o:=by exact fun J O=>kW (i:=p0.params.length) (j:=0) J rfl rfl)
 refine yG call83 (fun t1 w U N a J=>?_) (fun t1 w U N=>?_) (c:=yD (b:=(decide (p0.params.length=0))) N)
 refine go fun a J=>?_
 refine O0 _ _ _ (by subst z;omega) ⟨(i+1),rfl,⟨J.pk,N⟩,?_⟩
 exact j4o h0 A (by have F:=zD U;rw [q6y M V];simp only [F,j0];rfl)
 replace N:=N.dl [2,1,0]
 have W:=zP U
 rw [show qL T=false from z3v A (by rw [q6y M V];rw [W,Bool.and_false]),show dem false=.error () from rfl];exact ⟨rfl,N⟩
 refine go fun a J=>?_
 refine hQ _ _ _ (yP J results85 ?_)
 rw [show qL T=true from j3s h1 i1 j1 (by rw [h0,qE w0];rfl)];exact ⟨rfl,N⟩
theorem y5v {P:Program} {n:Nat} {w:World} {f:FuncId} {fn:Func} {c:Code} {vs:List Value} {R:Ending->World->Prop} (g:P.funcs[f]? = some fn) (hb:fn.body=some c) (i:fn.ntmps=n) (hl:Nat.ble vs.length n=true)
  (k:∀Q:Exit->Act->World->Prop,(∀e a w,bodyPostD P fn R e a w->Q e a w)->∀a,EnvR n (aO 0 vs) [] a->c.wp P Q a w):Calls P f vs.toArray w R:=by
 have hl':vs.length<=n:=by simpa using hl
 refine calls_of_wp_defers g hb (k _ (fun _ _ _ h=>h) _ ⟨by simp [i];omega,fun t v j=>?_,rfl⟩)
 obtain ⟨_,b⟩:=nM vs 0 t v j
 simp only [Nat.sub_zero] at b
 have d:t < vs.length:=(List.getElem?_eq_some_iff.1 b).1
 simp only [List.getElem?_toArray,Array.getElem?_append,List.size_toArray,d,↓reduceIte]
 exact b
abbrev wrongVT:Value:=.iface 137 (.agg #[.int .i64 120,.int .i64 0])
abbrev W0:List Value:=[.int .i64 0,.int .i64 0]
set_option maxRecDepth 20000 in
set_option maxHeartbeats 4000000 in
theorem y5q {Φ:Fz} {K:List Res} {w:World} {b:Nat} (N:Mem Φ (.blk b (ob W0 137)::K) w) :
  CallsD prog 109 #[.pointer (some ⟨b,0,none⟩)] (.panicking jB) w fun e u' w'=>
   e=.returned (.tuple #[])/\u'=.panicking [{ v:=wrongVT,recovered:=true }]/\Mem Φ (.blk b (ob [.int .i64 120,.int .i64 0] 137)::K) w':=by
 generalize j:(fun (e:Ending) (u':FrameMode) (w':World)=>e=.returned (.tuple #[])/\u'=.panicking [{ v:=wrongVT,recovered:=true }]/\Mem Φ (.blk b (ob [.int .i64 120,.int .i64 0] 137)::K) w')=R
 refine callsD_of_wpS func109 rfl fun c₀ cs m=>?_
 apply wpS_seq
 apply wpS_region
 show wpOpsS prog _ _ [0] _ _ _
 simp [wpOpsS,go_sem,recoverD,m,ntmps109,Exit.thenS,jB]
 refine wpS_of_wp ?_
 generalize k:(_::cs:List Frame)=cs'
 have hQ:∀(a:Act) (w':World),a.defers=[]->Mem Φ (.blk b (ob [.int .i64 120,.int .i64 0] 137)::K) w'->bodyPostS prog Tryz.f109 c₀ cs R .normal a cs' w':=fun a w' l N=>
  ⟨l,.panicking [{ v:=wrongVT,recovered:=true }],k.symm,.tuple #[],results_none rfl _ _ _,by subst j;exact ⟨rfl,rfl,N⟩⟩
 generalize c:(Act.mk _ [])=a
 have J:EnvR 11 [(4,wrongVT),(0,.pointer (some ⟨b,0,none⟩))] [] a:=by
  subst c
  refine ⟨by simp,fun t v h=>?_,rfl⟩
  obtain ⟨rfl,rfl⟩ | ⟨_,h⟩:=xR h
  ·rfl
  ·obtain ⟨rfl,rfl⟩ | ⟨_,h⟩:=xR h
   ·rfl
   ·cases h
 clear c
 refine wp_block ?_
 refine sq fun n d=>?_
 refine wp_region_lit ?_
 refine xK J (jC (v:=.bool false) J rfl rfl rfl (by kernel_rfl)) rfl fun a J=>?_
 refine wpList_nil ?_
 apply d
 refine if_f J rfl ?_
 refine sq fun o f=>?_
 refine wp_region_lit ?_
 refine xK J (y1l J rfl runUnderlying137 (by intro ms h;cases h)) rfl fun a J=>?_
 refine xK J (xJ J rfl rfl) rfl fun a J=>
  xK J (xJ J rfl rfl) rfl fun a J=>?_
 refine wpList_nil ?_
 apply f
 refine if_t J rfl ?_
 refine sq fun p g=>?_
 refine wp_region_lit ?_
 refine st J rfl rfl rfl (qP (cs:=W0) N zeroValue137 rfl fun i w N a J=>?_)
 refine st0 J rfl rfl (zQ 0 (cs:=W0) (vs:=[.int .i64 120,.int .i64 0]) J N rfl rfl rfl rfl sizeOf137 rfl rfl rfl fun w N a J=>?_)
 replace N:Mem Φ (.blk i (ob [.int .i64 120,.int .i64 0] 137)::.blk b (ob W0 137)::K) w:=N
 refine wpList_nil ?_
 apply g
 refine wp_region_lit ?_
 refine xK J (qA 0 (vs:=[.int .i64 120,.int .i64 0]) J N.toSees rfl rfl isAgg137 sizeOf137 rfl rfl) rfl fun a J=>?_
 refine st0 J rfl rfl (zQ 1 (cs:=W0) (vs:=[.int .i64 120,.int .i64 0]) J N rfl rfl rfl rfl sizeOf137 rfl rfl rfl fun w N a J=>?_)
 refine wpList_nil ?_
 replace N:Mem Φ (.blk b (ob [.int .i64 120,.int .i64 0] 137)::K) w:=N.del 0
 exact hQ _ _ J.defs N
set_option maxRecDepth 20000 in
theorem catch_still {w:World} {b:Nat} :
  CallsD prog 109 #[.pointer (some ⟨b,0,none⟩)] .returning w fun e u' w'=>e=.returned (.tuple #[])/\u'=.returning/\w'=w:=by
 generalize g:(fun (e:Ending) (u':FrameMode) (w':World)=>e=.returned (.tuple #[])/\u'=.returning/\w'=w)=R
 refine callsD_of_wpS func109 rfl fun c₀ cs f=>?_
 apply wpS_seq
 apply wpS_region
 show wpOpsS prog _ _ [0] _ _ _
 simp [wpOpsS,go_sem,recoverD,f,ntmps109,Exit.thenS,jB]
 refine wpS_of_wp ?_
 have hQ:∀(a:Act),a.defers=[]->bodyPostS prog Tryz.f109 c₀ cs R .normal a (c₀::cs) w:=fun a i=>
  ⟨i,.returning,by cases c₀;simp only at f;subst f;rfl,.tuple #[],results_none rfl _ _ _,by subst g;exact ⟨rfl,rfl,rfl⟩⟩
 generalize c:(Act.mk _ [])=a
 have J:EnvR 11 [(4,.nilIface),(0,.pointer (some ⟨b,0,none⟩))] [] a:=by
  subst c
  refine ⟨by simp,fun t v h=>?_,rfl⟩
  obtain ⟨rfl,rfl⟩ | ⟨_,h⟩:=xR h
  ·rfl
  ·obtain ⟨rfl,rfl⟩ | ⟨_,h⟩:=xR h
   ·rfl
   ·cases h
 clear c
 refine wp_block ?_
 refine sq fun j d=>?_
 refine wp_region_lit ?_
 refine xK J (jC (v:=.bool true) J rfl rfl rfl (by kernel_rfl)) rfl fun a J=>?_
 refine wpList_nil ?_
 apply d
 refine if_t J rfl ?_
 refine wp_region_lit ?_
 refine xK J (qW J rfl) rfl fun a J=>?_
 refine wpList_nil ?_
 exact hQ _ J.defs
theorem dT {P:Program} {fn:Func} {n:Nat} {E:List (Nat×Value)} {D:List Deferred} {a:Act} {Φ:Fz} {K:List Res} {w:World} {t T b i k:Nat} {cs:List Value} {T0:TypeId} (J:EnvR n E D a) (N:Sees Φ K w) (h:fn.results=#[.cell t T]) (c:get E t=some (.pointer (some ⟨b,0,none⟩)))
  (g:yV K i=some (.blk b (ob cs T0))) (f:AggT P T) (e:SizeT P T k) (hl:cs.length=k):(results fn a.tmps).run P w=.ok (.agg cs.toArray) w:=by
 have d:=q0f (P:=P) J N c g f e hl
 simp [results,h,Array.getD_eq_getD_getElem?,J.env t _ c,asAddr,d,Sem.run_bind,Result.andThen]
set_option maxRecDepth 20000 in
set_option maxHeartbeats 1000000 in
theorem z8o {α β:Type} {r:Except Unit α} {g:FuncId} {cs:List Value} {Φ:Fz} {K0 K:List Res} {w:World} {F:α->β->Fz} {KO:α->β->List Res} {G:α->β->Prop}
  (k:∀args w,(callFunc g args).run prog w=.ok (.enter g args) w)
  (A:∀b w,Mem Φ (.blk b (ob W0 137)::K0) w->Calls prog g cs.toArray w (fun e w'=>Out r
   (fun x=>∃y,e=.returned (.tuple #[])/\G x y/\Mem (F x y) (.blk b (ob W0 137)::KO x y) w')
   (fun _=>e=.panicked jB/\Mem Φ (.blk b (ob W0 137)::K) w')))
  (N:Mem Φ K0 w):Calls prog 64 #[.func (.func g) #[] cs.toArray] w (fun e w'=>Out r
   (fun x=>∃y,e=.returned (.agg (List.toArray W0))/\G x y/\Mem (F x y) (KO x y) w')
   (fun _=>e=.returned (.agg #[.int .i64 120,.int .i64 0])/\Mem Φ K w')):=by
 refine y5v func64 rfl ntmps64 rfl (fun Q hQ a J=>?_)
 refine sq fun B o=>?_
 refine wp_region_lit ?_
 refine st J rfl rfl rfl (qP (cs:=W0) N zeroValue137 rfl fun b w N a J=>?_)
 refine wpList_nil ?_
 apply o
 refine sq fun C p=>?_
 refine wp_region_lit ?_
 refine xK J (z1e (vfs:=[]) (vcs:=[.pointer (some ⟨b,0,none⟩)]) J rfl rfl) rfl fun a J=>?_
 refine tE (fs:=[]) (cs:=[.pointer (some ⟨b,0,none⟩)]) (vs:=[]) J rfl rfl fun a J=>?_
 refine wpList_nil ?_
 apply p
 refine sq fun D q=>?_
 refine wp_region_lit ?_
 refine xK J (yX J rfl) rfl fun a J=>?_
 have m:∀(a:Act) (w:World) (n:Fz) (K1:List Res) (E:List (Nat×Value)),EnvR 7 E [{ target:=.fn (.func 109) #[.pointer (some ⟨b,0,none⟩)],args:=#[] }] a->get E 2=some (.pointer (some ⟨b,0,none⟩)) ->
   Mem n (.blk b (ob W0 137)::K1) w ->
   (Out r (fun x=>∃y,Ending.returned (.agg (List.toArray W0))=.returned (.agg (List.toArray W0))/\G x y/\Mem (F x y) (KO x y) w) (fun _=>Ending.returned (.agg (List.toArray W0))=.returned (.agg #[.int .i64 120,.int .i64 0])/\Mem Φ K w))->Q .ret a w:=by
  intro a w n K1 E J k N z
  refine hQ _ _ _ ?_
  show Leaves _ _ _ _ a.defers _ _
  rw [J.defs]
  refine leaves_cons (f:=109) (args:=#[.pointer (some ⟨b,0,none⟩)]) (by simp) (call109 _ _) ?_
  refine catch_still.mono ?_
  rintro e u' w'' ⟨rfl,rfl,rfl⟩
  exact ⟨.agg (List.toArray W0),dT (i:=0) J N.toSees results64 k rfl isAgg137 sizeOf137 rfl,z⟩
 have l:∀(a:Act) (w:World) (E:List (Nat×Value)),EnvR 7 E [{ target:=.fn (.func 109) #[.pointer (some ⟨b,0,none⟩)],args:=#[] }] a->get E 2=some (.pointer (some ⟨b,0,none⟩)) ->
   Mem Φ (.blk b (ob W0 137)::K) w->(∃u,r=.error u)->Q (.panic jB) a w:=by
  intro a w E J k N d
  refine hQ _ _ _ ?_
  show Leaves _ _ _ _ a.defers _ _
  rw [J.defs]
  refine leaves_cons (f:=109) (args:=#[.pointer (some ⟨b,0,none⟩)]) (by simp) (call109 _ _) ?_
  refine (y5q N).mono ?_
  rintro e u' w'' ⟨rfl,rfl,N⟩
  refine ⟨.agg #[.int .i64 120,.int .i64 0],dT (i:=0) J N.toSees results64 k rfl isAgg137 sizeOf137 rfl,?_⟩
  obtain ⟨u,rfl⟩:=d
  exact ⟨rfl,N.del 0⟩
 refine stP J rfl rfl rfl (cB J rfl rfl k (A b w N) (fun v w h a J=>?_) (fun c w h a J=>?_) (fun w h=>?_))
 ·cases d:r with
  | ok x=>
   rw [d] at h
   obtain ⟨y,j,t,N⟩:=h
   cases j
   refine wpList_nil ?_
   apply q
   refine sq fun H s=>?_
   refine wp_region_lit ?_
   refine xK J (jP (vs:=[]) (cs:=W0) J rfl (by kernel_rfl)) rfl fun a J=>?_
   refine st0 J rfl rfl (zQ 0 (cs:=W0) (vs:=W0) J N rfl rfl rfl rfl sizeOf137 rfl rfl rfl fun w N a J=>?_)
   refine wpList_nil ?_
   apply s
   refine wp_ret ?_
   exact m a w _ (KO x y) _ J rfl N (by rw [d];exact ⟨y,rfl,t,N.del 0⟩)
  | error c=>rw [d] at h;cases h.1
 ·cases d:r with
  | ok x=>rw [d] at h;obtain ⟨y,j,_⟩:=h;cases j
  | error c'=>
   rw [d] at h
   obtain ⟨j,N⟩:=h
   cases j
   exact l a w _ J rfl N ⟨_,d⟩
 ·cases d:r with
  | ok x=>rw [d] at h;obtain ⟨y,j,_⟩:=h;cases j
  | error c'=>rw [d] at h;cases h.1
theorem q3a {Φ:Fz} {K:List Res} {w:World} {bp mc mf ms:Nat} {tc:List Value} {T:Trc} (c:RTrc Φ tc T) (k:qL T=true)
  (N:Mem Φ (.blk bp (ob (tc++[.map (some mc),.map (some mf),.map (some ms)]) 160)::.mp mc (zN (mT T))::.mp mf (zN (nQ T))::K) w):∃Ψ,Φ.Le Ψ/\Mem Ψ K w/\RProg Ψ ⟨bp,0,none⟩ T ms:=by
 obtain ⟨l,e,g,f⟩:=N.freezeBlk (i:=0) rfl
 obtain ⟨m,b,h,a2⟩:=g.freezeMap (i:=0) rfl
 obtain ⟨d,a,j,a3⟩:=h.freezeMap (i:=0) rfl
 exact ⟨d,e.trans (b.trans a),j,k,tc,mc,mf,f.mono (b.trans a),RTrc.mono _ _ _ _ (e.trans (b.trans a)) c,a2.mono a,a3⟩
section
variable {T:Trc}
theorem tP (h:¬(T.cons.length<=300/\T.inputs.length<=6/\T.funs.length<=400/\T.outputs.length<=6)):zL T=false:=by
 rw [<- Bool.not_eq_true];intro a
 simp only [zL,baQ,decide_eq_true_eq] at a
 exact h ⟨a.1.1.1.1.1.1,a.1.1.1.1.1.2,a.1.1.1.1.2,a.1.1.1.2⟩
theorem q5o (h:nC T.funs 0=none):zL T=false:=by
 rw [<- Bool.not_eq_true];intro a
 simp only [zL,baQ,decide_eq_true_eq] at a
 have:=a.1.1.2;rw [h] at this;cases this
theorem q0h (h:qL T=false):zL T=false:=by
 rw [<- Bool.not_eq_true];intro a
 simp only [zL,baQ,decide_eq_true_eq] at a
 rw [a.1.2] at h;cases h
theorem q5n (h:mI T T.funs []=none):zL T=false:=by
 rw [<- Bool.not_eq_true];intro a
 simp only [zL,baQ,decide_eq_true_eq] at a
 have:=a.2;rw [h] at this;cases this
theorem j2x {n:Nat} {m:List (Int×Int)} (a:T.cons.length<=300/\T.inputs.length<=6/\T.funs.length<=400/\T.outputs.length<=6) (b:nC T.funs 0=some n) (c:qL T=true) (d:mI T T.funs []=some m):zL T=true:=by
 simp only [zL,baQ,decide_eq_true_eq]
 exact ⟨⟨⟨⟨⟨⟨a.1,a.2.1⟩,a.2.2.1⟩,a.2.2.2⟩,by rw [b];rfl⟩,c⟩,by rw [d];rfl⟩
theorem y4o {l:List TFn} {i n:Nat} {f:TFn} (h:l[i]? = some f):nC (l.drop i) n=(kM f.body 1 n).bind (nC (l.drop (i+1))):=by rw [yI h,nC]
theorem q0y {l:List TFn} {i:Nat} {m:List (Int×Int)} {f:TFn} (h:l[i]? = some f):mI T (l.drop i) m=(dQ T f m).bind fun s=>mI T (l.drop (i+1)) s.sites:=by rw [yI h,mI]
end
theorem Row.one {Φ:Fz} {v:Value} {k:Nat} {cs:List Value} (h:Row Φ v k cs):Value.oneCell' v=true:=by
 rcases h with ⟨rfl,_⟩ | ⟨q,m,c,rfl,_⟩ <;> rfl
theorem SliceOf.one {α:Type} {R:Fz->List Value->α->Prop} {Φ:Fz} {k:Nat} {v:Value} {xs:List α} (h:SliceOf R Φ k v xs):Value.oneCell' v=true :=
 let ⟨_,a,_⟩:=h;a.one
def z7b {α:Type} (R:Fz->List Value->α->Prop):Prop:=∀Φ c x,R Φ c x->c.all Value.oneCell'=true
theorem Chunks.ones {α:Type} {R:Fz->List Value->α->Prop} (a:z7b R) {Φ:Fz} {k:Nat}:∀{xs:List α} {cs:List Value},Chunks (R Φ) k cs xs->cs.all Value.oneCell'=true
 | [],cs,h=>by simp only [Chunks] at h;subst h;rfl
 | x::xs,cs,⟨c,rest,b,_,d,e⟩=>by
  subst b
  rw [List.all_append,a _ _ _ d,Chunks.ones a e];rfl
theorem RStr.ones:z7b RStr:=fun _ c x h=>by cases h;rfl
theorem RBoo.ones:z7b RBoo:=fun _ c x h=>by cases h;rfl
theorem RAtom.ones:z7b RAtom:=fun _ c x h=>by obtain ⟨rfl,_⟩:=h;rfl
theorem RTPar.ones:z7b RTPar:=fun _ c x h=>by cases h;rfl
theorem RTE.ones:z7b RTE:=fun _ c x h=>by
 obtain ⟨s,t,u,rfl,_,_,a,b,d⟩:=RTE.iff.1 h
 simp only [List.all_cons,a.one,b.one,d.one];rfl
theorem RTA.ones:z7b RTA:=fun Φ c x h=>by
 obtain ⟨s,b,rfl,a,d⟩:=RTA.iff.1 h
 have:=RTE.ones Φ b x.body d
 simp only [List.all_cons,a.one,this];rfl
theorem RTCon.ones:z7b RTCon:=fun _ c x h=>by
 obtain ⟨s,rfl,a⟩:=h
 simp only [List.all_cons,a.one];rfl
theorem RTFn.ones:z7b RTFn:=fun Φ c x h=>by
 obtain ⟨s,b,rfl,a,d⟩:=h
 have:=RTE.ones Φ b x.body d
 simp only [List.all_cons,a.one,this];rfl
def RInt (_:Fz) (cs:List Value) (x:Int):Prop:=cs=[.int .i64 x]
theorem RInt.mono (Φ Ψ:Fz) (c:List Value) (x:Int) (_:Φ.Le Ψ) (h:RInt Φ c x):RInt Ψ c x:=h
theorem RInt.ones:z7b RInt:=fun _ c x h=>by cases h;rfl
def RPtE (Φ:Fz) (cs:List Value) (x:TE):Prop:=∃p d,cs=[.pointer (some p)]/\At Φ p d/\RTE Φ d x
theorem RPtE.mono (Φ Ψ:Fz) (c:List Value) (x:TE) (hl:Φ.Le Ψ) (h:RPtE Φ c x):RPtE Ψ c x:=let ⟨p,d,a,b,e⟩:=h;⟨p,d,a,b.mono hl,RTE.mono _ _ _ _ hl e⟩
theorem RPtE.ones:z7b RPtE:=fun _ c x h=>by obtain ⟨p,d,rfl,_⟩:=h;rfl
theorem kJ {α:Type} {R:List Value->α->Prop} {k n m b:Nat} {cs:List Value} {l:List α} (g:Chunks R k cs l) (a:0 < k) (c:([]:List Value).length=n * k) (h:cs.length=m * k) (hb:l.length * b<=140737488355328):(n+m) * b<=140737488355328:=by
 have d:=g.length
 have e:m=l.length:=Nat.eq_of_mul_eq_mul_right a (h.symm.trans d)
 have f:n=0:=by
  cases n with
  | zero=>rfl
  | succ n=>exact absurd c (Nat.ne_of_lt (Nat.mul_pos (Nat.succ_pos n) a))
 subst e;subst f;rw [Nat.zero_add];exact hb
theorem z1n {Φ:Fz}:∀{l:List Bool} {cs:List Value},Chunks (RBoo Φ) 1 cs l->cs=gB l
 | [],cs,h=>h
 | x::l,cs,⟨c,rest,a,_,b,d⟩=>by
  obtain rfl:=b
  rw [a,z1n d];rfl
theorem kL {α:Type} {l:List α} (h:l≠[]->∃q:Addr,(none:Option Addr)=some q):l=[]:=by
 cases l with
 | nil=>rfl
 | cons x l=>obtain ⟨q,h⟩:=h (by simp);cases h
section
variable {P:Program} {n:Nat} {E:List (Nat×Value)} {D:List Deferred} {a:Act} {Φ Ψ:Fz} {K:List Res} {w:World}
variable {Kn:Value->World->Prop} {Qp:List PanicEntry->World->Prop} {dst:Option Tmp} {ty:TypeId} {pos:String} {aft:Array Edge} {g:Option (Nat×Bool)}
theorem mZ {α β ε δ:Type} {f:FuncId} {xs:Array Operand} {ts:Array TypeId} {vs:List Value} {r:Except ε α} {X:α->β->Value} {Z:ε->δ->Value} {F1:α->β->Fz} {d:Fz} {KO:α->β->List Res} {KE:ε->δ->List Res} {G:α->β->Prop}
  (J:EnvR n E D a) (o:evs E xs.toList=some vs) (m:∀args w,(callFunc f args).run P w=.ok (.enter f args) w)
  (l:Calls P f vs.toArray w (fun e w'=>Out r (fun x=>∃y,e=.returned (X x y)/\G x y/\Mem (F1 x y) (KO x y) w') (fun c=>∃y,e=.returned (Z c y)/\Mem d (KE c y) w')))
  (k:∀x y w',r=.ok x->G x y->Mem (F1 x y) (KO x y) w'->Kn (X x y) w') (kp:∀c y w',r=.error c->Mem d (KE c y) w'->Kn (Z c y) w') :
  Oper.eff P ⟨dst,.call { callee:=.value (.func f),args:=xs,argTypes:=ts },ty,pos,aft,g⟩ a w Kn Qp:=by
 refine mH J o m l (fun v w' h=>?_) (fun c w' h=>?_) (fun w' h=>?_)
 ·cases r with
  | ok x=>obtain ⟨y,b,i,j⟩:=h;cases b;exact k _ _ _ rfl i j
  | error c=>obtain ⟨y,b,i⟩:=h;cases b;exact kp _ _ _ rfl i
 ·cases r with
  | ok x=>obtain ⟨y,b,_⟩:=h;cases b
  | error c=>obtain ⟨y,b,_⟩:=h;cases b
 ·cases r with
  | ok x=>obtain ⟨y,b,_⟩:=h;cases b
  | error c=>obtain ⟨y,b,_⟩:=h;cases b
end
def zK {α σ:Type} (step:σ->α->σ×Bool):σ->List α->σ×Bool
 | s,[]=>(s,true)
 | s,x::l=>bif (step s x).2 then zK step (step s x).1 l else ((step s x).1,false)
theorem nX {α σ:Type} (step:σ->α->σ×Bool):∀(l m:List α) (s:σ),zK step s (l++m)=bif (zK step s l).2 then zK step (zK step s l).1 m else ((zK step s l).1,false)
 | [],_,_=>rfl
 | x::l,m,s=>by
  rw [List.cons_append,zK,zK]
  cases h:(step s x).2
  ·rfl
  ·simp only [cond_true];exact nX step l m _
theorem z2u {α σ:Type} {step:σ->α->σ×Bool} {s:σ} {x:α} {l:List α} (h:(step s x).2=true):zK step s (x::l)=zK step (step s x).1 l:=by rw [zK,h];rfl
theorem tZ {α σ:Type} {step:σ->α->σ×Bool} {s:σ} {x:α} {l:List α} (h:(step s x).2=false):zK step s (x::l)=((step s x).1,false):=by rw [zK,h];rfl
theorem y4l {α σ:Type} {f:σ->α->σ}:∀(l:List α) (s:σ),zK (fun s x=>(f s x,true)) s l=(l.foldl f s,true)
 | [],_=>rfl
 | _::l,s=>y4l l _
structure Steps {α σ β:Type} (P:Program) (y:Value) (Φ:Fz) (RA:Fz->List Value->α->Prop) (items:List α) (step:σ->α->σ×Bool) (G:Fz->σ->Bool->β->Prop) (KV:σ->Bool->β->List Res):Prop where
 fn:∃f fs cs,y=.func f fs cs
 mono:∀Ψ Ψ' s b z,Ψ.Le Ψ'->G Ψ s b z->G Ψ' s b z
 go:∀Ψ s z c x K0 w,Φ.Le Ψ->x∈items->RA Ψ c x->G Ψ s true z->Mem Ψ (K0++KV s true z) w ->
  Fires P y [.agg c.toArray] w (fun e w'=>e=.returned (.bool (step s x).2)/\∃Ψ' z',Ψ.Le Ψ'/\G Ψ' (step s x).1 (step s x).2 z'/\Mem Ψ' (K0++KV (step s x).1 (step s x).2 z') w')
theorem Steps.sub {α σ β:Type} {P:Program} {y:Value} {Φ Φ':Fz} {RA:Fz->List Value->α->Prop} {items l:List α} {step:σ->α->σ×Bool} {G:Fz->σ->Bool->β->Prop} {KV:σ->Bool->β->List Res}
  (h:Steps P y Φ RA items step G KV) (hl:Φ.Le Φ') (O:∀x∈l,x∈items):Steps P y Φ' RA l step G KV :=
 ⟨h.fn,h.mono,fun Ψ s z c x K0 w a b=>h.go Ψ s z c x K0 w (hl.trans a) (O x b)⟩
def Iter {α:Type} (P:Program) (Φ:Fz) (gf:FuncId) (fs cs:List Value) (RA:Fz->List Value->α->Prop) (items:List α):Prop :=
 ∀{σ β:Type} (y:Value) (Ψ:Fz) (step:σ->α->σ×Bool) (G:Fz->σ->Bool->β->Prop) (KV:σ->Bool->β->List Res) (s0:σ) (z0:β) (w:World),Φ.Le Ψ->Steps P y Ψ RA items step G KV->G Ψ s0 true z0->Mem Ψ (KV s0 true z0) w ->
  Calls P gf (fs++[y]++cs).toArray w (fun e w'=>∃v Ψ' z,e=.returned v/\Ψ.Le Ψ'/\G Ψ' (zK step s0 items).1 (zK step s0 items).2 z/\Mem Ψ' (KV (zK step s0 items).1 (zK step s0 items).2 z) w')
inductive Jmp where
 | ret
 | exit (id:Nat)
def Jmp.code:Jmp->Code
 | .ret=>.ret
 | .exit id=>.exit id
def Jmp.ex:Jmp->Exit
 | .ret=>.ret
 | .exit id=>.exit id
def z8i (j:Jmp) (c:Bool) (e:Exit):Prop:=e=bif c then .normal else j.ex
def nJ (r:Loop) (j:Jmp) (c:Bool):Loop:=bif c then r else { r with state:=.done,pending:=some j.code }
section
variable {P:Program} {Φ:Fz} {K:List Res} {w:World}
theorem j4x {l:Nat} {r:Loop} {tmps:Array Value} {j:Jmp} {c:Bool} {X:Obj->World->Prop} (b:r.state=.ready) (f:r.pending=none)
  (v:∀o w,X o w->w.heap[l]? = some o) (g:∀o o' w,X o w->X o' (w.putObj l o'))
  (u:r.assign.wpIn (FO (some l)) 2 P (Exit.then (fun p n=>∃K1,Mem Φ (.blk l (.loop r)::K1) n/\∀k,Mem Φ (.blk l (.loop { r with state:=.busy })::K1) k ->
   r.body.wpIn (FO (some l)) 2 P (fun e _ w=>z8i j c e/\X (.loop { r with state:=.busy }) w) p k) (fun _ _ _=>False)) ⟨tmps,[]⟩ w) :
  RoundIn Fence.wide 2 P l r.fn tmps r.assign r.body w (fun e w'=>e=.returned (.bool c)/\X (.loop (nJ r j c)) w'):=by
 refine roundIn_of_wpIn trivial (Code.wpIn_mono (fun e p n h=>?_) u)
 cases e with
 | normal=>
  obtain ⟨K1,q,s⟩:=h
  have hl:n.heap[l]? = some (.loop r):=q.own _ msQ
  refine ⟨_,run_beginRound hl b,?_⟩
  refine Code.wpIn_mono (fun e a2 k h=>?_) (s _ (q.putObj (i:=0) (o':=.loop { r with state:=.busy }) rfl))
  obtain ⟨J,m⟩:=h
  have a:k.heap[l]? = some (.loop { r with state:=.busy }):=v _ _ m
  cases c with
  | true=>
   obtain rfl:e=.normal:=J
   refine ⟨_,_,run_endRound none a,rfl,?_⟩
   have t:({ ({ r with state:=.busy }:Loop) with state:=.ready,pending:=none }:Loop)=r:=by cases r;simp only at b f;subst b;subst f;rfl
   have d:=g _ (.loop { ({ r with state:=.busy }:Loop) with state:=.ready,pending:=none }) _ m
   simp only [nJ,cond_true,Option.isNone_none,if_true]
   rw [t] at d ⊢;exact d
  | false=>
   have d:=g _ (.loop { ({ r with state:=.busy }:Loop) with state:=.done,pending:=some j.code }) _ m
   cases j with
   | ret=>
    obtain rfl:e=.ret:=J
    exact ⟨_,_,run_endRound (some .ret) a,rfl,d⟩
   | exit id=>
    obtain rfl:e=.exit id:=J
    exact ⟨_,_,run_endRound (some (.exit id)) a,rfl,d⟩
 | exit id=>exact h.elim
 | goto l=>exact h.elim
 | ret=>exact h.elim
 | panic c=>exact h.elim
 | outgrown=>exact h.elim
theorem y5f {α σ β:Type} {n gf p:Nat} {E:List (Nat×Value)} {Dd:List Deferred} {a:Act} {g:Operand} {assign body:Code} {Q:Exit->Act->World->Prop} {fs cs:List Value}
  (RA:Fz->List Value->α->Prop) (items:List α) (j:Jmp) (step:σ->α->σ×Bool) (G:Fz->σ->Bool->β->Prop) (KV:σ->Bool->β->List Res) (s0:σ) (z0:β)
  (J:EnvR n E Dd a) (hG:G Φ s0 true z0) (N:Mem Φ (KV s0 true z0) w) (hg:ev E g=some (.func (.func gf) fs.toArray cs.toArray)) (hf:∀args w,(callFunc gf args).run P w=.ok (.enter gf args) w) (hp:Nat.blt p n=true)
  (B:∀Ψ Ψ' s b z,Ψ.Le Ψ'->G Ψ s b z->G Ψ' s b z)
  (hr:∀Ψ s z c x l T U K' a w,Φ.Le Ψ->x∈items->RA Ψ c x->G Ψ s true z->EnvR n ((p,.agg c.toArray)::E) [] a->Mem Ψ (.blk l T::(KV s true z++K')) w ->
   assign.wpIn (FO (some l)) 2 P (Exit.then (fun W t=>∃K1,Mem Ψ (.blk l T::K1) t/\∀V,Mem Ψ (.blk l U::K1) V ->
    body.wpIn (FO (some l)) 2 P (fun e _ w=>z8i j (step s x).2 e/\∃Ψ' z',Ψ.Le Ψ'/\G Ψ' (step s x).1 (step s x).2 z'/\Mem Ψ' (.blk l U::(KV (step s x).1 (step s x).2 z'++K')) w) W V) (fun _ _ _=>False)) a w)
  (hc:Iter P Φ gf fs cs RA items)
  (kn:∀Dk Ψ z a w,Φ.Le Ψ->G Ψ (zK step s0 items).1 (zK step s0 items).2 z->EnvR n E ({ target:=.collected Dk,args:=#[] }::Dd) a->Mem Ψ (.blk Dk (.deferred (some []))::KV (zK step s0 items).1 (zK step s0 items).2 z) w ->
   Q (bif (zK step s0 items).2 then .normal else j.ex) a w):(Code.rangeFunc g #[p] assign body).wp P Q a w:=by
 refine (wpIn_wide (n:=3)).1 (wpIn_rangeFunc fun fn _=>?_)
 let r:Loop:={ state:=.ready,pending:=none,fn,tmps:=a.tmps,params:=#[p],assign,body,defers:=w.heap.size }
 generalize D:((w.alloc (.deferred (some []))).alloc (.loop r))=t
 have k:Mem Φ (.blk (w.heap.size+1) (.loop r)::.blk w.heap.size (.deferred (some []))::KV s0 true z0) t:=by
  have u:=N.push (.deferred (some []))
  have m:=u.push (.loop r)
  have F:({ w with heap:=w.heap.push (.deferred (some [])) }:World).heap.size=w.heap.size+1:=Array.size_push _
  rw [F] at m
  rw [<- D];exact m
 have H:EnvR n E [] ⟨r.tmps,[]⟩:=⟨J.size,J.env,rfl⟩
 have R:EnvR n E ({ target:=.collected w.heap.size,args:=#[] }::Dd) { a with defers:=[{ target:=.collected w.heap.size,args:=#[] }]++a.defers }:=⟨J.size,J.env,by simp [J.defs]⟩
 generalize hL:w.heap.size+1=l at *
 generalize Z:w.heap.size=Dk at *
 have y:=hc (.func (.yield l) #[] #[]) Φ step G (fun s b z=>.blk l (.loop (nJ r j b))::.blk Dk (.deferred (some []))::KV s b z) s0 z0 t (Fz.Le.refl _) ⟨⟨_,_,_,rfl⟩,B,fun Ψ s z c x K0 w f hx L I N=>.inr ⟨l,rfl,?_⟩⟩ hG k
 ·refine ⟨l,[{ target:=.collected Dk,args:=#[] }],t,{ target:=.fn (.func gf) cs.toArray,args:=(fs++[Value.func (.yield l) #[] #[]]).toArray },t,gf,(fs++[Value.func (.yield l) #[] #[]]++cs).toArray,t,?_,?_,fun f' _=>trivial,?_,fun hd=>(by cases hd),?_⟩
  ·rw [show Fence.wide.round=none from rfl,run_enterLoop_outer]
   subst Z;subst hL;rw [<- D]
  ·have u:=J.ev hg
   have m:a.eval (.const (.func (.yield l) #[] #[]))=.func (.yield l) #[] #[]:=rfl
   simp only [resolve,Sem.run_bind,u,m,List.map_toArray,List.map_cons,List.map_nil]
   simp [Deferred.ofValue]
  ·have:=hf (fs++[Value.func (.yield l) #[] #[]]++cs).toArray t
   simp only [invoke]
   simpa using this
  ·refine callsIn_wide.2 (y.mono fun e w3 h=>?_)
   obtain ⟨v,Ψ,z,rfl,f,C,A⟩:=h
   generalize hq:zK step s0 items=q at *
   obtain ⟨s2,M⟩:=q
   have hl:w3.heap[l]? = some (.loop (nJ r j M)):=A.own _ msQ
   cases M with
   | true=>
    refine ⟨_,_,run_endLoop hl (by intro h;cases h),?_⟩
    exact kn _ _ z _ _ f C R (A.putObj (i:=0) rfl).tail
   | false=>
    have S:=kn _ _ z _ _ f C R (A.putObj (i:=0) (o':=.loop { nJ r j false with state:=.exhausted }) rfl).tail
    refine ⟨_,_,run_endLoop hl (by intro h;cases h),?_⟩
    cases j with
    | ret=>exact wpIn_ret S
    | exit id=>exact wpIn_exit S
 ·have k:Mem Ψ (.blk l (.loop r)::(KV s true z++(.blk Dk (.deferred (some []))::K0))) w:=N.perm (List.perm_middle.trans (List.Perm.cons _ (List.perm_middle.trans ((List.Perm.cons _ List.perm_append_comm).trans List.perm_middle.symm))))
  have hl:w.heap[l]? = some (.loop r):=k.own _ msQ
  refine ⟨r.fn,r.tmps.setIfInBounds p (.agg c.toArray),r.assign,r.body,?_,?_⟩
  ·rw [run_yield hl rfl]
   simp [r]
  ·have K:EnvR n ((p,.agg c.toArray)::E) [] ⟨r.tmps.setIfInBounds p (.agg c.toArray),[]⟩:=H.put (d:=p) hp
   have h:=j4x (P:=P) (Φ:=Ψ) (l:=l) (r:=r) (j:=j) (c:=(step s x).2) (tmps:=r.tmps.setIfInBounds p (.agg c.toArray))
    (X:=fun o w=>∃Ψ' z',Ψ.Le Ψ'/\G Ψ' (step s x).1 (step s x).2 z'/\Mem Ψ' (.blk l o::(KV (step s x).1 (step s x).2 z'++(.blk Dk (.deferred (some []))::K0))) w) rfl rfl
    (fun o w h=>by obtain ⟨_,_,_,_,h⟩:=h;exact h.own _ msQ)
    (fun o o' w h=>by obtain ⟨Ψ',z',u,m,h⟩:=h;exact ⟨Ψ',z',u,m,h.putObj (i:=0) rfl⟩)
    (hr Ψ s z c x l _ _ _ _ _ f hx L I K k)
   refine h.mono fun e w' hh=>?_
   obtain ⟨u,Ψ',z',m,F,Y⟩:=hh
   refine ⟨u,Ψ',z',m,F,Y.perm ?_⟩
   exact ((List.Perm.cons _ ((List.perm_middle.trans (List.Perm.cons _ List.perm_append_comm)).trans List.perm_middle.symm)).trans List.perm_middle.symm)
end
def RRw (Φ:Fz) (c:List Value) (r:Rw):Prop:=∃s,c=[.int .i64 r.rule,.int .i64 r.fn,s,.int .i64 r.num]/\z0c s/\I64 r.rule/\I64 r.fn/\I64 r.num/\SliceOf RInt Φ 1 s r.path
theorem RRw.mono (Φ Ψ:Fz) (c:List Value) (r:Rw) (hl:Φ.Le Ψ) (h:RRw Φ c r):RRw Ψ c r:=let ⟨s,b,a,d,e,f,g⟩:=h;⟨s,b,a,d,e,f,g.mono RInt.mono hl⟩
theorem RRw.len {Φ:Fz} {c:List Value} {r:Rw} (h:RRw Φ c r):c.length=4:=by obtain ⟨s,rfl,_⟩:=h;rfl
instance:MonoF RInt:=⟨RInt.mono⟩
instance:MonoF RRw:=⟨RRw.mono⟩
def z5x (m m':List (Int×Int)):Prop:=∀x,tI m' x=none->tI m x=none
theorem dB (s:BS) (m:List (Int×Int)):∀(l:List Atom) (b:List Bool),({ s with sites:=m }:BS).atomL l b=s.atomL l b
 | [],[]=>rfl
 | [],_::_=>rfl
 | _::_,[]=>rfl
 | a::l,b::bs=>by rw [BS.atomL,BS.atomL,dB s m l bs];rfl
theorem q5i (T:Trc) (s:BS) (m:List (Int×Int)) (e:TE) (c:Bool):BS.call T { s with sites:=m } e c=s.call T e c:=by
 unfold BS.call
 cases T.funs.find? (fun f=>decide (f.name=e.op)) with
 | none=>rfl
 | some f=>simp only [dB]
theorem y5g (k v x:Int):∀m:List (Int×Int),tI (m++[(k,v)]) x=(tI m x).orElse fun _=>if k=x then some v else none
 | []=>by simp [tI]
 | (q,w)::m=>by
  rw [List.cons_append,tI,tI]
  split
  ·rfl
  ·exact y5g k v x m
theorem y0l {s z:BS} {m:List (Int×Int)} {e:TE} {n:Int} (O:z5x m s.sites) (h:s.site e n=some z):∃m',({ s with sites:=m }:BS).site e n=some { z with sites:=m' }/\z5x m' z.sites:=by
 unfold BS.site at h ⊢
 split at h
 ·rename_i c
  cases h
  refine ⟨m++[(e.site,n)],by rw [if_pos ⟨O _ c.1,c.2⟩],fun x a=>?_⟩
  rw [y5g] at a ⊢
  cases b:tI s.sites x with
  | some v=>rw [b] at a;cases a
  | none=>
   rw [b] at a
   rw [O x b];exact a
 ·cases h
theorem q6n {T:Trc} {chg:Bool} {e:TE} {s z:BS} {m:List (Int×Int)} (O:z5x m s.sites) (h:qZ T chg e s=some z):∃m',qZ T chg e { s with sites:=m }=some { z with sites:=m' }/\z5x m' z.sites:=by
 have keep:∀{c:Bool},(if c=true then some s else none)=some z->∃m',(if c=true then some ({ s with sites:=m }:BS) else none)=some { z with sites:=m' }/\z5x m' z.sites:=fun {c} h=>by
  cases c with
  | true=>simp only [if_true] at h;cases h;exact ⟨m,rfl,O⟩
  | false=>simp at h
 unfold qZ at h ⊢
 simp only [dB,q5i]
 split at h
 ·rename_i a;simp only [if_pos a];exact keep h
 rename_i b;rw [if_neg b]
 split at h
 ·rename_i a;rw [if_pos a]
  split at h
  ·rename_i q;rw [if_pos q]
   split at h
   ·rename_i c n;exact keep h
   ·cases h
  ·cases h
 rename_i d;rw [if_neg d]
 split at h
 ·rename_i a;rw [if_pos a];exact keep h
 rename_i f;rw [if_neg f]
 split at h
 ·rename_i a;rw [if_pos a]
  split at h
  ·rename_i q;rw [if_pos q];exact y0l O h
  ·cases h
 rename_i g;rw [if_neg g]
 split at h
 ·rename_i a;rw [if_pos a]
  split at h
  ·rename_i q;rw [if_pos q];exact y0l O h
  ·cases h
 rename_i i;rw [if_neg i]
 split at h
 ·rename_i a;rw [if_pos a];exact keep h
 rename_i j;rw [if_neg j]
 split at h
 ·rename_i a;rw [if_pos a];exact keep h
 rename_i k;rw [if_neg k]
 split at h
 ·rename_i a;rw [if_pos a];exact keep h
 rename_i l;rw [if_neg l]
 split at h
 ·rename_i a;rw [if_pos a];exact keep h
 ·cases h
theorem z4u {s z:BS} {n:Bs} {mod:Bool} {m:List (Int×Int)} (h:s.bind n mod=some z):({ s with sites:=m }:BS).bind n mod=some { z with sites:=m }/\z.sites=s.sites:=by
 unfold BS.bind at h ⊢
 split at h
 ·rename_i a
  cases h
  exact ⟨by rw [if_pos a],rfl⟩
 ·cases h
theorem sD {m:List (Int×Int)}:∀{vs:List Bs} {ms:List Bool} {s z:BS},s.binds vs ms=some z->({ s with sites:=m }:BS).binds vs ms=some { z with sites:=m }/\z.sites=s.sites
 | [],_,s,z,h=>by rw [BS.binds] at h ⊢;cases h;exact ⟨rfl,rfl⟩
 | v::vs,[],s,z,h=>by cases h
 | v::vs,b::ms,s,z,h=>by
  rw [BS.binds] at h ⊢
  obtain ⟨s1,a,c⟩:=Option.bind_eq_some_iff.1 h
  obtain ⟨d,e⟩:=z4u (m:=m) a
  obtain ⟨f,g⟩:=sD (m:=m) c
  exact ⟨by rw [d,Option.bind_some];exact f,g.trans e⟩
mutual
theorem z0h {T:Trc} {chg:Bool}:∀{e:TE} {s z:BS} {m:List (Int×Int)},z5x m s.sites->jL T chg e s=some z->∃m',jL T chg e { s with sites:=m }=some { z with sites:=m' }/\z5x m' z.sites
 | .mk k nm op num site args arms body,s,z,m,O,h=>by
  unfold jL at h ⊢
  obtain ⟨s1,d,p⟩:=Option.bind_eq_some_iff.1 h
  have key:∃m',(if k=7 then
   (if zB (.mk k nm op num site args arms body) false false false false true true false&&({ s with sites:=m }:BS).atomL args [false] then
    (match args,arms with
    | a::_,.mk c _ _::_=>if a.name=sNo then none else (match oT T c with
     | some first=>(armsT T chg first s.kinds 0 arms { s with sites:=m }).bind fun t=>if xE T first arms.length then some { t with kinds:=s.kinds } else none
     | none=>none)
    | _,_=>none)
   else none)
   else qZ T chg (.mk k nm op num site args arms body) { s with sites:=m })=some { s1 with sites:=m' }/\z5x m' s1.sites:=by
   rw [dB]
   split at d
   ·rename_i y
    rw [if_pos y]
    split at d
    ·rename_i q
     rw [if_pos q]
     cases args with
     | nil=>cases d
     | cons a l=>
      cases arms with
      | nil=>cases d
      | cons b r=>
       obtain ⟨c,vs,bo⟩:=b
       simp only at d ⊢
       split at d
       ·cases d
       ·rename_i A
        rw [if_neg A]
        split at d
        ·rename_i first w
         obtain ⟨t,g,f⟩:=Option.bind_eq_some_iff.1 d
         obtain ⟨m',j,n⟩:=arms_sites O g
         simp only [w,j,Option.bind_some]
         split at f
         ·rename_i v
          cases f
          exact ⟨m',by rw [if_pos v],n⟩
         ·cases f
        ·cases d
    ·cases d
   ·rename_i y
    rw [if_neg y];exact q6n O d
  obtain ⟨m',g,f⟩:=key
  obtain ⟨C,j,n⟩:=rest_sites f p
  exact ⟨C,(congrArg (fun o=>Option.bind o (restT T chg nm (decide (k=4∨k=6)) body)) g).trans j,n⟩
theorem rest_sites {T:Trc} {chg:Bool} {nm:Bs} {mod:Bool}:∀{l:List TE} {s z:BS} {m:List (Int×Int)},z5x m s.sites->restT T chg nm mod l s=some z->∃m',restT T chg nm mod l { s with sites:=m }=some { z with sites:=m' }/\z5x m' z.sites
 | [],s,z,m,O,h=>by rw [restT] at h ⊢;cases h;exact ⟨m,rfl,O⟩
 | x::xs,s,z,m,O,h=>by
  rw [restT] at h ⊢
  obtain ⟨s1,d,h⟩:=Option.bind_eq_some_iff.1 h
  obtain ⟨t,p,g⟩:=Option.bind_eq_some_iff.1 h
  obtain ⟨f,j⟩:=z4u (m:=m) d
  rw [f,Option.bind_some]
  obtain ⟨B,n,u⟩:=z0h (m:=m) (by rw [j];exact O) p
  rw [n,Option.bind_some]
  exact rest_sites u g
theorem arms_sites {T:Trc} {chg:Bool} {first:Nat} {outer:List (Bs×Int)}:∀{l:List TA} {i:Nat} {s z:BS} {m:List (Int×Int)},z5x m s.sites->armsT T chg first outer i l s=some z->∃m',armsT T chg first outer i l { s with sites:=m }=some { z with sites:=m' }/\z5x m' z.sites
 | [],i,s,z,m,O,h=>by rw [armsT] at h ⊢;cases h;exact ⟨m,rfl,O⟩
 | .mk c vs b::xs,i,s,z,m,O,h=>by
  rw [armsT] at h ⊢
  split at h
  ·rename_i q
   rw [if_pos q]
   obtain ⟨s1,d,h⟩:=Option.bind_eq_some_iff.1 h
   obtain ⟨t,p,g⟩:=Option.bind_eq_some_iff.1 h
   obtain ⟨f,j⟩:=sD (m:=m) d
   rw [show ({ ({ s with sites:=m }:BS) with kinds:=outer }:BS)={ ({ s with kinds:=outer }:BS) with sites:=m } from rfl,f,Option.bind_some]
   obtain ⟨B,n,u⟩:=z0h (m:=m) (by rw [j];exact O) p
   rw [n,Option.bind_some]
   exact arms_sites u g
  ·cases h
end
theorem j3n {T:Trc} {f:TFn} {m:List (Int×Int)} {s:BS} (h:dQ T f m=some s):∃m',dQ T f []=some { s with sites:=m' }:=by
 unfold dQ at h ⊢
 obtain ⟨s1,a,b⟩:=Option.bind_eq_some_iff.1 h
 obtain ⟨c,e⟩:=sD (m:=[]) a
 obtain ⟨m',d,_⟩:=z0h (m:=[]) (fun x _=>rfl) b
 exact ⟨m',by rw [show (⟨[],[],[]⟩:BS)={ (⟨[],[],m⟩:BS) with sites:=[] } from rfl,c,Option.bind_some];exact d⟩
theorem y3e {T:Trc}:∀{l:List TFn} {m z:List (Int×Int)},mI T l m=some z->∀f∈l,∃s,dQ T f []=some s
 | [],_,_,_,_,h=>by cases h
 | g::l,m,z,h,f,a=>by
  rw [mI] at h
  obtain ⟨s,b,c⟩:=Option.bind_eq_some_iff.1 h
  rcases List.mem_cons.1 a with rfl | a
  ·obtain ⟨m',d⟩:=j3n b;exact ⟨_,d⟩
  ·exact y3e c f a
theorem q5m {T:Trc} (h:zL T=true):∀f∈T.funs,∃s,dQ T f []=some s:=by
 simp only [zL,baQ] at h
 obtain ⟨z,a⟩:=Option.isSome_iff_exists.1 h.2
 exact y3e a
theorem z2t {α β σ:Type} (step:σ->β->σ×Bool) (g:α->List β):∀(l:List α) (s:σ),zK step s (l.flatMap g)=zK (fun s x=>zK step s (g x)) s l
 | [],_=>rfl
 | x::l,s=>by
  rw [List.flatMap_cons,nX,zK]
  cases h:(zK step s (g x)).2 with
  | true=>simp only [cond_true];exact z2t step g l _
  | false=>rfl
def jT (f:FnS) (i:Nat) (y:Fnd) (r:Nat):List Rw:=((([1,2,3,4,5]:List Int).drop (r - 1)).filter fun r=>(f.try5 r y.x y.up y.path).isSome).map fun r=>⟨r,i,y.path,0⟩
theorem y2e (f:FnS) (i:Nat) (y:Fnd) {r:Nat} (h:¬r<=5):jT f i y r=[]:=by
 unfold jT
 rw [List.drop_of_length_le (by simp;omega)];rfl
theorem tF {r:Nat} (a:1<=r) (b:r<=5):(([1,2,3,4,5]:List Int).drop (r - 1))=(r:Int)::([1,2,3,4,5]:List Int).drop (r+1 - 1):=by
 match r,a,b with
 | 1,_,_=>rfl
 | 2,_,_=>rfl
 | 3,_,_=>rfl
 | 4,_,_=>rfl
 | 5,_,_=>rfl
theorem dV {f:FnS} {i:Nat} {y:Fnd} {r:Nat} {t:TE} (a:1<=r) (b:r<=5) (h:f.try5 (r:Int) y.x y.up y.path=some t):jT f i y r=⟨r,i,y.path,0⟩::jT f i y (r+1):=by
 unfold jT
 rw [tF a b,List.filter_cons,if_pos (by rw [h];rfl)];rfl
theorem y9c {f:FnS} {i:Nat} {y:Fnd} {r:Nat} (a:1<=r) (b:r<=5) (h:f.try5 (r:Int) y.x y.up y.path=none):jT f i y r=jT f i y (r+1):=by
 unfold jT
 rw [tF a b,List.filter_cons,if_neg (by rw [h];simp)]
section
variable {Φ:Fz} {K:List Res} {w:World}
theorem z8c {v0:Value} {l:List Bool} (h:SliceOf RBoo Φ 1 v0 l) (hb:l.length * 1<=140737488355328) (N:Mem Φ K w) :
  Calls prog 72 #[v0] w (fun ee w'=>∃y:Value×List Value,ee=.returned y.1/\Chunks (RBoo Φ) 1 y.2 l/\Mem Φ (.gs y.1 4 1 y.2::K) w'):=by
 obtain ⟨j,k,rfl,i,c⟩:=h.fm
 refine zJ func72 ntmps72 fun Q hQ a J=>?_
 refine go fun a J=>?_
 obtain _ | p:=j
 refine Qq (fun a J=>?_) (o:=by exact fun J O=>jC (v:=.bool true) J rfl rfl rfl (by kernel_rfl))
 refine yK ?_
 obtain rfl:=kL c
 exact ⟨(.slice none 0 0,[]),rfl,rfl,N.nilRow 4 1⟩
 refine Qq (fun a J=>?_) (o:=by exact fun J O=>jC (v:=.bool false) J rfl rfl rfl (by kernel_rfl))
 refine go fun a J=>?_
 refine st J rfl rfl rfl (yY (sz:=1) (cs:=[]) J N rfl (pP runUnderlying83 sizeOf4) rfl (by decide) fun q w N _ a J=>?_)
 refine go fun a J=>?_
 obtain ⟨e,d,b⟩:=id h
 refine st J rfl rfl rfl (vR 0 (xs:=[]) (news:=e) j0v J N rfl rfl rfl (d.rowIn N.toSees) (b.ones RBoo.ones) (fun n m c f=>kJ b (by decide) c f hb) fun g w N a J=>?_)
 replace N:=N.nf
 refine yK ?_
 exact ⟨(g,e),rfl,b,N⟩
theorem nO {v0:Value} {l:List Bs} (h:SliceOf RStr Φ 1 v0 l) (hb:l.length * 16<=140737488355328) (N:Mem Φ K w) :
  Calls prog 71 #[v0] w (fun ee w'=>∃y:Value×List Value,ee=.returned y.1/\Chunks (RStr Φ) 1 y.2 l/\Mem Φ (.gs y.1 9 1 y.2::K) w'):=by
 obtain ⟨j,k,rfl,i,c⟩:=h.fm
 refine zJ func71 ntmps71 fun Q hQ a J=>?_
 refine go fun a J=>?_
 obtain _ | p:=j
 refine Qq (fun a J=>?_) (o:=by exact fun J O=>jC (v:=.bool true) J rfl rfl rfl (by kernel_rfl))
 refine yK ?_
 obtain rfl:=kL c
 exact ⟨(.slice none 0 0,[]),rfl,rfl,N.nilRow 9 1⟩
 refine Qq (fun a J=>?_) (o:=by exact fun J O=>jC (v:=.bool false) J rfl rfl rfl (by kernel_rfl))
 refine go fun a J=>?_
 refine st J rfl rfl rfl (yY (sz:=1) (cs:=[]) J N rfl (pP runUnderlying23 sizeOf9) rfl (by decide) fun q w N _ a J=>?_)
 refine go fun a J=>?_
 obtain ⟨e,d,b⟩:=id h
 refine st J rfl rfl rfl (vR 0 (xs:=[]) (news:=e) j0s J N rfl rfl rfl (d.rowIn N.toSees) (b.ones RStr.ones) (fun n m c f=>kJ b (by decide) c f hb) fun g w N a J=>?_)
 replace N:=N.nf
 refine yK ?_
 exact ⟨(g,e),rfl,b,N⟩
theorem q5q {v0:Value} {l:List TPar} (h:SliceOf RTPar Φ 2 v0 l) (hb:l.length * 24<=140737488355328) (N:Mem Φ K w) :
  Calls prog 73 #[v0] w (fun ee w'=>∃y:Value×List Value,ee=.returned y.1/\Chunks (RTPar Φ) 2 y.2 l/\Mem Φ (.gs y.1 125 2 y.2::K) w'):=by
 obtain ⟨j,k,rfl,i,c⟩:=h.fm
 refine zJ func73 ntmps73 fun Q hQ a J=>?_
 refine go fun a J=>?_
 obtain _ | p:=j
 refine Qq (fun a J=>?_) (o:=by exact fun J O=>jC (v:=.bool true) J rfl rfl rfl (by kernel_rfl))
 refine yK ?_
 obtain rfl:=kL c
 exact ⟨(.slice none 0 0,[]),rfl,rfl,N.nilRow 125 2⟩
 refine Qq (fun a J=>?_) (o:=by exact fun J O=>jC (v:=.bool false) J rfl rfl rfl (by kernel_rfl))
 refine go fun a J=>?_
 refine st J rfl rfl rfl (yY (sz:=2) (cs:=[]) J N rfl (pP runUnderlying43 sizeOf125) rfl (by decide) fun q w N _ a J=>?_)
 refine go fun a J=>?_
 obtain ⟨e,d,b⟩:=id h
 refine st J rfl rfl rfl (vR 0 (xs:=[]) (news:=e) j0t J N rfl rfl rfl (d.rowIn N.toSees) (b.ones RTPar.ones) (fun n m c f=>kJ b (by decide) c f hb) fun g w N a J=>?_)
 replace N:=N.nf
 refine yK ?_
 exact ⟨(g,e),rfl,b,N⟩
theorem j2y {v0:Value} {l:List Int} (h:SliceOf RInt Φ 1 v0 l) (hb:l.length * 8<=140737488355328) (N:Mem Φ K w) :
  Calls prog 76 #[v0] w (fun ee w'=>∃y:Value×List Value,ee=.returned y.1/\Chunks (RInt Φ) 1 y.2 l/\Mem Φ (.gs y.1 3 1 y.2::K) w'):=by
 obtain ⟨j,k,rfl,i,c⟩:=h.fm
 refine zJ func76 ntmps76 fun Q hQ a J=>?_
 refine go fun a J=>?_
 obtain _ | p:=j
 refine Qq (fun a J=>?_) (o:=by exact fun J O=>jC (v:=.bool true) J rfl rfl rfl (by kernel_rfl))
 refine yK ?_
 obtain rfl:=kL c
 exact ⟨(.slice none 0 0,[]),rfl,rfl,N.nilRow 3 1⟩
 refine Qq (fun a J=>?_) (o:=by exact fun J O=>jC (v:=.bool false) J rfl rfl rfl (by kernel_rfl))
 refine go fun a J=>?_
 refine st J rfl rfl rfl (yY (sz:=1) (cs:=[]) J N rfl (pP runUnderlying34 sizeOf3) rfl (by decide) fun q w N _ a J=>?_)
 refine go fun a J=>?_
 obtain ⟨e,d,b⟩:=id h
 refine st J rfl rfl rfl (vR 0 (xs:=[]) (news:=e) cP J N rfl rfl rfl (d.rowIn N.toSees) (b.ones RInt.ones) (fun n m c f=>kJ b (by decide) c f hb) fun g w N a J=>?_)
 replace N:=N.nf
 refine yK ?_
 exact ⟨(g,e),rfl,b,N⟩
theorem q5p {v0:Value} {l:List Atom} (h:SliceOf RAtom Φ 2 v0 l) (hb:l.length * 24<=140737488355328) (N:Mem Φ K w) :
  Calls prog 78 #[v0] w (fun ee w'=>∃y:Value×List Value,ee=.returned y.1/\Chunks (RAtom Φ) 2 y.2 l/\Mem Φ (.gs y.1 75 2 y.2::K) w'):=by
 obtain ⟨j,k,rfl,i,c⟩:=h.fm
 refine zJ func78 ntmps78 fun Q hQ a J=>?_
 refine go fun a J=>?_
 obtain _ | p:=j
 refine Qq (fun a J=>?_) (o:=by exact fun J O=>jC (v:=.bool true) J rfl rfl rfl (by kernel_rfl))
 refine yK ?_
 obtain rfl:=kL c
 exact ⟨(.slice none 0 0,[]),rfl,rfl,N.nilRow 75 2⟩
 refine Qq (fun a J=>?_) (o:=by exact fun J O=>jC (v:=.bool false) J rfl rfl rfl (by kernel_rfl))
 refine go fun a J=>?_
 refine st J rfl rfl rfl (yY (sz:=2) (cs:=[]) J N rfl (pP runUnderlying44 sizeOf75) rfl (by decide) fun q w N _ a J=>?_)
 refine go fun a J=>?_
 obtain ⟨e,d,b⟩:=id h
 refine st J rfl rfl rfl (vR 0 (xs:=[]) (news:=e) j0u J N rfl rfl rfl (d.rowIn N.toSees) (b.ones RAtom.ones) (fun n m c f=>kJ b (by decide) c f hb) fun g w N a J=>?_)
 replace N:=N.nf
 refine yK ?_
 exact ⟨(g,e),rfl,b,N⟩
theorem q0l {v0:Value} {l:List TA} (h:SliceOf RTA Φ 10 v0 l) (hb:l.length * 168<=140737488355328) (N:Mem Φ K w) :
  Calls prog 79 #[v0] w (fun ee w'=>∃y:Value×List Value,ee=.returned y.1/\Chunks (RTA Φ) 10 y.2 l/\Mem Φ (.gs y.1 79 10 y.2::K) w'):=by
 obtain ⟨j,k,rfl,i,c⟩:=h.fm
 refine zJ func79 ntmps79 fun Q hQ a J=>?_
 refine go fun a J=>?_
 obtain _ | p:=j
 refine Qq (fun a J=>?_) (o:=by exact fun J O=>jC (v:=.bool true) J rfl rfl rfl (by kernel_rfl))
 refine yK ?_
 obtain rfl:=kL c
 exact ⟨(.slice none 0 0,[]),rfl,rfl,N.nilRow 79 10⟩
 refine Qq (fun a J=>?_) (o:=by exact fun J O=>jC (v:=.bool false) J rfl rfl rfl (by kernel_rfl))
 refine go fun a J=>?_
 refine st J rfl rfl rfl (yY (sz:=10) (cs:=[]) J N rfl (pP runUnderlying45 sizeOf79) rfl (by decide) fun q w N _ a J=>?_)
 refine go fun a J=>?_
 obtain ⟨e,d,b⟩:=id h
 refine st J rfl rfl rfl (vR 0 (xs:=[]) (news:=e) q3j J N rfl rfl rfl (d.rowIn N.toSees) (b.ones RTA.ones) (fun n m c f=>kJ b (by decide) c f hb) fun g w N a J=>?_)
 replace N:=N.nf
 refine yK ?_
 exact ⟨(g,e),rfl,b,N⟩
theorem j7a {v0:Value} {l:List TE} (h:SliceOf RTE Φ 8 v0 l) (hb:l.length * 128<=140737488355328) (N:Mem Φ K w) :
  Calls prog 80 #[v0] w (fun ee w'=>∃y:Value×List Value,ee=.returned y.1/\Chunks (RTE Φ) 8 y.2 l/\Mem Φ (.gs y.1 48 8 y.2::K) w'):=by
 obtain ⟨j,k,rfl,i,c⟩:=h.fm
 refine zJ func80 ntmps80 fun Q hQ a J=>?_
 refine go fun a J=>?_
 obtain _ | p:=j
 refine Qq (fun a J=>?_) (o:=by exact fun J O=>jC (v:=.bool true) J rfl rfl rfl (by kernel_rfl))
 refine yK ?_
 obtain rfl:=kL c
 exact ⟨(.slice none 0 0,[]),rfl,rfl,N.nilRow 48 8⟩
 refine Qq (fun a J=>?_) (o:=by exact fun J O=>jC (v:=.bool false) J rfl rfl rfl (by kernel_rfl))
 refine go fun a J=>?_
 refine st J rfl rfl rfl (yY (sz:=8) (cs:=[]) J N rfl (pP runUnderlying46 sizeOf48) rfl (by decide) fun q w N _ a J=>?_)
 refine go fun a J=>?_
 obtain ⟨e,d,b⟩:=id h
 refine st J rfl rfl rfl (vR 0 (xs:=[]) (news:=e) rt_46 J N rfl rfl rfl (d.rowIn N.toSees) (b.ones RTE.ones) (fun n m c f=>kJ b (by decide) c f hb) fun g w N a J=>?_)
 replace N:=N.nf
 refine yK ?_
 exact ⟨(g,e),rfl,b,N⟩
theorem z3p {v0:Value} {l:List TFn} (h:SliceOf RTFn Φ 11 v0 l) (hb:l.length * 176<=140737488355328) (N:Mem Φ K w) :
  Calls prog 68 #[v0] w (fun ee w'=>∃y:Value×List Value,ee=.returned y.1/\Chunks (RTFn Φ) 11 y.2 l/\Mem Φ (.gs y.1 50 11 y.2::K) w'):=by
 obtain ⟨j,k,rfl,i,c⟩:=h.fm
 refine zJ func68 ntmps68 fun Q hQ a J=>?_
 refine go fun a J=>?_
 obtain _ | p:=j
 refine Qq (fun a J=>?_) (o:=by exact fun J O=>jC (v:=.bool true) J rfl rfl rfl (by kernel_rfl))
 refine yK ?_
 obtain rfl:=kL c
 exact ⟨(.slice none 0 0,[]),rfl,rfl,N.nilRow 50 11⟩
 refine Qq (fun a J=>?_) (o:=by exact fun J O=>jC (v:=.bool false) J rfl rfl rfl (by kernel_rfl))
 refine go fun a J=>?_
 refine st J rfl rfl rfl (yY (sz:=11) (cs:=[]) J N rfl (pP runUnderlying24 sizeOf50) rfl (by decide) fun q w N _ a J=>?_)
 refine go fun a J=>?_
 obtain ⟨e,d,b⟩:=id h
 refine st J rfl rfl rfl (vR 0 (xs:=[]) (news:=e) q3i J N rfl rfl rfl (d.rowIn N.toSees) (b.ones RTFn.ones) (fun n m c f=>kJ b (by decide) c f hb) fun g w N a J=>?_)
 replace N:=N.nf
 refine yK ?_
 exact ⟨(g,e),rfl,b,N⟩
end
theorem Row.cap {Φ:Fz} {q:Option Addr} {m c c' k:Nat} {cs:List Value} (h:Row Φ (.slice q m c) k cs) (b:q=none->c'=0):Row Φ (.slice q m c') k cs:=by
 rcases h with ⟨h,a⟩ | ⟨p,m',g,e,a,d,f⟩
 ·cases h;rw [b rfl];exact .inl ⟨rfl,a⟩
 ·cases e;exact .inr ⟨p,m,c',rfl,a,d,f⟩
theorem SliceOf.full {α:Type} {R:Fz->List Value->α->Prop} {Φ:Fz} {k c:Nat} {q:Option Addr} {l:List α} (h:SliceOf R Φ k (.slice q l.length c) l):SliceOf R Φ k (.slice q l.length l.length) l:=by
 obtain ⟨cs,a,b⟩:=h
 refine ⟨cs,a.cap fun e=>?_,b⟩
 rcases a with ⟨h,f⟩ | ⟨p,m',d,e',_⟩
 ·injection h
 ·cases e';cases e
theorem oR {n:Nat} {E:List (Nat×Value)} {D:List Deferred} {a:Act} {x hi mx:Operand} {t e ty:TypeId} {q:Option Addr} {m c i k:Nat} {w:World} {P:Program} (J:EnvR n E D a) (h:ev E x=some (.slice q m c)) (f:ev E hi=some (.int .i64 i))
  (b:ev E mx=some (.int .i64 i)) (g:Under P t (.slice e)) (O:SizeT P e k) (d:i<=c):Ok P a (.slice t x none (some hi) (some mx)) ty w (.slice q i i):=fun _ _ _ _=>by
 simp only [execOp,J.ev h,Option.map_some,Option.map_none,J.ev f,J.ev b,Instr.sliceAt]
 simp [Sem.run_bind,g w,O w,Instr.slice,Instr.sliceBounds,Instr.sliceBound,asIntOf,Result.andThen,Addr.add,d]
section
variable {P:Program} {n:Nat} {E:List (Nat×Value)} {D:List Deferred} {a:Act} {Φ Ψ:Fz} {K:List Res} {w:World}
variable {Kn:Value->World->Prop} {Qp:List PanicEntry->World->Prop} {dst:Option Tmp} {ty:TypeId} {pos:String} {aft:Array Edge} {g:Option (Nat×Bool)}
theorem cG {s x:Operand} {t e:TypeId} {size bytes m:Nat} {q:Option Addr} {vx:Value} {olds news:List Value} (o:RowT P t e size bytes) (J:EnvR n E D a) (N:Mem Φ K w)
  (O:ev E s=some (.slice q m m)) (I:Row Φ (.slice q m m) size olds) (Q:ev E x=some vx) (M:y2i w vx size news) (y:news≠[]) (R:news.all Value.oneCell'=true)
  (hb:(olds.length+news.length) * bytes<=140737488355328)
  (k:∀v' w',Mem Φ (.gs v' e size (olds++news)::K) w'->Kn v' w') :
  Oper.eff P ⟨dst,.call { callee:=.builtin .append,args:=#[s,x],argTypes:=#[t,t] },ty,pos,aft,g⟩ a w Kn Qp:=by
 rcases I with ⟨h,S⟩ | ⟨p,m',X,e',f,U,B⟩
 ·cases h;subst S
  exact wM 0 o J (N.nilRow e size) O rfl Q M R hb fun v' w' h=>k v' w' h
 ·cases e'
  obtain ⟨inf,z,hi,W,A,C,L⟩:=o.info
  have V:=o.pos
  rcases M with ⟨_,rfl⟩ | ⟨a',n',c,rfl,hl,hat'⟩
  ·exact absurd rfl y
  have hn':0 < n':=by
   cases n' with
   | zero=>rw [Nat.zero_mul] at hl;exact absurd (List.eq_nil_of_length_eq_zero hl) y
   | succ k=>exact Nat.succ_pos k
  have r:(m+n') * bytes<=140737488355328:=by
   refine Nat.le_trans (Nat.mul_le_mul_right _ ?_) hb
   rw [f,hl,<- Nat.add_mul]
   exact Nat.le_mul_of_pos_right _ V
  have l:m+n'<=Go.maxLen:=by
   have:=Nat.le_trans (Nat.le_mul_of_pos_right (m+n') o.bpos) r
   simp only [Go.maxLen];omega
  have hsmall:m+n'<=9223372036854775807:=by simp only [Go.maxLen] at l;omega
  have holds:∀j u,olds[j]? = some u->w.cell? (p.add j)=some u:=fun j u H=>N.toSees.at (B fun e=>by rw [e] at H;simp at H) j u H
  have d:=run_append_grow (P:=P) w t ty e inf z o.under hi W p m m olds (by rw [A];exact f) holds a' n' c news (by rw [A];exact hl) hat' (by omega) (by omega) (by rw [C];exact growslice_fits (by omega) r)
  have v:∀v' w',(Builtin.append_ #[t,t] ty #[.slice (some p) m m,.slice (some a') n' c]).run P w=.ok v' w'->Kn v' w' ->
    Oper.eff P ⟨dst,.call { callee:=.builtin .append,args:=#[s,x],argTypes:=#[t,t] },ty,pos,aft,g⟩ a w Kn Qp:=by
   intro v' w' d T
   unfold Oper.eff
   have:(execOp a.eval ⟨dst,.call { callee:=.builtin .append,args:=#[s,x],argTypes:=#[t,t] },ty,pos,aft,g⟩).run P w=.ok (.value v') w':=by
    simp only [execOp,resolve,invoke,builtin,Sem.run_bind,Sem.run_pure,Result.andThen_ok,List.map_toArray,List.map_cons,List.map_nil,J.ev O,J.ev Q,d]
   rw [this]
   exact T
  have G:=grownCap_ge w (m+n') m e
  have F:grownCap w (m+n') m e<=maxLen:=grownCap_le_maxLen w (m+n') m e l
  have i:(olds++news).length=(m+n') * size:=by rw [laQ,f,hl,Nat.add_mul]
  refine v _ _ d (k _ _ (N.drew.more rfl rfl (fun b hb=>wB hb) ⟨m+n',⟨i,.inr ⟨w.heap.size,_,_,rfl,Nat.zero_le _,heap_alloc_new w.drew _,G,F,?_,?_⟩⟩⟩ (by simp [Res.foot,Value.ownBlock,World.drew])))
  ·simp only [Array.size_append,List.size_toArray,size_zeroCells,L,f,hl,<- Nat.add_mul]
   congr 1
   omega
  ·simp only [Array.toList_append,List.append_assoc]
   rw [<- List.append_assoc,<- i]
   exact List.take_left
end
def RFnd (Φ:Fz) (c:List Value) (x:Fnd):Prop:=∃s t p d,c=[s,t,.pointer (some p)]/\z0c s/\z0c t/\SliceOf RInt Φ 1 s x.path/\SliceOf RPtE Φ 1 t x.up/\At Φ p d/\RTE Φ d x.x
theorem RFnd.mono (Φ Ψ:Fz) (c:List Value) (x:Fnd) (hl:Φ.Le Ψ) (h:RFnd Φ c x):RFnd Ψ c x :=
 let ⟨s,t,p,d,a,b,e,f,g,i,j⟩:=h;⟨s,t,p,d,a,b,e,f.mono RInt.mono hl,g.mono RPtE.mono hl,i.mono hl,RTE.mono _ _ _ _ hl j⟩
theorem yQ {α:Type} {R:List Value->α->Prop} {k:Nat} {c:List Value} {x:α} (a:c.length=k) (h:R c x):Chunks R k c [x]:=⟨c,[],by simp,a,h,rfl⟩
section
variable {α σ:Type} {step:σ->Fnd->σ×Bool} {s0 si:σ} {p:List Int} {up:List TE} {e:TE} {i:Nat}
theorem y9w (h:(step s0 ⟨p,up,e⟩).2=true):zK step s0 (zE p up e)=zK step (step s0 ⟨p,up,e⟩).1 (belowTa p (up++[e]) ((0:Nat):Int) (e.arms.drop 0)++belowTs p (up++[e]) 0 e.body):=by
 rw [jK,z2u h];rfl
theorem q5c (h:(step s0 ⟨p,up,e⟩).2=false):zK step s0 (zE p up e)=((step s0 ⟨p,up,e⟩).1,false):=by
 rw [jK,tZ h]
theorem z7s {l:List TA} {u:List TE} {x:TA} (h:l[i]? = some x):belowTa p u ((i:Nat):Int) (l.drop i)=zE (p++[((i:Nat):Int)]) u x.body++belowTa p u (((i+1:Nat)):Int) (l.drop (i+1)):=by
 rw [yI h]
 cases x with
 | mk c vs b=>rw [belowTa];rfl
theorem z7t {l u:List TE} {x:TE} (h:l[i]? = some x):belowTs p u ((i:Nat):Int) (l.drop i)=zE (p++[((i:Nat):Int)]) u x++belowTs p u (((i+1:Nat)):Int) (l.drop (i+1)):=by
 rw [yI h,belowTs];rfl
variable {r:σ×Bool} {A B C:List Fnd}
theorem x1t (a:r=zK step si ((A++B)++C)) (h:(zK step si A).2=true):r=zK step (zK step si A).1 (B++C):=by
 rw [a,List.append_assoc,nX,h];rfl
theorem x1s (a:r=zK step si ((A++B)++C)) (h:(zK step si A).2=false):r=((zK step si A).1,false):=by
 rw [a,List.append_assoc,nX,h];rfl
theorem j6b {l:List TA} {u:List TE} {x:TA} (a:r=zK step si (belowTa p u ((i:Nat):Int) (l.drop i)++C)) (b:l[i]? = some x) (O:(zK step si (zE (p++[((i:Nat):Int)]) u x.body)).2=true) :
  r=zK step (zK step si (zE (p++[((i:Nat):Int)]) u x.body)).1 (belowTa p u (((i+1:Nat)):Int) (l.drop (i+1))++C):=x1t (by rw [z7s b] at a;exact a) O
theorem j6a {l:List TA} {u:List TE} {x:TA} (a:r=zK step si (belowTa p u ((i:Nat):Int) (l.drop i)++C)) (b:l[i]? = some x) (O:(zK step si (zE (p++[((i:Nat):Int)]) u x.body)).2=false) :
  r=((zK step si (zE (p++[((i:Nat):Int)]) u x.body)).1,false):=x1s (by rw [z7s b] at a;exact a) O
theorem j2l {l u:List TE} {x:TE} (a:r=zK step si (belowTs p u ((i:Nat):Int) (l.drop i))) (b:l[i]? = some x) (O:(zK step si (zE (p++[((i:Nat):Int)]) u x)).2=true) :
  r=zK step (zK step si (zE (p++[((i:Nat):Int)]) u x)).1 (belowTs p u (((i+1:Nat)):Int) (l.drop (i+1))):=by
 rw [z7t b,nX,O] at a;exact a
theorem j2k {l u:List TE} {x:TE} (a:r=zK step si (belowTs p u ((i:Nat):Int) (l.drop i))) (b:l[i]? = some x) (O:(zK step si (zE (p++[((i:Nat):Int)]) u x)).2=false) :
  r=((zK step si (zE (p++[((i:Nat):Int)]) u x)).1,false):=by
 rw [z7t b,nX,O] at a;exact a
end
def FitE (p:List Int) (up:List TE) (e:TE):Prop:=p.length=up.length/\up.length+zC e<=20000
theorem FitE.arm {p:List Int} {up:List TE} {e:TE} {a:TA} {i:Int} (h:FitE p up e) (b:a∈e.arms):FitE (p++[i]) (up++[e]) a.body:=by
 have:=wG b;exact ⟨by simp [h.1],by have:=h.2;simp;omega⟩
theorem FitE.rest {p:List Int} {up:List TE} {e x:TE} {i:Int} (h:FitE p up e) (a:x∈e.body):FitE (p++[i]) (up++[e]) x:=by
 have:=kD a;exact ⟨by simp [h.1],by have:=h.2;simp;omega⟩
theorem Mem.freezeRowC {Φ:Fz} {K:List Res} {w:World} {v:Value} {T:TypeId} {k i:Nat} {cs:List Value} (N:Mem Φ K w) (b:yV K i=some (.gs v T k cs)):∃Ψ,Φ.Le Ψ/\Mem Ψ (cX K i) w/\Row Ψ v k cs/\z0c v:=by
 obtain ⟨Ψ,c,d,e⟩:=N.freezeRow b
 refine ⟨Ψ,c,d,e,?_⟩
 obtain ⟨n,a⟩:=N.own _ (yS b)
 rcases a.2 with ⟨rfl,_⟩ | ⟨g,cap,cur,rfl,_,_,f,_⟩
 ·exact Nat.le_refl 0
 ·exact f
theorem Steps.frame {α σ β:Type} {P:Program} {y:Value} {Φ:Fz} {RA:Fz->List Value->α->Prop} {items:List α} {step:σ->α->σ×Bool} {G:Fz->σ->Bool->β->Prop} {KV:σ->Bool->β->List Res} (F:List Res)
  (h:Steps P y Φ RA items step G KV):Steps P y Φ RA items step G (fun s b z=>F++KV s b z) :=
 ⟨h.fn,h.mono,fun Ψ s z c x K0 w d f g i N=>by
  rw [<- List.append_assoc] at N
  refine (h.go Ψ s z c x (K0++F) w d f g i N).mono fun e w' h=>?_
  obtain ⟨j,Ψ',z',k,l,a⟩:=h
  rw [List.append_assoc] at a
  exact ⟨j,Ψ',z',k,l,a⟩⟩
section
variable {p:List Int} {up:List TE} {e:TE} {i:Nat} {y:Fnd}
theorem q5a:(⟨p,up,e⟩:Fnd)∈zE p up e:=by rw [jK];exact msQ
theorem j2e {a:TA} (b:e.arms[i]? = some a) (h:y∈zE (p++[((i:Nat):Int)]) (up++[e]) a.body):y∈zE p up e:=by
 rw [jK]
 exact mcQ _ (List.mem_append_left _ (mem_belowTa.2 ⟨i,a,b,by rw [Int.zero_add];exact h⟩))
theorem q4z {x:TE} (a:e.body[i]? = some x) (h:y∈zE (p++[((i:Nat):Int)]) (up++[e]) x):y∈zE p up e:=by
 rw [jK]
 exact mcQ _ (List.mem_append_right _ (mem_belowTs.2 ⟨i,x,a,by rw [Int.zero_add];exact h⟩))
end
end Go.Sw
