import Derived.Lib.AppendStr
import Derived.Lib.UnsafeStr
import Derived.Lib.MakeNoZero
import Derived.OrdersIn
import Derived.Test.YtgkhcfjooiekkaaGreatDoorX08
set_option linter.unusedVariables false
set_option linter.unusedSimpArgs false
namespace Go.Sw
open Go.Proofs Go.Proofs.Tryz
set_option maxRecDepth 20000
set_option maxHeartbeats 4000000
theorem q6j {V:Fz} {K:List Res} {w:World} {d:List Value} {e:Ex} {b:Nat} {ds:List Bs} (re:REx V d e) (M:∀x:Ex,x.sz < e.sz->∀{V:Fz} {K:List Res} {w:World} {d:List Value} {b:Nat} {ds:List Bs},REx V d x->Mem V (.mp b (jG ds)::K) w->Calls prog 93 #[.agg d.toArray,.map (some b)] w (fun ee w'=>ee=.returned (.tuple #[])/\Mem V (.mp b (jG (ds++qU x))::K) w')) (N:Mem V (.mp b (jG ds)::K) w) :
  Calls prog 93 #[.agg d.toArray,.map (some b)] w (fun ee w'=>ee=.returned (.tuple #[])/\Mem V (.mp b (jG (ds++qU e))::K) w'):=by
 obtain ⟨p3,c4,p9,m1,rfl,H0,h2,h8,u1,H,M0,q⟩:=REx.fm re
 refine zI func93 ntmps93 fun Q hQ a J=>?_
 refine Bx fun i1 w N a J=>?_
 by_cases p1:e.kind=5
 refine z5h 1 runUnderlying121 runUnderlying9 fun w N a J=>?_
 rw [<- uU] at N
 refine go fun a J=>?_
 refine zR (J.ks [1,2,15,16]) N (fun R mm a w=>∃(i:Nat) (d1:List Bs),mm=e.args.length - i/\R V [(17,.int .i64 i)] [(1,.mp b (jG d1))] a w/\(ds++qU e=d1++(calledPs (e.args.drop i)++calledPa e.arms))) (e.args.length - 0) ⟨0,(ds++[e.name]),rfl,⟨J.pk,N⟩,by rw [y2k];simp [*]⟩ ?_
 clear N J
 rintro mm a w ⟨i,d1,f,⟨J,N⟩,n⟩ f1 E
 replace N:=N.nf
 by_cases A:i < e.args.length
 refine go fun a J=>?_
 obtain ⟨A1,rfl,m0,s,y0,K0,F0,r⟩:=h2.el H A
 obtain ⟨v1,c38,w1,n1,rfl,I0,q1,r1,N0,S0,O0,T0⟩:=REx.fm r
 refine Alc fun j1 w N a J=>?_
 refine Sto 0 fun w N a J=>?_
 replace N:=N.pl 2
 refine zO call93 (fun w N a J=>?_) (c:=M _ (Ex.lt_args (mgQ s)) r N)
 refine go fun a J=>?_
 replace N:=N.ar [1] [1]
 refine E _ _ _ (by subst f;omega) ⟨(i+1),((d1++qU m0)),rfl,⟨J.pk,N⟩,?_⟩
 rw [n,zA s];simp [calledPs]
 refine go fun a J=>?_
 refine zR (J.ks [1,26,27]) N (fun R mm a w=>∃(k:Nat) (d2:List Bs),mm=e.arms.length - k/\R V [(28,.int .i64 k)] [(1,.mp b (jG d2))] a w/\(ds++qU e=d2++calledPa (e.arms.drop k))) (e.arms.length - 0) ⟨0,d1,rfl,⟨J.pk,N⟩,by rw [n,zE A];simp [calledPs]⟩ ?_
 clear N J
 rintro mm a w ⟨k,d2,f,⟨J,N⟩,o⟩ g1 F
 replace N:=N.nf
 by_cases B:k < e.arms.length
 refine go fun a J=>?_
 obtain ⟨B1,rfl,n0,t,z0,L0,G0,I⟩:=h8.el q B
 obtain ⟨D1,k1,rfl,T,C⟩:=RArm.iff.1 I
 obtain ⟨x1,c68,rfl,P0,U0⟩:=T.fm
 obtain ⟨y1,c76,z1,o1,rfl,J0,s1,t1,Q0,V0,R0,W0⟩:=REx.fm C
 refine Alc fun l1 w N a J=>?_
 refine Sto 0 fun w N a J=>?_
 replace N:=N.pl 2
 refine zO call93 (fun w N a J=>?_) (c:=M _ (Ex.lt_arms (mgQ t)) C N)
 refine go fun a J=>?_
 replace N:=N.ar [1] [1]
 refine F _ _ _ (by subst f;omega) ⟨(k+1),((d2++qU n0.body)),rfl,⟨J.pk,N⟩,?_⟩
 rw [o,zA t,z3m];simp
 refine go fun a J=>?_
 replace N:=N.dl [0]
 refine hQ _ _ _ (aM J results93 ?_)
 rw [show ds++qU e=d2 by rw [o,zE B];simp [calledPa]]
 exact ⟨rfl,N⟩
 refine go fun a J=>?_
 refine zR (J.ks [1,2,15,16]) N (fun R mm a w=>∃(i:Nat) (d1:List Bs),mm=e.args.length - i/\R V [(17,.int .i64 i)] [(1,.mp b (jG d1))] a w/\(ds++qU e=d1++(calledPs (e.args.drop i)++calledPa e.arms))) (e.args.length - 0) ⟨0,ds,rfl,⟨J.pk,N⟩,by rw [y2k];simp [*]⟩ ?_
 clear N J
 rintro mm a w ⟨i,d1,f,⟨J,N⟩,p⟩ h1 G
 replace N:=N.nf
 by_cases D:i < e.args.length
 refine go fun a J=>?_
 obtain ⟨C1,rfl,o0,u,P,Z,U,h⟩:=h2.el H D
 obtain ⟨X0,t0,Y0,u0,rfl,X,A0,B0,b0,h0,c0,i0⟩:=REx.fm h
 refine Alc fun q0 w N a J=>?_
 refine Sto 0 fun w N a J=>?_
 replace N:=N.pl 2
 refine zO call93 (fun w N a J=>?_) (c:=M _ (Ex.lt_args (mgQ u)) h N)
 refine go fun a J=>?_
 replace N:=N.ar [1] [1]
 refine G _ _ _ (by subst f;omega) ⟨(i+1),((d1++qU o0)),rfl,⟨J.pk,N⟩,?_⟩
 rw [p,zA u];simp [calledPs]
 refine go fun a J=>?_
 refine zR (J.ks [1,26,27]) N (fun R mm a w=>∃(k:Nat) (d2:List Bs),mm=e.arms.length - k/\R V [(28,.int .i64 k)] [(1,.mp b (jG d2))] a w/\(ds++qU e=d2++calledPa (e.arms.drop k))) (e.arms.length - 0) ⟨0,d1,rfl,⟨J.pk,N⟩,by rw [p,zE D];simp [calledPs]⟩ ?_
 clear N J
 rintro mm a w ⟨k,d2,f,⟨J,N⟩,g⟩ p0 v
 replace N:=N.nf
 by_cases l:k < e.arms.length
 refine go fun a J=>?_
 obtain ⟨c1,rfl,L,j,S,a0,W,y⟩:=h8.el q l
 obtain ⟨e1,r0,rfl,z,m⟩:=RArm.iff.1 y
 obtain ⟨Z0,w0,rfl,d0,j0⟩:=z.fm
 obtain ⟨a1,c145,b1,x0,rfl,Y,C0,D0,f0,k0,g0,l0⟩:=REx.fm m
 refine Alc fun s0 w N a J=>?_
 refine Sto 0 fun w N a J=>?_
 replace N:=N.pl 2
 refine zO call93 (fun w N a J=>?_) (c:=M _ (Ex.lt_arms (mgQ j)) m N)
 refine go fun a J=>?_
 replace N:=N.ar [1] [1]
 refine v _ _ _ (by subst f;omega) ⟨(k+1),((d2++qU L.body)),rfl,⟨J.pk,N⟩,?_⟩
 rw [g,zA j,z3m];simp
 refine go fun a J=>?_
 replace N:=N.dl [0]
 refine hQ _ _ _ (aM J results93 ?_)
 rw [show ds++qU e=d2 by rw [g,zE l];simp [calledPa]]
 exact ⟨rfl,N⟩
theorem q0b {V:Fz} {K:List Res} {w:World} {d:List Value} {e:Ex} {b:Nat} {ds:List Bs} (re:REx V d e) (N:Mem V (.mp b (jG ds)::K) w) :
  Calls prog 93 #[.agg d.toArray,.map (some b)] w (fun ee w'=>ee=.returned (.tuple #[])/\Mem V (.mp b (jG (ds++qU e))::K) w'):=by
 suffices H:∀n (e:Ex),e.sz < n->∀{V:Fz} {K:List Res} {w:World} {d:List Value} {b:Nat} {ds:List Bs},REx V d e->Mem V (.mp b (jG ds)::K) w ->
   Calls prog 93 #[.agg d.toArray,.map (some b)] w (fun ee w'=>ee=.returned (.tuple #[])/\Mem V (.mp b (jG (ds++qU e))::K) w') from H _ e (Nat.lt_succ_self _) re N
 intro n
 induction n with
 | zero=>intro e h;omega
 | succ n a=>intro e h V K w d b ds re N;exact q6j re (fun x c _ _ _ _ _ _ r m=>a x (by omega) r m) N
theorem q9e {V:Fz} {K:List Res} {w:World} {p:Addr} {T:Table} {b off cap:Nat} {arr:Array Value} {start U:List Bs} (rT:RTableW V p T) (hq:QAt off cap arr start) (hl:start.length<=1000) (hU:∀x∈start,x∈U) (E1:U.length<=2000000) (hM:∀x,(jY T x).length<=6000) (hC:∀x,∀y∈jY T x,y∈U) (N:Mem V (qblk b arr::K) w) :
  Calls prog 62 #[.pointer (some p),qval b off cap start] w (fun ee w'=>∃y:Nat×List Bs,ee=.returned (.map (some y.1))/\Reached T start y.2/\Mem V (.mp y.1 (jG y.2)::K) w'):=by
 obtain ⟨z1,z2,z3,z4,m5,m6,m7,m8,d9,Z0,s0,n0,o0⟩:=rT.ex
 obtain ⟨F1,y1,rfl,a1,l1⟩:=s0.fm
 refine zI func62 ntmps62 fun Q hQ a J=>?_
 refine MkM fun A0 w N a J=>?_
 replace N:=N.nf
 refine go fun a J=>?_
 refine zR (J.ks [0,5]) N (fun R mm a w=>∃(qb:Nat) (qo:Nat) (qc:Nat) (qa:Array Value) (l:List Bs) (ds:List Bs),mm=muR U ds l/\R V [(1,qval qb qo qc l)] [(0,.mp A0 (jG ds)),(1,qblk qb qa)] a w/\(QAt qo qc qa l/\RInv T U start ds l)) (muR U [] start) ⟨b,off,cap,arr,start,[],rfl,⟨J.pk,N⟩,⟨hq,RInv.start hU hl⟩⟩ ?_
 clear N J
 rintro mm a w ⟨qb,qo,qc,qa,l,ds,D,⟨J,N⟩,F0⟩ u1 W
 replace N:=N.nf
 obtain ⟨w0,k⟩:=F0
 by_cases r0:0 < l.length
 obtain ⟨g,m⟩:=jC r0
 refine Qq (fun a J=>?_) (o:=by exact fun J O=>x8n 1 J O w0 rfl rfl m isAgg9)
 have a0:=w0.tail r0
 refine Qq (fun a J=>?_) (o:=by exact fun J O=>z9h J w0 rfl rfl runUnderlying25 sizeOf9 r0)
 refine go fun a J=>?_
 rcases I:yV ((jG ds)) g with _ | r1
 have B:=congrArg (zK false (.bool false)) I
 refine Qq (fun a J=>?_) (o:=by exact fun J O=>Ok.cast (qG 0 runUnderlying121 runUnderlying9 zeroValue4 J O rfl rfl rfl) (show zK false (.bool false) (yV ((jG ds)) g)=.bool false from B))
 have P:=z6v I
 refine z5h 0 runUnderlying121 runUnderlying9 fun w N a J=>?_
 rw [<- uU] at N
 refine MkM fun B0 w N a J=>?_
 refine go fun a J=>?_
 replace N:=N.nf
 refine go fun a J=>?_
 rcases L:yV (d9) g with _ | s1
 have C:=congrArg (zK false (.agg #[.string ⟨#[]⟩,.slice none 0 0,.string ⟨#[]⟩,.int .i64 ((0:Nat):Int),.int .i64 ((0:Nat):Int),.string ⟨#[]⟩,.slice none 0 0,.slice none 0 0])) L
 refine Qq (fun a J=>?_) (o:=by exact fun J O=>Ok.cast (yC runUnderlying103 runUnderlying9 zeroValue68 J O rfl rfl n0) (show zK false (.agg #[.string ⟨#[]⟩,.slice none 0 0,.string ⟨#[]⟩,.int .i64 ((0:Nat):Int),.int .i64 ((0:Nat):Int),.string ⟨#[]⟩,.slice none 0 0,.slice none 0 0]) (yV (d9) g)=.agg #[.string ⟨#[]⟩,.slice none 0 0,.string ⟨#[]⟩,.int .i64 ((0:Nat):Int),.int .i64 ((0:Nat):Int),.string ⟨#[]⟩,.slice none 0 0,.slice none 0 0] from C))
 refine Qq (fun a J=>?_) (o:=by exact fun J O=>z7h 3 (vs:=[.int .i64 ((0:Nat):Int),.int .i64 ((0:Nat):Int),.string ⟨#[]⟩,.slice none 0 0,.slice none 0 0]) runUnderlying68 rfl isAgg66 sizeOf66 J rfl rfl rfl)
 refine zO call93 (fun w N a J=>?_) (c:=q0b (ds:=[]) rex0 N)
 refine go fun a J=>?_
 have z:jY T g=([]++qU ex0):=by unfold jY;rw [z4e (MapRel.none o0 L)];rfl
 rw [<- z] at N
 clear z
 refine go fun a J=>?_
 refine st J rfl rfl rfl (z8d 0 runUnderlying121 J N rfl rfl fun d1 G j0 w d N a J=>?_)
 refine go fun a J=>?_
 refine zR (J.ks [0,5,34]) N (fun R mm a w=>∃(seen:Array Nat) (r:Nat) (u:Nat) (t:Nat) (q:Array Value) (F:List Bs),mm=(vG G seen).length/\R V [(1,qval r u t F)] [(0,.blk d1 (.mapIter (some B0) j0 seen j0)),(3,qblk r q)] a w/\(QAt u t q F/\RIn T g (l.drop 1) G seen F)) ((vG G #[]).length) ⟨#[],qb,(y6j qo qc),(qc - 1),qa,(l.drop 1),rfl,⟨J.pk,N⟩,⟨a0,RIn.start⟩⟩ ?_
 clear N J
 rintro mm a w ⟨seen,r,u,t,q,F,D,⟨J,N⟩,G0⟩ v1 I0
 replace N:=N.nf
 obtain ⟨A,f⟩:=G0
 refine go fun a J=>?_
 refine st J rfl rfl rfl (y4c 0 1 J N rfl rfl rfl d (fun m0 w N a J=>?_) (fun S w M N a J=>?_))
 refine go fun a J=>?_
 replace N:=N.dl [1,0]
 refine W (muR U ((ds++[g])) F) _ _ (by subst D;have h_:=(k.mark m (y1o P) hM hC d f m0).2;omega) ⟨(r),(u),(t),(q),(F),((ds++[g])),rfl,⟨J.pk,N⟩,?_⟩
 exact ⟨A,(k.mark m (y1o P) hM hC d f m0).1⟩
 obtain ⟨c0,t1,l0,p1,h0⟩:=z8g d (leftE_mem.1 M).1
 have t0:Value.tuple #[S.key,S.val]=Value.tuple #[.string c0,S.val]:=by rw [l0]
 refine Qq (fun a J=>?_) (o:=by exact fun J O=>Ok.cast (q5p (i:=0) (j:=1) J O rfl rfl rfl d M) t0)
 refine yK fun H1 w N a J=>?_
 refine st J rfl rfl rfl (z5r 4 (s:=c0) vA J N A rfl rfl rfl (N.toSees.rowIn (i:=0) rfl) (by have T0:=f.len;have U0:=k.len;have V0:=z6i k.nodup k.dU;have W0:=j6b d (hM _);have X0:(l.drop 1).length<=l.length:=(by rw [List.length_drop];omega);omega) fun Q0 x0 q0 p0 w K0 N a J=>?_)
 replace N:=N.nf
 refine go fun a J=>?_
 replace N:=N.dl [0]
 refine I0 ((vG G ((seen.push S.born))).length) _ _ (by subst D;exact z1j M) ⟨((seen.push S.born)),(Q0),(x0),(q0),(p0),((F++[c0])),rfl,⟨J.pk,N⟩,?_⟩
 exact ⟨K0,f.next d M l0 h0⟩
 obtain ⟨h,M0,g1,rfl,L0⟩:=o0.get L
 obtain ⟨G1,x1,rfl,Y0,E0⟩:=id L0
 obtain ⟨c1,R0,rfl,i1,m1⟩:=Y0.fm
 obtain ⟨N0,C0,O0,D0,rfl,h1,B1,C1,j1,n1,k1,o1⟩:=REx.fm E0
 have C:=congrArg (zK false (.agg #[.string ⟨#[]⟩,.slice none 0 0,.string ⟨#[]⟩,.int .i64 ((0:Nat):Int),.int .i64 ((0:Nat):Int),.string ⟨#[]⟩,.slice none 0 0,.slice none 0 0])) L
 refine Qq (fun a J=>?_) (o:=by exact fun J O=>Ok.cast (yC runUnderlying103 runUnderlying9 zeroValue68 J O rfl rfl n0) (show zK false (.agg #[.string ⟨#[]⟩,.slice none 0 0,.string ⟨#[]⟩,.int .i64 ((0:Nat):Int),.int .i64 ((0:Nat):Int),.string ⟨#[]⟩,.slice none 0 0,.slice none 0 0]) (yV (d9) g)=.agg #[.string h.name,.slice c1 h.params.length R0,.string h.result,.int .i64 (h.body.kind),.int .i64 (h.body.num),.string h.body.name,.slice N0 h.body.args.length C0,.slice O0 h.body.arms.length D0] from C))
 refine Qq (fun a J=>?_) (o:=by exact fun J O=>z7h 3 (vs:=[.int .i64 (h.body.kind),.int .i64 (h.body.num),.string h.body.name,.slice N0 h.body.args.length C0,.slice O0 h.body.arms.length D0]) runUnderlying68 rfl isAgg66 sizeOf66 J rfl rfl rfl)
 refine zO call93 (fun w N a J=>?_) (c:=q0b (ds:=[]) E0 N)
 refine go fun a J=>?_
 have z:jY T g=([]++qU h.body):=by unfold jY;rw [z4f M0];rfl
 rw [<- z] at N
 clear z
 refine go fun a J=>?_
 refine st J rfl rfl rfl (z8d 0 runUnderlying121 J N rfl rfl fun e1 H k0 w e N a J=>?_)
 refine go fun a J=>?_
 refine zR (J.ks [0,5,34]) N (fun R mm a w=>∃(seen:Array Nat) (r:Nat) (u:Nat) (t:Nat) (q:Array Value) (F:List Bs),mm=(vG H seen).length/\R V [(1,qval r u t F)] [(0,.blk e1 (.mapIter (some B0) k0 seen k0)),(3,qblk r q)] a w/\(QAt u t q F/\RIn T g (l.drop 1) H seen F)) ((vG H #[]).length) ⟨#[],qb,(y6j qo qc),(qc - 1),qa,(l.drop 1),rfl,⟨J.pk,N⟩,⟨a0,RIn.start⟩⟩ ?_
 clear N J
 rintro mm a w ⟨seen,r,u,t,q,F,D,⟨J,N⟩,H0⟩ w1 J0
 replace N:=N.nf
 obtain ⟨A,f⟩:=H0
 refine go fun a J=>?_
 refine st J rfl rfl rfl (y4c 0 1 J N rfl rfl rfl e (fun Y w N a J=>?_) (fun v w n N a J=>?_))
 refine go fun a J=>?_
 replace N:=N.dl [1,0]
 refine W (muR U ((ds++[g])) F) _ _ (by subst D;have h_:=(k.mark m (y1o P) hM hC e f Y).2;omega) ⟨(r),(u),(t),(q),(F),((ds++[g])),rfl,⟨J.pk,N⟩,?_⟩
 exact ⟨A,(k.mark m (y1o P) hM hC e f Y).1⟩
 obtain ⟨E,f1,X,b1,Z⟩:=z8g e (leftE_mem.1 n).1
 have g0:Value.tuple #[v.key,v.val]=Value.tuple #[.string E,v.val]:=by rw [X]
 refine Qq (fun a J=>?_) (o:=by exact fun J O=>Ok.cast (q5p (i:=0) (j:=1) J O rfl rfl rfl e n) g0)
 refine yK fun q1 w N a J=>?_
 refine st J rfl rfl rfl (z5r 4 (s:=E) vA J N A rfl rfl rfl (N.toSees.rowIn (i:=0) rfl) (by have T0:=f.len;have U0:=k.len;have V0:=z6i k.nodup k.dU;have W0:=j6b e (hM _);have X0:(l.drop 1).length<=l.length:=(by rw [List.length_drop];omega);omega) fun z0 i0 f0 d0 w u0 N a J=>?_)
 replace N:=N.nf
 refine go fun a J=>?_
 replace N:=N.dl [0]
 refine J0 ((vG H ((seen.push v.born))).length) _ _ (by subst D;exact z1j n) ⟨((seen.push v.born)),(z0),(i0),(f0),(d0),((F++[E])),rfl,⟨J.pk,N⟩,?_⟩
 exact ⟨u0,f.next e n X Z⟩
 obtain ⟨rfl,b0⟩:=z6w I
 have B:=congrArg (zK false (.bool false)) I
 refine Qq (fun a J=>?_) (o:=by exact fun J O=>Ok.cast (qG 0 runUnderlying121 runUnderlying9 zeroValue4 J O rfl rfl rfl) (show zK false (.bool false) (yV ((jG ds)) g)=.bool true from B))
 refine go fun a J=>?_
 refine W (muR U ds ((l.drop 1))) _ _ (by subst D;have h_:=(k.skip m (has_mem.1 b0)).2;omega) ⟨(qb),((y6j qo qc)),((qc - 1)),(qa),((l.drop 1)),(ds),rfl,⟨J.pk,N⟩,?_⟩
 exact ⟨a0,(k.skip m (has_mem.1 b0)).1⟩
 refine zF ?_
 replace N:=N.dl [1]
 have e_:l=[]:=List.eq_nil_of_length_eq_zero (by omega)
 subst e_
 exact ⟨(A0,ds),rfl,k.fin,N⟩
section
variable {V:Fz} {K:List Res} {w:World}
theorem x2p {pt:Addr} {T:Table} {d0:List Value} {v:Val} {d1:List Value} {p:Param} {b:Nat} (d:RVal V d0 v) (f:RParam V d1 p) (rT:RTable V pt T) (N:Mem V (.blk b (ob [.pointer (some pt)] 89)::K) w) :
  Calls prog 60 #[.agg d0.toArray,.agg d1.toArray,.pointer (some ⟨b,0,none⟩)] w (fun ee w'=>ee=.returned (.bool ((!mD v&&z3g T v p.type)))/\Mem V (.blk b (ob [.pointer (some pt)] 89)::K) w'):=by
 obtain ⟨l,c4,rfl,h,h2,i,j⟩:=RVal.fm d
 obtain rfl:=id f
 refine zI func60 ntmps60 fun Q hQ a J=>?_
 refine Bx fun k w N a J=>?_
 refine Bx fun g w N a J=>?_
 refine zX call50 (fun e w N a J=>?_) (fun e w N a J=>?_) (c:=z6e d N)
 refine zF ?_
 replace N:=N.dl [1,0]
 exact zJ N (by simp [*])
 refine zO call61 (fun w N a J=>?_) (c:=has_ok rT d N)
 refine zF ?_
 replace N:=N.dl [1,0]
 exact zJ N (by simp [*])
theorem x2q {p:Addr} {T:Table} {df:List Value} {f:Fun} {va:Value} {args:List Val} {fu z B C D E A:Nat} (U:RTable V p T) (rf:RFun V df f) (rs:SliceOf RVal V 3 va args) (hF:z0s T) (L:f.params.length<=1000) (M:pT f.body) (z0:fu<=1000000) (t:∀g,vN (jR ⟨T.funs,[]⟩) f args g≠.stuck) (N:Mem V (.blk z (ob [.int .i64 ((1:Nat):Int)] 3)::.blk B (ob [.int .i64 fu] 3)::.blk C (ob [.pointer (some p)] 89)::.blk D (ob df 68)::.blk E (ob [va] 38)::.blk A (ob [.string ⟨#[]⟩,.int .i64 ((0:Nat):Int),.slice none 0 0] 42)::K) w) :
  Calls prog 64 #[.pointer (some ⟨z,0,none⟩),.pointer (some ⟨B,0,none⟩),.pointer (some ⟨C,0,none⟩),.pointer (some ⟨D,0,none⟩),.pointer (some ⟨E,0,none⟩),.pointer (some ⟨A,0,none⟩)] w (fun e w'=>Out (wJ (vN (jR ⟨T.funs,[]⟩) f args) fu)
   (fun x=>∃y:Fz×List Value,e=.returned (.int .i64 ((0:Nat):Int))/\(V.Le y.1/\RVal y.1 y.2 x.1)/\Mem y.1 (.blk z (ob [.int .i64 ((fu - x.2:Nat):Int)] 3)::.blk A (ob y.2 42)::K) w')
   (fun c=>(e=.returned (.int .i64 ((c:Nat):Int))∨c=4/\e=.panicked (sT ()))/\Mem V K w')):=by
 obtain ⟨s1,b7,rfl,h2,q⟩:=id rf
 obtain ⟨p3,c4,rfl,A0,B0⟩:=h2.fm
 obtain ⟨P,F,R,G,rfl,Y,t0,u0,c0,i0,d0,j0⟩:=REx.fm q
 obtain ⟨S,H,rfl,h0,m0⟩:=rs.fm
 refine zI func64 ntmps64 fun Q hQ a J=>?_
 by_cases n:fu < 1
 refine zF ?_
 replace N:=N.dl [5,4,3,2,1,0]
 exact outEE (q3l n) ⟨.inl rfl,N⟩
 refine go fun a J=>?_
 replace N:Mem V (.blk z (ob [.int .i64 ((fu - (fu - 1):Nat):Int)] 3)::.blk B (ob [.int .i64 fu] 3)::.blk C (ob [.pointer (some p)] 89)::.blk D (ob [.string f.name,.slice p3 f.params.length c4,.string f.result,.int .i64 (f.body.kind),.int .i64 (f.body.num),.string f.body.name,.slice P f.body.args.length F,.slice R f.body.arms.length G] 68)::.blk E (ob [.slice S args.length H] 38)::.blk A (ob [.string ⟨#[]⟩,.int .i64 ((0:Nat):Int),.slice none 0 0] 42)::K) w:=by rw [show fu - (fu - 1)=1 by omega];exact N
 refine zU fun a J=>?_
 refine xV call48 (fun u W w l r N a J=>?_) (fun u w l N=>?_) (c:=z0w hF (fu - 1) U (.inr ⟨rfl,rfl⟩) rf rs L M (by omega) (by omega) (t _) N)
 obtain ⟨F0,s0⟩:=u
 obtain ⟨n0,q0⟩:=W
 obtain ⟨d,b⟩:=r
 have i:=wV l
 simp only at d b N J i
 have I:=sB i
 replace rf:=rf.up d
 replace q:=q.up d
 replace N:=N.nf
 obtain ⟨D0,p0,rfl,Z,w0,f0,k0⟩:=RVal.fm b
 refine Alc fun o0 w N a J=>?_
 refine Sto 0 fun w N a J=>?_
 refine zX call50 (fun j w N a J=>?_) (fun j w N a J=>?_) (c:=z6e b N)
 refine zF ?_
 replace N:=N.dl [6,5,4,3,2,1,0]
 exact outEE (y8f n i j) ⟨.inl rfl,N.le (d)⟩
 have k:=j
 refine zV call51 (fun X w s N a J=>?_) (c:=own_ok (q9u k) b N)
 obtain ⟨v,r0⟩:=X
 obtain ⟨h,m⟩:=s
 simp only at h m N J
 replace rf:=rf.up h
 replace q:=q.up h
 replace b:=b.up h
 replace N:=N.nf
 obtain ⟨E0,c62,rfl,a0,x0,g0,l0⟩:=RVal.fm m
 refine Sto 6 fun w N a J=>?_
 refine zF ?_
 replace N:=N.dl [5,4,3,2,0]
 exact outE (j1e n i k) ⟨(v,_),rfl,⟨(d).trans h,m⟩,N⟩
 have o:=vB l (t _)
 replace N:=N.dl [5,4,3,2,1,0]
 exact outEE (y8g n o) ⟨.inr ⟨rfl,rfl⟩,N.le (Fz.Le.refl _)⟩
theorem q6i {p:Addr} {T:Table} {df:List Value} {f:Fun} {va:Value} {args:List Val} {fu a o q r s d:Nat} (n:RTable V p T) (rf:RFun V df f) (rs:SliceOf RVal V 3 va args) (u:z0s T) (l:f.params.length<=1000) (m:pT f.body) (j:fu<=1000000) (k:∀g,vN (jR ⟨T.funs,[]⟩) f args g≠.stuck) (N:Mem V (.blk a (ob [.int .i64 ((1:Nat):Int)] 3)::.blk o (ob [.int .i64 fu] 3)::.blk q (ob [.pointer (some p)] 89)::.blk r (ob df 68)::.blk s (ob [va] 38)::.blk d (ob [.string ⟨#[]⟩,.int .i64 ((0:Nat):Int),.slice none 0 0] 42)::K) w) :
  Calls prog 45 #[.func (.func 64) #[] #[.pointer (some ⟨a,0,none⟩),.pointer (some ⟨o,0,none⟩),.pointer (some ⟨q,0,none⟩),.pointer (some ⟨r,0,none⟩),.pointer (some ⟨s,0,none⟩),.pointer (some ⟨d,0,none⟩)]] w (fun e w'=>Out (wJ (vN (jR ⟨T.funs,[]⟩) f args) fu)
   (fun x=>∃y:Fz×List Value,e=.returned (.int .i64 ((0:Nat):Int))/\(V.Le y.1/\RVal y.1 y.2 x.1)/\Mem y.1 (.blk a (ob [.int .i64 ((fu - x.2:Nat):Int)] 3)::.blk d (ob y.2 42)::K) w')
   (fun c=>e=.returned (.int .i64 ((c:Nat):Int))/\Mem V K w')):=by
 refine q2s (α:=Val×Nat) (β:=Fz×List Value) (F:=fun _ y=>y.1) (KO:=fun x y=>.blk a (ob [.int .i64 ((fu - x.2:Nat):Int)] 3)::.blk d (ob y.2 42)::K)
  (G:=fun (x:Val×Nat) y=>V.Le y.1/\RVal y.1 y.2 x.1) call64 (fun b w N=>?_) N
 have N:=(((((N.pull (i:=6) rfl).pull (i:=6) rfl).pull (i:=6) rfl).pull (i:=6) rfl).pull (i:=6) rfl).pull (i:=6) rfl
 refine (x2q (K:=.blk b (ob [.int .i64 ((0:Nat):Int)] 31)::K) n rf rs u l m j k N).mono fun e w' h=>?_
 cases hr:wJ (vN (jR ⟨T.funs,[]⟩) f args) fu with
 | ok x=>
  rw [hr] at h
  obtain ⟨y,h1,h2,t⟩:=h
  exact ⟨y,h1,h2,t.pull (i:=2) rfl⟩
 | error c'=>
  rw [hr] at h
  exact h
end
def q5w (c:Core) (name:Bs) (args:List Val):Prop:=∀f,zW (zN c).funs name=some f->sQ (zN c) args f.params=true->¬cZ (zN c) name->∀g,vN (jR ⟨(zN c).funs,[]⟩) f args g≠.stuck
section
variable {c:Core} {name:Bs} {args:List Val} {fuel:Int}
theorem q3i (h:qL c≠0):qR c name args fuel=(v0,0,qL c):=by simp only [qR,if_pos h]
theorem gP (h:qL c=0) (a:fuel < 0∨200000 < fuel):qR c name args fuel=(v0,0,1):=by simp only [qR,if_neg (not_not_intro h),if_pos a]
theorem q3j (h:qL c=0) (a:¬(fuel < 0∨200000 < fuel)) (b:zW (zN c).funs name=none):qR c name args fuel=(v0,0,3):=by
 simp only [qR,if_neg (not_not_intro h),if_neg a,b]
theorem y8e {f:Fun} (h:qL c=0) (a:¬(fuel < 0∨200000 < fuel)) (d:zW (zN c).funs name=some f) (b:sQ (zN c) args f.params=false):qR c name args fuel=(v0,0,8):=by
 simp only [qR,if_neg (not_not_intro h),if_neg a,d,if_pos b]
theorem z3l {f:Fun} (h:qL c=0) (a:¬(fuel < 0∨200000 < fuel)) (d:zW (zN c).funs name=some f) (b:sQ (zN c) args f.params=true) (hr:cZ (zN c) name):qR c name args fuel=(v0,0,8):=by
 simp only [qR,if_neg (not_not_intro h),if_neg a,d,b,if_pos hr];rfl
theorem z9s {f:Fun} (h:qL c=0) (a:¬(fuel < 0∨200000 < fuel)) (d:zW (zN c).funs name=some f) (b:sQ (zN c) args f.params=true) (hr:¬cZ (zN c) name):qR c name args fuel=(match wJ (vN (jR ⟨(zN c).funs,[]⟩) f args) fuel.toNat with
    | .ok (v,g)=>(v,((fuel.toNat - g:Nat):Int),0)
    | .error e=>(v0,0,((e:Nat):Int))):=by
 simp only [qR,if_neg (not_not_intro h),if_neg a,d,b,if_neg hr];rfl
end
theorem q1h:∀(K:List Res) (i:Nat) (r:Res),dJ (wI K i r) i=dJ K i
 | [],_,_=>rfl
 | _::K,0,_=>rfl
 | x::K,i+1,r=>by simp only [wI,dJ,q1h K i r]
theorem gG (s t:ByteArray):Lib.strCells (s++t)=Lib.strCells s++Lib.strCells t:=by
 simp only [Lib.strCells,ByteArray.data_append,Array.toList_append,List.map_append]
theorem wZ (s:ByteArray):(Lib.strCells s).length=s.size:=by
 simp only [Lib.strCells,List.length_map,Array.length_toList];rfl
theorem y9l (t:ByteArray) (c:UInt8):Lib.strCells (t++⟨#[c]⟩)=Lib.strCells t++[.int .u8 c.toNat]:=by rw [gG];rfl
section
variable {P:Program} {n:Nat} {E:List (Nat×Value)} {D:List Deferred} {a:Act} {V:Fz} {K:List Res} {w:World} {ty:TypeId}
variable {Kn:Value->World->Prop} {Qp:List PanicEntry->World->Prop} {dst:Option Tmp} {pos:String} {aft:Array Edge} {g:Option (Nat×Bool)}
theorem j0y {x:Operand} {src dst' t:TypeId} {j:TypeInfo} {b T i:Nat} {cs:List Value} (J:EnvR n E D a) (N:Sees V K w) (h:ev E x=some (.pointer (some ⟨b,0,none⟩))) (g:qH K i=some (.blk b (ob cs T))) (c:0 < cs.length)
  (h1:P.underlying src=some (.pointer t)) (h2:P.underlying dst'=some .unsafePointer) (d:P.info? t=some j) (f:j.size≠0):Ok P a (.convert src dst' x) ty w (.pointer (some ⟨b,0,none⟩)):=fun _ _ _ _=>by
 have hb:w.heap[b]? = some (ob cs T):=N.own _ (yQ g)
 have:=Lib.run_to_unsafe (P:=P) w (src:=src) (dst:=dst') (t:=t) (e:=T) (j:=j) (cells:=cs.length) ⟨b,0,none⟩ h1 h2 d f (by simp [World.shape?,hb,ob]) c
 simp only [execOp,J.ev h]
 simp [Sem.run_bind,this,Result.andThen]
theorem y9m {x:Operand} {src dst' u:TypeId} {j:TypeInfo} {b T i:Nat} {cs:List Value} (J:EnvR n E D a) (N:Sees V K w) (g:ev E x=some (.pointer (some ⟨b,0,none⟩))) (f:qH K i=some (.blk b (ob cs T)))
  (h1:P.underlying src=some .unsafePointer) (h2:P.underlying dst'=some (.pointer u)) (c:P.info? u=some j) (d:liesAt P P.depth T (cs.length / P.cellsOf T) 0 u 1=true):Ok P a (.convert src dst' x) ty w (.pointer (some ⟨b,0,none⟩)):=fun _ _ _ _=>by
 have hb:w.heap[b]? = some (ob cs T):=N.own _ (yQ f)
 have:=Lib.run_from_unsafe (P:=P) w (src:=src) (dst:=dst') (u:=u) (e:=T) (j:=j) (cells:=cs.length) ⟨b,0,none⟩ h1 h2 c (by simp [World.shape?,hb,ob]) d
 simp only [execOp,J.ev g]
 simp [Sem.run_bind,this,Result.andThen]
theorem y3x (i:Nat) {s x:Operand} {t u e:TypeId} {v:Value} {str t0:ByteArray} {inf:TypeInfo} (r:P.underlying t=some (.slice e)) (y:P.underlying u=some .string) (q:P.info? e=some inf) (B:inf.zero=some (.int .u8 0)) (h1:inf.size=1) (h2:inf.bytes=1)
  (J:EnvR n E D a) (N:Mem V K w) (O:ev E s=some v) (z:qH K i=some (.gs v e 1 (Lib.strCells t0))) (R:ev E x=some (.string str)) (hb:t0.size+str.size<=140737488355328)
  (k:∀v' w',Mem V (wI K i (.gs v' e 1 (Lib.strCells (t0++str)))) w'->Kn v' w') :
  Oper.eff P ⟨dst,.call { callee:=.builtin .append,args:=#[s,x],argTypes:=#[t,u] },ty,pos,aft,g⟩ a w Kn Qp:=by
 obtain ⟨nn,f⟩:=N.own _ (yQ z)
 have A:nn=t0.size:=by have:=f.1;rw [wZ] at this;omega
 subst A
 have m:t0.size+str.size<=maxLen:=by simp only [maxLen];omega
 have l:∀v' w',(Builtin.append_ #[t,u] ty #[v,.string str]).run P w=.ok v' w'->Kn v' w' ->
   Oper.eff P ⟨dst,.call { callee:=.builtin .append,args:=#[s,x],argTypes:=#[t,u] },ty,pos,aft,g⟩ a w Kn Qp:=by
  intro v' w' d H
  unfold Oper.eff
  have:(execOp a.eval ⟨dst,.call { callee:=.builtin .append,args:=#[s,x],argTypes:=#[t,u] },ty,pos,aft,g⟩).run P w=.ok (.value v') w':=by
   simp only [execOp,resolve,invoke,builtin,Sem.run_bind,Sem.run_pure,Result.andThen_ok,List.map_toArray,List.map_cons,List.map_nil,J.ev O,J.ev R,d]
  rw [this]
  exact H
 rcases f.2 with ⟨rfl,F⟩ | ⟨b,cap,cur,rfl,_,M,C,I,L,Q⟩
 ·obtain ⟨v',w',d,ho',h,_⟩:=Lib.run_append_own_string (P:=P) w w.heap.size t u ty e inf r y q B h1 h2 (.slice none 0 0) t0.size _ ⟨f.1,.inl ⟨rfl,F⟩⟩ str m hb (Nat.le_refl _)
  refine l v' w' d (k _ _ ?_)
  rw [gG]
  refine N.upd z h.os h.output (fun b hb o=>h.block b hb o) ⟨t0.size+str.size,?_⟩ (.inr fun b hb=>(ho'.lt b hb).1)
  exact ⟨ho'.1,ho'.2.imp id fun ⟨g,cap,cur,h1,_,G⟩=>⟨g,cap,cur,h1,Nat.zero_le _,G⟩⟩
 ·obtain ⟨v',w',d,ho',h,_⟩:=Lib.run_append_own_string (P:=P) w 0 t u ty e inf r y q B h1 h2 _ t0.size _ f str m hb (Nat.zero_le _)
  refine l v' w' d (k _ _ ?_)
  rw [gG]
  refine N.upd z h.os h.output (fun b hb o=>h.block b hb o) ⟨t0.size+str.size,ho'⟩ ?_
  by_cases p:t0.size+str.size<=cap
  ·have hr:=Lib.run_append_room_string (P:=P) w t u ty e inf r y q h1 b t0.size cap cur M str p (by omega)
   rw [hr] at d
   cases d
   exact .inl rfl
  ·have holds:∀j u,(Lib.strCells t0)[j]? = some u->w.cell? ((⟨b,0,none⟩:Addr).add j)=some u:=f.cells (g:=b) rfl
   have hr:=Lib.run_append_grow_string (P:=P) w t u ty e inf (.int .u8 0) r y q B ⟨b,0,none⟩ t0.size cap (Lib.strCells t0) (by rw [h1,wZ];omega) holds str (by omega) (by omega) (by rw [h2];exact growslice_fits (by omega) (by omega))
   rw [hr] at d
   cases d
   exact .inr fun c C=>by simp [Res.foot,Value.ownBlock] at C;omega
def DataOf (v:Value) (q:Option Addr) (n:Nat):Prop:=n≠0->∃g cap,v=.slice (some ⟨g,0,none⟩) n cap/\q=some ⟨g,0,none⟩
theorem y8w (i:Nat) {x:Operand} {ts:Array TypeId} {e:TypeId} {v:Value} {t:ByteArray} (z:P.underlying ty=some (.pointer e)) (J:EnvR n E D a) (N:Mem V K w) (B:ev E x=some v) (y:qH K i=some (.gs v 5 1 (Lib.strCells t)))
  (k:∀q w',DataOf v q t.size->Mem V K w'->Kn (.pointer q) w'):Oper.eff P ⟨dst,.call { callee:=.builtin .unsafeSliceData,args:=#[x],argTypes:=ts },ty,pos,aft,g⟩ a w Kn Qp:=by
 obtain ⟨nn,f⟩:=N.own _ (yQ y)
 have l:nn=t.size:=by have:=f.1;rw [wZ] at this;omega
 subst l
 have c:∀v' w',(Builtin.unsafeSliceData_ ts ty #[v]).run P w=.ok v' w'->Kn v' w' ->
   Oper.eff P ⟨dst,.call { callee:=.builtin .unsafeSliceData,args:=#[x],argTypes:=ts },ty,pos,aft,g⟩ a w Kn Qp:=by
  intro v' w' j o
  unfold Oper.eff
  have:(execOp a.eval ⟨dst,.call { callee:=.builtin .unsafeSliceData,args:=#[x],argTypes:=ts },ty,pos,aft,g⟩).run P w=.ok (.value v') w':=by
   simp only [execOp,resolve,invoke,builtin,Sem.run_bind,Sem.run_pure,Result.andThen_ok,List.map_toArray,List.map_cons,List.map_nil,J.ev B,j]
  rw [this]
  exact o
 rcases f.2 with ⟨rfl,m⟩ | ⟨b,cap,cur,rfl,_,u,p,r,s,A⟩
 ·exact c _ _ (Lib.run_unsafeSliceData_nil _ _ _ _ _) (k _ _ (fun h=>absurd m h) N)
 ·by_cases d:cap=0
  ·subst d
   exact c _ _ (Lib.run_unsafeSliceData_zero w ts ty e z _ _ (5,cur.size) (by simp [World.shape?,u])) (k _ _ (fun h=>absurd (Nat.le_zero.1 p) h) ((N.push _).del 0))
  ·exact c _ _ (Lib.run_unsafeSliceData_row w ts ty _ _ _ d) (k _ _ (fun _=>⟨b,cap,rfl,rfl⟩) N)
theorem z8e (i:Nat) {x y:Operand} {pt it:TypeId} {v:Value} {t:ByteArray} {q:Option Addr} (I:P.underlying pt=some (.pointer 5)) (p:P.cellsOf 5=1) (J:EnvR n E D a) (N:Mem V K w) (hq:DataOf v q t.size) (z:ev E x=some (.pointer q)) (R:ev E y=some (.int .i64 t.size)) (B:qH K i=some (.gs v 5 1 (Lib.strCells t)))
  (k:∀w',Mem V (dJ K i) w'->Kn (.string t) w'):Oper.eff P ⟨dst,.call { callee:=.builtin .unsafeString,args:=#[x,y],argTypes:=#[pt,it] },ty,pos,aft,g⟩ a w Kn Qp:=by
 obtain ⟨nn,d⟩:=N.own _ (yQ B)
 have u:nn=t.size:=by have:=d.1;rw [wZ] at this;omega
 subst u
 have f:∀v' w',(Builtin.unsafeString_ #[pt,it] ty #[.pointer q,.int .i64 t.size]).run P w=.ok v' w'->Kn v' w' ->
   Oper.eff P ⟨dst,.call { callee:=.builtin .unsafeString,args:=#[x,y],argTypes:=#[pt,it] },ty,pos,aft,g⟩ a w Kn Qp:=by
  intro v' w' m F
  unfold Oper.eff
  have:(execOp a.eval ⟨dst,.call { callee:=.builtin .unsafeString,args:=#[x,y],argTypes:=#[pt,it] },ty,pos,aft,g⟩).run P w=.ok (.value v') w':=by
   simp only [execOp,resolve,invoke,builtin,Sem.run_bind,Sem.run_pure,Result.andThen_ok,List.map_toArray,List.map_cons,List.map_nil,J.ev z,J.ev R,m]
  rw [this]
  exact F
 have l:t.data.toList.length=t.size:=by simp only [Array.length_toList];rfl
 by_cases h:t.size=0
 ·have L:t=.empty:=by
   have:t.data=#[]:=Array.eq_empty_of_size_eq_zero h
   cases t;simp only at this;subst this;rfl
  have hr:=Lib.run_unsafeString_none (P:=P) w pt it ty q
  refine f (.string t) w ?_ (k _ (N.del i))
  rw [h];rw [L];exact hr
 ·obtain ⟨b,cap,rfl,rfl⟩:=hq h
  rcases d.2 with ⟨o,_⟩ | ⟨b',cap',cur,o,_,A,G,r,H,M⟩
  ·cases o
  ·simp only [Value.slice.injEq,Option.some.injEq,Addr.mk.injEq,and_true,true_and] at o
   obtain ⟨rfl,rfl⟩:=o
   have hr:=Lib.run_unsafeString_row (P:=P) w pt it ty 5 I p b cur.size (by simp [World.shape?,A]) t.data.toList (fun e=>h (by rw [<- l,e];rfl)) (by omega) (by simp only [maxLen] at r;omega) (fun j x z=>by
    have:=d.cells (g:=b) rfl j (.int .u8 x.toNat) (by simp [Lib.strCells,z])
    exact this)
   rw [l] at hr
   refine f (.string t) _ (by rw [hr]) (k _ ?_)
   have Q:(w.freeze ⟨b,0,none⟩ t.size).heap[b]? = some (.cells cur 5 (0,0+t.size)):=by
    simp only [World.freeze,h,if_false,Array.getElem?_modify,if_true,A,Option.map_some];rfl
   have h2:Mem V (wI K i (.blk b (.cells cur 5 (0,0+t.size)))) (w.freeze ⟨b,0,none⟩ t.size):=by
    refine N.upd B ?_ ?_ (fun c G s=>?_) Q (.inl rfl)
    ·unfold World.freeze;split <;> rfl
    ·unfold World.freeze;split <;> rfl
    ·simp only [World.freeze,h,if_false,Array.getElem?_modify]
     rw [if_neg (fun e=>s (by subst e;rfl))]
   have C:=h2.del i
   rwa [q1h] at C
end
open Go.Proofs in
theorem y9n {n:Nat} {E:List (Nat×Value)} {D:List Deferred} {a:Act} {w:World} {ty:TypeId} {x:Operand} {ts:Array TypeId} {v:Value} (J:EnvR n E D a) (c:ev E x=some v) :
  Ok Tryz.prog a (.call { callee:=.value (.func 171),args:=#[x],argTypes:=ts }) ty w v:=fun _ _ _ _=>by
 have h:=run_callFunc_extern (P:=Tryz.prog) Tryz.func171 (by kernel_rfl) (by kernel_rfl) (by kernel_rfl) (e:=Extern.AbiNoEscape.same) (by kernel_rfl) #[v] w
 rw [Lib.run_noEscape] at h
 simp only [Result.andThen] at h
 have b:a.eval (.func 171)=.func (.func 171) #[] #[]:=rfl
 simp only [execOp,resolve,Sem.run_bind,List.map_toArray,List.map_cons,List.map_nil,J.ev c,b]
 simp [Deferred.ofValue,invoke,Sem.run_bind,Result.andThen,h]
section
variable {P:Program} {n:Nat} {E:List (Nat×Value)} {D:List Deferred} {a:Act} {V:Fz} {K:List Res} {w:World} {ty:TypeId}
variable {Kn:Value->World->Prop} {Qp:List PanicEntry->World->Prop} {dst:Option Tmp} {pos:String} {aft:Array Edge} {g:Option (Nat×Bool)}
set_option maxRecDepth 20000 in
theorem y4a {x:Operand} {ts:Array TypeId} {m:Nat} (J:EnvR n E D a) (N:Mem V K w) (l:ev E x=some (.int .i64 m)) (j:m<=281474976710656)
  (k:∀b cs w',m<=cs.size->cs.size<=maxLen->Mem V (.blk b (.cells cs 5 (0,0))::K) w'->Kn (.slice (some ⟨b,0,none⟩) m cs.size) w') :
  Oper.eff prog ⟨dst,.call { callee:=.value (.func 198),args:=#[x],argTypes:=ts },ty,pos,aft,g⟩ a w Kn Qp:=by
 obtain ⟨cs,d,f,c⟩:=Lib.run_makeNoZero (P:=prog) w #[3] 128 5 underlying128 m j
 have h:=run_callFunc_extern (P:=prog) func198 (by kernel_rfl) (by kernel_rfl) (by kernel_rfl) (e:=Extern.BytealgMakeNoZero.makeNoZero #[3] #[128]) (by kernel_rfl) #[.int .i64 m] w
 rw [d] at h
 simp only [Result.andThen] at h
 unfold Oper.eff
 have:(execOp a.eval ⟨dst,.call { callee:=.value (.func 198),args:=#[x],argTypes:=ts },ty,pos,aft,g⟩).run prog w=.ok (.value (.slice (some ⟨w.heap.size,0,none⟩) m cs.size)) (w.drew.drew.alloc (.cells cs 5)):=by
  have i:a.eval (.func 198)=.func (.func 198) #[] #[]:=rfl
  simp only [execOp,resolve,Sem.run_bind,List.map_toArray,List.map_cons,List.map_nil,J.ev l,i]
  simp [Deferred.ofValue,invoke,Sem.run_bind,Result.andThen,h]
 rw [this]
 exact k _ cs _ f (c (by simp only [maxLen];omega)) (N.drew.drew.push (.cells cs 5 (0,0)))
theorem j3r {b:Nat} {cs:Array Value} {i:Nat} (N:Mem V K w) (c:qH K i=some (.blk b (.cells cs 5 (0,0)))) (a:cs.size<=maxLen):Mem V (wI K i (.gs (.slice (some ⟨b,0,none⟩) 0 cs.size) 5 1 (Lib.strCells ⟨#[]⟩))) w :=
 N.upd c rfl rfl (fun _ _ _=>rfl) ⟨0,rfl,.inr ⟨b,cs.size,cs,rfl,Nat.zero_le _,N.own _ (yQ c),Nat.zero_le _,a,by omega,by simp [Lib.strCells]⟩⟩ (.inl rfl)
theorem q5s {x d:Operand} {t e:TypeId} {b m c:Nat} (J:EnvR n E D a) (h:ev E x=some (.slice (some ⟨b,0,none⟩) m c)) (f:ev E d=some (.int .i64 ((0:Nat):Int))) (g:Under P t (.slice e)) (O:SizeT P e 1) :
  Ok P a (.slice t x none (some d) none) ty w (.slice (some ⟨b,0,none⟩) 0 c):=fun _ _ _ _=>by
 simp only [execOp,J.ev h,Option.map_some,Option.map_none,J.ev f,Instr.sliceAt]
 simp [Sem.run_bind,g w,O w,Instr.slice,Instr.sliceBounds,Instr.sliceBound,asIntOf,Result.andThen,Addr.add]
theorem y_cap {x:Operand} {t e:TypeId} {p:Option Addr} {m c:Nat} (J:EnvR n E D a) (d:ev E x=some (.slice p m c)) (b:Under P t (.slice e)):Ok P a (.call { callee:=.builtin .cap,args:=#[x],argTypes:=#[t] }) ty w (.int .i64 c):=fun _ _ _ _=>by
 simp only [execOp,resolve]
 simp [Sem.run_bind,Result.andThen,invoke,builtin,J.ev d,Builtin.cap_,b w,goInt]
theorem j5b {x y:Operand} {t t2 e:TypeId} {p:Option Addr} {m c:Nat} (J:EnvR n E D a) (d:ev E x=some (.slice p m c)) (f:ev E y=some (.slice none 0 0)) (b:P.underlying t=some (.slice e)) (O:(P.info? e).map (·.size)=some 1) (g:ty=ty) :
  Ok P a (.call { callee:=.builtin .copy,args:=#[x,y],argTypes:=#[t,t2] }) ty w (.int .i64 ((0:Nat):Int)):=fun _ _ _ _=>by
 have h:=run_copy_none (P:=P) w t t2 ty e p none m c 0 0 b O rfl
 simp only [execOp,resolve,invoke,builtin,Sem.run_bind,Sem.run_pure,Result.andThen_ok,List.map_toArray,List.map_cons,List.map_nil,J.ev d,J.ev f,h]
 rfl
theorem cW (i j:Nat) {x:Operand} {b off cap:Nat} {arr:Array Value} {l:List Bs} {T:TypeId} {s:Bs} (J:EnvR n E D a) (N:Sees V K w) (hq:QAt off cap arr l) (c:ev E x=some (.pointer (some ((⟨b,off,none⟩:Addr).add (j * 1)))))
  (e:qH K i=some (qblk b arr)) (O:l[j]? = some s) (d:Scalar P T):Ok P a (.load T x) ty w (.string s):=fun _ _ _ _=>by
 have h1:w.heap[b]? = some (.cells arr 9 (0,0)):=N.own _ (yQ e)
 have h2:w.cell? ⟨b,off+j,none⟩=some (.string s):=by simp [World.cell?,h1];exact hq.cells j s O
 rw [q3d,Nat.mul_one] at c
 simp only [execOp,J.ev c]
 simp [Instr.loadAt,Instr.sureAddr,loadVar,Sem.run_bind,d w,Result.andThen,load,Sem.run,h2]
end
def mU (sep:Bs):List Bs->Bs
 | []=>⟨#[]⟩
 | x::xs=>xs.foldl (fun a s=>a++sep++s) x
def nE (l:List Bs):Nat:=(l.map ByteArray.size).sum
theorem z2s (x:Bs) (l:List Bs):nE (x::l)=x.size+nE l:=by simp [nE]
theorem cL {l:List Bs} {i:Nat} {x:Bs} (h:l[i]? = some x):nE (l.drop i)=x.size+nE (l.drop (i+1)):=by rw [zA h,z2s]
theorem cM (l:List Bs) (i:Nat):nE (l.take i)+nE (l.drop i)=nE l:=by
 simp only [nE]
 rw [<- List.sum_append_nat,<- List.map_append,List.take_append_drop]
theorem q1m {l:List Bs} {i:Nat} {x:Bs} (h:l[i]? = some x):nE (l.take (i+1))=nE (l.take i)+x.size:=by rw [xK h];simp [nE]
theorem quo_big {m s:Nat} (N:1<=m) (O:1<=s) (h:s * m<=140737488355328):¬IntKind.i64.wrap ((9223372036854775807:Int).tdiv ((m:Nat):Int))<=((s:Nat):Int):=by
 obtain ⟨q,hq⟩:∃q:Nat,q=9223372036854775807 / m:=⟨_,rfl⟩
 have h1:(9223372036854775807:Int).tdiv ((m:Nat):Int)=(q:Int):=by rw [hq];rfl
 have h2:q<=9223372036854775807:=by rw [hq];exact Nat.div_le_self _ _
 rw [h1,yB (by omega)]
 have a:=Nat.div_add_mod 9223372036854775807 m
 have d:=Nat.mod_lt 9223372036854775807 (show 0 < m by omega)
 rw [<- hq] at a
 have e:m<=s * m:=Nat.le_mul_of_pos_left _ (by omega)
 intro f
 have b:q<=s:=by omega
 have c:m * q<=m * s:=Nat.mul_le_mul_left _ b
 rw [Nat.mul_comm m s] at c
 omega
theorem zL (a b:Bs):(a++b).size=a.size+b.size:=ByteArray.size_append
theorem z8f (x:Bs):(⟨#[]⟩:Bs)++x=x:=by
 apply ByteArray.ext;simp [ByteArray.data_append]
theorem q1f {l:List Bs} {x sep:Bs} (h:l[0]? = some x) (hb:nE l+sep.size * l.length<=70368744177664) :
  mU sep l=((l.drop 1).drop 0).foldl (fun a s=>a++sep++s) (⟨#[]⟩++x)/\((⟨#[]⟩:Bs)++x).size+nE ((l.drop 1).drop 0)+sep.size * ((l.drop 1).length - 0)<=70368744177664:=by
 cases l with
 | nil=>simp at h
 | cons a r=>
  simp only [List.getElem?_cons_zero,Option.some.injEq] at h
  subst h
  rw [z8f]
  refine ⟨rfl,?_⟩
  rw [z2s] at hb
  simp only [lcQ,Nat.mul_add,List.drop_succ_cons,List.drop_zero,Nat.sub_zero] at hb ⊢
  omega
theorem q1g {l:List Bs} {i:Nat} {acc sep x:Bs} (b:(l.drop 1)[i]? = some x) (h:mU sep l=((l.drop 1).drop i).foldl (fun a s=>a++sep++s) acc) (hb:acc.size+nE ((l.drop 1).drop i)+sep.size * ((l.drop 1).length - i)<=70368744177664) :
  mU sep l=((l.drop 1).drop (i+1)).foldl (fun a s=>a++sep++s) ((acc++sep)++x)/\((acc++sep)++x).size+nE ((l.drop 1).drop (i+1))+sep.size * ((l.drop 1).length - (i+1))<=70368744177664:=by
 refine ⟨by rw [h,zA b];rfl,?_⟩
 have c:=(List.getElem?_eq_some_iff.1 b).1
 rw [cL b,show (l.drop 1).length - i=((l.drop 1).length - (i+1))+1 by omega,Nat.mul_add,Nat.mul_one] at hb
 rw [zL,zL];omega
def Cap (v:Value):Prop:=∀p n c,v=.slice p n c->n<=c
theorem Cap.nil:Cap (.slice none 0 0):=fun p n c h=>by injection h;omega
theorem Cap.own {V:Fz} {K:List Res} {w:World} {v:Value} {T:TypeId} {k i:Nat} {cs:List Value} (N:Mem V K w) (a:qH K i=some (.gs v T k cs)):Cap v:=by
 obtain ⟨n,_,h⟩:=N.own _ (yQ a)
 rcases h with ⟨rfl,_⟩ | ⟨g,cap,cur,rfl,_,_,d,_⟩
 ·exact Cap.nil
 ·intro p m c h
  injection h with h1 h2 b
  omega
theorem q9t {V:Fz} {l:List Bs} {q:Option Addr} {c i:Nat} (h:SliceOf RStr V 1 (.slice q l.length c) l) (r:i < l.length):SliceOf RStr V 1 (.slice q i i) (l.take i):=by
 rw [SliceOf.strs] at h ⊢
 rcases h with ⟨h,h2⟩ | ⟨p,m,c',e,h2,f,g⟩
 ·injection h with h1 h2 f;omega
 ·injection e with d e2 n
  subst d;subst e2
  rw [zZ] at h2
  refine .inr ⟨p,i,i,rfl,by simp [zZ];omega,by omega,fun k=>?_⟩
  have hl:strs l≠[]:=fun e=>by have:=congrArg List.length e;rw [zZ] at this;simp only [lnQ] at this;omega
  have b:=(g hl).sub (o:=0) (ds:=strs (l.take i)) (fun j v a=>by
   rw [Nat.zero_add]
   simp only [strs,List.map_take,List.getElem?_take] at a ⊢
   split at a
   ·exact a
   ·cases a)
  rw [show p.add 0=p from rfl] at b
  exact b
theorem q5t {n:Nat} {E:List (Nat×Value)} {D:List Deferred} {a:Act} {x d mx:Operand} {t e ty:TypeId} {q:Option Addr} {m c i:Nat} {w:World} {P:Program} (J:EnvR n E D a) (h:ev E x=some (.slice q m c)) (f:ev E d=some (.int .i64 i))
  (b:ev E mx=some (.int .i64 i)) (g:Under P t (.slice e)) (O:SizeT P e 1) (h1:i<=c):Ok P a (.slice t x none (some d) (some mx)) ty w (.slice q i i):=fun _ _ _ _=>by
 simp only [execOp,J.ev h,Option.map_some,Option.map_none,J.ev f,J.ev b,Instr.sliceAt]
 simp [Sem.run_bind,g w,O w,Instr.slice,Instr.sliceBounds,Instr.sliceBound,asIntOf,Result.andThen,Addr.add,h1]
end Go.Sw
namespace Go.Proofs.YtgkhcfjooiekkaaGreatDoor
open Go.ChangeShapes Go.WideShapes Go.ChangeAt Go.RowKit Go.Sw
set_option maxRecDepth 100000
section
variable {H:Type} {enc:TypeId×Value->H}
end
end Go.Proofs.YtgkhcfjooiekkaaGreatDoor
namespace Go.Sw
open Go.Proofs Go.Proofs.Tryz
set_option maxRecDepth 20000
set_option maxHeartbeats 4000000
theorem x3z:zM prog 150 0 0:=zG runUnderlying150 rfl sizeOf25 (by decide) rfl
theorem x4a:zM prog 150 1 1:=zG runUnderlying150 rfl sizeOf3 (by decide) rfl
theorem x4b:zM prog 150 2 2:=zG runUnderlying150 rfl sizeOf4 (by decide) rfl
instance:ScT 4:=⟨Tryz.isAgg4⟩
instance:SzT 4 1:=⟨Tryz.sizeOf4⟩
instance:FoT 150 0 0:=⟨x3z⟩
instance:FoT 150 1 1:=⟨x4a⟩
instance:FoT 150 2 2:=⟨x4b⟩
section
variable {ws:List Bs} {i:Nat}
theorem y6k {α β:Type} {r:Rd α} {f:α->Nat->Rd β} {y:β×Nat} (h:yA r f=.ok y):∃x j,r=.ok (x,j)/\f x j=.ok y:=by
 unfold yA at h
 split at h
 ·exact ⟨_,_,rfl,h⟩
 ·cases h
theorem zD {α β:Type} {r:Rd α} {f:α->Nat->Rd β} {x:α×Nat} (h:r=.ok x):yA r f=f x.1 x.2:=by subst h;rfl
theorem zP {α β:Type} {r:Rd α} {f:α->Nat->Rd β} {n:Nat} (h:r=.error n):yA r f=.error n:=by subst h;rfl
theorem vD (h:¬zB ws i=⟨#[]⟩):i < ws.length:=by
 refine Classical.byContradiction fun a=>h ?_
 unfold zB
 rw [List.getD_eq_getElem?_getD,List.getElem?_eq_none (by omega)];rfl
theorem jL {x:Bs} (h:ws[i]? = some x):zB ws i=x:=by unfold zB;rw [List.getD_eq_getElem?_getD,h];rfl
theorem q8y (h:¬i < ws.length):zB ws i=⟨#[]⟩:=by unfold zB;rw [List.getD_eq_getElem?_getD,List.getElem?_eq_none (by omega)];rfl
theorem y7g {p:Bs->Bool} (h:¬zB ws i=⟨#[]⟩) (a:p (zB ws i)=true):kW ws p i=.ok (zB ws i,i+1):=by
 unfold kW;rw [if_neg];rintro (h2 | h2);exact h h2;rw [a] at h2;cases h2
theorem x7l {p:Bs->Bool} (h:zB ws i=⟨#[]⟩):kW ws p i=.error (i+1):=by unfold kW;rw [if_pos (.inl h)]
theorem x1r {p:Bs->Bool} (h:p (zB ws i)=false):kW ws p i=.error (i+1):=by unfold kW;rw [if_pos (.inr h)]
theorem z8z {p:Bs->Bool} {x:Bs×Nat} (h:kW ws p i=.ok x):x.2=i+1/\i < ws.length/\p x.1=true:=by
 unfold kW at h
 split at h
 ·cases h
 ·rename_i a
  simp only [Except.ok.injEq] at h
  subst h
  exact ⟨rfl,vD fun e=>a (.inl e),by cases b:p (zB ws i) with | true=>rfl | false=>exact absurd (.inr b) a⟩
theorem x5z {w:Bs} {x:Bs×Nat} (h:kW ws (fun s=>decide (s=w)) i=.ok x):vH ws w i=.ok ((),x.2):=by unfold vH;rw [zD h]
theorem x0p {w:Bs} {n:Nat} (h:kW ws (fun s=>decide (s=w)) i=.error n):vH ws w i=.error n:=by unfold vH;rw [zP h]
theorem q1v {w:Bs} {x:Unit×Nat} (h:vH ws w i=.ok x):x.2=i+1/\i < ws.length:=by
 obtain ⟨y,j,h1,h2⟩:=y6k h
 have:=z8z h1
 simp only [Except.ok.injEq] at h2
 subst h2;exact ⟨this.1,this.2.1⟩
def Goes (ws:List Bs) {α:Type} (f:Nat->Rd α):Prop:=∀i x,f i=.ok x->i < x.2/\x.2<=ws.length
def Stays (ws:List Bs) {α:Type} (f:Nat->Rd α):Prop:=∀i x,i<=ws.length->f i=.ok x->i<=x.2/\x.2<=ws.length
theorem Goes.stays {α:Type} {f:Nat->Rd α} (h:Goes ws f):Stays ws f:=fun i x _ a=>⟨Nat.le_of_lt (h i x a).1,(h i x a).2⟩
theorem xJ (p:Bs->Bool):Goes ws (kW ws p):=fun i x h=>by have:=z8z h;omega
theorem vL (w:Bs):Goes ws (vH ws w):=fun i x h=>by have:=q1v h;omega
theorem Goes.bind {α β:Type} {f:Nat->Rd α} {g:α->Nat->Rd β} (b:Goes ws f) (c:∀x,Stays ws (g x)):Goes ws (fun i=>yA (f i) g):=fun i y h=>by
 obtain ⟨x,j,h1,h2⟩:=y6k h
 have a:=b i _ h1
 have d:=c x j y a.2 h2
 simp only at a;omega
theorem Stays.bind {α β:Type} {f:Nat->Rd α} {g:α->Nat->Rd β} (b:Stays ws f) (c:∀x,Stays ws (g x)):Stays ws (fun i=>yA (f i) g):=fun i y d h=>by
 obtain ⟨x,j,h1,h2⟩:=y6k h
 have a:=b i _ d h1
 have e:=c x j y a.2 h2
 simp only at a;omega
theorem Stays.ok {α:Type} (x:α):Stays ws (fun i=>.ok (x,i)):=fun i y a h=>by simp only [Except.ok.injEq] at h;subst h;exact ⟨Nat.le_refl _,a⟩
theorem Stays.from {α:Type} {f:Nat->Rd α} (h:Stays ws f) {j:Nat} {y:α×Nat} (b:i < j) (hl:j<=ws.length) (a:f j=.ok y):i < y.2/\y.2<=ws.length:=by
 have:=h j y hl a;omega
theorem uG {ex:Nat->Rd Ex} (J:Goes ws ex):∀f least,Stays ws (kB ws ex f least)
 | 0,_=>fun i x _ h=>by cases h
 | f+1,least=>fun i x a h=>by
  simp only [kB] at h
  split at h
  ·exact (J.bind fun e=>(uG J f (least - 1)).bind fun l=>Stays.ok _).stays i x a h
  ·exact Stays.ok _ i x a h
theorem y7m {ex:Nat->Rd Ex} (J:Goes ws ex):Goes ws (z3k ex):=J.bind fun _=>(J.bind fun _=>Stays.ok _).stays
theorem y7q:∀f,Stays ws (cA ws f)
 | 0=>fun i x _ h=>by cases h
 | f+1=>fun i x a h=>by
  simp only [cA] at h
  split at h
  ·exact ((xJ yT).bind fun e=>(y7q f).bind fun l=>Stays.ok _).stays i x a h
  ·exact Stays.ok _ i x a h
theorem y2b {ex:Nat->Rd Ex} (J:Goes ws ex):Goes ws (armP ws ex) :=
 (vL _).bind fun _=>(xJ yO).stays.bind fun _=>(y7q _).bind fun _=>(vL _).stays.bind fun _=>J.stays.bind fun _=>(vL _).stays.bind fun _=>Stays.ok _
theorem y2c {ex:Nat->Rd Ex} (J:Goes ws ex):∀f b,Stays ws (dB ws ex f b)
 | 0,_=>fun i x _ h=>by cases h
 | f+1,b=>fun i x a h=>by
  simp only [dB] at h
  split at h
  ·exact ((y2b J).bind fun e=>(y2c J f false).bind fun l=>Stays.ok _).stays i x a h
  ·exact Stays.ok _ i x a h
theorem q0w {ex:Nat->Rd Ex} (J:Goes ws ex):Goes ws (yX ws ex):=fun i x h=>by
 have lt:∀{s:Bs},s≠⟨#[]⟩->zB ws i=s->i+1<=ws.length:=fun O e=>vD (by rw [e];exact O)
 unfold yX at h
 split at h
 ·rename_i a
  have:i+1<=ws.length:=vD fun e=>by rw [e] at a;exact absurd a (by decide)
  exact Stays.from (i:=i) ((y7m J).stays.bind fun _=>Stays.ok _) (Nat.lt_succ_self _) this h
 split at h
 ·rename_i e
  exact Stays.from (i:=i) ((xJ yT).stays.bind fun _=>(y7m J).stays.bind fun _=>Stays.ok _) (Nat.lt_succ_self _) (lt (by decide) e) h
 split at h
 ·rename_i e
  exact Stays.from (i:=i) (J.stays.bind fun _=>(y2c J _ _).bind fun _=>Stays.ok _) (Nat.lt_succ_self _) (lt (by decide) e) h
 split at h
 ·rename_i b
  have:i+1<=ws.length:=vD fun e=>by rw [e] at b;exact absurd b (by decide)
  exact Stays.from (i:=i) ((uG J _ _).bind fun _=>Stays.ok _) (Nat.lt_succ_self _) this h
 ·exact ((xJ yT).bind fun _=>(uG J _ _).bind fun _=>Stays.ok _) i x h
theorem xI:∀d,Goes ws (zS ws d)
 | 0=>fun i x h=>by cases h
 | d+1=>fun i x h=>by
  simp only [zS] at h
  split at h
  ·cases h
  rename_i a
  have hl:i+1<=ws.length:=vD a
  split at h
  ·simp only [Except.ok.injEq] at h;subst h;exact ⟨Nat.lt_succ_self _,hl⟩
  split at h
  ·exact Stays.from (i:=i) ((q0w (xI d)).stays.bind fun _=>(vL _).stays.bind fun _=>Stays.ok _) (Nat.lt_succ_self _) hl h
  split at h
  ·simp only [Except.ok.injEq] at h;subst h;exact ⟨Nat.lt_succ_self _,hl⟩
  split at h
  ·simp only [Except.ok.injEq] at h;subst h;exact ⟨Nat.lt_succ_self _,hl⟩
  ·exact ((xJ yT).bind fun _=>Stays.ok _) i x h
theorem gR:∀f,Stays ws (xC ws f)
 | 0=>fun i x _ h=>by cases h
 | f+1=>fun i x a h=>by
  simp only [xC] at h
  split at h
  ·exact ((xJ yO).bind fun e=>(gR f).bind fun l=>Stays.ok _).stays i x a h
  ·exact Stays.ok _ i x a h
theorem z6k:∀f,Stays ws (vZ ws f)
 | 0=>fun i x _ h=>by cases h
 | f+1=>fun i x a h=>by
  simp only [vZ] at h
  split at h
  ·rename_i e
   have hl:i+1<=ws.length:=vD (by rw [e];decide)
   have:=Stays.from (i:=i) (((xJ yT).bind fun n=>((vL mP).bind fun _=>((xJ yO).bind fun t=>Stays.ok (⟨n,t⟩:Param)).stays).stays).stays.bind fun _=>(vL jQ).stays.bind fun _=>(z6k f).bind fun _=>Stays.ok _) (Nat.lt_succ_self _) hl h
   omega
  ·exact Stays.ok _ i x a h
theorem param_goes:Goes ws (xX ws):=(xJ yT).bind fun _=>(vL _).stays.bind fun _=>(xJ yO).stays.bind fun _=>Stays.ok _
theorem q0g:∀f,Goes ws (aW ws f)
 | 0=>fun i x h=>by cases h
 | f+1=>by
  refine (xJ yO).bind fun n=>(gR _).bind fun l=>?_
  intro i x b h
  simp only at h
  split at h
  ·exact Stays.ok _ i x b h
  ·rename_i e
   have e':zB ws i=y1h:=Classical.byContradiction fun a=>e a
   have hl:i+1<=ws.length:=vD (by rw [e'];decide)
   have:=Stays.from (i:=i) ((q0g f).stays.bind fun _=>Stays.ok _) (Nat.lt_succ_self _) hl h
   omega
theorem z7u:Goes ws (nK ws):=(xJ yO).bind fun _=>(vL _).stays.bind fun _=>(q0g _).stays.bind fun _=>Stays.ok _
theorem y4r:Goes ws (dH ws):=(xJ yT).bind fun _=>(z6k _).bind fun _=>(vL _).stays.bind fun _=>(xJ yO).stays.bind fun _=>(vL _).stays.bind fun _=>(xI _).stays.bind fun _=>Stays.ok _
end
def nI (n:Nat):List PanicEntry:=[{ v:=.iface 204 (.agg #[.int .i64 n]),recovered:=false }]
section
variable {P:Program} {n:Nat} {E:List (Nat×Value)} {D:List Deferred} {a:Act} {V Ψ:Fz} {K:List Res} {w:World}
variable {Kn:Value->World->Prop} {Qp:List PanicEntry->World->Prop} {dst:Option Tmp} {ty:TypeId} {pos:String} {aft:Array Edge} {g:Option (Nat×Bool)}
theorem hO {f:FuncId} {xs:Array Operand} {ts:Array TypeId} {vs:List Value} {c:List PanicEntry} {b:Fz} {KE:List Res}
  (J:EnvR n E D a) (j:evs E xs.toList=some vs) (i:∀args w,(callFunc f args).run P w=.ok (.enter f args) w)
  (d:Calls P f vs.toArray w (fun e w'=>e=.panicked c/\Mem b KE w')) (kp:∀w',Mem b KE w'->Qp c w') :
  Oper.eff P ⟨dst,.call { callee:=.value (.func f),args:=xs,argTypes:=ts },ty,pos,aft,g⟩ a w Kn Qp :=
 aD J j i d (fun v w' h=>by cases h.1) (fun c w' h=>by cases h.1;exact kp _ h.2) (fun w' h=>by cases h.1)
end
theorem j9y {s:Bs} {v:Int} (h:oZ s=.ok v) (a:mC v=s):wH s=some v:=by simp [wH,h,a]
theorem intP_ne {s:Bs} {v:Int} (h:oZ s=.ok v) (a:¬mC v=s):wH s=none:=by simp [wH,h,a]
theorem x5f {s:Bs} {u:Unit} (h:oZ s=.error u):wH s=none:=by simp [wH,h]
theorem y5a {s:Bs} {v:Int} (h:wH s=some v):I64 v:=by
 unfold wH at h
 split at h
 ·rename_i v' h2
  split at h
  ·simp only [Option.some.injEq] at h;subst h;exact y2d h2
  ·cases h
 ·cases h
theorem jW {ws:List Bs} {i:Nat} {p:Bs->Bool} {x:Bs×Nat} (h:kW ws p i=.ok x):x.2=i+1/\x.2<=ws.length:=by have:=z8z h;omega
theorem pE {ws:List Bs} {i:Nat} {w:Bs} {x:Unit×Nat} (h:vH ws w i=.ok x):x.2=i+1/\x.2<=ws.length:=by have:=q1v h;omega
def tU (ws:List Bs) (d:Nat):Prop:=∀{V:Fz} {K:List Res} {w:World} {r i:Nat} {rs:Value},Glob V->SliceOf RStr V 1 rs ws->i<=ws.length ->
  Mem V (.blk r (ob [rs,.int .i64 i] 208)::K) w ->
  Calls Tryz.prog 180 #[.pointer (some ⟨r,0,none⟩),.int .i64 d] w (fun ee w'=>Out (zS ws d i)
   (fun x=>∃y:Fz×List Value,ee=.returned (.agg y.2.toArray)/\(V.Le y.1/\REx y.1 y.2 x.1)/\Mem y.1 (.blk r (ob [rs,.int .i64 ((x.2:Nat):Int)] 208)::K) w')
   (fun c=>ee=.panicked (nI c)/\Mem V K w'))
theorem aG:I64 0:=⟨by decide,by decide⟩
theorem REx.leaf {V:Fz} {k n:Int} {s:Bs} (h:I64 n):REx V [.int .i64 k,.int .i64 n,.string s,.slice none 0 0,.slice none 0 0] (.mk k n s [] []) :=
 REx.iff.2 ⟨_,_,rfl,h,SliceOf.nil 5,SliceOf.nil 7⟩
theorem REx.node {V:Fz} {k:Int} {s:Bs} {v:Value} {l:List Ex} (h:SliceOf REx V 5 v l):REx V [.int .i64 k,.int .i64 0,.string s,v,.slice none 0 0] (.mk k 0 s l []) :=
 REx.iff.2 ⟨_,_,rfl,aG,h,SliceOf.nil 7⟩
theorem REx.full {V:Fz} {k:Int} {s:Bs} {v u:Value} {l:List Ex} {m:List Arm} (h:SliceOf REx V 5 v l) (h2:SliceOf RArm V 7 u m):REx V [.int .i64 k,.int .i64 0,.string s,v,u] (.mk k 0 s l m) :=
 REx.iff.2 ⟨_,_,rfl,aG,h,h2⟩
theorem Chunks.one {α:Type} {R:List Value->α->Prop} {k:Nat} {a:List Value} {x:α} (la:a.length=k) (b:R a x):Chunks R k a [x]:=⟨a,[],by simp,la,b,rfl⟩
theorem Chunks.two {α:Type} {R:List Value->α->Prop} {k:Nat} {a b:List Value} {x y:α} (la:a.length=k) (c:R a x) (lb:b.length=k) (hb:R b y):Chunks R k (a++b) [x,y]:=⟨a,b,rfl,la,c,Chunks.one lb hb⟩
section
variable {P:Program} {n:Nat} {E:List (Nat×Value)} {D:List Deferred} {a:Act} {V:Fz} {K:List Res} {w:World} {ty:TypeId}
theorem y7y (i m:Nat) {x:Operand} {t e T:TypeId} {k:Nat} {v:Value} {cs:List Value} (J:EnvR n E D a) (O:Sees V K w) (g:ev E x=some v) (d:qH K i=some (.gs v T k cs)) (hl:cs.length=m * k) (b:0 < k) (f:Under P t (.slice e)) :
  Ok P a (.call { callee:=.builtin .len,args:=#[x],argTypes:=#[t] }) ty w (.int .i64 m):=by
 obtain ⟨p,m',c,rfl,h1,_⟩:=O.gsForm d
 have:m'=m:=Nat.eq_of_mul_eq_mul_right b (h1.symm.trans hl)
 subst this
 exact y0w J g f
end
section
variable {ws:List Bs} {i d:Nat}
theorem q0u:zS ws 0 i=.error (i+1):=rfl
theorem expr_no (h:zB ws i=⟨#[]⟩):zS ws (d+1) i=.error (i+1):=by rw [zS,if_pos (show zB ws i=sNo from h)]
theorem x3k {n:Int} (h:¬zB ws i=⟨#[]⟩) (a:wH (zB ws i)=some n):zS ws (d+1) i=.ok (.mk 1 n sNo [] [],i+1):=by
 rw [zS,if_neg (show ¬zB ws i=sNo from h),a]
theorem expr_fe {c:Nat} (h:¬zB ws i=⟨#[]⟩) (b:wH (zB ws i)=none) (e:zB ws i=⟨#[40]⟩) (a:yX ws (zS ws d) (i+1)=.error c):zS ws (d+1) i=.error c:=by
 rw [zS,if_neg (show ¬zB ws i=sNo from h),b];show (if zB ws i=kD then _ else _)=_;rw [if_pos (show zB ws i=kD from e),zP a]
theorem expr_fc {c:Nat} {x:Ex×Nat} (h:¬zB ws i=⟨#[]⟩) (e:wH (zB ws i)=none) (f:zB ws i=⟨#[40]⟩) (b:yX ws (zS ws d) (i+1)=.ok x) (a:vH ws ⟨#[41]⟩ x.2=.error c):zS ws (d+1) i=.error c:=by
 rw [zS,if_neg (show ¬zB ws i=sNo from h),e];show (if zB ws i=kD then _ else _)=_;rw [if_pos (show zB ws i=kD from f),zD b];exact zP a
theorem j9m {x:Ex×Nat} {y:Unit×Nat} (h:¬zB ws i=⟨#[]⟩) (c:wH (zB ws i)=none) (e:zB ws i=⟨#[40]⟩) (b:yX ws (zS ws d) (i+1)=.ok x) (a:vH ws ⟨#[41]⟩ x.2=.ok y):zS ws (d+1) i=.ok (x.1,y.2):=by
 rw [zS,if_neg (show ¬zB ws i=sNo from h),c];show (if zB ws i=kD then _ else _)=_;rw [if_pos (show zB ws i=kD from e),zD b];exact zD a
theorem x3j {x:Bs×Nat} (h:¬zB ws i=⟨#[]⟩) (b:wH (zB ws i)=none) (c:¬zB ws i=⟨#[40]⟩) (a:yO (zB ws i)=true) (e:oS ws i=.ok x):zS ws (d+1) i=.ok (.mk 4 0 x.1 [] [],x.2):=by
 have hx':=(y7g h a).symm.trans e
 simp only [Except.ok.injEq] at hx';subst hx'
 rw [zS,if_neg (show ¬zB ws i=sNo from h),b];show (if zB ws i=kD then _ else _)=_;rw [if_neg (show ¬zB ws i=kD from c),if_pos a]
theorem j9l {c:Nat} {Q:Prop} (h:¬zB ws i=⟨#[]⟩) (a:yO (zB ws i)=true) (b:oS ws i=.error c):Q:=by cases (y7g h a).symm.trans b
theorem j1w (h:¬zB ws i=⟨#[]⟩) (c:wH (zB ws i)=none) (e:¬zB ws i=⟨#[40]⟩) (a:yO (zB ws i)=false) (hb:zC (zB ws i) 0=33) (b:yT ((zB ws i).extract 1 (zB ws i).size)=true) :
  zS ws (d+1) i=.ok (.mk 3 0 ((zB ws i).extract 1 (zB ws i).size) [] [],i+1):=by
 rw [zS,if_neg (show ¬zB ws i=sNo from h),c];show (if zB ws i=kD then _ else _)=_;rw [if_neg (show ¬zB ws i=kD from e),if_neg (by rw [a];decide),if_pos ⟨hb,b⟩]
theorem z2q (h:¬zB ws i=⟨#[]⟩) (b:wH (zB ws i)=none) (c:¬zB ws i=⟨#[40]⟩) (a:yO (zB ws i)=false) (hb:¬(zC (zB ws i) 0=33/\yT ((zB ws i).extract 1 (zB ws i).size)=true)) :
  zS ws (d+1) i=yA (vU ws i) fun x j=>.ok (.mk 2 0 x [] [],j):=by
 rw [zS,if_neg (show ¬zB ws i=sNo from h),b];show (if zB ws i=kD then _ else _)=_;rw [if_neg (show ¬zB ws i=kD from c),if_neg (by rw [a];decide),if_neg hb]
theorem q9s {s:Bs} (h:¬s=⟨#[]⟩):0 < s.size:=by
 refine Nat.pos_of_ne_zero fun e=>h ?_
 apply ByteArray.ext
 exact Array.eq_empty_of_size_eq_zero e
variable {ex:Nat->Rd Ex} {f least:Nat}
theorem x5n (h:¬0 < least) (h2:zB ws i=⟨#[41]⟩):kB ws ex (f+1) least i=.ok ([],i):=by
 rw [kB,if_neg];rintro (a | a);exact h a;exact a h2
theorem j6y (h:0 < least∨¬zB ws i=⟨#[41]⟩):kB ws ex (f+1) least i=yA (ex i) fun e i=>yA (kB ws ex f (least - 1) i) fun l i=>.ok (e::l,i):=by
 rw [kB,if_pos];exact h.imp_right fun h=>h
end
def wC {α:Type} (xs:List α) (r:Rd (List α)):Rd (List α):=yA r fun l k=>.ok (xs++l,k)
theorem oR {α:Type} (r:Rd (List α)):r=wC [] r:=by
 unfold wC;cases r with
 | ok x=>rfl
 | error c=>rfl
theorem pre1_ok {α:Type} (xs:List α) (l:List α) (k:Nat):wC xs (.ok (l,k))=.ok (xs++l,k):=rfl
theorem oB {α:Type} (xs:List α) (x:α) (r:Rd (List α)):wC xs (yA r fun l k=>.ok (x::l,k))=wC (xs++[x]) r:=by
 unfold wC;cases r with
 | ok y=>simp [yA]
 | error c=>rfl
section
variable {ws:List Bs} {ex:Nat->Rd Ex} {f m j:Nat} {r:Rd (List Ex)} {xs:List Ex}
theorem x5o (a:r=wC xs (kB ws ex f (m - xs.length) j)) (b:0 < f) (h:¬xs.length < m) (h2:zB ws j=⟨#[41]⟩):r=.ok (xs,j):=by
 obtain ⟨f,rfl⟩:∃k,f=k+1:=⟨f - 1,by omega⟩
 rw [a,x5n (by omega) h2,pre1_ok,List.append_nil]
theorem q1n {c:Nat} (a:r=wC xs (kB ws ex f (m - xs.length) j)) (b:0 < f) (h:xs.length < m∨¬zB ws j=⟨#[41]⟩) (J:ex j=.error c):r=.error c:=by
 obtain ⟨f,rfl⟩:∃k,f=k+1:=⟨f - 1,by omega⟩
 rw [a,j6y (h.imp_left fun h=>by omega),zP J];rfl
theorem q1o {x:Ex×Nat} (a:r=wC xs (kB ws ex f (m - xs.length) j)) (b:0 < f) (h:xs.length < m∨¬zB ws j=⟨#[41]⟩) (J:ex j=.ok x) :
  r=wC (xs++[x.1]) (kB ws ex (f - 1) (m - (xs++[x.1]).length) x.2):=by
 obtain ⟨f,rfl⟩:∃k,f=k+1:=⟨f - 1,by omega⟩
 rw [a,j6y (h.imp_left fun h=>by omega),zD J,oB,Nat.add_sub_cancel,laQ,Nat.sub_sub];rfl
end
section
variable {ws:List Bs} {ex:Nat->Rd Ex} {f j:Nat} {r:Rd (List Arm)} {xs:List Arm}
theorem x2l (b:r=wC xs (dB ws ex f (decide (xs.length=0)) j)) (c:0 < f) (h:¬xs.length=0) (h2:¬zB ws j=⟨#[40]⟩):r=.ok (xs,j):=by
 obtain ⟨f,rfl⟩:∃k,f=k+1:=⟨f - 1,by omega⟩
 rw [b,dB,if_neg (by rintro (a | a);exact h (of_decide_eq_true a);exact h2 a)];simp [wC,yA]
theorem kE {c:Nat} (a:r=wC xs (dB ws ex f (decide (xs.length=0)) j)) (b:0 < f) (h:xs.length=0∨zB ws j=⟨#[40]⟩) (J:armP ws ex j=.error c):r=.error c:=by
 obtain ⟨f,rfl⟩:∃k,f=k+1:=⟨f - 1,by omega⟩
 rw [a,dB,if_pos (show decide (xs.length=0)=true∨zB ws j=kD from h.imp_left fun h=>decide_eq_true h),zP J];rfl
theorem y9v {x:Arm×Nat} (a:r=wC xs (dB ws ex f (decide (xs.length=0)) j)) (b:0 < f) (h:xs.length=0∨zB ws j=⟨#[40]⟩) (J:armP ws ex j=.ok x):r=wC (xs++[x.1]) (dB ws ex (f - 1) (decide ((xs++[x.1]).length=0)) x.2):=by
 obtain ⟨f,rfl⟩:∃k,f=k+1:=⟨f - 1,by omega⟩
 rw [a,dB,if_pos (show decide (xs.length=0)=true∨zB ws j=kD from h.imp_left fun h=>decide_eq_true h),zD J,oB,Nat.add_sub_cancel];simp
end
section
variable {ws:List Bs} {f j:Nat} {r:Rd (List Bs)} {xs:List Bs}
theorem j0d (b:r=wC xs (cA ws f j)) (c:0 < f) (h:zB ws j=⟨#[45,62]⟩):r=.ok (xs,j):=by
 obtain ⟨f,rfl⟩:∃k,f=k+1:=⟨f - 1,by omega⟩
 rw [b,cA,if_neg (fun a=>a h)];simp [wC,yA]
theorem q2q {c:Nat} (a:r=wC xs (cA ws f j)) (b:0 < f) (h:¬zB ws j=⟨#[45,62]⟩) (J:vU ws j=.error c):r=.error c:=by
 obtain ⟨f,rfl⟩:∃k,f=k+1:=⟨f - 1,by omega⟩
 rw [a,cA,if_pos (show zB ws j≠wY from h),zP J];rfl
theorem q2r {x:Bs×Nat} (a:r=wC xs (cA ws f j)) (b:0 < f) (h:¬zB ws j=⟨#[45,62]⟩) (J:vU ws j=.ok x):r=wC (xs++[x.1]) (cA ws (f - 1) x.2):=by
 obtain ⟨f,rfl⟩:∃k,f=k+1:=⟨f - 1,by omega⟩
 rw [a,cA,if_pos (show zB ws j≠wY from h),zD J,oB,Nat.add_sub_cancel]
end
section
variable {ws:List Bs} {f j:Nat} {r:Rd (List Bs)} {xs:List Bs}
theorem j1x (a:r=wC xs (xC ws f j)) (b:0 < f) (h:yO (zB ws j)=false):r=.ok (xs,j):=by
 obtain ⟨f,rfl⟩:∃k,f=k+1:=⟨f - 1,by omega⟩
 rw [a,xC,if_neg (by rw [h];decide)];simp [wC,yA]
theorem q7i {c:Nat} (a:r=wC xs (xC ws f j)) (b:0 < f) (h:yO (zB ws j)=true) (J:oS ws j=.error c):r=.error c:=by
 obtain ⟨f,rfl⟩:∃k,f=k+1:=⟨f - 1,by omega⟩
 rw [a,xC,if_pos h,zP J];rfl
theorem q7j {x:Bs×Nat} (a:r=wC xs (xC ws f j)) (b:0 < f) (h:yO (zB ws j)=true) (J:oS ws j=.ok x):r=wC (xs++[x.1]) (xC ws (f - 1) x.2):=by
 obtain ⟨f,rfl⟩:∃k,f=k+1:=⟨f - 1,by omega⟩
 rw [a,xC,if_pos h,zD J,oB,Nat.add_sub_cancel]
end
section
variable {ws:List Bs} {ex:Nat->Rd Ex} {i:Nat}
theorem j6d (h:mT (zB ws i)=true):yX ws ex i=yA (z3k ex (i+1)) fun l j=>.ok (.mk 8 0 (zB ws i) l [],j):=by rw [yX,if_pos h]
theorem y4q (h:mT (zB ws i)=false) (h2:zB ws i=⟨#[108,101,116]⟩):yX ws ex i=yA (vU ws (i+1)) fun x j=>yA (z3k ex j) fun l j=>.ok (.mk 6 0 x l [],j):=by
 rw [yX,if_neg (by rw [h];decide)];exact if_pos h2
theorem xW (h:mT (zB ws i)=false) (h2:¬zB ws i=⟨#[108,101,116]⟩) (b:zB ws i=⟨#[99,97,115,101]⟩) :
  yX ws ex i=yA (ex (i+1)) fun a j=>yA (dB ws ex (ws.length+1) true j) fun l j=>.ok (.mk 7 0 sNo [a] l,j):=by
 rw [yX,if_neg (by rw [h];decide)];exact (if_neg h2).trans (if_pos b)
theorem q7l (h:mT (zB ws i)=false) (h2:¬zB ws i=⟨#[108,101,116]⟩) (a:¬zB ws i=⟨#[99,97,115,101]⟩) (b:yO (zB ws i)=true) :
  yX ws ex i=yA (kB ws ex (ws.length+1) 1 (i+1)) fun l j=>.ok (.mk 4 0 (zB ws i) l [],j):=by
 rw [yX,if_neg (by rw [h];decide)];exact (if_neg h2).trans ((if_neg a).trans (if_pos b))
theorem z8h (h:mT (zB ws i)=false) (h2:¬zB ws i=⟨#[108,101,116]⟩) (a:¬zB ws i=⟨#[99,97,115,101]⟩) (b:yO (zB ws i)=false) :
  yX ws ex i=yA (vU ws i) fun x j=>yA (kB ws ex (ws.length+1) 0 j) fun l j=>.ok (.mk 5 0 x l [],j):=by
 rw [yX,if_neg (by rw [h];decide)];exact (if_neg h2).trans ((if_neg a).trans (if_neg (by rw [b];decide)))
theorem isOp_no {s:Bs} (h1:¬s=⟨#[43]⟩) (h2:¬s=⟨#[45]⟩) (a:¬s=⟨#[42]⟩) (b:¬s=⟨#[47]⟩) (c:¬s=⟨#[37]⟩) (d:¬s=⟨#[60]⟩) (e:¬s=⟨#[61]⟩):mT s=false:=by
 simp [mT,h1,h2,a,b,c,d,e]
theorem oM {s:Bs} (h:s=⟨#[43]⟩∨s=⟨#[45]⟩∨s=⟨#[42]⟩∨s=⟨#[47]⟩∨s=⟨#[37]⟩∨s=⟨#[60]⟩∨s=⟨#[61]⟩):mT s=true:=by
 rcases h with h | h | h | h | h | h | h <;> subst h <;> rfl
end
theorem RArm.of {V:Fz} {c:Bs} {v:Value} {b:List Value} {vs:List Bs} {e:Ex} (h:SliceOf RStr V 1 v vs) (hb:REx V b e):RArm V (.string c::v::b) (.mk c vs e):=RArm.iff.2 ⟨_,_,rfl,h,hb⟩
theorem xY {ws:List Bs} {i:Nat} {s:Bs} (h:zB ws i=s) (O:s≠⟨#[]⟩):i < ws.length:=vD fun e=>O (h.symm.trans e)
theorem j6t {ws:List Bs} {i:Nat} (h:mT (zB ws i)=true):i < ws.length:=vD fun e=>by rw [e] at h;revert h;decide
theorem x5i {ws:List Bs} {i:Nat} (h:yO (zB ws i)=true):i < ws.length:=vD fun e=>by rw [e] at h;revert h;decide
theorem two_le {ws:List Bs} {d i:Nat} {x:List Ex×Nat} (h:z3k (zS ws d) i=.ok x):i < x.2/\x.2<=ws.length:=y7m (xI d) i x h
theorem j6x {ws:List Bs} {d i f m:Nat} {x:List Ex×Nat} (a:i<=ws.length) (h:kB ws (zS ws d) f m i=.ok x):i<=x.2/\x.2<=ws.length:=uG (xI d) f m i x a h
theorem form_le {ws:List Bs} {d i:Nat} {x:Ex×Nat} (h:yX ws (zS ws d) i=.ok x):i < x.2/\x.2<=ws.length:=q0w (xI d) i x h
section
variable {ws:List Bs} {f j:Nat} {xs:List Con} {r:Rd (List Con)} {n:Bs×Nat} {l:List Bs} {k c:Nat}
theorem j1l (a:r=wC xs (aW ws f j)) (b:0 < f) (J:oS ws j=.error c):r=.error c:=by
 obtain ⟨f,rfl⟩:∃k,f=k+1:=⟨f - 1,by omega⟩
 rw [a,aW,zP J];rfl
theorem j1m (a:r=wC xs (aW ws f j)) (b:0 < f) (h1:oS ws j=.ok n) (J:xC ws (ws.length+1) n.2=.error c):r=.error c:=by
 obtain ⟨f,rfl⟩:∃k,f=k+1:=⟨f - 1,by omega⟩
 rw [a,aW,zD h1,zP J];rfl
theorem x2w (a:r=wC xs (aW ws f j)) (b:0 < f) (h1:oS ws j=.ok n) (h2:xC ws (ws.length+1) n.2=.ok (l,k)) (hb:¬zB ws k=⟨#[124]⟩):r=.ok (xs++[⟨n.1,l⟩],k):=by
 obtain ⟨f,rfl⟩:∃k,f=k+1:=⟨f - 1,by omega⟩
 rw [a,aW,zD h1,zD h2,if_pos (show zB ws k≠y1h from hb)];rfl
theorem j8n (a:r=wC xs (aW ws f j)) (b:0 < f) (h1:oS ws j=.ok n) (h2:xC ws (ws.length+1) n.2=.ok (l,k)) (hb:zB ws k=⟨#[124]⟩):r=wC (xs++[⟨n.1,l⟩]) (aW ws (f - 1) (k+1)):=by
 obtain ⟨f,rfl⟩:∃k,f=k+1:=⟨f - 1,by omega⟩
 rw [a,aW,zD h1,zD h2,if_neg (show ¬zB ws k≠y1h from fun h=>h hb),oB,Nat.add_sub_cancel]
end
section
variable {ws:List Bs} {f j:Nat} {xs:List Param} {r:Rd (List Param)} {p:Param×Nat} {y:Unit×Nat} {c:Nat}
theorem j3b (a:r=wC xs (vZ ws f j)) (b:0 < f) (h:¬zB ws j=⟨#[40]⟩):r=.ok (xs,j):=by
 obtain ⟨f,rfl⟩:∃k,f=k+1:=⟨f - 1,by omega⟩
 rw [a,vZ,if_neg (show ¬zB ws j=kD from h)];simp [wC,yA]
theorem q4x (a:r=wC xs (vZ ws f j)) (b:0 < f) (h:zB ws j=⟨#[40]⟩) (J:xX ws (j+1)=.error c):r=.error c:=by
 obtain ⟨f,rfl⟩:∃k,f=k+1:=⟨f - 1,by omega⟩
 rw [a,vZ,if_pos (show zB ws j=kD from h),zP J];rfl
theorem q4y (a:r=wC xs (vZ ws f j)) (b:0 < f) (h:zB ws j=⟨#[40]⟩) (h1:xX ws (j+1)=.ok p) (J:vH ws ⟨#[41]⟩ p.2=.error c):r=.error c:=by
 obtain ⟨f,rfl⟩:∃k,f=k+1:=⟨f - 1,by omega⟩
 rw [a,vZ,if_pos (show zB ws j=kD from h),zD h1,zP (show vH ws jQ p.2=_ from J)];rfl
theorem q8r (a:r=wC xs (vZ ws f j)) (b:0 < f) (h:zB ws j=⟨#[40]⟩) (h1:xX ws (j+1)=.ok p) (h2:vH ws ⟨#[41]⟩ p.2=.ok y):r=wC (xs++[p.1]) (vZ ws (f - 1) y.2):=by
 obtain ⟨f,rfl⟩:∃k,f=k+1:=⟨f - 1,by omega⟩
 rw [a,vZ,if_pos (show zB ws j=kD from h),zD h1,zD (show vH ws jQ p.2=_ from h2),oB,Nat.add_sub_cancel]
end
theorem q8q {ws:List Bs} {i:Nat} {x:Param×Nat} (h:xX ws i=.ok x):i < x.2/\x.2<=ws.length:=param_goes i x h
theorem data_le {ws:List Bs} {i:Nat} {x:Data×Nat} (h:nK ws i=.ok x):i < x.2/\x.2<=ws.length:=z7u i x h
theorem fun_le {ws:List Bs} {i:Nat} {x:Fun×Nat} (h:dH ws i=.ok x):i < x.2/\x.2<=ws.length:=y4r i x h
def seqR:Code->Code
 | .seq _ y=>y
 | c=>c
section
variable {ws:List Bs} {f j n:Nat} {c:Core}
theorem j8u (h:¬j < ws.length) (a:0 < f):qW ws f c j=.ok c:=by
 obtain ⟨f,rfl⟩:∃k,f=k+1:=⟨f - 1,by omega⟩
 rw [qW,if_neg h]
theorem j1o {x:Data×Nat} (h:j < ws.length) (d:0 < f) (a:zB ws j=⟨#[100,97,116,97]⟩) (b:nK ws (j+1)=.ok x):qW ws f c j=qW ws (f - 1) { c with datas:=c.datas++[x.1] } x.2:=by
 obtain ⟨f,rfl⟩:∃k,f=k+1:=⟨f - 1,by omega⟩
 rw [qW,if_pos h,if_pos (show zB ws j=dI from a),b];rfl
theorem q6u (h:j < ws.length) (d:0 < f) (a:zB ws j=⟨#[100,97,116,97]⟩) (b:nK ws (j+1)=.error n):qW ws f c j=.error n:=by
 obtain ⟨f,rfl⟩:∃k,f=k+1:=⟨f - 1,by omega⟩
 rw [qW,if_pos h,if_pos (show zB ws j=dI from a),b]
theorem q6v {x:Param×Nat} (h:j < ws.length) (d:0 < f) (h1:¬zB ws j=⟨#[100,97,116,97]⟩) (a:zB ws j=⟨#[105,110,112,117,116]⟩) (b:xX ws (j+1)=.ok x):qW ws f c j=qW ws (f - 1) { c with inputs:=c.inputs++[x.1] } x.2:=by
 obtain ⟨f,rfl⟩:∃k,f=k+1:=⟨f - 1,by omega⟩
 rw [qW,if_pos h,if_neg (show ¬zB ws j=dI from h1),if_pos (show zB ws j=aH from a),b];rfl
theorem q3o (h:j < ws.length) (d:0 < f) (h1:¬zB ws j=⟨#[100,97,116,97]⟩) (a:zB ws j=⟨#[105,110,112,117,116]⟩) (b:xX ws (j+1)=.error n):qW ws f c j=.error n:=by
 obtain ⟨f,rfl⟩:∃k,f=k+1:=⟨f - 1,by omega⟩
 rw [qW,if_pos h,if_neg (show ¬zB ws j=dI from h1),if_pos (show zB ws j=aH from a),b]
theorem j8v {x:Fun×Nat} (h:j < ws.length) (d:0 < f) (h1:¬zB ws j=⟨#[100,97,116,97]⟩) (h2:¬zB ws j=⟨#[105,110,112,117,116]⟩) (a:zB ws j=⟨#[102,117,110]⟩) (b:dH ws (j+1)=.ok x):qW ws f c j=qW ws (f - 1) { c with funs:=c.funs++[x.1] } x.2:=by
 obtain ⟨f,rfl⟩:∃k,f=k+1:=⟨f - 1,by omega⟩
 rw [qW,if_pos h,if_neg (show ¬zB ws j=dI from h1),if_neg (show ¬zB ws j=aH from h2),if_pos (show zB ws j=y5f from a),b];rfl
theorem j1p (h:j < ws.length) (d:0 < f) (h1:¬zB ws j=⟨#[100,97,116,97]⟩) (h2:¬zB ws j=⟨#[105,110,112,117,116]⟩) (a:zB ws j=⟨#[102,117,110]⟩) (b:dH ws (j+1)=.error n):qW ws f c j=.error n:=by
 obtain ⟨f,rfl⟩:∃k,f=k+1:=⟨f - 1,by omega⟩
 rw [qW,if_pos h,if_neg (show ¬zB ws j=dI from h1),if_neg (show ¬zB ws j=aH from h2),if_pos (show zB ws j=y5f from a),b]
theorem j8w {x:Bs×Nat} (h:j < ws.length) (e:0 < f) (h1:¬zB ws j=⟨#[100,97,116,97]⟩) (h2:¬zB ws j=⟨#[105,110,112,117,116]⟩) (a:¬zB ws j=⟨#[102,117,110]⟩) (b:zB ws j=⟨#[111,117,116,112,117,116]⟩) (d:vU ws (j+1)=.ok x):qW ws f c j=qW ws (f - 1) { c with outputs:=c.outputs++[x.1] } x.2:=by
 obtain ⟨f,rfl⟩:∃k,f=k+1:=⟨f - 1,by omega⟩
 rw [qW,if_pos h,if_neg (show ¬zB ws j=dI from h1),if_neg (show ¬zB ws j=aH from h2),if_neg (show ¬zB ws j=y5f from a),if_pos (show zB ws j=sG from b),d];rfl
theorem j1q (h:j < ws.length) (e:0 < f) (h1:¬zB ws j=⟨#[100,97,116,97]⟩) (h2:¬zB ws j=⟨#[105,110,112,117,116]⟩) (a:¬zB ws j=⟨#[102,117,110]⟩) (b:zB ws j=⟨#[111,117,116,112,117,116]⟩) (d:vU ws (j+1)=.error n):qW ws f c j=.error n:=by
 obtain ⟨f,rfl⟩:∃k,f=k+1:=⟨f - 1,by omega⟩
 rw [qW,if_pos h,if_neg (show ¬zB ws j=dI from h1),if_neg (show ¬zB ws j=aH from h2),if_neg (show ¬zB ws j=y5f from a),if_pos (show zB ws j=sG from b),d]
theorem j8t (h:j < ws.length) (d:0 < f) (h1:¬zB ws j=⟨#[100,97,116,97]⟩) (h2:¬zB ws j=⟨#[105,110,112,117,116]⟩) (a:¬zB ws j=⟨#[102,117,110]⟩) (b:¬zB ws j=⟨#[111,117,116,112,117,116]⟩):qW ws f c j=.error (j+1):=by
 obtain ⟨f,rfl⟩:∃k,f=k+1:=⟨f - 1,by omega⟩
 rw [qW,if_pos h,if_neg (show ¬zB ws j=dI from h1),if_neg (show ¬zB ws j=aH from h2),if_neg (show ¬zB ws j=y5f from a),if_neg (show ¬zB ws j=sG from b)]
end
section
variable {P:Program} {ops:Array Oper} {md:Region.Mode} {B:World->Prop} {kd:List Nat} {Qp:List PanicEntry->World->Prop} {D:List Deferred}
theorem q5m {Inv:Act->Prop} (t:∀(i:Nat) (o:Oper) (a:Act) (v:Value),ops[i]? = some o->Inv a->Inv (a.put o.dst v)) {Q:Act->World->Prop} {Q':Exit->Act->World->Prop} (hQ:∀a w,Q a w->Q' .normal a w) (G:∀c a w,Inv a->Qp c w->Q' (.panic c) a w) :
  ∀(n:Nat) (listed:Array Bool) (a:Act) (w:World),Inv a->((List.range ops.size).any (fun i=>qC kd i==2 && !listed.getD i true)=true->B w) ->
   q5n P md ops B kd Qp Q n listed a w->wpAny P md ops Q' n listed a w:=by
 intro n
 induction n with
 | zero=>intro listed a w _ _ h;exact ⟨h.1,hQ _ _ h.2⟩
 | succ n s=>
  intro listed a w q y h
  refine ⟨fun D=>hQ _ _ (h.1 D),fun i u=>?_⟩
  have hi':=mem_ready.1 u
  have f:((List.range ops.size).any (fun k=>qC kd k==2 && !(listed.setIfInBounds i true).getD k true)=true->B w):=fun m=>by
   apply y
   rw [List.any_eq_true] at m ⊢
   obtain ⟨k,r,b⟩:=m
   simp only [baQ,beq_iff_eq,Bool.not_eq_true'] at b
   refine ⟨k,r,?_⟩
   simp only [baQ,beq_iff_eq,Bool.not_eq_true']
   refine ⟨b.1,?_⟩
   by_cases d:i=k
   ·subst d;exact hi'.1
   ·rw [getD_set_ne true d] at b;exact b.2
  have h1:=h.2 i u
  unfold aC at h1
  unfold wpOp
  cases l:ops[i]? with
  | none=>simp only [l] at h1 ⊢;exact s _ _ _ q f h1
  | some o=>
   simp only [l] at h1 ⊢
   by_cases C:Region.wanted o (yielded ops a.tmps)=true
   ·rw [if_pos C] at h1 ⊢
    refine .inl (cS ?_)
    by_cases z:qC kd i=0
    ·rw [if_pos z] at h1
     refine qB h1 (fun v w' A=>s _ _ _ (t _ _ _ _ l q) (fun m=>A.1 ?_) A.2) (fun c w' F=>G c a w' q F)
     rw [List.any_eq_true] at m
     obtain ⟨k,r,b⟩:=m
     simp only [baQ,beq_iff_eq,Bool.not_eq_true'] at b
     unfold oN
     rw [List.any_eq_true]
     have j:k < kd.length:=by
      by_cases j:k < kd.length
      ·exact j
      ·have:=b.1
       simp [qC,List.getD_eq_getElem?_getD,List.getElem?_eq_none (Nat.le_of_not_lt j)] at this
     refine ⟨k,List.mem_range.2 j,?_⟩
     simp only [baQ,beq_iff_eq,Bool.not_eq_true']
     refine ⟨b.1,?_⟩
     rw [<- Bool.not_eq_true]
     intro m
     obtain ⟨e,J,hb⟩:=Array.any_eq_true'.1 m
     simp only [baQ,beq_iff_eq] at hb
     obtain ⟨_,o',ho',p⟩:=hi'
     rw [l] at ho'
     cases ho'
     have hl:=p e J hb.1
     rw [hb.2] at hl
     have g:=b.2
     by_cases d:i=k
     ·subst d
      have:=(mem_ready.1 u).1
      rcases Nat.lt_or_ge i listed.size with h' | h'
      ·simp [h'] at hl this;rw [hl] at this;cases this
      ·simp [Array.getElem?_eq_none h'] at hl
     ·rw [getD_set_ne true d] at g
      rcases Nat.lt_or_ge k listed.size with h' | h'
      ·simp [h'] at hl g;rw [hl] at g;cases g
      ·simp [Array.getElem?_eq_none h'] at hl
    ·rw [if_neg z] at h1
     obtain ⟨v,h2,E⟩:=h1
     have hr:=h2 w (fun e=>y (by
      rw [List.any_eq_true]
      refine ⟨i,List.mem_range.2 (Array.getElem?_eq_some_iff.1 l).1,?_⟩
      simp only [baQ,beq_iff_eq,Bool.not_eq_true']
      exact ⟨e,hi'.1⟩))
     unfold Oper.eff
     rw [hr]
     exact s _ _ _ (t _ _ _ _ l q) f E
   ·rw [if_neg C] at h1 ⊢
    exact s _ _ _ (t _ _ _ _ l q) f h1
theorem y7t {r:Option Nat} {m:Nat} (C:∀(i:Nat) (o:Oper),ops[i]? = some o->∀c,o.op≠.defer c) {Inv:Act->Prop} (z:∀(i:Nat) (o:Oper) (a:Act) (v:Value),ops[i]? = some o->Inv a->Inv (a.put o.dst v)) {Q:Act->World->Prop} {Q':Exit->Act->World->Prop} (hQ:∀a w,Q a w->Q' .normal a w) (L:∀c a w,Inv a->Qp c w->Q' (.panic c) a w) :
  ∀(n:Nat) (listed:Array Bool) (a:Act) (w:World),Inv a->((List.range ops.size).any (fun i=>qC kd i==2 && !listed.getD i true)=true->B w) ->
   q5n P md ops B kd Qp Q n listed a w->wpAnyIn (FO r) m P md ops Q' n listed a w:=by
 intro n
 induction n with
 | zero=>intro listed a w _ _ h;exact ⟨h.1,hQ _ _ h.2⟩
 | succ n y=>
  intro listed a w t D h
  refine ⟨fun H=>hQ _ _ (h.1 H),fun i A=>?_⟩
  have hi':=mem_ready.1 A
  have g:((List.range ops.size).any (fun k=>qC kd k==2 && !(listed.setIfInBounds i true).getD k true)=true->B w):=fun q=>by
   apply D
   rw [List.any_eq_true] at q ⊢
   obtain ⟨k,u,b⟩:=q
   simp only [baQ,beq_iff_eq,Bool.not_eq_true'] at b
   refine ⟨k,u,?_⟩
   simp only [baQ,beq_iff_eq,Bool.not_eq_true']
   refine ⟨b.1,?_⟩
   by_cases d:i=k
   ·subst d;exact hi'.1
   ·rw [getD_set_ne true d] at b;exact b.2
  have h1:=h.2 i A
  unfold aC at h1
  unfold wpOpIn
  cases p:ops[i]? with
  | none=>simp only [p] at h1 ⊢;exact y _ _ _ t g h1
  | some o=>
   simp only [p] at h1 ⊢
   by_cases G:Region.wanted o (yielded ops a.tmps)=true
   ·rw [if_pos G] at h1 ⊢
    refine z2e (C _ _ p) ?_
    by_cases E:qC kd i=0
    ·rw [if_pos E] at h1
     refine qB h1 (fun v w' F=>y _ _ _ (z _ _ _ _ p t) (fun q=>F.1 ?_) F.2) (fun c w' K=>L c a w' t K)
     rw [List.any_eq_true] at q
     obtain ⟨k,u,b⟩:=q
     simp only [baQ,beq_iff_eq,Bool.not_eq_true'] at b
     unfold oN
     rw [List.any_eq_true]
     have l:k < kd.length:=by
      by_cases l:k < kd.length
      ·exact l
      ·have:=b.1
       simp [qC,List.getD_eq_getElem?_getD,List.getElem?_eq_none (Nat.le_of_not_lt l)] at this
     refine ⟨k,List.mem_range.2 l,?_⟩
     simp only [baQ,beq_iff_eq,Bool.not_eq_true']
     refine ⟨b.1,?_⟩
     rw [<- Bool.not_eq_true]
     intro q
     obtain ⟨e,J,hb⟩:=Array.any_eq_true'.1 q
     simp only [baQ,beq_iff_eq] at hb
     obtain ⟨_,o',ho',s⟩:=hi'
     rw [p] at ho'
     cases ho'
     have hl:=s e J hb.1
     rw [hb.2] at hl
     have j:=b.2
     by_cases d:i=k
     ·subst d
      have:=(mem_ready.1 A).1
      rcases Nat.lt_or_ge i listed.size with h' | h'
      ·simp [h'] at hl this;rw [hl] at this;cases this
      ·simp [Array.getElem?_eq_none h'] at hl
     ·rw [getD_set_ne true d] at j
      rcases Nat.lt_or_ge k listed.size with h' | h'
      ·simp [h'] at hl j;rw [hl] at j;cases j
      ·simp [Array.getElem?_eq_none h'] at hl
    ·rw [if_neg E] at h1
     obtain ⟨v,h2,I⟩:=h1
     have hr:=h2 w (fun e=>D (by
      rw [List.any_eq_true]
      refine ⟨i,List.mem_range.2 (Array.getElem?_eq_some_iff.1 p).1,?_⟩
      simp only [baQ,beq_iff_eq,Bool.not_eq_true']
      exact ⟨e,hi'.1⟩))
     unfold Oper.eff
     rw [hr]
     exact y _ _ _ (z _ _ _ _ p t) g I
   ·rw [if_neg G] at h1 ⊢
    exact ⟨fun f _=>FO.fn f,y _ _ _ (z _ _ _ _ p t) g h1⟩
end
theorem EnvR.keep {n:Nat} {E0:List (Nat×Value)} {D:List Deferred} {a:Act} {o:Oper} {v:Value} (J:EnvR n E0 D a) (b:(match o.dst with | some d=>(get E0 d).isNone | none=>true)=true):EnvR n E0 D (a.put o.dst v):=by
 cases c:o.dst with
 | none=>exact J
 | some d=>
  rw [c] at b
  refine ⟨by simp [Act.put,J.size],fun t u h=>?_,J.defs⟩
  have:t≠d:=fun e=>by subst e;simp only [h] at b;cases b
  simp only [Act.put]
  rw [Array.getElem?_setIfInBounds_ne (Ne.symm this)]
  exact J.env t u h
theorem gZ {P:Program} {n:Nat} {E0:List (Nat×Value)} {D:List Deferred} {a:Act} {V:Fz} {K:List Res} {w:World} {id:Nat} {l:List Oper} {Q:Exit->Act->World->Prop} (kd:List Nat) (p:Plan) (K':List Res) (g:EnvR n E0 D a) (N:Mem V K w) (q:P.follows .mixedOrders=true) (f:z6m l.toArray kd p=true) (j:∀r∈K',r∈K)
  (m:l.all (fun o=>match o.dst with | some d=>(get E0 d).isNone | none=>true)=true)
  (h:∀w,Mem V K w->yF P .any l.toArray (Sees V K') kd (fun c w=>∀a,EnvR n E0 D a->Q (.panic c) a w) (Q .normal) p a w):(Code.region id l.toArray true).wp P Q a w:=by
 have hm':=N.drew
 have h:=h _ hm'
 simp only [z6m,baQ,beq_iff_eq] at f
 obtain ⟨⟨⟨O,b⟩,hl⟩,e⟩:=f
 refine wp_region_any q (q5m (Inv:=EnvR n E0 D) (kd:=kd) (B:=Sees V K') (Qp:=fun c w=>∀a,EnvR n E0 D a->Q (.panic c) a w) (Q:=Q .normal) (fun i o a v k J=>J.keep ?_) (fun _ _ h=>h) (fun c a w J h=>h a J) _ _ _ _ g (fun _=>⟨hm'.fz,fun r hr=>hm'.own r (j r hr)⟩) ?_)
 ·have h1:l[i]? = some o:=by simpa using k
  exact List.all_eq_true.1 m o (mgQ h1)
 ·have:=kZ O p _ _ _ b e h
  rw [hl] at this
  exact this
theorem y9j {P:Program} {n m:Nat} {r:Option Nat} {E:List (Nat×Value)} {a:Act} {V:Fz} {K:List Res} {w:World} {id:Nat} {l:List Oper} {Q:Exit->Act->World->Prop} (kd:List Nat) (p:Plan) (K':List Res) (J:EnvR n E [] a) (N:Mem V K w) (q:P.follows .mixedOrders=true) (e:z6m l.toArray kd p=true) (f:∀r∈K',r∈K)
  (k:l.all (fun o=>match o.op with | .defer _=>false | _=>true)=true)
  (h:∀w,Mem V K w->yF P .any l.toArray (Sees V K') kd (fun _ _=>False) (Q .normal) p a w):(Code.region id l.toArray true).wpIn (FO r) m P Q a w:=by
 have hm':=N.drew
 have h:=h _ hm'
 simp only [z6m,baQ,beq_iff_eq] at e
 obtain ⟨⟨⟨O,b⟩,hl⟩,d⟩:=e
 refine wpIn_region_any q (y7t (Inv:=fun _=>True) (kd:=kd) (B:=Sees V K') (Qp:=fun _ _=>False) (Q:=Q .normal) (fun i o j c g=>?_) (fun _ _ _ _ _ h=>h) (fun _ _ h=>h) (fun _ _ _ _ h=>h.elim) _ _ _ _ trivial (fun _=>⟨hm'.fz,fun r hr=>hm'.own r (f r hr)⟩) ?_)
 ·have h1:l[i]? = some o:=by simpa using j
  have h2:=List.all_eq_true.1 k o (mgQ h1)
  rw [g] at h2;cases h2
 ·have:=kZ O p _ _ _ b d h
  rw [hl] at this
  exact this
theorem oT (p:Nat->Bool) (t:Bs):∀(f i j:Nat),j < yR p t f i->i+j < t.size/\p (zC t (i+j))=true
 | 0,i,j,h=>by simp [yR] at h
 | f+1,i,j,h=>by
  simp only [yR] at h
  split at h
  ·rename_i h1
   cases j with
   | zero=>exact h1
   | succ j=>
    have:=oT p t f (i+1) j (by omega)
    rw [show i+(j+1)=i+1+j by omega];exact this
  ·omega
theorem y6t (p:Nat->Bool) (t:Bs):∀(f i:Nat),t.size<=i+f->i+yR p t f i < t.size->p (zC t (i+yR p t f i))=false
 | 0,i,h,h2=>by simp only [yR] at h2 ⊢;omega
 | f+1,i,h,h2=>by
  by_cases h1:i < t.size/\p (zC t i)=true
  ·have e:yR p t (f+1) i=yR p t f (i+1)+1:=by simp only [yR];rw [if_pos h1]
   rw [e] at h2 ⊢
   have:=y6t p t f (i+1) (by omega) (by omega)
   rw [show i+(yR p t f (i+1)+1)=i+1+yR p t f (i+1) by omega];exact this
  ·have e:yR p t (f+1) i=0:=by simp only [yR];rw [if_neg h1]
   rw [e] at h2 ⊢
   cases a:p (zC t (i+0)) with
   | false=>rfl
   | true=>exact absurd ⟨by omega,a⟩ h1
theorem byte_eq (b k:UInt8):(b==k)=decide (b.toNat=k.toNat):=by
 rw [Bool.eq_iff_iff];simp [UInt8.toNat_inj]
theorem aP (b:UInt8):([32,10,40,41]:List UInt8).contains b=oY b.toNat:=by
 simp only [List.contains_cons,List.contains_nil,oY,byte_eq,Bool.or_false]
 simp [Bool.or_assoc]
theorem y4j {t:Bs} {i j:Nat} (c:i+j < t.size):(t.extract i t.size).data.toList[j]? = some t[i+j]:=by
 rw [Array.getElem?_toList]
 have h:=ByteArray.data_extract (a:=t) (b:=i) (e:=t.size)
 rw [h,Array.getElem?_extract]
 have:t.data.size=t.size:=rfl
 rw [if_pos (by omega),Array.getElem?_eq_getElem (by omega)]
 rfl
theorem pI {t:Bs} {i:Nat} (h:i < t.size):zC t i=t[i].toNat:=by simp [zC,h]
theorem q7h {t:Bs} {i:Nat} {x:UInt8} {j:Nat} (h:(t.extract i t.size).data.toList[j]? = some x):i+j < t.size:=by
 have h1:=(List.getElem?_eq_some_iff.1 h).1
 have h2:(t.extract i t.size).data.toList.length=(t.extract i t.size).size:=by rw [Array.length_toList];rfl
 have c:=ByteArray.size_extract (a:=t) (b:=i) (e:=t.size)
 omega
theorem z0i {t:Bs} {i:Nat} (h:i<=t.size):i+qD t i<=t.size:=kU _ t t.size i h
theorem j8e {t:Bs} {i:Nat} (f:i<=t.size):Lib.indexAny (t.extract i t.size).data.toList [32,10,40,41]=if i+qD t i < t.size then ((qD t i:Nat):Int) else -1:=by
 have d:∀n,n<=qD t i->Lib.NoAny (t.extract i t.size).data.toList [32,10,40,41] n:=fun n g j b l hb=>by
  have h1:=q7h hb
  rw [y4j h1] at hb
  simp only [Option.some.injEq] at hb
  have h2:=(oT (fun c=> !oY c) t t.size i j (by unfold qD at g;omega)).2
  rw [aP,<- hb,<- pI h1]
  simpa using h2
 split
 ·rename_i h
  have h2:=y6t (fun c=> !oY c) t t.size i (by omega) h
  refine Lib.indexAny_hit (x:=t[i+qD t i]) (d _ (Nat.le_refl _)) (y4j h) ?_
  rw [aP,<- pI h]
  simpa [qD] using h2
 ·rename_i h
  refine Lib.indexAny_none ?_
  have h1:=z0i f
  have h2:(t.extract i t.size).data.toList.length=(t.extract i t.size).size:=by rw [Array.length_toList];rfl
  have k:=ByteArray.size_extract (a:=t) (b:=i) (e:=t.size)
  exact d _ (by omega)
theorem x8j {t:Bs} {i:Nat} (a:i<=t.size) (h:(if i+qD t i < t.size then ((qD t i:Nat):Int) else -1) < 0):i+qD t i=t.size:=by
 have:=z0i a
 split at h <;> omega
theorem x8k {t:Bs} {i:Nat} (h:¬(if i+qD t i < t.size then ((qD t i:Nat):Int) else -1) < 0):(if i+qD t i < t.size then ((qD t i:Nat):Int) else -1)=((qD t i:Nat):Int):=by
 split at h
 ·rename_i h1;rw [if_pos h1]
 ·omega
theorem z3d {t:Bs} {f i:Nat} (h:¬i < t.size):vW t f i=[]:=by cases f with
 | zero=>rfl
 | succ f=>rw [vW,if_neg h]
theorem j0m {t:Bs} {f i:Nat} (h:i < t.size) (a:t.size<=i+f) (hb:zC t i=32∨zC t i=10):vW t f i=vW t (f - 1) (i+1):=by
 obtain ⟨f,rfl⟩:∃k,f=k+1:=⟨f - 1,by omega⟩
 rw [vW,if_pos h,if_pos hb];rfl
theorem q2w {t:Bs} {f i:Nat} (h:i < t.size) (b:t.size<=i+f) (a:¬(zC t i=32∨zC t i=10)) (hb:zC t i=40∨zC t i=41):vW t f i=t.extract i (i+1)::vW t (f - 1) (i+1):=by
 obtain ⟨f,rfl⟩:∃k,f=k+1:=⟨f - 1,by omega⟩
 rw [vW,if_pos h,if_neg a,if_pos hb];rfl
theorem y7s {t:Bs} {f i:Nat} (h:i < t.size) (b:t.size<=i+f) (a:¬(zC t i=32∨zC t i=10)) (hb:¬(zC t i=40∨zC t i=41)):vW t f i=t.extract i (i+qD t i)::vW t (f - 1) (i+qD t i):=by
 obtain ⟨f,rfl⟩:∃k,f=k+1:=⟨f - 1,by omega⟩
 rw [vW,if_pos h,if_neg a,if_neg hb];rfl
theorem j0j {t:Bs} {i:Nat} (h:i < t.size) (a:¬(zC t i=32∨zC t i=10)) (hb:¬(zC t i=40∨zC t i=41)):0 < qD t i:=by
 unfold qD
 rw [xP,if_pos]
 ·omega
 ·refine ⟨h,?_⟩
  simp only [oY]
  simp only [not_or] at a hb
  simp [a.1,a.2,hb.1,hb.2]
theorem dT {t:Bs}:∀f i s,s∈vW t f i->s.size<=t.size
 | 0,i,s,h=>by cases h
 | f+1,i,s,h=>by
  have c:∀a b,(t.extract a b).size<=t.size:=fun a b=>by have:=ByteArray.size_extract (a:=t) (b:=a) (e:=b);omega
  simp only [vW] at h
  split at h
  ·split at h
   ·exact dT f _ s h
   ·split at h
    ·rcases List.mem_cons.1 h with rfl | h
     ·exact c _ _
     ·exact dT f _ s h
    ·rcases List.mem_cons.1 h with rfl | h
     ·exact c _ _
     ·exact dT f _ s h
  ·cases h
theorem dS {t:Bs}:∀f i,(vW t f i).length<=f
 | 0,i=>by simp [vW]
 | f+1,i=>by
  simp only [vW]
  split
  ·split
   ·exact Nat.le_succ_of_le (dS f _)
   ·split
    ·simpa using dS f _
    ·simpa using dS f _
  ·simp
theorem q2b {ws:List Bs} {n:Nat} (h:∀s∈ws,s.size<=n) (j:Nat):(zB ws j).size<=n:=by
 unfold zB
 rw [List.getD_eq_getElem?_getD]
 cases a:ws[j]? with
 | none=>exact Nat.zero_le _
 | some x=>exact h _ (mgQ a)
section
variable {V:Fz} {K:List Res} {w:World}
theorem mF {r i:Nat} {rs:Value} {ws:List Bs} (rl:SliceOf RStr V 1 rs ws) (k:ws.length<=1000000) (m:i<=ws.length) (N:Mem V (.blk r (ob [rs,.int .i64 i] 208)::K) w) :
  Calls prog 179 #[.pointer (some ⟨r,0,none⟩)] w (fun ee w'=>ee=.returned (.string (zB ws i))/\Mem V (.blk r (ob [rs,.int .i64 i] 208)::K) w'):=by
 obtain ⟨pw,cw,rfl,j,d⟩:=rl.fm
 refine zI func179 ntmps179 fun Q hQ a J=>?_
 refine Reg [1,1,1,2,1,1,1,2,1,1] [0] fun w N a J=>?_
 by_cases f:i < ws.length
 refine Reg [1,1,1,2,1,1,1,2,1,2,1] [0] fun w N a J=>?_
 refine go fun a J=>?_
 obtain ⟨n,rfl,l,e,c,h,g,b⟩:=rl.el d f
 obtain rfl:c=[.string l]:=b
 refine zF ?_
 rw [jL e];exact ⟨rfl,N⟩
 refine zF ?_
 rw [q8y f];exact ⟨rfl,N⟩
theorem tP {r i:Nat} {rs:Value} {ws:List Bs} (rl:SliceOf RStr V 1 rs ws) (e:ws.length<=1000000) (f:i<=ws.length) (N:Mem V (.blk r (ob [rs,.int .i64 i] 208)::K) w) :
  Calls prog 130 #[.pointer (some ⟨r,0,none⟩)] w (fun ee w'=>ee=.panicked (nI (i+1))/\Mem V K w'):=by
 obtain ⟨pw,cw,rfl,c,d⟩:=rl.fm
 refine zI func130 ntmps130 fun Q hQ a J=>?_
 refine zU fun a J=>?_
 refine Qq (fun a J=>?_) (o:=by exact fun J O=>qN J rfl runUnderlying204 (by intro ms h;cases h))
 refine st0 J rfl rfl (vK J rfl (vM _) (fun a b=>hQ _ _ _ (yY b ?_)))
 replace N:=N.dl [0]
 exact ⟨rfl,N⟩
theorem y6r {r i:Nat} {rs:Value} {ws:List Bs} {g:Nat} {fs cs:List Value} {p:Bs->Bool} (k:∀args w,(callFunc g args).run prog w=.ok (.enter g args) w)
  (j:∀{w:World} (s:Bs),Mem V (.blk r (ob [rs,.int .i64 i] 208)::K) w->Calls prog g (fs++[Value.string s]++cs).toArray w (fun ee w'=>ee=.returned (.bool (p s))/\Mem V (.blk r (ob [rs,.int .i64 i] 208)::K) w')) (rl:SliceOf RStr V 1 rs ws) (d:ws.length<=1000000) (n:i<=ws.length) (N:Mem V (.blk r (ob [rs,.int .i64 i] 208)::K) w) :
  Calls prog 181 #[.pointer (some ⟨r,0,none⟩),.func (.func g) fs.toArray cs.toArray] w (fun ee w'=>Out (kW ws p i) (fun x=>ee=.returned (.string x.1)/\Mem V (.blk r (ob [rs,.int .i64 ((x.2:Nat):Int)] 208)::K) w') (fun c=>ee=.panicked (nI c)/\Mem V K w')):=by
 obtain ⟨pw,cw,rfl,l,m⟩:=rl.fm
 refine zI func181 ntmps181 fun Q hQ a J=>?_
 refine zO call179 (fun w N a J=>?_) (c:=mF (i:=i) rl d (by omega) N)
 by_cases e:(zB ws i)=(⟨#[]⟩:Bs)
 refine go fun a J=>?_
 refine st J rfl rfl rfl (hO J rfl call130 (tP (i:=i) rl d (by omega) N) (fun w N=>fun a f=>hQ _ _ _ (yY f ?_)))
 show Out (kW ws p i) _ _
 rw [x7l e];exact ⟨rfl,N⟩
 refine y1u k (fun b w N a J=>?_) (fun b w N a J=>?_) (c:=by exact j _ N)
 have h:=vD e
 refine Sto 0 fun w N a J=>?_
 refine zF ?_
 show Out (kW ws p i) _ _
 rw [y7g e b];exact ⟨rfl,N⟩
 refine go fun a J=>?_
 refine st J rfl rfl rfl (hO J rfl call130 (tP (i:=i) rl d (by omega) N) (fun w N=>fun a f=>hQ _ _ _ (yY f ?_)))
 show Out (kW ws p i) _ _
 rw [x1r b];exact ⟨rfl,N⟩
theorem x5y {b:Nat} {s x:Bs} (N:Mem V (.blk b (ob [.string x] 9)::K) w) :
  Calls prog 204 #[.string s,.pointer (some ⟨b,0,none⟩)] w (fun ee w'=>ee=.returned (.bool (decide (s=x)))/\Mem V (.blk b (ob [.string x] 9)::K) w'):=by
 refine zI func204 ntmps204 fun Q hQ a J=>?_
 refine Qq (fun a J=>?_) (o:=by exact fun J O=>z3f J rfl rfl)
 refine zF ?_
 exact ⟨rfl,N⟩
theorem pG {r i:Nat} {rs:Value} {ws:List Bs} {x:Bs} (rl:SliceOf RStr V 1 rs ws) (e:ws.length<=1000000) (l:i<=ws.length) (N:Mem V (.blk r (ob [rs,.int .i64 i] 208)::K) w) :
  Calls prog 177 #[.pointer (some ⟨r,0,none⟩),.string x] w (fun ee w'=>Out (vH ws x i) (fun x=>ee=.returned (.tuple #[])/\Mem V (.blk r (ob [rs,.int .i64 ((x.2:Nat):Int)] 208)::K) w') (fun c=>ee=.panicked (nI c)/\Mem V K w')):=by
 obtain ⟨pw,cw,rfl,g,j⟩:=rl.fm
 refine zI func177 ntmps177 fun Q hQ a J=>?_
 refine Bx fun f w N a J=>?_
 replace N:=N.ar [] [1,1,1]
 refine jE call181 (fun k w b N a J=>?_) (fun k w b N=>?_) (c:=y6r (p:=fun s=>decide (s=x)) (fs:=[]) (cs:=[.pointer (some ⟨f,0,none⟩)]) call204 (fun s N=>(x5y (N.pull (i:=1) rfl)).mono fun _ _ h=>⟨h.1,h.2.pull (i:=1) rfl⟩) (i:=i) rl e (by omega) N)
 have d:=jW b
 refine go fun a J=>?_
 replace N:=N.dl [1]
 refine hQ _ _ _ (aM J results177 ?_)
 show Out (vH ws x i) _ _
 rw [x5z b];exact ⟨rfl,N⟩
 replace N:=N.dl [0]
 show Out (vH ws x i) _ _
 rw [x0p b];exact ⟨rfl,N⟩
theorem sK {r i:Nat} {rs:Value} {ws:List Bs} (G:Glob V) (rl:SliceOf RStr V 1 rs ws) (e:ws.length<=1000000) (j:i<=ws.length) (N:Mem V (.blk r (ob [rs,.int .i64 i] 208)::K) w) :
  Calls prog 176 #[.pointer (some ⟨r,0,none⟩)] w (fun ee w'=>Out (oS ws i) (fun x=>ee=.returned (.string x.1)/\Mem V (.blk r (ob [rs,.int .i64 ((x.2:Nat):Int)] 208)::K) w') (fun c=>ee=.panicked (nI c)/\Mem V K w')):=by
 obtain ⟨pw,cw,rfl,g,h⟩:=rl.fm
 refine zI func176 ntmps176 fun Q hQ a J=>?_
 refine jE call181 (fun f w b N a J=>?_) (fun f w b N=>?_) (c:=y6r (p:=yO) (fs:=[]) (cs:=[]) call178 (fun s N=>mB G N) (i:=i) rl e (by omega) N)
 have d:=jW b
 refine zF ?_
 show Out (oS ws i) _ _
 rw [show oS ws i=.ok f from b];exact ⟨rfl,N⟩
 show Out (oS ws i) _ _
 rw [show oS ws i=_ from b];exact ⟨rfl,N⟩
theorem aN {r i:Nat} {rs:Value} {ws:List Bs} (G:Glob V) (rl:SliceOf RStr V 1 rs ws) (e:ws.length<=1000000) (j:i<=ws.length) (N:Mem V (.blk r (ob [rs,.int .i64 i] 208)::K) w) :
  Calls prog 129 #[.pointer (some ⟨r,0,none⟩)] w (fun ee w'=>Out (vU ws i) (fun x=>ee=.returned (.string x.1)/\Mem V (.blk r (ob [rs,.int .i64 ((x.2:Nat):Int)] 208)::K) w') (fun c=>ee=.panicked (nI c)/\Mem V K w')):=by
 obtain ⟨pw,cw,rfl,g,h⟩:=rl.fm
 refine zI func129 ntmps129 fun Q hQ a J=>?_
 refine jE call181 (fun f w b N a J=>?_) (fun f w b N=>?_) (c:=y6r (p:=yT) (fs:=[]) (cs:=[]) call138 (fun s N=>tH G N) (i:=i) rl e (by omega) N)
 have d:=jW b
 refine zF ?_
 show Out (vU ws i) _ _
 rw [show vU ws i=.ok f from b];exact ⟨rfl,N⟩
 show Out (vU ws i) _ _
 rw [show vU ws i=_ from b];exact ⟨rfl,N⟩
theorem j2c {s:Bs} (O:s.size<=1000000) (G:Glob V) (N:Mem V K w) :
  Calls prog 205 #[.string s] w (fun ee w'=>∃y:Int,ee=.returned (.tuple #[.int .i64 y,.bool (wH s).isSome])/\(∀v,wH s=some v->y=v)/\Mem V K w'):=by
 refine zI func205 ntmps205 fun Q hQ a J=>?_
 refine go fun a J=>?_
 refine st J rfl rfl rfl (q0p J rfl call217 (j5o (by exact O) G N) (fun e w b N a J=>?_) (fun e f w b N a J=>?_))
 replace N:=N.nf
 refine Qq (fun a J=>?_) (o:=by exact fun J O=>nT (v:=.bool true) J rfl rfl rfl (by kernel_rfl))
 refine zO call122 (fun w N a J=>?_) (c:=q4k (y2d b) G.tabs N)
 refine Qq (fun a J=>?_) (o:=by exact fun J O=>z3f J rfl rfl)
 refine jO ?_
 by_cases d:mC e=s
 rw [j9y b d,decide_eq_true d];exact ⟨_,rfl,(fun v h=>by injection h),N⟩
 rw [intP_ne b d,decide_eq_false d];exact ⟨_,rfl,(fun v h=>by cases h),N⟩
 replace N:=N.nf
 refine Qq (fun a J=>?_) (o:=by exact fun J O=>nT (v:=.bool false) J rfl rfl rfl (by kernel_rfl))
 refine jO ?_
 rw [x5f b];exact ⟨_,rfl,(fun v h=>by cases h),N⟩
end
end Go.Sw
