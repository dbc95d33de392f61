/- OptShrinks: for every traced program and every step the law returns true: each step but RInline makes the program smaller; the statement optShrinksCardSaid, as it is given; nothing is assumed beyond it. -/
import Derived.Test.YtlfobekmmndchaaGreatDoorY16
set_option linter.unusedVariables false
set_option linter.unusedSimpArgs false
namespace Go.Sw
open Go.Proofs Go.Proofs.Tryz
set_option maxRecDepth 20000
set_option maxHeartbeats 4000000
mutual
def kF:TE->Nat
 | .mk k _ _ _ _ _ arms body=>(if k=1 then 1 else 0)+(opcTa arms+opcTs body)
def opcTs:List TE->Nat
 | []=>0
 | x::xs=>kF x+opcTs xs
def opcTa:List TA->Nat
 | []=>0
 | .mk _ _ b::xs=>kF b+opcTa xs
end
theorem z3a (e:TE):kF e=(if e.kind=1 then 1 else 0)+(opcTa e.arms+opcTs e.body):=by cases e;rfl
theorem q8l (a:TA) (l:List TA):opcTa (a::l)=kF a.body+opcTa l:=by cases a;rfl
def aY (l:List TFn):Nat:=(l.map fun f=>kF f.body).sum
def y4r (y x:TE):Prop:=zA y < zA x∨(zA y=zA x/\kF y < kF x)
section
variable {T:Trc} {F:TFn} {x y:TE}
theorem oT (h:ArI x) (a:1<=x.kind) (c:x.kind<=6):zA (jQ x) < zA x:=by
 have:=h.rest a c;unfold jQ
 match hb:x.body,this with
 | [b],_=>exact vN (by rw [hb];exact msQ)
theorem uL {m:Atoms} {b:TE} (h:(⟨T,F⟩:FnS).put m b=some y) (hb:zA b < zA x):y4r y x:=.inl (by rw [cW h];exact hb)
theorem z9n (hb:zA (jQ x) < zA x):∀{l:List TE},(⟨T,F⟩:FnS).fuse x l=some y->y4r y x
 | [],h=>by cases h
 | v::l,h=>by
  rw [FnS.fuse] at h;split at h
  ·exact uL h hb
  ·exact z9n hb h
theorem uX (hb:zA (jQ x) < zA x):∀{l:List TE},(⟨T,F⟩:FnS).forward x l=some y->y4r y x
 | [],h=>by cases h
 | v::l,h=>by
  rw [FnS.forward] at h;split at h
  ·obtain ⟨g,_,h⟩:=Option.bind_eq_some_iff.1 h
   split at h
   ·exact uL (qD h).2 hb
   ·cases h
  ·exact uX hb h
theorem y4y {c:Bs} {l:List Atom} (h:(⟨T,F⟩:FnS).arm x c l=some y):y4r y x:=by
 unfold FnS.arm at h;obtain ⟨a,b,h⟩:=Option.bind_eq_some_iff.1 h;exact uL h (kM (List.mem_of_find?_eq_some b))
theorem z6e:∀{l:List (TE×Int)},(⟨T,F⟩:FnS).known x l=some y->y4r y x
 | [],h=>by cases h
 | (v,i)::l,h=>by
  rw [FnS.known] at h;split at h
  ·exact y4y h
  ·split at h
   ·obtain ⟨a,_,h⟩:=Option.bind_eq_some_iff.1 h;exact y4y h
   ·exact z6e h
theorem j7l {r:Int} {up:List TE} {p:List Int} (a:ArI x) (g:r≠6) (h:(⟨T,F⟩:FnS).try5 r x up p=some y):y4r y x:=by
 unfold FnS.try5 at h;obtain ⟨N,h⟩:=qD h;unfold FnS.may at N;by_cases c:r=1
 ·rw [if_pos c] at h N
  have f:=(of_decide_eq_true N).1;unfold FnS.fold at h;simp only at h;split at h
  ·exact uL h (oT a (by omega) (by omega))
  ·split at h
   ·have:=(qD h).2
    cases this;refine .inr ⟨?_,?_⟩
    ·rw [zA,jX x,a.arms (by omega)]
    ·rw [kF,z3a x,if_pos f,a.arms (by omega),if_neg (by decide)];omega
   ·cases h
 rw [if_neg c] at h N;by_cases d:r=2
 ·rw [if_pos d] at h N
  have N:=of_decide_eq_true N;cases h;exact .inl (oT a N.1 N.2.1)
 rw [if_neg d] at h N;by_cases b:r=4
 ·rw [if_neg (by omega),if_pos b] at h;exact z6e h
 rw [if_neg b,if_neg g] at N;have f:=(of_decide_eq_true N).1;by_cases e:r=3
 ·rw [if_pos e] at h;exact z9n (oT a (by omega) (by omega)) h
 ·rw [if_neg e,if_neg b] at h;exact uX (oT a (by omega) (by omega)) h
end
theorem y2k:∀{l:List TA} {j:Nat} {a:TA} {b:TE},l[j]? = some a->weightTa (l.set j (.mk a.con a.vars b))+zA a.body=weightTa l+zA b/\opcTa (l.set j (.mk a.con a.vars b))+kF a.body=opcTa l+kF b
 | [],_,_,_,h=>by simp at h
 | .mk c vs z::l,0,a,b,h=>by
  simp only [List.getElem?_cons_zero,Option.some.injEq] at h;subst h;rw [List.set_cons_zero,weightTa,weightTa,opcTa,opcTa];simp only [TA.body];omega
 | .mk c vs z::l,j+1,a,b,h=>by
  have:=y2k (l:=l) (j:=j) (a:=a) (b:=b) (by simpa using h);rw [List.set_cons_succ,weightTa,weightTa,opcTa,opcTa];omega
theorem y2b {y:TE}:∀(p:List Int) {e:TE} {up u:List TE} {x:TE},gdT e->yD up e p=some (u,x)->zA (zY e p y)+zA x=zA e+zA y/\kF (zY e p y)+kF x=kF e+kF y
 | [],e,up,u,x,_,h=>by rw [yD] at h;cases h;rw [zY];omega
 | i::p,e,up,u,x,d,h=>by
  rw [yD] at h;obtain ⟨z,g,l⟩:=Option.bind_eq_some_iff.1 h;have o:=y2b (y:=y) p (y8o d g) l;have c:=(nA d).ar;obtain ⟨j,rfl,m⟩:=gY (oC _ (q1y d)) g;rcases m with ⟨f,a,k,rfl⟩ | ⟨f,hb⟩
  ·rw [zY,if_pos f]
   simp only [Int.toNat_natCast,k];have:=y2k (b:=zY a.body p y) k;rw [zA,jX e,kF,z3a e];omega
  ·have hl:e.body=[z]:=by
    by_cases n:e.kind<=6
    ·have:=c.rest c.lo n
     match J:e.body,this with
     | [b],_=>
      rw [J] at hb;cases j with
      | zero=>simp only [List.getElem?_cons_zero,Option.some.injEq] at hb;rw [hb]
      | succ j=>simp at hb
    ·rw [c.last (by omega)] at hb;simp at hb
   rw [zY,if_neg f,hl];rw [zA,jX e,kF,z3a e,hl];simp only [weightTs,opcTs];omega
theorem y2n:∀{l:List TFn} {i:Nat} {f g:TFn},l[i]? = some f->wF (l.set i g)+zA f.body=wF l+zA g.body/\aY (l.set i g)+kF f.body=aY l+kF g.body
 | [],_,_,_,h=>by simp at h
 | x::l,0,f,g,h=>by
  simp only [List.getElem?_cons_zero,Option.some.injEq] at h;subst h;rw [List.set_cons_zero];simp only [wF,aY,List.map_cons,List.sum_cons];omega
 | x::l,i+1,f,g,h=>by
  have:=y2n (l:=l) (i:=i) (f:=f) (g:=g) (by simpa using h);rw [List.set_cons_succ];simp only [wF,aY,List.map_cons,List.sum_cons] at this ⊢;omega
theorem shrinks {T U:Trc} {r:Rw} (l:zM T=true) (i:r.rule≠6) (h:xD T r=.ok U):qF U < qF T∨(qF U=qF T/\aY U.funs < aY T.funs)∨(r.rule=7/\U.funs.length+1=T.funs.length):=by
 rw [vG i] at h;unfold vF at h;split at h
 ·cases h
 split at h
 ·cases h
 rename_i m;split at h
 ·split at h
  ·cases h
  ·rename_i j _;cases h
   refine .inr (.inr ⟨j,?_⟩);rw [List.length_eraseIdx,if_pos (by omega)];omega
 split at h
 ·cases h
 rename_i f e;split at h
 ·cases h
 rename_i up x d;split at h
 ·cases h
 split at h
 ·cases h
 rename_i y n;cases h;unfold z8e at e;obtain ⟨F,b,rfl⟩:=Option.map_eq_some_iff.1 e;have a:=(wV l).gd F (mgQ b);have c:=(z2d (C:=fun _ _=>True) _ a (z4l (fun _ _=>trivial) _) d).2;have o:=y2b (y:=y) _ a d;have e2:=y2n (g:={ F with body:=zY F.body r.path y }) b;have e3:=j7l (nA c).ar i n;have k:jI T r.fn.toNat (zY F.body r.path y)={ T with funs:=T.funs.set r.fn.toNat { F with body:=zY F.body r.path y } }:=by unfold jI;rw [b]
 rw [k];unfold wF at e2;show (List.map (fun f:TFn=>zA f.body) (T.funs.set r.fn.toNat { F with body:=zY F.body r.path y })).sum < (List.map (fun f:TFn=>zA f.body) T.funs).sum∨_;simp only [qF] at e2 ⊢;rcases e3 with e3 | ⟨e3,e4⟩
 ·left;omega
 ·right;left;omega
theorem q2z {l:List TA} {i:Nat} {a:TA} (h:l[i]? = some a):opcTa (l.drop i)=kF a.body+opcTa (l.drop (i+1)):=by rw [yM h,q8l]
theorem q3a {l:List TE} {i:Nat} {a:TE} (h:l[i]? = some a):opcTs (l.drop i)=kF a+opcTs (l.drop (i+1)):=by rw [yM h,opcTs]
mutual
theorem q8m:∀e:TE,kF e<=zA e
 | .mk _ _ _ _ _ _ arms body=>by rw [kF,zA];have a:=opc_leA arms;have c:=opc_leS body;split <;> omega
theorem opc_leS:∀l:List TE,opcTs l<=weightTs l
 | []=>Nat.le_refl _
 | x::l=>by rw [opcTs,weightTs];have a:=q8m x;have c:=opc_leS l;omega
theorem opc_leA:∀l:List TA,opcTa l<=weightTa l
 | []=>Nat.le_refl _
 | .mk _ _ b::l=>by rw [opcTa,weightTa];have a:=q8m b;have c:=opc_leA l;omega
end
def OpsC (e:TE):Prop:=∀{Φ:Fz} {K:List Res} {w:World} {d:List Value},RTE Φ d e->kF e<=1000000->Mem Φ K w ->
  Calls prog 15 #[.agg d.toArray] w (fun ee w'=>ee=.returned (.int .i64 ((kF e:Nat):Int))/\Mem Φ K w')
theorem x2r {e:TE} (c0:∀a∈e.arms,OpsC a.body) (d0:∀x∈e.body,OpsC x):OpsC e:=by
 intro Φ K w d re j1 N;have K1:=re;obtain ⟨p3,c4,p9,P1,c2,Q1,rfl,k1,l1,h2,h8,U,a2,b2,q1,B,r1,C⟩:=RTE.fm re;refine zJ func15 ntmps15 fun Q hQ a J=>?_;refine Bx fun N1 w N a J=>?_;by_cases V:e.kind=1;refine go fun a J=>?_;refine yO (J.ks [1]) N (fun R mm a w=>∃(i:Nat) (m:Nat),mm=e.arms.length - i/\R Φ [(3,.int .i64 m),(4,.int .i64 i)] [] a w/\(m+(opcTa (e.arms.drop i)+opcTs e.body)=kF e)) (e.arms.length - 0) ⟨0,1,rfl,⟨J.pk,N⟩,by rw [z3a e,if_pos V,List.drop_zero]⟩ ?_;clear N J;rintro mm a w ⟨i,m,h,⟨J,N⟩,z⟩ L1 Z;by_cases W:i < e.arms.length;refine go fun a J=>?_;obtain ⟨i2,rfl,f,E,Y0,o1,b0,e0⟩:=h8.el B W;obtain ⟨d2,c45,O1,rfl,T1,X,s1,y1⟩:=RTA.fm e0;obtain ⟨N0,c53,O0,j0,P0,k0,rfl,m1,n1,U1,V1,W1,t1,z1,u1,A1,v1,B1⟩:=RTE.fm X;refine Qq (fun a J=>?_) (o:=by exact fun J O=>vM 2 (vs:=[.int .i64 (f.body.kind),.string f.body.name,.string f.body.op,.int .i64 (f.body.num),.int .i64 (f.body.site),.slice N0 f.body.args.length c53,.slice O0 f.body.arms.length j0,.slice P0 f.body.body.length k0]) J O rfl b0 isAgg48 sizeOf48 rfl rfl);have g:=z;rw [q2z E] at g;refine zE call15 (fun w N a J=>?_) (c:=c0 _ (mgQ E) X (by omega) N);refine Qq (fun a J=>?_) (o:=by exact fun J O=>xJ (i:=m) (j:=(kF f.body)) J rfl rfl (by omega));refine go fun a J=>?_;refine Z _ _ _ (by subst h;omega) ⟨(i+1),((m+(kF f.body))),rfl,⟨J.pk,N⟩,?_⟩;omega;refine go fun a J=>?_
 refine yO (J.ks [1]) N (fun R mm a w=>∃(k:Nat) (l:Nat),mm=e.body.length - k/\R Φ [(3,.int .i64 l),(5,.int .i64 k)] [] a w/\(l+opcTs (e.body.drop k)=kF e)) (e.body.length - 0) ⟨0,m,rfl,⟨J.pk,N⟩,by have n:=z;rw [qV W,opcTa,Nat.zero_add] at n;exact n⟩ ?_;clear N J;rintro mm a w ⟨k,l,h,⟨J,N⟩,A⟩ M1 a0;by_cases Y:k < e.body.length;refine go fun a J=>?_;obtain ⟨j2,rfl,i0,F,Z0,p1,i1,D⟩:=U.el C Y;obtain ⟨e2,R1,f2,S1,g2,U0,rfl,o0,p0,X1,Y1,Z1,w1,C1,x1,D1,x0,F0⟩:=RTE.fm D;refine go fun a J=>?_;have g:=A;rw [q3a F] at g;refine zE call15 (fun w N a J=>?_) (c:=d0 _ (mgQ F) D (by omega) N);refine Qq (fun a J=>?_) (o:=by exact fun J O=>xJ (i:=l) (j:=(kF i0)) J rfl rfl (by omega));refine go fun a J=>?_;refine a0 _ _ _ (by subst h;omega) ⟨(k+1),((l+(kF i0))),rfl,⟨J.pk,N⟩,?_⟩;omega;refine yG ?_;replace N:=N.dl [0];rw [show kF e=l from by rw [<- A,qV Y];rfl];exact ⟨rfl,N⟩;refine go fun a J=>?_;refine yO (J.ks [1]) N (fun R mm a w=>∃(i:Nat) (m:Nat),mm=e.arms.length - i/\R Φ [(3,.int .i64 m),(4,.int .i64 i)] [] a w/\(m+(opcTa (e.arms.drop i)+opcTs e.body)=kF e)) (e.arms.length - 0) ⟨0,0,rfl,⟨J.pk,N⟩,by rw [z3a e,if_neg V,List.drop_zero]⟩ ?_;clear N J;rintro mm a w ⟨i,m,h,⟨J,N⟩,p⟩ Q0 H;by_cases u:i < e.arms.length;refine go fun a J=>?_;obtain ⟨I1,rfl,b,s,l0,u0,L,M⟩:=h8.el B u;obtain ⟨E1,V0,S0,rfl,a1,v,y0,G0⟩:=RTA.fm M;obtain ⟨f0,P,g0,S,h0,T,rfl,q0,r0,b1,c1,d1,z0,H0,A0,I0,B0,J0⟩:=RTE.fm v
 refine Qq (fun a J=>?_) (o:=by exact fun J O=>vM 2 (vs:=[.int .i64 (b.body.kind),.string b.body.name,.string b.body.op,.int .i64 (b.body.num),.int .i64 (b.body.site),.slice f0 b.body.args.length P,.slice g0 b.body.arms.length S,.slice h0 b.body.body.length T]) J O rfl L isAgg48 sizeOf48 rfl rfl);have g:=p;rw [q2z s] at g;refine zE call15 (fun w N a J=>?_) (c:=c0 _ (mgQ s) v (by omega) N);refine Qq (fun a J=>?_) (o:=by exact fun J O=>xJ (i:=m) (j:=(kF b.body)) J rfl rfl (by omega));refine go fun a J=>?_;refine H _ _ _ (by subst h;omega) ⟨(i+1),((m+(kF b.body))),rfl,⟨J.pk,N⟩,?_⟩;omega;refine go fun a J=>?_;refine yO (J.ks [1]) N (fun R mm a w=>∃(k:Nat) (l:Nat),mm=e.body.length - k/\R Φ [(3,.int .i64 l),(5,.int .i64 k)] [] a w/\(l+opcTs (e.body.drop k)=kF e)) (e.body.length - 0) ⟨0,m,rfl,⟨J.pk,N⟩,by have n:=p;rw [qV u,opcTa,Nat.zero_add] at n;exact n⟩ ?_;clear N J;rintro mm a w ⟨k,l,h,⟨J,N⟩,q⟩ R0 I;by_cases y:k < e.body.length;refine go fun a J=>?_;obtain ⟨J1,rfl,G,t,m0,w0,n0,r⟩:=U.el C y;obtain ⟨F1,c167,G1,c173,H1,X0,rfl,s0,t0,e1,f1,g1,C0,K0,D0,L0,E0,M0⟩:=RTE.fm r;refine go fun a J=>?_;have g:=q;rw [q3a t] at g;refine zE call15 (fun w N a J=>?_) (c:=d0 _ (mgQ t) r (by omega) N);refine Qq (fun a J=>?_) (o:=by exact fun J O=>xJ (i:=l) (j:=(kF G)) J rfl rfl (by omega));refine go fun a J=>?_;refine I _ _ _ (by subst h;omega) ⟨(k+1),((l+(kF G))),rfl,⟨J.pk,N⟩,?_⟩;omega;refine yG ?_;replace N:=N.dl [0];rw [show kF e=l from by rw [<- q,qV y];rfl];exact ⟨rfl,N⟩
theorem y0r:∀(n:Nat) (e:TE),zA e < n->OpsC e
 | 0,_,h=>by omega
 | n+1,e,h=>x2r (fun a b=>y0r n a.body (by have:=kM b;omega)) (fun x c=>y0r n x (by have:=vN c;omega))
theorem ops_ok (e:TE):OpsC e:=y0r _ e (Nat.lt_succ_self _)
section
variable {Φ:Fz} {K:List Res} {w:World}
theorem y0w {tc rc:List Value} {T:Trc} {ru fn nu:Int} {path:List Int} (f:RTrc Φ tc T) (rx:RRw Φ rc ⟨ru,fn,path,nu⟩) (G:Glob Φ) (E:zM T=false) (N:Mem Φ K w) :
  Calls prog 5 #[.agg tc.toArray,.agg rc.toArray] w (fun ee w'=>ee=.returned (.bool true)/\Mem Φ K w'):=by
 have Gl:=G;have b:=f;obtain ⟨U,c4,V,z,I,A,L,c22,rfl,j,R,S,C,D,F,H,k,n,l,p,m,q⟩:=RTrc.fm f;have g:=rx;obtain ⟨P,e,h,s,t,u,d⟩:=rx;subst e;obtain ⟨M,B,rfl,i,r⟩:=d.fm;refine zJ func5 ntmps5 fun Q hQ a J=>?_;refine Bx fun v w N a J=>?_;refine Bx fun x w N a J=>?_;refine zE call11 (fun w N a J=>?_) (c:=z7p Gl N);refine zE call13 (fun w N a J=>?_) (c:=y4w (z8b E) g b Gl N);refine Alc fun y w N a J=>?_;refine Sto 0 fun w N a J=>?_;refine Qq (fun a J=>?_) (o:=by exact fun J O=>xA true J rfl rfl rfl);refine yG ?_;replace N:=N.dl [2,1,0];exact ⟨rfl,N⟩
theorem j2k {l:List TFn} {i:Nat} {f:TFn} (h:l[i]? = some f):aY (l.drop i)=kF f.body+aY (l.drop (i+1)):=by rw [yM h];simp only [aY,List.map_cons,List.sum_cons]
theorem j2l:∀l:List TFn,aY l<=wF l
 | []=>Nat.le_refl _
 | f::l=>by have b:=q8m f.body;have a:=j2l l;simp only [aY,wF,List.map_cons,List.sum_cons] at a ⊢;omega
theorem opcF_b {T:Trc} (h:zM T=true):aY T.funs<=20000:=Nat.le_trans (j2l _) (valid_iff.1 h).size
theorem z7a {tc rc:List Value} {T:Trc} {ru fn nu:Int} {path:List Int} (l0:RTrc Φ tc T) (rx:RRw Φ rc ⟨ru,fn,path,nu⟩) (G:Glob Φ) (D:zM T=true) (N:Mem Φ K w) :
  Calls prog 5 #[.agg tc.toArray,.agg rc.toArray] w (fun ee w'=>ee=.returned (.bool true)/\Mem Φ K w'):=by
 have Gl:=G;have g:=l0;obtain ⟨p3,c4,p9,O1,d2,P1,e2,c22,rfl,m1,h2,h8,u,W1,b2,c2,p1,x1,q1,Z,r1,y1⟩:=RTrc.fm l0;have l:=rx;obtain ⟨n2,d0,n0,E1,F1,G1,b0⟩:=rx;subst d0;obtain ⟨f2,Q1,rfl,E0,z1⟩:=b0.fm;refine zJ func5 ntmps5 fun Q hQ a J=>?_;refine Bx fun K1 w N a J=>?_;refine Bx fun L1 w N a J=>?_;refine zE call11 (fun w N a J=>?_) (c:=z7p Gl N);refine dA call13 (fun d O0 w h b N a J=>?_) (fun d w h N a J=>?_) (c:=z7t g l Gl N);rw [tZ D] at h;have q:=valid_iff.2 (z5w (valid_iff.1 D) h);obtain ⟨t,R1⟩:=O0;simp only at b N J;replace Gl:=Gl.mono b.1;replace u:=u.mono RTFn.mono b.1;replace g:=RTrc.mono _ _ _ _ b.1 g;replace l:=RRw.mono _ _ _ _ b.1 l;have r:=b.2;have B:=r;obtain ⟨g2,c46,i2,S1,j2,T1,k2,U1,rfl,n1,X1,Y1,p0,Z1,s1,A1,t1,B1,u1,a0,v1,C1⟩:=RTrc.fm r;replace N:=N.nf;refine Alc fun M1 w N a J=>?_;refine Sto 0 fun w N a J=>?_;refine Qq (fun a J=>?_) (o:=by exact fun J O=>xA false J rfl rfl rfl);by_cases q0:ru=6;refine yG ?_;replace N:=N.le (b.1);replace N:=N.dl [2,1,0];exact ⟨rfl,N⟩;refine go fun a J=>?_;have k1:=opcF_b D;have l1:=opcF_b q;have s:=shrinks D (show (⟨ru,fn,path,nu⟩:Rw).rule≠6 from q0) h;replace s:qF d < qF T∨(qF d=qF T/\aY d.funs < aY T.funs)∨(ru=7/\d.funs.length+1=T.funs.length):=s;refine zE call14 (fun w N a J=>?_) (c:=sC D g Gl N);refine zE call14 (fun w N a J=>?_) (c:=sC q B Gl N);refine go fun a J=>?_
 refine yO (J.ks [2,3,5,6,8,9,10,11,13]) N (fun R mm a w=>∃(i:Nat) (H:Nat),mm=T.funs.length - i/\R t [(12,.int .i64 H),(14,.int .i64 i)] [] a w/\(H+aY (T.funs.drop i)=aY T.funs)) (T.funs.length - 0) ⟨0,0,rfl,⟨J.pk,N⟩,by rw [Nat.zero_add,List.drop_zero]⟩ ?_;clear N J;rintro mm a w ⟨i,H,z,⟨J,N⟩,p⟩ J1 X;by_cases V:i < T.funs.length;refine go fun a J=>?_;obtain ⟨m2,rfl,f,e0,U0,o1,Y,c0⟩:=u.el Z V;obtain ⟨l2,V1,N1,rfl,a2,W,w1,D1⟩:=RTFn.fm c0;obtain ⟨f0,I,g0,L,h0,M,rfl,r0,s0,V0,X0,Y0,x0,F0,y0,G0,z0,H0⟩:=RTE.fm W;refine Qq (fun a J=>?_) (o:=by exact fun J O=>vM 3 (vs:=[.int .i64 (f.body.kind),.string f.body.name,.string f.body.op,.int .i64 (f.body.num),.int .i64 (f.body.site),.slice f0 f.body.args.length I,.slice g0 f.body.arms.length L,.slice h0 f.body.body.length M]) J O rfl Y isAgg48 sizeOf48 rfl rfl);have v:=p;rw [j2k e0] at v;refine zE call15 (fun w N a J=>?_) (c:=ops_ok _ W (by omega) N);refine Qq (fun a J=>?_) (o:=by exact fun J O=>xJ (i:=H) (j:=(kF f.body)) J rfl rfl (by omega));refine go fun a J=>?_;refine X _ _ _ (by subst z;omega) ⟨(i+1),((H+(kF f.body))),rfl,⟨J.pk,N⟩,?_⟩;omega;refine go fun a J=>?_;have M0:H=aY T.funs:=by rw [<- p,qV V];rfl
 subst M0;refine go fun a J=>?_;refine yO (J.ks [2,3,5,6,8,9,10,11,12]) N (fun R mm a w=>∃(E:Nat) (F:Nat),mm=d.funs.length - E/\R t [(13,.int .i64 F),(15,.int .i64 E)] [] a w/\(F+aY (d.funs.drop E)=aY d.funs)) (d.funs.length - 0) ⟨0,0,rfl,⟨J.pk,N⟩,by rw [Nat.zero_add,List.drop_zero]⟩ ?_;clear N J;rintro mm a w ⟨E,F,z,⟨J,N⟩,k⟩ P0 x;by_cases m:E < d.funs.length;refine go fun a J=>?_;obtain ⟨I1,rfl,e,C,o0,w0,y,A⟩:=p0.el a0 m;obtain ⟨H1,S0,Q0,rfl,Z0,n,A0,I0⟩:=RTFn.fm A;obtain ⟨i0,P,j0,S,k0,U,rfl,t0,u0,a1,b1,c1,B0,J0,C0,K0,D0,L0⟩:=RTE.fm n;refine Qq (fun a J=>?_) (o:=by exact fun J O=>vM 3 (vs:=[.int .i64 (e.body.kind),.string e.body.name,.string e.body.op,.int .i64 (e.body.num),.int .i64 (e.body.site),.slice i0 e.body.args.length P,.slice j0 e.body.arms.length S,.slice k0 e.body.body.length U]) J O rfl y isAgg48 sizeOf48 rfl rfl);have v:=k;rw [j2k C] at v;refine zE call15 (fun w N a J=>?_) (c:=ops_ok _ n (by omega) N);refine Qq (fun a J=>?_) (o:=by exact fun J O=>xJ (i:=F) (j:=(kF e.body)) J rfl rfl (by omega));refine go fun a J=>?_;refine x _ _ _ (by subst z;omega) ⟨(E+1),((F+(kF e.body))),rfl,⟨J.pk,N⟩,?_⟩;omega;refine go fun a J=>?_;have N0:F=aY d.funs:=by rw [<- k,qV m];rfl
 subst N0;by_cases d1:ru=7;refine Qq (fun a J=>?_) (o:=by exact fun J O=>z4f (((T.funs.length:Nat):Int) - 1) J rfl rfl (by rw [aM (by omega)]));refine Qq (fun a J=>?_) (o:=by exact fun J O=>vQ J rfl rfl);refine Qq (fun a J=>?_) (o:=by exact fun J O=>qL true J rfl rfl rfl);refine Qq (fun a J=>?_) (o:=by exact fun J O=>qL true J rfl rfl rfl);by_cases e1:(qF d) < (qF T);refine yG ?_;replace N:=N.le (b.1);replace N:=N.dl [2,1,0];exact ⟨rfl,N⟩;by_cases f1:(qF d)=(qF T);by_cases g1:(aY d.funs) < (aY T.funs);refine yG ?_;replace N:=N.le (b.1);replace N:=N.dl [2,1,0];exact ⟨rfl,N⟩;refine yG ?_;replace N:=N.le (b.1);replace N:=N.dl [2,1,0];rw [show (decide (((d.funs.length:Nat):Int)=((T.funs.length:Nat):Int) - 1))=true from decide_eq_true (by omega)];exact ⟨rfl,N⟩;refine yG ?_;replace N:=N.le (b.1);replace N:=N.dl [2,1,0];rw [show (decide (((d.funs.length:Nat):Int)=((T.funs.length:Nat):Int) - 1))=true from decide_eq_true (by omega)];exact ⟨rfl,N⟩;refine Qq (fun a J=>?_) (o:=by exact fun J O=>qL true J rfl rfl rfl);refine Qq (fun a J=>?_) (o:=by exact fun J O=>qL true J rfl rfl rfl);by_cases h1:(qF d) < (qF T);refine yG ?_;replace N:=N.le (b.1);replace N:=N.dl [2,1,0];exact ⟨rfl,N⟩;by_cases i1:(qF d)=(qF T);by_cases j1:(aY d.funs) < (aY T.funs);refine yG ?_;replace N:=N.le (b.1);replace N:=N.dl [2,1,0];exact ⟨rfl,N⟩;refine yG ?_;replace N:=N.le (b.1);replace N:=N.dl [2,1,0];exfalso;omega;refine yG ?_;replace N:=N.le (b.1);replace N:=N.dl [2,1,0];exfalso;omega
 have m0:¬d=0:=z0h (by rw [<- tZ D];exact h);replace N:=N.nf;refine Alc fun R0 w N a J=>?_;refine Sto 0 fun w N a J=>?_;refine yG ?_;replace N:=N.dl [2,1,0];exact ⟨rfl,N⟩
theorem y4j {tc rc:List Value} {T:Trc} {ru fn nu:Int} {path:List Int} (a:RTrc Φ tc T) (rx:RRw Φ rc ⟨ru,fn,path,nu⟩) (G:Glob Φ) (N:Mem Φ K w) :
  Calls prog 5 #[.agg tc.toArray,.agg rc.toArray] w (fun ee w'=>ee=.returned (.bool true)/\Mem Φ K w'):=by
 cases h:zM T with
 | true=>exact z7a a rx G h N
 | false=>exact y0w a rx G h N
end
end Go.Sw
namespace Go.Proofs.YtlfobekmmndchaaGreatDoor
open Go.ChangeShapes Go.WideShapes Go.ChangeAt Go.RowKit Go.Sw
set_option maxRecDepth 100000
theorem tt {a b:Bool} (c:a=true) (hb:b=true):(a&&b)=true:=by rw [c,hb];rfl
theorem y3z:Rows.optShrinksRow.wf (OpenSpec.ofChange Rows.optShrinksSpec)=true:=by kernel_rfl
theorem y4a:laidOutB Tryz.prog=true:=by kernel_rfl
theorem y4b:mapsRowed Tryz.prog=true:=by kernel_rfl
theorem y4c:Tryz.f5.params.all (Tryz.prog.readableRec ·)=true:=by kernel_rfl
theorem y4d:namedTie Tryz.prog Rows.optShrinksRow.named Rows.optShrinksSpec.vars=true:=by kernel_rfl
theorem y4e:(Rows.optShrinksRow.stops==[])=true:=by kernel_rfl
theorem y4f:(Tryz.prog.stops==[])=true:=by kernel_rfl
theorem y4g:(Rows.optShrinksRow.knobs==[])=true:=by kernel_rfl
theorem y4h:(Tryz.prog.stopKnobs==[])=true:=by kernel_rfl
theorem y4i:(Rows.optShrinksRow.inPlace==Tryz.prog.inPlace 5)=true:=by kernel_rfl
theorem y0x:(Rows.optShrinksRow.unfollowed==Tryz.prog.unfollowed 5)=true:=by kernel_rfl
theorem y0y:(Rows.optShrinksRow.recurses==Tryz.prog.recurses 5)=true:=by kernel_rfl
theorem y0z:(Rows.optShrinksRow.named==Tryz.prog.varsNamed 5)=true:=by kernel_rfl
theorem y1a:(Rows.optShrinksRow.maps==(Tryz.f5.params.toList++Rows.optShrinksSpec.plain.varTypes Tryz.prog).any (Tryz.prog.mapsRec ·))=true:=by kernel_rfl
theorem y1b:(Rows.optShrinksRow.ifaces==(Tryz.f5.params.toList++Rows.optShrinksSpec.plain.varTypes Tryz.prog).any (Tryz.prog.ifacesRec ·))=true:=by kernel_rfl
theorem y1c:(Rows.optShrinksRow.mapsOut==Tryz.prog.mapsAmong Tryz.f5.resultTypes.toList)=true:=by kernel_rfl
theorem y1d:(Rows.optShrinksRow.loops==(Tryz.f5.params.toList++Rows.optShrinksSpec.plain.varTypes Tryz.prog).any (Tryz.prog.loopsFrom ·))=true:=by kernel_rfl
theorem y1e:(Rows.optShrinksRow.wideKeys==(Tryz.f5.params.toList++Rows.optShrinksSpec.plain.varTypes Tryz.prog++Tryz.f5.resultTypes.toList).any (Tryz.prog.wideKeysFrom ·))=true:=by kernel_rfl
theorem y1f:Rows.optShrinksSpec.vars.all (Tryz.prog.varReadable ·)=true:=by kernel_rfl
theorem y1g:Tryz.f5.resultTypes.all (fun t=>Tryz.prog.readableRec t&&decide (t < Tryz.prog.types.size))=true:=by kernel_rfl
theorem y1h:(Rows.optShrinksRow.ifacesOut==Tryz.f5.resultTypes.toList.any (Tryz.prog.ifacesRec ·))=true:=by kernel_rfl
theorem y1i:(Rows.optShrinksRow.loopsOut==Tryz.f5.resultTypes.toList.any (Tryz.prog.loopsFrom ·))=true:=by kernel_rfl
theorem y1j:(Rows.optShrinksRow.plainKeys==Tryz.prog.plainKeys)=true:=by kernel_rfl
theorem y1k:Rows.optShrinksRow.shortTexts.isNone=true:=by kernel_rfl
theorem y1l:Tryz.prog.stopsHeard=true:=by kernel_rfl
theorem y1m:Tryz.prog.mayEnter=true:=by kernel_rfl
theorem y1n:(Rows.optShrinksRow.lifted==Tryz.prog.liftsFinal)=true:=by kernel_rfl
theorem y1o:(Tryz.prog.make==some Rows.optShrinksRow.make)=true:=by kernel_rfl
theorem y1p:(Rows.optShrinksRow.kinds==(if Rows.optShrinksRow.domain.isEmpty then [] else Tryz.f5.params.toList.map fun t=>match Tryz.prog.underlying t with | some (.int k)=>some k | _=>Option.none))=true:=by kernel_rfl
theorem y1q:(Rows.optShrinksRow.pinned==Rows.optShrinksRow.pinnedBy)=true:=by kernel_rfl
theorem y1r:(Rows.optShrinksRow.veiled==(Tryz.f5.params.toList++Rows.optShrinksSpec.plain.varTypes Tryz.prog++Tryz.f5.resultTypes.toList).any (Tryz.prog.veiledRec ·))=true:=by kernel_rfl
theorem y1s:Rows.optShrinksRow.veiledFits Tryz.prog Tryz.f5.params.toList (Tryz.f5.params.toList++Rows.optShrinksSpec.plain.varTypes Tryz.prog++Tryz.f5.resultTypes.toList)=true:=by kernel_rfl
theorem z3b:joinedFacts Tryz.prog 5 Tryz.f5 Rows.optShrinksSpec Rows.optShrinksRow=true:=(tt (tt (tt (tt (tt (tt (tt (tt (tt (tt (tt (tt (tt (tt (tt (tt (tt (tt (tt (tt (tt (tt (tt (tt (tt (tt (tt (tt (tt (tt (tt y3z y4a) y4b) y4c) y4d) y4e) y4f) y4g) y4h) y4i) y0x) y0y) y0z) y1a) y1b) y1c) y1d) y1e) y1f) y1g) y1h) y1i) y1j) y1k) y1l) y1m) y1n) y1o) y1p) y1q) y1r) y1s)
theorem optShrinks_named:Tryz.prog.funcNamed "restitch/restitchlaw15.OptShrinks" = some 5:=by kernel_rfl
theorem z3d:Tryz.checked.prog.inits.idxOf? 5=none:=by kernel_rfl
theorem z1a:Tryz.f5.resultTypes=#[4]:=by kernel_rfl
theorem z7b:([26,36].all fun t=>Tryz.prog.readableRec t&&decide (t < Tryz.prog.types.size))=true:=by kernel_rfl
theorem z3e:Rows.optShrinksRow.wfByText (OpenSpec.ofChange Rows.optShrinksSpec)=true:=by kernel_rfl
theorem z6z:false=Rows.optShrinksRow.goesBy Tryz.prog:=by kernel_rfl
theorem z5a:([26,36].all fun u=> !Tryz.prog.wantsStandIn u)=true:=by kernel_rfl
abbrev optShrinks_args:Array Value:=#[.agg #[.slice none 0 0,.slice none 0 0,.slice none 0 0,.slice none 0 0],.agg #[.int .i64 0,.int .i64 0,.slice none 0 0,.int .i64 0]]
theorem z3c (os:Os) (started:os.Started) (H:Type) (enc:TypeId×Value->H) :
  ReturnsInHanded {} Tryz.checked os 5 .any (fun w args=>(Rows.optShrinksSpec.pre enc Tryz.prog Tryz.f5 [] false w args/\laidMetH Tryz.prog laidAll w)/\sizedMet enc Tryz.prog Tryz.f5 (OpenSpec.ofChange Rows.optShrinksSpec) false w args)
   (Rows.optShrinksSpec.post enc Tryz.prog Tryz.f5 false true false false):=by
 refine z6q (C:=Tryz.checked) (X:=fun w _=>laidMetH Tryz.prog laidAll w) (fun _ _ _ s h=>h.of_heap s) own started z3d Tryz.func5
  (ChangeSpec.witness_shaped (enc:=enc) (C:=Tryz.checked) (os:=os) (X:=fun w _=>laidMetH Tryz.prog laidAll w) false (World.laidAll Tryz.prog os laidAll) optShrinks_args 8 (World.laidAll_os _ _ _)
   (World.shaped_of_ZipB (by as_aux_lemma=>kernel_rfl) (by as_aux_lemma=>kernel_rfl)) (by as_aux_lemma=>kernel_rfl) (by as_aux_lemma=>kernel_rfl) (by as_aux_lemma=>kernel_rfl)
   (by rw [dJ];exact q2q os _)) ?_
 intro W base args ds gs before b m l f;have a:∀(j:Nat) t v,Tryz.f5.params[j]? = some t->args[j]? = some v->Value.okWide Tryz.prog W .any base t v:=b;have hW':=m;obtain ⟨p,q,d,z,rfl,_,_⟩:=m;have k:DataW.TrodAll enc Tryz.prog W 0 (fun _=>true) true Tryz.f5.params.toList args.toList ds p:=d;rw [Tryz.params5] at k a;obtain ⟨v0,v1,x,y,A,p1,rfl,rfl,rfl,n,o⟩:=trodAll_two k;rw [dJ] at l;obtain ⟨cs,c,rfl,g⟩:=j3e (a 0 26 v0 rfl rfl) n;obtain ⟨rc,ru,fn,path,nu,rfl,i⟩:=rw_arg (a 1 36 v1 rfl rfl) o;refine (y4j g i (j1u f l) (Mem.whole W)).mono fun e W' ⟨J,N⟩=>?_;subst J;exact ⟨_,rfl,q2r hW' rfl (fun gs r=>by subst r;rfl) z1a (by rw [Tryz.params5];exact fun t u=>j2r z7b u) N⟩
theorem z4z:Rows.OptShrinksSaid :=
 OpenClaim.holds_of_wide 5 Tryz.f5 rfl rfl rfl rfl rfl rfl rfl ⟨rfl,rfl,rfl,rfl,rfl⟩ rfl rfl rfl rfl rfl optShrinks_named Tryz.func5 z3b
  (of_decide_eq_true (by as_aux_lemma=>kernel_rfl)) (by unfold Func.isWrapper;first | (rw [if_pos (by decide +kernel)];as_aux_lemma=>kernel_rfl) | (rw [if_neg (by decide +kernel)];exact ⟨rfl,rfl⟩))
  (fun os started H enc _=>z3c os started H enc)
theorem optShrinks_card:Rows.OptShrinksCardSaid :=
 Claim7.holds_tied_plain_at .later [] [.data,.data,.data,.data,.sentinel,.sentinel,.pinned] true (true,"85501da53bcbeb676a92cebcef877aabde4957abcbe701bf1dd5251624ce4289") true z4z (fun _ h=>by cases h) z3e (fun _ h=>by cases h) optShrinks_row_tie rfl ⟨rfl,rfl⟩ j2g rfl
  (fun f fn c a=>by
   obtain rfl:f=5:=Option.some.inj (optShrinks_named.symm.trans c) |>.symm;obtain rfl:fn=Tryz.f5:=(Option.some.inj (Tryz.func5.symm.trans a)).symm
   exact ⟨q2s,fun j t b=>by
    rw [Tryz.params5] at b;have N:t∈[26,36]:=by simpa using Array.mem_of_getElem? b
    exact (show Tryz.prog.wantsStandIn t=false by simpa using List.all_eq_true.1 z5a t N)⟩)
  z6z
#print axioms optShrinks_card
end Go.Proofs.YtlfobekmmndchaaGreatDoor
