import Derived.Test.YtghdfphedgcpdaaGreatDoorX14
set_option linter.unusedVariables false
set_option linter.unusedSimpArgs false
namespace Go.Sw
open Go.Proofs Go.Proofs.Tryz
set_option maxRecDepth 20000
set_option maxHeartbeats 4000000
theorem dB {Φ:Fz} {K:List Res} {w:World} {v vf:Value} {l:List Flow} {fr:List Bs} {to:Bs} (hb:l.length+fr.length<=2000000000000) (N:Mem Φ (.gs v 95 2 (zU l)::.gs vf 9 1 (strs fr)::K) w) :
  Calls prog 114 #[v,vf,.string to] w (fun ee w'=>∃v:Value,ee=.returned v/\True/\Mem Φ (.gs v 95 2 (zU (yL l (toF to fr)))::K) w'):=by
 obtain ⟨p,cc,rfl⟩:=q0n N (i:=0) rfl
 obtain ⟨Ψ,_,a,b,c⟩:=N.freezeRowT (i:=1) rfl
 exact (x4v (SliceOf.strs.2 b) hb a).mono fun ee w' h=>by
  obtain ⟨v,d,_,e⟩:=h
  exact ⟨v,d,trivial,(c _ _ e).tail⟩
theorem dI {T:Table} {Φ:Fz} {K:List Res} {w:World} {d:List Value} {f:Bs} {e:Ex} (b:f.size<=1000) (hl:(qY f e).length<=1000000) (g:wU e) (c:okR T e) (re:REx Φ d e) (N:Mem Φ K w) :
  Calls prog 115 #[.slice none 0 0,.string f,.agg d.toArray] w (fun ee w'=>∃v:Value,ee=.returned v/\True/\Mem Φ (.gs v 9 1 (strs (wY f e))::K) w') :=
 (j0o b (l:=[]) (by simpa using hl) g c re (N.nilRow 9 1)).mono fun ee w' h=>let ⟨v,h1,a⟩:=h;⟨v,h1,trivial,a⟩
theorem j0v (f node:Bs) (e:Ex):toF node (wY f e)=toP f node e:=rfl
theorem pK {a l m:List Flow} {n:Nat} (h:a.length+(l++m).length<=n):(yL a l).length+m.length<=n:=by
 have:=z0a (l:=l) (a:=a)
 rw [laQ] at h;omega
def hrF (pm:Pars) (f:Bs) (e:Ex) (n:Int):List Flow:=if 4<=e.kind/\e.kind<=n then [] else wZ pm f e
section
variable {pm:Pars} {f:Bs} {e:Ex} {n:Int}
theorem x0b (h:n < 4):hrF pm f e n=wZ pm f e:=if_neg (by omega)
theorem y4x {m:Int} (h:¬(n < e.kind/\e.kind<=m)) (N:n<=m):hrF pm f e m=hrF pm f e n:=by
 unfold hrF
 by_cases h1:4<=e.kind/\e.kind<=n
 rw [if_pos h1,if_pos (by omega)]
 rw [if_neg h1,if_neg (by omega)]
theorem z1l (h:4<=e.kind) (a:e.kind<=n):hrF pm f e n=[]:=if_pos ⟨h,a⟩
theorem z3e (h:n < e.kind):hrF pm f e n=wZ pm f e:=if_neg (by omega)
theorem q8d (b:¬e.kind=7->e.arms=[]):hrF pm f e 6=uH f (e.arms.drop 0):=by
 rw [List.drop_zero]
 by_cases a:e.kind=7
 rw [z3e (by omega),y4v a]
 rw [b a]
 by_cases h:4<=e.kind/\e.kind<=6
 rw [z1l h.1 h.2];rfl
 rw [hrF,if_neg h,y4w (by omega) (by omega) (by omega) a];rfl
end
theorem q0t {Φ:Fz} {K:List Res} {w:World} {d0:List Value} {c:Core} {name:Bs} {j:Nat} (b:nE c.funs name=some j) (a:RCore Φ d0 c) (N:Mem Φ K w) :
  Calls prog 81 #[.agg d0.toArray,.string name] w (fun ee w'=>ee=.returned (.int .i64 j)/\Mem Φ K w'):=x0a b▸z8k a N
theorem varF_to {f s v:Bs} {k:Nat} {l:List Bs} (h:l[k]? = some v):z3v f s k (l.drop k)=toF (vrN f v) [kA s k]++z3v f s (k+1) (l.drop (k+1)):=q5u h
theorem q3v {Φ:Fz} {c:Core} {d0:List Value} {f:Bs} {K:List Res} {w:World} {d:List Value} {v:Value} {l:List Flow} {e:Ex} (T1:RCore Φ d0 c) (hR:Right c) (hT:TidyC c) (hf:f.size<=1000)
  (ih:∀x:Ex,x.sz < e.sz->∀{K:List Res} {w:World} {d:List Value} {v:Value} {l:List Flow},l.length+(jK (yC c) f x).length<=1000000000000->okF c x->REx Φ d x->Mem Φ (.gs v 95 2 (zU l)::K) w->Calls prog 116 #[v,.agg d0.toArray,.string f,.agg d.toArray] w (fun ee w'=>∃v:Value,ee=.returned v/\True/\Mem Φ (.gs v 95 2 (zU (yL l (jK (yC c) f x)))::K) w')) (hb:l.length+(jK (yC c) f e).length<=1000000000000) (s:okF c e) (re:REx Φ d e) (N:Mem Φ (.gs v 95 2 (zU l)::K) w) :
  Calls prog 116 #[v,.agg d0.toArray,.string f,.agg d.toArray] w (fun ee w'=>∃v:Value,ee=.returned v/\True/\Mem Φ (.gs v 95 2 (zU (yL l (jK (yC c) f e)))::K) w'):=by
 have h0:=T1
 have L5:=re
 obtain ⟨p3,c4,p9,F0,i1,G0,j1,c22,rfl,h2,h8,s1,a6,f6,g6,X4,f5,Y4,z0,Z4,g5⟩:=RCore.fm T1
 obtain ⟨k1,H0,l1,I0,rfl,T4,V,z1,a5,P,b5,A0⟩:=REx.fm re
 obtain ⟨m0,o6,p6,W3⟩:=(kZ e).1 s.2.1
 have t0:yL l (jK (yC c) f e)=yL l (wZ (yC c) f e++(flowPs (yC c) f e.args++flowPa (yC c) f e.arms)):=by rw [mF,List.append_assoc]
 rw [mF,List.append_assoc] at hb
 refine zL func116 ntmps116 fun Q hQ a J=>?_
 refine Bx fun T w N a J=>?_
 refine Bx fun U w N a J=>?_
 refine goJ 6 fun a J=>?_
 refine sq fun d2 H1=>?_
 have r0:∀a w,(∃(u:Value) (m:List Flow),EnvR 167 [(0,u),(2,.string f),(5,.pointer (some ⟨T,0,none⟩)),(7,.pointer (some ⟨U,0,none⟩))] [] a/\Mem Φ (.blk U (ob [.int .i64 (e.kind),.int .i64 (e.num),.string e.name,.slice k1 e.args.length H0,.slice l1 e.arms.length I0] 110)::.blk T (ob [.slice p3 c.datas.length c4,.slice p9 c.inputs.length F0,.slice i1 c.funs.length G0,.slice j1 c.outputs.length c22] 27)::.gs (u) 95 2 (zU m)::K) w/\(yL l (jK (yC c) f e)=yL m (hrF (yC c) f e 4++(flowPs (yC c) f e.args++flowPa (yC c) f e.arms))/\m.length+(hrF (yC c) f e 4++(flowPs (yC c) f e.args++flowPa (yC c) f e.arms)).length<=1000000000000))->d2 a w:=by
  clear N J
  rintro a w ⟨u,m,J,N,C1⟩
  apply H1
  obtain ⟨g,b⟩:=C1
  refine sq fun f2 I1=>?_
  have W:∀a w,(∃(u:Value) (m:List Flow),EnvR 167 [(0,u),(2,.string f),(5,.pointer (some ⟨T,0,none⟩)),(7,.pointer (some ⟨U,0,none⟩))] [] a/\Mem Φ (.blk U (ob [.int .i64 (e.kind),.int .i64 (e.num),.string e.name,.slice k1 e.args.length H0,.slice l1 e.arms.length I0] 110)::.blk T (ob [.slice p3 c.datas.length c4,.slice p9 c.inputs.length F0,.slice i1 c.funs.length G0,.slice j1 c.outputs.length c22] 27)::.gs (u) 95 2 (zU m)::K) w/\(yL l (jK (yC c) f e)=yL m (hrF (yC c) f e 5++(flowPs (yC c) f e.args++flowPa (yC c) f e.arms))/\m.length+(hrF (yC c) f e 5++(flowPs (yC c) f e.args++flowPa (yC c) f e.arms)).length<=1000000000000))->f2 a w:=by
   clear N J
   rintro a w ⟨u,m,J,N,D1⟩
   apply I1
   obtain ⟨g,b⟩:=D1
   refine sq fun g2 J1=>?_
   have s0:∀a w,(∃(u:Value) (m:List Flow),EnvR 167 [(0,u),(2,.string f),(5,.pointer (some ⟨T,0,none⟩)),(7,.pointer (some ⟨U,0,none⟩))] [] a/\Mem Φ (.blk U (ob [.int .i64 (e.kind),.int .i64 (e.num),.string e.name,.slice k1 e.args.length H0,.slice l1 e.arms.length I0] 110)::.blk T (ob [.slice p3 c.datas.length c4,.slice p9 c.inputs.length F0,.slice i1 c.funs.length G0,.slice j1 c.outputs.length c22] 27)::.gs (u) 95 2 (zU m)::K) w/\(yL l (jK (yC c) f e)=yL m (hrF (yC c) f e 6++(flowPs (yC c) f e.args++flowPa (yC c) f e.arms))/\m.length+(hrF (yC c) f e 6++(flowPs (yC c) f e.args++flowPa (yC c) f e.arms)).length<=1000000000000))->g2 a w:=by
    clear N J
    rintro a w ⟨u,m,J,N,E1⟩
    apply J1
    obtain ⟨g,b⟩:=E1
    refine go fun a J=>?_
    refine zT (J.ks [2,5,7]) N (fun R mm a w=>∃(j:Nat) (u:Value) (m:List Flow),mm=e.arms.length - j/\R Φ [(0,u),(12,.int .i64 j)] [(2,.gs (u) 95 2 (zU m))] a w/\(yL l (jK (yC c) f e)=yL m (uH f (e.arms.drop j)++(flowPs (yC c) f e.args++flowPa (yC c) f e.arms))/\m.length+(uH f (e.arms.drop j)++(flowPs (yC c) f e.args++flowPa (yC c) f e.arms)).length<=1000000000000)) (e.arms.length - 0) ⟨0,u,m,rfl,⟨J.pk,N⟩,⟨by rw [g,q8d (q9h s)],by rw [q8d (q9h s)] at b;exact b⟩⟩ ?_
    clear N J
    rintro mm a w ⟨j,u,m,r,⟨J,N⟩,F1⟩ U5 K1
    replace N:=N.nf
    obtain ⟨g,b⟩:=F1
    by_cases s2:j < e.arms.length
    refine go fun a J=>?_
    obtain ⟨l6,rfl,L,B0,y4,V4,R4,P1⟩:=z1.el A0 s2
    obtain ⟨n6,W5,rfl,B1,t2⟩:=RArm.iff.1 P1
    obtain ⟨i6,X5,rfl,c5,O1⟩:=B1.fm
    obtain ⟨j6,Y5,k6,Z5,rfl,U4,b6,c6,d5,h5,e5,i5⟩:=REx.fm t2
    refine zT (J.ks [2,5,7,12]) N (fun R mm a w=>∃(i:Nat) (u:Value) (m:List Flow),mm=L.vars.length - i/\R Φ [(0,u),(13,.int .i64 i)] [(2,.gs (u) 95 2 (zU m))] a w/\(yL l (jK (yC c) f e)=yL m (z3v f L.con i (L.vars.drop i)++(uH f (e.arms.drop (j+1))++(flowPs (yC c) f e.args++flowPa (yC c) f e.arms)))/\m.length+(z3v f L.con i (L.vars.drop i)++(uH f (e.arms.drop (j+1))++(flowPs (yC c) f e.args++flowPa (yC c) f e.arms))).length<=1000000000000)) (L.vars.length - 0) ⟨0,u,m,rfl,⟨J.pk,N⟩,by rw [j5x B0,List.append_assoc] at g b;exact ⟨g,b⟩⟩ ?_
    clear N J
    rintro mm a w ⟨i,u,m,r,⟨J,N⟩,G1⟩ V5 L1
    replace N:=N.nf
    obtain ⟨g,b⟩:=G1
    by_cases u2:i < L.vars.length
    refine go fun a J=>?_
    refine yN [1,1,2,1,1,1,2,1,0,0,1,1,1,2,1,1,1,2,1,1,2,1,0,1] (.q 0 (.q 1 (.q 2 (.q 3 (.q 4 (.q 5 (.q 6 (.q 7 (.q 10 (.q 11 (.q 12 (.q 13 (.q 14 (.q 15 (.q 16 (.q 17 (.q 18 (.q 19 (.q 20 (.q 21 (.e 8 (.e 9 (.e 22 (.q 23 (.done))))))))))))))))))))))))) [0,1] J N fun w N=>?_
    obtain ⟨P4,Q4,M1,_⟩:=W3 _ (mgQ B0)
    refine Qq (fun a J=>?_) (o:=by exact fun J O=>vQ J rfl rfl (by show f.size+1<=_;omega))
    refine go fun a J=>?_
    obtain ⟨m6,rfl,m1,C0,p1,W4,S4,Q1⟩:=B1.el O1 u2
    obtain rfl:p1=[.string m1]:=Q1
    have h6:=M1 _ (mgQ C0)
    refine Qq (fun a J=>?_) (o:=by exact fun J O=>vQ J rfl rfl (by rw [ByteArray.size_append];show f.size+1+_<=_;omega))
    refine zO call84 (fun w N a J=>?_) (c:=z6h (by omega) (by omega) N)
    refine jQ fun P5 w N a J=>?_
    replace N:=N.pl 3
    refine yU call114 (fun V1 w v2 N a J=>?_) (c:=dB (l:=m) (fr:=[(kA L.con i)]) (to:=((f++(⟨#[46]⟩:Bs))++m1)) (by simp only [lcQ,lnQ];omega) N)
    refine go fun a J=>?_
    replace N:=N.ar [] [2,2]
    refine L1 _ _ _ (by subst r;omega) ⟨(i+1),(V1),((yL m (toF ((f++(⟨#[46]⟩:Bs))++m1) ([(kA L.con i)])))),rfl,⟨J.pk,N⟩,?_⟩
    rw [varF_to C0,List.append_assoc] at g b
    exact ⟨by rw [g,qS] <;> rfl,pK b⟩
    refine go fun a J=>?_
    refine K1 _ _ _ (by subst r;omega) ⟨(j+1),(u),(m),rfl,⟨J.pk,N⟩,?_⟩
    rw [j0z (by omega),List.nil_append] at g b
    exact ⟨g,b⟩
    refine go fun a J=>?_
    refine zT (J.ks [2,5,7]) N (fun R mm a w=>∃(B:Nat) (u:Value) (m:List Flow),mm=e.args.length - B/\R Φ [(0,u),(14,.int .i64 B)] [(2,.gs (u) 95 2 (zU m))] a w/\(yL l (jK (yC c) f e)=yL m (flowPs (yC c) f (e.args.drop B)++flowPa (yC c) f e.arms)/\m.length+(flowPs (yC c) f (e.args.drop B)++flowPa (yC c) f e.arms).length<=1000000000000)) (e.args.length - 0) ⟨0,u,m,rfl,⟨J.pk,N⟩,(by rw [q6j (by omega),List.nil_append] at g b;exact ⟨g,b⟩)⟩ ?_
    clear N J
    rintro mm a w ⟨B,u,m,r,⟨J,N⟩,L0⟩ X3 Q0
    replace N:=N.nf
    obtain ⟨g,b⟩:=L0
    by_cases q1:B < e.args.length
    refine Reg [1,2,1,1,2,1,1,2,0,1] [0,1] fun w N a J=>?_
    refine go fun a J=>?_
    obtain ⟨B5,rfl,U1,H,i2,X2,G2,Z⟩:=V.el P q1
    obtain ⟨k5,i4,l5,c127,rfl,P2,z4,A4,i3,C3,j3,D3⟩:=REx.fm Z
    replace N:=N.pl 2
    refine yU call116 (fun W1 w w2 N a J=>?_) (c:=ih _ (Ex.lt_args (mgQ H)) (l:=m) (by rw [z3b H,List.append_assoc,laQ] at b;omega) (kS s (mgQ H)) Z N)
    refine go fun a J=>?_
    replace N:=N.ar [] [2,2]
    refine Q0 _ _ _ (by subst r;omega) ⟨(B+1),(W1),((yL m (jK (yC c) f U1))),rfl,⟨J.pk,N⟩,?_⟩
    rw [z3b H,List.append_assoc] at g b
    exact ⟨by rw [g,qS] <;> rfl,pK b⟩
    refine go fun a J=>?_
    refine zT (J.ks [2,5,7]) N (fun R mm a w=>∃(C:Nat) (u:Value) (m:List Flow),mm=e.arms.length - C/\R Φ [(0,u),(15,.int .i64 C)] [(2,.gs (u) 95 2 (zU m))] a w/\(yL l (jK (yC c) f e)=yL m (flowPa (yC c) f (e.arms.drop C))/\m.length+(flowPa (yC c) f (e.arms.drop C)).length<=1000000000000)) (e.arms.length - 0) ⟨0,u,m,rfl,⟨J.pk,N⟩,(by rw [y4n (by omega),List.nil_append] at g b;exact ⟨g,b⟩)⟩ ?_
    clear N J
    rintro mm a w ⟨C,u,m,r,⟨J,N⟩,M0⟩ Y3 R0
    replace N:=N.nf
    obtain ⟨g,b⟩:=M0
    by_cases r1:C < e.arms.length
    refine Reg [1,2,1,1,2,1,1,1,2,0,1] [0,1] fun w N a J=>?_
    refine go fun a J=>?_
    obtain ⟨C5,rfl,G,I,j2,Y2,V0,a1⟩:=z1.el A0 r1
    obtain ⟨M5,d4,rfl,t1,n0⟩:=RArm.iff.1 a1
    obtain ⟨m5,j4,rfl,k3,E3⟩:=t1.fm
    obtain ⟨R1,n1,S1,o1,rfl,Q2,B4,C4,l3,F3,m3,G3⟩:=REx.fm n0
    refine Qq (fun a J=>?_) (o:=by exact fun J O=>vL 2 (vs:=[.int .i64 (G.body.kind),.int .i64 (G.body.num),.string G.body.name,.slice R1 G.body.args.length n1,.slice S1 G.body.arms.length o1]) J O rfl V0 isAgg110 sizeOf110 rfl rfl)
    replace N:=N.pl 2
    refine yU call116 (fun X1 w x2 N a J=>?_) (c:=ih _ (Ex.lt_arms (mgQ I)) (l:=m) (by rw [z3a I,laQ] at b;omega) (okF_arm s (mgQ I)) n0 N)
    refine go fun a J=>?_
    replace N:=N.ar [] [2,2]
    refine R0 _ _ _ (by subst r;omega) ⟨(C+1),(X1),((yL m (jK (yC c) f G.body))),rfl,⟨J.pk,N⟩,?_⟩
    rw [z3a I] at g b
    exact ⟨by rw [g,qS],pK b⟩
    refine zC ?_
    replace N:=N.dl [1,0]
    rw [y4m (by omega)] at g
    rw [g];exact ⟨_,rfl,trivial,N⟩
   by_cases u1:e.kind=6
   refine go fun a J=>?_
   refine yN [1,1,1,2,1,2,0,1,1,1,2,1,0,1] (.q 0 (.q 1 (.q 2 (.q 3 (.q 4 (.q 5 (.q 7 (.q 8 (.q 9 (.q 10 (.q 11 (.e 6 (.e 12 (.q 13 (.done))))))))))))))) [0,1] J N fun w N=>?_
   have h1:=m0 (by omega) (by omega)
   have N1:=okF_let s u1
   refine go fun a J=>?_
   obtain ⟨D5,rfl,i0,t,k2,Z2,H2,a0⟩:=V.el P N1
   obtain ⟨n5,k4,o5,l4,rfl,R2,D4,E4,n3,H3,o3,I3⟩:=REx.fm a0
   refine Qq (fun a J=>?_) (o:=by exact fun J O=>vQ J rfl rfl (by show f.size+1<=_;omega))
   refine Qq (fun a J=>?_) (o:=by exact fun J O=>vQ J rfl rfl (by rw [ByteArray.size_append];show f.size+1+_<=_;omega))
   refine yU call115 (fun Q5 w y2 N a J=>?_) (c:=dI (hf) (Nat.le_trans (wC (kS s (mgQ t)).2.2) (by decide)) (kS s (mgQ t)).2.1 (kS s (mgQ t)).1 a0 N)
   replace N:=N.pl 3
   refine yU call114 (fun Y1 w z2 N a J=>?_) (c:=dB (l:=m) (fr:=(wY f i0)) (to:=((f++(⟨#[46]⟩:Bs))++e.name)) (by have J0:=z1k f i0;have K0:=wC (f:=f) (kS s (mgQ t)).2.2;omega) N)
   refine go fun a J=>?_
   replace N:=N.ar [] [2,2]
   exact s0 _ _ ⟨Y1,(yL m (toF ((f++(⟨#[46]⟩:Bs))++e.name) (wY f i0))),J.pk,N,by rw [z3e (by omega),z8q (by assumption),q4m t] at g b;rw [z1l (by omega) (by omega),List.nil_append];exact ⟨by rw [g,qS] <;> rfl,pK b⟩⟩
   refine go fun a J=>?_
   exact s0 _ _ ⟨u,m,J.pk,N,by rw [y4x (n:=5) (by omega) (by omega)];exact ⟨g,b⟩⟩
  by_cases M:e.kind=5
  refine go fun a J=>?_
  refine yN [1,2,2,1,2,0,1,2,0,0] (.q 0 (.q 1 (.q 2 (.q 3 (.q 4 (.e2 5 8 (.q 6 (.q 7 (.e 8 (.e 9 (.done))))) (.e 5 (.q 6 (.q 7 (.e 9 (.done))))))))))) [0,1,2] J N fun w N=>?_
  obtain ⟨j_,g_,u0,X,F,E,w0,x0,S⟩:=x8g s M hR hT
  have y0:=(List.getElem?_eq_some_iff.1 X).1
  refine go fun a J=>?_
  refine gT ?_ ?_
  refine zO call81 (fun w N a J=>?_) (c:=q0t u0 h0 N)
  obtain ⟨E5,rfl,k,f1,l2,a3,I2,b1⟩:=s1.el z0 y0
  obtain ⟨N5,e4,rfl,o0,v1⟩:=id b1
  obtain ⟨p5,m4,rfl,q3,Y0⟩:=o0.fm
  obtain ⟨q5,n4,r5,o4,rfl,S2,F4,G4,r3,J3,s3,K3⟩:=REx.fm v1
  refine go fun a J=>?_
  have Y:=Option.some.inj (X.symm.trans f1)
  rw [Y] at F E w0 x0 S
  refine Alc fun f4 w N a J=>?_
  refine Sto 0 fun w N a J=>?_
  refine go fun a J=>?_
  refine zT (J.ks [2,5,7,10]) N (fun R mm a w=>∃(h:Nat) (u:Value) (m:List Flow),mm=e.args.length - h/\R Φ [(0,u),(11,.int .i64 h)] [(3,.gs (u) 95 2 (zU m))] a w/\(yL l (jK (yC c) f e)=yL m (cF f k.name (k.params.drop h) (e.args.drop h)++(flowPs (yC c) f e.args++flowPa (yC c) f e.arms))/\m.length+(cF f k.name (k.params.drop h) (e.args.drop h)++(flowPs (yC c) f e.args++flowPa (yC c) f e.arms)).length<=1000000000000)) (e.args.length - 0) ⟨0,u,m,rfl,⟨J.pk,N⟩,⟨by rw [g,z3e (by omega),gY M,F,<- E];rfl,by rw [z3e (by omega),gY M,F,<- E] at b;exact b⟩⟩ ?_
  clear N J
  rintro mm a w ⟨h,u,m,r,⟨J,N⟩,N0⟩ Z3 S0
  replace N:=N.nf
  obtain ⟨g,b⟩:=N0
  by_cases w1:h < e.args.length
  refine go fun a J=>?_
  refine yN [1,1,1,2,1,1,2,0,1,2,1,1,2,1,1,1,2,1,0,1] (.q 0 (.q 1 (.q 2 (.q 3 (.q 4 (.q 5 (.q 6 (.q 8 (.q 9 (.q 10 (.q 11 (.q 12 (.q 13 (.q 14 (.q 15 (.q 16 (.q 17 (.e 7 (.e 18 (.q 19 (.done))))))))))))))))))))) [0,1,2] J N fun w N=>?_
  have h1:=m0 (by omega) (by omega)
  refine go fun a J=>?_
  obtain ⟨F5,rfl,j0,y,m2,b3,J2,b0⟩:=V.el P w1
  obtain ⟨s5,p4,t5,q4,rfl,T2,H4,I4,t3,L3,u3,M3⟩:=REx.fm b0
  refine Qq (fun a J=>?_) (o:=by exact fun J O=>vQ J rfl rfl (by show k.name.size+1<=_;omega))
  refine go fun a J=>?_
  have W0:h < k.params.length:=by omega
  obtain ⟨G5,rfl,D0,f0,n2,d3,K2,c1⟩:=o0.el Y0 W0
  obtain rfl:=id c1
  have T3:=S _ (mgQ f0)
  refine Qq (fun a J=>?_) (o:=by exact fun J O=>vQ J rfl rfl (by rw [ByteArray.size_append];show k.name.size+1+_<=_;omega))
  refine yU call115 (fun R5 w A2 N a J=>?_) (c:=dI (hf) (Nat.le_trans (wC (kS s (mgQ y)).2.2) (by decide)) (kS s (mgQ y)).2.1 (kS s (mgQ y)).1 b0 N)
  replace N:=N.pl 4
  refine yU call114 (fun Z1 w B2 N a J=>?_) (c:=dB (l:=m) (fr:=(wY f j0)) (to:=((k.name++(⟨#[46]⟩:Bs))++D0.name)) (by have J0:=z1k f j0;have K0:=wC (f:=f) (kS s (mgQ y)).2.2;omega) N)
  refine go fun a J=>?_
  replace N:=N.ar [] [3,3,3]
  refine S0 _ _ _ (by subst r;omega) ⟨(h+1),(Z1),((yL m (toF ((k.name++(⟨#[46]⟩:Bs))++D0.name) (wY f j0)))),rfl,⟨J.pk,N⟩,?_⟩
  rw [z5y y f0,List.append_assoc] at g b
  exact ⟨by rw [g,qS] <;> rfl,pK b⟩
  refine go fun a J=>?_
  replace N:=N.dl [0]
  rotate_left
  refine Alc fun g4 w N a J=>?_
  refine zO call81 (fun w N a J=>?_) (c:=q0t u0 h0 N)
  obtain ⟨H5,rfl,p,g1,o2,e3,L2,d1⟩:=s1.el z0 y0
  obtain ⟨O5,h4,rfl,p0,x1⟩:=id d1
  obtain ⟨u5,r4,rfl,v3,Z0⟩:=p0.fm
  obtain ⟨v5,s4,w5,t4,rfl,U2,J4,K4,w3,N3,x3,O3⟩:=REx.fm x1
  refine go fun a J=>?_
  have Y:=Option.some.inj (X.symm.trans g1)
  rw [Y] at F E w0 x0 S
  refine Sto 0 fun w N a J=>?_
  refine go fun a J=>?_
  refine zT (J.ks [2,5,7,10]) N (fun R mm a w=>∃(h:Nat) (u:Value) (m:List Flow),mm=e.args.length - h/\R Φ [(0,u),(11,.int .i64 h)] [(3,.gs (u) 95 2 (zU m))] a w/\(yL l (jK (yC c) f e)=yL m (cF f p.name (p.params.drop h) (e.args.drop h)++(flowPs (yC c) f e.args++flowPa (yC c) f e.arms))/\m.length+(cF f p.name (p.params.drop h) (e.args.drop h)++(flowPs (yC c) f e.args++flowPa (yC c) f e.arms)).length<=1000000000000)) (e.args.length - 0) ⟨0,u,m,rfl,⟨J.pk,N⟩,⟨by rw [g,z3e (by omega),gY M,F,<- E];rfl,by rw [z3e (by omega),gY M,F,<- E] at b;exact b⟩⟩ ?_
  clear N J
  rintro mm a w ⟨h,u,m,r,⟨J,N⟩,O0⟩ a4 T0
  replace N:=N.nf
  obtain ⟨g,b⟩:=O0
  by_cases y1:h < e.args.length
  refine go fun a J=>?_
  refine yN [1,1,1,2,1,1,2,0,1,2,1,1,2,1,1,1,2,1,0,1] (.q 0 (.q 1 (.q 2 (.q 3 (.q 4 (.q 5 (.q 6 (.q 8 (.q 9 (.q 10 (.q 11 (.q 12 (.q 13 (.q 14 (.q 15 (.q 16 (.q 17 (.e 7 (.e 18 (.q 19 (.done))))))))))))))))))))) [0,1,2] J N fun w N=>?_
  have h1:=m0 (by omega) (by omega)
  refine go fun a J=>?_
  obtain ⟨I5,rfl,k0,z,p2,f3,M2,c0⟩:=V.el P y1
  obtain ⟨x5,u4,y5,v4,rfl,V2,L4,M4,y3,P3,z3,Q3⟩:=REx.fm c0
  refine Qq (fun a J=>?_) (o:=by exact fun J O=>vQ J rfl rfl (by show p.name.size+1<=_;omega))
  refine go fun a J=>?_
  have X0:h < p.params.length:=by omega
  obtain ⟨J5,rfl,E0,g0,q2,g3,N2,e1⟩:=p0.el Z0 X0
  obtain rfl:=id e1
  have T3:=S _ (mgQ g0)
  refine Qq (fun a J=>?_) (o:=by exact fun J O=>vQ J rfl rfl (by rw [ByteArray.size_append];show p.name.size+1+_<=_;omega))
  refine yU call115 (fun S5 w C2 N a J=>?_) (c:=dI (hf) (Nat.le_trans (wC (kS s (mgQ z)).2.2) (by decide)) (kS s (mgQ z)).2.1 (kS s (mgQ z)).1 c0 N)
  replace N:=N.pl 4
  refine yU call114 (fun a2 w D2 N a J=>?_) (c:=dB (l:=m) (fr:=(wY f k0)) (to:=((p.name++(⟨#[46]⟩:Bs))++E0.name)) (by have J0:=z1k f k0;have K0:=wC (f:=f) (kS s (mgQ z)).2.2;omega) N)
  refine go fun a J=>?_
  replace N:=N.ar [] [3,3,3]
  refine T0 _ _ _ (by subst r;omega) ⟨(h+1),(a2),((yL m (toF ((p.name++(⟨#[46]⟩:Bs))++E0.name) (wY f k0)))),rfl,⟨J.pk,N⟩,?_⟩
  rw [z5y z g0,List.append_assoc] at g b
  exact ⟨by rw [g,qS] <;> rfl,pK b⟩
  refine go fun a J=>?_
  replace N:=N.dl [0]
  rotate_left
  refine go fun a J=>?_
  exact W _ _ ⟨u,m,J.pk,N,by rw [y4x (n:=4) (by omega) (by omega)];exact ⟨g,b⟩⟩
  all_goals (exact W _ _ ⟨u,m,J.pk,N,by rw [z7w (by omega),List.nil_append] at g b;rw [z1l (by omega) (by omega),List.nil_append];exact ⟨g,b⟩⟩)
 by_cases q0:e.kind=4
 refine go fun a J=>?_
 refine zT (J.ks [2,5,7]) N (fun R mm a w=>∃(D:Nat) (u:Value) (m:List Flow),mm=e.args.length - D/\R Φ [(0,u),(9,.int .i64 D)] [(2,.gs (u) 95 2 (zU m))] a w/\(yL l (jK (yC c) f e)=yL m (z5z f e.name D (e.args.drop D)++(flowPs (yC c) f e.args++flowPa (yC c) f e.arms))/\m.length+(z5z f e.name D (e.args.drop D)++(flowPs (yC c) f e.args++flowPa (yC c) f e.arms)).length<=1000000000000)) (e.args.length - 0) ⟨0,v,l,rfl,⟨J.pk,N⟩,⟨by rw [t0,z8p q0];rfl,by rw [z8p q0] at hb;exact hb⟩⟩ ?_
 clear N J
 rintro mm a w ⟨D,u,m,r,⟨J,N⟩,P0⟩ b4 U0
 replace N:=N.nf
 obtain ⟨g,b⟩:=P0
 by_cases A1:D < e.args.length
 refine go fun a J=>?_
 refine yN [1,1,1,2,1,1,2,0,1,2,1,0,0,1] (.q 0 (.q 1 (.q 2 (.q 3 (.q 4 (.q 5 (.q 6 (.q 8 (.q 9 (.q 10 (.e 7 (.e 11 (.e 12 (.q 13 (.done))))))))))))))) [0,1] J N fun w N=>?_
 have h1:=m0 (by omega) (by omega)
 refine go fun a J=>?_
 obtain ⟨K5,rfl,l0,A,r2,h3,O2,e0⟩:=V.el P A1
 obtain ⟨z5,w4,A5,x4,rfl,W2,N4,O4,A3,R3,B3,S3⟩:=REx.fm e0
 refine yU call115 (fun T5 w E2 N a J=>?_) (c:=dI (hf) (Nat.le_trans (wC (kS s (mgQ A)).2.2) (by decide)) (kS s (mgQ A)).2.1 (kS s (mgQ A)).1 e0 N)
 refine zO call84 (fun w N a J=>?_) (c:=z6h (by omega) (by omega) N)
 replace N:=N.pl 3
 refine yU call114 (fun b2 w F2 N a J=>?_) (c:=dB (l:=m) (fr:=(wY f l0)) (to:=(kA e.name D)) (by have J0:=z1k f l0;have K0:=wC (f:=f) (kS s (mgQ A)).2.2;omega) N)
 refine go fun a J=>?_
 replace N:=N.ar [] [2,2]
 refine U0 _ _ _ (by subst r;omega) ⟨(D+1),(b2),((yL m (toF (kA e.name D) (wY f l0)))),rfl,⟨J.pk,N⟩,?_⟩
 rw [q3o A,List.append_assoc] at g b
 exact ⟨by rw [g,qS] <;> rfl,pK b⟩
 refine go fun a J=>?_
 exact r0 _ _ ⟨u,m,J.pk,N,by rw [q6w (by omega),List.nil_append] at g b;rw [z1l (by omega) (by omega),List.nil_append];exact ⟨g,b⟩⟩
 refine go fun a J=>?_
 exact r0 _ _ ⟨v,l,J.pk,N,by rw [y4x (n:=3) (by omega) (by omega),x0b (by decide)];exact ⟨t0,hb⟩⟩
theorem j2k {Φ:Fz} {c:Core} {d0:List Value} {f:Bs} {e:Ex} (a:RCore Φ d0 c) (b:Right c) (g:TidyC c) (i:f.size<=1000):∀{K:List Res} {w:World} {d:List Value} {v:Value} {l:List Flow},l.length+(jK (yC c) f e).length<=1000000000000->okF c e->REx Φ d e->Mem Φ (.gs v 95 2 (zU l)::K) w->Calls prog 116 #[v,.agg d0.toArray,.string f,.agg d.toArray] w (fun ee w'=>∃v:Value,ee=.returned v/\True/\Mem Φ (.gs v 95 2 (zU (yL l (jK (yC c) f e)))::K) w'):=by
 suffices H:∀n (e:Ex),e.sz < n->∀{K:List Res} {w:World} {d:List Value} {v:Value} {l:List Flow},l.length+(jK (yC c) f e).length<=1000000000000->okF c e->REx Φ d e->Mem Φ (.gs v 95 2 (zU l)::K) w->Calls prog 116 #[v,.agg d0.toArray,.string f,.agg d.toArray] w (fun ee w'=>∃v:Value,ee=.returned v/\True/\Mem Φ (.gs v 95 2 (zU (yL l (jK (yC c) f e)))::K) w') from @H _ e (Nat.lt_succ_self _)
 intro n
 induction n with
 | zero=>intro e h;omega
 | succ n k=>intro e h K w d v l hb j re N;exact q3v a b g i (fun x m=>k x (by omega)) hb j re N
section
variable {c:Core}
theorem y0e:∀{l:List Data} {n:Bs} {d:Data},vC l n=some d->d∈l/\d.name=n
 | [],_,_,h=>by cases h
 | x::l,n,d,h=>by
  simp only [vC] at h
  split at h
  cases h;exact ⟨msQ,by assumption⟩
  obtain ⟨h1,a⟩:=y0e h;exact ⟨mcQ _ h1,a⟩
theorem uP {i:Param}:∀{l:List Data},(∀d∈l,d.name≠i.type)->l.flatMap (tD i)=[]
 | [],_=>rfl
 | x::l,h=>by
  rw [List.flatMap_cons,tD,if_neg (h x msQ),uP fun d a=>h d (mcQ _ a)];rfl
theorem q0z {i:Param}:∀{l:List Data},(l.map Data.name).Nodup->l.flatMap (tD i)=((vC l i.type).getD uY).cons.flatMap fun x=>kQ i x.name 0 x.fields
 | [],_=>rfl
 | x::l,h=>by
  obtain ⟨h1,b⟩:=List.nodup_cons.1 (show (x.name::l.map Data.name).Nodup from h)
  rw [List.flatMap_cons,vC]
  by_cases a:x.name=i.type
  rw [if_pos a,tD,if_pos a,uP fun d c e=>h1 (by rw [a,<- e];exact List.mem_map_of_mem c),List.append_nil];rfl
  rw [if_neg a,tD,if_neg a,List.nil_append,q0z b]
theorem x6x (a:Right c) {i:Param} (h:i.type=yT):uQ c i=[]:=uP fun d b e=>(a.dN d (mcQ _ b)).2.1 (e.trans h)
def dOf (c:Core) (i:Param):Data:=(qQ c.datas i.type).getD uY
theorem x0e (b:Right c) {i:Param}:uQ c i=(dOf c i).cons.flatMap fun x=>kQ i x.name 0 x.fields:=by
 have g:(truthsD.name::c.datas.map Data.name).Nodup:=b.dU
 obtain ⟨h1,a⟩:=List.nodup_cons.1 g
 unfold dOf qQ uQ
 by_cases hb:i.type=kV
 rw [if_pos hb,uP fun d f e=>h1 (by rw [show truthsD.name=kV from rfl,<- hb,<- e];exact List.mem_map_of_mem f)];rfl
 rw [if_neg hb];exact q0z a
theorem x4f (a:TidyC c) (i:Param):∀x∈(dOf c i).cons,x.name.size<=1000/\x.fields.length<=1000:=by
 unfold dOf qQ
 by_cases hb:i.type=kV
 rw [if_pos hb];exact z0m
 rw [if_neg hb]
 cases h:vC c.datas i.type with
 | none=>intro x b;cases b
 | some d=>exact a.con d (y0e h).1
end
theorem j6j {i:Param} {s t:Bs} {j:Nat} {l:List Bs} (h:l[j]? = some t) (a:t=i.type):kQ i s j (l.drop j)=toF (kA s j) [inN i.name]++kQ i s (j+1) (l.drop (j+1)):=by
 rw [zA h,kQ,if_pos a];rfl
theorem x4c {i:Param} {s t:Bs} {j:Nat} {l:List Bs} (h:l[j]? = some t) (a:¬t=i.type):kQ i s j (l.drop j)=kQ i s (j+1) (l.drop (j+1)):=by
 rw [zA h,kQ,if_neg a];rfl
theorem fld_end {i:Param} {s:Bs} {j:Nat} {l:List Bs} (h:¬j < l.length):kQ i s j (l.drop j)=[]:=by rw [zB h];rfl
theorem j9w {Φ:Fz} {K:List Res} {w:World} {d0:List Value} {c:Core} (r0:RCore Φ d0 c) (hR:Right c) (hT:TidyC c) (C:∀f∈c.funs,okF c f.body) (h0:(xX c).length<=1000000000000) (N:Mem Φ K w) :
  Calls prog 82 #[.agg d0.toArray] w (fun ee w'=>∃v:Value,ee=.returned v/\True/\Mem Φ (.gs v 95 2 (zU (zY c))::K) w'):=by
 have y:=r0
 obtain ⟨p3,c4,p9,B1,O1,C1,P1,c22,rfl,h2,h8,P,F1,L1,M1,h1,j0,i1,k0,j1,m1⟩:=RCore.fm r0
 have n0:zY c=yL [] (xX c):=rfl
 have I:xX c=c.inputs.flatMap (uQ c)++c.funs.flatMap (wO (yC c)):=rfl
 refine zL func82 ntmps82 fun Q hQ a J=>?_
 refine Bx fun y1 w N a J=>?_
 refine go fun a J=>?_
 replace N:=N.nilRow 95 2
 replace N:=N.nf
 refine go fun a J=>?_
 refine zT (J.ks [1]) N (fun R mm a w=>∃(n:Nat) (u:Value) (m:List Flow),mm=c.inputs.length - n/\R Φ [(3,u),(4,.int .i64 n)] [(0,.gs (u) 95 2 (zU m))] a w/\(zY c=yL m (((c.inputs.drop (n)).flatMap (uQ c)++(c.funs).flatMap (wO (yC c))))/\m.length+(((c.inputs.drop (n)).flatMap (uQ c)++(c.funs).flatMap (wO (yC c)))).length<=1000000000000)) (c.inputs.length - 0) ⟨0,.slice none 0 0,[],rfl,⟨J.pk,N⟩,⟨by rw [n0,I];rfl,by rw [I] at h0;simpa using h0⟩⟩ ?_
 clear N J
 rintro mm a w ⟨n,u,m,r,⟨J,N⟩,b0⟩ v1 H
 replace N:=N.nf
 obtain ⟨d,i⟩:=b0
 by_cases y0:n < c.inputs.length
 refine go fun a J=>?_
 obtain ⟨S1,rfl,h,E,Y0,e1,L,D⟩:=h8.el j0 y0
 obtain rfl:=id D
 refine Alc fun z1 w N a J=>?_
 refine Sto 0 fun w N a J=>?_
 by_cases H1:h.type=(⟨#[73,110,116]⟩:Bs)
 refine go fun a J=>?_
 replace N:=N.dl [0]
 refine H _ _ _ (by subst r;omega) ⟨(n+1),(u),(m),rfl,⟨J.pk,N⟩,?_⟩
 rw [zA E,List.flatMap_cons,x6x hR (by assumption),List.nil_append] at d i
 exact ⟨d,i⟩
 refine yU call110 (fun R0 w a0 N a J=>?_) (c:=z4o y N)
 obtain ⟨G,x0⟩:=R0
 obtain ⟨t,z⟩:=a0
 simp only at t z N J
 replace P:=P.up t
 replace y:=RCore.mono _ _ _ _ t y
 replace L:=L.mono t
 replace D:=RParam.mono _ _ _ _ t D
 replace N:=N.nf
 replace z:RData G x0 (dOf c h):=z
 obtain ⟨V1,rfl,Y⟩:=id z
 obtain ⟨Q1,D1,rfl,k1,l0⟩:=Y.fm
 refine Alc fun A1 w N a J=>?_
 refine Sto 0 fun w N a J=>?_
 refine go fun a J=>?_
 refine zT (J.ks [1,4,5,6]) N (fun R mm a w=>∃(s:Nat) (u:Value) (m:List Flow),mm=(dOf c h).cons.length - s/\R G [(3,u),(8,.int .i64 s)] [(2,.gs (u) 95 2 (zU m))] a w/\(zY c=yL m (((dOf c h).cons.drop s).flatMap (fun x=>kQ h x.name 0 x.fields)++((c.inputs.drop (n+1)).flatMap (uQ c)++(c.funs).flatMap (wO (yC c))))/\m.length+(((dOf c h).cons.drop s).flatMap (fun x=>kQ h x.name 0 x.fields)++((c.inputs.drop (n+1)).flatMap (uQ c)++(c.funs).flatMap (wO (yC c)))).length<=1000000000000)) ((dOf c h).cons.length - 0) ⟨0,u,m,rfl,⟨J.pk,N⟩,(by rw [zA E,List.flatMap_cons,x0e hR,List.append_assoc] at d i;exact ⟨d,i⟩)⟩ ?_
 clear N J
 rintro mm a w ⟨s,u,m,r,⟨J,N⟩,c0⟩ w1 f0
 replace N:=N.nf
 obtain ⟨d,i⟩:=c0
 by_cases z0:s < (dOf c h).cons.length
 refine go fun a J=>?_
 obtain ⟨T1,rfl,p,M,Z0,f1,c1,p0⟩:=Y.el l0 z0
 obtain ⟨W1,rfl,Z⟩:=id p0
 obtain ⟨R1,c80,rfl,l1,m0⟩:=Z.fm
 refine zT (J.ks [1,4,5,6,8]) N (fun R mm a w=>∃(g:Nat) (u:Value) (m:List Flow),mm=p.fields.length - g/\R G [(3,u),(9,.int .i64 g)] [(2,.gs (u) 95 2 (zU m))] a w/\(zY c=yL m (kQ h p.name g (p.fields.drop g)++(((dOf c h).cons.drop (s+1)).flatMap (fun x=>kQ h x.name 0 x.fields)++((c.inputs.drop (n+1)).flatMap (uQ c)++(c.funs).flatMap (wO (yC c)))))/\m.length+(kQ h p.name g (p.fields.drop g)++(((dOf c h).cons.drop (s+1)).flatMap (fun x=>kQ h x.name 0 x.fields)++((c.inputs.drop (n+1)).flatMap (uQ c)++(c.funs).flatMap (wO (yC c))))).length<=1000000000000)) (p.fields.length - 0) ⟨0,u,m,rfl,⟨J.pk,N⟩,(by rw [zA M,List.flatMap_cons,List.append_assoc] at d i;exact ⟨d,i⟩)⟩ ?_
 clear N J
 rintro mm a w ⟨g,u,m,r,⟨J,N⟩,e0⟩ x1 B
 replace N:=N.nf
 obtain ⟨d,i⟩:=e0
 by_cases A0:g < p.fields.length
 refine Reg [1,2,1,1,1,2,1,1,2,1,2,1] [0,1,2,3] fun w N a J=>?_
 refine go fun a J=>?_
 obtain ⟨U1,rfl,s0,F,V,g1,d1,q0⟩:=Z.el m0 A0
 obtain rfl:V=[.string s0]:=q0
 by_cases J1:s0=h.type
 refine go fun a J=>?_
 refine yN [1,1,2,1,0,1,2,1,1,1,2,1,0,0,1] (.q 0 (.q 1 (.q 2 (.q 3 (.q 5 (.q 6 (.q 7 (.q 8 (.q 9 (.q 10 (.q 11 (.e2 4 12 (.e 12 (.e 13 (.q 14 (.done)))) (.e 4 (.e 13 (.q 14 (.done)))))))))))))))) [0,1,3] J N fun w N=>?_
 have N1:=x4f hT h _ (mgQ M)
 have K1:=hT.inp _ (mgQ E)
 refine Qq (fun a J=>?_) (o:=by exact fun J O=>vQ J rfl rfl (by show 3+h.name.size<=_;omega))
 refine go fun a J=>?_
 refine gT ?_ ?_
 refine jQ fun X1 w N a J=>?_
 refine zO call84 (fun w N a J=>?_) (c:=z6h (by omega) (by omega) N)
 replace N:=N.pl 3
 refine yU call114 (fun S0 w B0 N a J=>?_) (c:=dB (l:=m) (fr:=[((⟨#[105,110,46]⟩:Bs)++h.name)]) (to:=(kA p.name g)) (by simp only [lcQ,lnQ];omega) N)
 refine go fun a J=>?_
 replace N:=N.ar [] [3,1,3,3]
 refine B _ _ _ (by subst r;omega) ⟨(g+1),(S0),((yL m (toF (kA p.name g) ([((⟨#[105,110,46]⟩:Bs)++h.name)])))),rfl,⟨J.pk,N⟩,?_⟩
 rotate_left
 refine zO call84 (fun w N a J=>?_) (c:=z6h (by omega) (by omega) N)
 refine jQ fun s1 w N a J=>?_
 replace N:=N.pl 3
 refine yU call114 (fun t0 w C0 N a J=>?_) (c:=dB (l:=m) (fr:=[((⟨#[105,110,46]⟩:Bs)++h.name)]) (to:=(kA p.name g)) (by simp only [lcQ,lnQ];omega) N)
 refine go fun a J=>?_
 replace N:=N.ar [] [3,1,3,3]
 refine B _ _ _ (by subst r;omega) ⟨(g+1),(t0),((yL m (toF (kA p.name g) ([((⟨#[105,110,46]⟩:Bs)++h.name)])))),rfl,⟨J.pk,N⟩,?_⟩
 rotate_left
 refine go fun a J=>?_
 refine B _ _ _ (by subst r;omega) ⟨(g+1),(u),(m),rfl,⟨J.pk,N⟩,?_⟩
 rw [x4c F (by assumption)] at d i
 exact ⟨d,i⟩
 refine go fun a J=>?_
 refine f0 _ _ _ (by subst r;omega) ⟨(s+1),(u),(m),rfl,⟨J.pk,N⟩,?_⟩
 rw [fld_end (by omega),List.nil_append] at d i
 exact ⟨d,i⟩
 refine go fun a J=>?_
 replace N:=N.le (t)
 replace N:=N.dl [1,0]
 refine H _ _ _ (by subst r;omega) ⟨(n+1),(u),(m),rfl,⟨J.pk,N⟩,?_⟩
 rw [zB (by omega:¬s < (dOf c h).cons.length),List.flatMap_nil,List.nil_append] at d i
 exact ⟨d,i⟩
 refine go fun a J=>?_
 refine zT (J.ks [1]) N (fun R mm a w=>∃(k:Nat) (u:Value) (m:List Flow),mm=c.funs.length - k/\R Φ [(3,u),(10,.int .i64 k)] [(0,.gs (u) 95 2 (zU m))] a w/\(zY c=yL m ((c.funs.drop k).flatMap (wO (yC c)))/\m.length+((c.funs.drop k).flatMap (wO (yC c))).length<=1000000000000)) (c.funs.length - 0) ⟨0,u,m,rfl,⟨J.pk,N⟩,(by rw [zB (by omega),List.flatMap_nil,List.nil_append] at d i;exact ⟨d,i⟩)⟩ ?_
 clear N J
 rintro mm a w ⟨k,u,m,r,⟨J,N⟩,S⟩ T0 T
 replace N:=N.nf
 obtain ⟨d,i⟩:=S
 by_cases W:k < c.funs.length
 refine go fun a J=>?_
 obtain ⟨q1,rfl,b,j,w0,J0,H0,U⟩:=P.el k0 W
 obtain ⟨r1,U0,rfl,X,A⟩:=id U
 obtain ⟨n1,W0,rfl,K0,N0⟩:=X.fm
 obtain ⟨o1,c131,p1,X0,rfl,I0,a1,b1,L0,O0,M0,P0⟩:=REx.fm A
 refine Alc fun V0 w N a J=>?_
 refine Sto 0 fun w N a J=>?_
 refine go fun a J=>?_
 refine yN [1,1,2,1,2,0,1,2,0,1] (.q 0 (.q 1 (.q 2 (.q 3 (.q 4 (.q 6 (.q 7 (.e 5 (.e 8 (.q 9 (.done))))))))))) [0,2] J N fun w N=>?_
 have Q0:zY c=yL m (toP b.name b.name b.body++(jK (yC c) b.name b.body++(c.funs.drop (k+1)).flatMap (wO (yC c)))):=by have h_:=d;rw [zA j,List.flatMap_cons,wO,List.append_assoc] at h_;exact h_
 have o0:m.length+(toP b.name b.name b.body++(jK (yC c) b.name b.body++(c.funs.drop (k+1)).flatMap (wO (yC c)))).length<=1000000000000:=by have h_:=i;rw [zA j,List.flatMap_cons,wO,List.append_assoc] at h_;exact h_
 have i0:=hT.fn _ (mgQ j)
 refine yU call115 (fun t1 w D0 N a J=>?_) (c:=dI (i0.1) (Nat.le_trans (wC (C _ (mgQ j)).2.2) (by decide)) (C _ (mgQ j)).2.1 (C _ (mgQ j)).1 A N)
 replace N:=N.pl 2
 refine yU call114 (fun u1 w E0 N a J=>?_) (c:=dB (l:=m) (fr:=(wY b.name b.body)) (to:=b.name) (by have E1:=z1k b.name b.body;have G1:=wC (f:=b.name) (C _ (mgQ j)).2.2;omega) N)
 refine yU call116 (fun u0 w F0 N a J=>?_) (c:=j2k y hR hT (hT.fn _ (mgQ j)).1 (l:=(yL m (toF b.name (wY b.name b.body)))) (by have h_:=pK o0;rw [laQ] at h_;rw [j0v];omega) (C _ (mgQ j)) A N)
 refine go fun a J=>?_
 replace N:=N.dl [1]
 refine T _ _ _ (by subst r;omega) ⟨(k+1),(u0),((yL (yL m (toF b.name (wY b.name b.body))) (jK (yC c) b.name b.body))),rfl,⟨J.pk,N⟩,?_⟩
 exact ⟨by rw [Q0,qS,qS];rfl,by rw [j0v];exact pK (pK o0)⟩
 refine zC ?_
 replace N:=N.dl [1]
 rw [zB (by omega),List.flatMap_nil] at d
 rw [d];exact ⟨_,rfl,trivial,N⟩
 all_goals (rw [j6j F (by assumption),List.append_assoc] at d i;exact ⟨by rw [d,qS] <;> rfl,pK i⟩)
section
variable {Φ:Fz} {K:List Res} {w:World}
theorem z8w {v:Value} {l:List Bs} {s:Bs} (rl:SliceOf RStr Φ 1 v l) (N:Mem Φ K w) :
  Calls prog 49 #[v,.string s] w (fun ee w'=>ee=.returned (.int .i64 (ixG s l 0))/\Mem Φ K w'):=by
 obtain ⟨u,c2,rfl,p,m⟩:=rl.fm
 refine zL func49 ntmps49 fun Q hQ a J=>?_
 refine go fun a J=>?_
 refine zT (J.ks [0,1]) N (fun R mm a w=>∃(i:Nat),mm=l.length - i/\R Φ [(5,.int .i64 i)] [] a w/\(ixG s l 0=ixG s (l.drop i) i)) (l.length - 0) ⟨0,rfl,⟨J.pk,N⟩,rfl⟩ ?_
 clear N J
 rintro mm a w ⟨i,k,⟨J,N⟩,c⟩ t j
 by_cases e:i < l.length
 refine go fun a J=>?_
 obtain ⟨r,rfl,h,b,d,o,n,g⟩:=rl.el m e
 obtain rfl:d=[.string h]:=g
 by_cases f:h=s
 refine zC ?_
 rw [c,zA b,ixG,if_pos f.symm];exact ⟨rfl,N⟩
 refine go fun a J=>?_
 refine j _ _ _ (by subst k;omega) ⟨(i+1),rfl,⟨J.pk,N⟩,?_⟩
 rw [c,zA b,ixG,if_neg (fun q=>f q.symm)]
 refine zC ?_
 rw [c,zB e];exact ⟨rfl,N⟩
theorem z1s:∀{l:List Bs} {s:Bs} {i:Nat},s∈l->ixG s l i=((i+yW l s:Nat):Int)
 | x::l,s,i,h=>by
  rw [ixG,yW]
  by_cases e:s=x
  rw [if_pos e,if_pos e.symm];rfl
  rw [if_neg e,if_neg (fun g=>e g.symm),z1s ((List.mem_cons.1 h).resolve_left e)];congr 1;omega
theorem j7e {l:List Bs} {s:Bs} {i:Nat} (h:¬s∈l):ixG s l i=-1:=by
 induction l generalizing i with
 | nil=>rfl
 | cons x l c=>
  have b:¬s=x:=fun e=>h (by rw [e];exact msQ)
  rw [ixG,if_neg b,c (fun a=>h (mcQ _ a))]
theorem q1b {v:Value} {l:List Bs} {s:Bs} (O:s∈l) (rl:SliceOf RStr Φ 1 v l) (N:Mem Φ K w) :
  Calls prog 49 #[v,.string s] w (fun ee w'=>ee=.returned (.int .i64 ((yW l s:Nat):Int))/\Mem Φ K w'):=by
 have h:=z8w (s:=s) rl N
 rw [z1s O,Nat.zero_add] at h;exact h
theorem x8t {m:List Nat} {i:Nat} (h:m=List.range i):m++[i]=List.range (i+1):=by rw [h,List.range_succ]
theorem j2p {d0:List Value} {c:Core} (f:RCore Φ d0 c) (B:c.inputs.length<=1000000000) (N:Mem Φ K w) :
  Calls prog 47 #[.agg d0.toArray] w (fun ee w'=>∃v:Value,ee=.returned v/\True/\Mem Φ (.gs v 3 1 (nats (List.range c.inputs.length))::K) w'):=by
 have h:=f
 obtain ⟨M,c4,P,s,F,t,G,c22,rfl,I,L,y,z,D,E,j,n,k,o,l,p⟩:=RCore.fm f
 refine zL func47 ntmps47 fun Q hQ a J=>?_
 refine Bx fun r w N a J=>?_
 refine go fun a J=>?_
 replace N:=N.nilRow 3 1
 replace N:=N.nf
 refine go fun a J=>?_
 refine zT (J.ks [1]) N (fun R mm a w=>∃(i:Nat) (u:Value) (m:List Nat),mm=c.inputs.length - i/\R Φ [(3,u),(4,.int .i64 i)] [(0,.gs (u) 3 1 (nats m))] a w/\(m=List.range i/\i<=c.inputs.length)) (c.inputs.length - 0) ⟨0,.slice none 0 0,[],rfl,⟨J.pk,N⟩,⟨rfl,Nat.zero_le _⟩⟩ ?_
 clear N J
 rintro mm a w ⟨i,u,m,g,⟨J,N⟩,d⟩ q e
 replace N:=N.nf
 obtain ⟨b,C⟩:=d
 by_cases A:i < c.inputs.length
 refine jQ fun H w N a J=>?_
 refine vH 1 j0f (fun v37 w N a J=>?_) (hb:=by rw [b,sH,List.length_range];simp only [lcQ,lnQ];omega)
 rw [z3j] at N
 refine go fun a J=>?_
 replace N:=N.dl [0]
 refine e _ _ _ (by subst g;omega) ⟨(i+1),(v37),((m++[i])),rfl,⟨J.pk,N⟩,?_⟩
 exact ⟨x8t b,by omega⟩
 refine zC ?_
 replace N:=N.dl [1]
 rw [b,show i=c.inputs.length by omega] at N;exact ⟨_,rfl,trivial,N⟩
theorem oM (l:List Bs) (x:Bs):strs l++[.string x]=strs (l++[x]):=by rw [yK];rfl
theorem j8u {d0:List Value} {f:Fun} (hb:f.params.length+(zN f.body).length<=8796093000000) (a:RFun Φ d0 f) (N:Mem Φ K w) :
  Calls prog 79 #[.agg d0.toArray] w (fun ee w'=>∃v:Value,ee=.returned v/\True/\Mem Φ (.gs v 9 1 (strs (f.params.map Param.name++zN f.body))::K) w') :=
 (q6q a hb N).mono fun ee w' h=>let ⟨v,h1,b⟩:=h;⟨v,h1,trivial,b⟩
theorem q7z (f:Fun):dP f=[f.name]++(((f.params.map Param.name++zN f.body).drop 0).map (vrN f.name)):=by simp [dP,Function.comp]
theorem x6n (f:Fun):f.params.length+(zN f.body).length<=(dP f).length:=by rw [q7z];simp
theorem x7k {c:Core} {m:List Bs} {i:Nat} {f:Fun} (h:zG c=m++(c.funs.drop i).flatMap dP) (a:c.funs[i]? = some f):f.params.length+(zN f.body).length<=(zG c).length:=by
 have h1:=x6n f
 rw [h,zA a,List.flatMap_cons,laQ,laQ];omega
theorem x3u {f:Fun} {v:Bs} (h:f.name.size<=1000/\(∀p∈f.params,p.name.size<=1000)/\∀b∈zN f.body,b.size<=1000) (c:v∈f.params.map Param.name++zN f.body):v.size<=1000:=by
 rcases List.mem_append.1 c with g | g
 obtain ⟨p,a,rfl⟩:=List.mem_map.1 g;exact h.2.1 p a
 exact h.2.2 v g
theorem x1m {d0:List Value} {c:Core} (x0:RCore Φ d0 c) (hT:TidyC c) (hN:(zG c).length<=1000000000) (N:Mem Φ K w) :
  Calls prog 50 #[.agg d0.toArray] w (fun ee w'=>∃v:Value,ee=.returned v/\True/\Mem Φ (.gs v 9 1 (strs (zG c))::K) w'):=by
 have F:=x0
 obtain ⟨p3,c4,p9,K1,S1,L1,T1,c22,rfl,h2,h8,C0,O1,R1,T0,n1,p0,o1,q0,p1,s1⟩:=RCore.fm x0
 refine zL func50 ntmps50 fun Q hQ a J=>?_
 refine Bx fun J1 w N a J=>?_
 refine go fun a J=>?_
 replace N:=N.nilRow 9 1
 replace N:=N.nf
 refine go fun a J=>?_
 refine zT (J.ks [1]) N (fun R mm a w=>∃(t:Nat) (u:Value) (m:List Bs),mm=c.inputs.length - t/\R Φ [(3,u),(4,.int .i64 t)] [(0,.gs (u) 9 1 (strs m))] a w/\(zG c=m++((c.inputs.drop t).map (fun p=>inN p.name)++((c.datas.drop (0)).flatMap z6c++c.funs.flatMap dP)))) (c.inputs.length - 0) ⟨0,.slice none 0 0,[],rfl,⟨J.pk,N⟩,(by simp [zG])⟩ ?_
 clear N J
 rintro mm a w ⟨t,u,m,d,⟨J,N⟩,A⟩ E1 k0
 replace N:=N.nf
 by_cases h0:t < c.inputs.length
 refine go fun a J=>?_
 obtain ⟨W1,rfl,A0,U,c1,k1,h1,s0⟩:=h8.el p0 h0
 obtain rfl:=id s0
 have U0:=hT.inp _ (mgQ U)
 refine Qq (fun a J=>?_) (o:=by exact fun J O=>vQ J rfl rfl (by show 3+A0.name.size<=_;omega))
 refine jQ fun b2 w N a J=>?_
 refine vH 1 xP (fun V0 w N a J=>?_) (hb:=by have a0:=sF A;simp only [zR,lcQ,lnQ];omega)
 rw [oM] at N
 refine go fun a J=>?_
 replace N:=N.dl [0]
 refine k0 _ _ _ (by subst d;omega) ⟨(t+1),(V0),((m++[inN A0.name])),rfl,⟨J.pk,N⟩,?_⟩
 rw [A,zA U];simp only [List.append_assoc,List.cons_append,List.nil_append,List.map_cons] <;> rfl
 refine go fun a J=>?_
 refine zT (J.ks [1]) N (fun R mm a w=>∃(j:Nat) (u:Value) (m:List Bs),mm=c.datas.length - j/\R Φ [(3,u),(5,.int .i64 j)] [(0,.gs (u) 9 1 (strs m))] a w/\(zG c=m++(((c.datas.drop (j)).flatMap z6c++c.funs.flatMap dP)))) (c.datas.length - 0) ⟨0,u,m,rfl,⟨J.pk,N⟩,(by rw [A,zB h0];rfl)⟩ ?_
 clear N J
 rintro mm a w ⟨j,u,m,d,⟨J,N⟩,M⟩ F1 l0
 replace N:=N.nf
 by_cases i0:j < c.datas.length
 refine go fun a J=>?_
 obtain ⟨X1,rfl,G,V,d1,l1,i1,t0⟩:=h2.el T0 i0
 obtain ⟨Z1,rfl,j0⟩:=id t0
 obtain ⟨U1,c64,rfl,q1,r0⟩:=j0.fm
 refine zT (J.ks [1,5]) N (fun R mm a w=>∃(k_:Nat) (u:Value) (m:List Bs),mm=G.cons.length - k_/\R Φ [(3,u),(6,.int .i64 k_)] [(0,.gs (u) 9 1 (strs m))] a w/\(zG c=m++((G.cons.drop k_).flatMap (fun y=>z6i y.name y.fields.length)++((c.datas.drop (j+1)).flatMap z6c++c.funs.flatMap dP)))) (G.cons.length - 0) ⟨0,u,m,rfl,⟨J.pk,N⟩,(by rw [M,zA V,List.flatMap_cons,List.append_assoc];rfl)⟩ ?_
 clear N J
 rintro mm a w ⟨k_,u,m,d,⟨J,N⟩,P⟩ G1 m0
 replace N:=N.nf
 by_cases D0:k_ < G.cons.length
 refine go fun a J=>?_
 obtain ⟨Y1,rfl,k,W,e1,m1,j1,u0⟩:=j0.el r0 D0
 obtain ⟨a2,rfl,E0⟩:=id u0
 obtain ⟨V1,M1,rfl,r1,t1⟩:=E0.fm
 refine zT (J.ks [1,5,6]) N (fun R mm a w=>∃(I:Nat) (u:Value) (m:List Bs),mm=k.fields.length - I/\R Φ [(3,u),(7,.int .i64 I)] [(0,.gs (u) 9 1 (strs m))] a w/\(zG c=m++((List.range' I (k.fields.length - I)).map (kA k.name)++((G.cons.drop (k_+1)).flatMap (fun y=>z6i y.name y.fields.length)++((c.datas.drop (j+1)).flatMap z6c++c.funs.flatMap dP))))) (k.fields.length - 0) ⟨0,u,m,rfl,⟨J.pk,N⟩,(by rw [P,zA W,List.flatMap_cons,List.append_assoc,q7n])⟩ ?_
 clear N J
 rintro mm a w ⟨I,u,m,d,⟨J,N⟩,B⟩ H1 n0
 replace N:=N.nf
 by_cases Q1:I < k.fields.length
 have U0:=hT.con _ (mgQ V) _ (mgQ W)
 refine zO call84 (fun w N a J=>?_) (c:=z6h (by omega) (by omega) N)
 refine jQ fun c2 w N a J=>?_
 refine vH 1 xP (fun W0 w N a J=>?_) (hb:=by have a0:=sF B;simp only [zR,lcQ,lnQ];omega)
 rw [oM] at N
 refine go fun a J=>?_
 replace N:=N.dl [0]
 refine n0 _ _ _ (by subst d;omega) ⟨(I+1),(W0),((m++[kA k.name I])),rfl,⟨J.pk,N⟩,?_⟩
 rw [B,j6l (s:=k.name) (by omega:I < k.fields.length)];simp only [List.append_assoc,List.cons_append,List.nil_append]
 refine go fun a J=>?_
 refine m0 _ _ _ (by subst d;omega) ⟨(k_+1),(u),(m),rfl,⟨J.pk,N⟩,?_⟩
 have h_:=B
 rw [q7o (by omega)] at h_
 rw [h_];simp only [List.nil_append]
 refine go fun a J=>?_
 refine l0 _ _ _ (by subst d;omega) ⟨(j+1),(u),(m),rfl,⟨J.pk,N⟩,?_⟩
 have h_:=P
 rw [zB (by omega)] at h_
 rw [h_];simp only [List.flatMap_nil,List.nil_append]
 refine go fun a J=>?_
 refine zT (J.ks [1]) N (fun R mm a w=>∃(e:Nat) (u:Value) (m:List Bs),mm=c.funs.length - e/\R Φ [(3,u),(8,.int .i64 e)] [(0,.gs (u) 9 1 (strs m))] a w/\(zG c=m++((c.funs.drop (e)).flatMap dP))) (c.funs.length - 0) ⟨0,u,m,rfl,⟨J.pk,N⟩,(by rw [M,zB i0];rfl)⟩ ?_
 clear N J
 rintro mm a w ⟨e,u,m,d,⟨J,N⟩,q⟩ I1 o0
 replace N:=N.nf
 by_cases L:e < c.funs.length
 refine go fun a J=>?_
 obtain ⟨y1,rfl,b,n,B0,K0,C,h⟩:=C0.el q0 L
 obtain ⟨A1,Y0,rfl,f0,z⟩:=id h
 obtain ⟨u1,Z0,rfl,M0,Q0⟩:=f0.fm
 obtain ⟨v1,a1,w1,b1,rfl,J0,f1,g1,N0,R0,O0,S0⟩:=REx.fm z
 have I0:=hT.fn _ (mgQ n)
 refine jQ fun B1 w N a J=>?_
 refine vH 1 xP (fun y0 w N a J=>?_) (hb:=by have a0:=sF q;simp only [zR,lcQ,lnQ];omega)
 rw [oM] at N
 refine yU call79 (fun D1 w F0 N a J=>?_) (c:=j8u (by have h_:=x7k q n;omega) h N)
 refine go fun a J=>?_
 have S:=N
 clear N
 obtain ⟨H,f,N,D⟩:=S.freezeRow (i:=0) rfl
 clear S
 replace F:=RCore.mono _ _ _ _ f F
 replace C:=C.mono f
 replace h:=RFun.mono _ _ _ _ f h
 replace z:=REx.mono _ _ _ _ f z
 replace N:=N.nf
 have r:SliceOf RStr H 1 _ ((b.params.map Param.name++zN b.body)):=SliceOf.strs.2 D
 obtain ⟨x1,c143,w0,P0,b0⟩:=r.form (by decide)
 have T:=N
 clear N
 subst w0
 have N:=T
 clear T
 refine go fun a J=>?_
 refine zT (J.ks [1,8,9]) N (fun R mm a w=>∃(g:Nat) (u:Value) (m:List Bs),mm=(b.params.map Param.name++zN b.body).length - g/\R H [(3,u),(10,.int .i64 g)] [(1,.gs (u) 9 1 (strs m))] a w/\(zG c=m++(((b.params.map Param.name++zN b.body).drop g).map (vrN b.name)++(c.funs.drop (e+1)).flatMap dP))) ((b.params.map Param.name++zN b.body).length - 0) ⟨0,y0,(m++[b.name]),rfl,⟨J.pk,N⟩,(by rw [q,zA n,List.flatMap_cons,q7z];simp only [List.append_assoc,List.cons_append,List.nil_append])⟩ ?_
 clear N J
 rintro mm a w ⟨g,u,m,d,⟨J,N⟩,l⟩ X0 Z
 replace N:=N.nf
 by_cases g0:g < ((b.params.map Param.name++zN b.body)).length
 refine Reg [1,1,2,1,1,1,2,1,1,1,1,2,1,0,0,1] [0,2] fun w N a J=>?_
 refine Qq (fun a J=>?_) (o:=by exact fun J O=>vQ J rfl rfl (by show b.name.size+1<=_;omega))
 refine go fun a J=>?_
 obtain ⟨z1,rfl,X,E,Y,L0,H0,c0⟩:=r.el b0 g0
 obtain rfl:Y=[.string X]:=c0
 have w0:=x3u I0 (mgQ E)
 refine Qq (fun a J=>?_) (o:=by exact fun J O=>vQ J rfl rfl (by rw [ByteArray.size_append];show b.name.size+1+_<=_;omega))
 refine jQ fun C1 w N a J=>?_
 refine vH 2 xP (fun z0 w N a J=>?_) (hb:=by have a0:=sF l;simp only [zR,lcQ,lnQ];omega)
 rw [oM] at N
 refine go fun a J=>?_
 replace N:=N.dl [0]
 refine Z _ _ _ (by subst d;omega) ⟨(g+1),(z0),((m++[vrN b.name X])),rfl,⟨J.pk,N⟩,?_⟩
 rw [l,zA E];simp only [List.append_assoc,List.cons_append,List.nil_append,List.map_cons] <;> rfl
 refine go fun a J=>?_
 replace N:=N.le (f)
 replace N:=N.dl [0]
 refine o0 _ _ _ (by subst d;omega) ⟨(e+1),(u),(m),rfl,⟨J.pk,N⟩,?_⟩
 have h_:=l
 rw [zB (by omega)] at h_
 rw [h_];simp only [List.map_nil,List.nil_append,List.append_assoc]
 refine zC ?_
 replace N:=N.dl [1]
 have h_:=q
 rw [zB L,List.flatMap_nil,List.append_nil] at h_
 rw [h_];exact ⟨_,rfl,trivial,N⟩
end
section
variable {c:Core} {g:Flow->Bs}
def ixL (c:Core) (g:Flow->Bs) (l:List Flow):List Nat:=l.map fun f=>yW (zG c) (g f)
theorem q8m {i:Nat} {x:Flow} (h:(zY c)[i]? = some x):ixL c g ((zY c).take i)++[yW (zG c) (g x)]=ixL c g ((zY c).take (i+1)):=by
 rw [jB h,ixL,ixL,List.map_append];rfl
theorem j7g (i:Nat):(ixL c g ((zY c).take i)).length<=(zY c).length:=by rw [ixL,List.length_map,List.length_take];omega
theorem j7f {i:Nat} (h:¬i < (zY c).length):ixL c g ((zY c).take i)=ixL c g (zY c):=by rw [oN h]
end
theorem z8n {Φ:Fz} {K:List Res} {w:World} {d0:List Value} {c:Core} (S:RCore Φ d0 c) (hR:Right c) (H:LOk c) (b0:∀f∈c.funs,okF c f.body) (N:Mem Φ K w) :
  Calls prog 46 #[.agg d0.toArray] w (fun ee w'=>∃y:Fz×List Value,ee=.returned (.agg y.2.toArray)/\(Φ.Le y.1/\RGr y.1 y.2 (qW c))/\Mem y.1 K w'):=by
 have d:=S
 have hE:∀f∈zY c,f.1∈zG c/\f.2∈zG c:=fun f hf=>H.gok.ends f.1 f.2 hf
 have k0:(zY c).length<=1000000000000:=Nat.le_trans (aC _) H.al
 obtain ⟨p3,c4,p9,D0,N0,E0,O0,c22,rfl,h2,h8,H0,I0,L0,M0,m0,t0,n0,u0,o0,w0⟩:=RCore.fm S
 refine zL func46 ntmps46 fun Q hQ a J=>?_
 refine Bx fun B0 w N a J=>?_
 refine Alc fun C0 w N a J=>?_
 refine yU call50 (fun V0 w h0 N a J=>?_) (c:=x1m d H.tidy H.nl N)
 have e:=N
 clear N
 obtain ⟨U,A,N,r⟩:=e.freezeRow (i:=0) rfl
 clear e
 replace d:=RCore.mono _ _ _ _ A d
 replace N:=N.nf
 have b:SliceOf RStr U 1 _ ((zG c)):=SliceOf.strs.2 r
 obtain ⟨c0,X,k,p0,x0⟩:=b.form (by decide)
 have h:=N
 clear N
 subst k
 have N:=h
 clear h
 refine qM fun a J=>?_
 refine Alc fun W w N a J=>?_
 refine Sto 0 fun w N a J=>?_
 refine yU call82 (fun W0 w i0 N a J=>?_) (c:=j9w d hR H.tidy b0 H.al N)
 refine go fun a J=>?_
 have e:=N
 clear N
 obtain ⟨B,p,N,s⟩:=e.freezeRow (i:=0) rfl
 clear e
 replace d:=RCore.mono _ _ _ _ p d
 replace b:=b.up p
 replace N:=N.nf
 have n:SliceOf RFlow B 2 _ ((zY c)):=⟨_,s,cM _ _⟩
 obtain ⟨P0,F0,k,q0,M⟩:=n.form (by decide)
 have h:=N
 clear N
 subst k
 have N:=h
 clear h
 replace N:=N.nilRow 3 1
 replace N:=N.nilRow 3 1
 replace N:=N.nf
 refine go fun a J=>?_
 refine zT (J.ks [2,3,4]) N (fun R mm a w=>∃(i:Nat) (F:Value) (G:Value) (v:List Nat) (z:List Nat),mm=(zY c).length - i/\R B [(5,.int .i64 i)] [(0,.gs (G) 3 1 (nats z)),(1,.gs (F) 3 1 (nats v)),(2,.blk W (ob [.slice c0 ((zG c)).length X,F,G] 86))] a w/\(v=ixL c (fun f=>f.1) ((zY c).take i)/\z=ixL c (fun f=>f.2) ((zY c).take i))) ((zY c).length - 0) ⟨0,.slice none 0 0,.slice none 0 0,[],[],rfl,⟨J.pk,N⟩,⟨rfl,rfl⟩⟩ ?_
 clear N J
 rintro mm a w ⟨i,F,G,v,z,a0,⟨J,N⟩,I⟩ A0 L
 replace N:=N.nf
 obtain ⟨D,E⟩:=I
 by_cases Y:i < ((zY c)).length
 refine Reg [1,2,1,2,1,1,1,1,2,0,0,0,1,0] [0,2,3,4] fun w N a J=>?_
 refine go fun a J=>?_
 obtain ⟨S0,rfl,T,l,f0,l0,j0,P⟩:=n.el M Y
 obtain rfl:=id P
 refine zO call49 (fun w N a J=>?_) (c:=q1b (hE _ (mgQ l)).1 b N)
 refine jQ fun T0 w N a J=>?_
 refine vH 2 j0f (fun e0 w N a J=>?_) (hb:=by have h_:=j7g (c:=c) (g:=fun f=>f.1) i;rw [sH,D];simp only [lcQ,lnQ];omega)
 rw [z3j] at N
 refine Sto 3 fun w N a J=>?_
 refine Reg [1,2,1,2,1,1,1,1,2,0,0,0,1,0] [0,2,3,4,5] fun w N a J=>?_
 refine zO call49 (fun w N a J=>?_) (c:=q1b (hE _ (mgQ l)).2 b N)
 refine jQ fun U0 w N a J=>?_
 refine vH 2 j0f (fun v70 w N a J=>?_) (hb:=by have h_:=j7g (c:=c) (g:=fun f=>f.2) i;rw [sH,E];simp only [lcQ,lnQ];omega)
 rw [z3j] at N
 refine Sto 4 fun w N a J=>?_
 refine go fun a J=>?_
 replace N:=N.dl [1,0]
 refine L _ _ _ (by subst a0;omega) ⟨(i+1),(e0),(v70),((v++[yW (zG c) T.1])),((z++[yW (zG c) T.2])),rfl,⟨J.pk,N⟩,?_⟩
 exact ⟨by rw [D];exact q8m (g:=fun f=>f.1) l,by rw [E];exact q8m (g:=fun f=>f.2) l⟩
 refine go fun a J=>?_
 have e:=N
 clear N
 obtain ⟨V,q,N,t⟩:=e.freezeRow (i:=1) rfl
 clear e
 replace d:=RCore.mono _ _ _ _ q d
 replace b:=b.up q
 replace N:=N.nf
 have j:SliceOf RNat V 1 _ ((ixL c (fun f=>f.1) (zY c))):=⟨_,t,chunks_nat.2 (by rw [D,j7f (by omega)])⟩
 obtain ⟨Q0,G0,k,r0,y0⟩:=j.form (by decide)
 have h:=N
 clear N
 subst k
 have N:=h
 clear h
 have e:=N
 clear N
 obtain ⟨C,m,N,u⟩:=e.freezeRow (i:=0) rfl
 clear e
 replace d:=RCore.mono _ _ _ _ m d
 replace b:=b.up m
 replace j:=j.mono RNat.mono m
 replace N:=N.nf
 have o:SliceOf RNat C 1 _ ((ixL c (fun f=>f.2) (zY c))):=⟨_,u,chunks_nat.2 (by rw [E,j7f (by omega)])⟩
 obtain ⟨R0,c85,k,s0,z0⟩:=o.form (by decide)
 have h:=N
 clear N
 subst k
 have N:=h
 clear h
 refine Sto 1 fun w N a J=>?_
 refine go fun a J=>?_
 have Z:=N
 replace N:=N.dl [2,1,0]
 refine pR (N:=Z) ?_
 exact ⟨(C,_),rfl,⟨(((A).trans p).trans q).trans m,_,_,_,rfl,b,j,o⟩,N⟩
section
variable {n r i a b:Nat} {es:Edges} {l fr to:List Nat} {m m0:List Int} {ch:Bool} {x y:Int}
theorem rep_set {i n:Nat} (h:i < n):(List.replicate i (-1:Int)++List.replicate (n - i) 0).set i (-1)=List.replicate (i+1) (-1)++List.replicate (n - (i+1)) 0:=by
 rw [List.set_append_right _ _ (by simp),List.length_replicate,Nat.sub_self,show n - i=(n - (i+1))+1 by omega,List.replicate_succ,List.set_cons_zero,List.replicate_succ' (n:=i),List.append_assoc];rfl
theorem v0f (h:l[i]? = some a):(pU n (l.take i)).set a 0=pU n (l.take (i+1)):=by rw [jB h];simp [pU]
theorem z3c {m:List Int} (h:m[a]? = some x):m.getD a 0=x:=by rw [List.getD_eq_getElem?_getD,h];rfl
theorem j5v (c:fr[i]? = some a) (hb:to[i]? = some b):(fr.zip to)[i]? = some (a,b):=by rw [List.getElem?_zip_eq_some];exact ⟨c,hb⟩
theorem x2k (J:es[i]? = some (a,b)) (c:jV r (es.take i) m0=(m,ch)) (d:m[a]? = some x) (e:x=((r:Nat):Int)) (hb:m[b]? = some y) (f:y < 0):jV r (es.take (i+1)) m0=(m.set b ((r+1:Nat):Int),true):=by
 rw [jB J,dG,c,y4b,if_pos ⟨by simp only;rw [z3c d,e],by simp only;rw [z3c hb];exact f⟩]
theorem x2i (J:es[i]? = some (a,b)) (c:jV r (es.take i) m0=(m,ch)) (d:m[a]? = some x) (e:¬x=((r:Nat):Int)):jV r (es.take (i+1)) m0=(m,ch):=by
 rw [jB J,dG,c,y4b,if_neg]
 rintro ⟨h,_⟩;simp only at h;rw [z3c d] at h;exact e h
theorem x2j (J:es[i]? = some (a,b)) (c:jV r (es.take i) m0=(m,ch)) (hb:m[b]? = some y) (d:¬y < 0):jV r (es.take (i+1)) m0=(m,ch):=by
 rw [jB J,dG,c,y4b,if_neg]
 rintro ⟨_,h⟩;simp only at h;rw [z3c hb] at h;exact d h
theorem q2e (h:¬i < es.length) (a:jV r (es.take i) m0=(m,ch)):jV r es m0=(m,ch):=by rw [oN h] at a;exact a
theorem x2l (h:r < n) (a:jV r es m0=(m,true)):nL es (n - r) r m0=nL es (n - (r+1)) (r+1) m:=by
 rw [show n - r=(n - (r+1))+1 by omega,nL,a];rfl
theorem j4h (h:r < n) (a:jV r es m0=(m,false)):nL es (n - r) r m0=m:=by
 rw [show n - r=(n - (r+1))+1 by omega,nL,a];rfl
end
theorem x2b {Φ:Fz} {K:List Res} {w:World} {dg:List Value} {b:GrD} {vf:Value} {l:List Nat} (rg:RGr Φ dg b) (rf:SliceOf RNat Φ 1 vf l) (hl:∀x∈l,x < b.nodes.length) (g1:b.fr.length=b.to.length) (B0:∀x∈b.fr,x < b.nodes.length) (E0:∀x∈b.to,x < b.nodes.length) (hN:b.nodes.length<=1000000000) (N:Mem Φ K w) :
  Calls prog 52 #[.agg dg.toArray,vf] w (fun ee w'=>∃v:Value,ee=.returned v/\True/\Mem Φ (.gs v 3 1 (z1p (aX b.nodes.length (b.fr.zip b.to) l))::K) w'):=by
 have Z0:=rg
 obtain ⟨s1,s7,n1,rfl,h2,h8,b0⟩:=id rg
 obtain ⟨p3,c4,rfl,i1,j1⟩:=h2.fm
 obtain ⟨p9,U,rfl,T0,m0⟩:=h8.fm
 obtain ⟨t0,V,rfl,U0,n0⟩:=b0.fm
 obtain ⟨l1,c20,rfl,C0,o0⟩:=rf.fm
 refine zL func52 ntmps52 fun Q hQ a J=>?_
 refine Bx fun T w N a J=>?_
 refine go fun a J=>?_
 refine st J rfl rfl rfl (z3y b.nodes.length j0f zeroValue3 rfl J N rfl rfl (by omega) fun o1 w N a J=>?_)
 rw [<- x7b] at N
 obtain ⟨s,k,rfl⟩:=z3d (m:=b.nodes.length) N (i:=0) rfl (by rw [aB,List.length_replicate,Nat.mul_one]) (by decide)
 replace N:=N.nf
 refine go fun a J=>?_
 refine zT (J.ks [1,2,5]) N (fun R mm a w=>∃(r:Nat) (c:List Int),mm=b.nodes.length - r/\R Φ [(6,.int .i64 r)] [(0,.gs (.slice s b.nodes.length k) 3 1 (z1p c))] a w/\(c=List.replicate r (-1:Int)++List.replicate (b.nodes.length - r) 0/\c.length=b.nodes.length/\r<=b.nodes.length)) (b.nodes.length - 0) ⟨0,(List.replicate b.nodes.length (0:Int)),rfl,⟨J.pk,N⟩,⟨rfl,by rw [List.length_replicate],Nat.zero_le _⟩⟩ ?_
 clear N J
 rintro mm a w ⟨r,c,h,⟨J,N⟩,e0⟩ a1 i0
 replace N:=N.nf
 obtain ⟨d,f,h1⟩:=e0
 by_cases c0:r < b.nodes.length
 refine go fun a J=>?_
 obtain ⟨G0,C⟩:=N.toSees.gsSome (i:=0) rfl c0
 obtain ⟨p1,W0⟩:=yG (l:=c) (i:=r) (by omega)
 refine Qq (fun a J=>?_) (o:=by exact fun J O=>qO (p:=G0) r J (by rw [<- C];rfl) rfl runUnderlying84 sizeOf3 c0)
 refine st0 J rfl rfl (mP 0 r J N rfl rfl (by rw [<- C];rfl) (by rw [aB];omega) rfl sizeOf3 rfl fun w N a J=>?_)
 replace N:Mem Φ (.gs (.slice s b.nodes.length k) 3 1 (z1p (c.set r (-1)))::.blk T (ob [.slice p3 b.nodes.length c4,.slice p9 b.fr.length U,.slice t0 b.to.length V] 86)::K) w:=by rw [C,y5k];exact N
 refine go fun a J=>?_
 refine i0 _ _ _ (by subst h;omega) ⟨(r+1),((c.set r (-1))),rfl,⟨J.pk,N⟩,?_⟩
 exact ⟨by rw [d,rep_set (by omega)],by rw [List.length_set];exact f,by omega⟩
 refine go fun a J=>?_
 refine zT (J.ks [1,2,5]) N (fun R mm a w=>∃(y:Nat) (c:List Int),mm=l.length - y/\R Φ [(7,.int .i64 y)] [(0,.gs (.slice s b.nodes.length k) 3 1 (z1p c))] a w/\(c=pU b.nodes.length (l.take y)/\c.length=b.nodes.length)) (l.length - 0) ⟨0,c,rfl,⟨J.pk,N⟩,⟨by rw [d,show b.nodes.length - r=0 by omega,List.replicate_zero,List.append_nil,show r=b.nodes.length by omega];rfl,f⟩⟩ ?_
 clear N J
 rintro mm a w ⟨y,c,h,⟨J,N⟩,f0⟩ b1 j0
 replace N:=N.nf
 obtain ⟨d,f⟩:=f0
 by_cases y0:y < l.length
 refine go fun a J=>?_
 obtain ⟨m1,rfl,t,S,Y,Q0,N0,p0⟩:=rf.el o0 y0
 obtain rfl:Y=[.int .i64 t]:=p0
 refine go fun a J=>?_
 have s0:=hl _ (mgQ S)
 have L:t < b.nodes.length:=by omega
 obtain ⟨H0,D⟩:=N.toSees.gsSome (i:=0) rfl L
 obtain ⟨q1,X0⟩:=yG (l:=c) (i:=t) (by omega)
 refine Qq (fun a J=>?_) (o:=by exact fun J O=>qO (p:=H0) t J (by rw [<- D];rfl) rfl runUnderlying84 sizeOf3 L)
 refine st0 J rfl rfl (mP 0 t J N rfl rfl (by rw [<- D];rfl) (by rw [aB];omega) rfl sizeOf3 rfl fun w N a J=>?_)
 replace N:Mem Φ (.gs (.slice s b.nodes.length k) 3 1 (z1p (c.set t (0)))::.blk T (ob [.slice p3 b.nodes.length c4,.slice p9 b.fr.length U,.slice t0 b.to.length V] 86)::K) w:=by rw [D,y5k];exact N
 refine go fun a J=>?_
 refine j0 _ _ _ (by subst h;omega) ⟨(y+1),((c.set t (0))),rfl,⟨J.pk,N⟩,?_⟩
 exact ⟨by rw [d,v0f S],by rw [List.length_set];exact f⟩
 refine go fun a J=>?_
 refine zT (J.ks [2,5]) N (fun R mm a w=>∃(z:Nat) (c:List Int),mm=b.nodes.length - z/\R Φ [(8,.int .i64 z)] [(0,.gs (.slice s b.nodes.length k) 3 1 (z1p c))] a w/\(aX b.nodes.length (b.fr.zip b.to) l=nL (b.fr.zip b.to) (b.nodes.length - z) z c/\c.length=b.nodes.length/\z<=b.nodes.length)) (b.nodes.length - 0) ⟨0,c,rfl,⟨J.pk,N⟩,⟨by rw [d,oN (by omega)];rfl,f,Nat.zero_le _⟩⟩ ?_
 clear N J
 rintro mm a w ⟨z,c,h,⟨J,N⟩,g0⟩ c1 k0
 replace N:=N.nf
 obtain ⟨W,D0,k1⟩:=g0
 by_cases f1:z < b.nodes.length
 refine go fun a J=>?_
 refine zT (J.ks [2,5,8]) N (fun R mm a w=>∃(H:Nat) (e:List Int) (X:Bool),mm=b.fr.length - H/\R Φ [(9,.bool X),(10,.int .i64 H)] [(0,.gs (.slice s b.nodes.length k) 3 1 (z1p e))] a w/\(jV z ((b.fr.zip b.to).take H) c=(e,X)/\e.length=b.nodes.length)) (b.fr.length - 0) ⟨0,c,false,rfl,⟨J.pk,N⟩,⟨rfl,D0⟩⟩ ?_
 clear N J
 rintro mm a w ⟨H,e,X,h,⟨J,N⟩,h0⟩ d1 A
 replace N:=N.nf
 obtain ⟨d,f⟩:=h0
 by_cases z0:H < b.fr.length
 refine go fun a J=>?_
 obtain ⟨I0,rfl,G,u,Z,R0,O0,q0⟩:=h8.el m0 z0
 obtain rfl:Z=[.int .i64 G]:=q0
 refine go fun a J=>?_
 have s0:=B0 _ (mgQ u)
 have M:G < b.nodes.length:=by omega
 obtain ⟨J0,P⟩:=N.toSees.gsSome (i:=0) rfl M
 obtain ⟨L0,E⟩:=yG (l:=e) (i:=G) (by omega)
 refine Qq (fun a J=>?_) (o:=by exact fun J O=>qO (p:=J0) G J (by rw [<- P];rfl) rfl runUnderlying84 sizeOf3 M)
 refine Qq (fun a J=>?_) (o:=by exact fun J O=>wW 0 G J O rfl (by rw [<- P];rfl) (y5j E) isAgg3)
 by_cases d0:L0=((z:Nat):Int)
 refine go fun a J=>?_
 have l0:H < b.to.length:=by omega
 obtain ⟨K0,rfl,j,F,a0,S0,P0,r0⟩:=b0.el n0 l0
 obtain rfl:a0=[.int .i64 j]:=r0
 refine go fun a J=>?_
 have V0:=E0 _ (mgQ F)
 have g:j < b.nodes.length:=by omega
 obtain ⟨u0,B⟩:=N.toSees.gsSome (i:=0) rfl g
 obtain ⟨x0,q⟩:=yG (l:=e) (i:=j) (by omega)
 refine Qq (fun a J=>?_) (o:=by exact fun J O=>qO (p:=u0) j J (by rw [<- B];rfl) rfl runUnderlying84 sizeOf3 g)
 refine Qq (fun a J=>?_) (o:=by exact fun J O=>wW 0 j J O rfl (by rw [<- B];rfl) (y5j q) isAgg3)
 by_cases I:x0 < 0
 refine go fun a J=>?_
 obtain ⟨w0,n⟩:=N.toSees.gsSome (i:=0) rfl g
 refine Qq (fun a J=>?_) (o:=by exact fun J O=>qO (p:=w0) j J (by rw [<- n];rfl) rfl runUnderlying84 sizeOf3 g)
 refine st0 J rfl rfl (mP 0 j J N rfl rfl (by rw [<- n];rfl) (by rw [aB];omega) rfl sizeOf3 rfl fun w N a J=>?_)
 replace N:Mem Φ (.gs (.slice s b.nodes.length k) 3 1 (z1p (e.set j (((z+1:Nat):Int))))::.blk T (ob [.slice p3 b.nodes.length c4,.slice (some I0) b.fr.length U,.slice (some K0) b.to.length V] 86)::K) w:=by rw [n,y5k];exact N
 refine go fun a J=>?_
 refine A _ _ _ (by subst h;omega) ⟨(H+1),((e.set j (((z+1:Nat):Int)))),(true),rfl,⟨J.pk,N⟩,?_⟩
 exact ⟨x2k (j5v u F) d E d0 q I,by rw [List.length_set];exact f⟩
 refine go fun a J=>?_
 refine A _ _ _ (by subst h;omega) ⟨(H+1),(e),(X),rfl,⟨J.pk,N⟩,?_⟩
 exact ⟨x2j (j5v u F) d q I,f⟩
 refine go fun a J=>?_
 refine A _ _ _ (by subst h;omega) ⟨(H+1),(e),(X),rfl,⟨J.pk,N⟩,?_⟩
 obtain ⟨b_,A0⟩:=yG (l:=b.to) (i:=H) (by omega)
 exact ⟨x2i (j5v u A0) d E d0,f⟩
 refine go fun a J=>?_
 cases X
 refine zC ?_
 replace N:=N.dl [1]
 rw [W,j4h (by omega) (q2e (by rw [List.length_zip];omega) d)];exact ⟨_,rfl,trivial,N⟩
 refine go fun a J=>?_
 refine k0 _ _ _ (by subst h;omega) ⟨(z+1),(e),rfl,⟨J.pk,N⟩,?_⟩
 exact ⟨by rw [W,x2l (by omega) (q2e (by rw [List.length_zip];omega) d)],f,by omega⟩
 refine zC ?_
 replace N:=N.dl [1]
 rw [W,show b.nodes.length - z=0 by omega];exact ⟨_,rfl,trivial,N⟩
structure Fit (T:Table) (c:Core):Prop where
 ds:∀n,zK T.datas n=qQ c.datas n
 cs:∀n,zK T.cons n=nO c.datas n
 fs:∀n,zK T.funs n=(match nE c.funs n with | some j=>c.funs[j]? | none=>none)
 is:∀n,zK T.inputs n=z8s c.inputs n
 no:zK T.datas sNo=none
 pos:∀n d,zK T.datas n=some d->0 < d.cons.length/\∀x∈d.cons,∀f∈x.fields,f≠sNo
 mks:∀n m,zK T.cons n=some m->m.data≠sNo
 rs:∀n f,zK T.funs n=some f->f.result≠sNo
 it:∀n t,zK T.inputs n=some t->t≠sNo
structure Rel (s:Scope) (vars:List Param):Prop where
 get:∀n,zK s n=dR vars n
 nz:∀p∈vars,p.type≠sNo
theorem Rel.put {s:Scope} {vars:List Param} (h:Rel s vars) {v f:Bs} (a:f≠sNo):Rel (jO s v f) (vars++[⟨v,f⟩]) where
 get n:=by
  rw [xB,z1v,h.get]
  by_cases e:n=v
  ·rw [if_pos e,if_pos e.symm]
  ·rw [if_neg e,if_neg (fun g=>e g.symm)]
 nz p b:=by
  rcases List.mem_append.1 b with g | g
  ·exact h.nz p g
  ·simp only [List.mem_cons,List.not_mem_nil,or_false] at g;subst g;exact a
theorem Rel.putAll:∀{vs fs:List Bs} {s:Scope} {vars:List Param},Rel s vars->(∀f∈fs,f≠sNo)->Rel (putAll s vs fs) (vars++jP vs fs)
 | [],fs,_,_,h,_=>by rw [vK];simpa [jP] using h
 | _::_,[],_,_,h,_=>by simpa [jP,Go.Sw.putAll] using h
 | v::vs,f::fs,_,vars,h,a=>by
  rw [dE,show vars++jP (v::vs) (f::fs)=(vars++[⟨v,f⟩])++jP vs fs by simp [jP]]
  exact (h.put (a f msQ)).putAll (fun g b=>a g (mcQ _ b))
theorem j2y {ps:List Param} {n t:Bs}:∀(r:Option Bs),(ps.foldl (fun r p=>if p.name=n then some p.type else r) r)=some t->(∃p∈ps,p.type=t)∨r=some t:=by
 induction ps with
 | nil=>intro r h;exact .inr h
 | cons p ps a=>
  intro r h
  rcases a _ h with ⟨q,hq,e⟩ | h
  ·exact .inl ⟨q,mcQ _ hq,e⟩
  ·change (if p.name=n then some p.type else r)=some t at h
   split at h
   ·cases h;exact .inl ⟨p,msQ,rfl⟩
   ·exact .inr h
theorem Rel.ne {s:Scope} {vars:List Param} (h:Rel s vars) {n t:Bs} (g:dR vars n=some t):t≠sNo:=by
 rcases j2y none g with ⟨p,a,rfl⟩ | g
 ·exact h.nz p a
 ·cases g
def Alk (x:Bs) (r:Bs×Bool):Prop:=(r.2=true->x=r.1/\r.1≠sNo)/\(r.2=false->x=sNo)
theorem Alk.no {x:Bs} (h:x=sNo):Alk x noT:=⟨fun g=>(by cases g),fun _=>h⟩
theorem Alk.iff {x:Bs} {r:Bs×Bool} (h:Alk x r):x=sNo↔r.2=false:=by
 cases hr:r.2 with
 | true=>have:=h.1 hr;exact ⟨fun e=>absurd (this.1▸e) this.2,fun e=>by cases e⟩
 | false=>exact ⟨fun _=>rfl,fun _=>h.2 hr⟩
def RT (T:Table) (c:Core) (e:Ex):Prop:=∀s vars,Rel s vars->(zN e).Nodup->Fresh s (zN e)->Alk (zI T e s).1 (zS c e vars)
theorem z4e {c:Core}:∀{xs:List Ex} {vars:List Param},(typesR c xs vars).2=true->(typesR c xs vars).1.length=xs.length
 | [],_,_=>rfl
 | x::xs,vars,h=>by
  simp only [typesR] at h ⊢
  split at h
  ·cases h
  ·rename_i a;rw [if_neg a];simp only [lcQ];rw [z4e h]
theorem y3f {T:Table} {c:Core}:∀{xs:List Ex} {s:Scope} {vars:List Param} {ts:List Bs},(∀x∈xs,gQ T x)->(∀x∈xs,RT T c x)->Rel s vars->xs.length=ts.length->(bindPs xs).Nodup->Fresh s (bindPs xs) ->
  ((allQ T xs s ts).1=true↔(typesR c xs vars).2=true/\ts=(typesR c xs vars).1)
 | [],_,_,[],_,_,_,_,_,_=>by simp [allQ,typesR]
 | x::xs,s,vars,t::ts,k,l,hr,hl,q,i=>by
  have hn':=qI (show (zN x++bindPs xs).Nodup from q)
  have fs:=i.sub (m:=zN x) fun n h=>List.mem_append.2 (.inl h)
  have o:=l x msQ s vars hr hn'.1 fs
  have j:=o.iff
  rw [z7t]
  simp only [typesR]
  by_cases h1:(zI T x s).1=sNo
  ·rw [if_pos (.inl h1),if_pos (j.1 h1)];simp
  ·have d:(zS c x vars).2=true:=by cases h:(zS c x vars).2 with | true=>rfl | false=>exact absurd (j.2 h) h1
   have f:=o.1 d
   rw [if_neg (show ¬(zS c x vars).2=false by simp [d])]
   by_cases a:(zI T x s).1=t
   ·rw [if_neg (fun e=>e.elim h1 (fun g=>g a))]
    have p:=k x msQ s hn'.1 fs h1
    rw [p,y3f (fun y b=>k y (mcQ _ b)) (fun y b=>l y (mcQ _ b)) hr (by simpa using hl) hn'.2.1 (i.sub fun n h=>List.mem_append.2 (.inr h))]
    simp only [List.cons.injEq,<- f.1,a,true_and]
   ·rw [if_pos (.inr a)]
    simp only [Bool.false_eq_true,List.cons.injEq,false_iff,<- f.1]
    exact fun g=>a g.2.1.symm
 | [],_,_,_::_,_,_,_,hl,_,_=>by simp at hl
 | _::_,_,_,[],_,_,_,hl,_,_=>by simp at hl
theorem j1o {T:Table} {c:Core} {xs:List Ex} {s:Scope} {vars:List Param} {ts:List Bs} (d:∀x∈xs,gQ T x) (f:∀x∈xs,RT T c x) (hr:Rel s vars) (e:(bindPs xs).Nodup) (b:Fresh s (bindPs xs)) :
  (vU T xs s ts).1=true↔(typesR c xs vars).2=true/\ts=(typesR c xs vars).1:=by
 unfold vU
 split
 ·rename_i hl;exact y3f d f hr hl e b
 ·rename_i hl
  simp only [Bool.false_eq_true,false_iff]
  rintro ⟨h1,a⟩
  rw [a,z4e h1] at hl
  exact hl rfl
theorem y9l {T:Table} {c:Core}:∀{az:List Arm} {cs:List Con} {first:Bool} {out:Bs} {s:Scope} {vars:List Param},(∀a∈az,gQ T a.body)->(∀a∈az,RT T c a.body)->Rel s vars->cs.length=az.length ->
  (∀x∈cs,∀f∈x.fields,f≠sNo)->(bindPa az).Nodup->Fresh s (bindPa az)->(az=[]->out≠sNo)->Alk (splitP T az cs first out s).1 (armsR c az cs first out vars)
 | [],[],_,out,_,_,_,_,_,_,_,_,_,h=>⟨fun _=>⟨rfl,h rfl⟩,fun g=>by cases g⟩
 | a::az,x::cs,first,out,s,vars,p,r,hr,hl,t,q,l,_=>by
  rw [qE] at q l
  have hn':=qI q
  have hn'':=qI hn'.1
  rw [jT,nN]
  by_cases d:a.con≠x.name∨a.vars.length≠x.fields.length
  ·rw [if_pos d,if_pos d];exact .no rfl
  ·rw [if_neg d,if_neg d]
   have fs:Fresh s (a.vars++zN a.body):=l.sub fun n h=>List.mem_append.2 (.inl h)
   have hb:Alk (aK T a x s).1 (zS c a.body (vars++jP a.vars x.fields)) :=
    r _ msQ (putAll s a.vars x.fields) _ (hr.putAll (t x msQ)) hn''.2.1 (fun n hb=>by
     rw [nS (fun N=>hn''.2.2 n N hb)];exact fs n (List.mem_append.2 (.inr hb)))
   have o:=hb.iff
   by_cases h1:(aK T a x s).1=sNo
   ·rw [if_pos (.inl h1),if_pos (.inl (o.1 h1))];exact .no rfl
   ·have m:(zS c a.body (vars++jP a.vars x.fields)).2=true:=by cases h:(zS c a.body (vars++jP a.vars x.fields)).2 with | true=>rfl | false=>exact absurd (o.2 h) h1
    have j:=hb.1 m
    rw [j.1]
    by_cases i:first=false/\(zS c a.body (vars++jP a.vars x.fields)).1≠out
    ·rw [if_pos (.inr i),if_pos (.inr i)];exact .no rfl
    ·rw [if_neg (fun e=>e.elim j.2 i),if_neg (fun e=>e.elim (by simp [m]) i)]
     have k:a.vars.length=x.fields.length:=Classical.byContradiction fun e=>d (.inr e)
     have u:=y9j (p _ msQ) k hn'.1 fs h1
     rw [u]
     exact y9l (fun b hb=>p b (mcQ _ hb)) (fun b hb=>r b (mcQ _ hb)) hr (by simpa using hl) (fun y v=>t y (mcQ _ v)) hn'.2.1 (l.sub fun n h=>List.mem_append.2 (.inr h)) (fun _=>j.2)
 | [],_::_,_,_,_,_,_,_,_,hl,_,_,_,_=>by simp at hl
 | _::_,[],_,_,_,_,_,_,_,hl,_,_,_,_=>by simp at hl
def tyL (T:Table) (e:Ex) (s:Scope):Option (List Bs×Bs)->Bs
 | none=>sNo
 | some p=>if (vU T e.args s p.1).1=true then p.2 else sNo
theorem opR_eq (n:Bs):(opR n).getD sNo=opT n/\∀t,opR n=some t->t≠sNo:=by
 unfold opR opT
 have:gB [⟨#[43]⟩,⟨#[45]⟩,⟨#[42]⟩,⟨#[47]⟩,⟨#[37]⟩] n=true↔(n=⟨#[43]⟩∨n=⟨#[45]⟩∨n=⟨#[42]⟩∨n=⟨#[47]⟩∨n=⟨#[37]⟩):=by
  rw [hasB_mem];simp
 by_cases h:gB [⟨#[43]⟩,⟨#[45]⟩,⟨#[42]⟩,⟨#[47]⟩,⟨#[37]⟩] n=true
 ·rw [if_pos h,if_pos (this.1 h)];exact ⟨rfl,fun t g=>by cases g;decide⟩
 ·rw [if_neg h,if_neg (fun g=>h (this.2 g))]
  split
  ·exact ⟨rfl,fun t g=>by cases g;decide⟩
  ·exact ⟨rfl,fun t g=>by cases g⟩
theorem bare_iff {e:Ex} {name:Bool} {n:Int} {k:Int}:qN e false name n k=true↔e.num=0/\(name=true∨e.name=sNo)/\(n < 0∨(e.args.length:Int)=n)/\(k < 0∨(e.arms.length:Int)=k):=by
 simp [qN,sNo,and_assoc]
theorem bare1 {e:Ex}:qN e true false 0 0=true↔e.name=sNo/\e.args.length=0/\e.arms.length=0:=by
 simp [qN,sNo,and_assoc]
theorem bare0 {e:Ex} {n:Int}:qN e false true n 0=true↔e.num=0/\(n < 0∨(e.args.length:Int)=n)/\e.arms.length=0:=by
 simp only [qN,baQ,Bool.or_eq_true,decide_eq_true_eq,Bool.false_eq_true,false_or,true_or,and_true]
 omega
theorem z2o {T:Table} {c:Core} {e:Ex} {s:Scope} {vars:List Param} {w:Option (List Bs×Bs)} (b:∀x∈e.args,gQ T x) (i:∀x∈e.args,RT T c x) (hr:Rel s vars) (d:(bindPs e.args).Nodup) (a:Fresh s (bindPs e.args)) (j:∀p,w=some p->p.2≠sNo) :
  Alk (tyL T e s w) (if (typesR c e.args vars).2=false then noT else tyR c e vars w):=by
 cases w with
 | none=>
  by_cases h:(typesR c e.args vars).2=false
  ·rw [if_pos h];exact .no rfl
  ·rw [if_neg h];exact .no rfl
 | some p=>
  have h1:=j1o (ts:=p.1) b i hr d a
  simp only [tyL,tyR]
  by_cases h:(typesR c e.args vars).2=false
  ·rw [if_pos h]
   have:¬(vU T e.args s p.1).1=true:=fun g=>by rw [(h1.1 g).1] at h;cases h
   rw [if_neg this];exact .no rfl
  ·rw [if_neg h]
   have f:(typesR c e.args vars).2=true:=by cases g:(typesR c e.args vars).2 with | true=>rfl | false=>exact absurd g h
   by_cases g:p.1=(typesR c e.args vars).1
   ·rw [if_pos (h1.2 ⟨f,g⟩),if_pos g]
    exact ⟨fun _=>⟨rfl,j p rfl⟩,fun x=>by cases x⟩
   ·have:¬(vU T e.args s p.1).1=true:=fun x=>g (h1.1 x).2
    rw [if_neg this,if_neg g];exact .no rfl
theorem rt_ok {T:Table} {c:Core} (j:Fit T c):∀(n:Nat) (e:Ex),e.sz < n->RT T c e
 | 0,_,h=>by omega
 | n+1,e,i0=>by
  intro s vars hr X L
  have u:∀x∈e.args,gQ T x:=fun x H=>tH T j.no (n+1) x (by have:=Ex.lt_args H;omega)
  have a0:∀a∈e.arms,gQ T a.body:=fun a S=>tH T j.no (n+1) a.body (by have:=Ex.lt_arms S;omega)
  have q:∀x∈e.args,RT T c x:=fun x H=>rt_ok j n x (by have:=Ex.lt_args H;omega)
  have c0:∀a∈e.arms,RT T c a.body:=fun a S=>rt_ok j n a.body (by have:=Ex.lt_arms S;omega)
  rw [wL] at X L
  have V:=qI X
  have B:=qI V.1
  have fa:Fresh s (bindPs e.args):=L.sub fun m N=>List.mem_append.2 (.inl (List.mem_append.2 (.inr N)))
  have fb:Fresh s (bindPa e.arms):=L.sub fun m N=>List.mem_append.2 (.inr N)
  rw [dJ]
  by_cases F:e.kind=7
  ·rw [sO T e s F]
   unfold xI
   by_cases hb:qN e false false 1 (-1)=true
   ·rw [if_pos hb]
    obtain ⟨Y,Z,b3,_⟩:=bare_iff.1 hb
    obtain ⟨x,b⟩:=one_arg (pE (n:=1) hb)
    have H:e.args[0]? = some x:=by rw [b];rfl
    rw [jU H]
    simp only [F,Y,b,firstR]
    simp only [show ¬((7:Int)=1) by decide,show ¬((7:Int)=2) by decide,show ¬((7:Int)=3) by decide,show ¬((7:Int)=6) by decide,ne_eq,not_true,not_false_eq_true,false_and,and_false,or_self,if_false,if_true,lcQ,lnQ,Z.resolve_left (by decide)]
    have na:=B.2.1
    rw [b] at fa na
    simp only [bindPs,List.append_nil] at fa na
    have mx:x∈e.args:=by rw [b];simp
    have R:=q x mx s vars hr na fa
    by_cases r:(zS c x vars).2=false
    ·rw [if_pos r,R.2 r,j.no];exact .no rfl
    ·rw [if_neg r]
     have h1:(zS c x vars).2=true:=by cases g:(zS c x vars).2 with | true=>rfl | false=>exact absurd g r
     obtain ⟨v,e2⟩:=R.1 h1
     have e3:=u x mx s na fa (v▸e2)
     rw [v,e3,j.ds]
     cases hd:qQ c.datas (zS c x vars).1 with
     | none=>exact .no rfl
     | some d=>
      have i:=j.pos _ d ((j.ds _).trans hd)
      simp only
      by_cases k:d.cons.length=e.arms.length
      ·rw [if_pos k,if_neg (fun g=>g k)]
       exact y9l a0 c0 hr k i.2 V.2.1 fb (fun g=>by rw [g] at k;have:=i.1;simp only [lnQ] at k;omega)
      ·rw [if_neg k,if_pos k];exact .no rfl
   ·rw [if_neg hb]
    have hq:¬(e.num=0/\e.name=sNo/\e.args.length=1):=fun g=>hb (bare_iff.2 ⟨g.1,.inr g.2.1,.inr (by rw [g.2.2];rfl),.inl (by decide)⟩)
    by_cases P:(e.kind≠7/\0 < e.arms.length)∨(e.kind≠1/\e.num≠0)
    ·rw [if_pos P];exact .no rfl
    ·rw [if_neg P]
     have r:e.num=0:=Classical.byContradiction fun g=>P (.inr ⟨by rw [F];decide,g⟩)
     simp only [F]
     simp only [show ¬((7:Int)=1) by decide,show ¬((7:Int)=2) by decide,show ¬((7:Int)=3) by decide,show ¬((7:Int)=6) by decide,if_false,if_true]
     rw [if_pos]
     ·exact .no rfl
     ·by_cases hl:e.args.length=1
      ·exact .inr fun g=>hq ⟨r,g,hl⟩
      ·exact .inl hl
  have Q:((e.kind≠7/\0 < e.arms.length)∨(e.kind≠1/\e.num≠0))↔¬(e.arms.length=0/\(e.kind=1∨e.num=0)):=by
   constructor
   ·rintro (⟨_,g⟩ | ⟨g,g'⟩) ⟨x,y⟩
    ·omega
    ·exact y.elim g g'
   ·intro g
    by_cases x:e.arms.length=0
    ·exact .inr ⟨fun y=>g ⟨x,.inl y⟩,fun y=>g ⟨x,.inr y⟩⟩
    ·exact .inl ⟨F,by omega⟩
  by_cases h1:e.kind=1
  ·rw [z0o T e s h1]
   unfold sI
   by_cases hb:qN e true false 0 0=true
   ·obtain ⟨Y,Z,b3⟩:=bare1.1 hb
    rw [if_pos hb,if_neg (fun g=>Q.1 g ⟨b3,.inl h1⟩),if_pos h1]
    exact ⟨fun _=>⟨rfl,show yT≠sNo by decide⟩,fun g=>by simp [Y,Z] at g⟩
   ·rw [if_neg hb]
    by_cases O:e.arms.length=0
    ·rw [if_neg (fun g=>Q.1 g ⟨O,.inl h1⟩),if_pos h1]
     refine ⟨fun g=>?_,fun _=>rfl⟩
     simp only [baQ,decide_eq_true_eq] at g
     exact absurd (bare1.2 ⟨g.1,g.2,O⟩) hb
    ·rw [if_pos (Q.2 fun g=>O g.1)];exact .no rfl
  by_cases hq:e.num=0/\e.arms.length=0
  ·rw [if_neg (fun g=>Q.1 g ⟨hq.2,.inr hq.1⟩),if_neg h1]
   have o:∀{n:Int},(n < 0∨(e.args.length:Int)=n)->qN e false true n 0=true:=fun h=>bare0.2 ⟨hq.1,h,hq.2⟩
   have A:∀{n:Int},¬(n < 0∨(e.args.length:Int)=n)->¬qN e false true n 0=true:=fun h g=>h (bare0.1 g).2.1
   by_cases C:e.kind=2
   ·rw [if_pos C,oR T e s C]
    unfold mU
    by_cases hl:e.args.length=0
    ·rw [if_pos (o (.inr (by rw [hl];rfl))),hr.get]
     cases W:dR vars e.name with
     | none=>exact .no rfl
     | some t=>exact ⟨fun _=>⟨rfl,hr.ne W⟩,fun g=>by simp [hl] at g⟩
    ·rw [if_neg (A (by omega))]
     cases W:dR vars e.name with
     | none=>exact .no rfl
     | some t=>exact ⟨fun g=>by simp only [decide_eq_true_eq] at g;exact absurd g hl,fun _=>rfl⟩
   by_cases I:e.kind=3
   ·rw [if_neg C,if_pos I,oP T e s I]
    unfold uS
    by_cases hl:e.args.length=0
    ·rw [if_pos (o (.inr (by rw [hl];rfl))),j.is]
     cases W:z8s c.inputs e.name with
     | none=>exact .no rfl
     | some t=>exact ⟨fun _=>⟨rfl,j.it _ _ ((j.is _).trans W)⟩,fun g=>by simp [hl] at g⟩
    ·rw [if_neg (A (by omega))]
     cases W:z8s c.inputs e.name with
     | none=>exact .no rfl
     | some t=>exact ⟨fun g=>by simp only [decide_eq_true_eq] at g;exact absurd g hl,fun _=>rfl⟩
   rw [if_neg C,if_neg I]
   by_cases E:e.kind=6
   ·rw [if_pos E,oQ T e s E]
    unfold z3s
    by_cases hl:e.args.length=2
    ·rw [if_pos (o (.inr (by rw [hl];rfl)))]
     obtain ⟨x,y,b⟩:=v0t hl
     have H:e.args[0]? = some x:=by rw [b];rfl
     have hy:e.args[1]? = some y:=by rw [b];rfl
     simp only [if_pos E,b,bindPs,List.append_nil] at X L
     have b0:=qI X
     have U:=qI b0.1
     have M:=qI U.2.1
     have mx:x∈e.args:=by rw [b];simp
     have my:y∈e.args:=by rw [b];simp
     have R:=q x mx s vars hr M.1 (L.sub fun m N=>by simp [N])
     have hi:=R.iff
     simp only [b,letR,firstR,lcQ,lnQ]
     by_cases r:(zI T x s).1=sNo
     ·rw [<- b,y3a H r,if_pos (.inl (hi.1 r))];exact .no rfl
     ·have g1:(zS c x vars).2=true:=by cases g:(zS c x vars).2 with | true=>rfl | false=>exact absurd (hi.2 g) r
      obtain ⟨v,e2⟩:=R.1 g1
      have e3:=u x mx s M.1 (L.sub fun m N=>by simp [N]) r
      rw [<- b,z6s H hy r,if_neg (by simp [g1])]
      simp only [e3,v]
      refine q y my _ _ (hr.put e2) M.2.1 (fun m N=>?_)
      rw [xB,if_neg]
      ·exact L m (by simp [N])
      ·rintro rfl
       exact U.2.2 e.name (by simp) (by simp [N])
    ·rw [if_neg (A (by omega))]
     cases S:e.args with
     | nil=>exact .no rfl
     | cons a l=>
      simp only [letR]
      rw [S] at hl
      rw [if_pos (.inr (by simp only [lcQ] at hl;omega))];exact .no rfl
   rw [if_neg E,if_neg F]
   by_cases z:e.kind=4
   ·rw [oO T e s z]
    have G:wV c e.kind e.name=(zK T.cons e.name).map fun m=>(m.con.fields,m.data):=by rw [wV,if_pos z,j.cs]
    have:=z2o (w:=wV c e.kind e.name) u q hr B.2.1 fa (fun p i=>by
     rw [G] at i
     cases N:zK T.cons e.name with
     | none=>rw [N] at i;cases i
     | some m=>rw [N] at i;cases i;exact j.mks _ _ N)
    have v:(uK T e s).1=tyL T e s (wV c e.kind e.name):=by
     rw [G]
     unfold uK
     cases N:zK T.cons e.name with
     | none=>rfl
     | some m=>simp only [if_pos (o (n:=-1) (.inl (by decide))),Option.map_some,tyL]
    rw [v];exact this
   by_cases D:e.kind=5
   ·rw [dK T e s D]
    have G:wV c e.kind e.name=(zK T.funs e.name).map fun f=>(f.params.map Param.type,f.result):=by
     rw [wV,if_neg z,if_pos D,j.fs]
     cases nE c.funs e.name <;> rfl
    have:=z2o (w:=wV c e.kind e.name) u q hr B.2.1 fa (fun p i=>by
     rw [G] at i
     cases N:zK T.funs e.name with
     | none=>rw [N] at i;cases i
     | some m=>rw [N] at i;cases i;exact j.rs _ _ N)
    have v:(aL T e s).1=tyL T e s (wV c e.kind e.name):=by
     rw [G]
     unfold aL
     cases N:zK T.funs e.name with
     | none=>rfl
     | some m=>simp only [if_pos (o (n:=-1) (.inl (by decide))),Option.map_some,tyL]
    rw [v];exact this
   by_cases K:e.kind=8
   ·rw [uD T e s K]
    have G:wV c e.kind e.name=(opR e.name).map fun t=>([yT,yT],t):=by rw [wV,if_neg z,if_neg D,if_pos K]
    obtain ⟨o1,o2⟩:=opR_eq e.name
    have:=z2o (w:=wV c e.kind e.name) u q hr B.2.1 fa (fun p i=>by
     rw [G] at i
     cases N:opR e.name with
     | none=>rw [N] at i;cases i
     | some m=>rw [N] at i;cases i;exact o2 _ N)
    have v:(nR T e s).1=tyL T e s (wV c e.kind e.name):=by
     rw [G]
     unfold nR
     rw [<- o1]
     by_cases hl:e.args.length=2
     ·rw [if_pos (o (.inr (by rw [hl];rfl)))]
      cases N:opR e.name with
      | none=>simp [tyL]
      | some t=>rfl
     ·rw [if_neg (A (by omega))]
      have:¬(vU T e.args s [yT,yT]).1=true:=by unfold vU;rw [if_neg (by simpa using hl)];simp
      cases N:opR e.name with
      | none=>rfl
      | some t=>simp only [Option.map_some,tyL,if_neg this]
    rw [v];exact this
   ·by_cases g0:e.kind=1∨e.kind=2∨e.kind=3
    ·omega
    ·rw [dL T e s h1 C I z D E F K,wV,if_neg z,if_neg D,if_neg K]
     by_cases h:(typesR c e.args vars).2=false
     ·rw [if_pos h];exact .no rfl
     ·rw [if_neg h];exact .no rfl
  ·rw [if_pos (Q.2 fun g=>hq ⟨g.2.resolve_left h1,g.1⟩)]
   apply Alk.no
   have hb:∀n,¬qN e false true n 0=true:=fun n g=>hq ⟨(bare0.1 g).1,(bare0.1 g).2.2⟩
   by_cases C:e.kind=2
   ·rw [oR T e s C];exact if_neg (hb 0)
   by_cases I:e.kind=3
   ·rw [oP T e s I];exact if_neg (hb 0)
   by_cases z:e.kind=4
   ·rw [oO T e s z];unfold uK
    split
    ·rfl
    ·rw [if_neg (hb _)]
   by_cases D:e.kind=5
   ·rw [dK T e s D];unfold aL
    split
    ·rfl
    ·rw [if_neg (hb _)]
   by_cases E:e.kind=6
   ·rw [oQ T e s E];unfold z3s;rw [if_neg (hb _)]
   by_cases K:e.kind=8
   ·rw [uD T e s K];unfold nR;rw [if_neg (hb _)]
   rw [dL T e s h1 C I z D E F K]
theorem cK:∀{l:List Data} {n:Bs} {d:Data},vC l n=some d->d∈l/\d.name=n
 | [],_,_,h=>by cases h
 | e::l,n,d,h=>by
  simp only [vC] at h
  split at h
  ·rename_i g;cases h;exact ⟨msQ,g⟩
  ·have:=cK h;exact ⟨mcQ _ this.1,this.2⟩
theorem y0f {l:List Data} {n:Bs} (h:n∉l.map Data.name):vC l n=none:=by
 cases g:vC l n with
 | none=>rfl
 | some d=>obtain ⟨h1,a⟩:=cK g;exact absurd (a▸List.mem_map_of_mem h1) h
theorem y9z (ds:List Data) (n:Bs):qQ ds n=vC (truthsD::ds) n:=by rw [<- z4p,z4n]
theorem y0p:∀{l:List Data} {n:Bs} {m:Maker},mR l n=some m->∃d∈l,d.name=m.data/\oZ d.cons n=some m.con
 | [],_,_,h=>by cases h
 | e::l,n,m,h=>by
  simp only [mR] at h
  cases a:oZ e.cons n with
  | some x=>rw [a] at h;cases h;exact ⟨e,msQ,rfl,a⟩
  | none=>rw [a] at h;obtain ⟨d,b,g⟩:=y0p h;exact ⟨d,mcQ _ b,g⟩
theorem y4y (name:Bs):∀(l:List Con) (ok:Bool),dQ name l ok=(ok && !mO name l)
 | [],ok=>by simp [dQ,mO]
 | x::l,ok=>by
  simp only [dQ,y4y name l,mO,List.any_cons,Bool.not_or,<- Bool.and_assoc];rfl
theorem sD (name:Bs):∀(l:List Data) (n:Int) (ok:Bool),(l.map Data.name).Nodup->nK name l n ok=match vC l name with | none=>(n,ok) | some d=>(IntKind.i64.wrap (n+1),ok && !mO name d.cons)
 | [],n,ok,_=>rfl
 | d::l,n,ok,a=>by
  simp only [List.map_cons,List.nodup_cons] at a
  simp only [nK,vC]
  by_cases h:d.name=name
  ·rw [if_pos h,if_pos h,sD name l _ _ a.2,y0f (by rw [<- h];exact a.1),y4y]
  ·rw [if_neg h,if_neg h,sD name l _ _ a.2]
theorem q8v (name:Bs):∀(l:List Data),(l.map Data.name).Nodup->(wK name l,kI name l)=match vC l name with | none=>(false,0) | some d=>(mO name d.cons,1)
 | [],_=>rfl
 | d::l,b=>by
  simp only [List.map_cons,List.nodup_cons] at b
  have a:=q8v name l b.2
  simp only [wK,kI,vC] at a ⊢
  by_cases h:d.name=name
  ·rw [y0f (by rw [<- h];exact b.1)] at a
   simp only [Prod.mk.injEq] at a
   simp only [List.any_cons,List.filter_cons,h,decide_true,Bool.true_and,if_true,a.1,Bool.or_false,lcQ,a.2]
  ·simp only [List.any_cons,List.filter_cons,h,decide_false,Bool.false_and,Bool.false_or,Bool.false_eq_true,if_false]
   exact a
theorem uT {ds:List Data} (b:(ds.map Data.name).Nodup) (c:∀d∈ds,d.name≠kV) (name:Bs):xK ds name=vJ ds name:=by
 unfold xK vJ
 by_cases h:name=yT
 ·rw [if_pos h,if_pos h]
 ·rw [if_neg h,if_neg h]
  have h1:=q8v name ds b
  rw [sD name ds 0 true b]
  cases a:vC ds name with
  | none=>
   rw [a] at h1;simp only [Prod.mk.injEq] at h1
   rw [h1.2];simp
  | some d=>
   rw [a] at h1;simp only [Prod.mk.injEq] at h1
   obtain ⟨e,f⟩:=cK a
   have:name≠kV:=f▸c d e
   rw [h1.1,h1.2]
   simp only [this,decide_false,Bool.not_false,Bool.and_true,decide_true,Bool.true_and]
   rw [show IntKind.i64.wrap (0+1)=1 by decide];simp
structure Decl (c:Core):Prop where
 tab:Tabled c
 fd:∀d∈c.datas,∀x∈d.cons,∀f∈x.fields,jY c.datas f=true
 it:∀p∈c.inputs,xK c.datas p.type=true
 fp:∀f∈c.funs,(∀p∈f.params,jY c.datas p.type=true)/\jY c.datas f.result=true
theorem q0a {c:Core} (h:Tabled c) {t:Bs} {d:Data} (g:qQ c.datas t=some d):t≠sNo:=by
 rintro rfl
 rw [y9z] at g
 obtain ⟨h1,a⟩:=cK g
 rcases List.mem_cons.1 h1 with rfl | h1
 ·revert a;decide
 ·have:=(h.dN d h1).1;rw [a,z6l] at this;cases this
theorem z7n {c:Core} (h:Tabled c) {t:Bs} (g:jY c.datas t=true):t≠sNo:=by
 simp only [jY,Bool.or_eq_true,decide_eq_true_eq] at g
 rcases g with g | g
 ·cases a:qQ c.datas t with
  | none=>rw [a] at g;cases g
  | some d=>exact q0a h a
 ·rw [g];decide
theorem q1e {c:Core} (h:Tabled c) (n:Bs):wH (yJ c) n=jY c.datas n:=by
 unfold wH jY
 rw [(z0j (z9n h)).2.1,z4p]
theorem fit_of {c:Core} (h:Decl c):Fit (yJ c) c:=by
 obtain ⟨_,p,t2,t3,t4⟩:=z0j (z9n h.tab)
 have a:∀n,zK (yJ c).datas n=qQ c.datas n:=fun n=>by rw [p,z4p]
 have k:∀n,zK (yJ c).cons n=nO c.datas n:=fun n=>by rw [t2,y0o];rfl
 have b:∀d∈truthsD::c.datas,d.name≠sNo/\0 < d.cons.length/\∀x∈d.cons,∀f∈x.fields,f≠sNo:=fun d a=>by
  rcases List.mem_cons.1 a with rfl | a
  ·refine ⟨by decide,by decide,fun x i f j=>?_⟩
   simp only [truthsD,List.mem_cons,List.not_mem_nil,or_false] at i
   rcases i with rfl | rfl <;> cases j
  ·refine ⟨fun e=>?_,(h.tab.dN d a).2.2.2.1,fun x i f j=>z7n h.tab (h.fd d a x i f j)⟩
   have:=(h.tab.dN d a).1;rw [e,z6l] at this;cases this
 refine ⟨a,k,fun n=>by rw [t3];exact (q0r c.funs n).symm,fun n=>by rw [t4,q8f],?_,fun n d g=>?_,fun n m g=>?_,fun n f g=>?_,fun n t g=>?_⟩
 ·rw [a]
  cases g:qQ c.datas sNo with
  | none=>rfl
  | some d=>exact absurd rfl (q0a h.tab g)
 ·rw [a,y9z] at g;exact (b d (cK g).1).2
 ·rw [k] at g
  obtain ⟨d,a,e,_⟩:=y0p g
  rw [<- e];exact (b d a).1
 ·rw [t3] at g
  obtain ⟨x,i,_,rfl⟩:=vM g
  exact z7n h.tab (h.fp x i).2
 ·rw [t4] at g
  obtain ⟨x,i,_,rfl⟩:=vM g
  have:=h.it x i
  rw [uT h.tab.dU (fun d a=>(h.tab.dN d a).2.2.1)] at this
  unfold vJ at this
  split at this
  ·rename_i e;rw [e];decide
  ·rw [sD _ _ _ _ h.tab.dU] at this
   cases a:vC c.datas x.type with
   | none=>rw [a] at this;simp at this
   | some d=>
    obtain ⟨l,o⟩:=cK a
    rw [<- o];exact (b d (mcQ _ l)).1
theorem q1t:z4b=yP:=funext x7x
theorem apartR_iff {l:List Bs}:cJ l=true↔l.Nodup/\∀n∈l,yP n=true:=by
 unfold cJ
 rw [q1t]
 exact ⟨fun h=>⟨(pD h).1,(pD h).2.2⟩,fun h=>y9i h.1 (fun n _ N=>by cases N) h.2⟩
theorem z2u (l:List Bs):cJ l=pS yP [] l:=by unfold cJ;rw [q1t]
theorem declR {c:Core} (h:kB c=true):Decl c:=by
 simp only [kB,baQ,decide_eq_true_eq,List.all_eq_true,kP] at h
 obtain ⟨⟨⟨⟨⟨⟨⟨⟨h1,u⟩,m⟩,n⟩,j⟩,o⟩,v⟩,w⟩,y⟩:=h
 obtain ⟨d1,d2,d3⟩:=(z4q c.datas).1 h1
 obtain ⟨q,i2⟩:=apartR_iff.1 n
 obtain ⟨k,l⟩:=apartR_iff.1 o
 refine ⟨{ dN:=fun d b=>?_,dU:=d2,cU:=d3,fN:=fun f a=>l _ (List.mem_map_of_mem a),fU:=k,iN:=fun p e=>i2 _ (List.mem_map_of_mem e),iU:=q },fun d b x g f a=>?_,m,fun f a=>⟨fun p e=>(j f a).1.1 p e,(j f a).1.2⟩⟩
 ·obtain ⟨r,i,s,t⟩:=d1 d b
  simp only [List.mem_cons,List.not_mem_nil,or_false,not_or] at i
  refine ⟨r,i.1,i.2,s,fun x g=>?_⟩
  obtain ⟨m1,m2,_⟩:=t x g
  simp only [List.mem_cons,List.not_mem_nil,or_false,not_or] at m2
  exact ⟨m1,m2⟩
 ·exact List.all_eq_true.1 ((d1 d b).2.2.2 x g).2.2 f a
theorem declP {c:Core} (h:jF c=true):Decl c:=by
 simp only [jF,baQ,decide_eq_true_eq,List.all_eq_true,nF,aO] at h
 obtain ⟨⟨⟨⟨⟨h1,m⟩,j⟩,k⟩,i⟩,n⟩:=h
 have b:=(z0j h1).1
 have J:=q1e b
 refine ⟨b,fun d e x l f a=>J f▸j d e x l f a,fun p g=>?_,fun f a=>⟨fun p g=>J p.type▸(i f a).1.1.1 p g,J f.result▸(i f a).1.1.2⟩⟩
 rw [uT b.dU (fun d e=>(b.dN d e).2.2.1)]
 exact k p g
theorem y6s {T:Table}:∀{os seen:List Bs},nC T seen os=true↔os.Nodup/\(∀o∈os,o∉seen)/\∀o∈os,∃f,zK T.funs o=some f/\f.params.length=0
 | [],seen=>by simp [nC]
 | o::os,seen=>by
  simp only [nC]
  cases e:zK T.funs o with
  | none=>exact ⟨fun g=>(by cases g),fun g=>by obtain ⟨f,h1,_⟩:=g.2.2 o msQ;rw [e] at h1;cases h1⟩
  | some f=>
   simp only [baQ,decide_eq_true_eq,y6s (os:=os),Bool.not_eq_true',List.nodup_cons]
   have O:has seen o=false↔o∉seen:=by rw [<- has_mem (l:=seen)];simp
   rw [O]
   constructor
   ·rintro ⟨⟨h1,d⟩,c,b,i⟩
    refine ⟨⟨fun N=>b o N (by simp),c⟩,fun p a=>?_,fun p a=>?_⟩
    ·rcases List.mem_cons.1 a with rfl | a
     ·exact d
     ·exact fun g=>b p a (by simp [g])
    ·rcases List.mem_cons.1 a with rfl | a
     ·exact ⟨f,e,h1⟩
     ·exact i p a
   ·rintro ⟨⟨h1,d⟩,c,b⟩
    obtain ⟨f',h,j⟩:=b o msQ
    rw [e] at h;cases h
    refine ⟨⟨j,c o msQ⟩,d,fun p a N=>?_,fun p a=>b p (mcQ _ a)⟩
    rcases List.mem_append.1 N with g | g
    ·exact c p (mcQ _ a) g
    ·simp only [List.mem_cons,List.not_mem_nil,or_false] at g;subst g;exact h1 a
theorem y8n:∀(ps:List Param),jP (ps.map Param.name) (ps.map Param.type)=ps
 | []=>rfl
 | p::ps=>by
  have:=y8n ps
  simp only [jP] at this ⊢
  simp only [List.map_cons,List.zip_cons_cons];rw [this]
theorem j3y {c:Core} (h:Tabled c) {ps:List Param} (a:∀p∈ps,jY c.datas p.type=true):Rel (sW ps) ps:=by
 have b:Rel [] []:=⟨fun n=>rfl,fun p a=>by cases a⟩
 have:=b.putAll (vs:=ps.map Param.name) (fs:=ps.map Param.type) (fun f d=>by
  obtain ⟨p,N,rfl⟩:=List.mem_map.1 d
  exact z7n h (a p N))
 rw [y8n,List.nil_append,<- z3n] at this
 exact this
theorem q0u {c:Core} (h:Decl c) {ps:List Param} {e:Ex} (d:∀p∈ps,jY c.datas p.type=true) (a:(ps.map Param.name++zN e).Nodup):Alk (zI (yJ c) e (sW ps)).1 (zS c e ps):=by
 have ha':=qI a
 refine rt_ok (fit_of h) (e.sz+1) e (by omega) _ _ (j3y h.tab d) ha'.2.1 (fun n b=>?_)
 rw [z3n,nS (fun N=>ha'.2.2 n N b)];rfl
theorem q9j {c:Core} (h:Decl c) {o:Bs}:y2n c.funs o=true↔∃f,zK (yJ c).funs o=some f/\f.params.length=0:=by
 rw [(fit_of h).fs]
 unfold y2n
 cases nE c.funs o with
 | none=>simp
 | some i=>
  cases a:c.funs[i]? with
  | none=>simp [a]
  | some f=>simp [a]
theorem x8y (c:Core):kB c=jF c:=by
 have key:Decl c->(kB c=true↔jF c=true):=fun h=>by
  have w:=z9n h.tab
  have J:=q1e h.tab
  have B:z2v c.datas=true:=by
   refine (z4q c.datas).2 ⟨fun d k=>?_,h.tab.dU,h.tab.cU⟩
   obtain ⟨C,D,E,F,y⟩:=h.tab.dN d k
   refine ⟨C,by simp [D,E],F,fun x i=>⟨(y x i).1,by simp [(y x i).2],List.all_eq_true.2 (h.fd d k x i)⟩⟩
  simp only [kB,jF,baQ,decide_eq_true_eq,List.all_eq_true,kP,nF,aO,w,B,true_and,J,mG,z2u,y6s]
  constructor
  ·rintro ⟨⟨⟨⟨⟨⟨⟨j,s⟩,z⟩,b⟩,t⟩,u⟩,l⟩,A⟩
   refine ⟨⟨⟨⟨fun e=>j (by rw [e];rfl),fun d k x i f a=>h.fd d k x i f a⟩,fun p q=>?_⟩,fun f a=>⟨(b f a),?_⟩⟩,(pD u).1,fun o _ N=>(by cases N),fun o r=>(q9j h).1 (A o r)⟩
   ·rw [<- uT h.tab.dU (fun d k=>(h.tab.dN d k).2.2.1)];exact s p q
   ·have:=(q0u h (b f a).1.1 (pD (b f a).2).1).1 (l f a).1
    rw [this.1];exact (l f a).2
  ·rintro ⟨⟨⟨⟨j,s⟩,z⟩,b⟩,t,u,l⟩
   refine ⟨⟨⟨⟨⟨⟨⟨fun e=>j (List.eq_nil_of_length_eq_zero e),h.it⟩,?_⟩,fun f a=>(b f a).1⟩,?_⟩,?_⟩,fun f a=>?_⟩,fun o r=>(q9j h).2 (l o r)⟩
   ·rw [<- z2u];exact apartR_iff.2 ⟨h.tab.iU,fun n m=>by obtain ⟨p,q,rfl⟩:=List.mem_map.1 m;exact h.tab.iN p q⟩
   ·rw [<- z2u];exact apartR_iff.2 ⟨h.tab.fU,fun n m=>by obtain ⟨p,q,rfl⟩:=List.mem_map.1 m;exact h.tab.fN p q⟩
   ·rw [<- z2u];refine apartR_iff.2 ⟨t,fun n m=>?_⟩
    obtain ⟨f,a,_⟩:=l n m
    rw [(z0j w).2.2.2.1] at a
    obtain ⟨x,i,e,_⟩:=vM a
    rw [<- e];exact h.tab.fN x i
   ·have v:=q0u h (b f a).1.1.1 (pD (b f a).1.2).1
    have hr:=z7n h.tab (h.fp f a).2
    have e:=(b f a).2
    cases g:(zS c f.body f.params).2 with
    | true=>exact ⟨rfl,by rw [<- (v.1 g).1];exact e⟩
    | false=>rw [v.2 g] at e;exact absurd e.symm hr
 cases h1:kB c with
 | true=>exact ((key (declR h1)).1 h1).symm
 | false=>
  cases j:jF c with
  | true=>rw [(key (declP j)).2 j] at h1;cases h1
  | false=>rfl
theorem y3q (c:Core):uJ c=zX c:=by unfold uJ zX;rw [q8u,x8y]
end Go.Sw
