/- OptNames: for every traced program and every step the law returns true: each step that Applicable names is accepted by Apply, and what Apply accepts of the rules 1 to 5 or RDrop is named; the statement optNamesCardSaid, as it is given; nothing is assumed beyond it. -/
import Derived.Test.YtlfobekmmndchaaGreatDoorX16
set_option linter.unusedVariables false
set_option linter.unusedSimpArgs false
namespace Go.Sw
open Go.Proofs Go.Proofs.Tryz
set_option maxRecDepth 20000
set_option maxHeartbeats 4000000
theorem rw_eq {a b:Rw} (c:a.rule=b.rule) (d:a.fn=b.fn) (e:a.num=b.num) (f:a.path=b.path):a=b:=by
 cases a;cases b
 simp only at c d e f
 subst c d e f;rfl
instance:DecidableEq Rw:=fun a b=>if h:a.rule=b.rule/\a.fn=b.fn/\a.num=b.num/\a.path=b.path then .isTrue (rw_eq h.1 h.2.1 h.2.2.1 h.2.2.2) else .isFalse fun e=>h (by rw [e];exact ⟨rfl,rfl,rfl,rfl⟩)
theorem cS {α:Type} {l:List α} {i:Nat} {x:α} (h:l[i]? = some x):l.take (i+1)=l.take i++[x]:=by rw [List.take_add_one,h];rfl
def z4r (l m:List Rw) (i:Nat) (s:Bool):Prop:=(s=true->l.length=m.length/\l.take i=m.take i)/\(s=false->l≠m)
def aI (a b:Rw) (j:Nat) (s:Bool):Prop:=(s=true->a.rule=b.rule/\a.fn=b.fn/\a.num=b.num/\a.path.length=b.path.length/\a.path.take j=b.path.take j)/\(s=false->a≠b)
theorem z5i (l m:List Rw):z4r l m 0 (decide (l.length=m.length)):=⟨fun h=>⟨of_decide_eq_true h,rfl⟩,fun h e=>of_decide_eq_false h (by rw [e])⟩
theorem nY {a b:Rw} {j:Nat} (h:a≠b):aI a b j false:=⟨(fun h=>by cases h),fun _=>h⟩
theorem z5h {a b:Rw} (c:a.rule=b.rule) (d:a.fn=b.fn) (f:a.num=b.num):aI a b 0 (decide (a.path.length=b.path.length)) :=
 ⟨fun h=>⟨c,d,f,of_decide_eq_true h,rfl⟩,fun h e=>of_decide_eq_false h (by rw [e])⟩
theorem qM {a b:Rw} {j:Nat} {x y:Int} (h:aI a b j true) (d:a.path[j]? = some x) (f:b.path[j]? = some y):aI a b (j+1) (decide (x=y)):=by
 obtain ⟨g,i,k,l,m⟩:=h.1 rfl
 refine ⟨fun e=>⟨g,i,k,l,by rw [cS d,cS f,m,of_decide_eq_true e]⟩,fun e c=>of_decide_eq_false e ?_⟩
 rw [c] at d
 exact Option.some.inj (d.symm.trans f)
theorem vY {l m:List Rw} {i j:Nat} {a b:Rw} {s:Bool} (h:z4r l m i true) (c:l[i]? = some a) (hb:m[i]? = some b) (g:aI a b j s) (p:¬j < a.path.length):z4r l m (i+1) s:=by
 obtain ⟨n,o⟩:=h.1 rfl
 constructor
 ·intro e
  obtain ⟨k,e2,e3,e4,f⟩:=g.1 e
  rw [List.take_of_length_le (by omega),List.take_of_length_le (by omega)] at f
  exact ⟨n,by rw [cS c,cS hb,o,rw_eq k e2 e3 f]⟩
 ·intro e d
  rw [d] at c
  exact g.2 e (Option.some.inj (c.symm.trans hb))
theorem vZ {l m:List Rw} {i j:Nat} {a b:Rw} (d:l[i]? = some a) (hb:m[i]? = some b) (e:aI a b j false):z4r l m (i+1) false:=by
 refine ⟨(fun h=>by cases h),fun _ c=>?_⟩
 rw [c] at d
 exact e.2 rfl (Option.some.inj (d.symm.trans hb))
theorem y4m {l m:List Rw} {i:Nat} {s:Bool} (h:z4r l m i s) (hi:¬i < l.length):s=decide (l=m):=by
 cases s with
 | true=>
  obtain ⟨b,a⟩:=h.1 rfl
  rw [List.take_of_length_le (by omega),List.take_of_length_le (by omega)] at a
  exact (decide_eq_true a).symm
 | false=>exact (decide_eq_false (h.2 rfl)).symm
theorem y0g {l m:List Rw} {i:Nat} (h:z4r l m i false):false=decide (l=m):=(decide_eq_false (h.2 rfl)).symm
theorem z2w {Φ:Fz} {K:List Res} {w:World} {va vb:Value} {l m:List Rw} (rl:SliceOf RRw Φ 4 va l) (rm:SliceOf RRw Φ 4 vb m) (N:Mem Φ K w) :
  Calls Tryz.prog 12 #[va,vb] w (fun ee w'=>ee=.returned (.bool (decide (l=m)))/\Mem Φ K w'):=by
 obtain ⟨p1,c2,rfl,r4,q2⟩:=rl.fm
 obtain ⟨p5,c6,rfl,s4,r2⟩:=rm.fm
 refine zJ Tryz.func12 Tryz.ntmps12 fun Q hQ a J=>?_
 by_cases T4:l.length=m.length
 refine go fun a J=>?_
 refine qD (J.ks [0,1]) N (fun R mm a w=>∃(i:Nat) (L:Bool),mm=l.length - i/\R Φ [(5,.bool L),(6,.int .i64 i)] [] a w/\(z4r l m i L)) (l.length - 0) ⟨0,true,rfl,⟨J.pk,N⟩,(by have h_:=z5i l m;first | (rw [decide_eq_true (by assumption)] at h_;exact h_) | (rw [decide_eq_false (by assumption)] at h_;exact h_))⟩ ?_
 clear N J
 rintro mm a w ⟨i,L,c,⟨J,N⟩,u⟩ P4 o
 by_cases g2:i < l.length
 refine go fun a J=>?_
 cases L
 refine yK ?_
 rw [<- y0g u];exact ⟨rfl,N⟩
 refine go fun a J=>?_
 obtain ⟨I1,x2⟩:=u.1 rfl
 refine jF [1,1,1,1,2,1,1,1,1,2,1,1,1,1,1,1,2,1,1,1,1,2,1,1,1,1,1,1,1,2,1,1,1,1,2,1,1,1,1,1,1,1,2,1,1,1,1,1,2,1,1,1,1] (.q 0 (.q 1 (.q 2 (.q 3 (.q 4 (.q 5 (.q 6 (.q 7 (.q 8 (.q 9 (.q 10 (.q 11 (.q 12 (.q 13 (.q 14 (.q 15 (.q 16 (.q 17 (.q 18 (.q 19 (.q 20 (.q 21 (.q 22 (.q 23 (.q 24 (.q 25 (.q 26 (.q 27 (.q 28 (.q 29 (.q 30 (.q 31 (.q 32 (.q 33 (.q 34 (.q 35 (.q 36 (.q 37 (.q 38 (.q 39 (.q 40 (.q 41 (.q 42 (.q 43 (.q 44 (.q 45 (.q 46 (.q 47 (.q 48 (.q 49 (.q 50 (.q 51 (.q 52 (.done)))))))))))))))))))))))))))))))))))))))))))))))))))))) [] J N mixed (by kernel_rfl) (by simp) fun w N=>?_
 refine go fun a J=>?_
 obtain ⟨X4,rfl,f,p,L3,k4,W3,s2⟩:=rl.el q2 g2
 obtain ⟨d5,rfl,b4,d4,e4,f4,U⟩:=id s2
 obtain ⟨V4,S4,rfl,p4,S⟩:=U.fm
 refine go fun a J=>?_
 have n2:i < m.length:=by omega
 obtain ⟨Y4,rfl,t,r,M3,l4,X3,t2⟩:=rm.el r2 n2
 obtain ⟨e5,rfl,g4,h4,i4,j4,V⟩:=id t2
 obtain ⟨W4,c50,rfl,q4,T⟩:=V.fm
 by_cases h2:f.rule=t.rule
 by_cases i2:f.fn=t.fn
 by_cases j2:f.num=t.num
 refine go fun a J=>?_
 by_cases k2:f.path.length=t.path.length
 refine go fun a J=>?_
 refine qD (J.ks [0,1,6]) N (fun R mm a w=>∃(d:Nat) (b:Bool),mm=f.path.length - d/\R Φ [(5,.bool b),(7,.int .i64 d)] [] a w/\(aI f t d b)) (f.path.length - 0) ⟨0,true,rfl,⟨J.pk,N⟩,(by have h_:=z5h h2 i2 j2;rw [decide_eq_true k2] at h_;exact h_)⟩ ?_
 clear N J
 rintro mm a w ⟨d,b,c,⟨J,N⟩,M⟩ Q4 J0
 by_cases l2:d < f.path.length
 refine go fun a J=>?_
 cases b
 refine go fun a J=>?_
 refine o _ _ _ (by subst c;omega) ⟨(i+1),(false),rfl,⟨J.pk,N⟩,?_⟩
 exact vZ p r M
 obtain ⟨_,_,_,s,_⟩:=M.1 rfl
 refine Reg [1,1,1,1,2,1,1,2,1,1,1,1,2,1,1,2,1,1] [] fun w N a J=>?_
 refine go fun a J=>?_
 obtain ⟨Z4,rfl,y2,L0,d2,m4,Y3,u2⟩:=U.el S l2
 obtain rfl:d2=[.int .i64 y2]:=u2
 refine go fun a J=>?_
 have o2:d < t.path.length:=by omega
 obtain ⟨a5,rfl,z2,M0,e2,n4,Z3,v2⟩:=V.el T o2
 obtain rfl:e2=[.int .i64 z2]:=v2
 by_cases U4:y2=z2
 refine go fun a J=>?_
 refine J0 _ _ _ (by subst c;omega) ⟨(d+1),(true),rfl,⟨J.pk,N⟩,?_⟩
 have h_:=qM M L0 M0;first | (rw [decide_eq_true (by assumption)] at h_;exact h_) | (rw [decide_eq_false (by assumption)] at h_;exact h_)
 refine go fun a J=>?_
 refine J0 _ _ _ (by subst c;omega) ⟨(d+1),(false),rfl,⟨J.pk,N⟩,?_⟩
 have h_:=qM M L0 M0;first | (rw [decide_eq_true (by assumption)] at h_;exact h_) | (rw [decide_eq_false (by assumption)] at h_;exact h_)
 refine go fun a J=>?_
 refine o _ _ _ (by subst c;omega) ⟨(i+1),(b),rfl,⟨J.pk,N⟩,?_⟩
 exact vY u p r M l2
 refine go fun a J=>?_
 refine qD (J.ks [0,1,6]) N (fun R mm a w=>∃(d:Nat) (b:Bool),mm=f.path.length - d/\R Φ [(5,.bool b),(7,.int .i64 d)] [] a w/\(aI f t d b)) (f.path.length - 0) ⟨0,false,rfl,⟨J.pk,N⟩,nY fun h_=>k2 (by rw [h_])⟩ ?_
 clear N J
 rintro mm a w ⟨d,b,c,⟨J,N⟩,P⟩ R4 K0
 by_cases m2:d < f.path.length
 refine go fun a J=>?_
 cases b
 refine go fun a J=>?_
 refine o _ _ _ (by subst c;omega) ⟨(i+1),(false),rfl,⟨J.pk,N⟩,?_⟩
 exact vZ p r P
 obtain ⟨_,_,_,s,_⟩:=P.1 rfl
 refine Reg [1,1,1,1,2,1,1,2,1,1,1,1,2,1,1,2,1,1] [] fun w N a J=>?_
 refine go fun a J=>?_
 obtain ⟨b5,rfl,A2,N0,f2,o4,a4,w2⟩:=U.el S m2
 obtain rfl:f2=[.int .i64 A2]:=w2
 refine go fun a J=>?_
 have p2:d < t.path.length:=by omega
 obtain ⟨c5,rfl,O0,e0,h1,f3,D2,J1⟩:=V.el T p2
 obtain rfl:h1=[.int .i64 O0]:=J1
 by_cases N3:A2=O0
 refine go fun a J=>?_
 refine K0 _ _ _ (by subst c;omega) ⟨(d+1),(true),rfl,⟨J.pk,N⟩,?_⟩
 have h_:=qM P N0 e0;first | (rw [decide_eq_true (by assumption)] at h_;exact h_) | (rw [decide_eq_false (by assumption)] at h_;exact h_)
 refine go fun a J=>?_
 refine K0 _ _ _ (by subst c;omega) ⟨(d+1),(false),rfl,⟨J.pk,N⟩,?_⟩
 have h_:=qM P N0 e0;first | (rw [decide_eq_true (by assumption)] at h_;exact h_) | (rw [decide_eq_false (by assumption)] at h_;exact h_)
 refine go fun a J=>?_
 refine o _ _ _ (by subst c;omega) ⟨(i+1),(b),rfl,⟨J.pk,N⟩,?_⟩
 exact vY u p r P m2
 refine go fun a J=>?_
 refine qD (J.ks [0,1,6]) N (fun R mm a w=>∃(d:Nat) (b:Bool),mm=f.path.length - d/\R Φ [(5,.bool b),(7,.int .i64 d)] [] a w/\(aI f t d b)) (f.path.length - 0) ⟨0,false,rfl,⟨J.pk,N⟩,nY fun h_=>j2 (by rw [h_])⟩ ?_
 clear N J
 rintro mm a w ⟨d,b,c,⟨J,N⟩,v⟩ A3 W
 by_cases w0:d < f.path.length
 refine go fun a J=>?_
 cases b
 refine go fun a J=>?_
 refine o _ _ _ (by subst c;omega) ⟨(i+1),(false),rfl,⟨J.pk,N⟩,?_⟩
 exact vZ p r v
 obtain ⟨_,_,_,s,_⟩:=v.1 rfl
 refine Reg [1,1,1,1,2,1,1,2,1,1,1,1,2,1,1,2,1,1] [] fun w N a J=>?_
 refine go fun a J=>?_
 obtain ⟨v4,rfl,P0,f0,i1,g3,E2,K1⟩:=U.el S w0
 obtain rfl:i1=[.int .i64 P0]:=K1
 refine go fun a J=>?_
 have z1:d < t.path.length:=by omega
 obtain ⟨w4,rfl,Q0,g0,j1,h3,F2,L1⟩:=V.el T z1
 obtain rfl:j1=[.int .i64 Q0]:=L1
 by_cases O3:P0=Q0
 refine go fun a J=>?_
 refine W _ _ _ (by subst c;omega) ⟨(d+1),(true),rfl,⟨J.pk,N⟩,?_⟩
 have h_:=qM v f0 g0;first | (rw [decide_eq_true (by assumption)] at h_;exact h_) | (rw [decide_eq_false (by assumption)] at h_;exact h_)
 refine go fun a J=>?_
 refine W _ _ _ (by subst c;omega) ⟨(d+1),(false),rfl,⟨J.pk,N⟩,?_⟩
 have h_:=qM v f0 g0;first | (rw [decide_eq_true (by assumption)] at h_;exact h_) | (rw [decide_eq_false (by assumption)] at h_;exact h_)
 refine go fun a J=>?_
 refine o _ _ _ (by subst c;omega) ⟨(i+1),(b),rfl,⟨J.pk,N⟩,?_⟩
 exact vY u p r v w0
 refine go fun a J=>?_
 refine qD (J.ks [0,1,6]) N (fun R mm a w=>∃(d:Nat) (b:Bool),mm=f.path.length - d/\R Φ [(5,.bool b),(7,.int .i64 d)] [] a w/\(aI f t d b)) (f.path.length - 0) ⟨0,false,rfl,⟨J.pk,N⟩,nY fun h_=>i2 (by rw [h_])⟩ ?_
 clear N J
 rintro mm a w ⟨d,b,c,⟨J,N⟩,y⟩ B3 X
 by_cases x0:d < f.path.length
 refine go fun a J=>?_
 cases b
 refine go fun a J=>?_
 refine o _ _ _ (by subst c;omega) ⟨(i+1),(false),rfl,⟨J.pk,N⟩,?_⟩
 exact vZ p r y
 obtain ⟨_,_,_,s,_⟩:=y.1 rfl
 refine Reg [1,1,1,1,2,1,1,2,1,1,1,1,2,1,1,2,1,1] [] fun w N a J=>?_
 refine go fun a J=>?_
 obtain ⟨x4,rfl,R0,h0,k1,i3,G2,M1⟩:=U.el S x0
 obtain rfl:k1=[.int .i64 R0]:=M1
 refine go fun a J=>?_
 have A1:d < t.path.length:=by omega
 obtain ⟨y4,rfl,S0,i0,l1,j3,H2,N1⟩:=V.el T A1
 obtain rfl:l1=[.int .i64 S0]:=N1
 by_cases P3:R0=S0
 refine go fun a J=>?_
 refine X _ _ _ (by subst c;omega) ⟨(d+1),(true),rfl,⟨J.pk,N⟩,?_⟩
 have h_:=qM y h0 i0;first | (rw [decide_eq_true (by assumption)] at h_;exact h_) | (rw [decide_eq_false (by assumption)] at h_;exact h_)
 refine go fun a J=>?_
 refine X _ _ _ (by subst c;omega) ⟨(d+1),(false),rfl,⟨J.pk,N⟩,?_⟩
 have h_:=qM y h0 i0;first | (rw [decide_eq_true (by assumption)] at h_;exact h_) | (rw [decide_eq_false (by assumption)] at h_;exact h_)
 refine go fun a J=>?_
 refine o _ _ _ (by subst c;omega) ⟨(i+1),(b),rfl,⟨J.pk,N⟩,?_⟩
 exact vY u p r y x0
 refine go fun a J=>?_
 refine qD (J.ks [0,1,6]) N (fun R mm a w=>∃(d:Nat) (b:Bool),mm=f.path.length - d/\R Φ [(5,.bool b),(7,.int .i64 d)] [] a w/\(aI f t d b)) (f.path.length - 0) ⟨0,false,rfl,⟨J.pk,N⟩,nY fun h_=>h2 (by rw [h_])⟩ ?_
 clear N J
 rintro mm a w ⟨d,b,c,⟨J,N⟩,z⟩ C3 Y
 by_cases y0:d < f.path.length
 refine go fun a J=>?_
 cases b
 refine go fun a J=>?_
 refine o _ _ _ (by subst c;omega) ⟨(i+1),(false),rfl,⟨J.pk,N⟩,?_⟩
 exact vZ p r z
 obtain ⟨_,_,_,s,_⟩:=z.1 rfl
 refine Reg [1,1,1,1,2,1,1,2,1,1,1,1,2,1,1,2,1,1] [] fun w N a J=>?_
 refine go fun a J=>?_
 obtain ⟨z4,rfl,U0,j0,m1,k3,I2,O1⟩:=U.el S y0
 obtain rfl:m1=[.int .i64 U0]:=O1
 refine go fun a J=>?_
 have B1:d < t.path.length:=by omega
 obtain ⟨A4,rfl,V0,k0,n1,l3,J2,P1⟩:=V.el T B1
 obtain rfl:n1=[.int .i64 V0]:=P1
 by_cases Q3:U0=V0
 refine go fun a J=>?_
 refine Y _ _ _ (by subst c;omega) ⟨(d+1),(true),rfl,⟨J.pk,N⟩,?_⟩
 have h_:=qM z j0 k0;first | (rw [decide_eq_true (by assumption)] at h_;exact h_) | (rw [decide_eq_false (by assumption)] at h_;exact h_)
 refine go fun a J=>?_
 refine Y _ _ _ (by subst c;omega) ⟨(d+1),(false),rfl,⟨J.pk,N⟩,?_⟩
 have h_:=qM z j0 k0;first | (rw [decide_eq_true (by assumption)] at h_;exact h_) | (rw [decide_eq_false (by assumption)] at h_;exact h_)
 refine go fun a J=>?_
 refine o _ _ _ (by subst c;omega) ⟨(i+1),(b),rfl,⟨J.pk,N⟩,?_⟩
 exact vY u p r z y0
 refine yK ?_
 rw [<- y4m u g2];exact ⟨rfl,N⟩
 refine go fun a J=>?_
 refine qD (J.ks [0,1]) N (fun R mm a w=>∃(i:Nat) (L:Bool),mm=l.length - i/\R Φ [(5,.bool L),(6,.int .i64 i)] [] a w/\(z4r l m i L)) (l.length - 0) ⟨0,false,rfl,⟨J.pk,N⟩,(by have h_:=z5i l m;first | (rw [decide_eq_true (by assumption)] at h_;exact h_) | (rw [decide_eq_false (by assumption)] at h_;exact h_))⟩ ?_
 clear N J
 rintro mm a w ⟨i,L,c,⟨J,N⟩,n⟩ D3 h
 by_cases z0:i < l.length
 refine go fun a J=>?_
 cases L
 refine yK ?_
 rw [<- y0g n];exact ⟨rfl,N⟩
 refine go fun a J=>?_
 obtain ⟨I1,x2⟩:=n.1 rfl
 refine jF [1,1,1,1,2,1,1,1,1,2,1,1,1,1,1,1,2,1,1,1,1,2,1,1,1,1,1,1,1,2,1,1,1,1,2,1,1,1,1,1,1,1,2,1,1,1,1,1,2,1,1,1,1] (.q 0 (.q 1 (.q 2 (.q 3 (.q 4 (.q 5 (.q 6 (.q 7 (.q 8 (.q 9 (.q 10 (.q 11 (.q 12 (.q 13 (.q 14 (.q 15 (.q 16 (.q 17 (.q 18 (.q 19 (.q 20 (.q 21 (.q 22 (.q 23 (.q 24 (.q 25 (.q 26 (.q 27 (.q 28 (.q 29 (.q 30 (.q 31 (.q 32 (.q 33 (.q 34 (.q 35 (.q 36 (.q 37 (.q 38 (.q 39 (.q 40 (.q 41 (.q 42 (.q 43 (.q 44 (.q 45 (.q 46 (.q 47 (.q 48 (.q 49 (.q 50 (.q 51 (.q 52 (.done)))))))))))))))))))))))))))))))))))))))))))))))))))))) [] J N mixed (by kernel_rfl) (by simp) fun w N=>?_
 refine go fun a J=>?_
 obtain ⟨B4,rfl,e,j,B2,m3,K2,Q1⟩:=rl.el q2 z0
 obtain ⟨N4,rfl,W2,X2,Y2,Z2,H⟩:=id Q1
 obtain ⟨t4,J3,rfl,y3,F⟩:=H.fm
 refine go fun a J=>?_
 have C1:i < m.length:=by omega
 obtain ⟨C4,rfl,g,k,C2,n3,L2,R1⟩:=rm.el r2 C1
 obtain ⟨O4,rfl,a3,b3,d3,e3,I⟩:=id R1
 obtain ⟨u4,K3,rfl,z3,G⟩:=I.fm
 by_cases A0:e.rule=g.rule
 by_cases B0:e.fn=g.fn
 by_cases C0:e.num=g.num
 refine go fun a J=>?_
 by_cases D0:e.path.length=g.path.length
 refine go fun a J=>?_
 refine qD (J.ks [0,1,6]) N (fun R mm a w=>∃(d:Nat) (b:Bool),mm=e.path.length - d/\R Φ [(5,.bool b),(7,.int .i64 d)] [] a w/\(aI e g d b)) (e.path.length - 0) ⟨0,true,rfl,⟨J.pk,N⟩,(by have h_:=z5h A0 B0 C0;rw [decide_eq_true D0] at h_;exact h_)⟩ ?_
 clear N J
 rintro mm a w ⟨d,b,c,⟨J,N⟩,A⟩ E3 Z
 by_cases E0:d < e.path.length
 refine go fun a J=>?_
 cases b
 refine go fun a J=>?_
 refine h _ _ _ (by subst c;omega) ⟨(i+1),(false),rfl,⟨J.pk,N⟩,?_⟩
 exact vZ j k A
 obtain ⟨_,_,_,s,_⟩:=A.1 rfl
 refine Reg [1,1,1,1,2,1,1,2,1,1,1,1,2,1,1,2,1,1] [] fun w N a J=>?_
 refine go fun a J=>?_
 obtain ⟨D4,rfl,X0,l0,o1,o3,M2,S1⟩:=H.el F E0
 obtain rfl:o1=[.int .i64 X0]:=S1
 refine go fun a J=>?_
 have D1:d < g.path.length:=by omega
 obtain ⟨E4,rfl,Y0,m0,q1,p3,N2,T1⟩:=I.el G D1
 obtain rfl:q1=[.int .i64 Y0]:=T1
 by_cases R3:X0=Y0
 refine go fun a J=>?_
 refine Z _ _ _ (by subst c;omega) ⟨(d+1),(true),rfl,⟨J.pk,N⟩,?_⟩
 have h_:=qM A l0 m0;first | (rw [decide_eq_true (by assumption)] at h_;exact h_) | (rw [decide_eq_false (by assumption)] at h_;exact h_)
 refine go fun a J=>?_
 refine Z _ _ _ (by subst c;omega) ⟨(d+1),(false),rfl,⟨J.pk,N⟩,?_⟩
 have h_:=qM A l0 m0;first | (rw [decide_eq_true (by assumption)] at h_;exact h_) | (rw [decide_eq_false (by assumption)] at h_;exact h_)
 refine go fun a J=>?_
 refine h _ _ _ (by subst c;omega) ⟨(i+1),(b),rfl,⟨J.pk,N⟩,?_⟩
 exact vY n j k A E0
 refine go fun a J=>?_
 refine qD (J.ks [0,1,6]) N (fun R mm a w=>∃(d:Nat) (b:Bool),mm=e.path.length - d/\R Φ [(5,.bool b),(7,.int .i64 d)] [] a w/\(aI e g d b)) (e.path.length - 0) ⟨0,false,rfl,⟨J.pk,N⟩,nY fun h_=>D0 (by rw [h_])⟩ ?_
 clear N J
 rintro mm a w ⟨d,b,c,⟨J,N⟩,B⟩ F3 a0
 by_cases F0:d < e.path.length
 refine go fun a J=>?_
 cases b
 refine go fun a J=>?_
 refine h _ _ _ (by subst c;omega) ⟨(i+1),(false),rfl,⟨J.pk,N⟩,?_⟩
 exact vZ j k B
 obtain ⟨_,_,_,s,_⟩:=B.1 rfl
 refine Reg [1,1,1,1,2,1,1,2,1,1,1,1,2,1,1,2,1,1] [] fun w N a J=>?_
 refine go fun a J=>?_
 obtain ⟨F4,rfl,Z0,n0,r1,q3,O2,U1⟩:=H.el F F0
 obtain rfl:r1=[.int .i64 Z0]:=U1
 refine go fun a J=>?_
 have E1:d < g.path.length:=by omega
 obtain ⟨G4,rfl,a1,o0,s1,r3,P2,V1⟩:=I.el G E1
 obtain rfl:s1=[.int .i64 a1]:=V1
 by_cases S3:Z0=a1
 refine go fun a J=>?_
 refine a0 _ _ _ (by subst c;omega) ⟨(d+1),(true),rfl,⟨J.pk,N⟩,?_⟩
 have h_:=qM B n0 o0;first | (rw [decide_eq_true (by assumption)] at h_;exact h_) | (rw [decide_eq_false (by assumption)] at h_;exact h_)
 refine go fun a J=>?_
 refine a0 _ _ _ (by subst c;omega) ⟨(d+1),(false),rfl,⟨J.pk,N⟩,?_⟩
 have h_:=qM B n0 o0;first | (rw [decide_eq_true (by assumption)] at h_;exact h_) | (rw [decide_eq_false (by assumption)] at h_;exact h_)
 refine go fun a J=>?_
 refine h _ _ _ (by subst c;omega) ⟨(i+1),(b),rfl,⟨J.pk,N⟩,?_⟩
 exact vY n j k B F0
 refine go fun a J=>?_
 refine qD (J.ks [0,1,6]) N (fun R mm a w=>∃(d:Nat) (b:Bool),mm=e.path.length - d/\R Φ [(5,.bool b),(7,.int .i64 d)] [] a w/\(aI e g d b)) (e.path.length - 0) ⟨0,false,rfl,⟨J.pk,N⟩,nY fun h_=>C0 (by rw [h_])⟩ ?_
 clear N J
 rintro mm a w ⟨d,b,c,⟨J,N⟩,C⟩ G3 b0
 by_cases G0:d < e.path.length
 refine go fun a J=>?_
 cases b
 refine go fun a J=>?_
 refine h _ _ _ (by subst c;omega) ⟨(i+1),(false),rfl,⟨J.pk,N⟩,?_⟩
 exact vZ j k C
 obtain ⟨_,_,_,s,_⟩:=C.1 rfl
 refine Reg [1,1,1,1,2,1,1,2,1,1,1,1,2,1,1,2,1,1] [] fun w N a J=>?_
 refine go fun a J=>?_
 obtain ⟨H4,rfl,b1,p0,t1,s3,Q2,W1⟩:=H.el F G0
 obtain rfl:t1=[.int .i64 b1]:=W1
 refine go fun a J=>?_
 have F1:d < g.path.length:=by omega
 obtain ⟨I4,rfl,c1,q0,u1,t3,R2,X1⟩:=I.el G F1
 obtain rfl:u1=[.int .i64 c1]:=X1
 by_cases T3:b1=c1
 refine go fun a J=>?_
 refine b0 _ _ _ (by subst c;omega) ⟨(d+1),(true),rfl,⟨J.pk,N⟩,?_⟩
 have h_:=qM C p0 q0;first | (rw [decide_eq_true (by assumption)] at h_;exact h_) | (rw [decide_eq_false (by assumption)] at h_;exact h_)
 refine go fun a J=>?_
 refine b0 _ _ _ (by subst c;omega) ⟨(d+1),(false),rfl,⟨J.pk,N⟩,?_⟩
 have h_:=qM C p0 q0;first | (rw [decide_eq_true (by assumption)] at h_;exact h_) | (rw [decide_eq_false (by assumption)] at h_;exact h_)
 refine go fun a J=>?_
 refine h _ _ _ (by subst c;omega) ⟨(i+1),(b),rfl,⟨J.pk,N⟩,?_⟩
 exact vY n j k C G0
 refine go fun a J=>?_
 refine qD (J.ks [0,1,6]) N (fun R mm a w=>∃(d:Nat) (b:Bool),mm=e.path.length - d/\R Φ [(5,.bool b),(7,.int .i64 d)] [] a w/\(aI e g d b)) (e.path.length - 0) ⟨0,false,rfl,⟨J.pk,N⟩,nY fun h_=>B0 (by rw [h_])⟩ ?_
 clear N J
 rintro mm a w ⟨d,b,c,⟨J,N⟩,D⟩ H3 c0
 by_cases H0:d < e.path.length
 refine go fun a J=>?_
 cases b
 refine go fun a J=>?_
 refine h _ _ _ (by subst c;omega) ⟨(i+1),(false),rfl,⟨J.pk,N⟩,?_⟩
 exact vZ j k D
 obtain ⟨_,_,_,s,_⟩:=D.1 rfl
 refine Reg [1,1,1,1,2,1,1,2,1,1,1,1,2,1,1,2,1,1] [] fun w N a J=>?_
 refine go fun a J=>?_
 obtain ⟨J4,rfl,d1,r0,v1,u3,S2,Y1⟩:=H.el F H0
 obtain rfl:v1=[.int .i64 d1]:=Y1
 refine go fun a J=>?_
 have G1:d < g.path.length:=by omega
 obtain ⟨K4,rfl,e1,s0,w1,v3,T2,Z1⟩:=I.el G G1
 obtain rfl:w1=[.int .i64 e1]:=Z1
 by_cases U3:d1=e1
 refine go fun a J=>?_
 refine c0 _ _ _ (by subst c;omega) ⟨(d+1),(true),rfl,⟨J.pk,N⟩,?_⟩
 have h_:=qM D r0 s0;first | (rw [decide_eq_true (by assumption)] at h_;exact h_) | (rw [decide_eq_false (by assumption)] at h_;exact h_)
 refine go fun a J=>?_
 refine c0 _ _ _ (by subst c;omega) ⟨(d+1),(false),rfl,⟨J.pk,N⟩,?_⟩
 have h_:=qM D r0 s0;first | (rw [decide_eq_true (by assumption)] at h_;exact h_) | (rw [decide_eq_false (by assumption)] at h_;exact h_)
 refine go fun a J=>?_
 refine h _ _ _ (by subst c;omega) ⟨(i+1),(b),rfl,⟨J.pk,N⟩,?_⟩
 exact vY n j k D H0
 refine go fun a J=>?_
 refine qD (J.ks [0,1,6]) N (fun R mm a w=>∃(d:Nat) (b:Bool),mm=e.path.length - d/\R Φ [(5,.bool b),(7,.int .i64 d)] [] a w/\(aI e g d b)) (e.path.length - 0) ⟨0,false,rfl,⟨J.pk,N⟩,nY fun h_=>A0 (by rw [h_])⟩ ?_
 clear N J
 rintro mm a w ⟨d,b,c,⟨J,N⟩,E⟩ I3 d0
 by_cases I0:d < e.path.length
 refine go fun a J=>?_
 cases b
 refine go fun a J=>?_
 refine h _ _ _ (by subst c;omega) ⟨(i+1),(false),rfl,⟨J.pk,N⟩,?_⟩
 exact vZ j k E
 obtain ⟨_,_,_,s,_⟩:=E.1 rfl
 refine Reg [1,1,1,1,2,1,1,2,1,1,1,1,2,1,1,2,1,1] [] fun w N a J=>?_
 refine go fun a J=>?_
 obtain ⟨L4,rfl,f1,t0,x1,w3,U2,a2⟩:=H.el F I0
 obtain rfl:x1=[.int .i64 f1]:=a2
 refine go fun a J=>?_
 have H1:d < g.path.length:=by omega
 obtain ⟨M4,rfl,g1,u0,y1,x3,V2,b2⟩:=I.el G H1
 obtain rfl:y1=[.int .i64 g1]:=b2
 by_cases V3:f1=g1
 refine go fun a J=>?_
 refine d0 _ _ _ (by subst c;omega) ⟨(d+1),(true),rfl,⟨J.pk,N⟩,?_⟩
 have h_:=qM E t0 u0;first | (rw [decide_eq_true (by assumption)] at h_;exact h_) | (rw [decide_eq_false (by assumption)] at h_;exact h_)
 refine go fun a J=>?_
 refine d0 _ _ _ (by subst c;omega) ⟨(d+1),(false),rfl,⟨J.pk,N⟩,?_⟩
 have h_:=qM E t0 u0;first | (rw [decide_eq_true (by assumption)] at h_;exact h_) | (rw [decide_eq_false (by assumption)] at h_;exact h_)
 refine go fun a J=>?_
 refine h _ _ _ (by subst c;omega) ⟨(i+1),(b),rfl,⟨J.pk,N⟩,?_⟩
 exact vY n j k E I0
 refine yK ?_
 rw [<- y4m n z0];exact ⟨rfl,N⟩
section
variable {Φ:Fz} {K:List Res} {w:World}
theorem z7h {tc:List Value} {T:Trc} (b:zL T=false) (a:RTrc Φ tc T) (G:Glob Φ) (N:Mem Φ K w) :
  Calls prog 9 #[.agg tc.toArray] w (fun ee w'=>ee=.returned (.tuple #[.slice none 0 0,.int .i64 ((120:Nat):Int)])/\Mem Φ K w'):=by
 have h:=uG a G N
 rw [show dem (zL T)=.error () from by rw [b];rfl] at h
 exact h
theorem q1x {T:Trc} {s:Rw} (a:zL T=true) (O:s∈qH T):∃U,pD T s=.ok U:=by
 have O:=List.mem_of_mem_take O
 obtain ⟨U,b⟩:=y9n (z8a a) O
 exact ⟨U,by rw [aY a,vE (oL O)];exact b⟩
theorem j4i {T U:Trc} {r:Rw} (c:zL T=true) (b:pD T r=.ok U) (a:¬r.rule=6) (hl:¬500<=(qH T).length):r∈qH T:=by
 rw [aY c,vE a] at b
 have d:=(q3v (z8a c) b).resolve_right a
 unfold qH at hl ⊢
 rw [List.length_take] at hl
 rw [List.take_of_length_le (by omega)];exact d
theorem z9k {l:List Rw} {i:Nat} {x r:Rw} {f:Bool} (h:r∈l.take i->f=true) (b:l[i]? = some x):r∈l.take (i+1)->(f || decide ([x]=[r]))=true:=by
 rw [cS b]
 intro a
 rcases List.mem_append.1 a with a | a
 rw [h a];rfl
 cases List.mem_singleton.1 a;rw [decide_eq_true rfl,Bool.or_true]
theorem y6t {tc rc:List Value} {T:Trc} {ru fn nu:Int} {path:List Int} (f:RTrc Φ tc T) (rx:RRw Φ rc ⟨ru,fn,path,nu⟩) (G:Glob Φ) (E:zL T=false) (N:Mem Φ K w) :
  Calls prog 4 #[.agg tc.toArray,.agg rc.toArray] w (fun ee w'=>ee=.returned (.bool true)/\Mem Φ K w'):=by
 have Gl:=G
 have b:=f
 obtain ⟨U,c4,V,z,I,A,L,c22,rfl,i,R,S,C,D,F,H,j,m,k,n,l,p⟩:=RTrc.fm f
 have u:=rx
 obtain ⟨P,e,g,r,s,t,d⟩:=rx
 subst e
 obtain ⟨M,B,rfl,h,q⟩:=d.fm
 refine zJ func4 ntmps4 fun Q hQ a J=>?_
 refine Bx fun v w N a J=>?_
 refine Bx fun y w N a J=>?_
 refine zF call11 (fun w N a J=>?_) (c:=z6w Gl N)
 refine zF call9 (fun w N a J=>?_) (c:=z7h E b Gl N)
 refine Qq (fun a J=>?_) (o:=by exact fun J O=>jG true J rfl rfl rfl)
 refine Qq (fun a J=>?_) (o:=by exact fun J O=>xY true J rfl rfl rfl)
 refine yK ?_
 replace N:=N.dl [1,0]
 exact ⟨rfl,N⟩
theorem y1x {tc rc:List Value} {T:Trc} {ru fn nu:Int} {path:List Int} (t0:RTrc Φ tc T) (rx:RRw Φ rc ⟨ru,fn,path,nu⟩) (G:Glob Φ) (hc:zL T=true) (N:Mem Φ K w) :
  Calls prog 4 #[.agg tc.toArray,.agg rc.toArray] w (fun ee w'=>ee=.returned (.bool true)/\Mem Φ K w'):=by
 have Gl:=G
 have b:=t0
 obtain ⟨p3,c4,p9,G2,U2,H2,V2,c22,rfl,Q1,h2,h8,N2,O2,S2,T2,X1,d2,Y1,f2,Z1,g2⟩:=RTrc.fm t0
 have f:=rx
 obtain ⟨e3,s0,B0,m2,n2,o2,r0⟩:=rx
 subst s0
 obtain ⟨W2,I2,rfl,V0,i2⟩:=r0.fm
 obtain ⟨P,S⟩:∃L,qH T=L:=⟨_,rfl⟩
 refine zJ func4 ntmps4 fun Q hQ a J=>?_
 refine Bx fun E2 w N a J=>?_
 refine Bx fun F2 w N a J=>?_
 refine zF call11 (fun w N a J=>?_) (c:=z6w Gl N)
 refine yF call9 (fun l1 w s N a J=>?_) (c:=oY hc b Gl N)
 obtain ⟨g0,k1⟩:=l1
 simp only at s N J
 have e0:=s.2.1
 rw [S] at e0
 have v:z0c k1:=s.2.2
 replace Gl:=Gl.mono s.1
 replace b:=RTrc.mono _ _ _ _ s.1 b
 replace f:=RRw.mono _ _ _ _ s.1 f
 have d:=e0
 obtain ⟨X2,c43,rfl,X0,q0⟩:=d.fm
 replace N:=N.nf
 refine Qq (fun a J=>?_) (o:=by exact fun J O=>jG false J rfl rfl rfl)
 refine go fun a J=>?_
 refine qD (J.ks [2,3,5,6]) N (fun R mm a w=>∃(b0:Fz) (i:Nat) (C:Bool),mm=P.length - i/\R b0 [(8,.bool C),(9,.int .i64 i)] [] a w/\(g0.Le b0/\((⟨ru,fn,path,nu⟩:Rw)∈P.take i->C=true))) (P.length - 0) ⟨g0,0,false,rfl,⟨J.pk,N⟩,⟨Fz.Le.refl _,fun h_=>by cases h_⟩⟩ ?_
 clear N J
 rintro mm a w ⟨b0,i,C,c0,⟨J,N⟩,z⟩ C2 E
 obtain ⟨h,z⟩:=z
 replace Gl:=Gl.mono h
 replace b:=RTrc.mono _ _ _ _ h b
 replace f:=RRw.mono _ _ _ _ h f
 replace d:=d.mono RRw.mono h
 by_cases E0:i < P.length
 refine go fun a J=>?_
 refine yN [2,1,1,1,2,0,1,1,1,0,0,1] (.q 0 (.q 1 (.q 2 (.q 3 (.q 4 (.e2 5 9 (.q 6 (.q 7 (.q 8 (.e 9 (.e 10 (.q 11 (.done))))))) (.e 5 (.q 6 (.q 7 (.q 8 (.e 10 (.q 11 (.done))))))))))))) [0,1] J N fun w N=>?_
 refine go fun a J=>?_
 obtain ⟨d3,rfl,M,y,G1,V1,u,n⟩:=d.el q0 E0
 obtain ⟨f3,rfl,R1,S1,T1,U1,F0⟩:=id n
 obtain ⟨Y2,J2,rfl,a2,j2⟩:=F0.fm
 refine go fun a J=>?_
 refine kY ?_ ?_
 obtain ⟨D2,m0⟩:=q1x hc (S▸mgQ y)
 refine yF call13 (fun m1 w k N a J=>?_) (c:=tM m0 n b Gl N)
 obtain ⟨x0,K2⟩:=m1
 simp only at k N J
 replace Gl:=Gl.mono k.1
 replace b:=RTrc.mono _ _ _ _ k.1 b
 replace f:=RRw.mono _ _ _ _ k.1 f
 replace d:=d.mono RRw.mono k.1
 replace u:=u.mono k.1
 replace n:=RRw.mono _ _ _ _ k.1 n
 have d0:=k.2
 have Y:=d0
 obtain ⟨Z2,L2,a3,M2,b3,t1,p2,u1,rfl,G0,P2,Q2,R2,H1,b2,k2,c2,l2,K0,Y0,L0,Z0⟩:=RTrc.fm d0
 replace N:=N.nf
 have J0:=(Fz.Le.refl _).trans k.1
 refine Alc fun p1 w N a J=>?_
 refine Sto 0 fun w N a J=>?_
 refine Qq (fun a J=>?_) (o:=by exact fun J O=>jG false J rfl rfl rfl)
 refine Reg [1,1,1,1,1,1,1,2,0,0,1,1] [0,1,2] fun w N a J=>?_
 refine go fun a J=>?_
 cases C
 refine Qq (fun a J=>?_) (o:=by exact fun J O=>oP (i:=i) (j:=i+1) J rfl rfl rfl runUnderlying27 sizeOf36 (Nat.le_succ i) (Nat.le_trans (by omega:i+1<=P.length) v))
 refine qG fun A2 w N a J=>?_
 have A:=N
 clear N
 obtain ⟨Z,p,N,W,o0⟩:=A.freezeRowC (i:=0) rfl
 clear A
 replace Gl:=Gl.mono p
 replace b:=RTrc.mono _ _ _ _ p b
 replace f:=RRw.mono _ _ _ _ p f
 replace d:=d.mono RRw.mono p
 replace u:=u.mono p
 replace n:=RRw.mono _ _ _ _ p n
 replace Y:=RTrc.mono _ _ _ _ p Y
 replace N:=N.nf
 have H:SliceOf RRw Z 4 _ ([(⟨ru,fn,path,nu⟩:Rw)]):=⟨_,W,yQ rfl f⟩
 obtain ⟨q2,v1,j0,y0,a1⟩:=H.form (by decide)
 have B:=N
 clear N
 subst j0
 have N:=B
 clear B
 refine zF call12 (fun w N a J=>?_) (c:=z2w (l:=[M]) (m:=[(⟨ru,fn,path,nu⟩:Rw)]) (by have h_:=d.sub (by decide) v i (i+1) (Nat.le_succ i) (by omega);rw [show (P.drop i).take (i+1 - i)=[M] from by rw [yI y,Nat.add_sub_cancel_left];rfl] at h_;exact h_) H N)
 refine go fun a J=>?_
 replace N:=N.dl [0]
 refine E _ _ _ (by subst c0;omega) ⟨(Z),(i+1),((decide ([M]=[(⟨ru,fn,path,nu⟩:Rw)]))),rfl,⟨J.pk,N⟩,?_⟩
 refine ⟨((h).trans k.1).trans p,?_⟩
 have h_:=z9k z y;simpa using h_
 refine go fun a J=>?_
 replace N:=N.dl [0]
 refine E _ _ _ (by subst c0;omega) ⟨(x0),(i+1),(true),rfl,⟨J.pk,N⟩,?_⟩
 refine ⟨(h).trans k.1,?_⟩
 exact fun _=>rfl
 refine Alc fun q1 w N a J=>?_
 obtain ⟨o1,h0⟩:=q1x hc (S▸mgQ y)
 refine yF call13 (fun u0 w g N a J=>?_) (c:=tM h0 n b Gl N)
 obtain ⟨k0,w1⟩:=u0
 simp only at g N J
 replace Gl:=Gl.mono g.1
 replace b:=RTrc.mono _ _ _ _ g.1 b
 replace f:=RRw.mono _ _ _ _ g.1 f
 replace d:=d.mono RRw.mono g.1
 replace u:=u.mono g.1
 replace n:=RRw.mono _ _ _ _ g.1 n
 have U:=g.2
 have F:=U
 obtain ⟨r2,x1,s2,y1,t2,z1,u2,A1,rfl,H0,I1,J1,K1,L1,M0,b1,N0,c1,O0,d1,P0,e1⟩:=RTrc.fm U
 replace N:=N.nf
 refine Sto 0 fun w N a J=>?_
 refine Qq (fun a J=>?_) (o:=by exact fun J O=>jG false J rfl rfl rfl)
 refine Reg [1,1,1,1,1,1,1,2,0,0,1,1] [0,1,2] fun w N a J=>?_
 refine go fun a J=>?_
 cases C
 refine Qq (fun a J=>?_) (o:=by exact fun J O=>oP (i:=i) (j:=i+1) J rfl rfl rfl runUnderlying27 sizeOf36 (Nat.le_succ i) (Nat.le_trans (by omega:i+1<=P.length) v))
 refine qG fun B2 w N a J=>?_
 have A:=N
 clear N
 obtain ⟨a0,r,N,X,p0⟩:=A.freezeRowC (i:=0) rfl
 clear A
 replace Gl:=Gl.mono r
 replace b:=RTrc.mono _ _ _ _ r b
 replace f:=RRw.mono _ _ _ _ r f
 replace d:=d.mono RRw.mono r
 replace u:=u.mono r
 replace n:=RRw.mono _ _ _ _ r n
 replace F:=RTrc.mono _ _ _ _ r F
 replace N:=N.nf
 have I:SliceOf RRw a0 4 _ ([(⟨ru,fn,path,nu⟩:Rw)]):=⟨_,X,yQ rfl f⟩
 obtain ⟨v2,B1,j0,z0,f1⟩:=I.form (by decide)
 have B:=N
 clear N
 subst j0
 have N:=B
 clear B
 refine zF call12 (fun w N a J=>?_) (c:=z2w (l:=[M]) (m:=[(⟨ru,fn,path,nu⟩:Rw)]) (by have h_:=d.sub (by decide) v i (i+1) (Nat.le_succ i) (by omega);rw [show (P.drop i).take (i+1 - i)=[M] from by rw [yI y,Nat.add_sub_cancel_left];rfl] at h_;exact h_) I N)
 refine go fun a J=>?_
 replace N:=N.dl [0]
 refine E _ _ _ (by subst c0;omega) ⟨(a0),(i+1),((decide ([M]=[(⟨ru,fn,path,nu⟩:Rw)]))),rfl,⟨J.pk,N⟩,?_⟩
 refine ⟨((h).trans g.1).trans r,?_⟩
 have h_:=z9k z y;simpa using h_
 refine go fun a J=>?_
 replace N:=N.dl [0]
 refine E _ _ _ (by subst c0;omega) ⟨(k0),(i+1),(true),rfl,⟨J.pk,N⟩,?_⟩
 refine ⟨(h).trans g.1,?_⟩
 exact fun _=>rfl
 have i0:(⟨ru,fn,path,nu⟩:Rw)∈P->C=true:=fun h_=>z (by rw [List.take_of_length_le (by omega)];exact h_)
 refine cY call13 (fun f0 w0 w D t N a J=>?_) (fun f0 w D N a J=>?_) (c:=z6z b f Gl N)
 obtain ⟨n1,c175⟩:=w0
 simp only at t N J
 replace b:=RTrc.mono _ _ _ _ t.1 b
 replace f:=RRw.mono _ _ _ _ t.1 f
 have V:=t.2
 have C0:=V
 obtain ⟨w2,C1,x2,D1,y2,E1,z2,F1,rfl,I0,M1,N1,O1,P1,Q0,g1,R0,h1,S0,i1,U0,j1⟩:=RTrc.fm V
 replace N:=N.nf
 refine Alc fun r1 w N a J=>?_
 refine Sto 0 fun w N a J=>?_
 refine Qq (fun a J=>?_) (o:=by exact fun J O=>jG false J rfl rfl rfl)
 by_cases l0:ru=6
 refine yK ?_
 replace N:=N.le (((s.1).trans h).trans t.1)
 replace N:=N.dl [2,1,0]
 exact ⟨rfl,N⟩
 refine go fun a J=>?_
 cases C
 refine Qq (fun a J=>?_) (o:=by exact fun J O=>y_geqN (i:=P.length) (j:=500) J rfl rfl)
 refine yK ?_
 replace N:=N.le (((s.1).trans h).trans t.1)
 replace N:=N.dl [2,1,0]
 rw [show (decide (500<=P.length))=true from decide_eq_true (Nat.le_of_not_lt fun W1=>by have D0:=i0 (S▸j4i hc D l0 (by rw [S];omega));cases D0)];exact ⟨rfl,N⟩
 refine yK ?_
 replace N:=N.le (((s.1).trans h).trans t.1)
 replace N:=N.dl [2,1,0]
 exact ⟨rfl,N⟩
 have A0:¬f0=0:=uV (by rw [<- aY hc];exact D)
 replace N:=N.nf
 refine Alc fun s1 w N a J=>?_
 refine Sto 0 fun w N a J=>?_
 refine yK ?_
 replace N:=N.le ((s.1).trans h)
 replace N:=N.dl [2,1,0]
 exact ⟨rfl,N⟩
theorem q2k {tc rc:List Value} {T:Trc} {ru fn nu:Int} {path:List Int} (a:RTrc Φ tc T) (rx:RRw Φ rc ⟨ru,fn,path,nu⟩) (G:Glob Φ) (N:Mem Φ K w) :
  Calls prog 4 #[.agg tc.toArray,.agg rc.toArray] w (fun ee w'=>ee=.returned (.bool true)/\Mem Φ K w'):=by
 cases h:zL T with
 | true=>exact y1x a rx G h N
 | false=>exact y6t a rx G h N
end
end Go.Sw
namespace Go.Proofs.YtlfobekmmndchaaGreatDoor
open Go.ChangeShapes Go.WideShapes Go.ChangeAt Go.RowKit Go.Sw
set_option maxRecDepth 100000
theorem tt {a b:Bool} (c:a=true) (hb:b=true):(a&&b)=true:=by rw [c,hb];rfl
theorem q2a:Rows.optNamesRow.wf (OpenSpec.ofChange Rows.optNamesSpec)=true:=by kernel_rfl
theorem q2b:laidOutB Tryz.prog=true:=by kernel_rfl
theorem q2c:mapsRowed Tryz.prog=true:=by kernel_rfl
theorem q2d:Tryz.f4.params.all (Tryz.prog.readableRec ·)=true:=by kernel_rfl
theorem q2e:namedTie Tryz.prog Rows.optNamesRow.named Rows.optNamesSpec.vars=true:=by kernel_rfl
theorem q2f:(Rows.optNamesRow.stops==[])=true:=by kernel_rfl
theorem q2g:(Tryz.prog.stops==[])=true:=by kernel_rfl
theorem q2h:(Rows.optNamesRow.knobs==[])=true:=by kernel_rfl
theorem q2i:(Tryz.prog.stopKnobs==[])=true:=by kernel_rfl
theorem q2j:(Rows.optNamesRow.inPlace==Tryz.prog.inPlace 4)=true:=by kernel_rfl
theorem y6u:(Rows.optNamesRow.unfollowed==Tryz.prog.unfollowed 4)=true:=by kernel_rfl
theorem y6v:(Rows.optNamesRow.recurses==Tryz.prog.recurses 4)=true:=by kernel_rfl
theorem y6w:(Rows.optNamesRow.named==Tryz.prog.varsNamed 4)=true:=by kernel_rfl
theorem y6x:(Rows.optNamesRow.maps==(Tryz.f4.params.toList++Rows.optNamesSpec.plain.varTypes Tryz.prog).any (Tryz.prog.mapsRec ·))=true:=by kernel_rfl
theorem y6y:(Rows.optNamesRow.ifaces==(Tryz.f4.params.toList++Rows.optNamesSpec.plain.varTypes Tryz.prog).any (Tryz.prog.ifacesRec ·))=true:=by kernel_rfl
theorem y6z:(Rows.optNamesRow.mapsOut==Tryz.prog.mapsAmong Tryz.f4.resultTypes.toList)=true:=by kernel_rfl
theorem y7a:(Rows.optNamesRow.loops==(Tryz.f4.params.toList++Rows.optNamesSpec.plain.varTypes Tryz.prog).any (Tryz.prog.loopsFrom ·))=true:=by kernel_rfl
theorem y7b:(Rows.optNamesRow.wideKeys==(Tryz.f4.params.toList++Rows.optNamesSpec.plain.varTypes Tryz.prog++Tryz.f4.resultTypes.toList).any (Tryz.prog.wideKeysFrom ·))=true:=by kernel_rfl
theorem y7c:Rows.optNamesSpec.vars.all (Tryz.prog.varReadable ·)=true:=by kernel_rfl
theorem y7d:Tryz.f4.resultTypes.all (fun t=>Tryz.prog.readableRec t&&decide (t < Tryz.prog.types.size))=true:=by kernel_rfl
theorem y7e:(Rows.optNamesRow.ifacesOut==Tryz.f4.resultTypes.toList.any (Tryz.prog.ifacesRec ·))=true:=by kernel_rfl
theorem y7f:(Rows.optNamesRow.loopsOut==Tryz.f4.resultTypes.toList.any (Tryz.prog.loopsFrom ·))=true:=by kernel_rfl
theorem y7g:(Rows.optNamesRow.plainKeys==Tryz.prog.plainKeys)=true:=by kernel_rfl
theorem y7h:Rows.optNamesRow.shortTexts.isNone=true:=by kernel_rfl
theorem y7i:Tryz.prog.stopsHeard=true:=by kernel_rfl
theorem y7j:Tryz.prog.mayEnter=true:=by kernel_rfl
theorem y7k:(Rows.optNamesRow.lifted==Tryz.prog.liftsFinal)=true:=by kernel_rfl
theorem y7l:(Tryz.prog.make==some Rows.optNamesRow.make)=true:=by kernel_rfl
theorem y7m:(Rows.optNamesRow.kinds==(if Rows.optNamesRow.domain.isEmpty then [] else Tryz.f4.params.toList.map fun t=>match Tryz.prog.underlying t with | some (.int k)=>some k | _=>Option.none))=true:=by kernel_rfl
theorem y7n:(Rows.optNamesRow.pinned==Rows.optNamesRow.pinnedBy)=true:=by kernel_rfl
theorem y7o:(Rows.optNamesRow.veiled==(Tryz.f4.params.toList++Rows.optNamesSpec.plain.varTypes Tryz.prog++Tryz.f4.resultTypes.toList).any (Tryz.prog.veiledRec ·))=true:=by kernel_rfl
theorem y7p:Rows.optNamesRow.veiledFits Tryz.prog Tryz.f4.params.toList (Tryz.f4.params.toList++Rows.optNamesSpec.plain.varTypes Tryz.prog++Tryz.f4.resultTypes.toList)=true:=by kernel_rfl
theorem z6b:joinedFacts Tryz.prog 4 Tryz.f4 Rows.optNamesSpec Rows.optNamesRow=true:=(tt (tt (tt (tt (tt (tt (tt (tt (tt (tt (tt (tt (tt (tt (tt (tt (tt (tt (tt (tt (tt (tt (tt (tt (tt (tt (tt (tt (tt (tt (tt q2a q2b) q2c) q2d) q2e) q2f) q2g) q2h) q2i) q2j) y6u) y6v) y6w) y6x) y6y) y6z) y7a) y7b) y7c) y7d) y7e) y7f) y7g) y7h) y7i) y7j) y7k) y7l) y7m) y7n) y7o) y7p)
theorem optNames_named:Tryz.prog.funcNamed "restitch/restitchlaw15.OptNames" = some 4:=by kernel_rfl
theorem z6d:Tryz.checked.prog.inits.idxOf? 4=none:=by kernel_rfl
theorem z4b:Tryz.f4.resultTypes=#[4]:=by kernel_rfl
theorem y1y:([26,36].all fun t=>Tryz.prog.readableRec t&&decide (t < Tryz.prog.types.size))=true:=by kernel_rfl
theorem z6e:Rows.optNamesRow.wfByText (OpenSpec.ofChange Rows.optNamesSpec)=true:=by kernel_rfl
theorem y1w:false=Rows.optNamesRow.goesBy Tryz.prog:=by kernel_rfl
theorem z9q:([26,36].all fun u=> !Tryz.prog.wantsStandIn u)=true:=by kernel_rfl
abbrev optNames_args:Array Value:=#[.agg #[.slice none 0 0,.slice none 0 0,.slice none 0 0,.slice none 0 0],.agg #[.int .i64 0,.int .i64 0,.slice none 0 0,.int .i64 0]]
theorem z6c (os:Os) (started:os.Started) (H:Type) (enc:TypeId×Value->H) :
  ReturnsInHanded {} Tryz.checked os 4 .any (fun w args=>(Rows.optNamesSpec.pre enc Tryz.prog Tryz.f4 [] false w args/\laidMetH Tryz.prog laidAll w)/\sizedMet enc Tryz.prog Tryz.f4 (OpenSpec.ofChange Rows.optNamesSpec) false w args)
   (Rows.optNamesSpec.post enc Tryz.prog Tryz.f4 false true false false):=by
 refine z5q (C:=Tryz.checked) (X:=fun w _=>laidMetH Tryz.prog laidAll w) (fun _ _ _ s h=>h.of_heap s) own started z6d Tryz.func4
  (ChangeSpec.witness_shaped (enc:=enc) (C:=Tryz.checked) (os:=os) (X:=fun w _=>laidMetH Tryz.prog laidAll w) false (World.laidAll Tryz.prog os laidAll) optNames_args 8 (World.laidAll_os _ _ _)
   (World.shaped_of_ZipB (by as_aux_lemma=>kernel_rfl) (by as_aux_lemma=>kernel_rfl)) (by as_aux_lemma=>kernel_rfl) (by as_aux_lemma=>kernel_rfl) (by as_aux_lemma=>kernel_rfl)
   (by rw [dH];exact q1r os _)) ?_
 intro W base args ds gs before b m l f
 have a:∀(j:Nat) t v,Tryz.f4.params[j]? = some t->args[j]? = some v->Value.okWide Tryz.prog W .any base t v:=b
 have hW':=m
 obtain ⟨p,q,d,A,rfl,_,_⟩:=m
 have k:DataW.TrodAll enc Tryz.prog W 0 (fun _=>true) true Tryz.f4.params.toList args.toList ds p:=d
 rw [Tryz.params4] at k a
 obtain ⟨v0,v1,y,z,B,p1,rfl,rfl,rfl,n,o⟩:=trodAll_two k
 rw [dH] at l
 obtain ⟨cs,c,rfl,g⟩:=j1b (a 0 26 v0 rfl rfl) n
 obtain ⟨rc,ru,fn,path,nu,rfl,i⟩:=rw_arg (a 1 36 v1 rfl rfl) o
 refine (q2k g i (q9w f l) (Mem.whole W)).mono fun e W' ⟨J,N⟩=>?_
 subst J
 exact ⟨_,rfl,q1s hW' rfl (fun gs r=>by subst r;rfl) z4b (by rw [Tryz.params4];exact fun t u=>j0r y1y u) N⟩
theorem z9p:Rows.OptNamesSaid :=
 OpenClaim.holds_of_wide 4 Tryz.f4 rfl rfl rfl rfl rfl rfl rfl ⟨rfl,rfl,rfl,rfl,rfl⟩ rfl rfl rfl rfl rfl optNames_named Tryz.func4 z6b
  (of_decide_eq_true (by as_aux_lemma=>kernel_rfl)) (by unfold Func.isWrapper;first | (rw [if_pos (by decide +kernel)];as_aux_lemma=>kernel_rfl) | (rw [if_neg (by decide +kernel)];exact ⟨rfl,rfl⟩))
  (fun os started H enc _=>z6c os started H enc)
theorem optNames_card:Rows.OptNamesCardSaid :=
 Claim7.holds_tied_plain_at .later [] [.data,.data,.data,.data,.sentinel,.sentinel,.pinned] true (true,"85501da53bcbeb676a92cebcef877aabde4957abcbe701bf1dd5251624ce4289") true z9p (fun _ h=>by cases h) z6e (fun _ h=>by cases h) optNames_row_tie rfl ⟨rfl,rfl⟩ j0i rfl
  (fun f fn c a=>by
   obtain rfl:f=4:=Option.some.inj (optNames_named.symm.trans c) |>.symm
   obtain rfl:fn=Tryz.f4:=(Option.some.inj (Tryz.func4.symm.trans a)).symm
   exact ⟨q1t,fun j t b=>by
    rw [Tryz.params4] at b
    have N:t∈[26,36]:=by simpa using Array.mem_of_getElem? b
    exact (show Tryz.prog.wantsStandIn t=false by simpa using List.all_eq_true.1 z9q t N)⟩)
  y1w
#print axioms optNames_card
end Go.Proofs.YtlfobekmmndchaaGreatDoor
