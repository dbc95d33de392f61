import Derived.Test.YtgkhcfjooiekkaaGreatDoorX04
set_option linter.unusedVariables false
set_option linter.unusedSimpArgs false
namespace Go.Sw
open Go.Proofs.Tryz
open Go.Proofs
set_option maxRecDepth 20000
set_option maxHeartbeats 4000000
variable {V:Fz} {K:List Res} {w:World}
theorem q2a {V:Fz} {w:World} {σ:Type} {step:σ->Ex->Bool×σ} {Kf:σ->List Res} {g:Nat} {fs cs:List Value} {s0:σ} {v0:Value} {l:List Ex} (hl:SliceOf REx V 5 v0 l)
  (G:∀args w,(callFunc g args).run prog w=.ok (.enter g args) w)
  (F:∀s x c w,x∈l->REx V c x->Mem V (Kf s) w->Calls prog g (fs++[Value.agg c.toArray]++cs).toArray w (fun e w'=>e=.returned (.bool (step s x).1)/\Mem V (Kf (step s x).2) w'))
  (N:Mem V (Kf s0) w):Calls prog 167 #[v0,.func (.func g) fs.toArray cs.toArray] w (fun e w'=>e=.returned (.int .i64 (yI step s0 l 0).1)/\Mem V (Kf (yI step s0 l 0).2) w'):=by
 obtain ⟨I,c0,rfl,H,n⟩:=hl.fm
 refine zM func167 ntmps167 fun Q r a J=>?_
 refine go J N fun a J=>?_
 refine mR (fun mm a w=>∃(i:Nat) (s:σ),mm=l.length - i/\EnvR 19 [(0,.slice I l.length c0),(1,.func (.func g) (List.toArray fs) (List.toArray cs)),(7,.int .i64 ((l.length:Nat):Int)),(8,.int .i64 ((i:Nat):Int))] [] a/\Mem V (Kf s) w/\(yI step s0 l 0=yI step s (l.drop i) i)) (l.length - 0) ⟨0,s0,rfl,J.pk,N,rfl⟩ ?_
 clear N J
 rintro mm a w ⟨i,s,m,J,N,j⟩ P k
 refine go J N fun a J=>?_
 by_cases q:i < l.length
 refine go J N fun a J=>?_
 obtain ⟨M,rfl,o,f,p,v,t,h⟩:=hl.el n q
 obtain ⟨K,c22,L,C,rfl,u,D,E,y,A,z,B⟩:=REx.fm h
 refine y0c G J N (fun d w N a J=>?_) (fun d w N a J=>?_) (c:=by exact F s _ _ _ (mgQ f) h N)
 refine zD r J N ?_
 have b:=j
 rw [zA f] at b
 simp only [yI,d,if_true] at b
 rw [b]
 exact ⟨rfl,N⟩
 refine go J N fun a J=>?_
 refine k _ _ _ (by subst m;omega) ⟨(i+1),((step s o).2),rfl,J.pk,N,?_⟩
 rw [j,zA f];simp [yI,d]
 refine zD r J N ?_
 have b:=j
 rw [zE q] at b
 simp only [yI] at b
 rw [b]
 exact ⟨rfl,N⟩
theorem z9p {V:Fz} {w:World} {σ:Type} {step:σ->Ex->Bool×σ} {Kf:σ->List Res} {g:Nat} {fs cs:List Value} {s0:σ} {v0:Value} {l:List Ex} (hl:SliceOf REx V 5 v0 l)
  (f:∀args w,(callFunc g args).run prog w=.ok (.enter g args) w)
  (d:∀s x c w,x∈l->REx V c x->Mem V (Kf s) w->Calls prog g (fs++[Value.agg c.toArray]++cs).toArray w (fun e w'=>e=.returned (.bool (step s x).1)/\Mem V (Kf (step s x).2) w'))
  (N:Mem V (Kf s0) w):Calls prog 115 #[v0,.func (.func g) fs.toArray cs.toArray] w (fun e w'=>e=.returned (.bool (z2v step s0 l))/\Mem V (Kf (yI step s0 l 0).2) w'):=by
 obtain ⟨k,c0,rfl,i,j⟩:=hl.fm
 refine Calls.mono (R:=fun e w'=>e=.returned (.bool (decide (0<=(yI step s0 l 0).1)))/\Mem V (Kf (yI step s0 l 0).2) w') ?_ (fun e w' h=>by rw [kE] at h;exact h)
 refine zM func115 ntmps115 fun Q b a J=>?_
 refine zS call167 J N (fun w N a J=>?_) (c:=q2a (V:=V) (step:=step) (Kf:=Kf) (s0:=s0) (l:=l) hl f d N)
 refine Qq J N (fun a J=>?_) (o:=by exact fun _ _ _ J O=>z4d J rfl rfl)
 refine zD b J N ?_
 exact ⟨rfl,N⟩
theorem y0f {p:Ex->Bool} {g:Nat} {fs cs:List Value} {v0:Value} {l:List Ex} (hl:SliceOf REx V 5 v0 l)
  (d:∀args w,(callFunc g args).run prog w=.ok (.enter g args) w)
  (b:∀x c w,x∈l->REx V c x->Mem V K w->Calls prog g (fs++[Value.agg c.toArray]++cs).toArray w (fun e w'=>e=.returned (.bool (p x))/\Mem V K w'))
  (N:Mem V K w):Calls prog 115 #[v0,.func (.func g) fs.toArray cs.toArray] w (fun e w'=>e=.returned (.bool (l.any p))/\Mem V K w') :=
 (z9p (σ:=Unit) (step:=fun s x=>(p x,s)) (Kf:=fun _=>K) (s0:=()) hl d (fun _ x c w f a N=>b x c w f a N) N).mono (fun e w' h=>by rw [nR] at h;exact h)
theorem y6v {V:Fz} {w:World} {σ:Type} {step:σ->Arm->Bool×σ} {Kf:σ->List Res} {g:Nat} {fs cs:List Value} {s0:σ} {v0:Value} {l:List Arm} (hl:SliceOf RArm V 7 v0 l)
  (P:∀args w,(callFunc g args).run prog w=.ok (.enter g args) w)
  (M:∀s x c w,x∈l->RArm V c x->Mem V (Kf s) w->Calls prog g (fs++[Value.agg c.toArray]++cs).toArray w (fun e w'=>e=.returned (.bool (step s x).1)/\Mem V (Kf (step s x).2) w'))
  (N:Mem V (Kf s0) w):Calls prog 168 #[v0,.func (.func g) fs.toArray cs.toArray] w (fun e w'=>e=.returned (.int .i64 (yI step s0 l 0).1)/\Mem V (Kf (yI step s0 l 0).2) w'):=by
 obtain ⟨S,c0,rfl,R,p⟩:=hl.fm
 refine zM func168 ntmps168 fun Q u a J=>?_
 refine go J N fun a J=>?_
 refine mR (fun mm a w=>∃(i:Nat) (s:σ),mm=l.length - i/\EnvR 19 [(0,.slice S l.length c0),(1,.func (.func g) (List.toArray fs) (List.toArray cs)),(7,.int .i64 ((l.length:Nat):Int)),(8,.int .i64 ((i:Nat):Int))] [] a/\Mem V (Kf s) w/\(yI step s0 l 0=yI step s (l.drop i) i)) (l.length - 0) ⟨0,s0,rfl,J.pk,N,rfl⟩ ?_
 clear N J
 rintro mm a w ⟨i,s,o,J,N,j⟩ Z n
 refine go J N fun a J=>?_
 by_cases t:i < l.length
 refine go J N fun a J=>?_
 obtain ⟨X,rfl,q,f,r,z,v,h⟩:=hl.el p t
 obtain ⟨Y,G,rfl,k,m⟩:=RArm.iff.1 h
 obtain ⟨T,c22,rfl,A,D⟩:=k.fm
 obtain ⟨U,H,W,I,rfl,y,K,L,B,E,C,F⟩:=REx.fm m
 refine y0c P J N (fun d w N a J=>?_) (fun d w N a J=>?_) (c:=by exact M s _ _ _ (mgQ f) h N)
 refine zD u J N ?_
 have b:=j
 rw [zA f] at b
 simp only [yI,d,if_true] at b
 rw [b]
 exact ⟨rfl,N⟩
 refine go J N fun a J=>?_
 refine n _ _ _ (by subst o;omega) ⟨(i+1),((step s q).2),rfl,J.pk,N,?_⟩
 rw [j,zA f];simp [yI,d]
 refine zD u J N ?_
 have b:=j
 rw [zE t] at b
 simp only [yI] at b
 rw [b]
 exact ⟨rfl,N⟩
theorem z6q {V:Fz} {w:World} {σ:Type} {step:σ->Arm->Bool×σ} {Kf:σ->List Res} {g:Nat} {fs cs:List Value} {s0:σ} {v0:Value} {l:List Arm} (hl:SliceOf RArm V 7 v0 l)
  (f:∀args w,(callFunc g args).run prog w=.ok (.enter g args) w)
  (d:∀s x c w,x∈l->RArm V c x->Mem V (Kf s) w->Calls prog g (fs++[Value.agg c.toArray]++cs).toArray w (fun e w'=>e=.returned (.bool (step s x).1)/\Mem V (Kf (step s x).2) w'))
  (N:Mem V (Kf s0) w):Calls prog 116 #[v0,.func (.func g) fs.toArray cs.toArray] w (fun e w'=>e=.returned (.bool (z2v step s0 l))/\Mem V (Kf (yI step s0 l 0).2) w'):=by
 obtain ⟨k,c0,rfl,i,j⟩:=hl.fm
 refine Calls.mono (R:=fun e w'=>e=.returned (.bool (decide (0<=(yI step s0 l 0).1)))/\Mem V (Kf (yI step s0 l 0).2) w') ?_ (fun e w' h=>by rw [kE] at h;exact h)
 refine zM func116 ntmps116 fun Q b a J=>?_
 refine zS call168 J N (fun w N a J=>?_) (c:=y6v (V:=V) (step:=step) (Kf:=Kf) (s0:=s0) (l:=l) hl f d N)
 refine Qq J N (fun a J=>?_) (o:=by exact fun _ _ _ J O=>z4d J rfl rfl)
 refine zD b J N ?_
 exact ⟨rfl,N⟩
theorem z8l {p:Arm->Bool} {g:Nat} {fs cs:List Value} {v0:Value} {l:List Arm} (hl:SliceOf RArm V 7 v0 l)
  (d:∀args w,(callFunc g args).run prog w=.ok (.enter g args) w)
  (b:∀x c w,x∈l->RArm V c x->Mem V K w->Calls prog g (fs++[Value.agg c.toArray]++cs).toArray w (fun e w'=>e=.returned (.bool (p x))/\Mem V K w'))
  (N:Mem V K w):Calls prog 116 #[v0,.func (.func g) fs.toArray cs.toArray] w (fun e w'=>e=.returned (.bool (l.any p))/\Mem V K w') :=
 (z6q (σ:=Unit) (step:=fun s x=>(p x,s)) (Kf:=fun _=>K) (s0:=()) hl d (fun _ x c w f a N=>b x c w f a N) N).mono (fun e w' h=>by rw [nR] at h;exact h)
theorem y6x {V:Fz} {w:World} {σ:Type} {step:σ->Fun->Bool×σ} {Kf:σ->List Res} {g:Nat} {fs cs:List Value} {s0:σ} {v0:Value} {l:List Fun} (hl:SliceOf RFun V 8 v0 l)
  (P:∀args w,(callFunc g args).run prog w=.ok (.enter g args) w)
  (M:∀s x c w,x∈l->RFun V c x->Mem V (Kf s) w->Calls prog g (fs++[Value.agg c.toArray]++cs).toArray w (fun e w'=>e=.returned (.bool (step s x).1)/\Mem V (Kf (step s x).2) w'))
  (N:Mem V (Kf s0) w):Calls prog 150 #[v0,.func (.func g) fs.toArray cs.toArray] w (fun e w'=>e=.returned (.int .i64 (yI step s0 l 0).1)/\Mem V (Kf (yI step s0 l 0).2) w'):=by
 obtain ⟨S,c0,rfl,R,p⟩:=hl.fm
 refine zM func150 ntmps150 fun Q u a J=>?_
 refine go J N fun a J=>?_
 refine mR (fun mm a w=>∃(i:Nat) (s:σ),mm=l.length - i/\EnvR 19 [(0,.slice S l.length c0),(1,.func (.func g) (List.toArray fs) (List.toArray cs)),(7,.int .i64 ((l.length:Nat):Int)),(8,.int .i64 ((i:Nat):Int))] [] a/\Mem V (Kf s) w/\(yI step s0 l 0=yI step s (l.drop i) i)) (l.length - 0) ⟨0,s0,rfl,J.pk,N,rfl⟩ ?_
 clear N J
 rintro mm a w ⟨i,s,o,J,N,j⟩ Z n
 refine go J N fun a J=>?_
 by_cases t:i < l.length
 refine go J N fun a J=>?_
 obtain ⟨X,rfl,q,f,r,z,v,h⟩:=hl.el p t
 obtain ⟨Y,G,rfl,k,m⟩:=id h
 obtain ⟨T,c22,rfl,A,D⟩:=k.fm
 obtain ⟨U,H,W,I,rfl,y,K,L,B,E,C,F⟩:=REx.fm m
 refine y0c P J N (fun d w N a J=>?_) (fun d w N a J=>?_) (c:=by exact M s _ _ _ (mgQ f) h N)
 refine zD u J N ?_
 have b:=j
 rw [zA f] at b
 simp only [yI,d,if_true] at b
 rw [b]
 exact ⟨rfl,N⟩
 refine go J N fun a J=>?_
 refine n _ _ _ (by subst o;omega) ⟨(i+1),((step s q).2),rfl,J.pk,N,?_⟩
 rw [j,zA f];simp [yI,d]
 refine zD u J N ?_
 have b:=j
 rw [zE t] at b
 simp only [yI] at b
 rw [b]
 exact ⟨rfl,N⟩
theorem z6s {V:Fz} {w:World} {σ:Type} {step:σ->Fun->Bool×σ} {Kf:σ->List Res} {g:Nat} {fs cs:List Value} {s0:σ} {v0:Value} {l:List Fun} (hl:SliceOf RFun V 8 v0 l)
  (f:∀args w,(callFunc g args).run prog w=.ok (.enter g args) w)
  (d:∀s x c w,x∈l->RFun V c x->Mem V (Kf s) w->Calls prog g (fs++[Value.agg c.toArray]++cs).toArray w (fun e w'=>e=.returned (.bool (step s x).1)/\Mem V (Kf (step s x).2) w'))
  (N:Mem V (Kf s0) w):Calls prog 96 #[v0,.func (.func g) fs.toArray cs.toArray] w (fun e w'=>e=.returned (.bool (z2v step s0 l))/\Mem V (Kf (yI step s0 l 0).2) w'):=by
 obtain ⟨k,c0,rfl,i,j⟩:=hl.fm
 refine Calls.mono (R:=fun e w'=>e=.returned (.bool (decide (0<=(yI step s0 l 0).1)))/\Mem V (Kf (yI step s0 l 0).2) w') ?_ (fun e w' h=>by rw [kE] at h;exact h)
 refine zM func96 ntmps96 fun Q b a J=>?_
 refine zS call150 J N (fun w N a J=>?_) (c:=y6x (V:=V) (step:=step) (Kf:=Kf) (s0:=s0) (l:=l) hl f d N)
 refine Qq J N (fun a J=>?_) (o:=by exact fun _ _ _ J O=>z4d J rfl rfl)
 refine zD b J N ?_
 exact ⟨rfl,N⟩
theorem q3q {p:Fun->Bool} {g:Nat} {fs cs:List Value} {v0:Value} {l:List Fun} (hl:SliceOf RFun V 8 v0 l)
  (d:∀args w,(callFunc g args).run prog w=.ok (.enter g args) w)
  (b:∀x c w,x∈l->RFun V c x->Mem V K w->Calls prog g (fs++[Value.agg c.toArray]++cs).toArray w (fun e w'=>e=.returned (.bool (p x))/\Mem V K w'))
  (N:Mem V K w):Calls prog 96 #[v0,.func (.func g) fs.toArray cs.toArray] w (fun e w'=>e=.returned (.bool (l.any p))/\Mem V K w') :=
 (z6s (σ:=Unit) (step:=fun s x=>(p x,s)) (Kf:=fun _=>K) (s0:=()) hl d (fun _ x c w f a N=>b x c w f a N) N).mono (fun e w' h=>by rw [nR] at h;exact h)
theorem y6y {V:Fz} {w:World} {σ:Type} {step:σ->Val->Bool×σ} {Kf:σ->List Res} {g:Nat} {fs cs:List Value} {s0:σ} {v0:Value} {l:List Val} (hl:SliceOf RVal V 3 v0 l)
  (C:∀args w,(callFunc g args).run prog w=.ok (.enter g args) w)
  (B:∀s x c w,x∈l->RVal V c x->Mem V (Kf s) w->Calls prog g (fs++[Value.agg c.toArray]++cs).toArray w (fun e w'=>e=.returned (.bool (step s x).1)/\Mem V (Kf (step s x).2) w'))
  (N:Mem V (Kf s0) w):Calls prog 104 #[v0,.func (.func g) fs.toArray cs.toArray] w (fun e w'=>e=.returned (.int .i64 (yI step s0 l 0).1)/\Mem V (Kf (yI step s0 l 0).2) w'):=by
 obtain ⟨E,c0,rfl,D,n⟩:=hl.fm
 refine zM func104 ntmps104 fun Q r a J=>?_
 refine go J N fun a J=>?_
 refine mR (fun mm a w=>∃(i:Nat) (s:σ),mm=l.length - i/\EnvR 19 [(0,.slice E l.length c0),(1,.func (.func g) (List.toArray fs) (List.toArray cs)),(7,.int .i64 ((l.length:Nat):Int)),(8,.int .i64 ((i:Nat):Int))] [] a/\Mem V (Kf s) w/\(yI step s0 l 0=yI step s (l.drop i) i)) (l.length - 0) ⟨0,s0,rfl,J.pk,N,rfl⟩ ?_
 clear N J
 rintro mm a w ⟨i,s,m,J,N,j⟩ H k
 refine go J N fun a J=>?_
 by_cases q:i < l.length
 refine go J N fun a J=>?_
 obtain ⟨G,rfl,o,f,p,v,t,h⟩:=hl.el n q
 obtain ⟨F,c22,rfl,u,A,y,z⟩:=RVal.fm h
 refine y0c C J N (fun d w N a J=>?_) (fun d w N a J=>?_) (c:=by exact B s _ _ _ (mgQ f) h N)
 refine zD r J N ?_
 have b:=j
 rw [zA f] at b
 simp only [yI,d,if_true] at b
 rw [b]
 exact ⟨rfl,N⟩
 refine go J N fun a J=>?_
 refine k _ _ _ (by subst m;omega) ⟨(i+1),((step s o).2),rfl,J.pk,N,?_⟩
 rw [j,zA f];simp [yI,d]
 refine zD r J N ?_
 have b:=j
 rw [zE q] at b
 simp only [yI] at b
 rw [b]
 exact ⟨rfl,N⟩
theorem sV {V:Fz} {w:World} {σ:Type} {step:σ->Val->Bool×σ} {Kf:σ->List Res} {g:Nat} {fs cs:List Value} {s0:σ} {v0:Value} {l:List Val} (hl:SliceOf RVal V 3 v0 l)
  (f:∀args w,(callFunc g args).run prog w=.ok (.enter g args) w)
  (d:∀s x c w,x∈l->RVal V c x->Mem V (Kf s) w->Calls prog g (fs++[Value.agg c.toArray]++cs).toArray w (fun e w'=>e=.returned (.bool (step s x).1)/\Mem V (Kf (step s x).2) w'))
  (N:Mem V (Kf s0) w):Calls prog 49 #[v0,.func (.func g) fs.toArray cs.toArray] w (fun e w'=>e=.returned (.bool (z2v step s0 l))/\Mem V (Kf (yI step s0 l 0).2) w'):=by
 obtain ⟨k,c0,rfl,i,j⟩:=hl.fm
 refine Calls.mono (R:=fun e w'=>e=.returned (.bool (decide (0<=(yI step s0 l 0).1)))/\Mem V (Kf (yI step s0 l 0).2) w') ?_ (fun e w' h=>by rw [kE] at h;exact h)
 refine zM func49 ntmps49 fun Q b a J=>?_
 refine zS call104 J N (fun w N a J=>?_) (c:=y6y (V:=V) (step:=step) (Kf:=Kf) (s0:=s0) (l:=l) hl f d N)
 refine Qq J N (fun a J=>?_) (o:=by exact fun _ _ _ J O=>z4d J rfl rfl)
 refine zD b J N ?_
 exact ⟨rfl,N⟩
theorem q3r {p:Val->Bool} {g:Nat} {fs cs:List Value} {v0:Value} {l:List Val} (hl:SliceOf RVal V 3 v0 l)
  (d:∀args w,(callFunc g args).run prog w=.ok (.enter g args) w)
  (b:∀x c w,x∈l->RVal V c x->Mem V K w->Calls prog g (fs++[Value.agg c.toArray]++cs).toArray w (fun e w'=>e=.returned (.bool (p x))/\Mem V K w'))
  (N:Mem V K w):Calls prog 49 #[v0,.func (.func g) fs.toArray cs.toArray] w (fun e w'=>e=.returned (.bool (l.any p))/\Mem V K w') :=
 (sV (σ:=Unit) (step:=fun s x=>(p x,s)) (Kf:=fun _=>K) (s0:=()) hl d (fun _ x c w f a N=>b x c w f a N) N).mono (fun e w' h=>by rw [nR] at h;exact h)
theorem y6w {V:Fz} {w:World} {σ:Type} {step:σ->Con->Bool×σ} {Kf:σ->List Res} {g:Nat} {fs cs:List Value} {s0:σ} {v0:Value} {l:List Con} (hl:SliceOf RCon V 2 v0 l)
  (B:∀args w,(callFunc g args).run prog w=.ok (.enter g args) w)
  (A:∀s x c w,x∈l->RCon V c x->Mem V (Kf s) w->Calls prog g (fs++[Value.agg c.toArray]++cs).toArray w (fun e w'=>e=.returned (.bool (step s x).1)/\Mem V (Kf (step s x).2) w'))
  (N:Mem V (Kf s0) w):Calls prog 189 #[v0,.func (.func g) fs.toArray cs.toArray] w (fun e w'=>e=.returned (.int .i64 (yI step s0 l 0).1)/\Mem V (Kf (yI step s0 l 0).2) w'):=by
 obtain ⟨D,c0,rfl,C,o⟩:=hl.fm
 refine zM func189 ntmps189 fun Q t a J=>?_
 refine go J N fun a J=>?_
 refine mR (fun mm a w=>∃(i:Nat) (s:σ),mm=l.length - i/\EnvR 19 [(0,.slice D l.length c0),(1,.func (.func g) (List.toArray fs) (List.toArray cs)),(7,.int .i64 ((l.length:Nat):Int)),(8,.int .i64 ((i:Nat):Int))] [] a/\Mem V (Kf s) w/\(yI step s0 l 0=yI step s (l.drop i) i)) (l.length - 0) ⟨0,s0,rfl,J.pk,N,rfl⟩ ?_
 clear N J
 rintro mm a w ⟨i,s,n,J,N,j⟩ H m
 refine go J N fun a J=>?_
 by_cases r:i < l.length
 refine go J N fun a J=>?_
 obtain ⟨F,rfl,p,f,q,v,u,h⟩:=hl.el o r
 obtain ⟨G,rfl,k⟩:=id h
 obtain ⟨E,c22,rfl,y,z⟩:=k.fm
 refine y0c B J N (fun d w N a J=>?_) (fun d w N a J=>?_) (c:=by exact A s _ _ _ (mgQ f) h N)
 refine zD t J N ?_
 have b:=j
 rw [zA f] at b
 simp only [yI,d,if_true] at b
 rw [b]
 exact ⟨rfl,N⟩
 refine go J N fun a J=>?_
 refine m _ _ _ (by subst n;omega) ⟨(i+1),((step s p).2),rfl,J.pk,N,?_⟩
 rw [j,zA f];simp [yI,d]
 refine zD t J N ?_
 have b:=j
 rw [zE r] at b
 simp only [yI] at b
 rw [b]
 exact ⟨rfl,N⟩
theorem z6r {V:Fz} {w:World} {σ:Type} {step:σ->Con->Bool×σ} {Kf:σ->List Res} {g:Nat} {fs cs:List Value} {s0:σ} {v0:Value} {l:List Con} (hl:SliceOf RCon V 2 v0 l)
  (f:∀args w,(callFunc g args).run prog w=.ok (.enter g args) w)
  (d:∀s x c w,x∈l->RCon V c x->Mem V (Kf s) w->Calls prog g (fs++[Value.agg c.toArray]++cs).toArray w (fun e w'=>e=.returned (.bool (step s x).1)/\Mem V (Kf (step s x).2) w'))
  (N:Mem V (Kf s0) w):Calls prog 151 #[v0,.func (.func g) fs.toArray cs.toArray] w (fun e w'=>e=.returned (.bool (z2v step s0 l))/\Mem V (Kf (yI step s0 l 0).2) w'):=by
 obtain ⟨k,c0,rfl,i,j⟩:=hl.fm
 refine Calls.mono (R:=fun e w'=>e=.returned (.bool (decide (0<=(yI step s0 l 0).1)))/\Mem V (Kf (yI step s0 l 0).2) w') ?_ (fun e w' h=>by rw [kE] at h;exact h)
 refine zM func151 ntmps151 fun Q b a J=>?_
 refine zS call189 J N (fun w N a J=>?_) (c:=y6w (V:=V) (step:=step) (Kf:=Kf) (s0:=s0) (l:=l) hl f d N)
 refine Qq J N (fun a J=>?_) (o:=by exact fun _ _ _ J O=>z4d J rfl rfl)
 refine zD b J N ?_
 exact ⟨rfl,N⟩
theorem q3p {p:Con->Bool} {g:Nat} {fs cs:List Value} {v0:Value} {l:List Con} (hl:SliceOf RCon V 2 v0 l)
  (d:∀args w,(callFunc g args).run prog w=.ok (.enter g args) w)
  (b:∀x c w,x∈l->RCon V c x->Mem V K w->Calls prog g (fs++[Value.agg c.toArray]++cs).toArray w (fun e w'=>e=.returned (.bool (p x))/\Mem V K w'))
  (N:Mem V K w):Calls prog 151 #[v0,.func (.func g) fs.toArray cs.toArray] w (fun e w'=>e=.returned (.bool (l.any p))/\Mem V K w') :=
 (z6r (σ:=Unit) (step:=fun s x=>(p x,s)) (Kf:=fun _=>K) (s0:=()) hl d (fun _ x c w f a N=>b x c w f a N) N).mono (fun e w' h=>by rw [nR] at h;exact h)
theorem z9s {V:Fz} {w:World} {σ:Type} {step:σ->Param->Bool×σ} {Kf:σ->List Res} {g:Nat} {fs cs:List Value} {s0:σ} {v0:Value} {l:List Param} (hl:SliceOf RParam V 2 v0 l)
  (y:∀args w,(callFunc g args).run prog w=.ok (.enter g args) w)
  (v:∀s x c w,x∈l->RParam V c x->Mem V (Kf s) w->Calls prog g (fs++[Value.agg c.toArray]++cs).toArray w (fun e w'=>e=.returned (.bool (step s x).1)/\Mem V (Kf (step s x).2) w'))
  (N:Mem V (Kf s0) w):Calls prog 195 #[v0,.func (.func g) fs.toArray cs.toArray] w (fun e w'=>e=.returned (.int .i64 (yI step s0 l 0).1)/\Mem V (Kf (yI step s0 l 0).2) w'):=by
 obtain ⟨A,c0,rfl,z,n⟩:=hl.fm
 refine zM func195 ntmps195 fun Q r a J=>?_
 refine go J N fun a J=>?_
 refine mR (fun mm a w=>∃(i:Nat) (s:σ),mm=l.length - i/\EnvR 19 [(0,.slice A l.length c0),(1,.func (.func g) (List.toArray fs) (List.toArray cs)),(7,.int .i64 ((l.length:Nat):Int)),(8,.int .i64 ((i:Nat):Int))] [] a/\Mem V (Kf s) w/\(yI step s0 l 0=yI step s (l.drop i) i)) (l.length - 0) ⟨0,s0,rfl,J.pk,N,rfl⟩ ?_
 clear N J
 rintro mm a w ⟨i,s,m,J,N,j⟩ C k
 refine go J N fun a J=>?_
 by_cases q:i < l.length
 refine go J N fun a J=>?_
 obtain ⟨B,rfl,o,f,p,u,t,h⟩:=hl.el n q
 obtain rfl:=id h
 refine y0c y J N (fun d w N a J=>?_) (fun d w N a J=>?_) (c:=by exact v s _ _ _ (mgQ f) h N)
 refine zD r J N ?_
 have b:=j
 rw [zA f] at b
 simp only [yI,d,if_true] at b
 rw [b]
 exact ⟨rfl,N⟩
 refine go J N fun a J=>?_
 refine k _ _ _ (by subst m;omega) ⟨(i+1),((step s o).2),rfl,J.pk,N,?_⟩
 rw [j,zA f];simp [yI,d]
 refine zD r J N ?_
 have b:=j
 rw [zE q] at b
 simp only [yI] at b
 rw [b]
 exact ⟨rfl,N⟩
theorem z3j {V:Fz} {w:World} {σ:Type} {step:σ->Param->Bool×σ} {Kf:σ->List Res} {g:Nat} {fs cs:List Value} {s0:σ} {v0:Value} {l:List Param} (hl:SliceOf RParam V 2 v0 l)
  (f:∀args w,(callFunc g args).run prog w=.ok (.enter g args) w)
  (d:∀s x c w,x∈l->RParam V c x->Mem V (Kf s) w->Calls prog g (fs++[Value.agg c.toArray]++cs).toArray w (fun e w'=>e=.returned (.bool (step s x).1)/\Mem V (Kf (step s x).2) w'))
  (N:Mem V (Kf s0) w):Calls prog 156 #[v0,.func (.func g) fs.toArray cs.toArray] w (fun e w'=>e=.returned (.bool (z2v step s0 l))/\Mem V (Kf (yI step s0 l 0).2) w'):=by
 obtain ⟨k,c0,rfl,i,j⟩:=hl.fm
 refine Calls.mono (R:=fun e w'=>e=.returned (.bool (decide (0<=(yI step s0 l 0).1)))/\Mem V (Kf (yI step s0 l 0).2) w') ?_ (fun e w' h=>by rw [kE] at h;exact h)
 refine zM func156 ntmps156 fun Q b a J=>?_
 refine zS call195 J N (fun w N a J=>?_) (c:=z9s (V:=V) (step:=step) (Kf:=Kf) (s0:=s0) (l:=l) hl f d N)
 refine Qq J N (fun a J=>?_) (o:=by exact fun _ _ _ J O=>z4d J rfl rfl)
 refine zD b J N ?_
 exact ⟨rfl,N⟩
theorem y5z {p:Param->Bool} {g:Nat} {fs cs:List Value} {v0:Value} {l:List Param} (hl:SliceOf RParam V 2 v0 l)
  (d:∀args w,(callFunc g args).run prog w=.ok (.enter g args) w)
  (b:∀x c w,x∈l->RParam V c x->Mem V K w->Calls prog g (fs++[Value.agg c.toArray]++cs).toArray w (fun e w'=>e=.returned (.bool (p x))/\Mem V K w'))
  (N:Mem V K w):Calls prog 156 #[v0,.func (.func g) fs.toArray cs.toArray] w (fun e w'=>e=.returned (.bool (l.any p))/\Mem V K w') :=
 (z3j (σ:=Unit) (step:=fun s x=>(p x,s)) (Kf:=fun _=>K) (s0:=()) hl d (fun _ x c w f a N=>b x c w f a N) N).mono (fun e w' h=>by rw [nR] at h;exact h)
theorem q1z {V:Fz} {w:World} {σ:Type} {step:σ->Bs->Bool×σ} {Kf:σ->List Res} {g:Nat} {fs cs:List Value} {s0:σ} {v0:Value} {l:List Bs} (hl:SliceOf RStr V 1 v0 l)
  (y:∀args w,(callFunc g args).run prog w=.ok (.enter g args) w)
  (v:∀s x c w,x∈l->RStr V c x->Mem V (Kf s) w->Calls prog g (fs++[Value.string x]++cs).toArray w (fun e w'=>e=.returned (.bool (step s x).1)/\Mem V (Kf (step s x).2) w'))
  (N:Mem V (Kf s0) w):Calls prog 194 #[v0,.func (.func g) fs.toArray cs.toArray] w (fun e w'=>e=.returned (.int .i64 (yI step s0 l 0).1)/\Mem V (Kf (yI step s0 l 0).2) w'):=by
 obtain ⟨A,c0,rfl,z,p⟩:=hl.fm
 refine zM func194 ntmps194 fun Q r a J=>?_
 refine go J N fun a J=>?_
 refine mR (fun mm a w=>∃(i:Nat) (s:σ),mm=l.length - i/\EnvR 19 [(0,.slice A l.length c0),(1,.func (.func g) (List.toArray fs) (List.toArray cs)),(7,.int .i64 ((l.length:Nat):Int)),(8,.int .i64 ((i:Nat):Int))] [] a/\Mem V (Kf s) w/\(yI step s0 l 0=yI step s (l.drop i) i)) (l.length - 0) ⟨0,s0,rfl,J.pk,N,rfl⟩ ?_
 clear N J
 rintro mm a w ⟨i,s,o,J,N,h⟩ C n
 refine go J N fun a J=>?_
 by_cases q:i < l.length
 refine go J N fun a J=>?_
 obtain ⟨B,rfl,m,f,j,u,t,k⟩:=hl.el p q
 obtain rfl:j=[.string m]:=k
 refine y0c y J N (fun d w N a J=>?_) (fun d w N a J=>?_) (c:=by exact v s _ _ _ (mgQ f) rfl N)
 refine zD r J N ?_
 have b:=h
 rw [zA f] at b
 simp only [yI,d,if_true] at b
 rw [b]
 exact ⟨rfl,N⟩
 refine go J N fun a J=>?_
 refine n _ _ _ (by subst o;omega) ⟨(i+1),((step s m).2),rfl,J.pk,N,?_⟩
 rw [h,zA f];simp [yI,d]
 refine zD r J N ?_
 have b:=h
 rw [zE q] at b
 simp only [yI] at b
 rw [b]
 exact ⟨rfl,N⟩
theorem z9o {V:Fz} {w:World} {σ:Type} {step:σ->Bs->Bool×σ} {Kf:σ->List Res} {g:Nat} {fs cs:List Value} {s0:σ} {v0:Value} {l:List Bs} (hl:SliceOf RStr V 1 v0 l)
  (f:∀args w,(callFunc g args).run prog w=.ok (.enter g args) w)
  (d:∀s x c w,x∈l->RStr V c x->Mem V (Kf s) w->Calls prog g (fs++[Value.string x]++cs).toArray w (fun e w'=>e=.returned (.bool (step s x).1)/\Mem V (Kf (step s x).2) w'))
  (N:Mem V (Kf s0) w):Calls prog 154 #[v0,.func (.func g) fs.toArray cs.toArray] w (fun e w'=>e=.returned (.bool (z2v step s0 l))/\Mem V (Kf (yI step s0 l 0).2) w'):=by
 obtain ⟨k,c0,rfl,i,j⟩:=hl.fm
 refine Calls.mono (R:=fun e w'=>e=.returned (.bool (decide (0<=(yI step s0 l 0).1)))/\Mem V (Kf (yI step s0 l 0).2) w') ?_ (fun e w' h=>by rw [kE] at h;exact h)
 refine zM func154 ntmps154 fun Q b a J=>?_
 refine zS call194 J N (fun w N a J=>?_) (c:=q1z (V:=V) (step:=step) (Kf:=Kf) (s0:=s0) (l:=l) hl f d N)
 refine Qq J N (fun a J=>?_) (o:=by exact fun _ _ _ J O=>z4d J rfl rfl)
 refine zD b J N ?_
 exact ⟨rfl,N⟩
theorem y0e {p:Bs->Bool} {g:Nat} {fs cs:List Value} {v0:Value} {l:List Bs} (hl:SliceOf RStr V 1 v0 l)
  (d:∀args w,(callFunc g args).run prog w=.ok (.enter g args) w)
  (b:∀x c w,x∈l->RStr V c x->Mem V K w->Calls prog g (fs++[Value.string x]++cs).toArray w (fun e w'=>e=.returned (.bool (p x))/\Mem V K w'))
  (N:Mem V K w):Calls prog 154 #[v0,.func (.func g) fs.toArray cs.toArray] w (fun e w'=>e=.returned (.bool (l.any p))/\Mem V K w') :=
 (z9o (σ:=Unit) (step:=fun s x=>(p x,s)) (Kf:=fun _=>K) (s0:=()) hl d (fun _ x c w f a N=>b x c w f a N) N).mono (fun e w' h=>by rw [nR] at h;exact h)
theorem j9z {m:Nat} {d0:List Value} {e:Ex} {b:Nat} (f:REx V d0 e) (p:m < 100000) (r:∀{V:Fz} {K:List Res} {w:World} {d:List Value} {e:Ex},REx V d e->Mem V K w->Calls prog 82 #[.agg d.toArray,.int .i64 ((m:Nat):Int)] w (fun ee w'=>ee=.returned (.bool (xG m e))/\Mem V K w')) (N:Mem V (.blk b (ob [.int .i64 ((m+1:Nat):Int)] 3)::K) w) :
  Calls prog 136 #[.agg d0.toArray,.pointer (some ⟨b,0,none⟩)] w (fun ee w'=>ee=.returned (.bool (xG m e))/\Mem V (.blk b (ob [.int .i64 ((m+1:Nat):Int)] 3)::K) w'):=by
 obtain ⟨u,c4,v,k,rfl,g,s,t,n,q,h,i⟩:=REx.fm f
 refine zM func136 ntmps136 fun Q l a J=>?_
 refine Bx J N fun j w N a J=>?_
 refine Qq J N (fun a J=>?_) (o:=by exact fun _ _ _ J O=>vT ((m:Nat):Int) J rfl rfl (by rw [yC (by omega)];omega))
 refine zS call82 J N (fun w N a J=>?_) (c:=r f N)
 refine go J N fun a J=>?_
 replace N:=N.dl [0]
 refine zD l J N ?_
 exact zL N (by rfl)
theorem x0a {m:Nat} {d0:List Value} {e:Arm} {b:Nat} (f:RArm V d0 e) (y:m < 100000) (A:∀{V:Fz} {K:List Res} {w:World} {d:List Value} {e:Ex},REx V d e->Mem V K w->Calls prog 82 #[.agg d.toArray,.int .i64 ((m:Nat):Int)] w (fun ee w'=>ee=.returned (.bool (xG m e))/\Mem V K w')) (N:Mem V (.blk b (ob [.int .i64 ((m+1:Nat):Int)] 3)::K) w) :
  Calls prog 137 #[.agg d0.toArray,.pointer (some ⟨b,0,none⟩)] w (fun ee w'=>ee=.returned (.bool (xG m e.body))/\Mem V (.blk b (ob [.int .i64 ((m+1:Nat):Int)] 3)::K) w'):=by
 obtain ⟨s1,D,rfl,t,g⟩:=RArm.iff.1 f
 obtain ⟨E,c4,rfl,v,z⟩:=t.fm
 obtain ⟨B,p,C,q,rfl,h,r,s,i,k,j,l⟩:=REx.fm g
 refine zM func137 ntmps137 fun Q u a J=>?_
 refine Bx J N fun n w N a J=>?_
 refine Qq J N (fun a J=>?_) (o:=by exact fun _ _ _ J O=>vT ((m:Nat):Int) J rfl rfl (by rw [yC (by omega)];omega))
 refine zS call82 J N (fun w N a J=>?_) (c:=A g N)
 refine go J N fun a J=>?_
 replace N:=N.dl [0]
 refine zD u J N ?_
 exact zL N (by rfl)
theorem j5r {d0:List Value} {e:Ex} (b:REx V d0 e) (N:Mem V K w) :
  Calls prog 82 #[.agg d0.toArray,.int .i64 ((0:Nat):Int)] w (fun ee w'=>ee=.returned (.bool (xG 0 e))/\Mem V K w'):=by
 obtain ⟨p,c4,q,i,rfl,c,m,n,k,l,d,f⟩:=REx.fm b
 refine zM func82 ntmps82 fun Q j a J=>?_
 refine Bx J N fun g w N a J=>?_
 refine Bx J N fun h w N a J=>?_
 refine Qq J N (fun a J=>?_) (o:=by exact fun _ _ _ J O=>xK true J rfl rfl rfl)
 refine go J N fun a J=>?_
 replace N:=N.dl [1,0]
 refine zD j J N ?_
 exact zL N (by rw [y1w])
theorem j5q {d0:List Value} {e:Ex} {m:Nat} (n:REx V d0 e) (i:m < 100000) (s:∀{V:Fz} {K:List Res} {w:World} {d:List Value} {e:Ex},REx V d e->Mem V K w->Calls prog 82 #[.agg d.toArray,.int .i64 ((m:Nat):Int)] w (fun ee w'=>ee=.returned (.bool (xG m e))/\Mem V K w')) (N:Mem V K w) :
  Calls prog 82 #[.agg d0.toArray,.int .i64 ((m+1:Nat):Int)] w (fun ee w'=>ee=.returned (.bool (xG (m+1) e))/\Mem V K w'):=by
 obtain ⟨t,c4,u,g,rfl,o,v,y,z,A,q,r⟩:=REx.fm n
 refine zM func82 ntmps82 fun Q k a J=>?_
 refine Bx J N fun f w N a J=>?_
 refine Bx J N fun b w N a J=>?_
 refine go J N fun a J=>?_
 by_cases j:m+1=0
 refine go J N fun a J=>?_
 replace N:=N.dl [1,0]
 refine zD k J N ?_
 exact zL N (by exact absurd j (by omega))
 refine zW call115 J N (fun h w N a J=>?_) (fun h w N a J=>?_) (c:=y0f (V:=V) (K:=.blk b (ob [.int .i64 ((m+1:Nat):Int)] 3)::.blk f (ob [.int .i64 (e.kind),.int .i64 (e.num),.string e.name,.slice t e.args.length c4,.slice u e.arms.length g] 66)::K) (p:=xG m) (fs:=[]) (cs:=[.pointer (some ⟨b,0,none⟩)]) v call136 (fun x c w B l N=>j9z l i s N) N)
 refine go J N fun a J=>?_
 replace N:=N.dl [1,0]
 refine zD k J N ?_
 exact zL N (by rw [z3p];simp [*])
 refine zS call116 J N (fun w N a J=>?_) (c:=z8l (V:=V) (K:=.blk b (ob [.int .i64 ((m+1:Nat):Int)] 3)::.blk f (ob [.int .i64 (e.kind),.int .i64 (e.num),.string e.name,.slice t e.args.length c4,.slice u e.arms.length g] 66)::K) (p:=fun a=>xG m a.body) (fs:=[]) (cs:=[.pointer (some ⟨b,0,none⟩)]) y call137 (fun x c w B l N=>x0a l i s N) N)
 refine go J N fun a J=>?_
 replace N:=N.dl [1,0]
 refine zD k J N ?_
 exact zL N (by rw [z3p];simp [*])
end Go.Sw

namespace Go.Sw
open Go.Proofs.Tryz
open Go.Proofs
set_option maxRecDepth 20000
set_option maxHeartbeats 4000000
theorem q2f {V:Fz} {K:List Res} {w:World} {left:Int} {d0:List Value} {e:Ex} {b:Nat} (P:REx V d0 e) (h0:0<=left) (h1:left<=1000000) (ih:∀x:Ex,x.sz < e.sz->∀{V:Fz} {K:List Res} {w:World} {d:List Value} {b:Nat} {left:Int},0<=left->left<=1000000->REx V d x->Mem V (.blk b (ob [.int .i64 left] 3)::K) w->Calls prog 83 #[.agg d.toArray,.pointer (some ⟨b,0,none⟩)] w (fun ee w'=>ee=.returned (.bool (qS x left).1)/\Mem V (.blk b (ob [.int .i64 (qS x left).2] 3)::K) w')) (N:Mem V (.blk b (ob [.int .i64 (left)] 3)::K) w) :
  Calls prog 83 #[.agg d0.toArray,.pointer (some ⟨b,0,none⟩)] w (fun ee w'=>ee=.returned (.bool ((qS e left).1))/\Mem V (.blk b (ob [.int .i64 ((qS e left).2)] 3)::K) w'):=by
 obtain ⟨p3,c4,p9,x0,rfl,X,h2,h8,H0,M,c0,G⟩:=REx.fm P
 refine zM func83 ntmps83 fun Q F a J=>?_
 refine Bx J N fun s0 w N a J=>?_
 refine Qq J N (fun a J=>?_) (o:=by exact fun _ _ _ J O=>vT (left - 1) J rfl rfl (by rw [yC (by omega)]))
 refine Sto 1 J N fun w N a J=>?_
 refine go J N fun a J=>?_
 by_cases I:left - 1 < 0
 refine go J N fun a J=>?_
 replace N:=N.dl [0]
 refine zD F J N ?_
 have g:qS e left=(true,left - 1):=by rw [z5k,if_pos I]
 show _/\_;rw [g];exact ⟨rfl,N⟩
 refine go J N fun a J=>?_
 refine zV (J.ks [1,2,19,20]) N (fun R mm a w=>∃(i:Nat) (q:Int),mm=e.args.length - i/\R V [(21,.int .i64 ((i:Nat):Int))] [(1,.blk b (ob [.int .i64 (q)] 3))] a w/\(0<=q/\q<=1000000/\qS e left=z1h e.arms (meass (e.args.drop i) q))) (e.args.length - 0) ⟨0,left - 1,rfl,⟨J.pk,N⟩,by refine ⟨by omega,by omega,?_⟩;rw [z5k,if_neg (by omega)];rfl⟩ ?_
 clear N J
 rintro mm a w ⟨i,q,s,⟨J,N⟩,B⟩ q0 D
 replace N:=N.nf
 obtain ⟨t,u,f⟩:=B
 refine go J N fun a J=>?_
 by_cases y:i < e.args.length
 refine go J N fun a J=>?_
 obtain ⟨N0,rfl,v,l,S,a0,U,n⟩:=h2.el M y
 obtain ⟨I0,c40,J0,c46,rfl,Y,C0,D0,e0,k0,f0,l0⟩:=REx.fm n
 refine Alc J N fun t0 w N a J=>?_
 refine Sto 0 J N fun w N a J=>?_
 replace N:=N.pl 2
 refine zW call83 J N (fun j w N a J=>?_) (fun j w N a J=>?_) (c:=ih _ (by first | exact Ex.lt_args (mgQ l) | exact Ex.lt_arms (mgQ l)) (by omega) (by omega) n N)
 refine go J N fun a J=>?_
 replace N:=N.dl [2,1]
 refine zD F J N ?_
 have g:qS e left=(true,(qS v q).2):=by rw [f,zA l,uC,j];rfl
 show _/\_;rw [g];exact ⟨rfl,N⟩
 refine go J N fun a J=>?_
 replace N:=N.ar [1] [1]
 refine D _ _ _ (by subst s;omega) ⟨(i+1),((qS v q).2),rfl,⟨J.pk,N⟩,?_⟩
 have r:=kH v q j
 refine ⟨r.1,by omega,?_⟩
 rw [f,zA l,uC,j];rfl
 refine go J N fun a J=>?_
 refine zV (J.ks [1,30,31]) N (fun R mm a w=>∃(i:Nat) (q:Int),mm=e.arms.length - i/\R V [(32,.int .i64 ((i:Nat):Int))] [(1,.blk b (ob [.int .i64 (q)] 3))] a w/\(0<=q/\q<=1000000/\qS e left=measa (e.arms.drop i) q)) (e.arms.length - 0) ⟨0,q,rfl,⟨J.pk,N⟩,by refine ⟨t,u,?_⟩;rw [f,zE y];rfl⟩ ?_
 clear N J
 rintro mm a w ⟨i,q,s,⟨J,N⟩,C⟩ r0 E
 replace N:=N.nf
 clear t u f
 obtain ⟨t,u,f⟩:=C
 refine go J N fun a J=>?_
 by_cases z:i < e.arms.length
 refine go J N fun a J=>?_
 obtain ⟨O0,rfl,m,h,T,b0,W,H⟩:=h8.el G z
 obtain ⟨P0,u0,rfl,L,A⟩:=RArm.iff.1 H
 obtain ⟨K0,y0,rfl,g0,m0⟩:=L.fm
 obtain ⟨L0,z0,M0,A0,rfl,Z,F0,G0,i0,n0,j0,o0⟩:=REx.fm A
 refine Alc J N fun w0 w N a J=>?_
 refine Sto 0 J N fun w N a J=>?_
 refine go J N fun a J=>?_
 by_cases p:16 < m.vars.length
 refine go J N fun a J=>?_
 replace N:=N.dl [1,0]
 refine zD F J N ?_
 have g:qS e left=(true,q):=by rw [f,zA h,oK,if_pos p]
 show _/\_;rw [g];exact ⟨rfl,N⟩
 replace N:=N.pl 2
 refine zW call83 J N (fun k w N a J=>?_) (fun k w N a J=>?_) (c:=ih _ (by first | exact Ex.lt_args (mgQ h) | exact Ex.lt_arms (mgQ h)) (by omega) (by omega) A N)
 refine go J N fun a J=>?_
 replace N:=N.dl [2,1]
 refine zD F J N ?_
 have g:qS e left=(true,(qS m.body q).2):=by rw [f,zA h,oK,if_neg p,k];rfl
 show _/\_;rw [g];exact ⟨rfl,N⟩
 refine go J N fun a J=>?_
 replace N:=N.ar [1] [1]
 refine E _ _ _ (by subst s;omega) ⟨(i+1),((qS m.body q).2),rfl,⟨J.pk,N⟩,?_⟩
 have r:=kH m.body q k
 refine ⟨r.1,by omega,?_⟩
 rw [f,zA h,oK,if_neg p,k];rfl
 refine go J N fun a J=>?_
 replace N:=N.dl [0]
 refine zD F J N ?_
 have g:qS e left=(false,q):=by rw [f,zE z];rfl
 show _/\_;rw [g];exact ⟨rfl,N⟩
theorem j0f {V:Fz} {K:List Res} {w:World} {d:List Value} {e:Ex} {b:Nat} {left:Int} (a:0<=left) (h1:left<=1000000) (re:REx V d e) (N:Mem V (.blk b (ob [.int .i64 left] 3)::K) w) :
  Calls prog 83 #[.agg d.toArray,.pointer (some ⟨b,0,none⟩)] w (fun ee w'=>ee=.returned (.bool (qS e left).1)/\Mem V (.blk b (ob [.int .i64 (qS e left).2] 3)::K) w'):=by
 suffices H:∀n (e:Ex),e.sz < n->∀{V:Fz} {K:List Res} {w:World} {d:List Value} {b:Nat} {left:Int},0<=left->left<=1000000->REx V d e->Mem V (.blk b (ob [.int .i64 left] 3)::K) w->Calls prog 83 #[.agg d.toArray,.pointer (some ⟨b,0,none⟩)] w (fun ee w'=>ee=.returned (.bool (qS e left).1)/\Mem V (.blk b (ob [.int .i64 (qS e left).2] 3)::K) w') from H _ e (Nat.lt_succ_self _) a h1 re N
 intro n
 induction n with
 | zero=>intro e h;omega
 | succ n f=>intro e h V K w d b left a h1 re N;exact q2f re a h1 (fun x g _ _ _ _ _ _ c g1 r m=>f x (by omega) c g1 r m) N
end Go.Sw

namespace Go.Sw
open Go.Proofs.Tryz
open Go.Proofs
set_option maxRecDepth 20000
set_option maxHeartbeats 4000000
variable {V:Fz} {K:List Res} {w:World}
theorem j7q {e:Ex} {d0:List Value} {ar:Arm} (b:RArm V d0 ar) (O:ar.body.sz < e.sz) (u:∀x:Ex,x.sz < e.sz->∀{V:Fz} {K:List Res} {w:World} {d:List Value},REx V d x->Mem V K w->Calls prog 63 #[.agg d.toArray] w (fun ee w'=>ee=.returned (.bool (xO x))/\Mem V K w')) (N:Mem V K w) :
  Calls prog 117 #[.agg d0.toArray] w (fun ee w'=>ee=.returned (.bool (xO ar.body))/\Mem V K w'):=by
 obtain ⟨s1,z,rfl,p,q⟩:=RArm.iff.1 b
 obtain ⟨A,c4,rfl,s,t⟩:=p.fm
 obtain ⟨v,l,y,m,rfl,f,n,o,g,i,h,j⟩:=REx.fm q
 refine zM func117 ntmps117 fun Q r a J=>?_
 refine Bx J N fun k w N a J=>?_
 refine zS call63 J N (fun w N a J=>?_) (c:=u _ O (by assumption) N)
 refine go J N fun a J=>?_
 replace N:=N.dl [0]
 refine zD r J N ?_
 exact zL N (by rfl)
theorem j1d {d0:List Value} {e:Ex} (k:REx V d0 e) (o:∀x:Ex,x.sz < e.sz->∀{V:Fz} {K:List Res} {w:World} {d:List Value},REx V d x->Mem V K w->Calls prog 63 #[.agg d.toArray] w (fun ee w'=>ee=.returned (.bool (xO x))/\Mem V K w')) (N:Mem V K w) :
  Calls prog 63 #[.agg d0.toArray] w (fun ee w'=>ee=.returned (.bool (xO e))/\Mem V K w'):=by
 obtain ⟨q,c4,r,f,rfl,l,t,u,v,y,m,n⟩:=REx.fm k
 refine zM func63 ntmps63 fun Q h a J=>?_
 refine Bx J N fun b w N a J=>?_
 refine go J N fun a J=>?_
 by_cases s:e.kind=3
 refine go J N fun a J=>?_
 replace N:=N.dl [0]
 refine zD h J N ?_
 exact zL N (by rw [cM];simp [*])
 refine zW call115 J N (fun g w N a J=>?_) (fun g w N a J=>?_) (c:=y0f (V:=V) (K:=.blk b (ob [.int .i64 (e.kind),.int .i64 (e.num),.string e.name,.slice q e.args.length c4,.slice r e.arms.length f] 66)::K) (p:=xO) (fs:=[]) (cs:=[]) t call63 (fun x c w j i N=>o x (Ex.lt_args j) i N) N)
 refine go J N fun a J=>?_
 replace N:=N.dl [0]
 refine zD h J N ?_
 exact zL N (by rw [cM];simp [*])
 refine zS call116 J N (fun w N a J=>?_) (c:=z8l (V:=V) (K:=.blk b (ob [.int .i64 (e.kind),.int .i64 (e.num),.string e.name,.slice q e.args.length c4,.slice r e.arms.length f] 66)::K) (p:=fun a=>xO a.body) (fs:=[]) (cs:=[]) u call117 (fun x c w j i N=>j7q i (Ex.lt_arms j) o N) N)
 refine go J N fun a J=>?_
 replace N:=N.dl [0]
 refine zD h J N ?_
 exact zL N (by rw [cM];simp [*])
theorem q6s {d:List Value} {e:Ex} (re:REx V d e) (N:Mem V K w) :
  Calls prog 63 #[.agg d.toArray] w (fun ee w'=>ee=.returned (.bool (xO e))/\Mem V K w'):=by
 suffices H:∀n (e:Ex),e.sz < n->∀{V:Fz} {K:List Res} {w:World} {d:List Value},REx V d e->Mem V K w->Calls prog 63 #[.agg d.toArray] w (fun ee w'=>ee=.returned (.bool (xO e))/\Mem V K w') from H _ e (Nat.lt_succ_self _) re N
 intro n
 induction n with
 | zero=>intro e h;omega
 | succ n a=>intro e h V K w d re N;exact j1d re (fun x b _ _ _ _ r m=>a x (by omega) r m) N
theorem deep_ok {m:Nat} (a:m < 100000):∀{V:Fz} {K:List Res} {w:World} {d:List Value} {e:Ex},REx V d e->Mem V K w->Calls prog 82 #[.agg d.toArray,.int .i64 ((m:Nat):Int)] w (fun ee w'=>ee=.returned (.bool (xG m e))/\Mem V K w'):=by
 induction m with
 | zero=>intro V K w d e re N;exact j5r re N
 | succ m b=>intro V K w d e re N;exact j5q re (by omega) (fun r h=>b (by omega) r h) N
theorem x2s {d0:List Value} {f:Fun} (b:RFun V d0 f) (N:Mem V K w) :
  Calls prog 97 #[.agg d0.toArray] w (fun ee w'=>ee=.returned (.bool (xG 250 f.body))/\Mem V K w'):=by
 obtain ⟨s1,y,rfl,q,d⟩:=id b
 obtain ⟨z,c4,rfl,s,t⟩:=q.fm
 obtain ⟨u,l,v,n,rfl,e,o,p,g,i,h,j⟩:=REx.fm d
 refine zM func97 ntmps97 fun Q r a J=>?_
 refine Bx J N fun k w N a J=>?_
 refine zS call82 J N (fun w N a J=>?_) (c:=deep_ok (m:=250) (by omega) d N)
 refine go J N fun a J=>?_
 replace N:=N.dl [0]
 refine zD r J N ?_
 exact zL N (by rfl)
theorem x2q {d0:List Value} {x:Con} (b:RCon V d0 x) (N:Mem V K w) :
  Calls prog 152 #[.agg d0.toArray] w (fun ee w'=>ee=.returned (.bool (decide (16 < x.fields.length)))/\Mem V K w'):=by
 obtain ⟨s1,rfl,c⟩:=id b
 obtain ⟨h,c4,rfl,e,f⟩:=c.fm
 refine zM func152 ntmps152 fun Q d a J=>?_
 refine Bx J N fun g w N a J=>?_
 refine Qq J N (fun a J=>?_) (o:=by exact fun _ _ _ J O=>j2l (i:=x.fields.length) (j:=16) J rfl rfl)
 refine go J N fun a J=>?_
 replace N:=N.dl [0]
 refine zD d J N ?_
 exact zL N (by exact decide_eq_decide.2 (by omega))
end Go.Sw

namespace Go.Sw
open Go.Proofs.Tryz
open Go.Proofs
set_option maxRecDepth 20000
set_option maxHeartbeats 4000000
theorem x2r {V:Fz} {K:List Res} {w:World} {d0:List Value} {c:Core} {vx:Value} (c0:RCoreX V d0 c vx) (N:Mem V K w) :
  Calls prog 98 #[.agg d0.toArray] w (fun ee w'=>ee=.returned (.bool (xS c))/\Mem V K w'):=by
 obtain ⟨s1,s2,s3,q4,L,rfl,rfl,h6,h7,h8⟩:=id c0
 obtain ⟨p9,F,rfl,o0,y⟩:=h6.fm
 obtain ⟨Y,G,rfl,p0,w0⟩:=h7.fm
 obtain ⟨Z,H,rfl,q0,z⟩:=h8.fm
 refine zM func98 ntmps98 fun Q g a J=>?_
 refine Bx J N fun C w N a J=>?_
 refine go J N fun a J=>?_
 by_cases M:60 < c.datas.length
 refine go J N fun a J=>?_
 replace N:=N.dl [0]
 refine zD g J N ?_
 exact zL N (by simp [xS,M])
 refine go J N fun a J=>?_
 by_cases P:6 < c.inputs.length
 refine go J N fun a J=>?_
 replace N:=N.dl [0]
 refine zD g J N ?_
 exact zL N (by simp [xS,P])
 refine go J N fun a J=>?_
 by_cases S:300 < c.funs.length
 refine go J N fun a J=>?_
 replace N:=N.dl [0]
 refine zD g J N ?_
 exact zL N (by simp [xS,S])
 refine go J N fun a J=>?_
 by_cases T:6 < c.outputs.length
 refine go J N fun a J=>?_
 replace N:=N.dl [0]
 refine zD g J N ?_
 exact zL N (by simp [xS,T])
 refine go J N fun a J=>?_
 refine zV (J.ks [1,31,32]) N (fun R mm a w=>∃(i:Nat),mm=c.datas.length - i/\R V [(33,.int .i64 ((i:Nat):Int))] [] a w/\(xS c=((c.datas.drop i).any gA || aI c.funs 6000))) (c.datas.length - 0) ⟨0,rfl,⟨J.pk,N⟩,by simp [xS, *]⟩ ?_
 clear N J
 rintro mm a w ⟨i,j,⟨J,N⟩,b⟩ B0 u
 refine go J N fun a J=>?_
 by_cases m:i < c.datas.length
 refine go J N fun a J=>?_
 obtain ⟨b0,rfl,k,e,f0,m0,k0,A⟩:=h6.el y m
 obtain ⟨T0,rfl,n⟩:=id A
 obtain ⟨a0,I,rfl,r0,x0⟩:=n.fm
 refine Alc J N fun D w N a J=>?_
 refine Sto 0 J N fun w N a J=>?_
 refine go J N fun a J=>?_
 by_cases H0:16 < k.cons.length
 refine go J N fun a J=>?_
 replace N:=N.dl [1,0]
 refine zD g J N ?_
 exact zL N (by rw [b,zA e];simp [gA, *])
 refine zW call151 J N (fun s w N a J=>?_) (fun s w N a J=>?_) (c:=q3p (V:=V) (K:=.blk D (ob [.string k.name,.slice a0 k.cons.length I] 133)::.blk C (ob [.slice (some b0) c.datas.length F,.slice Y c.inputs.length G,.slice Z c.funs.length H,.slice q4 c.outputs.length L] 27)::K) (p:=fun x=>decide (16 < x.fields.length)) (fs:=[]) (cs:=[]) n call152 (fun x c w hx hc N=>x2q hc N) N)
 refine go J N fun a J=>?_
 replace N:=N.dl [1,0]
 refine zD g J N ?_
 exact zL N (by rw [b,zA e];simp [gA, *])
 refine go J N fun a J=>?_
 replace N:=N.dl [0]
 refine u _ _ _ (by subst j;omega) ⟨(i+1),rfl,⟨J.pk,N⟩,?_⟩
 rw [b,zA e];simp [gA, *]
 refine Alc J N fun E w N a J=>?_
 refine Sto 0 J N fun w N a J=>?_
 refine go J N fun a J=>?_
 refine zV (J.ks [5,48,49]) N (fun R mm a w=>∃(i:Nat) (q:Int),mm=c.funs.length - i/\R V [(50,.int .i64 ((i:Nat):Int))] [(0,.blk E (ob [.int .i64 (q)] 3))] a w/\(0<=q/\q<=1000000/\xS c=aI (c.funs.drop i) q)) (c.funs.length - 0) ⟨0,6000,rfl,⟨J.pk,N⟩,by refine ⟨by omega,by omega,?_⟩;rw [b,zE m];rfl⟩ ?_
 clear N J
 rintro mm a w ⟨i,q,j,⟨J,N⟩,t⟩ C0 v
 replace N:=N.nf
 obtain ⟨M0,N0,h⟩:=t
 refine go J N fun a J=>?_
 by_cases o:i < c.funs.length
 refine go J N fun a J=>?_
 obtain ⟨S0,rfl,l,f,g0,n0,l0,B⟩:=h8.el z o
 obtain ⟨U0,D0,rfl,U,r⟩:=id B
 obtain ⟨O0,E0,rfl,s0,y0⟩:=U.fm
 obtain ⟨P0,F0,Q0,G0,rfl,W,J0,K0,t0,z0,u0,A0⟩:=REx.fm r
 refine Alc J N fun e0 w N a J=>?_
 refine Sto 0 J N fun w N a J=>?_
 refine go J N fun a J=>?_
 by_cases h0:16 < l.params.length
 refine go J N fun a J=>?_
 replace N:=N.dl [2,1,0]
 refine zD g J N ?_
 exact zL N (by rw [h,zA f];simp [aI, *])
 replace N:=N.pl 1
 refine zW call83 J N (fun d w N a J=>?_) (fun d w N a J=>?_) (c:=j0f (by omega) (by omega) r N)
 refine go J N fun a J=>?_
 replace N:=N.dl [2,1,0]
 refine zD g J N ?_
 exact zL N (by rw [h,zA f];simp [aI, *])
 refine go J N fun a J=>?_
 replace N:=N.dl [1]
 refine v _ _ _ (by subst j;omega) ⟨(i+1),((qS l.body q).2),rfl,⟨J.pk,N⟩,?_⟩
 have X:=kH l.body q d
 refine ⟨X.1,by omega,?_⟩
 rw [h,zA f];simp [aI, *]
 refine go J N fun a J=>?_
 replace N:=N.dl [1,0]
 refine zD g J N ?_
 exact zL N (by rw [h,zE o];rfl)
theorem y6z {V:Fz} {K:List Res} {w:World} {name:Bs} {s:Bs} {b:Nat}  (N:Mem V (.blk b (ob [.string name] 9)::K) w) :
  Calls prog 166 #[.string s,.pointer (some ⟨b,0,none⟩)] w (fun ee w'=>ee=.returned (.bool (inF name s))/\Mem V (.blk b (ob [.string name] 9)::K) w'):=by
 refine zM func166 ntmps166 fun Q c a J=>?_
 refine go J N fun a J=>?_
 by_cases d:s=(⟨#[73,110,116]⟩:Bs)
 refine zD c J N ?_
 exact zL N (by simp [inF,yA, *])
 refine Qq J N (fun a J=>?_) (o:=by exact fun _ _ _ J O=>j4w J rfl rfl)
 refine zD c J N ?_
 exact zL N (by simp [inF,yA, *])
theorem z5c {V:Fz} {K:List Res} {w:World} {v0:Value} {ds:List Data} {name:Bs} (m:SliceOf RData V 2 v0 ds) (N:Mem V K w) :
  Calls prog 114 #[v0,.string name] w (fun ee w'=>ee=.returned (.bool (jC ds name))/\Mem V K w'):=by
 obtain ⟨p0,c0,rfl,g0,G⟩:=m.fm
 refine zM func114 ntmps114 fun Q F a J=>?_
 refine Bx J N fun L w N a J=>?_
 refine go J N fun a J=>?_
 by_cases h5:name=(⟨#[73,110,116]⟩:Bs)
 refine go J N fun a J=>?_
 replace N:=N.dl [0]
 refine zD F J N ?_
 exact zL N (by simp [jC,yA,h5])
 refine go J N fun a J=>?_
 refine zV (J.ks [3,13,14]) N (fun R mm a w=>∃(i:Nat) (nn:Int) (o:Bool),mm=ds.length - i/\R V [(5,.int .i64 (nn)),(6,.bool o),(15,.int .i64 ((i:Nat):Int))] [] a w/\(pP name ds 0 true=pP name (ds.drop i) nn o)) (ds.length - 0) ⟨0,0,true,rfl,⟨J.pk,N⟩,rfl⟩ ?_
 clear N J
 rintro mm a w ⟨i,nn,o,e,⟨J,N⟩,d⟩ a0 j
 refine go J N fun a J=>?_
 by_cases n:i < ds.length
 refine go J N fun a J=>?_
 obtain ⟨i0,rfl,b,l,M,U,S,v⟩:=m.el G n
 obtain ⟨j0,rfl,r⟩:=id v
 obtain ⟨h0,C,rfl,X,u⟩:=r.fm
 refine Alc J N fun A w N a J=>?_
 refine Sto 0 J N fun w N a J=>?_
 refine go J N fun a J=>?_
 by_cases d0:b.name=name
 refine Qq J N (fun a J=>?_) (o:=by exact fun _ _ _ J O=>z1w _ J rfl rfl rfl)
 refine go J N fun a J=>?_
 refine zV (J.ks [3,5,13,14,15,26,27]) N (fun R mm a w=>∃(k:Nat) (q:Bool),mm=b.cons.length - k/\R V [(6,.bool q),(28,.int .i64 ((k:Nat):Int))] [] a w/\(dP name b.cons o=dP name (b.cons.drop k) q)) (b.cons.length - 0) ⟨0,o,rfl,⟨J.pk,N⟩,rfl⟩ ?_
 clear N J
 rintro mm a w ⟨k,q,e,⟨J,N⟩,f⟩ b0 g
 refine go J N fun a J=>?_
 by_cases E:k < b.cons.length
 refine go J N fun a J=>?_
 obtain ⟨I,rfl,z,h,P,W,T,y⟩:=r.el u E
 obtain ⟨k0,rfl,s⟩:=id y
 obtain ⟨H,D,rfl,Y,Z⟩:=s.fm
 refine Alc J N fun B w N a J=>?_
 refine Sto 0 J N fun w N a J=>?_
 refine go J N fun a J=>?_
 cases q
 refine go J N fun a J=>?_
 replace N:=N.dl [0]
 refine g _ _ _ (by subst e;omega) ⟨(k+1),(false),rfl,⟨J.pk,N⟩,?_⟩
 rw [f,zA h];simp [dP, *]
 replace N:=N.pl 2
 refine zW call154 J N (fun t w N a J=>?_) (fun t w N a J=>?_) (c:=y0e (V:=V) (K:=.blk L (ob [.string name] 9)::.blk B (ob [.string z.name,.slice H z.fields.length D] 135)::.blk A (ob [.string b.name,.slice (some I) b.cons.length C] 133)::K) (p:=inF name) (fs:=[]) (cs:=[.pointer (some ⟨L,0,none⟩)]) s call166 (fun x c w hx hc N=>y6z N) N)
 refine go J N fun a J=>?_
 replace N:=N.ar [1] [1]
 refine g _ _ _ (by subst e;omega) ⟨(k+1),(false),rfl,⟨J.pk,N⟩,?_⟩
 rw [f,zA h];simp [dP, *]
 refine go J N fun a J=>?_
 replace N:=N.ar [1] [1]
 refine g _ _ _ (by subst e;omega) ⟨(k+1),(true),rfl,⟨J.pk,N⟩,?_⟩
 rw [f,zA h];simp [dP, *]
 refine go J N fun a J=>?_
 replace N:=N.dl [0]
 refine j _ _ _ (by subst e;omega) ⟨(i+1),(IntKind.i64.wrap (nn+1)),(q),rfl,⟨J.pk,N⟩,?_⟩
 rw [d,zA l];simp [zE,pP,dP, *]
 refine go J N fun a J=>?_
 replace N:=N.dl [0]
 refine j _ _ _ (by subst e;omega) ⟨(i+1),(nn),(o),rfl,⟨J.pk,N⟩,?_⟩
 rw [d,zA l];simp [zE,pP,dP, *]
 refine go J N fun a J=>?_
 by_cases f0:nn=1
 refine go J N fun a J=>?_
 replace N:=N.dl [0]
 refine zD F J N ?_
 exact zL N (by rw [zE n] at d;simp [jC,yA,pP, *])
 refine go J N fun a J=>?_
 replace N:=N.dl [0]
 refine zD F J N ?_
 exact zL N (by rw [zE n] at d;simp [jC,yA,pP, *])
theorem q1d {V:Fz} {K:List Res} {w:World} {l:List Bs} {d0:List Value} {e:Ex} {v:Value} (y0:REx V d0 e) (hb:l.length+(zP e).length<=8796093000000) (ih:∀x:Ex,x.sz < e.sz->∀{V:Fz} {K:List Res} {w:World} {d:List Value} {v:Value} {l:List Bs},l.length+(zP x).length<=8796093000000->REx V d x->Mem V (.gs v 9 1 (strs l)::K) w->Calls prog 85 #[.agg d.toArray,v] w (fun ee w'=>∃v,ee=.returned v/\Mem V (.gs v 9 1 (strs (l++zP x))::K) w')) (N:Mem V (.gs v 9 1 (strs l)::K) w) :
  Calls prog 85 #[.agg d0.toArray,v] w (fun ee w'=>∃v,ee=.returned v/\Mem V (.gs v 9 1 (strs (l++zP e))::K) w'):=by
 obtain ⟨I,c4,L,p,rfl,V0,h2,h8,H1,X,a1,C⟩:=REx.fm y0
 refine zM func85 ntmps85 fun Q hQ a J=>?_
 refine Bx J N fun o w N a J=>?_
 refine go J N fun a J=>?_
 by_cases C1:e.kind=6
 refine qG J N fun b0 w N a J=>?_
 refine qN 2 wM J N (fun v20 w N a J=>?_) (hb:=by simp [yF];omega)
 first | rw [jJ] at N | rw [<- yQ] at N
 refine go J N fun a J=>?_
 refine mR (fun mm a w=>∃(i:Nat) (u:Value) (m:List Bs),mm=e.args.length - i/\EnvR 44 [(1,u),(2,.pointer (some ⟨o,0,none⟩)),(18,.slice I e.args.length c4),(19,.int .i64 ((e.args.length:Nat):Int)),(20,.int .i64 ((i:Nat):Int))] [] a/\Mem V (.gs (b0) 9 1 [.string e.name]::.blk o (ob [.int .i64 (e.kind),.int .i64 (e.num),.string e.name,.slice I e.args.length c4,.slice L e.arms.length p] 66)::.gs (u) 9 1 (strs m)::K) w/\(l++zP e=m++bindPs (e.args.drop i)++bindPa e.arms)) (e.args.length - 0) ⟨0,v20,(l++[e.name]),rfl,J.pk,N,by rw [kY];simp [*]⟩ ?_
 clear N J
 rintro mm a w ⟨i,u,m,h,J,N,q⟩ v1 T
 refine go J N fun a J=>?_
 by_cases M:i < e.args.length
 refine go J N fun a J=>?_
 obtain ⟨N1,rfl,A0,n,K0,Y0,T0,D⟩:=h2.el X M
 obtain ⟨I1,c40,J1,c46,rfl,W0,D1,E1,b1,g1,c1,i1⟩:=REx.fm D
 refine Alc J N fun y1 w N a J=>?_
 refine Sto 0 J N fun w N a J=>?_
 refine go J N fun a J=>?_
 replace N:=N.pl 3
 refine st J rfl rfl rfl (wC J rfl call85 (ih _ (by first | exact Ex.lt_args (mgQ n) | exact Ex.lt_arms (mgQ n)) (l:=m) (by have hq:=congrArg List.length q;rw [zA n] at hq;simp only [bindPs,qA,laQ] at hq hb ⊢;omega) D N) fun v51 w N a J=>?_)
 replace N:=N.nf
 refine go J N fun a J=>?_
 replace N:=N.ar [1] [2,2]
 refine T _ _ _ (by subst h;omega) ⟨(i+1),(v51),((m++zP A0)),rfl,J.pk,N,?_⟩
 rw [q,zA n];simp [bindPs]
 refine go J N fun a J=>?_
 refine mR (fun mm a w=>∃(j:Nat) (G:Value) (m2:List Bs),mm=e.arms.length - j/\EnvR 44 [(1,G),(29,.slice L e.arms.length p),(30,.int .i64 ((e.arms.length:Nat):Int)),(31,.int .i64 ((j:Nat):Int))] [] a/\Mem V (.gs (b0) 9 1 [.string e.name]::.blk o (ob [.int .i64 (e.kind),.int .i64 (e.num),.string e.name,.slice I e.args.length c4,.slice L e.arms.length p] 66)::.gs (G) 9 1 (strs m2)::K) w/\(l++zP e=m2++bindPa (e.arms.drop j))) (e.arms.length - 0) ⟨0,u,m,rfl,J.pk,N,by rw [q,zE M];simp [bindPs]⟩ ?_
 clear N J
 rintro mm a w ⟨j,G,m2,h,J,N,k⟩ w1 U
 refine go J N fun a J=>?_
 by_cases P:j < e.arms.length
 refine go J N fun a J=>?_
 obtain ⟨O1,rfl,H,g,L0,Z0,U0,Y⟩:=h8.el C P
 obtain ⟨P1,z1,rfl,R,S⟩:=RArm.iff.1 Y
 obtain ⟨K1,c72,rfl,d1,j1⟩:=R.fm
 obtain ⟨L1,c80,M1,B1,rfl,X0,F1,G1,e1,k1,f1,l1⟩:=REx.fm S
 refine Alc J N fun A1 w N a J=>?_
 refine Sto 0 J N fun w N a J=>?_
 refine Reg [1,2,1,1,2,0,0,1] [0,1,2] J N fun w N a J=>?_
 refine qN 3 wM J N (fun Q1 w N a J=>?_) (hr:=(SliceOf.strs.1 R).rowIn N.toSees) (h1:=cP _) (hb:=by have hq:=congrArg List.length k;rw [zA g,qA] at hq;simp only [laQ,yF] at hq hb ⊢;omega)
 first | rw [jJ] at N | rw [<- yQ] at N
 replace N:=N.pl 3
 refine d_e J rfl rfl rfl (wC J rfl call85 (ih _ (by first | exact Ex.lt_args (mgQ g) | exact Ex.lt_arms (mgQ g)) (l:=(m2++H.vars)) (by have hq:=congrArg List.length k;rw [zA g] at hq;simp only [bindPs,qA,laQ] at hq hb ⊢;omega) S N) fun z0 w N=>⟨fun _=>N.sn (Fz.Le.refl _),fun a J=>?_⟩)
 replace N:=N.nf
 refine go J N fun a J=>?_
 replace N:=N.ar [1] [2,2]
 refine U _ _ _ (by subst h;omega) ⟨(j+1),(z0),(((m2++H.vars)++zP H.body)),rfl,J.pk,N,?_⟩
 rw [k,zA g,qA];simp
 refine go J N fun a J=>?_
 replace N:=N.dl [1,0]
 refine zD hQ J N ?_
 refine ⟨_,rfl,?_⟩
 rw [show (strs (l++zP e))=(strs m2) by rw [k,zE P];simp [bindPa]];exact N
 refine go J N fun a J=>?_
 refine mR (fun mm a w=>∃(i:Nat) (u:Value) (m:List Bs),mm=e.args.length - i/\EnvR 44 [(1,u),(2,.pointer (some ⟨o,0,none⟩)),(18,.slice I e.args.length c4),(19,.int .i64 ((e.args.length:Nat):Int)),(20,.int .i64 ((i:Nat):Int))] [] a/\Mem V (.blk o (ob [.int .i64 (e.kind),.int .i64 (e.num),.string e.name,.slice I e.args.length c4,.slice L e.arms.length p] 66)::.gs (u) 9 1 (strs m)::K) w/\(l++zP e=m++bindPs (e.args.drop i)++bindPa e.arms)) (e.args.length - 0) ⟨0,v,l,rfl,J.pk,N,by rw [kY];simp [*]⟩ ?_
 clear N J
 rintro mm a w ⟨i,u,m,h,J,N,r⟩ x1 W
 refine go J N fun a J=>?_
 by_cases y:i < e.args.length
 refine go J N fun a J=>?_
 obtain ⟨r1,rfl,c0,f,f0,l0,h0,s⟩:=h2.el X y
 obtain ⟨m1,F0,n1,G0,rfl,j0,M0,N0,n0,s0,o0,t0⟩:=REx.fm s
 refine Alc J N fun C0 w N a J=>?_
 refine Sto 0 J N fun w N a J=>?_
 refine go J N fun a J=>?_
 replace N:=N.pl 2
 refine st J rfl rfl rfl (wC J rfl call85 (ih _ (by first | exact Ex.lt_args (mgQ f) | exact Ex.lt_arms (mgQ f)) (l:=m) (by have hq:=congrArg List.length r;rw [zA f] at hq;simp only [bindPs,qA,laQ] at hq hb ⊢;omega) s N) fun Z w N a J=>?_)
 replace N:=N.nf
 refine go J N fun a J=>?_
 replace N:=N.ar [1] [1]
 refine W _ _ _ (by subst h;omega) ⟨(i+1),(Z),((m++zP c0)),rfl,J.pk,N,?_⟩
 rw [r,zA f];simp [bindPs]
 refine go J N fun a J=>?_
 refine mR (fun mm a w=>∃(j:Nat) (G:Value) (m2:List Bs),mm=e.arms.length - j/\EnvR 44 [(1,G),(29,.slice L e.arms.length p),(30,.int .i64 ((e.arms.length:Nat):Int)),(31,.int .i64 ((j:Nat):Int))] [] a/\Mem V (.blk o (ob [.int .i64 (e.kind),.int .i64 (e.num),.string e.name,.slice I e.args.length c4,.slice L e.arms.length p] 66)::.gs (G) 9 1 (strs m2)::K) w/\(l++zP e=m2++bindPa (e.arms.drop j))) (e.arms.length - 0) ⟨0,u,m,rfl,J.pk,N,by rw [r,zE y];simp [bindPs]⟩ ?_
 clear N J
 rintro mm a w ⟨j,G,m2,h,J,N,c⟩ B0 E
 refine go J N fun a J=>?_
 by_cases z:j < e.arms.length
 refine go J N fun a J=>?_
 obtain ⟨s1,rfl,t,b,g0,m0,i0,F⟩:=h8.el C z
 obtain ⟨t1,D0,rfl,A,B⟩:=RArm.iff.1 F
 obtain ⟨o1,H0,rfl,p0,u0⟩:=A.fm
 obtain ⟨p1,I0,q1,J0,rfl,k0,O0,P0,q0,w0,r0,x0⟩:=REx.fm B
 refine Alc J N fun E0 w N a J=>?_
 refine Sto 0 J N fun w N a J=>?_
 refine Reg [1,2,1,1,2,0,0,1] [0,1] J N fun w N a J=>?_
 refine qN 2 wM J N (fun u1 w N a J=>?_) (hr:=(SliceOf.strs.1 A).rowIn N.toSees) (h1:=cP _) (hb:=by have hq:=congrArg List.length c;rw [zA b,qA] at hq;simp only [laQ,yF] at hq hb ⊢;omega)
 first | rw [jJ] at N | rw [<- yQ] at N
 replace N:=N.pl 2
 refine d_e J rfl rfl rfl (wC J rfl call85 (ih _ (by first | exact Ex.lt_args (mgQ b) | exact Ex.lt_arms (mgQ b)) (l:=(m2++t.vars)) (by have hq:=congrArg List.length c;rw [zA b] at hq;simp only [bindPs,qA,laQ] at hq hb ⊢;omega) B N) fun a0 w N=>⟨fun _=>N.sn (Fz.Le.refl _),fun a J=>?_⟩)
 replace N:=N.nf
 refine go J N fun a J=>?_
 replace N:=N.ar [1] [1]
 refine E _ _ _ (by subst h;omega) ⟨(j+1),(a0),(((m2++t.vars)++zP t.body)),rfl,J.pk,N,?_⟩
 rw [c,zA b,qA];simp
 refine go J N fun a J=>?_
 replace N:=N.dl [0]
 refine zD hQ J N ?_
 refine ⟨_,rfl,?_⟩
 rw [show (strs (l++zP e))=(strs m2) by rw [c,zE z];simp [bindPa]];exact N
theorem q8p {V:Fz} {K:List Res} {w:World} {d:List Value} {e:Ex} {v:Value} {l:List Bs} (hb:l.length+(zP e).length<=8796093000000) (re:REx V d e) (N:Mem V (.gs v 9 1 (strs l)::K) w) :
  Calls prog 85 #[.agg d.toArray,v] w (fun ee w'=>∃v,ee=.returned v/\Mem V (.gs v 9 1 (strs (l++zP e))::K) w'):=by
 suffices H:∀n (e:Ex),e.sz < n->∀{V:Fz} {K:List Res} {w:World} {d:List Value} {v:Value} {l:List Bs},l.length+(zP e).length<=8796093000000->REx V d e->Mem V (.gs v 9 1 (strs l)::K) w->Calls prog 85 #[.agg d.toArray,v] w (fun ee w'=>∃v,ee=.returned v/\Mem V (.gs v 9 1 (strs (l++zP e))::K) w') from H _ e (Nat.lt_succ_self _) hb re N
 intro n
 induction n with
 | zero=>intro e h;omega
 | succ n b=>intro e h V K w d v l hb re N;exact q1d re hb (fun x c _ _ _ _ _ _ a r m=>b x (by omega) a r m) N
end Go.Sw

namespace Go.Sw
open Go.Proofs.Tryz
open Go.Proofs
set_option maxRecDepth 20000
set_option maxHeartbeats 4000000
variable {V:Fz} {K:List Res} {w:World}
theorem y2z {c:UInt8}  (N:Mem V K w) :
  Calls prog 249 #[.int .u8 ((c.toNat:Nat):Int)] w (fun ee w'=>ee=.returned (.bool (qK c.toNat))/\Mem V K w'):=by
 refine zM func249 ntmps249 fun Q b a J=>?_
 refine go J N fun a J=>?_
 by_cases d:97<=c.toNat
 refine Qq J N (fun a J=>?_) (o:=by exact fun _ _ _ J O=>j2m (i:=c.toNat) (j:=122) J rfl rfl)
 refine zD b J N ?_
 exact zL N (by simp [qK, *])
 refine zD b J N ?_
 exact zL N (by simp [qK, *])
theorem y2y {c:UInt8}  (N:Mem V K w) :
  Calls prog 251 #[.int .u8 ((c.toNat:Nat):Int)] w (fun ee w'=>ee=.returned (.bool (qQ c.toNat))/\Mem V K w'):=by
 refine zM func251 ntmps251 fun Q b a J=>?_
 refine go J N fun a J=>?_
 by_cases d:65<=c.toNat
 refine Qq J N (fun a J=>?_) (o:=by exact fun _ _ _ J O=>j2m (i:=c.toNat) (j:=90) J rfl rfl)
 refine zD b J N ?_
 exact zL N (by simp [qQ, *])
 refine zD b J N ?_
 exact zL N (by simp [qQ, *])
theorem oE {c:UInt8}  (N:Mem V K w) :
  Calls prog 247 #[.int .u8 ((c.toNat:Nat):Int)] w (fun ee w'=>ee=.returned (.bool (zZ c.toNat))/\Mem V K w'):=by
 refine zM func247 ntmps247 fun Q b a J=>?_
 refine go J N fun a J=>?_
 by_cases d:48<=c.toNat
 refine Qq J N (fun a J=>?_) (o:=by exact fun _ _ _ J O=>j2m (i:=c.toNat) (j:=57) J rfl rfl)
 refine zD b J N ?_
 exact zL N (by simp [zZ, *])
 refine zD b J N ?_
 exact zL N (by simp [zZ, *])
theorem z7k {c:UInt8}  (N:Mem V K w) :
  Calls prog 253 #[.int .u8 ((c.toNat:Nat):Int)] w (fun ee w'=>ee=.returned (.bool (yK c.toNat))/\Mem V K w'):=by
 refine zM func253 ntmps253 fun Q b a J=>?_
 refine zW call249 J N (fun d w N a J=>?_) (fun d w N a J=>?_) (c:=y2z N)
 refine zD b J N ?_
 exact zL N (by simp [yK, *])
 refine zW call251 J N (fun e w N a J=>?_) (fun e w N a J=>?_) (c:=y2y N)
 refine zD b J N ?_
 exact zL N (by simp [yK, *])
 refine zW call247 J N (fun f w N a J=>?_) (fun f w N a J=>?_) (c:=oE N)
 refine zD b J N ?_
 exact zL N (by simp [yK, *])
 refine Qq J N (fun a J=>?_) (o:=by exact fun _ _ _ J O=>wX (i:=c.toNat) (j:=95) J rfl rfl)
 refine zD b J N ?_
 exact zL N (by simp [yK, *])
theorem q9v {c:UInt8}  (N:Mem V K w) :
  Calls prog 243 #[.int .u8 ((c.toNat:Nat):Int)] w (fun ee w'=>ee=.returned (.bool (xF c.toNat))/\Mem V K w'):=by
 refine zM func243 ntmps243 fun Q b a J=>?_
 refine go J N fun a J=>?_
 by_cases d:c.toNat=32
 refine zD b J N ?_
 exact zL N (by simp [xF, *])
 refine go J N fun a J=>?_
 by_cases e:c.toNat=9
 refine zD b J N ?_
 exact zL N (by simp [xF, *])
 refine go J N fun a J=>?_
 by_cases f:c.toNat=10
 refine zD b J N ?_
 exact zL N (by simp [xF, *])
 refine Qq J N (fun a J=>?_) (o:=by exact fun _ _ _ J O=>wX (i:=c.toNat) (j:=13) J rfl rfl)
 refine zD b J N ?_
 exact zL N (by simp [xF, *])
theorem y6u {s:Bs} {p:Bs}  (N:Mem V K w) :
  Calls prog 261 #[.string s,.string p] w (fun ee w'=>ee=.returned (.bool (kK s p))/\Mem V K w'):=by
 refine zM func261 ntmps261 fun Q b a J=>?_
 refine go J N fun a J=>?_
 by_cases c:p.size<=s.size
 refine Qq J N (fun a J=>?_) (o:=by exact fun _ _ _ J O=>vI 0 (p.size) J rfl runUnderlying9 rfl ⟨_,rfl⟩ (by omega) (by omega))
 refine Qq J N (fun a J=>?_) (o:=by exact fun _ _ _ J O=>z6j J rfl rfl)
 refine zD b J N ?_
 exact zL N (by simp [kK, *])
 refine zD b J N ?_
 exact zL N (by simp [kK, *])
theorem q1x {s:Bs} {p:Bs}  (N:Mem V K w) :
  Calls prog 257 #[.string s,.string p] w (fun ee w'=>ee=.returned (.bool (kK s p))/\Mem V K w'):=by
 refine zM func257 ntmps257 fun Q b a J=>?_
 refine zS call261 J N (fun w N a J=>?_) (c:=y6u N)
 refine zD b J N ?_
 exact zL N (by rfl)
theorem z5o {t:Bs} {pos:Nat} {b:Nat} {rest:List Value} {e:TypeId} {k:Nat}  (l:pos+k<=1000000000) (N:Mem V (.blk b (ob (.string t::.int .i64 ((pos:Nat):Int)::rest) e)::K) w) :
  Calls prog 246 #[.pointer (some ⟨b,0,none⟩),.int .i64 (k:Int)] w (fun ee w'=>ee=.returned (.int .u8 ((zG t (pos+k):Nat):Int))/\Mem V (.blk b (ob (.string t::.int .i64 ((pos:Nat):Int)::rest) e)::K) w'):=by
 refine zM func246 ntmps246 fun Q g a J=>?_
 refine Reg [1,1,1,2,1,1,1,1,1,2,1,1] [0] J N fun w N a J=>?_
 refine Qq J N (fun a J=>?_) (o:=by exact fun _ _ _ J O=>pD (i:=pos) (j:=k) J rfl rfl (by omega))
 refine go J N fun a J=>?_
 by_cases h:t.size<=(pos+k)
 refine zD g J N ?_
 exact ⟨congrArg (fun x=>Ending.returned (.int .u8 ((x:Nat):Int))) (show 0=zG t (pos+k) by rw [z8p (by omega)]),N⟩
 refine Reg [1,1,1,2,1,1,1,2,1,1,1,1] [0] J N fun w N a J=>?_
 refine Qq J N (fun a J=>?_) (o:=by exact fun _ _ _ J O=>pD (i:=pos) (j:=k) J rfl rfl (by omega))
 have d:(pos+k) < t.size:=by omega
 obtain ⟨f,c⟩:=kP d
 refine Qq J N (fun a J=>?_) (o:=by exact fun _ _ _ J O=>vH (pos+k) f J rfl rfl runUnderlying9 c)
 refine zD g J N ?_
 exact ⟨congrArg (fun x=>Ending.returned (.int .u8 ((x:Nat):Int))) (show f.toNat=zG t (pos+k) by rw [yU c]),N⟩
theorem cO {t:Bs} {pos:Nat} {b:Nat} {rest:List Value} {d:TypeId} {s:Bs}  (f:pos<=t.size) (N:Mem V (.blk b (ob (.string t::.int .i64 ((pos:Nat):Int)::rest) d)::K) w) :
  Calls prog 244 #[.pointer (some ⟨b,0,none⟩),.string s] w (fun ee w'=>ee=.returned (.bool (kK (t.extract pos t.size) s))/\Mem V (.blk b (ob (.string t::.int .i64 ((pos:Nat):Int)::rest) d)::K) w'):=by
 refine zM func244 ntmps244 fun Q e a J=>?_
 refine Reg [1,1,1,2,1,1,1,2,1,1,0,1] [0] J N fun w N a J=>?_
 refine Qq J N (fun a J=>?_) (o:=by exact fun _ _ _ J O=>vI pos (t.size) J rfl runUnderlying9 ⟨_,rfl⟩ rfl (by omega) (by exact Nat.le_refl _))
 refine zS call257 J N (fun w N a J=>?_) (c:=q1x N)
 refine zD e J N ?_
 exact zL N (by rfl)
end Go.Sw

namespace Go.Sw
open Go.Proofs.Tryz
open Go.Proofs
set_option maxRecDepth 20000
set_option maxHeartbeats 4000000
theorem q2r {V:Fz} {K:List Res} {w:World} {t:Bs} {pos b k g:Nat} {rest fs cs:List Value} {l:TypeId} {p:Nat->Bool} (v:∀args w,(callFunc g args).run prog w=.ok (.enter g args) w)
  (u:∀{w:World} (c:UInt8),Mem V (.blk b (ob (.string t::.int .i64 ((pos:Nat):Int)::rest) l)::K) w->Calls prog g (fs++[Value.int .u8 ((c.toNat:Nat):Int)]++cs).toArray w (fun ee w'=>ee=.returned (.bool (p c.toNat))/\Mem V (.blk b (ob (.string t::.int .i64 ((pos:Nat):Int)::rest) l)::K) w'))
  (h1:pos+k<=t.size) (A:t.size<=1000000) (N:Mem V (.blk b (ob (.string t::.int .i64 ((pos:Nat):Int)::rest) l)::K) w) :
  Calls prog 242 #[.pointer (some ⟨b,0,none⟩),.int .i64 ((k:Nat):Int),.func (.func g) fs.toArray cs.toArray] w (fun ee w'=>ee=.returned (.int .i64 ((yL p t t.size (pos+k):Nat):Int))/\Mem V (.blk b (ob (.string t::.int .i64 ((pos:Nat):Int)::rest) l)::K) w'):=by
 refine zM func242 ntmps242 fun Q r a J=>?_
 refine go J N fun a J=>?_
 refine zV (J.ks [0,1,2]) N (fun R mm a w=>∃(j:Nat),mm=t.size - (pos+k+j)/\R V [(7,.int .i64 ((j:Nat):Int))] [] a w/\(pos+k+j<=t.size/\yL p t t.size (pos+k)=yL p t t.size (pos+k+j)+j)) (t.size - (pos+k+0)) ⟨0,rfl,⟨J.pk,N⟩,by exact ⟨by omega,rfl⟩⟩ ?_
 clear N J
 rintro mm a w ⟨j,q,⟨J,N⟩,m⟩ z n
 obtain ⟨y,f⟩:=m
 refine Reg [1,1,1,2,1,1,1,1,1,1,1,2,1,1,1,1,1,1,1,2,1,1,1,2,1,1,1,1,1,0,1] [0] J N fun w N a J=>?_
 refine Qq J N (fun a J=>?_) (o:=by exact fun _ _ _ J O=>pD (i:=pos) (j:=k) J rfl rfl (by omega))
 refine Qq J N (fun a J=>?_) (o:=by exact fun _ _ _ J O=>pD (i:=(pos+k)) (j:=j) J rfl rfl (by omega))
 refine go J N fun a J=>?_
 by_cases s:((pos+k)+j) < t.size
 refine Qq J N (fun a J=>?_) (o:=by exact fun _ _ _ J O=>pD (i:=pos) (j:=k) J rfl rfl (by omega))
 refine Qq J N (fun a J=>?_) (o:=by exact fun _ _ _ J O=>pD (i:=(pos+k)) (j:=j) J rfl rfl (by omega))
 obtain ⟨c9,e⟩:=kP s
 refine Qq J N (fun a J=>?_) (o:=by exact fun _ _ _ J O=>vH ((pos+k)+j) c9 J rfl rfl runUnderlying9 e)
 refine y0c v J N (fun d w N a J=>?_) (fun d w N a J=>?_) (c:=by exact u _ N)
 refine go J N fun a J=>?_
 refine n _ _ _ (by subst q;omega) ⟨(j+1),rfl,⟨J.pk,N⟩,?_⟩
 refine ⟨by omega,?_⟩
 rw [f,xJ p t (pos+k+j),if_pos ⟨by omega,by rw [yU e];exact d⟩,show pos+k+(j+1)=pos+k+j+1 from rfl];omega
 refine zD r J N ?_
 exact jG N (by rw [f,xJ,if_neg (by rintro ⟨_,h⟩;rw [yU e,d] at h;cases h)];omega)
 refine zD r J N ?_
 exact jG N (by rw [f,xJ,if_neg (by omega)];omega)
theorem q2q {V:Fz} {K:List Res} {w:World} {t:Bs} {pos b g:Nat} {rest fs cs:List Value} {a:TypeId} {p:Nat->Bool} (f:∀args w,(callFunc g args).run prog w=.ok (.enter g args) w)
  (e:∀{w:World} (c:UInt8),Mem V (.blk b (ob (.string t::.int .i64 ((pos:Nat):Int)::rest) a)::K) w->Calls prog g (fs++[Value.int .u8 ((c.toNat:Nat):Int)]++cs).toArray w (fun ee w'=>ee=.returned (.bool (p c.toNat))/\Mem V (.blk b (ob (.string t::.int .i64 ((pos:Nat):Int)::rest) a)::K) w'))
  (h1:pos<=t.size) (d:t.size<=1000000) (N:Mem V (.blk b (ob (.string t::.int .i64 ((pos:Nat):Int)::rest) a)::K) w) :
  Calls prog 242 #[.pointer (some ⟨b,0,none⟩),.int .i64 ((0:Nat):Int),.func (.func g) fs.toArray cs.toArray] w (fun ee w'=>ee=.returned (.int .i64 ((yL p t t.size pos:Nat):Int))/\Mem V (.blk b (ob (.string t::.int .i64 ((pos:Nat):Int)::rest) a)::K) w') :=
 q2r (k:=0) f e (by omega) d N
theorem q8u {V:Fz} {K:List Res} {w:World} {t:Bs} {pos b:Nat} {rest:List Value} {m:TypeId} (h1:pos<=t.size) (B:t.size<=1000000) (N:Mem V (.blk b (ob (.string t::.int .i64 ((pos:Nat):Int)::rest) m)::K) w) :
  Calls prog 245 #[.pointer (some ⟨b,0,none⟩)] w (fun ee w'=>Out (vN t pos pos 0)
   (fun q=>ee=.returned (.tuple #[])/\Mem V (.blk b (ob (.string t::.int .i64 ((q:Nat):Int)::rest) m)::K) w')
   (fun c=>ee=.panicked (sQ c)/\Mem V K w')):=by
 refine zM func245 ntmps245 fun Q s a J=>?_
 refine go J N fun a J=>?_
 refine zV (J.ks [0,2]) N (fun R mm a w=>∃(i:Nat) (o:Int),mm=t.size - i/\R V [(3,.int .i64 (o))] [(0,.blk b (ob (.string t::.int .i64 ((i:Nat):Int)::rest) m))] a w/\(i<=t.size/\-(i:Int)<=o/\o<=100/\vN t pos pos 0=vN t pos i o)) (t.size - pos) ⟨pos,0,rfl,⟨J.pk,N⟩,by exact ⟨h1,by omega,by omega,rfl⟩⟩ ?_
 clear N J
 rintro mm a w ⟨i,o,k,⟨J,N⟩,r⟩ A g
 replace N:=N.nf
 obtain ⟨v,y,z,e⟩:=r
 refine Reg [1,1,1,1,2,1,1,1,1,2,1,1,1] [0] J N fun w N a J=>?_
 refine go J N fun a J=>?_
 by_cases l:t.size<=i
 refine yE J N fun a J=>?_
 refine Qq J N (fun a J=>?_) (o:=by exact fun _ _ _ J O=>qL J rfl runUnderlying270 (by intro ms h;cases h))
 refine st0 J rfl rfl (vK J rfl (vM _) (fun a u=>s _ _ _ (yT u ?_)))
 replace N:=N.dl [0]
 show Out (vN t pos pos 0) _ _
 rw [e,nQ,if_pos l];exact ⟨rfl,N⟩
 refine zW call244 J N (fun f w N a J=>?_) (fun f w N a J=>?_) (c:=cO (by omega) N)
 refine go J N fun a J=>?_
 by_cases n:100<=o
 refine yE J N fun a J=>?_
 refine Qq J N (fun a J=>?_) (o:=by exact fun _ _ _ J O=>qL J rfl runUnderlying270 (by intro ms h;cases h))
 refine st0 J rfl rfl (vK J rfl (vM _) (fun a u=>s _ _ _ (yT u ?_)))
 replace N:=N.dl [0]
 show Out (vN t pos pos 0) _ _
 rw [e,nQ,if_neg l,if_pos f,if_pos n];exact ⟨rfl,N⟩
 refine Qq J N (fun a J=>?_) (o:=by exact fun _ _ _ J O=>z1w (o+1) J rfl rfl (by rw [yC (by omega)]))
 refine Qq J N (fun a J=>?_) (o:=by exact fun _ _ _ J O=>pD (i:=i) (j:=2) J rfl rfl (by omega))
 refine Sto 0 J N fun w N a J=>?_
 refine go J N fun a J=>?_
 refine g (t.size - ((i+2))) _ _ (by subst k;first | omega | (have h:=jI f;have:(⟨#[40,42]⟩:Bs).size=2:=rfl;have:(⟨#[42,41]⟩:Bs).size=2:=rfl;omega)) ⟨((i+2)),(o+1),rfl,⟨J.pk,N⟩,?_⟩
 refine ⟨by first | omega | (have h:=jI f;have:(⟨#[40,42]⟩:Bs).size=2:=rfl;have:(⟨#[42,41]⟩:Bs).size=2:=rfl;omega),by omega,by omega,?_⟩
 rw [e,nQ,if_neg l]
 simp [*]
 refine zW call244 J N (fun d w N a J=>?_) (fun d w N a J=>?_) (c:=cO (by omega) N)
 refine Qq J N (fun a J=>?_) (o:=by exact fun _ _ _ J O=>vT (o - 1) J rfl rfl (by rw [yC (by omega)]))
 refine Qq J N (fun a J=>?_) (o:=by exact fun _ _ _ J O=>pD (i:=i) (j:=2) J rfl rfl (by omega))
 refine Sto 0 J N fun w N a J=>?_
 refine go J N fun a J=>?_
 by_cases p:o - 1=0
 refine go J N fun a J=>?_
 refine s _ _ _ (ret0 J results245 ?_)
 show Out (vN t pos pos 0) _ _
 rw [e,nQ,if_neg l,if_neg (by simp [*]),if_pos d,if_pos p];exact ⟨rfl,N⟩
 refine go J N fun a J=>?_
 refine g (t.size - ((i+2))) _ _ (by subst k;first | omega | (have h:=jI d;have:(⟨#[40,42]⟩:Bs).size=2:=rfl;have:(⟨#[42,41]⟩:Bs).size=2:=rfl;omega)) ⟨((i+2)),(o - 1),rfl,⟨J.pk,N⟩,?_⟩
 refine ⟨by first | omega | (have h:=jI d;have:(⟨#[40,42]⟩:Bs).size=2:=rfl;have:(⟨#[42,41]⟩:Bs).size=2:=rfl;omega),by omega,by omega,?_⟩
 rw [e,nQ,if_neg l]
 simp [*]
 refine Sto 0 J N fun w N a J=>?_
 refine go J N fun a J=>?_
 refine g (t.size - ((i+1))) _ _ (by subst k;first | omega | (have h:=jI d;have:(⟨#[40,42]⟩:Bs).size=2:=rfl;have:(⟨#[42,41]⟩:Bs).size=2:=rfl;omega)) ⟨((i+1)),(o),rfl,⟨J.pk,N⟩,?_⟩
 refine ⟨by first | omega | (have h:=jI d;have:(⟨#[40,42]⟩:Bs).size=2:=rfl;have:(⟨#[42,41]⟩:Bs).size=2:=rfl;omega),by omega,by omega,?_⟩
 rw [e,nQ,if_neg l]
 simp [*]
theorem j3w {V:Fz} {K:List Res} {w:World} {t:Bs} {pos b:Nat} {mv cv:Value} {cs:List Value} (h1:pos<=t.size) (D:t.size<=1000000) (v:cs.length<=2 * pos) (N:Mem V (.blk b (ob [.string t,.int .i64 ((pos:Nat):Int),mv,cv] 301)::.gs cv 314 2 cs::K) w) :
  Calls prog 232 #[.pointer (some ⟨b,0,none⟩)] w (fun ee w'=>Out (aT t pos)
   (fun q=>∃y:Value×List Value,ee=.returned (.tuple #[])/\y.2.length<=2 * q/\Mem V (.blk b (ob [.string t,.int .i64 ((q:Nat):Int),mv,y.1] 301)::.gs y.1 314 2 y.2::K) w')
   (fun c=>ee=.panicked (sQ c)/\Mem V K w')):=by
 refine zM func232 ntmps232 fun Q s a J=>?_
 refine go J N fun a J=>?_
 refine zV (J.ks [0]) N (fun R mm a w=>∃(i:Nat) (u:Value) (ds:List Value),mm=t.size - i/\R V [] [(0,.blk b (ob [.string t,.int .i64 ((i:Nat):Int),mv,u] 301)),(1,.gs (u) 314 2 ds)] a w/\(i<=t.size/\ds.length<=2 * i/\aT t pos=aT t i)) (t.size - pos) ⟨pos,cv,cs,rfl,⟨J.pk,N⟩,by exact ⟨h1,v,rfl⟩⟩ ?_
 clear N J
 rintro mm a w ⟨i,u,ds,n,⟨J,N⟩,l⟩ C m
 replace N:=N.nf
 obtain ⟨e,z,g⟩:=l
 have A:=kL xF t t.size i e
 refine Reg [1,1,1,1,2,1,1,1,0,1,1,1,1,0] [0,1] J N fun w N a J=>?_
 refine zS call242 J N (fun w N a J=>?_) (c:=q2q (p:=xF) (pos:=i) (fs:=[]) (cs:=[]) call243 (fun c N=>q9v N) (by omega) (by omega) N)
 refine Qq J N (fun a J=>?_) (o:=by exact fun _ _ _ J O=>pD (i:=i) (j:=(yL xF t t.size i)) J rfl rfl (by omega))
 refine Sto 0 J N fun w N a J=>?_
 refine zW call244 J N (fun f w N a J=>?_) (fun f w N a J=>?_) (c:=cO (by omega) N)
 refine jA s call245 J N (fun k w d N a J=>?_) (fun k w d N=>?_) (c:=q8u (pos:=((i+(yL xF t t.size i)))) (by omega) (by omega) N)
 refine Reg [1,1,1,1,2,1,1,1,1,1,2,1,0,0,1,1,0] [0] J N fun w N a J=>?_
 refine yE J N fun a J=>?_
 refine qG J N fun B w N a J=>?_
 refine qN 2 rt_299 J N (fun r w N a J=>?_)
 refine Sto 1 J N fun w N a J=>?_
 refine go J N fun a J=>?_
 replace N:=N.dl [0]
 refine m (t.size - k) _ _ (by subst n;have h:=pW _ _ _ _ _ _ d;omega) ⟨(k),(r),((ds++[.int .i64 ((((i+(yL xF t t.size i))):Nat):Int),.int .i64 ((k:Nat):Int)])),rfl,⟨J.pk,by exact N⟩,?_⟩
 have h:=pW _ _ _ _ _ _ d
 refine ⟨h.2,by simp only [laQ,lcQ,lnQ];omega,?_⟩
 rw [g,y4b t i e,if_pos f,d]
 replace N:=N.dl [0]
 show Out (aT t pos) _ _
 rw [g,y4b t i e,if_pos f,d];exact ⟨rfl,N⟩
 refine go J N fun a J=>?_
 refine s _ _ _ (ret0 J results232 ?_)
 show Out (aT t pos) _ _
 rw [g,y4b t i e,if_neg (by simp [*])];exact ⟨⟨u,ds⟩,rfl,by simp only;omega,N⟩
theorem gK {V:Fz} {K:List Res} {w:World} {t:Bs} {pos b:Nat} {rest:List Value} {e:TypeId} {kd:Int} {n:Nat} (h1:pos+n<=t.size) (m:t.size<=1000000) (N:Mem V (.blk b (ob (.string t::.int .i64 ((pos:Nat):Int)::rest) e)::K) w) :
  Calls prog 252 #[.pointer (some ⟨b,0,none⟩),.int .i64 kd,.int .i64 ((n:Nat):Int)] w (fun ee w'=>Out (kT t pos kd n) (fun q=>ee=.returned (y5e q)/\Mem V (.blk b (ob (.string t::.int .i64 ((pos:Nat):Int)::rest) e)::K) w') (fun c=>ee=.panicked (sQ c)/\Mem V K w')):=by
 refine zM func252 ntmps252 fun Q g a J=>?_
 refine Alc J N fun l w N a J=>?_
 refine go J N fun a J=>?_
 by_cases f:24 < n
 refine yE J N fun a J=>?_
 refine Qq J N (fun a J=>?_) (o:=by exact fun _ _ _ J O=>qL J rfl runUnderlying270 (by intro ms h;cases h))
 refine st0 J rfl rfl (vK J rfl (vM _) (fun a k=>g _ _ _ (yT k ?_)))
 replace N:=N.dl [1,0]
 show Out (kT t pos kd n) _ _
 rw [kT,if_pos f];exact ⟨rfl,N⟩
 refine Reg [1,1,1,1,1,2,1,1,1,1,2,1,1,1,1,2,1,1,1,1,1,1,1,2,1,0] [0,1] J N fun w N a J=>?_
 refine Qq J N (fun a J=>?_) (o:=by exact fun _ _ _ J O=>pD (i:=pos) (j:=n) J rfl rfl (by omega))
 refine Qq J N (fun a J=>?_) (o:=by exact fun _ _ _ J O=>vI pos ((pos+n)) J rfl runUnderlying9 ⟨_,rfl⟩ ⟨_,rfl⟩ (by omega) (by omega))
 refine yE J N fun a J=>?_
 refine Sto 0 J N fun w N a J=>?_
 refine go J N fun a J=>?_
 have d:=N
 replace N:=N.dl [0]
 refine jS g J d ?_
 show Out (kT t pos kd n) _ _
 rw [kT,if_neg f];exact ⟨rfl,N⟩
theorem j3q {V:Fz} {K:List Res} {w:World} {t:Bs} {pos b mb:Nat} {cv:Value} {kd:Int} (h:MapAt V mb wordsM) (h1:pos<=t.size) (R:t.size<=1000000) (N:Mem V (.blk b (ob [.string t,.int .i64 ((pos:Nat):Int),.map (some mb),cv] 301)::K) w) :
  Calls prog 250 #[.pointer (some ⟨b,0,none⟩),.int .i64 kd] w (fun ee w'=>Out (kI t pos kd) (fun q=>ee=.returned (y5e q)/\Mem V (.blk b (ob [.string t,.int .i64 ((pos:Nat):Int),.map (some mb),cv] 301)::K) w') (fun c=>ee=.panicked (sQ c)/\Mem V K w')):=by
 refine zM func250 ntmps250 fun Q y a J=>?_
 refine Alc J N fun P w N a J=>?_
 refine go J N fun a J=>?_
 have L:=kL yK t t.size pos h1
 replace N:=N.pl 1
 refine zS call242 J N (fun w N a J=>?_) (c:=q2q (p:=yK) (pos:=pos) (fs:=[]) (cs:=[]) call253 (fun c N=>z7k N) (by omega) (by omega) N)
 refine zS call246 J N (fun w N a J=>?_) (c:=z5o (by omega) N)
 by_cases S:zG t (pos+((yL yK t t.size pos)))=39
 refine go J N fun a J=>?_
 have C:=sT (t:=t) (i:=pos+yL yK t t.size pos) (by omega)
 have M:=kL zZ t t.size (pos+(yL yK t t.size pos+1)) (by omega)
 refine zS call242 J N (fun w N a J=>?_) (c:=q2r (p:=zZ) (pos:=pos) (k:=((yL yK t t.size pos)+1)) (fs:=[]) (cs:=[]) call247 (fun c N=>oE N) (by omega) (by omega) N)
 refine go J N fun a J=>?_
 by_cases T:0 < (yL zZ t t.size (pos+((yL yK t t.size pos)+1)))
 refine Qq J N (fun a J=>?_) (o:=by exact fun _ _ _ J O=>pD (i:=1) (j:=(yL zZ t t.size (pos+((yL yK t t.size pos)+1)))) J rfl rfl (by omega))
 refine Qq J N (fun a J=>?_) (o:=by exact fun _ _ _ J O=>pD (i:=(yL yK t t.size pos)) (j:=(1+(yL zZ t t.size (pos+((yL yK t t.size pos)+1))))) J rfl rfl (by omega))
 refine jA y call252 J N (fun z w l N a J=>?_) (fun z w l N=>?_) (c:=gK (pos:=pos) (kd:=kd) (n:=((yL yK t t.size pos)+(1+(yL zZ t t.size (pos+((yL yK t t.size pos)+1)))))) (by omega) (by omega) N)
 refine Alc J N fun G w N a J=>?_
 refine Sto 0 J N fun w N a J=>?_
 refine Reg [1,1,1,2,1,2,2,1,1,1,1,1] [0,1,2] J N fun w N a J=>?_
 refine go J N fun a J=>?_
 rcases d:yO (wordsM) z.text with _ | D
 have s:=congrArg (zK true (.int .i64 ((0:Nat):Int))) d
 refine Qq J N (fun a J=>?_) (o:=by exact fun _ _ _ J O=>Ok.cast (zY runUnderlying298 runUnderlying9 zeroValue3 J O rfl rfl h) (show zK true (.int .i64 ((0:Nat):Int)) (yO (wordsM) z.text)=.tuple #[.int .i64 ((0:Nat):Int),.bool false] from s))
 refine Sto 2 J N fun w N a J=>?_
 refine go J N fun a J=>?_
 have g:=N
 replace N:=N.dl [2,0]
 refine jS y J g ?_
 show Out (kI t pos kd) _ _
 first | rw [tE l d (by simp [yW, *])] | rw [tF l d (by simp [yW, *])]
 exact ⟨rfl,N⟩
 obtain rfl:=z4c d
 have s:=congrArg (zK true (.int .i64 ((0:Nat):Int))) d
 refine Qq J N (fun a J=>?_) (o:=by exact fun _ _ _ J O=>Ok.cast (zY runUnderlying298 runUnderlying9 zeroValue3 J O rfl rfl h) (show zK true (.int .i64 ((0:Nat):Int)) (yO (wordsM) z.text)=.tuple #[.int .i64 ((5:Nat):Int),.bool true] from s))
 refine Sto 0 J N fun w N a J=>?_
 refine Sto 2 J N fun w N a J=>?_
 refine go J N fun a J=>?_
 have g:=N
 replace N:=N.dl [2,0]
 refine jS y J g ?_
 show Out (kI t pos kd) _ _
 first | rw [tE l d (by simp [yW, *])] | rw [tF l d (by simp [yW, *])]
 exact ⟨rfl,N⟩
 replace N:=N.dl [0]
 show Out (kI t pos kd) _ _
 rw [y3p l (by simp [yW, *])];exact ⟨rfl,N⟩
 refine jA y call252 J N (fun A w m N a J=>?_) (fun A w m N=>?_) (c:=gK (pos:=pos) (kd:=kd) (n:=(yL yK t t.size pos)) (by omega) (by omega) N)
 refine Alc J N fun H w N a J=>?_
 refine Sto 0 J N fun w N a J=>?_
 refine Reg [1,1,1,2,1,2,2,1,1,1,1,1] [0,1,2] J N fun w N a J=>?_
 refine go J N fun a J=>?_
 rcases e:yO (wordsM) A.text with _ | E
 have u:=congrArg (zK true (.int .i64 ((0:Nat):Int))) e
 refine Qq J N (fun a J=>?_) (o:=by exact fun _ _ _ J O=>Ok.cast (zY runUnderlying298 runUnderlying9 zeroValue3 J O rfl rfl h) (show zK true (.int .i64 ((0:Nat):Int)) (yO (wordsM) A.text)=.tuple #[.int .i64 ((0:Nat):Int),.bool false] from u))
 refine Sto 2 J N fun w N a J=>?_
 refine go J N fun a J=>?_
 have g:=N
 replace N:=N.dl [2,0]
 refine jS y J g ?_
 show Out (kI t pos kd) _ _
 first | rw [tE m e (by simp [yW, *])] | rw [tF m e (by simp [yW, *])]
 exact ⟨rfl,N⟩
 obtain rfl:=z4c e
 have u:=congrArg (zK true (.int .i64 ((0:Nat):Int))) e
 refine Qq J N (fun a J=>?_) (o:=by exact fun _ _ _ J O=>Ok.cast (zY runUnderlying298 runUnderlying9 zeroValue3 J O rfl rfl h) (show zK true (.int .i64 ((0:Nat):Int)) (yO (wordsM) A.text)=.tuple #[.int .i64 ((5:Nat):Int),.bool true] from u))
 refine Sto 0 J N fun w N a J=>?_
 refine Sto 2 J N fun w N a J=>?_
 refine go J N fun a J=>?_
 have g:=N
 replace N:=N.dl [2,0]
 refine jS y J g ?_
 show Out (kI t pos kd) _ _
 first | rw [tE m e (by simp [yW, *])] | rw [tF m e (by simp [yW, *])]
 exact ⟨rfl,N⟩
 replace N:=N.dl [0]
 show Out (kI t pos kd) _ _
 rw [y3p m (by simp [yW, *])];exact ⟨rfl,N⟩
 refine jA y call252 J N (fun B w r N a J=>?_) (fun B w r N=>?_) (c:=gK (pos:=pos) (kd:=kd) (n:=(yL yK t t.size pos)) (by omega) (by omega) N)
 refine Alc J N fun I w N a J=>?_
 refine Sto 0 J N fun w N a J=>?_
 refine Reg [1,1,1,2,1,2,2,1,1,1,1,1] [0,1,2] J N fun w N a J=>?_
 refine go J N fun a J=>?_
 rcases f:yO (wordsM) B.text with _ | F
 have v:=congrArg (zK true (.int .i64 ((0:Nat):Int))) f
 refine Qq J N (fun a J=>?_) (o:=by exact fun _ _ _ J O=>Ok.cast (zY runUnderlying298 runUnderlying9 zeroValue3 J O rfl rfl h) (show zK true (.int .i64 ((0:Nat):Int)) (yO (wordsM) B.text)=.tuple #[.int .i64 ((0:Nat):Int),.bool false] from v))
 refine Sto 2 J N fun w N a J=>?_
 refine go J N fun a J=>?_
 have g:=N
 replace N:=N.dl [2,0]
 refine jS y J g ?_
 show Out (kI t pos kd) _ _
 first | rw [tE r f (by simp [yW, *])] | rw [tF r f (by simp [yW, *])]
 exact ⟨rfl,N⟩
 obtain rfl:=z4c f
 have v:=congrArg (zK true (.int .i64 ((0:Nat):Int))) f
 refine Qq J N (fun a J=>?_) (o:=by exact fun _ _ _ J O=>Ok.cast (zY runUnderlying298 runUnderlying9 zeroValue3 J O rfl rfl h) (show zK true (.int .i64 ((0:Nat):Int)) (yO (wordsM) B.text)=.tuple #[.int .i64 ((5:Nat):Int),.bool true] from v))
 refine Sto 0 J N fun w N a J=>?_
 refine Sto 2 J N fun w N a J=>?_
 refine go J N fun a J=>?_
 have g:=N
 replace N:=N.dl [2,0]
 refine jS y J g ?_
 show Out (kI t pos kd) _ _
 first | rw [tE r f (by simp [yW, *])] | rw [tF r f (by simp [yW, *])]
 exact ⟨rfl,N⟩
 replace N:=N.dl [0]
 show Out (kI t pos kd) _ _
 rw [y3p r (by simp [yW, *])];exact ⟨rfl,N⟩
end Go.Sw
