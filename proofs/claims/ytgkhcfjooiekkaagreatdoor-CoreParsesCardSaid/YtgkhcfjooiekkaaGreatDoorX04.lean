import Derived.Shelf.Strings.Builder1
import Derived.Shelf.LaysM
import Derived.Shelf.LaysC
import Derived.Shelf.Strconv.Itoa3
import Derived.Shelf.Strconv.AtoiAll
import Derived.Shelf.Strings.Search1
import Derived.Shelf.Strings.Replace
import Derived.Shelf.Strings.IndexAny
import Derived.Shelf.Strings.IndexAnyAll
import Derived.Test.YtgkhcfjooiekkaaGreatDoorX03
set_option linter.unusedVariables false
set_option linter.unusedSimpArgs false
namespace Go.Sw
open Go.Proofs Go.Proofs.Tryz
set_option maxRecDepth 20000
set_option maxHeartbeats 4000000
section
variable {V:Fz} {K:List Res} {w:World}
theorem q4i {V:Fz} {w:World} {σ:Type} {step:σ->Ex->Bool×σ} {Kf:σ->List Res} {g:Nat} {fs cs:List Value} {s0:σ} {v0:Value} {l:List Ex} (hl:SliceOf REx V 5 v0 l)
  (F:∀args w,(callFunc g args).run prog w=.ok (.enter g args) w)
  (E:∀s x c w,x∈l->REx V c x->Mem V (Kf s) w->Calls prog g (fs++[Value.agg c.toArray]++cs).toArray w (fun e w'=>e=.returned (.bool (step s x).1)/\Mem V (Kf (step s x).2) w'))
  (N:Mem V (Kf s0) w):Calls prog 167 #[v0,.func (.func g) fs.toArray cs.toArray] w (fun e w'=>e=.returned (.int .i64 (yP step s0 l 0).1)/\Mem V (Kf (yP step s0 l 0).2) w'):=by
 obtain ⟨H,c0,rfl,G,n⟩:=hl.fm
 refine zI func167 ntmps167 fun Q hQ a J=>?_
 refine go fun a J=>?_
 refine mN (fun mm a w=>∃(i:Nat) (s:σ),mm=l.length - i/\EnvR 19 [(0,.slice H l.length c0),(1,.func (.func g) (List.toArray fs) (List.toArray cs)),(7,.int .i64 l.length),(8,.int .i64 i)] [] a/\Mem V (Kf s) w/\(yP step s0 l 0=yP step s (l.drop i) i)) (l.length - 0) ⟨0,s0,rfl,J.pk,N,rfl⟩ ?_
 clear N J
 rintro mm a w ⟨i,s,m,J,N,j⟩ M k
 by_cases q:i < l.length
 refine go fun a J=>?_
 obtain ⟨L,rfl,o,f,p,u,r,h⟩:=hl.el n q
 obtain ⟨I,c22,K,B,rfl,t,C,D,v,z,y,A⟩:=REx.fm h
 refine y1u F (fun d w N a J=>?_) (fun d w N a J=>?_) (c:=by exact E s _ _ _ (mgQ f) h N)
 refine zF ?_
 have b:=j
 rw [zA f] at b
 simp only [yP,d,if_true] at b
 rw [b]
 exact ⟨rfl,N⟩
 refine go fun a J=>?_
 refine k _ _ _ (by subst m;omega) ⟨(i+1),((step s o).2),rfl,J.pk,N,?_⟩
 rw [j,zA f];simp [yP,d]
 refine zF ?_
 have b:=j
 rw [zE q] at b
 simp only [yP] at b
 rw [b]
 exact ⟨rfl,N⟩
theorem y0y {V:Fz} {w:World} {σ:Type} {step:σ->Ex->Bool×σ} {Kf:σ->List Res} {g:Nat} {fs cs:List Value} {s0:σ} {v0:Value} {l:List Ex} (hl:SliceOf REx V 5 v0 l)
  (d:∀args w,(callFunc g args).run prog w=.ok (.enter g args) w)
  (b:∀s x c w,x∈l->REx V c x->Mem V (Kf s) w->Calls prog g (fs++[Value.agg c.toArray]++cs).toArray w (fun e w'=>e=.returned (.bool (step s x).1)/\Mem V (Kf (step s x).2) w'))
  (N:Mem V (Kf s0) w):Calls prog 115 #[v0,.func (.func g) fs.toArray cs.toArray] w (fun e w'=>e=.returned (.bool (z3h step s0 l))/\Mem V (Kf (yP step s0 l 0).2) w'):=by
 obtain ⟨j,c0,rfl,f,i⟩:=hl.fm
 refine Calls.mono (R:=fun e w'=>e=.returned (.bool (decide (0<=(yP step s0 l 0).1)))/\Mem V (Kf (yP step s0 l 0).2) w') ?_ (fun e w' h=>by rw [kL] at h;exact h)
 refine zI func115 ntmps115 fun Q hQ a J=>?_
 refine zO call167 (fun w N a J=>?_) (c:=q4i (V:=V) (step:=step) (Kf:=Kf) (s0:=s0) (l:=l) hl d b N)
 refine Qq (fun a J=>?_) (o:=by exact fun J O=>z5d J rfl rfl)
 refine zF ?_
 exact ⟨rfl,N⟩
theorem y1y {p:Ex->Bool} {g:Nat} {fs cs:List Value} {v0:Value} {l:List Ex} (hl:SliceOf REx V 5 v0 l)
  (d:∀args w,(callFunc g args).run prog w=.ok (.enter g args) w)
  (b:∀x c w,x∈l->REx V c x->Mem V K w->Calls prog g (fs++[Value.agg c.toArray]++cs).toArray w (fun e w'=>e=.returned (.bool (p x))/\Mem V K w'))
  (N:Mem V K w):Calls prog 115 #[v0,.func (.func g) fs.toArray cs.toArray] w (fun e w'=>e=.returned (.bool (l.any p))/\Mem V K w') :=
 (y0y (σ:=Unit) (step:=fun s x=>(p x,s)) (Kf:=fun _=>K) (s0:=()) hl d (fun _ x c w f a N=>b x c w f a N) N).mono (fun e w' h=>by rw [nL] at h;exact h)
theorem y8y {V:Fz} {w:World} {σ:Type} {step:σ->Arm->Bool×σ} {Kf:σ->List Res} {g:Nat} {fs cs:List Value} {s0:σ} {v0:Value} {l:List Arm} (hl:SliceOf RArm V 7 v0 l)
  (M:∀args w,(callFunc g args).run prog w=.ok (.enter g args) w)
  (L:∀s x c w,x∈l->RArm V c x->Mem V (Kf s) w->Calls prog g (fs++[Value.agg c.toArray]++cs).toArray w (fun e w'=>e=.returned (.bool (step s x).1)/\Mem V (Kf (step s x).2) w'))
  (N:Mem V (Kf s0) w):Calls prog 168 #[v0,.func (.func g) fs.toArray cs.toArray] w (fun e w'=>e=.returned (.int .i64 (yP step s0 l 0).1)/\Mem V (Kf (yP step s0 l 0).2) w'):=by
 obtain ⟨R,c0,rfl,P,p⟩:=hl.fm
 refine zI func168 ntmps168 fun Q hQ a J=>?_
 refine go fun a J=>?_
 refine mN (fun mm a w=>∃(i:Nat) (s:σ),mm=l.length - i/\EnvR 19 [(0,.slice R l.length c0),(1,.func (.func g) (List.toArray fs) (List.toArray cs)),(7,.int .i64 l.length),(8,.int .i64 i)] [] a/\Mem V (Kf s) w/\(yP step s0 l 0=yP step s (l.drop i) i)) (l.length - 0) ⟨0,s0,rfl,J.pk,N,rfl⟩ ?_
 clear N J
 rintro mm a w ⟨i,s,o,J,N,j⟩ Y n
 by_cases t:i < l.length
 refine go fun a J=>?_
 obtain ⟨W,rfl,q,f,r,y,u,h⟩:=hl.el p t
 obtain ⟨X,F,rfl,k,m⟩:=RArm.iff.1 h
 obtain ⟨S,c22,rfl,z,C⟩:=k.fm
 obtain ⟨T,G,U,H,rfl,v,I,K,A,D,B,E⟩:=REx.fm m
 refine y1u M (fun d w N a J=>?_) (fun d w N a J=>?_) (c:=by exact L s _ _ _ (mgQ f) h N)
 refine zF ?_
 have b:=j
 rw [zA f] at b
 simp only [yP,d,if_true] at b
 rw [b]
 exact ⟨rfl,N⟩
 refine go fun a J=>?_
 refine n _ _ _ (by subst o;omega) ⟨(i+1),((step s q).2),rfl,J.pk,N,?_⟩
 rw [j,zA f];simp [yP,d]
 refine zF ?_
 have b:=j
 rw [zE t] at b
 simp only [yP] at b
 rw [b]
 exact ⟨rfl,N⟩
theorem z7p {V:Fz} {w:World} {σ:Type} {step:σ->Arm->Bool×σ} {Kf:σ->List Res} {g:Nat} {fs cs:List Value} {s0:σ} {v0:Value} {l:List Arm} (hl:SliceOf RArm V 7 v0 l)
  (d:∀args w,(callFunc g args).run prog w=.ok (.enter g args) w)
  (b:∀s x c w,x∈l->RArm V c x->Mem V (Kf s) w->Calls prog g (fs++[Value.agg c.toArray]++cs).toArray w (fun e w'=>e=.returned (.bool (step s x).1)/\Mem V (Kf (step s x).2) w'))
  (N:Mem V (Kf s0) w):Calls prog 116 #[v0,.func (.func g) fs.toArray cs.toArray] w (fun e w'=>e=.returned (.bool (z3h step s0 l))/\Mem V (Kf (yP step s0 l 0).2) w'):=by
 obtain ⟨j,c0,rfl,f,i⟩:=hl.fm
 refine Calls.mono (R:=fun e w'=>e=.returned (.bool (decide (0<=(yP step s0 l 0).1)))/\Mem V (Kf (yP step s0 l 0).2) w') ?_ (fun e w' h=>by rw [kL] at h;exact h)
 refine zI func116 ntmps116 fun Q hQ a J=>?_
 refine zO call168 (fun w N a J=>?_) (c:=y8y (V:=V) (step:=step) (Kf:=Kf) (s0:=s0) (l:=l) hl d b N)
 refine Qq (fun a J=>?_) (o:=by exact fun J O=>z5d J rfl rfl)
 refine zF ?_
 exact ⟨rfl,N⟩
theorem z9n {p:Arm->Bool} {g:Nat} {fs cs:List Value} {v0:Value} {l:List Arm} (hl:SliceOf RArm V 7 v0 l)
  (d:∀args w,(callFunc g args).run prog w=.ok (.enter g args) w)
  (b:∀x c w,x∈l->RArm V c x->Mem V K w->Calls prog g (fs++[Value.agg c.toArray]++cs).toArray w (fun e w'=>e=.returned (.bool (p x))/\Mem V K w'))
  (N:Mem V K w):Calls prog 116 #[v0,.func (.func g) fs.toArray cs.toArray] w (fun e w'=>e=.returned (.bool (l.any p))/\Mem V K w') :=
 (z7p (σ:=Unit) (step:=fun s x=>(p x,s)) (Kf:=fun _=>K) (s0:=()) hl d (fun _ x c w f a N=>b x c w f a N) N).mono (fun e w' h=>by rw [nL] at h;exact h)
theorem y9a {V:Fz} {w:World} {σ:Type} {step:σ->Fun->Bool×σ} {Kf:σ->List Res} {g:Nat} {fs cs:List Value} {s0:σ} {v0:Value} {l:List Fun} (hl:SliceOf RFun V 8 v0 l)
  (M:∀args w,(callFunc g args).run prog w=.ok (.enter g args) w)
  (L:∀s x c w,x∈l->RFun V c x->Mem V (Kf s) w->Calls prog g (fs++[Value.agg c.toArray]++cs).toArray w (fun e w'=>e=.returned (.bool (step s x).1)/\Mem V (Kf (step s x).2) w'))
  (N:Mem V (Kf s0) w):Calls prog 150 #[v0,.func (.func g) fs.toArray cs.toArray] w (fun e w'=>e=.returned (.int .i64 (yP step s0 l 0).1)/\Mem V (Kf (yP step s0 l 0).2) w'):=by
 obtain ⟨R,c0,rfl,P,p⟩:=hl.fm
 refine zI func150 ntmps150 fun Q hQ a J=>?_
 refine go fun a J=>?_
 refine mN (fun mm a w=>∃(i:Nat) (s:σ),mm=l.length - i/\EnvR 19 [(0,.slice R l.length c0),(1,.func (.func g) (List.toArray fs) (List.toArray cs)),(7,.int .i64 l.length),(8,.int .i64 i)] [] a/\Mem V (Kf s) w/\(yP step s0 l 0=yP step s (l.drop i) i)) (l.length - 0) ⟨0,s0,rfl,J.pk,N,rfl⟩ ?_
 clear N J
 rintro mm a w ⟨i,s,o,J,N,j⟩ Y n
 by_cases t:i < l.length
 refine go fun a J=>?_
 obtain ⟨W,rfl,q,f,r,y,u,h⟩:=hl.el p t
 obtain ⟨X,F,rfl,k,m⟩:=id h
 obtain ⟨S,c22,rfl,z,C⟩:=k.fm
 obtain ⟨T,G,U,H,rfl,v,I,K,A,D,B,E⟩:=REx.fm m
 refine y1u M (fun d w N a J=>?_) (fun d w N a J=>?_) (c:=by exact L s _ _ _ (mgQ f) h N)
 refine zF ?_
 have b:=j
 rw [zA f] at b
 simp only [yP,d,if_true] at b
 rw [b]
 exact ⟨rfl,N⟩
 refine go fun a J=>?_
 refine n _ _ _ (by subst o;omega) ⟨(i+1),((step s q).2),rfl,J.pk,N,?_⟩
 rw [j,zA f];simp [yP,d]
 refine zF ?_
 have b:=j
 rw [zE t] at b
 simp only [yP] at b
 rw [b]
 exact ⟨rfl,N⟩
theorem z7r {V:Fz} {w:World} {σ:Type} {step:σ->Fun->Bool×σ} {Kf:σ->List Res} {g:Nat} {fs cs:List Value} {s0:σ} {v0:Value} {l:List Fun} (hl:SliceOf RFun V 8 v0 l)
  (d:∀args w,(callFunc g args).run prog w=.ok (.enter g args) w)
  (b:∀s x c w,x∈l->RFun V c x->Mem V (Kf s) w->Calls prog g (fs++[Value.agg c.toArray]++cs).toArray w (fun e w'=>e=.returned (.bool (step s x).1)/\Mem V (Kf (step s x).2) w'))
  (N:Mem V (Kf s0) w):Calls prog 96 #[v0,.func (.func g) fs.toArray cs.toArray] w (fun e w'=>e=.returned (.bool (z3h step s0 l))/\Mem V (Kf (yP step s0 l 0).2) w'):=by
 obtain ⟨j,c0,rfl,f,i⟩:=hl.fm
 refine Calls.mono (R:=fun e w'=>e=.returned (.bool (decide (0<=(yP step s0 l 0).1)))/\Mem V (Kf (yP step s0 l 0).2) w') ?_ (fun e w' h=>by rw [kL] at h;exact h)
 refine zI func96 ntmps96 fun Q hQ a J=>?_
 refine zO call150 (fun w N a J=>?_) (c:=y9a (V:=V) (step:=step) (Kf:=Kf) (s0:=s0) (l:=l) hl d b N)
 refine Qq (fun a J=>?_) (o:=by exact fun J O=>z5d J rfl rfl)
 refine zF ?_
 exact ⟨rfl,N⟩
theorem q6a {p:Fun->Bool} {g:Nat} {fs cs:List Value} {v0:Value} {l:List Fun} (hl:SliceOf RFun V 8 v0 l)
  (d:∀args w,(callFunc g args).run prog w=.ok (.enter g args) w)
  (b:∀x c w,x∈l->RFun V c x->Mem V K w->Calls prog g (fs++[Value.agg c.toArray]++cs).toArray w (fun e w'=>e=.returned (.bool (p x))/\Mem V K w'))
  (N:Mem V K w):Calls prog 96 #[v0,.func (.func g) fs.toArray cs.toArray] w (fun e w'=>e=.returned (.bool (l.any p))/\Mem V K w') :=
 (z7r (σ:=Unit) (step:=fun s x=>(p x,s)) (Kf:=fun _=>K) (s0:=()) hl d (fun _ x c w f a N=>b x c w f a N) N).mono (fun e w' h=>by rw [nL] at h;exact h)
theorem y9b {V:Fz} {w:World} {σ:Type} {step:σ->Val->Bool×σ} {Kf:σ->List Res} {g:Nat} {fs cs:List Value} {s0:σ} {v0:Value} {l:List Val} (hl:SliceOf RVal V 3 v0 l)
  (B:∀args w,(callFunc g args).run prog w=.ok (.enter g args) w)
  (A:∀s x c w,x∈l->RVal V c x->Mem V (Kf s) w->Calls prog g (fs++[Value.agg c.toArray]++cs).toArray w (fun e w'=>e=.returned (.bool (step s x).1)/\Mem V (Kf (step s x).2) w'))
  (N:Mem V (Kf s0) w):Calls prog 104 #[v0,.func (.func g) fs.toArray cs.toArray] w (fun e w'=>e=.returned (.int .i64 (yP step s0 l 0).1)/\Mem V (Kf (yP step s0 l 0).2) w'):=by
 obtain ⟨D,c0,rfl,C,n⟩:=hl.fm
 refine zI func104 ntmps104 fun Q hQ a J=>?_
 refine go fun a J=>?_
 refine mN (fun mm a w=>∃(i:Nat) (s:σ),mm=l.length - i/\EnvR 19 [(0,.slice D l.length c0),(1,.func (.func g) (List.toArray fs) (List.toArray cs)),(7,.int .i64 l.length),(8,.int .i64 i)] [] a/\Mem V (Kf s) w/\(yP step s0 l 0=yP step s (l.drop i) i)) (l.length - 0) ⟨0,s0,rfl,J.pk,N,rfl⟩ ?_
 clear N J
 rintro mm a w ⟨i,s,m,J,N,j⟩ G k
 by_cases q:i < l.length
 refine go fun a J=>?_
 obtain ⟨F,rfl,o,f,p,u,r,h⟩:=hl.el n q
 obtain ⟨E,c22,rfl,t,z,v,y⟩:=RVal.fm h
 refine y1u B (fun d w N a J=>?_) (fun d w N a J=>?_) (c:=by exact A s _ _ _ (mgQ f) h N)
 refine zF ?_
 have b:=j
 rw [zA f] at b
 simp only [yP,d,if_true] at b
 rw [b]
 exact ⟨rfl,N⟩
 refine go fun a J=>?_
 refine k _ _ _ (by subst m;omega) ⟨(i+1),((step s o).2),rfl,J.pk,N,?_⟩
 rw [j,zA f];simp [yP,d]
 refine zF ?_
 have b:=j
 rw [zE q] at b
 simp only [yP] at b
 rw [b]
 exact ⟨rfl,N⟩
theorem sZ {V:Fz} {w:World} {σ:Type} {step:σ->Val->Bool×σ} {Kf:σ->List Res} {g:Nat} {fs cs:List Value} {s0:σ} {v0:Value} {l:List Val} (hl:SliceOf RVal V 3 v0 l)
  (d:∀args w,(callFunc g args).run prog w=.ok (.enter g args) w)
  (b:∀s x c w,x∈l->RVal V c x->Mem V (Kf s) w->Calls prog g (fs++[Value.agg c.toArray]++cs).toArray w (fun e w'=>e=.returned (.bool (step s x).1)/\Mem V (Kf (step s x).2) w'))
  (N:Mem V (Kf s0) w):Calls prog 49 #[v0,.func (.func g) fs.toArray cs.toArray] w (fun e w'=>e=.returned (.bool (z3h step s0 l))/\Mem V (Kf (yP step s0 l 0).2) w'):=by
 obtain ⟨j,c0,rfl,f,i⟩:=hl.fm
 refine Calls.mono (R:=fun e w'=>e=.returned (.bool (decide (0<=(yP step s0 l 0).1)))/\Mem V (Kf (yP step s0 l 0).2) w') ?_ (fun e w' h=>by rw [kL] at h;exact h)
 refine zI func49 ntmps49 fun Q hQ a J=>?_
 refine zO call104 (fun w N a J=>?_) (c:=y9b (V:=V) (step:=step) (Kf:=Kf) (s0:=s0) (l:=l) hl d b N)
 refine Qq (fun a J=>?_) (o:=by exact fun J O=>z5d J rfl rfl)
 refine zF ?_
 exact ⟨rfl,N⟩
theorem q6b {p:Val->Bool} {g:Nat} {fs cs:List Value} {v0:Value} {l:List Val} (hl:SliceOf RVal V 3 v0 l)
  (d:∀args w,(callFunc g args).run prog w=.ok (.enter g args) w)
  (b:∀x c w,x∈l->RVal V c x->Mem V K w->Calls prog g (fs++[Value.agg c.toArray]++cs).toArray w (fun e w'=>e=.returned (.bool (p x))/\Mem V K w'))
  (N:Mem V K w):Calls prog 49 #[v0,.func (.func g) fs.toArray cs.toArray] w (fun e w'=>e=.returned (.bool (l.any p))/\Mem V K w') :=
 (sZ (σ:=Unit) (step:=fun s x=>(p x,s)) (Kf:=fun _=>K) (s0:=()) hl d (fun _ x c w f a N=>b x c w f a N) N).mono (fun e w' h=>by rw [nL] at h;exact h)
theorem y8z {V:Fz} {w:World} {σ:Type} {step:σ->Con->Bool×σ} {Kf:σ->List Res} {g:Nat} {fs cs:List Value} {s0:σ} {v0:Value} {l:List Con} (hl:SliceOf RCon V 2 v0 l)
  (A:∀args w,(callFunc g args).run prog w=.ok (.enter g args) w)
  (z:∀s x c w,x∈l->RCon V c x->Mem V (Kf s) w->Calls prog g (fs++[Value.agg c.toArray]++cs).toArray w (fun e w'=>e=.returned (.bool (step s x).1)/\Mem V (Kf (step s x).2) w'))
  (N:Mem V (Kf s0) w):Calls prog 189 #[v0,.func (.func g) fs.toArray cs.toArray] w (fun e w'=>e=.returned (.int .i64 (yP step s0 l 0).1)/\Mem V (Kf (yP step s0 l 0).2) w'):=by
 obtain ⟨C,c0,rfl,B,o⟩:=hl.fm
 refine zI func189 ntmps189 fun Q hQ a J=>?_
 refine go fun a J=>?_
 refine mN (fun mm a w=>∃(i:Nat) (s:σ),mm=l.length - i/\EnvR 19 [(0,.slice C l.length c0),(1,.func (.func g) (List.toArray fs) (List.toArray cs)),(7,.int .i64 l.length),(8,.int .i64 i)] [] a/\Mem V (Kf s) w/\(yP step s0 l 0=yP step s (l.drop i) i)) (l.length - 0) ⟨0,s0,rfl,J.pk,N,rfl⟩ ?_
 clear N J
 rintro mm a w ⟨i,s,n,J,N,j⟩ G m
 by_cases r:i < l.length
 refine go fun a J=>?_
 obtain ⟨E,rfl,p,f,q,u,t,h⟩:=hl.el o r
 obtain ⟨F,rfl,k⟩:=id h
 obtain ⟨D,c22,rfl,v,y⟩:=k.fm
 refine y1u A (fun d w N a J=>?_) (fun d w N a J=>?_) (c:=by exact z s _ _ _ (mgQ f) h N)
 refine zF ?_
 have b:=j
 rw [zA f] at b
 simp only [yP,d,if_true] at b
 rw [b]
 exact ⟨rfl,N⟩
 refine go fun a J=>?_
 refine m _ _ _ (by subst n;omega) ⟨(i+1),((step s p).2),rfl,J.pk,N,?_⟩
 rw [j,zA f];simp [yP,d]
 refine zF ?_
 have b:=j
 rw [zE r] at b
 simp only [yP] at b
 rw [b]
 exact ⟨rfl,N⟩
theorem z7q {V:Fz} {w:World} {σ:Type} {step:σ->Con->Bool×σ} {Kf:σ->List Res} {g:Nat} {fs cs:List Value} {s0:σ} {v0:Value} {l:List Con} (hl:SliceOf RCon V 2 v0 l)
  (d:∀args w,(callFunc g args).run prog w=.ok (.enter g args) w)
  (b:∀s x c w,x∈l->RCon V c x->Mem V (Kf s) w->Calls prog g (fs++[Value.agg c.toArray]++cs).toArray w (fun e w'=>e=.returned (.bool (step s x).1)/\Mem V (Kf (step s x).2) w'))
  (N:Mem V (Kf s0) w):Calls prog 151 #[v0,.func (.func g) fs.toArray cs.toArray] w (fun e w'=>e=.returned (.bool (z3h step s0 l))/\Mem V (Kf (yP step s0 l 0).2) w'):=by
 obtain ⟨j,c0,rfl,f,i⟩:=hl.fm
 refine Calls.mono (R:=fun e w'=>e=.returned (.bool (decide (0<=(yP step s0 l 0).1)))/\Mem V (Kf (yP step s0 l 0).2) w') ?_ (fun e w' h=>by rw [kL] at h;exact h)
 refine zI func151 ntmps151 fun Q hQ a J=>?_
 refine zO call189 (fun w N a J=>?_) (c:=y8z (V:=V) (step:=step) (Kf:=Kf) (s0:=s0) (l:=l) hl d b N)
 refine Qq (fun a J=>?_) (o:=by exact fun J O=>z5d J rfl rfl)
 refine zF ?_
 exact ⟨rfl,N⟩
theorem q5z {p:Con->Bool} {g:Nat} {fs cs:List Value} {v0:Value} {l:List Con} (hl:SliceOf RCon V 2 v0 l)
  (d:∀args w,(callFunc g args).run prog w=.ok (.enter g args) w)
  (b:∀x c w,x∈l->RCon V c x->Mem V K w->Calls prog g (fs++[Value.agg c.toArray]++cs).toArray w (fun e w'=>e=.returned (.bool (p x))/\Mem V K w'))
  (N:Mem V K w):Calls prog 151 #[v0,.func (.func g) fs.toArray cs.toArray] w (fun e w'=>e=.returned (.bool (l.any p))/\Mem V K w') :=
 (z7q (σ:=Unit) (step:=fun s x=>(p x,s)) (Kf:=fun _=>K) (s0:=()) hl d (fun _ x c w f a N=>b x c w f a N) N).mono (fun e w' h=>by rw [nL] at h;exact h)
theorem y1b {V:Fz} {w:World} {σ:Type} {step:σ->Param->Bool×σ} {Kf:σ->List Res} {g:Nat} {fs cs:List Value} {s0:σ} {v0:Value} {l:List Param} (hl:SliceOf RParam V 2 v0 l)
  (v:∀args w,(callFunc g args).run prog w=.ok (.enter g args) w)
  (u:∀s x c w,x∈l->RParam V c x->Mem V (Kf s) w->Calls prog g (fs++[Value.agg c.toArray]++cs).toArray w (fun e w'=>e=.returned (.bool (step s x).1)/\Mem V (Kf (step s x).2) w'))
  (N:Mem V (Kf s0) w):Calls prog 195 #[v0,.func (.func g) fs.toArray cs.toArray] w (fun e w'=>e=.returned (.int .i64 (yP step s0 l 0).1)/\Mem V (Kf (yP step s0 l 0).2) w'):=by
 obtain ⟨z,c0,rfl,y,n⟩:=hl.fm
 refine zI func195 ntmps195 fun Q hQ a J=>?_
 refine go fun a J=>?_
 refine mN (fun mm a w=>∃(i:Nat) (s:σ),mm=l.length - i/\EnvR 19 [(0,.slice z l.length c0),(1,.func (.func g) (List.toArray fs) (List.toArray cs)),(7,.int .i64 l.length),(8,.int .i64 i)] [] a/\Mem V (Kf s) w/\(yP step s0 l 0=yP step s (l.drop i) i)) (l.length - 0) ⟨0,s0,rfl,J.pk,N,rfl⟩ ?_
 clear N J
 rintro mm a w ⟨i,s,m,J,N,j⟩ B k
 by_cases q:i < l.length
 refine go fun a J=>?_
 obtain ⟨A,rfl,o,f,p,t,r,h⟩:=hl.el n q
 obtain rfl:=id h
 refine y1u v (fun d w N a J=>?_) (fun d w N a J=>?_) (c:=by exact u s _ _ _ (mgQ f) h N)
 refine zF ?_
 have b:=j
 rw [zA f] at b
 simp only [yP,d,if_true] at b
 rw [b]
 exact ⟨rfl,N⟩
 refine go fun a J=>?_
 refine k _ _ _ (by subst m;omega) ⟨(i+1),((step s o).2),rfl,J.pk,N,?_⟩
 rw [j,zA f];simp [yP,d]
 refine zF ?_
 have b:=j
 rw [zE q] at b
 simp only [yP] at b
 rw [b]
 exact ⟨rfl,N⟩
theorem z3w {V:Fz} {w:World} {σ:Type} {step:σ->Param->Bool×σ} {Kf:σ->List Res} {g:Nat} {fs cs:List Value} {s0:σ} {v0:Value} {l:List Param} (hl:SliceOf RParam V 2 v0 l)
  (d:∀args w,(callFunc g args).run prog w=.ok (.enter g args) w)
  (b:∀s x c w,x∈l->RParam V c x->Mem V (Kf s) w->Calls prog g (fs++[Value.agg c.toArray]++cs).toArray w (fun e w'=>e=.returned (.bool (step s x).1)/\Mem V (Kf (step s x).2) w'))
  (N:Mem V (Kf s0) w):Calls prog 156 #[v0,.func (.func g) fs.toArray cs.toArray] w (fun e w'=>e=.returned (.bool (z3h step s0 l))/\Mem V (Kf (yP step s0 l 0).2) w'):=by
 obtain ⟨j,c0,rfl,f,i⟩:=hl.fm
 refine Calls.mono (R:=fun e w'=>e=.returned (.bool (decide (0<=(yP step s0 l 0).1)))/\Mem V (Kf (yP step s0 l 0).2) w') ?_ (fun e w' h=>by rw [kL] at h;exact h)
 refine zI func156 ntmps156 fun Q hQ a J=>?_
 refine zO call195 (fun w N a J=>?_) (c:=y1b (V:=V) (step:=step) (Kf:=Kf) (s0:=s0) (l:=l) hl d b N)
 refine Qq (fun a J=>?_) (o:=by exact fun J O=>z5d J rfl rfl)
 refine zF ?_
 exact ⟨rfl,N⟩
theorem y8c {p:Param->Bool} {g:Nat} {fs cs:List Value} {v0:Value} {l:List Param} (hl:SliceOf RParam V 2 v0 l)
  (d:∀args w,(callFunc g args).run prog w=.ok (.enter g args) w)
  (b:∀x c w,x∈l->RParam V c x->Mem V K w->Calls prog g (fs++[Value.agg c.toArray]++cs).toArray w (fun e w'=>e=.returned (.bool (p x))/\Mem V K w'))
  (N:Mem V K w):Calls prog 156 #[v0,.func (.func g) fs.toArray cs.toArray] w (fun e w'=>e=.returned (.bool (l.any p))/\Mem V K w') :=
 (z3w (σ:=Unit) (step:=fun s x=>(p x,s)) (Kf:=fun _=>K) (s0:=()) hl d (fun _ x c w f a N=>b x c w f a N) N).mono (fun e w' h=>by rw [nL] at h;exact h)
theorem q4h {V:Fz} {w:World} {σ:Type} {step:σ->Bs->Bool×σ} {Kf:σ->List Res} {g:Nat} {fs cs:List Value} {s0:σ} {v0:Value} {l:List Bs} (hl:SliceOf RStr V 1 v0 l)
  (v:∀args w,(callFunc g args).run prog w=.ok (.enter g args) w)
  (u:∀s x c w,x∈l->RStr V c x->Mem V (Kf s) w->Calls prog g (fs++[Value.string x]++cs).toArray w (fun e w'=>e=.returned (.bool (step s x).1)/\Mem V (Kf (step s x).2) w'))
  (N:Mem V (Kf s0) w):Calls prog 194 #[v0,.func (.func g) fs.toArray cs.toArray] w (fun e w'=>e=.returned (.int .i64 (yP step s0 l 0).1)/\Mem V (Kf (yP step s0 l 0).2) w'):=by
 obtain ⟨z,c0,rfl,y,p⟩:=hl.fm
 refine zI func194 ntmps194 fun Q hQ a J=>?_
 refine go fun a J=>?_
 refine mN (fun mm a w=>∃(i:Nat) (s:σ),mm=l.length - i/\EnvR 19 [(0,.slice z l.length c0),(1,.func (.func g) (List.toArray fs) (List.toArray cs)),(7,.int .i64 l.length),(8,.int .i64 i)] [] a/\Mem V (Kf s) w/\(yP step s0 l 0=yP step s (l.drop i) i)) (l.length - 0) ⟨0,s0,rfl,J.pk,N,rfl⟩ ?_
 clear N J
 rintro mm a w ⟨i,s,o,J,N,h⟩ B n
 by_cases q:i < l.length
 refine go fun a J=>?_
 obtain ⟨A,rfl,m,f,j,t,r,k⟩:=hl.el p q
 obtain rfl:j=[.string m]:=k
 refine y1u v (fun d w N a J=>?_) (fun d w N a J=>?_) (c:=by exact u s _ _ _ (mgQ f) rfl N)
 refine zF ?_
 have b:=h
 rw [zA f] at b
 simp only [yP,d,if_true] at b
 rw [b]
 exact ⟨rfl,N⟩
 refine go fun a J=>?_
 refine n _ _ _ (by subst o;omega) ⟨(i+1),((step s m).2),rfl,J.pk,N,?_⟩
 rw [h,zA f];simp [yP,d]
 refine zF ?_
 have b:=h
 rw [zE q] at b
 simp only [yP] at b
 rw [b]
 exact ⟨rfl,N⟩
theorem y0x {V:Fz} {w:World} {σ:Type} {step:σ->Bs->Bool×σ} {Kf:σ->List Res} {g:Nat} {fs cs:List Value} {s0:σ} {v0:Value} {l:List Bs} (hl:SliceOf RStr V 1 v0 l)
  (d:∀args w,(callFunc g args).run prog w=.ok (.enter g args) w)
  (b:∀s x c w,x∈l->RStr V c x->Mem V (Kf s) w->Calls prog g (fs++[Value.string x]++cs).toArray w (fun e w'=>e=.returned (.bool (step s x).1)/\Mem V (Kf (step s x).2) w'))
  (N:Mem V (Kf s0) w):Calls prog 154 #[v0,.func (.func g) fs.toArray cs.toArray] w (fun e w'=>e=.returned (.bool (z3h step s0 l))/\Mem V (Kf (yP step s0 l 0).2) w'):=by
 obtain ⟨j,c0,rfl,f,i⟩:=hl.fm
 refine Calls.mono (R:=fun e w'=>e=.returned (.bool (decide (0<=(yP step s0 l 0).1)))/\Mem V (Kf (yP step s0 l 0).2) w') ?_ (fun e w' h=>by rw [kL] at h;exact h)
 refine zI func154 ntmps154 fun Q hQ a J=>?_
 refine zO call194 (fun w N a J=>?_) (c:=q4h (V:=V) (step:=step) (Kf:=Kf) (s0:=s0) (l:=l) hl d b N)
 refine Qq (fun a J=>?_) (o:=by exact fun J O=>z5d J rfl rfl)
 refine zF ?_
 exact ⟨rfl,N⟩
theorem y1x {p:Bs->Bool} {g:Nat} {fs cs:List Value} {v0:Value} {l:List Bs} (hl:SliceOf RStr V 1 v0 l)
  (d:∀args w,(callFunc g args).run prog w=.ok (.enter g args) w)
  (b:∀x c w,x∈l->RStr V c x->Mem V K w->Calls prog g (fs++[Value.string x]++cs).toArray w (fun e w'=>e=.returned (.bool (p x))/\Mem V K w'))
  (N:Mem V K w):Calls prog 154 #[v0,.func (.func g) fs.toArray cs.toArray] w (fun e w'=>e=.returned (.bool (l.any p))/\Mem V K w') :=
 (y0x (σ:=Unit) (step:=fun s x=>(p x,s)) (Kf:=fun _=>K) (s0:=()) hl d (fun _ x c w f a N=>b x c w f a N) N).mono (fun e w' h=>by rw [nL] at h;exact h)
theorem x3d {m:Nat} {d0:List Value} {e:Ex} {b:Nat} (f:REx V d0 e) (n:m < 100000) (q:∀{V:Fz} {K:List Res} {w:World} {d:List Value} {e:Ex},REx V d e->Mem V K w->Calls prog 82 #[.agg d.toArray,.int .i64 m] w (fun ee w'=>ee=.returned (.bool (xN m e))/\Mem V K w')) (N:Mem V (.blk b (ob [.int .i64 ((m+1:Nat):Int)] 3)::K) w) :
  Calls prog 136 #[.agg d0.toArray,.pointer (some ⟨b,0,none⟩)] w (fun ee w'=>ee=.returned (.bool (xN m e))/\Mem V (.blk b (ob [.int .i64 ((m+1:Nat):Int)] 3)::K) w'):=by
 obtain ⟨s,c4,t,k,rfl,g,h2,r,l,p,h,i⟩:=REx.fm f
 refine zI func136 ntmps136 fun Q hQ a J=>?_
 refine Bx fun j w N a J=>?_
 refine Qq (fun a J=>?_) (o:=by exact fun J O=>jT ((m:Nat):Int) J rfl rfl (by rw [yB (by omega)];omega))
 refine zO call82 (fun w N a J=>?_) (c:=q f N)
 refine zF ?_
 replace N:=N.dl [0]
 exact zJ N (by rfl)
theorem x3e {m:Nat} {d0:List Value} {e:Arm} {b:Nat} (f:RArm V d0 e) (u:m < 100000) (y:∀{V:Fz} {K:List Res} {w:World} {d:List Value} {e:Ex},REx V d e->Mem V K w->Calls prog 82 #[.agg d.toArray,.int .i64 m] w (fun ee w'=>ee=.returned (.bool (xN m e))/\Mem V K w')) (N:Mem V (.blk b (ob [.int .i64 ((m+1:Nat):Int)] 3)::K) w) :
  Calls prog 137 #[.agg d0.toArray,.pointer (some ⟨b,0,none⟩)] w (fun ee w'=>ee=.returned (.bool (xN m e.body))/\Mem V (.blk b (ob [.int .i64 ((m+1:Nat):Int)] 3)::K) w'):=by
 obtain ⟨s1,B,rfl,h2,g⟩:=RArm.iff.1 f
 obtain ⟨C,c4,rfl,t,v⟩:=h2.fm
 obtain ⟨z,p,A,q,rfl,h,r,s,i,k,j,l⟩:=REx.fm g
 refine zI func137 ntmps137 fun Q hQ a J=>?_
 refine Bx fun n w N a J=>?_
 refine Qq (fun a J=>?_) (o:=by exact fun J O=>jT ((m:Nat):Int) J rfl rfl (by rw [yB (by omega)];omega))
 refine zO call82 (fun w N a J=>?_) (c:=y g N)
 refine zF ?_
 replace N:=N.dl [0]
 exact zJ N (by rfl)
theorem j8y {d0:List Value} {e:Ex} (b:REx V d0 e) (N:Mem V K w) :
  Calls prog 82 #[.agg d0.toArray,.int .i64 ((0:Nat):Int)] w (fun ee w'=>ee=.returned (.bool (xN 0 e))/\Mem V K w'):=by
 obtain ⟨m,c4,n,i,rfl,c,h2,l,j,k,d,f⟩:=REx.fm b
 refine zI func82 ntmps82 fun Q hQ a J=>?_
 refine Bx fun g w N a J=>?_
 refine Bx fun h w N a J=>?_
 refine Qq (fun a J=>?_) (o:=by exact fun J O=>xH true J rfl rfl rfl)
 refine zF ?_
 replace N:=N.dl [1,0]
 exact zJ N (by rw [y3r])
theorem j8x {d0:List Value} {e:Ex} {m:Nat} (l:REx V d0 e) (i:m < 100000) (r:∀{V:Fz} {K:List Res} {w:World} {d:List Value} {e:Ex},REx V d e->Mem V K w->Calls prog 82 #[.agg d.toArray,.int .i64 m] w (fun ee w'=>ee=.returned (.bool (xN m e))/\Mem V K w')) (N:Mem V K w) :
  Calls prog 82 #[.agg d0.toArray,.int .i64 ((m+1:Nat):Int)] w (fun ee w'=>ee=.returned (.bool (xN (m+1) e))/\Mem V K w'):=by
 obtain ⟨s,c4,t,g,rfl,n,h2,u,v,y,o,q⟩:=REx.fm l
 refine zI func82 ntmps82 fun Q hQ a J=>?_
 refine Bx fun f w N a J=>?_
 refine Bx fun b w N a J=>?_
 by_cases j:m+1=0
 refine zF ?_
 replace N:=N.dl [1,0]
 exact zJ N (by exact absurd j (by omega))
 refine zX call115 (fun h w N a J=>?_) (fun h w N a J=>?_) (c:=y1y (V:=V) (K:=.blk b (ob [.int .i64 ((m+1:Nat):Int)] 3)::.blk f (ob [.int .i64 (e.kind),.int .i64 (e.num),.string e.name,.slice s e.args.length c4,.slice t e.arms.length g] 66)::K) (p:=xN m) (fs:=[]) (cs:=[.pointer (some ⟨b,0,none⟩)]) h2 call136 (fun x c w z k N=>x3d k i r N) N)
 refine zF ?_
 replace N:=N.dl [1,0]
 exact zJ N (by rw [z4b];simp [*])
 refine zO call116 (fun w N a J=>?_) (c:=z9n (V:=V) (K:=.blk b (ob [.int .i64 ((m+1:Nat):Int)] 3)::.blk f (ob [.int .i64 (e.kind),.int .i64 (e.num),.string e.name,.slice s e.args.length c4,.slice t e.arms.length g] 66)::K) (p:=fun a=>xN m a.body) (fs:=[]) (cs:=[.pointer (some ⟨b,0,none⟩)]) u call137 (fun x c w z k N=>x3e k i r N) N)
 refine zF ?_
 replace N:=N.dl [1,0]
 exact zJ N (by rw [z4b];simp [*])
end
theorem q4p {V:Fz} {K:List Res} {w:World} {left:Int} {d0:List Value} {e:Ex} {b:Nat} (L:REx V d0 e) (h0:0<=left) (h1:left<=1000000) (ih:∀x:Ex,x.sz < e.sz->∀{V:Fz} {K:List Res} {w:World} {d:List Value} {b:Nat} {left:Int},0<=left->left<=1000000->REx V d x->Mem V (.blk b (ob [.int .i64 left] 3)::K) w->Calls prog 83 #[.agg d.toArray,.pointer (some ⟨b,0,none⟩)] w (fun ee w'=>ee=.returned (.bool (jJ x left).1)/\Mem V (.blk b (ob [.int .i64 (jJ x left).2] 3)::K) w')) (N:Mem V (.blk b (ob [.int .i64 (left)] 3)::K) w) :
  Calls prog 83 #[.agg d0.toArray,.pointer (some ⟨b,0,none⟩)] w (fun ee w'=>ee=.returned (.bool ((jJ e left).1))/\Mem V (.blk b (ob [.int .i64 ((jJ e left).2)] 3)::K) w'):=by
 obtain ⟨p3,c4,p9,w0,rfl,U,h2,h8,F0,I,a0,E⟩:=REx.fm L
 refine zI func83 ntmps83 fun Q hQ a J=>?_
 refine Bx fun r0 w N a J=>?_
 refine Qq (fun a J=>?_) (o:=by exact fun J O=>jT (left - 1) J rfl rfl (by rw [yB (by omega)]))
 refine Sto 1 fun w N a J=>?_
 by_cases G:left - 1 < 0
 refine zF ?_
 replace N:=N.dl [0]
 have hr_:jJ e left=(true,left - 1):=by rw [z6h,if_pos G]
 show _/\_;rw [hr_];exact ⟨rfl,N⟩
 refine go fun a J=>?_
 refine zR (J.ks [1,2,19,20]) N (fun R mm a w=>∃(i:Nat) (q:Int),mm=e.args.length - i/\R V [(21,.int .i64 i)] [(1,.blk b (ob [.int .i64 (q)] 3))] a w/\(0<=q/\q<=1000000/\jJ e left=z1n e.arms (meass (e.args.drop i) q))) (e.args.length - 0) ⟨0,left - 1,rfl,⟨J.pk,N⟩,by refine ⟨by omega,by omega,?_⟩;rw [z6h,if_neg (by omega)];rfl⟩ ?_
 clear N J
 rintro mm a w ⟨i,q,r,⟨J,N⟩,A⟩ p0 C
 replace N:=N.nf
 obtain ⟨s,t,f⟩:=A
 by_cases v:i < e.args.length
 refine go fun a J=>?_
 obtain ⟨L0,rfl,u,k,M,Y,S,m⟩:=h2.el I v
 obtain ⟨G0,c40,H0,c46,rfl,W,A0,B0,b0,j0,c0,k0⟩:=REx.fm m
 refine Alc fun s0 w N a J=>?_
 refine Sto 0 fun w N a J=>?_
 replace N:=N.pl 2
 refine zX call83 (fun h w N a J=>?_) (fun h w N a J=>?_) (c:=ih _ (by first | exact Ex.lt_args (mgQ k) | exact Ex.lt_arms (mgQ k)) (by omega) (by omega) m N)
 refine zF ?_
 replace N:=N.dl [2,1]
 have hr_:jJ e left=(true,(jJ u q).2):=by rw [f,zA k,uJ,h];rfl
 show _/\_;rw [hr_];exact ⟨rfl,N⟩
 refine go fun a J=>?_
 replace N:=N.ar [1] [1]
 refine C _ _ _ (by subst r;omega) ⟨(i+1),((jJ u q).2),rfl,⟨J.pk,N⟩,?_⟩
 have p:=aI u q h
 refine ⟨p.1,by omega,?_⟩
 rw [f,zA k,uJ,h];rfl
 refine go fun a J=>?_
 refine zR (J.ks [1,30,31]) N (fun R mm a w=>∃(i:Nat) (q:Int),mm=e.arms.length - i/\R V [(32,.int .i64 i)] [(1,.blk b (ob [.int .i64 (q)] 3))] a w/\(0<=q/\q<=1000000/\jJ e left=measa (e.arms.drop i) q)) (e.arms.length - 0) ⟨0,q,rfl,⟨J.pk,N⟩,by refine ⟨s,t,?_⟩;rw [f,zE v];rfl⟩ ?_
 clear N J
 rintro mm a w ⟨i,q,r,⟨J,N⟩,B⟩ q0 D
 replace N:=N.nf
 clear s t f
 obtain ⟨s,t,f⟩:=B
 by_cases y:i < e.arms.length
 refine go fun a J=>?_
 obtain ⟨M0,rfl,l,g,P,Z,T,F⟩:=h8.el E y
 obtain ⟨N0,t0,rfl,H,z⟩:=RArm.iff.1 F
 obtain ⟨I0,x0,rfl,f0,l0⟩:=H.fm
 obtain ⟨J0,y0,K0,z0,rfl,X,D0,E0,g0,m0,i0,n0⟩:=REx.fm z
 refine Alc fun u0 w N a J=>?_
 refine Sto 0 fun w N a J=>?_
 refine go fun a J=>?_
 by_cases n:16 < l.vars.length
 refine zF ?_
 replace N:=N.dl [1,0]
 have hr_:jJ e left=(true,q):=by rw [f,zA g,oQ,if_pos n]
 show _/\_;rw [hr_];exact ⟨rfl,N⟩
 replace N:=N.pl 2
 refine zX call83 (fun j w N a J=>?_) (fun j w N a J=>?_) (c:=ih _ (by first | exact Ex.lt_args (mgQ g) | exact Ex.lt_arms (mgQ g)) (by omega) (by omega) z N)
 refine zF ?_
 replace N:=N.dl [2,1]
 have hr_:jJ e left=(true,(jJ l.body q).2):=by rw [f,zA g,oQ,if_neg n,j];rfl
 show _/\_;rw [hr_];exact ⟨rfl,N⟩
 refine go fun a J=>?_
 replace N:=N.ar [1] [1]
 refine D _ _ _ (by subst r;omega) ⟨(i+1),((jJ l.body q).2),rfl,⟨J.pk,N⟩,?_⟩
 have p:=aI l.body q j
 refine ⟨p.1,by omega,?_⟩
 rw [f,zA g,oQ,if_neg n,j];rfl
 refine zF ?_
 replace N:=N.dl [0]
 have hr_:jJ e left=(false,q):=by rw [f,zE y];rfl
 show _/\_;rw [hr_];exact ⟨rfl,N⟩
theorem j2r {V:Fz} {K:List Res} {w:World} {d:List Value} {e:Ex} {b:Nat} {left:Int} (a:0<=left) (h1:left<=1000000) (re:REx V d e) (N:Mem V (.blk b (ob [.int .i64 left] 3)::K) w) :
  Calls prog 83 #[.agg d.toArray,.pointer (some ⟨b,0,none⟩)] w (fun ee w'=>ee=.returned (.bool (jJ e left).1)/\Mem V (.blk b (ob [.int .i64 (jJ e left).2] 3)::K) w'):=by
 suffices H:∀n (e:Ex),e.sz < n->∀{V:Fz} {K:List Res} {w:World} {d:List Value} {b:Nat} {left:Int},0<=left->left<=1000000->REx V d e->Mem V (.blk b (ob [.int .i64 left] 3)::K) w->Calls prog 83 #[.agg d.toArray,.pointer (some ⟨b,0,none⟩)] w (fun ee w'=>ee=.returned (.bool (jJ e left).1)/\Mem V (.blk b (ob [.int .i64 (jJ e left).2] 3)::K) w') from H _ e (Nat.lt_succ_self _) a h1 re N
 intro n
 induction n with
 | zero=>intro e h;omega
 | succ n f=>intro e h V K w d b left a h1 re N;exact q4p re a h1 (fun x g _ _ _ _ _ _ c g1 r m=>f x (by omega) c g1 r m) N
section
variable {V:Fz} {K:List Res} {w:World}
theorem x1f {e:Ex} {d0:List Value} {ar:Arm} (b:RArm V d0 ar) (O:ar.body.sz < e.sz) (s:∀x:Ex,x.sz < e.sz->∀{V:Fz} {K:List Res} {w:World} {d:List Value},REx V d x->Mem V K w->Calls prog 63 #[.agg d.toArray] w (fun ee w'=>ee=.returned (.bool (wD x))/\Mem V K w')) (N:Mem V K w) :
  Calls prog 117 #[.agg d0.toArray] w (fun ee w'=>ee=.returned (.bool (wD ar.body))/\Mem V K w'):=by
 obtain ⟨s1,v,rfl,h2,p⟩:=RArm.iff.1 b
 obtain ⟨y,c4,rfl,q,r⟩:=h2.fm
 obtain ⟨t,l,u,m,rfl,f,n,o,g,i,h,j⟩:=REx.fm p
 refine zI func117 ntmps117 fun Q hQ a J=>?_
 refine Bx fun k w N a J=>?_
 refine zO call63 (fun w N a J=>?_) (c:=s _ O (by assumption) N)
 refine zF ?_
 replace N:=N.dl [0]
 exact zJ N (by rfl)
theorem j3m {d0:List Value} {e:Ex} (j:REx V d0 e) (n:∀x:Ex,x.sz < e.sz->∀{V:Fz} {K:List Res} {w:World} {d:List Value},REx V d x->Mem V K w->Calls prog 63 #[.agg d.toArray] w (fun ee w'=>ee=.returned (.bool (wD x))/\Mem V K w')) (N:Mem V K w) :
  Calls prog 63 #[.agg d0.toArray] w (fun ee w'=>ee=.returned (.bool (wD e))/\Mem V K w'):=by
 obtain ⟨o,c4,q,f,rfl,k,h2,s,t,u,l,m⟩:=REx.fm j
 refine zI func63 ntmps63 fun Q hQ a J=>?_
 refine Bx fun b w N a J=>?_
 by_cases r:e.kind=3
 refine zF ?_
 replace N:=N.dl [0]
 exact zJ N (by rw [z8v];simp [*])
 refine zX call115 (fun g w N a J=>?_) (fun g w N a J=>?_) (c:=y1y (V:=V) (K:=.blk b (ob [.int .i64 (e.kind),.int .i64 (e.num),.string e.name,.slice o e.args.length c4,.slice q e.arms.length f] 66)::K) (p:=wD) (fs:=[]) (cs:=[]) h2 call63 (fun x c w i h N=>n x (Ex.lt_args i) h N) N)
 refine zF ?_
 replace N:=N.dl [0]
 exact zJ N (by rw [z8v];simp [*])
 refine zO call116 (fun w N a J=>?_) (c:=z9n (V:=V) (K:=.blk b (ob [.int .i64 (e.kind),.int .i64 (e.num),.string e.name,.slice o e.args.length c4,.slice q e.arms.length f] 66)::K) (p:=fun a=>wD a.body) (fs:=[]) (cs:=[]) s call117 (fun x c w i h N=>x1f h (Ex.lt_arms i) n N) N)
 refine zF ?_
 replace N:=N.dl [0]
 exact zJ N (by rw [z8v];simp [*])
theorem q9f {d:List Value} {e:Ex} (re:REx V d e) (N:Mem V K w) :
  Calls prog 63 #[.agg d.toArray] w (fun ee w'=>ee=.returned (.bool (wD e))/\Mem V K w'):=by
 suffices H:∀n (e:Ex),e.sz < n->∀{V:Fz} {K:List Res} {w:World} {d:List Value},REx V d e->Mem V K w->Calls prog 63 #[.agg d.toArray] w (fun ee w'=>ee=.returned (.bool (wD e))/\Mem V K w') from H _ e (Nat.lt_succ_self _) re N
 intro n
 induction n with
 | zero=>intro e h;omega
 | succ n a=>intro e h V K w d re N;exact j3m re (fun x b _ _ _ _ r m=>a x (by omega) r m) N
theorem deep_ok {m:Nat} (a:m < 100000):∀{V:Fz} {K:List Res} {w:World} {d:List Value} {e:Ex},REx V d e->Mem V K w->Calls prog 82 #[.agg d.toArray,.int .i64 m] w (fun ee w'=>ee=.returned (.bool (xN m e))/\Mem V K w'):=by
 induction m with
 | zero=>intro V K w d e re N;exact j8y re N
 | succ m b=>intro V K w d e re N;exact j8x re (by omega) (fun r h=>b (by omega) r h) N
theorem x5r {d0:List Value} {f:Fun} (b:RFun V d0 f) (N:Mem V K w) :
  Calls prog 97 #[.agg d0.toArray] w (fun ee w'=>ee=.returned (.bool (xN 250 f.body))/\Mem V K w'):=by
 obtain ⟨s1,u,rfl,h2,d⟩:=id b
 obtain ⟨v,c4,rfl,q,r⟩:=h2.fm
 obtain ⟨s,l,t,n,rfl,e,o,p,g,i,h,j⟩:=REx.fm d
 refine zI func97 ntmps97 fun Q hQ a J=>?_
 refine Bx fun k w N a J=>?_
 refine zO call82 (fun w N a J=>?_) (c:=deep_ok (m:=250) (by omega) d N)
 refine zF ?_
 replace N:=N.dl [0]
 exact zJ N (by rfl)
theorem x5p {d0:List Value} {x:Con} (b:RCon V d0 x) (N:Mem V K w) :
  Calls prog 152 #[.agg d0.toArray] w (fun ee w'=>ee=.returned (.bool (decide (16 < x.fields.length)))/\Mem V K w'):=by
 obtain ⟨s1,rfl,h2⟩:=id b
 obtain ⟨f,c4,rfl,c,d⟩:=h2.fm
 refine zI func152 ntmps152 fun Q hQ a J=>?_
 refine Bx fun e w N a J=>?_
 refine Qq (fun a J=>?_) (o:=by exact fun J O=>j5c (i:=x.fields.length) (j:=16) J rfl rfl)
 refine zF ?_
 replace N:=N.dl [0]
 exact zJ N (by exact decide_eq_decide.2 (by omega))
end
theorem x5q {V:Fz} {K:List Res} {w:World} {d0:List Value} {c:Core} {vx:Value} (b0:RCoreX V d0 c vx) (N:Mem V K w) :
  Calls prog 98 #[.agg d0.toArray] w (fun ee w'=>ee=.returned (.bool (kO c))/\Mem V K w'):=by
 obtain ⟨s1,s2,s3,q4,I,rfl,rfl,h6,h7,h8⟩:=id b0
 obtain ⟨p9,E,rfl,o0,v⟩:=h6.fm
 obtain ⟨X,F,rfl,p0,w0⟩:=h7.fm
 obtain ⟨Y,G,rfl,q0,y⟩:=h8.fm
 refine zI func98 ntmps98 fun Q hQ a J=>?_
 refine Bx fun B w N a J=>?_
 by_cases L:60 < c.datas.length
 refine zF ?_
 replace N:=N.dl [0]
 exact zJ N (by simp [kO,L])
 by_cases M:6 < c.inputs.length
 refine zF ?_
 replace N:=N.dl [0]
 exact zJ N (by simp [kO,M])
 by_cases P:300 < c.funs.length
 refine zF ?_
 replace N:=N.dl [0]
 exact zJ N (by simp [kO,P])
 refine go fun a J=>?_
 by_cases S:6 < c.outputs.length
 refine zF ?_
 replace N:=N.dl [0]
 exact zJ N (by simp [kO,S])
 refine go fun a J=>?_
 refine zR (J.ks [1,31,32]) N (fun R mm a w=>∃(i:Nat),mm=c.datas.length - i/\R V [(33,.int .i64 i)] [] a w/\(kO c=((c.datas.drop i).any sH || gL c.funs 6000))) (c.datas.length - 0) ⟨0,rfl,⟨J.pk,N⟩,by simp [kO, *]⟩ ?_
 clear N J
 rintro mm a w ⟨i,h,⟨J,N⟩,b⟩ B0 t
 by_cases l:i < c.datas.length
 refine go fun a J=>?_
 obtain ⟨a0,rfl,j,e,f0,m0,k0,z⟩:=h6.el v l
 obtain ⟨T0,rfl,m⟩:=id z
 obtain ⟨Z,H,rfl,r0,x0⟩:=m.fm
 refine Alc fun C w N a J=>?_
 refine Sto 0 fun w N a J=>?_
 by_cases H0:16 < j.cons.length
 refine zF ?_
 replace N:=N.dl [1,0]
 exact zJ N (by rw [b,zA e];simp [sH, *])
 refine zX call151 (fun r w N a J=>?_) (fun r w N a J=>?_) (c:=q5z (V:=V) (K:=.blk C (ob [.string j.name,.slice Z j.cons.length H] 133)::.blk B (ob [.slice (some a0) c.datas.length E,.slice X c.inputs.length F,.slice Y c.funs.length G,.slice q4 c.outputs.length I] 27)::K) (p:=fun x=>decide (16 < x.fields.length)) (fs:=[]) (cs:=[]) m call152 (fun x c w hx hc N=>x5p hc N) N)
 refine zF ?_
 replace N:=N.dl [1,0]
 exact zJ N (by rw [b,zA e];simp [sH, *])
 refine go fun a J=>?_
 replace N:=N.dl [0]
 refine t _ _ _ (by subst h;omega) ⟨(i+1),rfl,⟨J.pk,N⟩,?_⟩
 rw [b,zA e];simp [sH, *]
 refine Alc fun D w N a J=>?_
 refine Sto 0 fun w N a J=>?_
 refine go fun a J=>?_
 refine zR (J.ks [5,48,49]) N (fun R mm a w=>∃(i:Nat) (q:Int),mm=c.funs.length - i/\R V [(50,.int .i64 i)] [(0,.blk D (ob [.int .i64 (q)] 3))] a w/\(0<=q/\q<=1000000/\kO c=gL (c.funs.drop i) q)) (c.funs.length - 0) ⟨0,6000,rfl,⟨J.pk,N⟩,by refine ⟨by omega,by omega,?_⟩;rw [b,zE l];rfl⟩ ?_
 clear N J
 rintro mm a w ⟨i,q,h,⟨J,N⟩,s⟩ C0 u
 replace N:=N.nf
 obtain ⟨M0,N0,g⟩:=s
 by_cases n:i < c.funs.length
 refine go fun a J=>?_
 obtain ⟨S0,rfl,k,f,g0,n0,l0,A⟩:=h8.el y n
 obtain ⟨U0,D0,rfl,T,o⟩:=id A
 obtain ⟨O0,E0,rfl,s0,y0⟩:=T.fm
 obtain ⟨P0,F0,Q0,G0,rfl,U,J0,K0,t0,z0,u0,A0⟩:=REx.fm o
 refine Alc fun c0 w N a J=>?_
 refine Sto 0 fun w N a J=>?_
 refine go fun a J=>?_
 by_cases h0:16 < k.params.length
 refine zF ?_
 replace N:=N.dl [2,1,0]
 exact zJ N (by rw [g,zA f];simp [gL, *])
 replace N:=N.pl 1
 refine zX call83 (fun d w N a J=>?_) (fun d w N a J=>?_) (c:=j2r (by omega) (by omega) o N)
 refine zF ?_
 replace N:=N.dl [2,1,0]
 exact zJ N (by rw [g,zA f];simp [gL, *])
 refine go fun a J=>?_
 replace N:=N.dl [1]
 refine u _ _ _ (by subst h;omega) ⟨(i+1),((jJ k.body q).2),rfl,⟨J.pk,N⟩,?_⟩
 have W:=aI k.body q d
 refine ⟨W.1,by omega,?_⟩
 rw [g,zA f];simp [gL, *]
 refine zF ?_
 replace N:=N.dl [1,0]
 exact zJ N (by rw [g,zE n];rfl)
theorem y9d {V:Fz} {K:List Res} {w:World} {name:Bs} {s:Bs} {b:Nat}  (N:Mem V (.blk b (ob [.string name] 9)::K) w) :
  Calls prog 166 #[.string s,.pointer (some ⟨b,0,none⟩)] w (fun ee w'=>ee=.returned (.bool (inF name s))/\Mem V (.blk b (ob [.string name] 9)::K) w'):=by
 refine zI func166 ntmps166 fun Q hQ a J=>?_
 by_cases c:s=(⟨#[73,110,116]⟩:Bs)
 refine zF ?_
 exact zJ N (by simp [inF,yL, *])
 refine Qq (fun a J=>?_) (o:=by exact fun J O=>j8b J rfl rfl)
 refine zF ?_
 exact zJ N (by simp [inF,yL, *])
theorem z5z {V:Fz} {K:List Res} {w:World} {v0:Value} {ds:List Data} {name:Bs} (m:SliceOf RData V 2 v0 ds) (N:Mem V K w) :
  Calls prog 114 #[v0,.string name] w (fun ee w'=>ee=.returned (.bool (xD ds name))/\Mem V K w'):=by
 obtain ⟨p0,c0,rfl,g0,F⟩:=m.fm
 refine zI func114 ntmps114 fun Q hQ a J=>?_
 refine Bx fun I w N a J=>?_
 by_cases h5:name=(⟨#[73,110,116]⟩:Bs)
 refine zF ?_
 replace N:=N.dl [0]
 exact zJ N (by simp [xD,yL,h5])
 refine go fun a J=>?_
 refine zR (J.ks [3,13,14]) N (fun R mm a w=>∃(i:Nat) (nn:Int) (o:Bool),mm=ds.length - i/\R V [(5,.int .i64 (nn)),(6,.bool o),(15,.int .i64 i)] [] a w/\(mY name ds 0 true=mY name (ds.drop i) nn o)) (ds.length - 0) ⟨0,0,true,rfl,⟨J.pk,N⟩,rfl⟩ ?_
 clear N J
 rintro mm a w ⟨i,nn,o,e,⟨J,N⟩,d⟩ Z j
 by_cases n:i < ds.length
 refine go fun a J=>?_
 obtain ⟨i0,rfl,b,l,L,T,P,v⟩:=m.el F n
 obtain ⟨j0,rfl,r⟩:=id v
 obtain ⟨h0,C,rfl,W,u⟩:=r.fm
 refine Alc fun A w N a J=>?_
 refine Sto 0 fun w N a J=>?_
 by_cases b0:b.name=name
 refine Qq (fun a J=>?_) (o:=by exact fun J O=>z0p _ J rfl rfl rfl)
 refine go fun a J=>?_
 refine zR (J.ks [3,5,13,14,15,26,27]) N (fun R mm a w=>∃(k:Nat) (q:Bool),mm=b.cons.length - k/\R V [(6,.bool q),(28,.int .i64 k)] [] a w/\(dZ name b.cons o=dZ name (b.cons.drop k) q)) (b.cons.length - 0) ⟨0,o,rfl,⟨J.pk,N⟩,rfl⟩ ?_
 clear N J
 rintro mm a w ⟨k,q,e,⟨J,N⟩,f⟩ a0 g
 by_cases E:k < b.cons.length
 refine go fun a J=>?_
 obtain ⟨H,rfl,z,h,M,U,S,y⟩:=r.el u E
 obtain ⟨k0,rfl,s⟩:=id y
 obtain ⟨G,D,rfl,X,Y⟩:=s.fm
 refine Alc fun B w N a J=>?_
 refine Sto 0 fun w N a J=>?_
 refine go fun a J=>?_
 cases q
 refine go fun a J=>?_
 replace N:=N.dl [0]
 refine g _ _ _ (by subst e;omega) ⟨(k+1),(false),rfl,⟨J.pk,N⟩,?_⟩
 rw [f,zA h];simp [dZ, *]
 replace N:=N.pl 2
 refine zX call154 (fun t w N a J=>?_) (fun t w N a J=>?_) (c:=y1x (V:=V) (K:=.blk I (ob [.string name] 9)::.blk B (ob [.string z.name,.slice G z.fields.length D] 135)::.blk A (ob [.string b.name,.slice (some H) b.cons.length C] 133)::K) (p:=inF name) (fs:=[]) (cs:=[.pointer (some ⟨I,0,none⟩)]) s call166 (fun x c w hx hc N=>y9d N) N)
 refine go fun a J=>?_
 replace N:=N.ar [1] [1]
 refine g _ _ _ (by subst e;omega) ⟨(k+1),(false),rfl,⟨J.pk,N⟩,?_⟩
 rw [f,zA h];simp [dZ, *]
 refine go fun a J=>?_
 replace N:=N.ar [1] [1]
 refine g _ _ _ (by subst e;omega) ⟨(k+1),(true),rfl,⟨J.pk,N⟩,?_⟩
 rw [f,zA h];simp [dZ, *]
 refine go fun a J=>?_
 replace N:=N.dl [0]
 refine j _ _ _ (by subst e;omega) ⟨(i+1),(IntKind.i64.wrap (nn+1)),(q),rfl,⟨J.pk,N⟩,?_⟩
 rw [d,zA l];simp [zE,mY,dZ, *]
 refine go fun a J=>?_
 replace N:=N.dl [0]
 refine j _ _ _ (by subst e;omega) ⟨(i+1),(nn),(o),rfl,⟨J.pk,N⟩,?_⟩
 rw [d,zA l];simp [zE,mY,dZ, *]
 by_cases f0:nn=1
 refine zF ?_
 replace N:=N.dl [0]
 exact zJ N (by rw [zE n] at d;simp [xD,yL,mY, *])
 refine zF ?_
 replace N:=N.dl [0]
 exact zJ N (by rw [zE n] at d;simp [xD,yL,mY, *])
theorem q3g {V:Fz} {K:List Res} {w:World} {l:List Bs} {d0:List Value} {e:Ex} {v:Value} (z0:REx V d0 e) (hb:l.length+(yH e).length<=8796093000000) (ih:∀x:Ex,x.sz < e.sz->∀{V:Fz} {K:List Res} {w:World} {d:List Value} {v:Value} {l:List Bs},l.length+(yH x).length<=8796093000000->REx V d x->Mem V (.gs v 9 1 (strs l)::K) w->Calls prog 85 #[.agg d.toArray,v] w (fun ee w'=>∃v,ee=.returned v/\Mem V (.gs v 9 1 (strs (l++yH x))::K) w')) (N:Mem V (.gs v 9 1 (strs l)::K) w) :
  Calls prog 85 #[.agg d0.toArray,v] w (fun ee w'=>∃v,ee=.returned v/\Mem V (.gs v 9 1 (strs (l++yH e))::K) w'):=by
 obtain ⟨I,c4,L,p,rfl,U0,h2,h8,G1,X,Z0,C⟩:=REx.fm z0
 refine zI func85 ntmps85 fun Q hQ a J=>?_
 refine Bx fun o w N a J=>?_
 by_cases B1:e.kind=6
 refine yK fun b0 w N a J=>?_
 refine yU 2 vA (fun v20 w N a J=>?_) (hb:=by simp [zZ];omega)
 first | rw [qM] at N | rw [<- yE] at N
 refine go fun a J=>?_
 refine mN (fun mm a w=>∃(i:Nat) (u:Value) (m:List Bs),mm=e.args.length - i/\EnvR 44 [(1,u),(2,.pointer (some ⟨o,0,none⟩)),(18,.slice I e.args.length c4),(19,.int .i64 e.args.length),(20,.int .i64 i)] [] a/\Mem V (.gs (b0) 9 1 [.string e.name]::.blk o (ob [.int .i64 (e.kind),.int .i64 (e.num),.string e.name,.slice I e.args.length c4,.slice L e.arms.length p] 66)::.gs (u) 9 1 (strs m)::K) w/\(l++yH e=m++bindPs (e.args.drop i)++bindPa e.arms)) (e.args.length - 0) ⟨0,v20,(l++[e.name]),rfl,J.pk,N,by rw [dC];simp [*]⟩ ?_
 clear N J
 rintro mm a w ⟨i,u,m,h,J,N,q⟩ u1 T
 by_cases M:i < e.args.length
 refine go fun a J=>?_
 obtain ⟨M1,rfl,B0,n,L0,X0,S0,D⟩:=h2.el X M
 obtain ⟨H1,c40,I1,c46,rfl,V0,C1,D1,a1,f1,b1,g1⟩:=REx.fm D
 refine Alc fun x1 w N a J=>?_
 refine Sto 0 fun w N a J=>?_
 refine go fun a J=>?_
 replace N:=N.pl 3
 refine st J rfl rfl rfl (kG J rfl call85 (ih _ (by first | exact Ex.lt_args (mgQ n) | exact Ex.lt_arms (mgQ n)) (l:=m) (by have hq:=congrArg List.length q;rw [zA n] at hq;simp only [bindPs,qO,laQ] at hq hb ⊢;omega) D N) fun v51 w N a J=>?_)
 replace N:=N.nf
 refine go fun a J=>?_
 replace N:=N.ar [1] [2,2]
 refine T _ _ _ (by subst h;omega) ⟨(i+1),(v51),((m++yH B0)),rfl,J.pk,N,?_⟩
 rw [q,zA n];simp [bindPs]
 refine go fun a J=>?_
 refine mN (fun mm a w=>∃(j:Nat) (G:Value) (m2:List Bs),mm=e.arms.length - j/\EnvR 44 [(1,G),(29,.slice L e.arms.length p),(30,.int .i64 e.arms.length),(31,.int .i64 j)] [] a/\Mem V (.gs (b0) 9 1 [.string e.name]::.blk o (ob [.int .i64 (e.kind),.int .i64 (e.num),.string e.name,.slice I e.args.length c4,.slice L e.arms.length p] 66)::.gs (G) 9 1 (strs m2)::K) w/\(l++yH e=m2++bindPa (e.arms.drop j))) (e.arms.length - 0) ⟨0,u,m,rfl,J.pk,N,by rw [q,zE M];simp [bindPs]⟩ ?_
 clear N J
 rintro mm a w ⟨j,G,m2,h,J,N,k⟩ v1 U
 by_cases P:j < e.arms.length
 refine go fun a J=>?_
 obtain ⟨N1,rfl,H,g,M0,Y0,T0,Y⟩:=h8.el C P
 obtain ⟨O1,y1,rfl,R,S⟩:=RArm.iff.1 Y
 obtain ⟨J1,c72,rfl,c1,i1⟩:=R.fm
 obtain ⟨K1,c80,L1,A1,rfl,W0,E1,F1,d1,j1,e1,k1⟩:=REx.fm S
 refine Alc fun z1 w N a J=>?_
 refine Sto 0 fun w N a J=>?_
 refine Reg [1,2,1,1,2,0,0,1] [0,1,2] fun w N a J=>?_
 refine yU 3 vA (fun P1 w N a J=>?_) (hr:=(SliceOf.strs.1 R).rowIn N.toSees) (h1:=cR _) (hb:=by have hq:=congrArg List.length k;rw [zA g,qO] at hq;simp only [laQ,zZ] at hq hb ⊢;omega)
 first | rw [qM] at N | rw [<- yE] at N
 replace N:=N.pl 3
 refine d_e J rfl rfl rfl (kG J rfl call85 (ih _ (by first | exact Ex.lt_args (mgQ g) | exact Ex.lt_arms (mgQ g)) (l:=(m2++H.vars)) (by have hq:=congrArg List.length k;rw [zA g] at hq;simp only [bindPs,qO,laQ] at hq hb ⊢;omega) S N) fun A0 w N=>⟨fun _=>N.sn (Fz.Le.refl _),fun a J=>?_⟩)
 replace N:=N.nf
 refine go fun a J=>?_
 replace N:=N.ar [1] [2,2]
 refine U _ _ _ (by subst h;omega) ⟨(j+1),(A0),(((m2++H.vars)++yH H.body)),rfl,J.pk,N,?_⟩
 rw [k,zA g,qO];simp
 refine zF ?_
 replace N:=N.dl [1,0]
 refine ⟨_,rfl,?_⟩
 rw [show (strs (l++yH e))=(strs m2) by rw [k,zE P];simp [bindPa]];exact N
 refine go fun a J=>?_
 refine mN (fun mm a w=>∃(i:Nat) (u:Value) (m:List Bs),mm=e.args.length - i/\EnvR 44 [(1,u),(2,.pointer (some ⟨o,0,none⟩)),(18,.slice I e.args.length c4),(19,.int .i64 e.args.length),(20,.int .i64 i)] [] a/\Mem V (.blk o (ob [.int .i64 (e.kind),.int .i64 (e.num),.string e.name,.slice I e.args.length c4,.slice L e.arms.length p] 66)::.gs (u) 9 1 (strs m)::K) w/\(l++yH e=m++bindPs (e.args.drop i)++bindPa e.arms)) (e.args.length - 0) ⟨0,v,l,rfl,J.pk,N,by rw [dC];simp [*]⟩ ?_
 clear N J
 rintro mm a w ⟨i,u,m,h,J,N,r⟩ w1 W
 by_cases y:i < e.args.length
 refine go fun a J=>?_
 obtain ⟨q1,rfl,c0,f,g0,m0,i0,s⟩:=h2.el X y
 obtain ⟨l1,G0,m1,H0,rfl,k0,N0,O0,o0,t0,p0,u0⟩:=REx.fm s
 refine Alc fun D0 w N a J=>?_
 refine Sto 0 fun w N a J=>?_
 refine go fun a J=>?_
 replace N:=N.pl 2
 refine st J rfl rfl rfl (kG J rfl call85 (ih _ (by first | exact Ex.lt_args (mgQ f) | exact Ex.lt_arms (mgQ f)) (l:=m) (by have hq:=congrArg List.length r;rw [zA f] at hq;simp only [bindPs,qO,laQ] at hq hb ⊢;omega) s N) fun Z w N a J=>?_)
 replace N:=N.nf
 refine go fun a J=>?_
 replace N:=N.ar [1] [1]
 refine W _ _ _ (by subst h;omega) ⟨(i+1),(Z),((m++yH c0)),rfl,J.pk,N,?_⟩
 rw [r,zA f];simp [bindPs]
 refine go fun a J=>?_
 refine mN (fun mm a w=>∃(j:Nat) (G:Value) (m2:List Bs),mm=e.arms.length - j/\EnvR 44 [(1,G),(29,.slice L e.arms.length p),(30,.int .i64 e.arms.length),(31,.int .i64 j)] [] a/\Mem V (.blk o (ob [.int .i64 (e.kind),.int .i64 (e.num),.string e.name,.slice I e.args.length c4,.slice L e.arms.length p] 66)::.gs (G) 9 1 (strs m2)::K) w/\(l++yH e=m2++bindPa (e.arms.drop j))) (e.arms.length - 0) ⟨0,u,m,rfl,J.pk,N,by rw [r,zE y];simp [bindPs]⟩ ?_
 clear N J
 rintro mm a w ⟨j,G,m2,h,J,N,c⟩ C0 E
 by_cases z:j < e.arms.length
 refine go fun a J=>?_
 obtain ⟨r1,rfl,t,b,h0,n0,j0,F⟩:=h8.el C z
 obtain ⟨s1,E0,rfl,A,B⟩:=RArm.iff.1 F
 obtain ⟨n1,I0,rfl,q0,w0⟩:=A.fm
 obtain ⟨o1,J0,p1,K0,rfl,l0,P0,Q0,r0,x0,s0,y0⟩:=REx.fm B
 refine Alc fun F0 w N a J=>?_
 refine Sto 0 fun w N a J=>?_
 refine Reg [1,2,1,1,2,0,0,1] [0,1] fun w N a J=>?_
 refine yU 2 vA (fun t1 w N a J=>?_) (hr:=(SliceOf.strs.1 A).rowIn N.toSees) (h1:=cR _) (hb:=by have hq:=congrArg List.length c;rw [zA b,qO] at hq;simp only [laQ,zZ] at hq hb ⊢;omega)
 first | rw [qM] at N | rw [<- yE] at N
 replace N:=N.pl 2
 refine d_e J rfl rfl rfl (kG J rfl call85 (ih _ (by first | exact Ex.lt_args (mgQ b) | exact Ex.lt_arms (mgQ b)) (l:=(m2++t.vars)) (by have hq:=congrArg List.length c;rw [zA b] at hq;simp only [bindPs,qO,laQ] at hq hb ⊢;omega) B N) fun a0 w N=>⟨fun _=>N.sn (Fz.Le.refl _),fun a J=>?_⟩)
 replace N:=N.nf
 refine go fun a J=>?_
 replace N:=N.ar [1] [1]
 refine E _ _ _ (by subst h;omega) ⟨(j+1),(a0),(((m2++t.vars)++yH t.body)),rfl,J.pk,N,?_⟩
 rw [c,zA b,qO];simp
 refine zF ?_
 replace N:=N.dl [0]
 refine ⟨_,rfl,?_⟩
 rw [show (strs (l++yH e))=(strs m2) by rw [c,zE z];simp [bindPa]];exact N
theorem j1c {V:Fz} {K:List Res} {w:World} {d:List Value} {e:Ex} {v:Value} {l:List Bs} (hb:l.length+(yH e).length<=8796093000000) (re:REx V d e) (N:Mem V (.gs v 9 1 (strs l)::K) w) :
  Calls prog 85 #[.agg d.toArray,v] w (fun ee w'=>∃v,ee=.returned v/\Mem V (.gs v 9 1 (strs (l++yH e))::K) w'):=by
 suffices H:∀n (e:Ex),e.sz < n->∀{V:Fz} {K:List Res} {w:World} {d:List Value} {v:Value} {l:List Bs},l.length+(yH e).length<=8796093000000->REx V d e->Mem V (.gs v 9 1 (strs l)::K) w->Calls prog 85 #[.agg d.toArray,v] w (fun ee w'=>∃v,ee=.returned v/\Mem V (.gs v 9 1 (strs (l++yH e))::K) w') from H _ e (Nat.lt_succ_self _) hb re N
 intro n
 induction n with
 | zero=>intro e h;omega
 | succ n b=>intro e h V K w d v l hb re N;exact q3g re hb (fun x c _ _ _ _ _ _ a r m=>b x (by omega) a r m) N
section
variable {V:Fz} {K:List Res} {w:World}
theorem y5c {c:UInt8}  (N:Mem V K w) :
  Calls prog 249 #[.int .u8 c.toNat] w (fun ee w'=>ee=.returned (.bool (qK c.toNat))/\Mem V K w'):=by
 refine zI func249 ntmps249 fun Q hQ a J=>?_
 by_cases b:97<=c.toNat
 refine Qq (fun a J=>?_) (o:=by exact fun J O=>j5d (i:=c.toNat) (j:=122) J rfl rfl)
 refine zF ?_
 exact zJ N (by simp [qK, *])
 refine zF ?_
 exact zJ N (by simp [qK, *])
theorem y5b {c:UInt8}  (N:Mem V K w) :
  Calls prog 251 #[.int .u8 c.toNat] w (fun ee w'=>ee=.returned (.bool (qT c.toNat))/\Mem V K w'):=by
 refine zI func251 ntmps251 fun Q hQ a J=>?_
 by_cases b:65<=c.toNat
 refine Qq (fun a J=>?_) (o:=by exact fun J O=>j5d (i:=c.toNat) (j:=90) J rfl rfl)
 refine zF ?_
 exact zJ N (by simp [qT, *])
 refine zF ?_
 exact zJ N (by simp [qT, *])
theorem oL {c:UInt8}  (N:Mem V K w) :
  Calls prog 247 #[.int .u8 c.toNat] w (fun ee w'=>ee=.returned (.bool (yD c.toNat))/\Mem V K w'):=by
 refine zI func247 ntmps247 fun Q hQ a J=>?_
 by_cases b:48<=c.toNat
 refine Qq (fun a J=>?_) (o:=by exact fun J O=>j5d (i:=c.toNat) (j:=57) J rfl rfl)
 refine zF ?_
 exact zJ N (by simp [yD, *])
 refine zF ?_
 exact zJ N (by simp [yD, *])
theorem z8l {c:UInt8}  (N:Mem V K w) :
  Calls prog 253 #[.int .u8 c.toNat] w (fun ee w'=>ee=.returned (.bool (yN c.toNat))/\Mem V K w'):=by
 refine zI func253 ntmps253 fun Q hQ a J=>?_
 refine zX call249 (fun b w N a J=>?_) (fun b w N a J=>?_) (c:=y5c N)
 rotate_left
 refine zX call251 (fun d w N a J=>?_) (fun d w N a J=>?_) (c:=y5b N)
 rotate_left
 refine zX call247 (fun e w N a J=>?_) (fun e w N a J=>?_) (c:=oL N)
 rotate_left
 refine Qq (fun a J=>?_) (o:=by exact fun J O=>pR (i:=c.toNat) (j:=95) J rfl rfl)
 rotate_left
 all_goals (refine zF ?_;exact zJ N (by simp [yN, *]))
theorem j2g {c:UInt8}  (N:Mem V K w) :
  Calls prog 243 #[.int .u8 c.toNat] w (fun ee w'=>ee=.returned (.bool (xM c.toNat))/\Mem V K w'):=by
 refine zI func243 ntmps243 fun Q hQ a J=>?_
 by_cases b:c.toNat=32
 rotate_left
 by_cases d:c.toNat=9
 rotate_left
 by_cases e:c.toNat=10
 rotate_left
 refine Qq (fun a J=>?_) (o:=by exact fun J O=>pR (i:=c.toNat) (j:=13) J rfl rfl)
 rotate_left
 all_goals (refine zF ?_;exact zJ N (by simp [xM, *]))
theorem y8x {s:Bs} {p:Bs}  (N:Mem V K w) :
  Calls prog 261 #[.string s,.string p] w (fun ee w'=>ee=.returned (.bool (kS s p))/\Mem V K w'):=by
 refine zI func261 ntmps261 fun Q hQ a J=>?_
 by_cases b:p.size<=s.size
 refine Qq (fun a J=>?_) (o:=by exact fun J O=>qS 0 (p.size) J rfl runUnderlying9 rfl ⟨_,rfl⟩ (by omega) (by omega))
 refine Qq (fun a J=>?_) (o:=by exact fun J O=>z3f J rfl rfl)
 refine zF ?_
 exact zJ N (by simp [kS, *])
 refine zF ?_
 exact zJ N (by simp [kS, *])
theorem q4f {s:Bs} {p:Bs}  (N:Mem V K w) :
  Calls prog 257 #[.string s,.string p] w (fun ee w'=>ee=.returned (.bool (kS s p))/\Mem V K w'):=by
 refine zI func257 ntmps257 fun Q hQ a J=>?_
 refine zO call261 (fun w N a J=>?_) (c:=y8x N)
 refine zF ?_
 exact zJ N (by rfl)
theorem z6l {t:Bs} {pos:Nat} {b:Nat} {rest:List Value} {e:TypeId} {k:Nat}  (h:pos+k<=1000000000) (N:Mem V (.blk b (ob (.string t::.int .i64 pos::rest) e)::K) w) :
  Calls prog 246 #[.pointer (some ⟨b,0,none⟩),.int .i64 (k:Int)] w (fun ee w'=>ee=.returned (.int .u8 ((zC t (pos+k):Nat):Int))/\Mem V (.blk b (ob (.string t::.int .i64 pos::rest) e)::K) w'):=by
 refine zI func246 ntmps246 fun Q hQ a J=>?_
 refine Reg [1,1,1,2,1,1,1,1,1,2,1,1] [0] fun w N a J=>?_
 refine Qq (fun a J=>?_) (o:=by exact fun J O=>pH (i:=pos) (j:=k) J rfl rfl (by omega))
 by_cases g:t.size<=(pos+k)
 refine zF ?_
 exact ⟨congrArg (fun x=>Ending.returned (.int .u8 ((x:Nat):Int))) (show 0=zC t (pos+k) by rw [z9r (by omega)]),N⟩
 refine Reg [1,1,1,2,1,1,1,2,1,1,1,1] [0] fun w N a J=>?_
 refine Qq (fun a J=>?_) (o:=by exact fun J O=>pH (i:=pos) (j:=k) J rfl rfl (by omega))
 have d:(pos+k) < t.size:=by omega
 obtain ⟨f,c⟩:=qJ d
 refine Qq (fun a J=>?_) (o:=by exact fun J O=>yZ (pos+k) f J rfl rfl runUnderlying9 c)
 refine zF ?_
 exact ⟨congrArg (fun x=>Ending.returned (.int .u8 ((x:Nat):Int))) (show f.toNat=zC t (pos+k) by rw [zT c]),N⟩
theorem cQ {t:Bs} {pos:Nat} {b:Nat} {rest:List Value} {d:TypeId} {s:Bs}  (e:pos<=t.size) (N:Mem V (.blk b (ob (.string t::.int .i64 pos::rest) d)::K) w) :
  Calls prog 244 #[.pointer (some ⟨b,0,none⟩),.string s] w (fun ee w'=>ee=.returned (.bool (kS (t.extract pos t.size) s))/\Mem V (.blk b (ob (.string t::.int .i64 pos::rest) d)::K) w'):=by
 refine zI func244 ntmps244 fun Q hQ a J=>?_
 refine Reg [1,1,1,2,1,1,1,2,1,1,0,1] [0] fun w N a J=>?_
 refine Qq (fun a J=>?_) (o:=by exact fun J O=>qS pos (t.size) J rfl runUnderlying9 ⟨_,rfl⟩ rfl (by omega) (by exact Nat.le_refl _))
 refine zO call257 (fun w N a J=>?_) (c:=q4f N)
 refine zF ?_
 exact zJ N (by rfl)
end
theorem q5c {V:Fz} {K:List Res} {w:World} {t:Bs} {pos b k g:Nat} {rest fs cs:List Value} {l:TypeId} {p:Nat->Bool} (u:∀args w,(callFunc g args).run prog w=.ok (.enter g args) w)
  (s:∀{w:World} (c:UInt8),Mem V (.blk b (ob (.string t::.int .i64 pos::rest) l)::K) w->Calls prog g (fs++[Value.int .u8 c.toNat]++cs).toArray w (fun ee w'=>ee=.returned (.bool (p c.toNat))/\Mem V (.blk b (ob (.string t::.int .i64 pos::rest) l)::K) w'))
  (h1:pos+k<=t.size) (h2:t.size<=1000000) (N:Mem V (.blk b (ob (.string t::.int .i64 pos::rest) l)::K) w) :
  Calls prog 242 #[.pointer (some ⟨b,0,none⟩),.int .i64 k,.func (.func g) fs.toArray cs.toArray] w (fun ee w'=>ee=.returned (.int .i64 ((yR p t t.size (pos+k):Nat):Int))/\Mem V (.blk b (ob (.string t::.int .i64 pos::rest) l)::K) w'):=by
 refine zI func242 ntmps242 fun Q hQ a J=>?_
 refine go fun a J=>?_
 refine zR (J.ks [0,1,2]) N (fun R mm a w=>∃(j:Nat),mm=t.size - (pos+k+j)/\R V [(7,.int .i64 j)] [] a w/\(pos+k+j<=t.size/\yR p t t.size (pos+k)=yR p t t.size (pos+k+j)+j)) (t.size - (pos+k+0)) ⟨0,rfl,⟨J.pk,N⟩,by exact ⟨by omega,rfl⟩⟩ ?_
 clear N J
 rintro mm a w ⟨j,q,⟨J,N⟩,m⟩ y n
 obtain ⟨v,f⟩:=m
 refine Reg [1,1,1,2,1,1,1,1,1,1,1,2,1,1,1,1,1,1,1,2,1,1,1,2,1,1,1,1,1,0,1] [0] fun w N a J=>?_
 refine Qq (fun a J=>?_) (o:=by exact fun J O=>pH (i:=pos) (j:=k) J rfl rfl (by omega))
 refine Qq (fun a J=>?_) (o:=by exact fun J O=>pH (i:=(pos+k)) (j:=j) J rfl rfl (by omega))
 by_cases r:((pos+k)+j) < t.size
 refine Qq (fun a J=>?_) (o:=by exact fun J O=>pH (i:=pos) (j:=k) J rfl rfl (by omega))
 refine Qq (fun a J=>?_) (o:=by exact fun J O=>pH (i:=(pos+k)) (j:=j) J rfl rfl (by omega))
 obtain ⟨c9,e⟩:=qJ r
 refine Qq (fun a J=>?_) (o:=by exact fun J O=>yZ ((pos+k)+j) c9 J rfl rfl runUnderlying9 e)
 refine y1u u (fun d w N a J=>?_) (fun d w N a J=>?_) (c:=by exact s _ N)
 refine go fun a J=>?_
 refine n _ _ _ (by subst q;omega) ⟨(j+1),rfl,⟨J.pk,N⟩,?_⟩
 refine ⟨by omega,?_⟩
 rw [f,xP p t (pos+k+j),if_pos ⟨by omega,by rw [zT e];exact d⟩,show pos+k+(j+1)=pos+k+j+1 from rfl];omega
 refine zF ?_
 exact pF N (by rw [f,xP,if_neg (by rintro ⟨_,h⟩;rw [zT e,d] at h;cases h)];omega)
 refine zF ?_
 exact pF N (by rw [f,xP,if_neg (by omega)];omega)
theorem q5b {V:Fz} {K:List Res} {w:World} {t:Bs} {pos b g:Nat} {rest fs cs:List Value} {a:TypeId} {p:Nat->Bool} (e:∀args w,(callFunc g args).run prog w=.ok (.enter g args) w)
  (d:∀{w:World} (c:UInt8),Mem V (.blk b (ob (.string t::.int .i64 pos::rest) a)::K) w->Calls prog g (fs++[Value.int .u8 c.toNat]++cs).toArray w (fun ee w'=>ee=.returned (.bool (p c.toNat))/\Mem V (.blk b (ob (.string t::.int .i64 pos::rest) a)::K) w'))
  (h1:pos<=t.size) (h2:t.size<=1000000) (N:Mem V (.blk b (ob (.string t::.int .i64 pos::rest) a)::K) w) :
  Calls prog 242 #[.pointer (some ⟨b,0,none⟩),.int .i64 ((0:Nat):Int),.func (.func g) fs.toArray cs.toArray] w (fun ee w'=>ee=.returned (.int .i64 ((yR p t t.size pos:Nat):Int))/\Mem V (.blk b (ob (.string t::.int .i64 pos::rest) a)::K) w') :=
 q5c (k:=0) e d (by omega) h2 N
theorem j1j {V:Fz} {K:List Res} {w:World} {t:Bs} {pos b:Nat} {rest:List Value} {m:TypeId} (h1:pos<=t.size) (h2:t.size<=1000000) (N:Mem V (.blk b (ob (.string t::.int .i64 pos::rest) m)::K) w) :
  Calls prog 245 #[.pointer (some ⟨b,0,none⟩)] w (fun ee w'=>Out (vO t pos pos 0)
   (fun q=>ee=.returned (.tuple #[])/\Mem V (.blk b (ob (.string t::.int .i64 ((q:Nat):Int)::rest) m)::K) w')
   (fun c=>ee=.panicked (sU c)/\Mem V K w')):=by
 refine zI func245 ntmps245 fun Q hQ a J=>?_
 refine go fun a J=>?_
 refine zR (J.ks [0,2]) N (fun R mm a w=>∃(i:Nat) (o:Int),mm=t.size - i/\R V [(3,.int .i64 (o))] [(0,.blk b (ob (.string t::.int .i64 i::rest) m))] a w/\(i<=t.size/\-(i:Int)<=o/\o<=100/\vO t pos pos 0=vO t pos i o)) (t.size - pos) ⟨pos,0,rfl,⟨J.pk,N⟩,by exact ⟨h1,by omega,by omega,rfl⟩⟩ ?_
 clear N J
 rintro mm a w ⟨i,o,k,⟨J,N⟩,r⟩ z g
 replace N:=N.nf
 obtain ⟨u,v,y,e⟩:=r
 refine Reg [1,1,1,1,2,1,1,1,1,2,1,1,1] [0] fun w N a J=>?_
 by_cases l:t.size<=i
 refine zU fun a J=>?_
 refine Qq (fun a J=>?_) (o:=by exact fun J O=>qN J rfl runUnderlying270 (by intro ms h;cases h))
 refine st0 J rfl rfl (vK J rfl (vM _) (fun a s=>hQ _ _ _ (yY s ?_)))
 replace N:=N.dl [0]
 show Out (vO t pos pos 0) _ _
 rw [e,nJ,if_pos l];exact ⟨rfl,N⟩
 refine zX call244 (fun f w N a J=>?_) (fun f w N a J=>?_) (c:=cQ (by omega) N)
 by_cases n:100<=o
 refine zU fun a J=>?_
 refine Qq (fun a J=>?_) (o:=by exact fun J O=>qN J rfl runUnderlying270 (by intro ms h;cases h))
 refine st0 J rfl rfl (vK J rfl (vM _) (fun a s=>hQ _ _ _ (yY s ?_)))
 replace N:=N.dl [0]
 show Out (vO t pos pos 0) _ _
 rw [e,nJ,if_neg l,if_pos f,if_pos n];exact ⟨rfl,N⟩
 refine Qq (fun a J=>?_) (o:=by exact fun J O=>z0p (o+1) J rfl rfl (by rw [yB (by omega)]))
 refine Qq (fun a J=>?_) (o:=by exact fun J O=>pH (i:=i) (j:=2) J rfl rfl (by omega))
 refine Sto 0 fun w N a J=>?_
 refine go fun a J=>?_
 refine g (t.size - ((i+2))) _ _ (by subst k;first | omega | (have h:=jM f;have:(⟨#[40,42]⟩:Bs).size=2:=rfl;have:(⟨#[42,41]⟩:Bs).size=2:=rfl;omega)) ⟨((i+2)),(o+1),rfl,⟨J.pk,N⟩,?_⟩
 refine ⟨by first | omega | (have h:=jM f;have:(⟨#[40,42]⟩:Bs).size=2:=rfl;have:(⟨#[42,41]⟩:Bs).size=2:=rfl;omega),by omega,by omega,?_⟩
 rw [e,nJ,if_neg l]
 simp [*]
 refine zX call244 (fun d w N a J=>?_) (fun d w N a J=>?_) (c:=cQ (by omega) N)
 refine Qq (fun a J=>?_) (o:=by exact fun J O=>jT (o - 1) J rfl rfl (by rw [yB (by omega)]))
 refine Qq (fun a J=>?_) (o:=by exact fun J O=>pH (i:=i) (j:=2) J rfl rfl (by omega))
 refine Sto 0 fun w N a J=>?_
 by_cases p:o - 1=0
 refine go fun a J=>?_
 refine hQ _ _ _ (ret0 J results245 ?_)
 show Out (vO t pos pos 0) _ _
 rw [e,nJ,if_neg l,if_neg (by simp [*]),if_pos d,if_pos p];exact ⟨rfl,N⟩
 refine go fun a J=>?_
 refine g (t.size - ((i+2))) _ _ (by subst k;first | omega | (have h:=jM d;have:(⟨#[40,42]⟩:Bs).size=2:=rfl;have:(⟨#[42,41]⟩:Bs).size=2:=rfl;omega)) ⟨((i+2)),(o - 1),rfl,⟨J.pk,N⟩,?_⟩
 refine ⟨by first | omega | (have h:=jM d;have:(⟨#[40,42]⟩:Bs).size=2:=rfl;have:(⟨#[42,41]⟩:Bs).size=2:=rfl;omega),by omega,by omega,?_⟩
 rw [e,nJ,if_neg l]
 simp [*]
 refine Sto 0 fun w N a J=>?_
 refine go fun a J=>?_
 refine g (t.size - ((i+1))) _ _ (by subst k;first | omega | (have h:=jM d;have:(⟨#[40,42]⟩:Bs).size=2:=rfl;have:(⟨#[42,41]⟩:Bs).size=2:=rfl;omega)) ⟨((i+1)),(o),rfl,⟨J.pk,N⟩,?_⟩
 refine ⟨by first | omega | (have h:=jM d;have:(⟨#[40,42]⟩:Bs).size=2:=rfl;have:(⟨#[42,41]⟩:Bs).size=2:=rfl;omega),by omega,by omega,?_⟩
 rw [e,nJ,if_neg l]
 simp [*]
theorem j7e {V:Fz} {K:List Res} {w:World} {t:Bs} {pos b:Nat} {mv cv:Value} {cs:List Value} (h1:pos<=t.size) (h2:t.size<=1000000) (s:cs.length<=2 * pos) (N:Mem V (.blk b (ob [.string t,.int .i64 pos,mv,cv] 301)::.gs cv 314 2 cs::K) w) :
  Calls prog 232 #[.pointer (some ⟨b,0,none⟩)] w (fun ee w'=>Out (aY t pos)
   (fun q=>∃y:Value×List Value,ee=.returned (.tuple #[])/\y.2.length<=2 * q/\Mem V (.blk b (ob [.string t,.int .i64 ((q:Nat):Int),mv,y.1] 301)::.gs y.1 314 2 y.2::K) w')
   (fun c=>ee=.panicked (sU c)/\Mem V K w')):=by
 refine zI func232 ntmps232 fun Q hQ a J=>?_
 refine go fun a J=>?_
 refine zR (J.ks [0]) N (fun R mm a w=>∃(i:Nat) (u:Value) (ds:List Value),mm=t.size - i/\R V [] [(0,.blk b (ob [.string t,.int .i64 i,mv,u] 301)),(1,.gs (u) 314 2 ds)] a w/\(i<=t.size/\ds.length<=2 * i/\aY t pos=aY t i)) (t.size - pos) ⟨pos,cv,cs,rfl,⟨J.pk,N⟩,by exact ⟨h1,s,rfl⟩⟩ ?_
 clear N J
 rintro mm a w ⟨i,u,ds,n,⟨J,N⟩,l⟩ B m
 replace N:=N.nf
 obtain ⟨e,v,g⟩:=l
 have z:=kU xM t t.size i e
 refine Reg [1,1,1,1,2,1,1,1,0,1,1,1,1,0] [0,1] fun w N a J=>?_
 refine zO call242 (fun w N a J=>?_) (c:=q5b (p:=xM) (pos:=i) (fs:=[]) (cs:=[]) call243 (fun c N=>j2g N) (by omega) (by omega) N)
 refine Qq (fun a J=>?_) (o:=by exact fun J O=>pH (i:=i) (j:=(yR xM t t.size i)) J rfl rfl (by omega))
 refine Sto 0 fun w N a J=>?_
 refine zX call244 (fun f w N a J=>?_) (fun f w N a J=>?_) (c:=cQ (by omega) N)
 refine jE call245 (fun k w d N a J=>?_) (fun k w d N=>?_) (c:=j1j (pos:=((i+(yR xM t t.size i)))) (by omega) (by omega) N)
 refine Reg [1,1,1,1,2,1,1,1,1,1,2,1,0,0,1,1,0] [0] fun w N a J=>?_
 refine zU fun a J=>?_
 refine yK fun A w N a J=>?_
 refine yU 2 rt_299 (fun r w N a J=>?_)
 refine Sto 1 fun w N a J=>?_
 refine go fun a J=>?_
 replace N:=N.dl [0]
 refine m (t.size - k) _ _ (by subst n;have h:=pW _ _ _ _ _ _ d;omega) ⟨(k),(r),((ds++[.int .i64 ((((i+(yR xM t t.size i))):Nat):Int),.int .i64 k])),rfl,⟨J.pk,by exact N⟩,?_⟩
 have h:=pW _ _ _ _ _ _ d
 refine ⟨h.2,by simp only [laQ,lcQ,lnQ];omega,?_⟩
 rw [g,y6e t i e,if_pos f,d]
 replace N:=N.dl [0]
 show Out (aY t pos) _ _
 rw [g,y6e t i e,if_pos f,d];exact ⟨rfl,N⟩
 refine go fun a J=>?_
 refine hQ _ _ _ (ret0 J results232 ?_)
 show Out (aY t pos) _ _
 rw [g,y6e t i e,if_neg (by simp [*])];exact ⟨⟨u,ds⟩,rfl,by simp only;omega,N⟩
theorem gW {V:Fz} {K:List Res} {w:World} {t:Bs} {pos b:Nat} {rest:List Value} {e:TypeId} {kd:Int} {n:Nat} (h1:pos+n<=t.size) (h2:t.size<=1000000) (N:Mem V (.blk b (ob (.string t::.int .i64 pos::rest) e)::K) w) :
  Calls prog 252 #[.pointer (some ⟨b,0,none⟩),.int .i64 kd,.int .i64 n] w (fun ee w'=>Out (wF t pos kd n) (fun q=>ee=.returned (y7i q)/\Mem V (.blk b (ob (.string t::.int .i64 pos::rest) e)::K) w') (fun c=>ee=.panicked (sU c)/\Mem V K w')):=by
 refine zI func252 ntmps252 fun Q hQ a J=>?_
 refine Alc fun k w N a J=>?_
 by_cases f:24 < n
 refine zU fun a J=>?_
 refine Qq (fun a J=>?_) (o:=by exact fun J O=>qN J rfl runUnderlying270 (by intro ms h;cases h))
 refine st0 J rfl rfl (vK J rfl (vM _) (fun a g=>hQ _ _ _ (yY g ?_)))
 replace N:=N.dl [1,0]
 show Out (wF t pos kd n) _ _
 rw [wF,if_pos f];exact ⟨rfl,N⟩
 refine Reg [1,1,1,1,1,2,1,1,1,1,2,1,1,1,1,2,1,1,1,1,1,1,1,2,1,0] [0,1] fun w N a J=>?_
 refine Qq (fun a J=>?_) (o:=by exact fun J O=>pH (i:=pos) (j:=n) J rfl rfl (by omega))
 refine Qq (fun a J=>?_) (o:=by exact fun J O=>qS pos ((pos+n)) J rfl runUnderlying9 ⟨_,rfl⟩ ⟨_,rfl⟩ (by omega) (by omega))
 refine zU fun a J=>?_
 refine Sto 0 fun w N a J=>?_
 refine go fun a J=>?_
 have d:=N
 replace N:=N.dl [0]
 refine qI (N:=d) ?_
 show Out (wF t pos kd n) _ _
 rw [wF,if_neg f];exact ⟨rfl,N⟩
theorem j7a {V:Fz} {K:List Res} {w:World} {t:Bs} {pos b mb:Nat} {cv:Value} {kd:Int} (h:MapAt V mb wordsM) (h1:pos<=t.size) (h2:t.size<=1000000) (N:Mem V (.blk b (ob [.string t,.int .i64 pos,.map (some mb),cv] 301)::K) w) :
  Calls prog 250 #[.pointer (some ⟨b,0,none⟩),.int .i64 kd] w (fun ee w'=>Out (kP t pos kd) (fun q=>ee=.returned (y7i q)/\Mem V (.blk b (ob [.string t,.int .i64 pos,.map (some mb),cv] 301)::K) w') (fun c=>ee=.panicked (sU c)/\Mem V K w')):=by
 refine zI func250 ntmps250 fun Q hQ a J=>?_
 refine Alc fun M w N a J=>?_
 refine go fun a J=>?_
 have I:=kU yN t t.size pos h1
 replace N:=N.pl 1
 refine zO call242 (fun w N a J=>?_) (c:=q5b (p:=yN) (pos:=pos) (fs:=[]) (cs:=[]) call253 (fun c N=>z8l N) (by omega) (by omega) N)
 refine zO call246 (fun w N a J=>?_) (c:=z6l (by omega) N)
 by_cases P:zC t (pos+((yR yN t t.size pos)))=39
 have B:=sY (t:=t) (i:=pos+yR yN t t.size pos) (by omega)
 have L:=kU yD t t.size (pos+(yR yN t t.size pos+1)) (by omega)
 refine zO call242 (fun w N a J=>?_) (c:=q5c (p:=yD) (pos:=pos) (k:=((yR yN t t.size pos)+1)) (fs:=[]) (cs:=[]) call247 (fun c N=>oL N) (by omega) (by omega) N)
 by_cases R:0 < (yR yD t t.size (pos+((yR yN t t.size pos)+1)))
 refine Qq (fun a J=>?_) (o:=by exact fun J O=>pH (i:=1) (j:=(yR yD t t.size (pos+((yR yN t t.size pos)+1)))) J rfl rfl (by omega))
 refine Qq (fun a J=>?_) (o:=by exact fun J O=>pH (i:=(yR yN t t.size pos)) (j:=(1+(yR yD t t.size (pos+((yR yN t t.size pos)+1))))) J rfl rfl (by omega))
 refine jE call252 (fun y w l N a J=>?_) (fun y w l N=>?_) (c:=gW (pos:=pos) (kd:=kd) (n:=((yR yN t t.size pos)+(1+(yR yD t t.size (pos+((yR yN t t.size pos)+1)))))) (by omega) (by omega) N)
 refine Alc fun F w N a J=>?_
 refine Sto 0 fun w N a J=>?_
 refine Reg [1,1,1,2,1,2,2,1,1,1,1,1] [0,1,2] fun w N a J=>?_
 refine go fun a J=>?_
 rcases d:yV (wordsM) y.text with _ | C
 have s:=congrArg (zK true (.int .i64 ((0:Nat):Int))) d
 refine Qq (fun a J=>?_) (o:=by exact fun J O=>Ok.cast (yC runUnderlying298 runUnderlying9 zeroValue3 J O rfl rfl h) (show zK true (.int .i64 ((0:Nat):Int)) (yV (wordsM) y.text)=.tuple #[.int .i64 ((0:Nat):Int),.bool false] from s))
 refine Sto 2 fun w N a J=>?_
 refine go fun a J=>?_
 have g:=N
 replace N:=N.dl [2,0]
 refine qI (N:=g) ?_
 show Out (kP t pos kd) _ _
 first | rw [tL l d (by simp [qA, *])] | rw [tM l d (by simp [qA, *])]
 exact ⟨rfl,N⟩
 obtain rfl:=z5c d
 have s:=congrArg (zK true (.int .i64 ((0:Nat):Int))) d
 refine Qq (fun a J=>?_) (o:=by exact fun J O=>Ok.cast (yC runUnderlying298 runUnderlying9 zeroValue3 J O rfl rfl h) (show zK true (.int .i64 ((0:Nat):Int)) (yV (wordsM) y.text)=.tuple #[.int .i64 ((5:Nat):Int),.bool true] from s))
 refine Sto 0 fun w N a J=>?_
 refine Sto 2 fun w N a J=>?_
 refine go fun a J=>?_
 have g:=N
 replace N:=N.dl [2,0]
 refine qI (N:=g) ?_
 show Out (kP t pos kd) _ _
 first | rw [tL l d (by simp [qA, *])] | rw [tM l d (by simp [qA, *])]
 exact ⟨rfl,N⟩
 replace N:=N.dl [0]
 show Out (kP t pos kd) _ _
 rw [y5p l (by simp [qA, *])];exact ⟨rfl,N⟩
 refine jE call252 (fun z w m N a J=>?_) (fun z w m N=>?_) (c:=gW (pos:=pos) (kd:=kd) (n:=(yR yN t t.size pos)) (by omega) (by omega) N)
 refine Alc fun G w N a J=>?_
 refine Sto 0 fun w N a J=>?_
 refine Reg [1,1,1,2,1,2,2,1,1,1,1,1] [0,1,2] fun w N a J=>?_
 refine go fun a J=>?_
 rcases e:yV (wordsM) z.text with _ | D
 have u:=congrArg (zK true (.int .i64 ((0:Nat):Int))) e
 refine Qq (fun a J=>?_) (o:=by exact fun J O=>Ok.cast (yC runUnderlying298 runUnderlying9 zeroValue3 J O rfl rfl h) (show zK true (.int .i64 ((0:Nat):Int)) (yV (wordsM) z.text)=.tuple #[.int .i64 ((0:Nat):Int),.bool false] from u))
 refine Sto 2 fun w N a J=>?_
 refine go fun a J=>?_
 have g:=N
 replace N:=N.dl [2,0]
 refine qI (N:=g) ?_
 show Out (kP t pos kd) _ _
 first | rw [tL m e (by simp [qA, *])] | rw [tM m e (by simp [qA, *])]
 exact ⟨rfl,N⟩
 obtain rfl:=z5c e
 have u:=congrArg (zK true (.int .i64 ((0:Nat):Int))) e
 refine Qq (fun a J=>?_) (o:=by exact fun J O=>Ok.cast (yC runUnderlying298 runUnderlying9 zeroValue3 J O rfl rfl h) (show zK true (.int .i64 ((0:Nat):Int)) (yV (wordsM) z.text)=.tuple #[.int .i64 ((5:Nat):Int),.bool true] from u))
 refine Sto 0 fun w N a J=>?_
 refine Sto 2 fun w N a J=>?_
 refine go fun a J=>?_
 have g:=N
 replace N:=N.dl [2,0]
 refine qI (N:=g) ?_
 show Out (kP t pos kd) _ _
 first | rw [tL m e (by simp [qA, *])] | rw [tM m e (by simp [qA, *])]
 exact ⟨rfl,N⟩
 replace N:=N.dl [0]
 show Out (kP t pos kd) _ _
 rw [y5p m (by simp [qA, *])];exact ⟨rfl,N⟩
 refine jE call252 (fun A w r N a J=>?_) (fun A w r N=>?_) (c:=gW (pos:=pos) (kd:=kd) (n:=(yR yN t t.size pos)) (by omega) (by omega) N)
 refine Alc fun H w N a J=>?_
 refine Sto 0 fun w N a J=>?_
 refine Reg [1,1,1,2,1,2,2,1,1,1,1,1] [0,1,2] fun w N a J=>?_
 refine go fun a J=>?_
 rcases f:yV (wordsM) A.text with _ | E
 have v:=congrArg (zK true (.int .i64 ((0:Nat):Int))) f
 refine Qq (fun a J=>?_) (o:=by exact fun J O=>Ok.cast (yC runUnderlying298 runUnderlying9 zeroValue3 J O rfl rfl h) (show zK true (.int .i64 ((0:Nat):Int)) (yV (wordsM) A.text)=.tuple #[.int .i64 ((0:Nat):Int),.bool false] from v))
 refine Sto 2 fun w N a J=>?_
 refine go fun a J=>?_
 have g:=N
 replace N:=N.dl [2,0]
 refine qI (N:=g) ?_
 show Out (kP t pos kd) _ _
 first | rw [tL r f (by simp [qA, *])] | rw [tM r f (by simp [qA, *])]
 exact ⟨rfl,N⟩
 obtain rfl:=z5c f
 have v:=congrArg (zK true (.int .i64 ((0:Nat):Int))) f
 refine Qq (fun a J=>?_) (o:=by exact fun J O=>Ok.cast (yC runUnderlying298 runUnderlying9 zeroValue3 J O rfl rfl h) (show zK true (.int .i64 ((0:Nat):Int)) (yV (wordsM) A.text)=.tuple #[.int .i64 ((5:Nat):Int),.bool true] from v))
 refine Sto 0 fun w N a J=>?_
 refine Sto 2 fun w N a J=>?_
 refine go fun a J=>?_
 have g:=N
 replace N:=N.dl [2,0]
 refine qI (N:=g) ?_
 show Out (kP t pos kd) _ _
 first | rw [tL r f (by simp [qA, *])] | rw [tM r f (by simp [qA, *])]
 exact ⟨rfl,N⟩
 replace N:=N.dl [0]
 show Out (kP t pos kd) _ _
 rw [y5p r (by simp [qA, *])];exact ⟨rfl,N⟩
end Go.Sw
namespace Go.Proofs
open Go.Shelf
def Tryz.lays137_ren:Go.Shelf.Ren:=⟨fun | 137=>213 | 217=>228 | 266=>236 | n=>n,fun | 9=>9 | 5=>5 | 3=>3 | n=>n,fun | n=>n⟩
theorem Tryz.lays137:Go.Proofs.Lays.n137 Tryz.prog Tryz.lays137_ren:={
 mixed:=by kernel_rfl
 f137:=Tryz.func213.trans (congrArg some (by kernel_rfl))
 f217:=Tryz.func228.trans (congrArg some (by kernel_rfl))
 f266:=Tryz.func236.trans (congrArg some (by kernel_rfl))
 t3:=Tryz.underlying3
 a3:=Tryz.isAgg3
 z3:=Tryz.sizeOf3
 v3:=Tryz.zeroValue3
 t5:=Tryz.underlying5
 a5:=Tryz.isAgg5
 z5:=Tryz.sizeOf5
 v5:=Tryz.zeroValue5
 t9:=Tryz.underlying9
 a9:=Tryz.isAgg9
 z9:=Tryz.sizeOf9
 v9:=Tryz.zeroValue9 }
open Go.RowKit in
theorem Tryz.strings_IndexByte (s:ByteArray) (c:Int) (w:World) :
  Calls Tryz.prog 213 #[.string s,.int .u8 c] w fun e w'=>e=.returned (.int .i64 (Lib.indexByte s.data.toList c.toNat.toUInt8))/\w'=w:=Any.strings_IndexByte Tryz.lays137 s c w
def Tryz.laysM171_ren:Go.Shelf.Ren:=⟨fun | 171=>122 | 243=>172 | 246=>199 | 283=>209 | 284=>210 | 285=>211 | 286=>212 | 129=>224 | 317=>223 | 318=>225 | 319=>226 | 320=>227 | 337=>234 | 338=>235 | n=>n,fun | 3=>3 | 9=>9 | 2=>2 | 4=>4 | 171=>275 | 0=>0 | 53=>241 | 37=>128 | 5=>5 | 173=>278 | 212=>291 | 51=>292 | 20=>20 | 213=>293 | 46=>282 | 232=>318 | 233=>319 | n=>n,fun | 17=>1 | 18=>2 | 19=>3 | n=>n⟩
theorem Tryz.laysM171:Go.Proofs.LaysM.n171 Tryz.prog Tryz.laysM171_ren:={
 mixed:=by kernel_rfl
 f129:=Tryz.func224.trans (congrArg some (by kernel_rfl))
 f171:=Tryz.func122.trans (congrArg some (by kernel_rfl))
 f243:=Tryz.func172.trans (congrArg some (by kernel_rfl))
 f246:=Tryz.func199.trans (congrArg some (by kernel_rfl))
 f283:=Tryz.func209.trans (congrArg some (by kernel_rfl))
 f284:=Tryz.func210.trans (congrArg some (by kernel_rfl))
 f285:=Tryz.func211.trans (congrArg some (by kernel_rfl))
 f286:=Tryz.func212.trans (congrArg some (by kernel_rfl))
 f317:=Tryz.func223.trans (congrArg some (by kernel_rfl))
 f318:=Tryz.func225.trans (congrArg some (by kernel_rfl))
 f319:=Tryz.func226.trans (congrArg some (by kernel_rfl))
 f320:=Tryz.func227.trans (congrArg some (by kernel_rfl))
 f337:=Tryz.func234.trans (congrArg some (by kernel_rfl))
 f338:=Tryz.func235.trans (congrArg some (by kernel_rfl))
 t0:=Tryz.underlying0
 a0:=Tryz.isAgg0
 z0:=Tryz.sizeOf0
 v0:=Tryz.zeroValue0
 t2:=Tryz.underlying2
 a2:=Tryz.isAgg2
 z2:=Tryz.sizeOf2
 v2:=Tryz.zeroValue2
 t3:=Tryz.underlying3
 a3:=Tryz.isAgg3
 z3:=Tryz.sizeOf3
 v3:=Tryz.zeroValue3
 t4:=Tryz.underlying4
 a4:=Tryz.isAgg4
 z4:=Tryz.sizeOf4
 v4:=Tryz.zeroValue4
 t5:=Tryz.underlying5
 a5:=Tryz.isAgg5
 z5:=Tryz.sizeOf5
 v5:=Tryz.zeroValue5
 t9:=Tryz.underlying9
 a9:=Tryz.isAgg9
 z9:=Tryz.sizeOf9
 v9:=Tryz.zeroValue9
 t20:=Tryz.underlying20
 a20:=Tryz.isAgg20
 z20:=Tryz.sizeOf20
 v20:=Tryz.zeroValue20
 t37:=Tryz.underlying128
 a37:=Tryz.isAgg128
 z37:=Tryz.sizeOf128
 v37:=Tryz.zeroValue128
 t46:=Tryz.underlying282
 a46:=Tryz.isAgg282
 z46:=Tryz.sizeOf282
 v46:=Tryz.zeroValue282
 t51:=Tryz.underlying292
 a51:=Tryz.isAgg292
 z51:=Tryz.sizeOf292
 v51:=Tryz.zeroValue292
 t53:=Tryz.underlying241
 a53:=Tryz.isAgg241
 z53:=Tryz.sizeOf241
 v53:=Tryz.zeroValue241
 t171:=Tryz.underlying275
 a171:=Tryz.isAgg275
 z171:=Tryz.sizeOf275
 v171:=Tryz.zeroValue275
 t173:=Tryz.underlying278
 a173:=Tryz.isAgg278
 z173:=Tryz.sizeOf278
 v173:=Tryz.zeroValue278
 t212:=Tryz.underlying291
 a212:=Tryz.isAgg291
 z212:=Tryz.sizeOf291
 v212:=Tryz.zeroValue291
 t213:=Tryz.underlying293
 a213:=Tryz.isAgg293
 z213:=Tryz.sizeOf293
 t232:=Tryz.underlying318
 a232:=Tryz.isAgg318
 z232:=Tryz.sizeOf318
 v232:=Tryz.zeroValue318
 t233:=Tryz.underlying319
 a233:=Tryz.isAgg319
 z233:=Tryz.sizeOf319
 v233:=Tryz.zeroValue319
 g17:=by kernel_rfl
 g18:=by kernel_rfl
 g19:=by kernel_rfl
 i0:=by kernel_rfl
 i2:=by kernel_rfl
 i3:=by kernel_rfl
 i4:=by kernel_rfl
 i5:=by kernel_rfl
 i9:=by kernel_rfl
 i20:=by kernel_rfl
 i37:=by kernel_rfl
 i46:=by kernel_rfl
 i51:=by kernel_rfl
 i53:=by kernel_rfl
 i171:=by kernel_rfl
 i173:=by kernel_rfl
 i212:=by kernel_rfl
 i232:=by kernel_rfl
 i233:=by kernel_rfl
 m17:=by kernel_rfl
 m18:=by kernel_rfl
 m19:=by kernel_rfl }
open Go.RowKit Go.Sort Go.Lib in
theorem Tryz.strconv_Itoa (n:Int) (b:-9223372036854775808<=n) (h1:n<=9223372036854775807) (w:World) (a:Lib.TabIs Tryz.prog w "internal/strconv.uint64pow10" .u64 Lib.pow10Tab) :
  Calls Tryz.prog 122 #[.int .i64 n] w fun e w'=>e=.returned (.string ⟨(Lib.itoa n).toArray⟩)/\∃k os,w'=grow (w.drewN k) os:=Any.strconv_Itoa Tryz.laysM171 n b h1 w a
def Tryz.laysC172_ren:Go.Shelf.Ren:=⟨fun | 172=>217 | 244=>229 | 245=>230 | 247=>237 | 279=>238 | 280=>239 | 281=>240 | 282=>241 | 287=>254 | 316=>255 | 171=>122 | 205=>256 | 321=>259 | 322=>260 | 243=>172 | 246=>199 | 283=>209 | 284=>210 | 285=>211 | 286=>212 | 129=>224 | 317=>223 | 318=>225 | 319=>226 | 320=>227 | 337=>234 | 338=>235 | n=>n,fun | 9=>9 | 3=>3 | 75=>138 | 76=>139 | 4=>4 | 5=>5 | 167=>306 | 37=>128 | 0=>0 | 85=>307 | 2=>2 | 168=>309 | 53=>241 | 175=>320 | 46=>282 | 210=>324 | 127=>202 | 145=>333 | 143=>331 | 21=>21 | 171=>275 | 173=>278 | 212=>291 | 51=>292 | 20=>20 | 213=>293 | 232=>318 | 233=>319 | 80=>116 | n=>n,fun | 15=>4 | 16=>5 | 17=>1 | 18=>2 | 19=>3 | n=>n⟩
theorem Tryz.laysC172:Go.Proofs.LaysC.n172 Tryz.prog Tryz.laysC172_ren:={
 mixed:=by kernel_rfl
 f129:=Tryz.func224.trans (congrArg some (by kernel_rfl))
 f171:=Tryz.func122.trans (congrArg some (by kernel_rfl))
 f172:=Tryz.func217.trans (congrArg some (by kernel_rfl))
 f205:=Tryz.func256.trans (congrArg some (by kernel_rfl))
 f243:=Tryz.func172.trans (congrArg some (by kernel_rfl))
 f244:=Tryz.func229.trans (congrArg some (by kernel_rfl))
 f245:=Tryz.func230.trans (congrArg some (by kernel_rfl))
 f246:=Tryz.func199.trans (congrArg some (by kernel_rfl))
 f247:=Tryz.func237.trans (congrArg some (by kernel_rfl))
 f279:=Tryz.func238.trans (congrArg some (by kernel_rfl))
 f280:=Tryz.func239.trans (congrArg some (by kernel_rfl))
 f281:=Tryz.func240.trans (congrArg some (by kernel_rfl))
 f282:=Tryz.func241.trans (congrArg some (by kernel_rfl))
 f283:=Tryz.func209.trans (congrArg some (by kernel_rfl))
 f284:=Tryz.func210.trans (congrArg some (by kernel_rfl))
 f285:=Tryz.func211.trans (congrArg some (by kernel_rfl))
 f286:=Tryz.func212.trans (congrArg some (by kernel_rfl))
 f287:=Tryz.func254.trans (congrArg some (by kernel_rfl))
 f316:=Tryz.func255.trans (congrArg some (by kernel_rfl))
 f317:=Tryz.func223.trans (congrArg some (by kernel_rfl))
 f318:=Tryz.func225.trans (congrArg some (by kernel_rfl))
 f319:=Tryz.func226.trans (congrArg some (by kernel_rfl))
 f320:=Tryz.func227.trans (congrArg some (by kernel_rfl))
 f321:=Tryz.func259.trans (congrArg some (by kernel_rfl))
 f322:=Tryz.func260.trans (congrArg some (by kernel_rfl))
 f337:=Tryz.func234.trans (congrArg some (by kernel_rfl))
 f338:=Tryz.func235.trans (congrArg some (by kernel_rfl))
 t0:=Tryz.underlying0
 a0:=Tryz.isAgg0
 z0:=Tryz.sizeOf0
 v0:=Tryz.zeroValue0
 t2:=Tryz.underlying2
 a2:=Tryz.isAgg2
 z2:=Tryz.sizeOf2
 v2:=Tryz.zeroValue2
 t3:=Tryz.underlying3
 a3:=Tryz.isAgg3
 z3:=Tryz.sizeOf3
 v3:=Tryz.zeroValue3
 t4:=Tryz.underlying4
 a4:=Tryz.isAgg4
 z4:=Tryz.sizeOf4
 v4:=Tryz.zeroValue4
 t5:=Tryz.underlying5
 a5:=Tryz.isAgg5
 z5:=Tryz.sizeOf5
 v5:=Tryz.zeroValue5
 t9:=Tryz.underlying9
 a9:=Tryz.isAgg9
 z9:=Tryz.sizeOf9
 v9:=Tryz.zeroValue9
 t20:=Tryz.underlying20
 a20:=Tryz.isAgg20
 z20:=Tryz.sizeOf20
 v20:=Tryz.zeroValue20
 t21:=Tryz.underlying21
 a21:=Tryz.isAgg21
 z21:=Tryz.sizeOf21
 v21:=Tryz.zeroValue21
 t37:=Tryz.underlying128
 a37:=Tryz.isAgg128
 z37:=Tryz.sizeOf128
 v37:=Tryz.zeroValue128
 t46:=Tryz.underlying282
 a46:=Tryz.isAgg282
 z46:=Tryz.sizeOf282
 v46:=Tryz.zeroValue282
 t51:=Tryz.underlying292
 a51:=Tryz.isAgg292
 z51:=Tryz.sizeOf292
 v51:=Tryz.zeroValue292
 t53:=Tryz.underlying241
 a53:=Tryz.isAgg241
 z53:=Tryz.sizeOf241
 v53:=Tryz.zeroValue241
 t75:=Tryz.underlying138
 a75:=Tryz.isAgg138
 z75:=Tryz.sizeOf138
 v75:=Tryz.zeroValue138
 t76:=Tryz.underlying139
 a76:=Tryz.isAgg139
 z76:=Tryz.sizeOf139
 v76:=Tryz.zeroValue139
 t85:=Tryz.underlying307
 a85:=Tryz.isAgg307
 z85:=Tryz.sizeOf307
 v85:=Tryz.zeroValue307
 t127:=Tryz.underlying202
 a127:=Tryz.isAgg202
 z127:=Tryz.sizeOf202
 v127:=Tryz.zeroValue202
 t143:=Tryz.underlying331
 a143:=Tryz.isAgg331
 z143:=Tryz.sizeOf331
 v143:=Tryz.zeroValue331
 t145:=Tryz.underlying333
 a145:=Tryz.isAgg333
 z145:=Tryz.sizeOf333
 v145:=Tryz.zeroValue333
 t167:=Tryz.underlying306
 a167:=Tryz.isAgg306
 z167:=Tryz.sizeOf306
 v167:=Tryz.zeroValue306
 t168:=Tryz.underlying309
 a168:=Tryz.isAgg309
 z168:=Tryz.sizeOf309
 v168:=Tryz.zeroValue309
 t171:=Tryz.underlying275
 a171:=Tryz.isAgg275
 z171:=Tryz.sizeOf275
 v171:=Tryz.zeroValue275
 t173:=Tryz.underlying278
 a173:=Tryz.isAgg278
 z173:=Tryz.sizeOf278
 v173:=Tryz.zeroValue278
 t175:=Tryz.underlying320
 a175:=Tryz.isAgg320
 z175:=Tryz.sizeOf320
 v175:=Tryz.zeroValue320
 t210:=Tryz.underlying324
 a210:=Tryz.isAgg324
 z210:=Tryz.sizeOf324
 v210:=Tryz.zeroValue324
 t212:=Tryz.underlying291
 a212:=Tryz.isAgg291
 z212:=Tryz.sizeOf291
 v212:=Tryz.zeroValue291
 t213:=Tryz.underlying293
 a213:=Tryz.isAgg293
 z213:=Tryz.sizeOf293
 t232:=Tryz.underlying318
 a232:=Tryz.isAgg318
 z232:=Tryz.sizeOf318
 v232:=Tryz.zeroValue318
 t233:=Tryz.underlying319
 a233:=Tryz.isAgg319
 z233:=Tryz.sizeOf319
 v233:=Tryz.zeroValue319
 g15:=by kernel_rfl
 g16:=by kernel_rfl
 g17:=by kernel_rfl
 g18:=by kernel_rfl
 g19:=by kernel_rfl
 t80:=Tryz.underlying116
 a80:=Tryz.isAgg116
 z80:=Tryz.sizeOf116
 v80:=Tryz.zeroValue116
 i0:=by kernel_rfl
 i2:=by kernel_rfl
 i3:=by kernel_rfl
 i4:=by kernel_rfl
 i5:=by kernel_rfl
 i9:=by kernel_rfl
 i20:=by kernel_rfl
 i21:=by kernel_rfl
 i37:=by kernel_rfl
 i46:=by kernel_rfl
 i51:=by kernel_rfl
 i53:=by kernel_rfl
 i75:=by kernel_rfl
 i76:=by kernel_rfl
 i80:=by kernel_rfl
 i85:=by kernel_rfl
 i127:=by kernel_rfl
 i143:=by kernel_rfl
 i145:=by kernel_rfl
 i167:=by kernel_rfl
 i168:=by kernel_rfl
 i171:=by kernel_rfl
 i173:=by kernel_rfl
 i175:=by kernel_rfl
 i210:=by kernel_rfl
 i212:=by kernel_rfl
 i232:=by kernel_rfl
 i233:=by kernel_rfl
 m15:=by kernel_rfl
 m16:=by kernel_rfl
 m17:=by kernel_rfl
 m18:=by kernel_rfl
 m19:=by kernel_rfl
 c0:=by kernel_rfl
 c2:=by kernel_rfl
 c3:=by kernel_rfl
 c4:=by kernel_rfl
 c5:=by kernel_rfl
 c9:=by kernel_rfl
 c20:=by kernel_rfl
 c21:=by kernel_rfl
 c37:=by kernel_rfl
 c46:=by kernel_rfl
 c51:=by kernel_rfl
 c53:=by kernel_rfl
 c75:=by kernel_rfl
 c76:=by kernel_rfl
 c80:=by kernel_rfl
 c85:=by kernel_rfl
 c127:=by kernel_rfl
 c143:=by kernel_rfl
 c145:=by kernel_rfl
 c167:=by kernel_rfl
 c168:=by kernel_rfl
 c171:=by kernel_rfl
 c173:=by kernel_rfl
 c175:=by kernel_rfl
 c210:=by kernel_rfl
 c212:=by kernel_rfl
 c213:=by kernel_rfl
 c232:=by kernel_rfl
 c233:=by kernel_rfl }
def Tryz.lays154_ren:Go.Shelf.Ren:=⟨fun | 154=>262 | 138=>264 | 165=>119 | 143=>265 | 166=>68 | 197=>266 | 169=>72 | 195=>267 | 218=>268 | 240=>120 | 241=>170 | 219=>269 | 260=>270 | 276=>171 | 277=>198 | 217=>228 | 225=>216 | 224=>215 | 267=>271 | 266=>236 | 314=>272 | n=>n,fun | 9=>9 | 3=>3 | 4=>4 | 72=>130 | 0=>0 | 76=>139 | 105=>335 | 21=>21 | 5=>5 | 70=>127 | 20=>20 | 37=>128 | 75=>138 | 127=>202 | 164=>238 | 46=>282 | 119=>337 | 139=>340 | 138=>339 | 146=>341 | 51=>292 | 80=>116 | n=>n,fun | 1=>0 | 3=>6 | 4=>7 | n=>n⟩
theorem Tryz.lays154:Go.Proofs.Lays.n154 Tryz.prog Tryz.lays154_ren:={
 mixed:=by kernel_rfl
 f138:=Tryz.func264.trans (congrArg some (by kernel_rfl))
 f143:=Tryz.func265.trans (congrArg some (by kernel_rfl))
 f154:=Tryz.func262.trans (congrArg some (by kernel_rfl))
 f165:=Tryz.func119.trans (congrArg some (by kernel_rfl))
 f166:=Tryz.func68.trans (congrArg some (by kernel_rfl))
 f169:=Tryz.func72.trans (congrArg some (by kernel_rfl))
 f195:=Tryz.func267.trans (congrArg some (by kernel_rfl))
 f197:=Tryz.func266.trans (congrArg some (by kernel_rfl))
 f217:=Tryz.func228.trans (congrArg some (by kernel_rfl))
 f218:=Tryz.func268.trans (congrArg some (by kernel_rfl))
 f219:=Tryz.func269.trans (congrArg some (by kernel_rfl))
 f224:=Tryz.func215.trans (congrArg some (by kernel_rfl))
 f225:=Tryz.func216.trans (congrArg some (by kernel_rfl))
 f240:=Tryz.func120.trans (congrArg some (by kernel_rfl))
 f241:=Tryz.func170.trans (congrArg some (by kernel_rfl))
 f260:=Tryz.func270.trans (congrArg some (by kernel_rfl))
 f266:=Tryz.func236.trans (congrArg some (by kernel_rfl))
 f267:=Tryz.func271.trans (congrArg some (by kernel_rfl))
 f276:=Tryz.func171.trans (congrArg some (by kernel_rfl))
 f277:=Tryz.func198.trans (congrArg some (by kernel_rfl))
 f314:=Tryz.func272.trans (congrArg some (by kernel_rfl))
 t0:=Tryz.underlying0
 a0:=Tryz.isAgg0
 z0:=Tryz.sizeOf0
 v0:=Tryz.zeroValue0
 t3:=Tryz.underlying3
 a3:=Tryz.isAgg3
 z3:=Tryz.sizeOf3
 v3:=Tryz.zeroValue3
 t4:=Tryz.underlying4
 a4:=Tryz.isAgg4
 z4:=Tryz.sizeOf4
 v4:=Tryz.zeroValue4
 t5:=Tryz.underlying5
 a5:=Tryz.isAgg5
 z5:=Tryz.sizeOf5
 v5:=Tryz.zeroValue5
 t9:=Tryz.underlying9
 a9:=Tryz.isAgg9
 z9:=Tryz.sizeOf9
 v9:=Tryz.zeroValue9
 t20:=Tryz.underlying20
 a20:=Tryz.isAgg20
 z20:=Tryz.sizeOf20
 v20:=Tryz.zeroValue20
 t21:=Tryz.underlying21
 a21:=Tryz.isAgg21
 z21:=Tryz.sizeOf21
 v21:=Tryz.zeroValue21
 t37:=Tryz.underlying128
 a37:=Tryz.isAgg128
 z37:=Tryz.sizeOf128
 v37:=Tryz.zeroValue128
 t46:=Tryz.underlying282
 a46:=Tryz.isAgg282
 z46:=Tryz.sizeOf282
 v46:=Tryz.zeroValue282
 t51:=Tryz.underlying292
 a51:=Tryz.isAgg292
 z51:=Tryz.sizeOf292
 v51:=Tryz.zeroValue292
 t70:=Tryz.underlying127
 a70:=Tryz.isAgg127
 z70:=Tryz.sizeOf127
 v70:=Tryz.zeroValue127
 t72:=Tryz.underlying130
 a72:=Tryz.isAgg130
 z72:=Tryz.sizeOf130
 v72:=Tryz.zeroValue130
 t75:=Tryz.underlying138
 a75:=Tryz.isAgg138
 z75:=Tryz.sizeOf138
 v75:=Tryz.zeroValue138
 t76:=Tryz.underlying139
 a76:=Tryz.isAgg139
 z76:=Tryz.sizeOf139
 v76:=Tryz.zeroValue139
 t105:=Tryz.underlying335
 a105:=Tryz.isAgg335
 z105:=Tryz.sizeOf335
 v105:=Tryz.zeroValue335
 t119:=Tryz.underlying337
 a119:=Tryz.isAgg337
 z119:=Tryz.sizeOf337
 t127:=Tryz.underlying202
 a127:=Tryz.isAgg202
 z127:=Tryz.sizeOf202
 v127:=Tryz.zeroValue202
 t138:=Tryz.underlying339
 a138:=Tryz.isAgg339
 z138:=Tryz.sizeOf339
 v138:=Tryz.zeroValue339
 t139:=Tryz.underlying340
 a139:=Tryz.isAgg340
 z139:=Tryz.sizeOf340
 v139:=Tryz.zeroValue340
 t146:=Tryz.underlying341
 a146:=Tryz.isAgg341
 z146:=Tryz.sizeOf341
 v146:=Tryz.zeroValue341
 t164:=Tryz.underlying238
 a164:=Tryz.isAgg238
 z164:=Tryz.sizeOf238
 v164:=Tryz.zeroValue238
 g1:=by kernel_rfl
 g3:=by kernel_rfl
 g4:=by kernel_rfl }
theorem Tryz.Builder_Extra_154:Builder.Extra Tryz.prog Tryz.lays154_ren:={
 sizeBuilder:=by kernel_rfl
 liesBuilder:=by kernel_rfl
 t5:=Tryz.underlying5
 a5:=Tryz.isAgg5
 z5:=Tryz.sizeOf5
 v5:=Tryz.zeroValue5
 infoByte:=by kernel_rfl
 cellsByte:=by kernel_rfl
 sizeByte:=by kernel_rfl
 neB5:=by decide }
open Go.RowKit Go.Lib in
theorem Tryz.strings_Replace (s old new:ByteArray) (n:Int) (m:Int) (w:World) (O:s.size < 4294967281) (N:w.cell? ⟨0,0,none⟩=some (.int .i64 m)) (h1:1<=old.size) (a:s.size+Lib.countB s old * new.size<=140737488355328) :
  Calls Tryz.prog 262 #[.string s,.string old,.string new,.int .i64 n] w fun e w'=>
   e=.returned (.string ⟨(Lib.replace s.data.toList old.data.toList new.data.toList n).toArray⟩)/\Below w.heap.size w w':=Any.strings_Replace Tryz.lays154 Tryz.Builder_Extra_154 s old new n m w O N h1 a
def Tryz.lays153_ren:Go.Shelf.Ren:=⟨fun | 153=>175 | 152=>200 | 226=>201 | 227=>202 | 228=>203 | 137=>213 | 119=>214 | 224=>215 | 225=>216 | 217=>228 | 266=>236 | n=>n,fun | 9=>9 | 3=>3 | 4=>4 | 5=>5 | 21=>21 | 117=>264 | 116=>263 | 0=>0 | 46=>282 | 124=>283 | n=>n,fun | n=>n⟩
theorem Tryz.lays153:Go.Proofs.Lays.n153 Tryz.prog Tryz.lays153_ren:={
 mixed:=by kernel_rfl
 f119:=Tryz.func214.trans (congrArg some (by kernel_rfl))
 f137:=Tryz.func213.trans (congrArg some (by kernel_rfl))
 f152:=Tryz.func200.trans (congrArg some (by kernel_rfl))
 f153:=Tryz.func175.trans (congrArg some (by kernel_rfl))
 f217:=Tryz.func228.trans (congrArg some (by kernel_rfl))
 f224:=Tryz.func215.trans (congrArg some (by kernel_rfl))
 f225:=Tryz.func216.trans (congrArg some (by kernel_rfl))
 f226:=Tryz.func201.trans (congrArg some (by kernel_rfl))
 f227:=Tryz.func202.trans (congrArg some (by kernel_rfl))
 f228:=Tryz.func203.trans (congrArg some (by kernel_rfl))
 f266:=Tryz.func236.trans (congrArg some (by kernel_rfl))
 t0:=Tryz.underlying0
 a0:=Tryz.isAgg0
 z0:=Tryz.sizeOf0
 v0:=Tryz.zeroValue0
 t3:=Tryz.underlying3
 a3:=Tryz.isAgg3
 z3:=Tryz.sizeOf3
 v3:=Tryz.zeroValue3
 t4:=Tryz.underlying4
 a4:=Tryz.isAgg4
 z4:=Tryz.sizeOf4
 v4:=Tryz.zeroValue4
 t5:=Tryz.underlying5
 a5:=Tryz.isAgg5
 z5:=Tryz.sizeOf5
 v5:=Tryz.zeroValue5
 t9:=Tryz.underlying9
 a9:=Tryz.isAgg9
 z9:=Tryz.sizeOf9
 v9:=Tryz.zeroValue9
 t21:=Tryz.underlying21
 a21:=Tryz.isAgg21
 z21:=Tryz.sizeOf21
 v21:=Tryz.zeroValue21
 t46:=Tryz.underlying282
 a46:=Tryz.isAgg282
 z46:=Tryz.sizeOf282
 v46:=Tryz.zeroValue282
 t116:=Tryz.underlying263
 a116:=Tryz.isAgg263
 z116:=Tryz.sizeOf263
 t117:=Tryz.underlying264
 a117:=Tryz.isAgg264
 z117:=Tryz.sizeOf264
 v117:=Tryz.zeroValue264
 t124:=Tryz.underlying283
 a124:=Tryz.isAgg283
 z124:=Tryz.sizeOf283
 v124:=Tryz.zeroValue283 }
end Go.Proofs
