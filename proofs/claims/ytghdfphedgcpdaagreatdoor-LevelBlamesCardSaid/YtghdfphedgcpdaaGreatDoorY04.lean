import Derived.Shelf.Strings.Builder1
import Derived.Shelf.LaysM
import Derived.Shelf.LaysC
import Derived.Shelf.Strconv.Itoa3
import Derived.Shelf.Strconv.AtoiAll
import Derived.Shelf.Strings.Search1
import Derived.Shelf.Strings.Replace
import Derived.Shelf.Strings.IndexAny
import Derived.Shelf.Strings.IndexAnyAll
import Derived.Test.YtghdfphedgcpdaaGreatDoorY03
set_option linter.unusedVariables false
set_option linter.unusedSimpArgs false
namespace Go.Sw
open Go.Proofs Go.Proofs.Tryz
set_option maxRecDepth 20000
set_option maxHeartbeats 4000000
section
variable {Φ:Fz} {K:List Res} {w:World}
theorem q4d {Φ:Fz} {w:World} {σ:Type} {step:σ->Ex->Bool×σ} {Kf:σ->List Res} {g:Nat} {fs cs:List Value} {s0:σ} {v0:Value} {l:List Ex} (hl:SliceOf REx Φ 5 v0 l)
  (F:∀args w,(callFunc g args).run prog w=.ok (.enter g args) w)
  (E:∀s x c w,x∈l->REx Φ c x->Mem Φ (Kf s) w->Calls prog g (fs++[Value.agg c.toArray]++cs).toArray w (fun e w'=>e=.returned (.bool (step s x).1)/\Mem Φ (Kf (step s x).2) w'))
  (N:Mem Φ (Kf s0) w):Calls prog 154 #[v0,.func (.func g) fs.toArray cs.toArray] w (fun e w'=>e=.returned (.int .i64 (yX step s0 l 0).1)/\Mem Φ (Kf (yX step s0 l 0).2) w'):=by
 obtain ⟨p0,c0,rfl,G,n⟩:=hl.fm
 refine zL func154 ntmps154 fun Q hQ a J=>?_
 refine go fun a J=>?_
 refine jS (fun mm a w=>∃(i:Nat) (s:σ),mm=l.length - i/\EnvR 19 [(0,.slice p0 l.length c0),(1,.func (.func g) (List.toArray fs) (List.toArray cs)),(7,.int .i64 l.length),(8,.int .i64 i)] [] a/\Mem Φ (Kf s) w/\(yX step s0 l 0=yX step s (l.drop i) i)) (l.length - 0) ⟨0,s0,rfl,J.pk,N,rfl⟩ ?_
 clear N J
 rintro mm a w ⟨i,s,m,J,N,j⟩ L k
 by_cases q:i < l.length
 refine go fun a J=>?_
 obtain ⟨K,rfl,o,f,p,u,r,h⟩:=hl.el n q
 obtain ⟨H,c22,I,B,rfl,t,C,D,v,z,y,A⟩:=REx.fm h
 refine q3b F (fun d w N a J=>?_) (fun d w N a J=>?_) (c:=by exact E s _ _ _ (mgQ f) h N)
 refine zD ?_
 have b:=j
 rw [zA f] at b
 simp only [yX,d,if_true] at b
 rw [b]
 exact ⟨rfl,N⟩
 refine go fun a J=>?_
 refine k _ _ _ (by subst m;omega) ⟨(i+1),((step s o).2),rfl,J.pk,N,?_⟩
 rw [j,zA f];simp [yX,d]
 refine zD ?_
 have b:=j
 rw [zB q] at b
 simp only [yX] at b
 rw [b]
 exact ⟨rfl,N⟩
theorem y1g {Φ:Fz} {w:World} {σ:Type} {step:σ->Ex->Bool×σ} {Kf:σ->List Res} {g:Nat} {fs cs:List Value} {s0:σ} {v0:Value} {l:List Ex} (hl:SliceOf REx Φ 5 v0 l)
  (d:∀args w,(callFunc g args).run prog w=.ok (.enter g args) w)
  (b:∀s x c w,x∈l->REx Φ c x->Mem Φ (Kf s) w->Calls prog g (fs++[Value.agg c.toArray]++cs).toArray w (fun e w'=>e=.returned (.bool (step s x).1)/\Mem Φ (Kf (step s x).2) w'))
  (N:Mem Φ (Kf s0) w):Calls prog 119 #[v0,.func (.func g) fs.toArray cs.toArray] w (fun e w'=>e=.returned (.bool (z8s step s0 l))/\Mem Φ (Kf (yX step s0 l 0).2) w'):=by
 obtain ⟨p0,c0,rfl,f,i⟩:=hl.fm
 refine Calls.mono (R:=fun e w'=>e=.returned (.bool (decide (0<=(yX step s0 l 0).1)))/\Mem Φ (Kf (yX step s0 l 0).2) w') ?_ (fun e w' h=>by rw [kO] at h;exact h)
 refine zL func119 ntmps119 fun Q hQ a J=>?_
 refine zT call154 (fun w N a J=>?_) (c:=q4d (Φ:=Φ) (step:=step) (Kf:=Kf) (s0:=s0) (l:=l) hl d b N)
 refine Qq (fun a J=>?_) (o:=by exact fun J O=>z2s J rfl rfl)
 refine zD ?_
 exact ⟨rfl,N⟩
theorem j1b {p:Ex->Bool} {g:Nat} {fs cs:List Value} {v0:Value} {l:List Ex} (hl:SliceOf REx Φ 5 v0 l)
  (d:∀args w,(callFunc g args).run prog w=.ok (.enter g args) w)
  (b:∀x c w,x∈l->REx Φ c x->Mem Φ K w->Calls prog g (fs++[Value.agg c.toArray]++cs).toArray w (fun e w'=>e=.returned (.bool (p x))/\Mem Φ K w'))
  (N:Mem Φ K w):Calls prog 119 #[v0,.func (.func g) fs.toArray cs.toArray] w (fun e w'=>e=.returned (.bool (l.any p))/\Mem Φ K w') :=
 (y1g (σ:=Unit) (step:=fun s x=>(p x,s)) (Kf:=fun _=>K) (s0:=()) hl d (fun _ x c w f a N=>b x c w f a N) N).mono (fun e w' h=>by rw [aF] at h;exact h)
theorem y8w {Φ:Fz} {w:World} {σ:Type} {step:σ->Arm->Bool×σ} {Kf:σ->List Res} {g:Nat} {fs cs:List Value} {s0:σ} {v0:Value} {l:List Arm} (hl:SliceOf RArm Φ 7 v0 l)
  (M:∀args w,(callFunc g args).run prog w=.ok (.enter g args) w)
  (L:∀s x c w,x∈l->RArm Φ c x->Mem Φ (Kf s) w->Calls prog g (fs++[Value.agg c.toArray]++cs).toArray w (fun e w'=>e=.returned (.bool (step s x).1)/\Mem Φ (Kf (step s x).2) w'))
  (N:Mem Φ (Kf s0) w):Calls prog 155 #[v0,.func (.func g) fs.toArray cs.toArray] w (fun e w'=>e=.returned (.int .i64 (yX step s0 l 0).1)/\Mem Φ (Kf (yX step s0 l 0).2) w'):=by
 obtain ⟨p0,c0,rfl,P,p⟩:=hl.fm
 refine zL func155 ntmps155 fun Q hQ a J=>?_
 refine go fun a J=>?_
 refine jS (fun mm a w=>∃(i:Nat) (s:σ),mm=l.length - i/\EnvR 19 [(0,.slice p0 l.length c0),(1,.func (.func g) (List.toArray fs) (List.toArray cs)),(7,.int .i64 l.length),(8,.int .i64 i)] [] a/\Mem Φ (Kf s) w/\(yX step s0 l 0=yX step s (l.drop i) i)) (l.length - 0) ⟨0,s0,rfl,J.pk,N,rfl⟩ ?_
 clear N J
 rintro mm a w ⟨i,s,o,J,N,j⟩ W n
 by_cases t:i < l.length
 refine go fun a J=>?_
 obtain ⟨U,rfl,q,f,r,y,u,h⟩:=hl.el p t
 obtain ⟨V,F,rfl,k,m⟩:=RArm.iff.1 h
 obtain ⟨R,c22,rfl,z,C⟩:=k.fm
 obtain ⟨S,G,T,H,rfl,v,I,K,A,D,B,E⟩:=REx.fm m
 refine q3b M (fun d w N a J=>?_) (fun d w N a J=>?_) (c:=by exact L s _ _ _ (mgQ f) h N)
 refine zD ?_
 have b:=j
 rw [zA f] at b
 simp only [yX,d,if_true] at b
 rw [b]
 exact ⟨rfl,N⟩
 refine go fun a J=>?_
 refine n _ _ _ (by subst o;omega) ⟨(i+1),((step s q).2),rfl,J.pk,N,?_⟩
 rw [j,zA f];simp [yX,d]
 refine zD ?_
 have b:=j
 rw [zB t] at b
 simp only [yX] at b
 rw [b]
 exact ⟨rfl,N⟩
theorem z7z {Φ:Fz} {w:World} {σ:Type} {step:σ->Arm->Bool×σ} {Kf:σ->List Res} {g:Nat} {fs cs:List Value} {s0:σ} {v0:Value} {l:List Arm} (hl:SliceOf RArm Φ 7 v0 l)
  (d:∀args w,(callFunc g args).run prog w=.ok (.enter g args) w)
  (b:∀s x c w,x∈l->RArm Φ c x->Mem Φ (Kf s) w->Calls prog g (fs++[Value.agg c.toArray]++cs).toArray w (fun e w'=>e=.returned (.bool (step s x).1)/\Mem Φ (Kf (step s x).2) w'))
  (N:Mem Φ (Kf s0) w):Calls prog 121 #[v0,.func (.func g) fs.toArray cs.toArray] w (fun e w'=>e=.returned (.bool (z8s step s0 l))/\Mem Φ (Kf (yX step s0 l 0).2) w'):=by
 obtain ⟨p0,c0,rfl,f,i⟩:=hl.fm
 refine Calls.mono (R:=fun e w'=>e=.returned (.bool (decide (0<=(yX step s0 l 0).1)))/\Mem Φ (Kf (yX step s0 l 0).2) w') ?_ (fun e w' h=>by rw [kO] at h;exact h)
 refine zL func121 ntmps121 fun Q hQ a J=>?_
 refine zT call155 (fun w N a J=>?_) (c:=y8w (Φ:=Φ) (step:=step) (Kf:=Kf) (s0:=s0) (l:=l) hl d b N)
 refine Qq (fun a J=>?_) (o:=by exact fun J O=>z2s J rfl rfl)
 refine zD ?_
 exact ⟨rfl,N⟩
theorem q5t {p:Arm->Bool} {g:Nat} {fs cs:List Value} {v0:Value} {l:List Arm} (hl:SliceOf RArm Φ 7 v0 l)
  (d:∀args w,(callFunc g args).run prog w=.ok (.enter g args) w)
  (b:∀x c w,x∈l->RArm Φ c x->Mem Φ K w->Calls prog g (fs++[Value.agg c.toArray]++cs).toArray w (fun e w'=>e=.returned (.bool (p x))/\Mem Φ K w'))
  (N:Mem Φ K w):Calls prog 121 #[v0,.func (.func g) fs.toArray cs.toArray] w (fun e w'=>e=.returned (.bool (l.any p))/\Mem Φ K w') :=
 (z7z (σ:=Unit) (step:=fun s x=>(p x,s)) (Kf:=fun _=>K) (s0:=()) hl d (fun _ x c w f a N=>b x c w f a N) N).mono (fun e w' h=>by rw [aF] at h;exact h)
theorem y8y {Φ:Fz} {w:World} {σ:Type} {step:σ->Fun->Bool×σ} {Kf:σ->List Res} {g:Nat} {fs cs:List Value} {s0:σ} {v0:Value} {l:List Fun} (hl:SliceOf RFun Φ 8 v0 l)
  (M:∀args w,(callFunc g args).run prog w=.ok (.enter g args) w)
  (L:∀s x c w,x∈l->RFun Φ c x->Mem Φ (Kf s) w->Calls prog g (fs++[Value.agg c.toArray]++cs).toArray w (fun e w'=>e=.returned (.bool (step s x).1)/\Mem Φ (Kf (step s x).2) w'))
  (N:Mem Φ (Kf s0) w):Calls prog 118 #[v0,.func (.func g) fs.toArray cs.toArray] w (fun e w'=>e=.returned (.int .i64 (yX step s0 l 0).1)/\Mem Φ (Kf (yX step s0 l 0).2) w'):=by
 obtain ⟨p0,c0,rfl,P,p⟩:=hl.fm
 refine zL func118 ntmps118 fun Q hQ a J=>?_
 refine go fun a J=>?_
 refine jS (fun mm a w=>∃(i:Nat) (s:σ),mm=l.length - i/\EnvR 19 [(0,.slice p0 l.length c0),(1,.func (.func g) (List.toArray fs) (List.toArray cs)),(7,.int .i64 l.length),(8,.int .i64 i)] [] a/\Mem Φ (Kf s) w/\(yX step s0 l 0=yX step s (l.drop i) i)) (l.length - 0) ⟨0,s0,rfl,J.pk,N,rfl⟩ ?_
 clear N J
 rintro mm a w ⟨i,s,o,J,N,j⟩ W n
 by_cases t:i < l.length
 refine go fun a J=>?_
 obtain ⟨U,rfl,q,f,r,y,u,h⟩:=hl.el p t
 obtain ⟨V,F,rfl,k,m⟩:=id h
 obtain ⟨R,c22,rfl,z,C⟩:=k.fm
 obtain ⟨S,G,T,H,rfl,v,I,K,A,D,B,E⟩:=REx.fm m
 refine q3b M (fun d w N a J=>?_) (fun d w N a J=>?_) (c:=by exact L s _ _ _ (mgQ f) h N)
 refine zD ?_
 have b:=j
 rw [zA f] at b
 simp only [yX,d,if_true] at b
 rw [b]
 exact ⟨rfl,N⟩
 refine go fun a J=>?_
 refine n _ _ _ (by subst o;omega) ⟨(i+1),((step s q).2),rfl,J.pk,N,?_⟩
 rw [j,zA f];simp [yX,d]
 refine zD ?_
 have b:=j
 rw [zB t] at b
 simp only [yX] at b
 rw [b]
 exact ⟨rfl,N⟩
theorem z8b {Φ:Fz} {w:World} {σ:Type} {step:σ->Fun->Bool×σ} {Kf:σ->List Res} {g:Nat} {fs cs:List Value} {s0:σ} {v0:Value} {l:List Fun} (hl:SliceOf RFun Φ 8 v0 l)
  (d:∀args w,(callFunc g args).run prog w=.ok (.enter g args) w)
  (b:∀s x c w,x∈l->RFun Φ c x->Mem Φ (Kf s) w->Calls prog g (fs++[Value.agg c.toArray]++cs).toArray w (fun e w'=>e=.returned (.bool (step s x).1)/\Mem Φ (Kf (step s x).2) w'))
  (N:Mem Φ (Kf s0) w):Calls prog 86 #[v0,.func (.func g) fs.toArray cs.toArray] w (fun e w'=>e=.returned (.bool (z8s step s0 l))/\Mem Φ (Kf (yX step s0 l 0).2) w'):=by
 obtain ⟨p0,c0,rfl,f,i⟩:=hl.fm
 refine Calls.mono (R:=fun e w'=>e=.returned (.bool (decide (0<=(yX step s0 l 0).1)))/\Mem Φ (Kf (yX step s0 l 0).2) w') ?_ (fun e w' h=>by rw [kO] at h;exact h)
 refine zL func86 ntmps86 fun Q hQ a J=>?_
 refine zT call118 (fun w N a J=>?_) (c:=y8y (Φ:=Φ) (step:=step) (Kf:=Kf) (s0:=s0) (l:=l) hl d b N)
 refine Qq (fun a J=>?_) (o:=by exact fun J O=>z2s J rfl rfl)
 refine zD ?_
 exact ⟨rfl,N⟩
theorem q5v {p:Fun->Bool} {g:Nat} {fs cs:List Value} {v0:Value} {l:List Fun} (hl:SliceOf RFun Φ 8 v0 l)
  (d:∀args w,(callFunc g args).run prog w=.ok (.enter g args) w)
  (b:∀x c w,x∈l->RFun Φ c x->Mem Φ K w->Calls prog g (fs++[Value.agg c.toArray]++cs).toArray w (fun e w'=>e=.returned (.bool (p x))/\Mem Φ K w'))
  (N:Mem Φ K w):Calls prog 86 #[v0,.func (.func g) fs.toArray cs.toArray] w (fun e w'=>e=.returned (.bool (l.any p))/\Mem Φ K w') :=
 (z8b (σ:=Unit) (step:=fun s x=>(p x,s)) (Kf:=fun _=>K) (s0:=()) hl d (fun _ x c w f a N=>b x c w f a N) N).mono (fun e w' h=>by rw [aF] at h;exact h)
theorem y8x {Φ:Fz} {w:World} {σ:Type} {step:σ->Con->Bool×σ} {Kf:σ->List Res} {g:Nat} {fs cs:List Value} {s0:σ} {v0:Value} {l:List Con} (hl:SliceOf RCon Φ 2 v0 l)
  (A:∀args w,(callFunc g args).run prog w=.ok (.enter g args) w)
  (z:∀s x c w,x∈l->RCon Φ c x->Mem Φ (Kf s) w->Calls prog g (fs++[Value.agg c.toArray]++cs).toArray w (fun e w'=>e=.returned (.bool (step s x).1)/\Mem Φ (Kf (step s x).2) w'))
  (N:Mem Φ (Kf s0) w):Calls prog 156 #[v0,.func (.func g) fs.toArray cs.toArray] w (fun e w'=>e=.returned (.int .i64 (yX step s0 l 0).1)/\Mem Φ (Kf (yX step s0 l 0).2) w'):=by
 obtain ⟨p0,c0,rfl,B,o⟩:=hl.fm
 refine zL func156 ntmps156 fun Q hQ a J=>?_
 refine go fun a J=>?_
 refine jS (fun mm a w=>∃(i:Nat) (s:σ),mm=l.length - i/\EnvR 19 [(0,.slice p0 l.length c0),(1,.func (.func g) (List.toArray fs) (List.toArray cs)),(7,.int .i64 l.length),(8,.int .i64 i)] [] a/\Mem Φ (Kf s) w/\(yX step s0 l 0=yX step s (l.drop i) i)) (l.length - 0) ⟨0,s0,rfl,J.pk,N,rfl⟩ ?_
 clear N J
 rintro mm a w ⟨i,s,n,J,N,j⟩ F m
 by_cases r:i < l.length
 refine go fun a J=>?_
 obtain ⟨D,rfl,p,f,q,u,t,h⟩:=hl.el o r
 obtain ⟨E,rfl,k⟩:=id h
 obtain ⟨C,c22,rfl,v,y⟩:=k.fm
 refine q3b A (fun d w N a J=>?_) (fun d w N a J=>?_) (c:=by exact z s _ _ _ (mgQ f) h N)
 refine zD ?_
 have b:=j
 rw [zA f] at b
 simp only [yX,d,if_true] at b
 rw [b]
 exact ⟨rfl,N⟩
 refine go fun a J=>?_
 refine m _ _ _ (by subst n;omega) ⟨(i+1),((step s p).2),rfl,J.pk,N,?_⟩
 rw [j,zA f];simp [yX,d]
 refine zD ?_
 have b:=j
 rw [zB r] at b
 simp only [yX] at b
 rw [b]
 exact ⟨rfl,N⟩
theorem z8a {Φ:Fz} {w:World} {σ:Type} {step:σ->Con->Bool×σ} {Kf:σ->List Res} {g:Nat} {fs cs:List Value} {s0:σ} {v0:Value} {l:List Con} (hl:SliceOf RCon Φ 2 v0 l)
  (d:∀args w,(callFunc g args).run prog w=.ok (.enter g args) w)
  (b:∀s x c w,x∈l->RCon Φ c x->Mem Φ (Kf s) w->Calls prog g (fs++[Value.agg c.toArray]++cs).toArray w (fun e w'=>e=.returned (.bool (step s x).1)/\Mem Φ (Kf (step s x).2) w'))
  (N:Mem Φ (Kf s0) w):Calls prog 123 #[v0,.func (.func g) fs.toArray cs.toArray] w (fun e w'=>e=.returned (.bool (z8s step s0 l))/\Mem Φ (Kf (yX step s0 l 0).2) w'):=by
 obtain ⟨p0,c0,rfl,f,i⟩:=hl.fm
 refine Calls.mono (R:=fun e w'=>e=.returned (.bool (decide (0<=(yX step s0 l 0).1)))/\Mem Φ (Kf (yX step s0 l 0).2) w') ?_ (fun e w' h=>by rw [kO] at h;exact h)
 refine zL func123 ntmps123 fun Q hQ a J=>?_
 refine zT call156 (fun w N a J=>?_) (c:=y8x (Φ:=Φ) (step:=step) (Kf:=Kf) (s0:=s0) (l:=l) hl d b N)
 refine Qq (fun a J=>?_) (o:=by exact fun J O=>z2s J rfl rfl)
 refine zD ?_
 exact ⟨rfl,N⟩
theorem q5u {p:Con->Bool} {g:Nat} {fs cs:List Value} {v0:Value} {l:List Con} (hl:SliceOf RCon Φ 2 v0 l)
  (d:∀args w,(callFunc g args).run prog w=.ok (.enter g args) w)
  (b:∀x c w,x∈l->RCon Φ c x->Mem Φ K w->Calls prog g (fs++[Value.agg c.toArray]++cs).toArray w (fun e w'=>e=.returned (.bool (p x))/\Mem Φ K w'))
  (N:Mem Φ K w):Calls prog 123 #[v0,.func (.func g) fs.toArray cs.toArray] w (fun e w'=>e=.returned (.bool (l.any p))/\Mem Φ K w') :=
 (z8a (σ:=Unit) (step:=fun s x=>(p x,s)) (Kf:=fun _=>K) (s0:=()) hl d (fun _ x c w f a N=>b x c w f a N) N).mono (fun e w' h=>by rw [aF] at h;exact h)
theorem y1i {Φ:Fz} {w:World} {σ:Type} {step:σ->Param->Bool×σ} {Kf:σ->List Res} {g:Nat} {fs cs:List Value} {s0:σ} {v0:Value} {l:List Param} (hl:SliceOf RParam Φ 2 v0 l)
  (v:∀args w,(callFunc g args).run prog w=.ok (.enter g args) w)
  (u:∀s x c w,x∈l->RParam Φ c x->Mem Φ (Kf s) w->Calls prog g (fs++[Value.agg c.toArray]++cs).toArray w (fun e w'=>e=.returned (.bool (step s x).1)/\Mem Φ (Kf (step s x).2) w'))
  (N:Mem Φ (Kf s0) w):Calls prog 164 #[v0,.func (.func g) fs.toArray cs.toArray] w (fun e w'=>e=.returned (.int .i64 (yX step s0 l 0).1)/\Mem Φ (Kf (yX step s0 l 0).2) w'):=by
 obtain ⟨p0,c0,rfl,y,n⟩:=hl.fm
 refine zL func164 ntmps164 fun Q hQ a J=>?_
 refine go fun a J=>?_
 refine jS (fun mm a w=>∃(i:Nat) (s:σ),mm=l.length - i/\EnvR 19 [(0,.slice p0 l.length c0),(1,.func (.func g) (List.toArray fs) (List.toArray cs)),(7,.int .i64 l.length),(8,.int .i64 i)] [] a/\Mem Φ (Kf s) w/\(yX step s0 l 0=yX step s (l.drop i) i)) (l.length - 0) ⟨0,s0,rfl,J.pk,N,rfl⟩ ?_
 clear N J
 rintro mm a w ⟨i,s,m,J,N,j⟩ A k
 by_cases q:i < l.length
 refine go fun a J=>?_
 obtain ⟨z,rfl,o,f,p,t,r,h⟩:=hl.el n q
 obtain rfl:=id h
 refine q3b v (fun d w N a J=>?_) (fun d w N a J=>?_) (c:=by exact u s _ _ _ (mgQ f) h N)
 refine zD ?_
 have b:=j
 rw [zA f] at b
 simp only [yX,d,if_true] at b
 rw [b]
 exact ⟨rfl,N⟩
 refine go fun a J=>?_
 refine k _ _ _ (by subst m;omega) ⟨(i+1),((step s o).2),rfl,J.pk,N,?_⟩
 rw [j,zA f];simp [yX,d]
 refine zD ?_
 have b:=j
 rw [zB q] at b
 simp only [yX] at b
 rw [b]
 exact ⟨rfl,N⟩
theorem z4g {Φ:Fz} {w:World} {σ:Type} {step:σ->Param->Bool×σ} {Kf:σ->List Res} {g:Nat} {fs cs:List Value} {s0:σ} {v0:Value} {l:List Param} (hl:SliceOf RParam Φ 2 v0 l)
  (d:∀args w,(callFunc g args).run prog w=.ok (.enter g args) w)
  (b:∀s x c w,x∈l->RParam Φ c x->Mem Φ (Kf s) w->Calls prog g (fs++[Value.agg c.toArray]++cs).toArray w (fun e w'=>e=.returned (.bool (step s x).1)/\Mem Φ (Kf (step s x).2) w'))
  (N:Mem Φ (Kf s0) w):Calls prog 129 #[v0,.func (.func g) fs.toArray cs.toArray] w (fun e w'=>e=.returned (.bool (z8s step s0 l))/\Mem Φ (Kf (yX step s0 l 0).2) w'):=by
 obtain ⟨p0,c0,rfl,f,i⟩:=hl.fm
 refine Calls.mono (R:=fun e w'=>e=.returned (.bool (decide (0<=(yX step s0 l 0).1)))/\Mem Φ (Kf (yX step s0 l 0).2) w') ?_ (fun e w' h=>by rw [kO] at h;exact h)
 refine zL func129 ntmps129 fun Q hQ a J=>?_
 refine zT call164 (fun w N a J=>?_) (c:=y1i (Φ:=Φ) (step:=step) (Kf:=Kf) (s0:=s0) (l:=l) hl d b N)
 refine Qq (fun a J=>?_) (o:=by exact fun J O=>z2s J rfl rfl)
 refine zD ?_
 exact ⟨rfl,N⟩
theorem y8s {p:Param->Bool} {g:Nat} {fs cs:List Value} {v0:Value} {l:List Param} (hl:SliceOf RParam Φ 2 v0 l)
  (d:∀args w,(callFunc g args).run prog w=.ok (.enter g args) w)
  (b:∀x c w,x∈l->RParam Φ c x->Mem Φ K w->Calls prog g (fs++[Value.agg c.toArray]++cs).toArray w (fun e w'=>e=.returned (.bool (p x))/\Mem Φ K w'))
  (N:Mem Φ K w):Calls prog 129 #[v0,.func (.func g) fs.toArray cs.toArray] w (fun e w'=>e=.returned (.bool (l.any p))/\Mem Φ K w') :=
 (z4g (σ:=Unit) (step:=fun s x=>(p x,s)) (Kf:=fun _=>K) (s0:=()) hl d (fun _ x c w f a N=>b x c w f a N) N).mono (fun e w' h=>by rw [aF] at h;exact h)
theorem q4c {Φ:Fz} {w:World} {σ:Type} {step:σ->Bs->Bool×σ} {Kf:σ->List Res} {g:Nat} {fs cs:List Value} {s0:σ} {v0:Value} {l:List Bs} (hl:SliceOf RStr Φ 1 v0 l)
  (v:∀args w,(callFunc g args).run prog w=.ok (.enter g args) w)
  (u:∀s x c w,x∈l->RStr Φ c x->Mem Φ (Kf s) w->Calls prog g (fs++[Value.string x]++cs).toArray w (fun e w'=>e=.returned (.bool (step s x).1)/\Mem Φ (Kf (step s x).2) w'))
  (N:Mem Φ (Kf s0) w):Calls prog 105 #[v0,.func (.func g) fs.toArray cs.toArray] w (fun e w'=>e=.returned (.int .i64 (yX step s0 l 0).1)/\Mem Φ (Kf (yX step s0 l 0).2) w'):=by
 obtain ⟨p0,c0,rfl,y,p⟩:=hl.fm
 refine zL func105 ntmps105 fun Q hQ a J=>?_
 refine go fun a J=>?_
 refine jS (fun mm a w=>∃(i:Nat) (s:σ),mm=l.length - i/\EnvR 19 [(0,.slice p0 l.length c0),(1,.func (.func g) (List.toArray fs) (List.toArray cs)),(7,.int .i64 l.length),(8,.int .i64 i)] [] a/\Mem Φ (Kf s) w/\(yX step s0 l 0=yX step s (l.drop i) i)) (l.length - 0) ⟨0,s0,rfl,J.pk,N,rfl⟩ ?_
 clear N J
 rintro mm a w ⟨i,s,o,J,N,h⟩ A n
 by_cases q:i < l.length
 refine go fun a J=>?_
 obtain ⟨z,rfl,m,f,j,t,r,k⟩:=hl.el p q
 obtain rfl:j=[.string m]:=k
 refine q3b v (fun d w N a J=>?_) (fun d w N a J=>?_) (c:=by exact u s _ _ _ (mgQ f) rfl N)
 refine zD ?_
 have b:=h
 rw [zA f] at b
 simp only [yX,d,if_true] at b
 rw [b]
 exact ⟨rfl,N⟩
 refine go fun a J=>?_
 refine n _ _ _ (by subst o;omega) ⟨(i+1),((step s m).2),rfl,J.pk,N,?_⟩
 rw [h,zA f];simp [yX,d]
 refine zD ?_
 have b:=h
 rw [zB q] at b
 simp only [yX] at b
 rw [b]
 exact ⟨rfl,N⟩
theorem y1f {Φ:Fz} {w:World} {σ:Type} {step:σ->Bs->Bool×σ} {Kf:σ->List Res} {g:Nat} {fs cs:List Value} {s0:σ} {v0:Value} {l:List Bs} (hl:SliceOf RStr Φ 1 v0 l)
  (d:∀args w,(callFunc g args).run prog w=.ok (.enter g args) w)
  (b:∀s x c w,x∈l->RStr Φ c x->Mem Φ (Kf s) w->Calls prog g (fs++[Value.string x]++cs).toArray w (fun e w'=>e=.returned (.bool (step s x).1)/\Mem Φ (Kf (step s x).2) w'))
  (N:Mem Φ (Kf s0) w):Calls prog 69 #[v0,.func (.func g) fs.toArray cs.toArray] w (fun e w'=>e=.returned (.bool (z8s step s0 l))/\Mem Φ (Kf (yX step s0 l 0).2) w'):=by
 obtain ⟨p0,c0,rfl,f,i⟩:=hl.fm
 refine Calls.mono (R:=fun e w'=>e=.returned (.bool (decide (0<=(yX step s0 l 0).1)))/\Mem Φ (Kf (yX step s0 l 0).2) w') ?_ (fun e w' h=>by rw [kO] at h;exact h)
 refine zL func69 ntmps69 fun Q hQ a J=>?_
 refine zT call105 (fun w N a J=>?_) (c:=q4c (Φ:=Φ) (step:=step) (Kf:=Kf) (s0:=s0) (l:=l) hl d b N)
 refine Qq (fun a J=>?_) (o:=by exact fun J O=>z2s J rfl rfl)
 refine zD ?_
 exact ⟨rfl,N⟩
theorem z4f {p:Bs->Bool} {g:Nat} {fs cs:List Value} {v0:Value} {l:List Bs} (hl:SliceOf RStr Φ 1 v0 l)
  (d:∀args w,(callFunc g args).run prog w=.ok (.enter g args) w)
  (b:∀x c w,x∈l->RStr Φ c x->Mem Φ K w->Calls prog g (fs++[Value.string x]++cs).toArray w (fun e w'=>e=.returned (.bool (p x))/\Mem Φ K w'))
  (N:Mem Φ K w):Calls prog 69 #[v0,.func (.func g) fs.toArray cs.toArray] w (fun e w'=>e=.returned (.bool (l.any p))/\Mem Φ K w') :=
 (y1f (σ:=Unit) (step:=fun s x=>(p x,s)) (Kf:=fun _=>K) (s0:=()) hl d (fun _ x c w f a N=>b x c w f a N) N).mono (fun e w' h=>by rw [aF] at h;exact h)
theorem x3v {m:Nat} {d0:List Value} {e:Ex} {b:Nat} (f:REx Φ d0 e) (n:m < 100000) (q:∀{Φ:Fz} {K:List Res} {w:World} {d:List Value} {e:Ex},REx Φ d e->Mem Φ K w->Calls prog 88 #[.agg d.toArray,.int .i64 m] w (fun ee w'=>ee=.returned (.bool (xS m e))/\Mem Φ K w')) (N:Mem Φ (.blk b (ob [.int .i64 ((m+1:Nat):Int)] 3)::K) w) :
  Calls prog 120 #[.agg d0.toArray,.pointer (some ⟨b,0,none⟩)] w (fun ee w'=>ee=.returned (.bool (xS m e))/\Mem Φ (.blk b (ob [.int .i64 ((m+1:Nat):Int)] 3)::K) w'):=by
 obtain ⟨t,c4,u,k,rfl,g,r,s,l,p,h,i⟩:=REx.fm f
 refine zL func120 ntmps120 fun Q hQ a J=>?_
 refine Bx fun j w N a J=>?_
 refine Qq (fun a J=>?_) (o:=by exact fun J O=>wG ((m:Nat):Int) J rfl rfl (by rw [jI (by omega)];omega))
 refine zT call88 (fun w N a J=>?_) (c:=q f N)
 refine zD ?_
 replace N:=N.dl [0]
 exact zP N (by rfl)
theorem x3w {m:Nat} {d0:List Value} {e:Arm} {b:Nat} (f:RArm Φ d0 e) (v:m < 100000) (z:∀{Φ:Fz} {K:List Res} {w:World} {d:List Value} {e:Ex},REx Φ d e->Mem Φ K w->Calls prog 88 #[.agg d.toArray,.int .i64 m] w (fun ee w'=>ee=.returned (.bool (xS m e))/\Mem Φ K w')) (N:Mem Φ (.blk b (ob [.int .i64 ((m+1:Nat):Int)] 3)::K) w) :
  Calls prog 122 #[.agg d0.toArray,.pointer (some ⟨b,0,none⟩)] w (fun ee w'=>ee=.returned (.bool (xS m e.body))/\Mem Φ (.blk b (ob [.int .i64 ((m+1:Nat):Int)] 3)::K) w'):=by
 obtain ⟨E,C,rfl,t,g⟩:=RArm.iff.1 f
 obtain ⟨D,c4,rfl,u,y⟩:=t.fm
 obtain ⟨A,p,B,q,rfl,h,r,s,i,k,j,l⟩:=REx.fm g
 refine zL func122 ntmps122 fun Q hQ a J=>?_
 refine Bx fun n w N a J=>?_
 refine Qq (fun a J=>?_) (o:=by exact fun J O=>wG ((m:Nat):Int) J rfl rfl (by rw [jI (by omega)];omega))
 refine zT call88 (fun w N a J=>?_) (c:=z g N)
 refine zD ?_
 replace N:=N.dl [0]
 exact zP N (by rfl)
theorem j8t {d0:List Value} {e:Ex} (b:REx Φ d0 e) (N:Mem Φ K w) :
  Calls prog 88 #[.agg d0.toArray,.int .i64 ((0:Nat):Int)] w (fun ee w'=>ee=.returned (.bool (xS 0 e))/\Mem Φ K w'):=by
 obtain ⟨n,c4,p,i,rfl,c,l,m,j,k,d,f⟩:=REx.fm b
 refine zL func88 ntmps88 fun Q hQ a J=>?_
 refine Bx fun g w N a J=>?_
 refine Bx fun h w N a J=>?_
 refine Qq (fun a J=>?_) (o:=by exact fun J O=>vO true J rfl rfl rfl)
 refine zD ?_
 replace N:=N.dl [1,0]
 exact zP N (by rw [y3v])
theorem j8s {d0:List Value} {e:Ex} {m:Nat} (l:REx Φ d0 e) (i:m < 100000) (r:∀{Φ:Fz} {K:List Res} {w:World} {d:List Value} {e:Ex},REx Φ d e->Mem Φ K w->Calls prog 88 #[.agg d.toArray,.int .i64 m] w (fun ee w'=>ee=.returned (.bool (xS m e))/\Mem Φ K w')) (N:Mem Φ K w) :
  Calls prog 88 #[.agg d0.toArray,.int .i64 ((m+1:Nat):Int)] w (fun ee w'=>ee=.returned (.bool (xS (m+1) e))/\Mem Φ K w'):=by
 obtain ⟨s,c4,t,g,rfl,n,u,v,y,z,o,q⟩:=REx.fm l
 refine zL func88 ntmps88 fun Q hQ a J=>?_
 refine Bx fun f w N a J=>?_
 refine Bx fun b w N a J=>?_
 by_cases j:m+1=0
 refine zD ?_
 replace N:=N.dl [1,0]
 exact zP N (by exact absurd j (by omega))
 refine yH call119 (fun h w N a J=>?_) (fun h w N a J=>?_) (c:=j1b (Φ:=Φ) (K:=.blk b (ob [.int .i64 ((m+1:Nat):Int)] 3)::.blk f (ob [.int .i64 (e.kind),.int .i64 (e.num),.string e.name,.slice s e.args.length c4,.slice t e.arms.length g] 110)::K) (p:=xS m) (fs:=[]) (cs:=[.pointer (some ⟨b,0,none⟩)]) u call120 (fun x c w A k N=>x3v k i r N) N)
 refine zD ?_
 replace N:=N.dl [1,0]
 exact zP N (by rw [z4l];simp [*])
 refine zT call121 (fun w N a J=>?_) (c:=q5t (Φ:=Φ) (K:=.blk b (ob [.int .i64 ((m+1:Nat):Int)] 3)::.blk f (ob [.int .i64 (e.kind),.int .i64 (e.num),.string e.name,.slice s e.args.length c4,.slice t e.arms.length g] 110)::K) (p:=fun a=>xS m a.body) (fs:=[]) (cs:=[.pointer (some ⟨b,0,none⟩)]) v call122 (fun x c w A k N=>x3w k i r N) N)
 refine zD ?_
 replace N:=N.dl [1,0]
 exact zP N (by rw [z4l];simp [*])
end
theorem q4i {Φ:Fz} {K:List Res} {w:World} {left:Int} {d0:List Value} {e:Ex} {b:Nat} (L:REx Φ d0 e) (h0:0<=left) (h1:left<=1000000) (ih:∀x:Ex,x.sz < e.sz->∀{Φ:Fz} {K:List Res} {w:World} {d:List Value} {b:Nat} {left:Int},0<=left->left<=1000000->REx Φ d x->Mem Φ (.blk b (ob [.int .i64 left] 3)::K) w->Calls prog 125 #[.agg d.toArray,.pointer (some ⟨b,0,none⟩)] w (fun ee w'=>ee=.returned (.bool (jC x left).1)/\Mem Φ (.blk b (ob [.int .i64 (jC x left).2] 3)::K) w')) (N:Mem Φ (.blk b (ob [.int .i64 (left)] 3)::K) w) :
  Calls prog 125 #[.agg d0.toArray,.pointer (some ⟨b,0,none⟩)] w (fun ee w'=>ee=.returned (.bool ((jC e left).1))/\Mem Φ (.blk b (ob [.int .i64 ((jC e left).2)] 3)::K) w'):=by
 obtain ⟨p3,c4,p9,t0,rfl,U,h2,h8,F0,I,Z,E⟩:=REx.fm L
 refine zL func125 ntmps125 fun Q hQ a J=>?_
 refine Bx fun p0 w N a J=>?_
 refine Qq (fun a J=>?_) (o:=by exact fun J O=>wG (left - 1) J rfl rfl (by rw [jI (by omega)]))
 refine Sto 1 fun w N a J=>?_
 by_cases G:left - 1 < 0
 refine zD ?_
 replace N:=N.dl [0]
 have hr_:jC e left=(true,left - 1):=by rw [z6u,if_pos G]
 show _/\_;rw [hr_];exact ⟨rfl,N⟩
 refine go fun a J=>?_
 refine zU (J.ks [1,2,19,20]) N (fun R mm a w=>∃(i:Nat) (q:Int),mm=e.args.length - i/\R Φ [(21,.int .i64 i)] [(1,.blk b (ob [.int .i64 (q)] 3))] a w/\(0<=q/\q<=1000000/\jC e left=z2b e.arms (meass (e.args.drop i) q))) (e.args.length - 0) ⟨0,left - 1,rfl,⟨J.pk,N⟩,by refine ⟨by omega,by omega,?_⟩;rw [z6u,if_neg (by omega)];rfl⟩ ?_
 clear N J
 rintro mm a w ⟨i,q,r,⟨J,N⟩,A⟩ n0 C
 replace N:=N.nf
 obtain ⟨s,t,f⟩:=A
 by_cases v:i < e.args.length
 refine go fun a J=>?_
 obtain ⟨L0,rfl,u,k,M,X,S,m⟩:=h2.el I v
 obtain ⟨G0,u0,H0,c46,rfl,V,A0,B0,a0,g0,b0,i0⟩:=REx.fm m
 refine Alc fun q0 w N a J=>?_
 refine Sto 0 fun w N a J=>?_
 replace N:=N.pl 2
 refine yH call125 (fun h w N a J=>?_) (fun h w N a J=>?_) (c:=ih _ (by first | exact Ex.lt_args (mgQ k) | exact Ex.lt_arms (mgQ k)) (by omega) (by omega) m N)
 refine zD ?_
 replace N:=N.dl [2,1]
 have hr_:jC e left=(true,(jC u q).2):=by rw [f,zA k,uW,h];rfl
 show _/\_;rw [hr_];exact ⟨rfl,N⟩
 refine go fun a J=>?_
 replace N:=N.ar [1] [1]
 refine C _ _ _ (by subst r;omega) ⟨(i+1),((jC u q).2),rfl,⟨J.pk,N⟩,?_⟩
 have p:=wJ u q h
 refine ⟨p.1,by omega,?_⟩
 rw [f,zA k,uW,h];rfl
 refine go fun a J=>?_
 refine zU (J.ks [1,30,31]) N (fun R mm a w=>∃(i:Nat) (q:Int),mm=e.arms.length - i/\R Φ [(32,.int .i64 i)] [(1,.blk b (ob [.int .i64 (q)] 3))] a w/\(0<=q/\q<=1000000/\jC e left=measa (e.arms.drop i) q)) (e.arms.length - 0) ⟨0,q,rfl,⟨J.pk,N⟩,by refine ⟨s,t,?_⟩;rw [f,zB v];rfl⟩ ?_
 clear N J
 rintro mm a w ⟨i,q,r,⟨J,N⟩,B⟩ o0 D
 replace N:=N.nf
 clear s t f
 obtain ⟨s,t,f⟩:=B
 by_cases y:i < e.arms.length
 refine go fun a J=>?_
 obtain ⟨M0,rfl,l,g,P,Y,T,F⟩:=h8.el E y
 obtain ⟨N0,r0,rfl,H,z⟩:=RArm.iff.1 F
 obtain ⟨I0,w0,rfl,c0,j0⟩:=H.fm
 obtain ⟨J0,x0,K0,y0,rfl,W,D0,E0,e0,k0,f0,l0⟩:=REx.fm z
 refine Alc fun s0 w N a J=>?_
 refine Sto 0 fun w N a J=>?_
 refine go fun a J=>?_
 by_cases n:16 < l.vars.length
 refine zD ?_
 replace N:=N.dl [1,0]
 have hr_:jC e left=(true,q):=by rw [f,zA g,oD,if_pos n]
 show _/\_;rw [hr_];exact ⟨rfl,N⟩
 replace N:=N.pl 2
 refine yH call125 (fun j w N a J=>?_) (fun j w N a J=>?_) (c:=ih _ (by first | exact Ex.lt_args (mgQ g) | exact Ex.lt_arms (mgQ g)) (by omega) (by omega) z N)
 refine zD ?_
 replace N:=N.dl [2,1]
 have hr_:jC e left=(true,(jC l.body q).2):=by rw [f,zA g,oD,if_neg n,j];rfl
 show _/\_;rw [hr_];exact ⟨rfl,N⟩
 refine go fun a J=>?_
 replace N:=N.ar [1] [1]
 refine D _ _ _ (by subst r;omega) ⟨(i+1),((jC l.body q).2),rfl,⟨J.pk,N⟩,?_⟩
 have p:=wJ l.body q j
 refine ⟨p.1,by omega,?_⟩
 rw [f,zA g,oD,if_neg n,j];rfl
 refine zD ?_
 replace N:=N.dl [0]
 have hr_:jC e left=(false,q):=by rw [f,zB y];rfl
 show _/\_;rw [hr_];exact ⟨rfl,N⟩
theorem j2n {Φ:Fz} {K:List Res} {w:World} {d:List Value} {e:Ex} {b:Nat} {left:Int} (a:0<=left) (h1:left<=1000000) (re:REx Φ d e) (N:Mem Φ (.blk b (ob [.int .i64 left] 3)::K) w) :
  Calls prog 125 #[.agg d.toArray,.pointer (some ⟨b,0,none⟩)] w (fun ee w'=>ee=.returned (.bool (jC e left).1)/\Mem Φ (.blk b (ob [.int .i64 (jC e left).2] 3)::K) w'):=by
 suffices H:∀n (e:Ex),e.sz < n->∀{Φ:Fz} {K:List Res} {w:World} {d:List Value} {b:Nat} {left:Int},0<=left->left<=1000000->REx Φ d e->Mem Φ (.blk b (ob [.int .i64 left] 3)::K) w->Calls prog 125 #[.agg d.toArray,.pointer (some ⟨b,0,none⟩)] w (fun ee w'=>ee=.returned (.bool (jC e left).1)/\Mem Φ (.blk b (ob [.int .i64 (jC e left).2] 3)::K) w') from H _ e (Nat.lt_succ_self _) a h1 re N
 intro n
 induction n with
 | zero=>intro e h;omega
 | succ n f=>intro e h Φ K w d b left a h1 re N;exact q4i re a h1 (fun x g _ _ _ _ _ _ c g1 r m=>f x (by omega) c g1 r m) N
theorem deep_ok {m:Nat} (a:m < 100000):∀{Φ:Fz} {K:List Res} {w:World} {d:List Value} {e:Ex},REx Φ d e->Mem Φ K w->Calls prog 88 #[.agg d.toArray,.int .i64 m] w (fun ee w'=>ee=.returned (.bool (xS m e))/\Mem Φ K w'):=by
 induction m with
 | zero=>intro Φ K w d e re N;exact j8t re N
 | succ m b=>intro Φ K w d e re N;exact j8s re (by omega) (fun r h=>b (by omega) r h) N
theorem x6y {Φ:Fz} {K:List Res} {w:World} {d0:List Value} {f:Fun} (b:RFun Φ d0 f) (N:Mem Φ K w) :
  Calls prog 87 #[.agg d0.toArray] w (fun ee w'=>ee=.returned (.bool (xS 250 f.body))/\Mem Φ K w'):=by
 obtain ⟨z,v,rfl,q,d⟩:=id b
 obtain ⟨y,c4,rfl,r,s⟩:=q.fm
 obtain ⟨t,l,u,n,rfl,e,o,p,g,i,h,j⟩:=REx.fm d
 refine zL func87 ntmps87 fun Q hQ a J=>?_
 refine Bx fun k w N a J=>?_
 refine zT call88 (fun w N a J=>?_) (c:=deep_ok (m:=250) (by omega) d N)
 refine zD ?_
 replace N:=N.dl [0]
 exact zP N (by rfl)
theorem x6w {Φ:Fz} {K:List Res} {w:World} {d0:List Value} {x:Con} (b:RCon Φ d0 x) (N:Mem Φ K w) :
  Calls prog 124 #[.agg d0.toArray] w (fun ee w'=>ee=.returned (.bool (decide (16 < x.fields.length)))/\Mem Φ K w'):=by
 obtain ⟨h,rfl,c⟩:=id b
 obtain ⟨g,c4,rfl,d,e⟩:=c.fm
 refine zL func124 ntmps124 fun Q hQ a J=>?_
 refine Bx fun f w N a J=>?_
 refine Qq (fun a J=>?_) (o:=by exact fun J O=>j4z (i:=x.fields.length) (j:=16) J rfl rfl)
 refine zD ?_
 replace N:=N.dl [0]
 exact zP N (by exact decide_eq_decide.2 (by omega))
theorem x6x {Φ:Fz} {K:List Res} {w:World} {d0:List Value} {c:Core} {vx:Value} (a0:RCoreX Φ d0 c vx) (N:Mem Φ K w) :
  Calls prog 89 #[.agg d0.toArray] w (fun ee w'=>ee=.returned (.bool (xN c))/\Mem Φ K w'):=by
 obtain ⟨s1,s2,s3,q4,I,rfl,rfl,h6,h7,h8⟩:=id a0
 obtain ⟨p9,E,rfl,m0,v⟩:=h6.fm
 obtain ⟨W,F,rfl,n0,t0⟩:=h7.fm
 obtain ⟨X,G,rfl,o0,y⟩:=h8.fm
 refine zL func89 ntmps89 fun Q hQ a J=>?_
 refine Bx fun B w N a J=>?_
 by_cases L:60 < c.datas.length
 refine zD ?_
 replace N:=N.dl [0]
 exact zP N (by simp [xN,L])
 by_cases M:6 < c.inputs.length
 refine zD ?_
 replace N:=N.dl [0]
 exact zP N (by simp [xN,M])
 by_cases P:300 < c.funs.length
 refine zD ?_
 replace N:=N.dl [0]
 exact zP N (by simp [xN,P])
 refine go fun a J=>?_
 by_cases S:6 < c.outputs.length
 refine zD ?_
 replace N:=N.dl [0]
 exact zP N (by simp [xN,S])
 refine go fun a J=>?_
 refine zU (J.ks [1,31,32]) N (fun R mm a w=>∃(i:Nat),mm=c.datas.length - i/\R Φ [(33,.int .i64 i)] [] a w/\(xN c=((c.datas.drop i).any dC || dZ c.funs 6000))) (c.datas.length - 0) ⟨0,rfl,⟨J.pk,N⟩,by simp [xN, *]⟩ ?_
 clear N J
 rintro mm a w ⟨i,h,⟨J,N⟩,b⟩ z0 t
 by_cases l:i < c.datas.length
 refine go fun a J=>?_
 obtain ⟨Z,rfl,j,e,c0,k0,i0,z⟩:=h6.el v l
 obtain ⟨R0,rfl,m⟩:=id z
 obtain ⟨Y,H,rfl,p0,u0⟩:=m.fm
 refine Alc fun C w N a J=>?_
 refine Sto 0 fun w N a J=>?_
 by_cases F0:16 < j.cons.length
 refine zD ?_
 replace N:=N.dl [1,0]
 exact zP N (by rw [b,zA e];simp [dC, *])
 refine yH call123 (fun r w N a J=>?_) (fun r w N a J=>?_) (c:=q5u (Φ:=Φ) (K:=.blk C (ob [.string j.name,.slice Y j.cons.length H] 126)::.blk B (ob [.slice (some Z) c.datas.length E,.slice W c.inputs.length F,.slice X c.funs.length G,.slice q4 c.outputs.length I] 27)::K) (p:=fun x=>decide (16 < x.fields.length)) (fs:=[]) (cs:=[]) m call124 (fun x c w hx hc N=>x6w hc N) N)
 refine zD ?_
 replace N:=N.dl [1,0]
 exact zP N (by rw [b,zA e];simp [dC, *])
 refine go fun a J=>?_
 replace N:=N.dl [0]
 refine t _ _ _ (by subst h;omega) ⟨(i+1),rfl,⟨J.pk,N⟩,?_⟩
 rw [b,zA e];simp [dC, *]
 refine Alc fun D w N a J=>?_
 refine Sto 0 fun w N a J=>?_
 refine go fun a J=>?_
 refine zU (J.ks [5,48,49]) N (fun R mm a w=>∃(i:Nat) (q:Int),mm=c.funs.length - i/\R Φ [(50,.int .i64 i)] [(0,.blk D (ob [.int .i64 (q)] 3))] a w/\(0<=q/\q<=1000000/\xN c=dZ (c.funs.drop i) q)) (c.funs.length - 0) ⟨0,6000,rfl,⟨J.pk,N⟩,by refine ⟨by omega,by omega,?_⟩;rw [b,zB l];rfl⟩ ?_
 clear N J
 rintro mm a w ⟨i,q,h,⟨J,N⟩,s⟩ A0 u
 replace N:=N.nf
 obtain ⟨K0,L0,g⟩:=s
 by_cases n:i < c.funs.length
 refine go fun a J=>?_
 obtain ⟨Q0,rfl,k,f,e0,l0,j0,A⟩:=h8.el y n
 obtain ⟨S0,B0,rfl,T,o⟩:=id A
 obtain ⟨M0,C0,rfl,q0,w0⟩:=T.fm
 obtain ⟨N0,D0,O0,E0,rfl,U,H0,I0,r0,x0,s0,y0⟩:=REx.fm o
 refine Alc fun b0 w N a J=>?_
 refine Sto 0 fun w N a J=>?_
 refine go fun a J=>?_
 by_cases f0:16 < k.params.length
 refine zD ?_
 replace N:=N.dl [2,1,0]
 exact zP N (by rw [g,zA f];simp [dZ, *])
 replace N:=N.pl 1
 refine yH call125 (fun d w N a J=>?_) (fun d w N a J=>?_) (c:=j2n (by omega) (by omega) o N)
 refine zD ?_
 replace N:=N.dl [2,1,0]
 exact zP N (by rw [g,zA f];simp [dZ, *])
 refine go fun a J=>?_
 replace N:=N.dl [1]
 refine u _ _ _ (by subst h;omega) ⟨(i+1),((jC k.body q).2),rfl,⟨J.pk,N⟩,?_⟩
 have V:=wJ k.body q d
 refine ⟨V.1,by omega,?_⟩
 rw [g,zA f];simp [dZ, *]
 refine zD ?_
 replace N:=N.dl [1,0]
 exact zP N (by rw [g,zB n];rfl)
theorem y9a {Φ:Fz} {K:List Res} {w:World} {name:Bs} {s:Bs} {b:Nat}  (N:Mem Φ (.blk b (ob [.string name] 9)::K) w) :
  Calls prog 165 #[.string s,.pointer (some ⟨b,0,none⟩)] w (fun ee w'=>ee=.returned (.bool (inF name s))/\Mem Φ (.blk b (ob [.string name] 9)::K) w'):=by
 refine zL func165 ntmps165 fun Q hQ a J=>?_
 by_cases c:s=(⟨#[73,110,116]⟩:Bs)
 refine zD ?_
 exact zP N (by simp [inF,yU, *])
 refine Qq (fun a J=>?_) (o:=by exact fun J O=>j7x J rfl rfl)
 refine zD ?_
 exact zP N (by simp [inF,yU, *])
theorem q4e {Φ:Fz} {K:List Res} {w:World} {v0:Value} {ds:List Data} {name:Bs} (m:SliceOf RData Φ 2 v0 ds) (N:Mem Φ K w) :
  Calls prog 131 #[v0,.string name] w (fun ee w'=>ee=.returned (.bool (vI ds name))/\Mem Φ K w'):=by
 obtain ⟨p0,c0,rfl,e0,F⟩:=m.fm
 refine zL func131 ntmps131 fun Q hQ a J=>?_
 refine Bx fun I w N a J=>?_
 by_cases h5:name=(⟨#[73,110,116]⟩:Bs)
 refine zD ?_
 replace N:=N.dl [0]
 exact zP N (by simp [vI,yU,h5])
 refine go fun a J=>?_
 refine zU (J.ks [3,13,14]) N (fun R mm a w=>∃(i:Nat) (nn:Int) (o:Bool),mm=ds.length - i/\R Φ [(5,.int .i64 (nn)),(6,.bool o),(15,.int .i64 i)] [] a w/\(nP name ds 0 true=nP name (ds.drop i) nn o)) (ds.length - 0) ⟨0,0,true,rfl,⟨J.pk,N⟩,rfl⟩ ?_
 clear N J
 rintro mm a w ⟨i,nn,o,e,⟨J,N⟩,d⟩ Y j
 by_cases n:i < ds.length
 refine go fun a J=>?_
 obtain ⟨g0,rfl,b,l,L,T,P,v⟩:=m.el F n
 obtain ⟨h0,rfl,r⟩:=id v
 obtain ⟨f0,C,rfl,V,u⟩:=r.fm
 refine Alc fun A w N a J=>?_
 refine Sto 0 fun w N a J=>?_
 by_cases a0:b.name=name
 refine Qq (fun a J=>?_) (o:=by exact fun J O=>z7r _ J rfl rfl rfl)
 refine go fun a J=>?_
 refine zU (J.ks [3,5,13,14,15,26,27]) N (fun R mm a w=>∃(k:Nat) (q:Bool),mm=b.cons.length - k/\R Φ [(6,.bool q),(28,.int .i64 k)] [] a w/\(dQ name b.cons o=dQ name (b.cons.drop k) q)) (b.cons.length - 0) ⟨0,o,rfl,⟨J.pk,N⟩,rfl⟩ ?_
 clear N J
 rintro mm a w ⟨k,q,e,⟨J,N⟩,f⟩ Z g
 by_cases E:k < b.cons.length
 refine go fun a J=>?_
 obtain ⟨H,rfl,z,h,M,U,S,y⟩:=r.el u E
 obtain ⟨i0,rfl,s⟩:=id y
 obtain ⟨G,D,rfl,W,X⟩:=s.fm
 refine Alc fun B w N a J=>?_
 refine Sto 0 fun w N a J=>?_
 refine go fun a J=>?_
 cases q
 refine go fun a J=>?_
 replace N:=N.dl [0]
 refine g _ _ _ (by subst e;omega) ⟨(k+1),(false),rfl,⟨J.pk,N⟩,?_⟩
 rw [f,zA h];simp [dQ, *]
 replace N:=N.pl 2
 refine yH call69 (fun t w N a J=>?_) (fun t w N a J=>?_) (c:=z4f (Φ:=Φ) (K:=.blk I (ob [.string name] 9)::.blk B (ob [.string z.name,.slice G z.fields.length D] 128)::.blk A (ob [.string b.name,.slice (some H) b.cons.length C] 126)::K) (p:=inF name) (fs:=[]) (cs:=[.pointer (some ⟨I,0,none⟩)]) s call165 (fun x c w hx hc N=>y9a N) N)
 refine go fun a J=>?_
 replace N:=N.ar [1] [1]
 refine g _ _ _ (by subst e;omega) ⟨(k+1),(false),rfl,⟨J.pk,N⟩,?_⟩
 rw [f,zA h];simp [dQ, *]
 refine go fun a J=>?_
 replace N:=N.ar [1] [1]
 refine g _ _ _ (by subst e;omega) ⟨(k+1),(true),rfl,⟨J.pk,N⟩,?_⟩
 rw [f,zA h];simp [dQ, *]
 refine go fun a J=>?_
 replace N:=N.dl [0]
 refine j _ _ _ (by subst e;omega) ⟨(i+1),(IntKind.i64.wrap (nn+1)),(q),rfl,⟨J.pk,N⟩,?_⟩
 rw [d,zA l];simp [zB,nP,dQ, *]
 refine go fun a J=>?_
 replace N:=N.dl [0]
 refine j _ _ _ (by subst e;omega) ⟨(i+1),(nn),(o),rfl,⟨J.pk,N⟩,?_⟩
 rw [d,zA l];simp [zB,nP,dQ, *]
 by_cases d0:nn=1
 refine zD ?_
 replace N:=N.dl [0]
 exact zP N (by rw [zB n] at d;simp [vI,yU,nP, *])
 refine zD ?_
 replace N:=N.dl [0]
 exact zP N (by rw [zB n] at d;simp [vI,yU,nP, *])
theorem q3h {Φ:Fz} {K:List Res} {w:World} {l:List Bs} {d0:List Value} {e:Ex} {v:Value} (x0:REx Φ d0 e) (hb:l.length+(zN e).length<=8796093000000) (ih:∀x:Ex,x.sz < e.sz->∀{Φ:Fz} {K:List Res} {w:World} {d:List Value} {v:Value} {l:List Bs},l.length+(zN x).length<=8796093000000->REx Φ d x->Mem Φ (.gs v 9 1 (strs l)::K) w->Calls prog 133 #[.agg d.toArray,v] w (fun ee w'=>∃v,ee=.returned v/\Mem Φ (.gs v 9 1 (strs (l++zN x))::K) w')) (N:Mem Φ (.gs v 9 1 (strs l)::K) w) :
  Calls prog 133 #[.agg d0.toArray,v] w (fun ee w'=>∃v,ee=.returned v/\Mem Φ (.gs v 9 1 (strs (l++zN e))::K) w'):=by
 obtain ⟨I,c4,L,p,rfl,T0,h2,h8,G1,W,Y0,C⟩:=REx.fm x0
 refine zL func133 ntmps133 fun Q hQ a J=>?_
 refine Bx fun o w N a J=>?_
 by_cases B1:e.kind=6
 refine jQ fun a0 w N a J=>?_
 refine vH 2 xQ (fun v20 w N a J=>?_) (hb:=by simp [zR];omega)
 first | rw [qI] at N | rw [<- yN] at N
 refine go fun a J=>?_
 refine jS (fun mm a w=>∃(i:Nat) (u:Value) (m:List Bs),mm=e.args.length - i/\EnvR 44 [(1,u),(2,.pointer (some ⟨o,0,none⟩)),(18,.slice I e.args.length c4),(19,.int .i64 e.args.length),(20,.int .i64 i)] [] a/\Mem Φ (.gs (a0) 9 1 [.string e.name]::.blk o (ob [.int .i64 (e.kind),.int .i64 (e.num),.string e.name,.slice I e.args.length c4,.slice L e.arms.length p] 110)::.gs (u) 9 1 (strs m)::K) w/\(l++zN e=m++bindPs (e.args.drop i)++bindPa e.arms)) (e.args.length - 0) ⟨0,v20,(l++[e.name]),rfl,J.pk,N,by rw [wM];simp [*]⟩ ?_
 clear N J
 rintro mm a w ⟨i,u,m,h,J,N,q⟩ t1 T
 by_cases M:i < e.args.length
 refine go fun a J=>?_
 obtain ⟨M1,rfl,z0,n,J0,W0,R0,D⟩:=h2.el W M
 obtain ⟨H1,z1,I1,c46,rfl,U0,C1,D1,Z0,e1,a1,f1⟩:=REx.fm D
 refine Alc fun w1 w N a J=>?_
 refine Sto 0 fun w N a J=>?_
 refine go fun a J=>?_
 replace N:=N.pl 3
 refine st J rfl rfl rfl (jF J rfl call133 (ih _ (by first | exact Ex.lt_args (mgQ n) | exact Ex.lt_arms (mgQ n)) (l:=m) (by have hq:=congrArg List.length q;rw [zA n] at hq;simp only [bindPs,qE,laQ] at hq hb ⊢;omega) D N) fun v51 w N a J=>?_)
 replace N:=N.nf
 refine go fun a J=>?_
 replace N:=N.ar [1] [2,2]
 refine T _ _ _ (by subst h;omega) ⟨(i+1),(v51),((m++zN z0)),rfl,J.pk,N,?_⟩
 rw [q,zA n];simp [bindPs]
 refine go fun a J=>?_
 refine jS (fun mm a w=>∃(j:Nat) (G:Value) (m2:List Bs),mm=e.arms.length - j/\EnvR 44 [(1,G),(29,.slice L e.arms.length p),(30,.int .i64 e.arms.length),(31,.int .i64 j)] [] a/\Mem Φ (.gs (a0) 9 1 [.string e.name]::.blk o (ob [.int .i64 (e.kind),.int .i64 (e.num),.string e.name,.slice I e.args.length c4,.slice L e.arms.length p] 110)::.gs (G) 9 1 (strs m2)::K) w/\(l++zN e=m2++bindPa (e.arms.drop j))) (e.arms.length - 0) ⟨0,u,m,rfl,J.pk,N,by rw [q,zB M];simp [bindPs]⟩ ?_
 clear N J
 rintro mm a w ⟨j,G,m2,h,J,N,k⟩ u1 U
 by_cases P:j < e.arms.length
 refine go fun a J=>?_
 obtain ⟨N1,rfl,H,g,K0,X0,S0,X⟩:=h8.el C P
 obtain ⟨O1,x1,rfl,R,S⟩:=RArm.iff.1 X
 obtain ⟨J1,c72,rfl,b1,g1⟩:=R.fm
 obtain ⟨K1,c80,L1,A1,rfl,V0,E1,F1,c1,i1,d1,j1⟩:=REx.fm S
 refine Alc fun y1 w N a J=>?_
 refine Sto 0 fun w N a J=>?_
 refine Reg [1,2,1,1,2,0,0,1] [0,1,2] fun w N a J=>?_
 refine vH 3 xQ (fun P1 w N a J=>?_) (hr:=(SliceOf.strs.1 R).rowIn N.toSees) (h1:=z0j _) (hb:=by have hq:=congrArg List.length k;rw [zA g,qE] at hq;simp only [laQ,zR] at hq hb ⊢;omega)
 first | rw [qI] at N | rw [<- yN] at N
 replace N:=N.pl 3
 refine d_e J rfl rfl rfl (jF J rfl call133 (ih _ (by first | exact Ex.lt_args (mgQ g) | exact Ex.lt_arms (mgQ g)) (l:=(m2++H.vars)) (by have hq:=congrArg List.length k;rw [zA g] at hq;simp only [bindPs,qE,laQ] at hq hb ⊢;omega) S N) fun y0 w N=>⟨fun _=>N.sn (Fz.Le.refl _),fun a J=>?_⟩)
 replace N:=N.nf
 refine go fun a J=>?_
 replace N:=N.ar [1] [2,2]
 refine U _ _ _ (by subst h;omega) ⟨(j+1),(y0),(((m2++H.vars)++zN H.body)),rfl,J.pk,N,?_⟩
 rw [k,zA g,qE];simp
 refine zD ?_
 replace N:=N.dl [1,0]
 refine ⟨_,rfl,?_⟩
 rw [show (strs (l++zN e))=(strs m2) by rw [k,zB P];simp [bindPa]];exact N
 refine go fun a J=>?_
 refine jS (fun mm a w=>∃(i:Nat) (u:Value) (m:List Bs),mm=e.args.length - i/\EnvR 44 [(1,u),(2,.pointer (some ⟨o,0,none⟩)),(18,.slice I e.args.length c4),(19,.int .i64 e.args.length),(20,.int .i64 i)] [] a/\Mem Φ (.blk o (ob [.int .i64 (e.kind),.int .i64 (e.num),.string e.name,.slice I e.args.length c4,.slice L e.arms.length p] 110)::.gs (u) 9 1 (strs m)::K) w/\(l++zN e=m++bindPs (e.args.drop i)++bindPa e.arms)) (e.args.length - 0) ⟨0,v,l,rfl,J.pk,N,by rw [wM];simp [*]⟩ ?_
 clear N J
 rintro mm a w ⟨i,u,m,h,J,N,r⟩ v1 V
 by_cases y:i < e.args.length
 refine go fun a J=>?_
 obtain ⟨p1,rfl,b0,f,e0,k0,g0,s⟩:=h2.el W y
 obtain ⟨k1,E0,l1,F0,rfl,i0,L0,M0,m0,r0,n0,s0⟩:=REx.fm s
 refine Alc fun B0 w N a J=>?_
 refine Sto 0 fun w N a J=>?_
 refine go fun a J=>?_
 replace N:=N.pl 2
 refine st J rfl rfl rfl (jF J rfl call133 (ih _ (by first | exact Ex.lt_args (mgQ f) | exact Ex.lt_arms (mgQ f)) (l:=m) (by have hq:=congrArg List.length r;rw [zA f] at hq;simp only [bindPs,qE,laQ] at hq hb ⊢;omega) s N) fun Y w N a J=>?_)
 replace N:=N.nf
 refine go fun a J=>?_
 replace N:=N.ar [1] [1]
 refine V _ _ _ (by subst h;omega) ⟨(i+1),(Y),((m++zN b0)),rfl,J.pk,N,?_⟩
 rw [r,zA f];simp [bindPs]
 refine go fun a J=>?_
 refine jS (fun mm a w=>∃(j:Nat) (G:Value) (m2:List Bs),mm=e.arms.length - j/\EnvR 44 [(1,G),(29,.slice L e.arms.length p),(30,.int .i64 e.arms.length),(31,.int .i64 j)] [] a/\Mem Φ (.blk o (ob [.int .i64 (e.kind),.int .i64 (e.num),.string e.name,.slice I e.args.length c4,.slice L e.arms.length p] 110)::.gs (G) 9 1 (strs m2)::K) w/\(l++zN e=m2++bindPa (e.arms.drop j))) (e.arms.length - 0) ⟨0,u,m,rfl,J.pk,N,by rw [r,zB y];simp [bindPs]⟩ ?_
 clear N J
 rintro mm a w ⟨j,G,m2,h,J,N,c⟩ A0 E
 by_cases z:j < e.arms.length
 refine go fun a J=>?_
 obtain ⟨q1,rfl,t,b,f0,l0,h0,F⟩:=h8.el C z
 obtain ⟨r1,C0,rfl,A,B⟩:=RArm.iff.1 F
 obtain ⟨m1,G0,rfl,o0,t0⟩:=A.fm
 obtain ⟨n1,H0,o1,I0,rfl,j0,N0,O0,p0,u0,q0,w0⟩:=REx.fm B
 refine Alc fun D0 w N a J=>?_
 refine Sto 0 fun w N a J=>?_
 refine Reg [1,2,1,1,2,0,0,1] [0,1] fun w N a J=>?_
 refine vH 2 xQ (fun s1 w N a J=>?_) (hr:=(SliceOf.strs.1 A).rowIn N.toSees) (h1:=z0j _) (hb:=by have hq:=congrArg List.length c;rw [zA b,qE] at hq;simp only [laQ,zR] at hq hb ⊢;omega)
 first | rw [qI] at N | rw [<- yN] at N
 replace N:=N.pl 2
 refine d_e J rfl rfl rfl (jF J rfl call133 (ih _ (by first | exact Ex.lt_args (mgQ b) | exact Ex.lt_arms (mgQ b)) (l:=(m2++t.vars)) (by have hq:=congrArg List.length c;rw [zA b] at hq;simp only [bindPs,qE,laQ] at hq hb ⊢;omega) B N) fun Z w N=>⟨fun _=>N.sn (Fz.Le.refl _),fun a J=>?_⟩)
 replace N:=N.nf
 refine go fun a J=>?_
 replace N:=N.ar [1] [1]
 refine E _ _ _ (by subst h;omega) ⟨(j+1),(Z),(((m2++t.vars)++zN t.body)),rfl,J.pk,N,?_⟩
 rw [c,zA b,qE];simp
 refine zD ?_
 replace N:=N.dl [0]
 refine ⟨_,rfl,?_⟩
 rw [show (strs (l++zN e))=(strs m2) by rw [c,zB z];simp [bindPa]];exact N
theorem j1f {Φ:Fz} {K:List Res} {w:World} {d:List Value} {e:Ex} {v:Value} {l:List Bs} (hb:l.length+(zN e).length<=8796093000000) (re:REx Φ d e) (N:Mem Φ (.gs v 9 1 (strs l)::K) w) :
  Calls prog 133 #[.agg d.toArray,v] w (fun ee w'=>∃v,ee=.returned v/\Mem Φ (.gs v 9 1 (strs (l++zN e))::K) w'):=by
 suffices H:∀n (e:Ex),e.sz < n->∀{Φ:Fz} {K:List Res} {w:World} {d:List Value} {v:Value} {l:List Bs},l.length+(zN e).length<=8796093000000->REx Φ d e->Mem Φ (.gs v 9 1 (strs l)::K) w->Calls prog 133 #[.agg d.toArray,v] w (fun ee w'=>∃v,ee=.returned v/\Mem Φ (.gs v 9 1 (strs (l++zN e))::K) w') from H _ e (Nat.lt_succ_self _) hb re N
 intro n
 induction n with
 | zero=>intro e h;omega
 | succ n b=>intro e h Φ K w d v l hb re N;exact q3h re hb (fun x c _ _ _ _ _ _ a r m=>b x (by omega) a r m) N
section
variable {Φ:Fz} {K:List Res} {w:World}
theorem y5l {c:UInt8}  (N:Mem Φ K w) :
  Calls prog 235 #[.int .u8 c.toNat] w (fun ee w'=>ee=.returned (.bool (qQ c.toNat))/\Mem Φ K w'):=by
 refine zL func235 ntmps235 fun Q hQ a J=>?_
 by_cases b:97<=c.toNat
 refine Qq (fun a J=>?_) (o:=by exact fun J O=>j5a (i:=c.toNat) (j:=122) J rfl rfl)
 refine zD ?_
 exact zP N (by simp [qQ, *])
 refine zD ?_
 exact zP N (by simp [qQ, *])
theorem y5k {c:UInt8}  (N:Mem Φ K w) :
  Calls prog 237 #[.int .u8 c.toNat] w (fun ee w'=>ee=.returned (.bool (qW c.toNat))/\Mem Φ K w'):=by
 refine zL func237 ntmps237 fun Q hQ a J=>?_
 by_cases b:65<=c.toNat
 refine Qq (fun a J=>?_) (o:=by exact fun J O=>j5a (i:=c.toNat) (j:=90) J rfl rfl)
 refine zD ?_
 exact zP N (by simp [qW, *])
 refine zD ?_
 exact zP N (by simp [qW, *])
theorem hO {c:UInt8}  (N:Mem Φ K w) :
  Calls prog 233 #[.int .u8 c.toNat] w (fun ee w'=>ee=.returned (.bool (yF c.toNat))/\Mem Φ K w'):=by
 refine zL func233 ntmps233 fun Q hQ a J=>?_
 by_cases b:48<=c.toNat
 refine Qq (fun a J=>?_) (o:=by exact fun J O=>j5a (i:=c.toNat) (j:=57) J rfl rfl)
 refine zD ?_
 exact zP N (by simp [yF, *])
 refine zD ?_
 exact zP N (by simp [yF, *])
theorem z8x {c:UInt8}  (N:Mem Φ K w) :
  Calls prog 239 #[.int .u8 c.toNat] w (fun ee w'=>ee=.returned (.bool (yR c.toNat))/\Mem Φ K w'):=by
 refine zL func239 ntmps239 fun Q hQ a J=>?_
 refine yH call235 (fun b w N a J=>?_) (fun b w N a J=>?_) (c:=y5l N)
 rotate_left
 refine yH call237 (fun d w N a J=>?_) (fun d w N a J=>?_) (c:=y5k N)
 rotate_left
 refine yH call233 (fun e w N a J=>?_) (fun e w N a J=>?_) (c:=hO N)
 rotate_left
 refine Qq (fun a J=>?_) (o:=by exact fun J O=>mY (i:=c.toNat) (j:=95) J rfl rfl)
 rotate_left
 all_goals (refine zD ?_;exact zP N (by simp [yR, *]))
theorem j2e {c:UInt8}  (N:Mem Φ K w) :
  Calls prog 229 #[.int .u8 c.toNat] w (fun ee w'=>ee=.returned (.bool (xR c.toNat))/\Mem Φ K w'):=by
 refine zL func229 ntmps229 fun Q hQ a J=>?_
 by_cases b:c.toNat=32
 rotate_left
 by_cases d:c.toNat=9
 rotate_left
 by_cases e:c.toNat=10
 rotate_left
 refine Qq (fun a J=>?_) (o:=by exact fun J O=>mY (i:=c.toNat) (j:=13) J rfl rfl)
 rotate_left
 all_goals (refine zD ?_;exact zP N (by simp [xR, *]))
theorem y8v {s:Bs} {p:Bs}  (N:Mem Φ K w) :
  Calls prog 247 #[.string s,.string p] w (fun ee w'=>ee=.returned (.bool (kT s p))/\Mem Φ K w'):=by
 refine zL func247 ntmps247 fun Q hQ a J=>?_
 by_cases b:p.size<=s.size
 refine Qq (fun a J=>?_) (o:=by exact fun J O=>vE 0 (p.size) J rfl runUnderlying9 rfl ⟨_,rfl⟩ (by omega) (by omega))
 refine Qq (fun a J=>?_) (o:=by exact fun J O=>z7s J rfl rfl)
 refine zD ?_
 exact zP N (by simp [kT, *])
 refine zD ?_
 exact zP N (by simp [kT, *])
theorem q3y {s:Bs} {p:Bs}  (N:Mem Φ K w) :
  Calls prog 243 #[.string s,.string p] w (fun ee w'=>ee=.returned (.bool (kT s p))/\Mem Φ K w'):=by
 refine zL func243 ntmps243 fun Q hQ a J=>?_
 refine zT call247 (fun w N a J=>?_) (c:=y8v N)
 refine zD ?_
 exact zP N (by rfl)
theorem z6y {t:Bs} {pos:Nat} {b:Nat} {rest:List Value} {e:TypeId} {k:Nat}  (h:pos+k<=1000000000) (N:Mem Φ (.blk b (ob (.string t::.int .i64 pos::rest) e)::K) w) :
  Calls prog 232 #[.pointer (some ⟨b,0,none⟩),.int .i64 (k:Int)] w (fun ee w'=>ee=.returned (.int .u8 ((zG t (pos+k):Nat):Int))/\Mem Φ (.blk b (ob (.string t::.int .i64 pos::rest) e)::K) w'):=by
 refine zL func232 ntmps232 fun Q hQ a J=>?_
 refine Reg [1,1,1,2,1,1,1,1,1,2,1,1] [0] fun w N a J=>?_
 refine Qq (fun a J=>?_) (o:=by exact fun J O=>nA (i:=pos) (j:=k) J rfl rfl (by omega))
 by_cases g:t.size<=(pos+k)
 refine zD ?_
 exact ⟨congrArg (fun x=>Ending.returned (.int .u8 ((x:Nat):Int))) (show 0=zG t (pos+k) by rw [y0b (by omega)]),N⟩
 refine Reg [1,1,1,2,1,1,1,2,1,1,1,1] [0] fun w N a J=>?_
 refine Qq (fun a J=>?_) (o:=by exact fun J O=>nA (i:=pos) (j:=k) J rfl rfl (by omega))
 have d:(pos+k) < t.size:=by omega
 obtain ⟨f,c⟩:=xT d
 refine Qq (fun a J=>?_) (o:=by exact fun J O=>xF (pos+k) f J rfl rfl runUnderlying9 c)
 refine zD ?_
 exact ⟨congrArg (fun x=>Ending.returned (.int .u8 ((x:Nat):Int))) (show f.toNat=zG t (pos+k) by rw [yP c]),N⟩
theorem cR {t:Bs} {pos:Nat} {b:Nat} {rest:List Value} {d:TypeId} {s:Bs}  (e:pos<=t.size) (N:Mem Φ (.blk b (ob (.string t::.int .i64 pos::rest) d)::K) w) :
  Calls prog 230 #[.pointer (some ⟨b,0,none⟩),.string s] w (fun ee w'=>ee=.returned (.bool (kT (t.extract pos t.size) s))/\Mem Φ (.blk b (ob (.string t::.int .i64 pos::rest) d)::K) w'):=by
 refine zL func230 ntmps230 fun Q hQ a J=>?_
 refine Reg [1,1,1,2,1,1,1,2,1,1,0,1] [0] fun w N a J=>?_
 refine Qq (fun a J=>?_) (o:=by exact fun J O=>vE pos (t.size) J rfl runUnderlying9 ⟨_,rfl⟩ rfl (by omega) (by exact Nat.le_refl _))
 refine zT call243 (fun w N a J=>?_) (c:=q3y N)
 refine zD ?_
 exact zP N (by rfl)
end
theorem q4z {Φ:Fz} {K:List Res} {w:World} {t:Bs} {pos b k g:Nat} {rest fs cs:List Value} {l:TypeId} {p:Nat->Bool} (u:∀args w,(callFunc g args).run prog w=.ok (.enter g args) w)
  (s:∀{w:World} (c:UInt8),Mem Φ (.blk b (ob (.string t::.int .i64 pos::rest) l)::K) w->Calls prog g (fs++[Value.int .u8 c.toNat]++cs).toArray w (fun ee w'=>ee=.returned (.bool (p c.toNat))/\Mem Φ (.blk b (ob (.string t::.int .i64 pos::rest) l)::K) w'))
  (h1:pos+k<=t.size) (z:t.size<=1000000) (N:Mem Φ (.blk b (ob (.string t::.int .i64 pos::rest) l)::K) w) :
  Calls prog 228 #[.pointer (some ⟨b,0,none⟩),.int .i64 k,.func (.func g) fs.toArray cs.toArray] w (fun ee w'=>ee=.returned (.int .i64 ((yS p t t.size (pos+k):Nat):Int))/\Mem Φ (.blk b (ob (.string t::.int .i64 pos::rest) l)::K) w'):=by
 refine zL func228 ntmps228 fun Q hQ a J=>?_
 refine go fun a J=>?_
 refine zU (J.ks [0,1,2]) N (fun R mm a w=>∃(j:Nat),mm=t.size - (pos+k+j)/\R Φ [(7,.int .i64 j)] [] a w/\(pos+k+j<=t.size/\yS p t t.size (pos+k)=yS p t t.size (pos+k+j)+j)) (t.size - (pos+k+0)) ⟨0,rfl,⟨J.pk,N⟩,by exact ⟨by omega,rfl⟩⟩ ?_
 clear N J
 rintro mm a w ⟨j,q,⟨J,N⟩,m⟩ y n
 obtain ⟨v,f⟩:=m
 refine Reg [1,1,1,2,1,1,1,1,1,1,1,2,1,1,1,1,1,1,1,2,1,1,1,2,1,1,1,1,1,0,1] [0] fun w N a J=>?_
 refine Qq (fun a J=>?_) (o:=by exact fun J O=>nA (i:=pos) (j:=k) J rfl rfl (by omega))
 refine Qq (fun a J=>?_) (o:=by exact fun J O=>nA (i:=(pos+k)) (j:=j) J rfl rfl (by omega))
 by_cases r:((pos+k)+j) < t.size
 refine Qq (fun a J=>?_) (o:=by exact fun J O=>nA (i:=pos) (j:=k) J rfl rfl (by omega))
 refine Qq (fun a J=>?_) (o:=by exact fun J O=>nA (i:=(pos+k)) (j:=j) J rfl rfl (by omega))
 obtain ⟨c9,e⟩:=xT r
 refine Qq (fun a J=>?_) (o:=by exact fun J O=>xF ((pos+k)+j) c9 J rfl rfl runUnderlying9 e)
 refine q3b u (fun d w N a J=>?_) (fun d w N a J=>?_) (c:=by exact s _ N)
 refine go fun a J=>?_
 refine n _ _ _ (by subst q;omega) ⟨(j+1),rfl,⟨J.pk,N⟩,?_⟩
 refine ⟨by omega,?_⟩
 rw [f,xV p t (pos+k+j),if_pos ⟨by omega,by rw [yP e];exact d⟩,show pos+k+(j+1)=pos+k+j+1 from rfl];omega
 refine zD ?_
 exact pY N (by rw [f,xV,if_neg (by rintro ⟨_,h⟩;rw [yP e,d] at h;cases h)];omega)
 refine zD ?_
 exact pY N (by rw [f,xV,if_neg (by omega)];omega)
theorem q4y {Φ:Fz} {K:List Res} {w:World} {t:Bs} {pos b g:Nat} {rest fs cs:List Value} {a:TypeId} {p:Nat->Bool} (f:∀args w,(callFunc g args).run prog w=.ok (.enter g args) w)
  (e:∀{w:World} (c:UInt8),Mem Φ (.blk b (ob (.string t::.int .i64 pos::rest) a)::K) w->Calls prog g (fs++[Value.int .u8 c.toNat]++cs).toArray w (fun ee w'=>ee=.returned (.bool (p c.toNat))/\Mem Φ (.blk b (ob (.string t::.int .i64 pos::rest) a)::K) w'))
  (h1:pos<=t.size) (d:t.size<=1000000) (N:Mem Φ (.blk b (ob (.string t::.int .i64 pos::rest) a)::K) w) :
  Calls prog 228 #[.pointer (some ⟨b,0,none⟩),.int .i64 ((0:Nat):Int),.func (.func g) fs.toArray cs.toArray] w (fun ee w'=>ee=.returned (.int .i64 ((yS p t t.size pos:Nat):Int))/\Mem Φ (.blk b (ob (.string t::.int .i64 pos::rest) a)::K) w') :=
 q4z (k:=0) f e (by omega) d N
theorem j1j {Φ:Fz} {K:List Res} {w:World} {t:Bs} {pos b:Nat} {rest:List Value} {m:TypeId} (h1:pos<=t.size) (A:t.size<=1000000) (N:Mem Φ (.blk b (ob (.string t::.int .i64 pos::rest) m)::K) w) :
  Calls prog 231 #[.pointer (some ⟨b,0,none⟩)] w (fun ee w'=>Out (vX t pos pos 0)
   (fun q=>ee=.returned (.tuple #[])/\Mem Φ (.blk b (ob (.string t::.int .i64 ((q:Nat):Int)::rest) m)::K) w')
   (fun c=>ee=.panicked (sY c)/\Mem Φ K w')):=by
 refine zL func231 ntmps231 fun Q hQ a J=>?_
 refine go fun a J=>?_
 refine zU (J.ks [0,2]) N (fun R mm a w=>∃(i:Nat) (o:Int),mm=t.size - i/\R Φ [(3,.int .i64 (o))] [(0,.blk b (ob (.string t::.int .i64 i::rest) m))] a w/\(i<=t.size/\-(i:Int)<=o/\o<=100/\vX t pos pos 0=vX t pos i o)) (t.size - pos) ⟨pos,0,rfl,⟨J.pk,N⟩,by exact ⟨h1,by omega,by omega,rfl⟩⟩ ?_
 clear N J
 rintro mm a w ⟨i,o,k,⟨J,N⟩,r⟩ z g
 replace N:=N.nf
 obtain ⟨u,v,y,e⟩:=r
 refine Reg [1,1,1,1,2,1,1,1,1,2,1,1,1] [0] fun w N a J=>?_
 by_cases l:t.size<=i
 refine qO fun a J=>?_
 refine Qq (fun a J=>?_) (o:=by exact fun J O=>qZ J rfl runUnderlying257 (by intro ms h;cases h))
 refine st0 J rfl rfl (kF J rfl (kH _) (fun a s=>hQ _ _ _ (qL s ?_)))
 replace N:=N.dl [0]
 show Out (vX t pos pos 0) _ _
 rw [e,aD,if_pos l];exact ⟨rfl,N⟩
 refine yH call230 (fun f w N a J=>?_) (fun f w N a J=>?_) (c:=cR (by omega) N)
 by_cases n:100<=o
 refine qO fun a J=>?_
 refine Qq (fun a J=>?_) (o:=by exact fun J O=>qZ J rfl runUnderlying257 (by intro ms h;cases h))
 refine st0 J rfl rfl (kF J rfl (kH _) (fun a s=>hQ _ _ _ (qL s ?_)))
 replace N:=N.dl [0]
 show Out (vX t pos pos 0) _ _
 rw [e,aD,if_neg l,if_pos f,if_pos n];exact ⟨rfl,N⟩
 refine Qq (fun a J=>?_) (o:=by exact fun J O=>z7r (o+1) J rfl rfl (by rw [jI (by omega)]))
 refine Qq (fun a J=>?_) (o:=by exact fun J O=>nA (i:=i) (j:=2) J rfl rfl (by omega))
 refine Sto 0 fun w N a J=>?_
 refine go fun a J=>?_
 refine g (t.size - ((i+2))) _ _ (by subst k;first | omega | (have h:=jT f;have:(⟨#[40,42]⟩:Bs).size=2:=rfl;have:(⟨#[42,41]⟩:Bs).size=2:=rfl;omega)) ⟨((i+2)),(o+1),rfl,⟨J.pk,N⟩,?_⟩
 refine ⟨by first | omega | (have h:=jT f;have:(⟨#[40,42]⟩:Bs).size=2:=rfl;have:(⟨#[42,41]⟩:Bs).size=2:=rfl;omega),by omega,by omega,?_⟩
 rw [e,aD,if_neg l]
 simp [*]
 refine yH call230 (fun d w N a J=>?_) (fun d w N a J=>?_) (c:=cR (by omega) N)
 refine Qq (fun a J=>?_) (o:=by exact fun J O=>wG (o - 1) J rfl rfl (by rw [jI (by omega)]))
 refine Qq (fun a J=>?_) (o:=by exact fun J O=>nA (i:=i) (j:=2) J rfl rfl (by omega))
 refine Sto 0 fun w N a J=>?_
 by_cases p:o - 1=0
 refine go fun a J=>?_
 refine hQ _ _ _ (ret0 J results231 ?_)
 show Out (vX t pos pos 0) _ _
 rw [e,aD,if_neg l,if_neg (by simp [*]),if_pos d,if_pos p];exact ⟨rfl,N⟩
 refine go fun a J=>?_
 refine g (t.size - ((i+2))) _ _ (by subst k;first | omega | (have h:=jT d;have:(⟨#[40,42]⟩:Bs).size=2:=rfl;have:(⟨#[42,41]⟩:Bs).size=2:=rfl;omega)) ⟨((i+2)),(o - 1),rfl,⟨J.pk,N⟩,?_⟩
 refine ⟨by first | omega | (have h:=jT d;have:(⟨#[40,42]⟩:Bs).size=2:=rfl;have:(⟨#[42,41]⟩:Bs).size=2:=rfl;omega),by omega,by omega,?_⟩
 rw [e,aD,if_neg l]
 simp [*]
 refine Sto 0 fun w N a J=>?_
 refine go fun a J=>?_
 refine g (t.size - ((i+1))) _ _ (by subst k;first | omega | (have h:=jT d;have:(⟨#[40,42]⟩:Bs).size=2:=rfl;have:(⟨#[42,41]⟩:Bs).size=2:=rfl;omega)) ⟨((i+1)),(o),rfl,⟨J.pk,N⟩,?_⟩
 refine ⟨by first | omega | (have h:=jT d;have:(⟨#[40,42]⟩:Bs).size=2:=rfl;have:(⟨#[42,41]⟩:Bs).size=2:=rfl;omega),by omega,by omega,?_⟩
 rw [e,aD,if_neg l]
 simp [*]
theorem j7c {Φ:Fz} {K:List Res} {w:World} {t:Bs} {pos b:Nat} {mv cv:Value} {cs:List Value} (h1:pos<=t.size) (C:t.size<=1000000) (s:cs.length<=2 * pos) (N:Mem Φ (.blk b (ob [.string t,.int .i64 pos,mv,cv] 289)::.gs cv 303 2 cs::K) w) :
  Calls prog 220 #[.pointer (some ⟨b,0,none⟩)] w (fun ee w'=>Out (cH t pos)
   (fun q=>∃y:Value×List Value,ee=.returned (.tuple #[])/\y.2.length<=2 * q/\Mem Φ (.blk b (ob [.string t,.int .i64 ((q:Nat):Int),mv,y.1] 289)::.gs y.1 303 2 y.2::K) w')
   (fun c=>ee=.panicked (sY c)/\Mem Φ K w')):=by
 refine zL func220 ntmps220 fun Q hQ a J=>?_
 refine go fun a J=>?_
 refine zU (J.ks [0]) N (fun R mm a w=>∃(i:Nat) (u:Value) (ds:List Value),mm=t.size - i/\R Φ [] [(0,.blk b (ob [.string t,.int .i64 i,mv,u] 289)),(1,.gs (u) 303 2 ds)] a w/\(i<=t.size/\ds.length<=2 * i/\cH t pos=cH t i)) (t.size - pos) ⟨pos,cv,cs,rfl,⟨J.pk,N⟩,by exact ⟨h1,s,rfl⟩⟩ ?_
 clear N J
 rintro mm a w ⟨i,u,ds,n,⟨J,N⟩,l⟩ B m
 replace N:=N.nf
 obtain ⟨e,v,g⟩:=l
 have z:=kU xR t t.size i e
 refine Reg [1,1,1,1,2,1,1,1,0,1,1,1,1,0] [0,1] fun w N a J=>?_
 refine zT call228 (fun w N a J=>?_) (c:=q4y (p:=xR) (pos:=i) (fs:=[]) (cs:=[]) call229 (fun c N=>j2e N) (by omega) (by omega) N)
 refine Qq (fun a J=>?_) (o:=by exact fun J O=>nA (i:=i) (j:=(yS xR t t.size i)) J rfl rfl (by omega))
 refine Sto 0 fun w N a J=>?_
 refine yH call230 (fun f w N a J=>?_) (fun f w N a J=>?_) (c:=cR (by omega) N)
 refine jN call231 (fun k w d N a J=>?_) (fun k w d N=>?_) (c:=j1j (pos:=((i+(yS xR t t.size i)))) (by omega) (by omega) N)
 refine Reg [1,1,1,1,2,1,1,1,1,1,2,1,0,0,1,1,0] [0] fun w N a J=>?_
 refine qO fun a J=>?_
 refine jQ fun A w N a J=>?_
 refine vH 2 rt_287 (fun r w N a J=>?_)
 refine Sto 1 fun w N a J=>?_
 refine go fun a J=>?_
 replace N:=N.dl [0]
 refine m (t.size - k) _ _ (by subst n;have h:=mE _ _ _ _ _ _ d;omega) ⟨(k),(r),((ds++[.int .i64 ((((i+(yS xR t t.size i))):Nat):Int),.int .i64 k])),rfl,⟨J.pk,by exact N⟩,?_⟩
 have h:=mE _ _ _ _ _ _ d
 refine ⟨h.2,by simp only [laQ,lcQ,lnQ];omega,?_⟩
 rw [g,y6w t i e,if_pos f,d]
 replace N:=N.dl [0]
 show Out (cH t pos) _ _
 rw [g,y6w t i e,if_pos f,d];exact ⟨rfl,N⟩
 refine go fun a J=>?_
 refine hQ _ _ _ (ret0 J results220 ?_)
 show Out (cH t pos) _ _
 rw [g,y6w t i e,if_neg (by simp [*])];exact ⟨⟨u,ds⟩,rfl,by simp only;omega,N⟩
theorem gF {Φ:Fz} {K:List Res} {w:World} {t:Bs} {pos b:Nat} {rest:List Value} {e:TypeId} {kd:Int} {n:Nat} (h1:pos+n<=t.size) (l:t.size<=1000000) (N:Mem Φ (.blk b (ob (.string t::.int .i64 pos::rest) e)::K) w) :
  Calls prog 238 #[.pointer (some ⟨b,0,none⟩),.int .i64 kd,.int .i64 n] w (fun ee w'=>Out (wF t pos kd n) (fun q=>ee=.returned (y8e q)/\Mem Φ (.blk b (ob (.string t::.int .i64 pos::rest) e)::K) w') (fun c=>ee=.panicked (sY c)/\Mem Φ K w')):=by
 refine zL func238 ntmps238 fun Q hQ a J=>?_
 refine Alc fun k w N a J=>?_
 by_cases f:24 < n
 refine qO fun a J=>?_
 refine Qq (fun a J=>?_) (o:=by exact fun J O=>qZ J rfl runUnderlying257 (by intro ms h;cases h))
 refine st0 J rfl rfl (kF J rfl (kH _) (fun a g=>hQ _ _ _ (qL g ?_)))
 replace N:=N.dl [1,0]
 show Out (wF t pos kd n) _ _
 rw [wF,if_pos f];exact ⟨rfl,N⟩
 refine Reg [1,1,1,1,1,2,1,1,1,1,2,1,1,1,1,2,1,1,1,1,1,1,1,2,1,0] [0,1] fun w N a J=>?_
 refine Qq (fun a J=>?_) (o:=by exact fun J O=>nA (i:=pos) (j:=n) J rfl rfl (by omega))
 refine Qq (fun a J=>?_) (o:=by exact fun J O=>vE pos ((pos+n)) J rfl runUnderlying9 ⟨_,rfl⟩ ⟨_,rfl⟩ (by omega) (by omega))
 refine qO fun a J=>?_
 refine Sto 0 fun w N a J=>?_
 refine go fun a J=>?_
 have d:=N
 replace N:=N.dl [0]
 refine pS (N:=d) ?_
 show Out (wF t pos kd n) _ _
 rw [wF,if_neg f];exact ⟨rfl,N⟩
theorem j6w {Φ:Fz} {K:List Res} {w:World} {t:Bs} {pos b mb:Nat} {cv:Value} {kd:Int} (h:MapAt Φ mb wordsM) (h1:pos<=t.size) (P:t.size<=1000000) (N:Mem Φ (.blk b (ob [.string t,.int .i64 pos,.map (some mb),cv] 289)::K) w) :
  Calls prog 236 #[.pointer (some ⟨b,0,none⟩),.int .i64 kd] w (fun ee w'=>Out (kR t pos kd) (fun q=>ee=.returned (y8e q)/\Mem Φ (.blk b (ob [.string t,.int .i64 pos,.map (some mb),cv] 289)::K) w') (fun c=>ee=.panicked (sY c)/\Mem Φ K w')):=by
 refine zL func236 ntmps236 fun Q hQ a J=>?_
 refine Alc fun M w N a J=>?_
 refine go fun a J=>?_
 have I:=kU yR t t.size pos h1
 replace N:=N.pl 1
 refine zT call228 (fun w N a J=>?_) (c:=q4y (p:=yR) (pos:=pos) (fs:=[]) (cs:=[]) call239 (fun c N=>z8x N) (by omega) (by omega) N)
 refine zT call232 (fun w N a J=>?_) (c:=z6y (by omega) N)
 by_cases R:zG t (pos+((yS yR t t.size pos)))=39
 have B:=tB (t:=t) (i:=pos+yS yR t t.size pos) (by omega)
 have L:=kU yF t t.size (pos+(yS yR t t.size pos+1)) (by omega)
 refine zT call228 (fun w N a J=>?_) (c:=q4z (p:=yF) (pos:=pos) (k:=((yS yR t t.size pos)+1)) (fs:=[]) (cs:=[]) call233 (fun c N=>hO N) (by omega) (by omega) N)
 by_cases S:0 < (yS yF t t.size (pos+((yS yR t t.size pos)+1)))
 refine Qq (fun a J=>?_) (o:=by exact fun J O=>nA (i:=1) (j:=(yS yF t t.size (pos+((yS yR t t.size pos)+1)))) J rfl rfl (by omega))
 refine Qq (fun a J=>?_) (o:=by exact fun J O=>nA (i:=(yS yR t t.size pos)) (j:=(1+(yS yF t t.size (pos+((yS yR t t.size pos)+1))))) J rfl rfl (by omega))
 refine jN call238 (fun y w l N a J=>?_) (fun y w l N=>?_) (c:=gF (pos:=pos) (kd:=kd) (n:=((yS yR t t.size pos)+(1+(yS yF t t.size (pos+((yS yR t t.size pos)+1)))))) (by omega) (by omega) N)
 refine Alc fun F w N a J=>?_
 refine Sto 0 fun w N a J=>?_
 refine Reg [1,1,1,2,1,2,2,1,1,1,1,1] [0,1,2] fun w N a J=>?_
 refine go fun a J=>?_
 rcases d:yM (wordsM) y.text with _ | C
 have s:=congrArg (zJ true (.int .i64 ((0:Nat):Int))) d
 refine Qq (fun a J=>?_) (o:=by exact fun J O=>Ok.cast (qA runUnderlying286 runUnderlying9 zeroValue3 J O rfl rfl h) (show zJ true (.int .i64 ((0:Nat):Int)) (yM (wordsM) y.text)=.tuple #[.int .i64 ((0:Nat):Int),.bool false] from s))
 refine Sto 2 fun w N a J=>?_
 refine go fun a J=>?_
 have g:=N
 replace N:=N.dl [2,0]
 refine pS (N:=g) ?_
 show Out (kR t pos kd) _ _
 first | rw [tO l d (by simp [qG, *])] | rw [tP l d (by simp [qG, *])]
 exact ⟨rfl,N⟩
 obtain rfl:=z5k d
 have s:=congrArg (zJ true (.int .i64 ((0:Nat):Int))) d
 refine Qq (fun a J=>?_) (o:=by exact fun J O=>Ok.cast (qA runUnderlying286 runUnderlying9 zeroValue3 J O rfl rfl h) (show zJ true (.int .i64 ((0:Nat):Int)) (yM (wordsM) y.text)=.tuple #[.int .i64 ((5:Nat):Int),.bool true] from s))
 refine Sto 0 fun w N a J=>?_
 refine Sto 2 fun w N a J=>?_
 refine go fun a J=>?_
 have g:=N
 replace N:=N.dl [2,0]
 refine pS (N:=g) ?_
 show Out (kR t pos kd) _ _
 first | rw [tO l d (by simp [qG, *])] | rw [tP l d (by simp [qG, *])]
 exact ⟨rfl,N⟩
 replace N:=N.dl [0]
 show Out (kR t pos kd) _ _
 rw [y6k l (by simp [qG, *])];exact ⟨rfl,N⟩
 refine jN call238 (fun z w m N a J=>?_) (fun z w m N=>?_) (c:=gF (pos:=pos) (kd:=kd) (n:=(yS yR t t.size pos)) (by omega) (by omega) N)
 refine Alc fun G w N a J=>?_
 refine Sto 0 fun w N a J=>?_
 refine Reg [1,1,1,2,1,2,2,1,1,1,1,1] [0,1,2] fun w N a J=>?_
 refine go fun a J=>?_
 rcases e:yM (wordsM) z.text with _ | D
 have u:=congrArg (zJ true (.int .i64 ((0:Nat):Int))) e
 refine Qq (fun a J=>?_) (o:=by exact fun J O=>Ok.cast (qA runUnderlying286 runUnderlying9 zeroValue3 J O rfl rfl h) (show zJ true (.int .i64 ((0:Nat):Int)) (yM (wordsM) z.text)=.tuple #[.int .i64 ((0:Nat):Int),.bool false] from u))
 refine Sto 2 fun w N a J=>?_
 refine go fun a J=>?_
 have g:=N
 replace N:=N.dl [2,0]
 refine pS (N:=g) ?_
 show Out (kR t pos kd) _ _
 first | rw [tO m e (by simp [qG, *])] | rw [tP m e (by simp [qG, *])]
 exact ⟨rfl,N⟩
 obtain rfl:=z5k e
 have u:=congrArg (zJ true (.int .i64 ((0:Nat):Int))) e
 refine Qq (fun a J=>?_) (o:=by exact fun J O=>Ok.cast (qA runUnderlying286 runUnderlying9 zeroValue3 J O rfl rfl h) (show zJ true (.int .i64 ((0:Nat):Int)) (yM (wordsM) z.text)=.tuple #[.int .i64 ((5:Nat):Int),.bool true] from u))
 refine Sto 0 fun w N a J=>?_
 refine Sto 2 fun w N a J=>?_
 refine go fun a J=>?_
 have g:=N
 replace N:=N.dl [2,0]
 refine pS (N:=g) ?_
 show Out (kR t pos kd) _ _
 first | rw [tO m e (by simp [qG, *])] | rw [tP m e (by simp [qG, *])]
 exact ⟨rfl,N⟩
 replace N:=N.dl [0]
 show Out (kR t pos kd) _ _
 rw [y6k m (by simp [qG, *])];exact ⟨rfl,N⟩
 refine jN call238 (fun A w r N a J=>?_) (fun A w r N=>?_) (c:=gF (pos:=pos) (kd:=kd) (n:=(yS yR t t.size pos)) (by omega) (by omega) N)
 refine Alc fun H w N a J=>?_
 refine Sto 0 fun w N a J=>?_
 refine Reg [1,1,1,2,1,2,2,1,1,1,1,1] [0,1,2] fun w N a J=>?_
 refine go fun a J=>?_
 rcases f:yM (wordsM) A.text with _ | E
 have v:=congrArg (zJ true (.int .i64 ((0:Nat):Int))) f
 refine Qq (fun a J=>?_) (o:=by exact fun J O=>Ok.cast (qA runUnderlying286 runUnderlying9 zeroValue3 J O rfl rfl h) (show zJ true (.int .i64 ((0:Nat):Int)) (yM (wordsM) A.text)=.tuple #[.int .i64 ((0:Nat):Int),.bool false] from v))
 refine Sto 2 fun w N a J=>?_
 refine go fun a J=>?_
 have g:=N
 replace N:=N.dl [2,0]
 refine pS (N:=g) ?_
 show Out (kR t pos kd) _ _
 first | rw [tO r f (by simp [qG, *])] | rw [tP r f (by simp [qG, *])]
 exact ⟨rfl,N⟩
 obtain rfl:=z5k f
 have v:=congrArg (zJ true (.int .i64 ((0:Nat):Int))) f
 refine Qq (fun a J=>?_) (o:=by exact fun J O=>Ok.cast (qA runUnderlying286 runUnderlying9 zeroValue3 J O rfl rfl h) (show zJ true (.int .i64 ((0:Nat):Int)) (yM (wordsM) A.text)=.tuple #[.int .i64 ((5:Nat):Int),.bool true] from v))
 refine Sto 0 fun w N a J=>?_
 refine Sto 2 fun w N a J=>?_
 refine go fun a J=>?_
 have g:=N
 replace N:=N.dl [2,0]
 refine pS (N:=g) ?_
 show Out (kR t pos kd) _ _
 first | rw [tO r f (by simp [qG, *])] | rw [tP r f (by simp [qG, *])]
 exact ⟨rfl,N⟩
 replace N:=N.dl [0]
 show Out (kR t pos kd) _ _
 rw [y6k r (by simp [qG, *])];exact ⟨rfl,N⟩
end Go.Sw
namespace Go.Proofs
open Go.Shelf
def Tryz.lays137_ren:Go.Shelf.Ren:=⟨fun | 137=>199 | 217=>214 | 266=>222 | n=>n,fun | 9=>9 | 5=>5 | 3=>3 | n=>n,fun | n=>n⟩
theorem Tryz.lays137:Go.Proofs.Lays.n137 Tryz.prog Tryz.lays137_ren:={
 mixed:=by kernel_rfl
 f137:=Tryz.func199.trans (congrArg some (by kernel_rfl))
 f217:=Tryz.func214.trans (congrArg some (by kernel_rfl))
 f266:=Tryz.func222.trans (congrArg some (by kernel_rfl))
 t3:=Tryz.underlying3
 a3:=Tryz.isAgg3
 z3:=Tryz.sizeOf3
 v3:=Tryz.zeroValue3
 t5:=Tryz.underlying5
 a5:=Tryz.isAgg5
 z5:=Tryz.sizeOf5
 v5:=Tryz.zeroValue5
 t9:=Tryz.underlying9
 a9:=Tryz.isAgg9
 z9:=Tryz.sizeOf9
 v9:=Tryz.zeroValue9 }
open Go.RowKit in
theorem Tryz.strings_IndexByte (s:ByteArray) (c:Int) (w:World) :
  Calls Tryz.prog 199 #[.string s,.int .u8 c] w fun e w'=>e=.returned (.int .i64 (Lib.indexByte s.data.toList c.toNat.toUInt8))/\w'=w:=Any.strings_IndexByte Tryz.lays137 s c w
def Tryz.laysM171_ren:Go.Shelf.Ren:=⟨fun | 171=>99 | 243=>144 | 246=>182 | 283=>194 | 284=>195 | 285=>196 | 286=>197 | 129=>207 | 317=>206 | 318=>208 | 319=>209 | 320=>210 | 337=>217 | 338=>218 | n=>n,fun | 3=>3 | 9=>9 | 2=>2 | 4=>4 | 171=>249 | 0=>0 | 53=>219 | 37=>237 | 5=>5 | 173=>252 | 212=>274 | 51=>275 | 20=>20 | 213=>276 | 46=>265 | 232=>299 | 233=>300 | n=>n,fun | 17=>0 | 18=>2 | 19=>3 | n=>n⟩
theorem Tryz.laysM171:Go.Proofs.LaysM.n171 Tryz.prog Tryz.laysM171_ren:={
 mixed:=by kernel_rfl
 f129:=Tryz.func207.trans (congrArg some (by kernel_rfl))
 f171:=Tryz.func99.trans (congrArg some (by kernel_rfl))
 f243:=Tryz.func144.trans (congrArg some (by kernel_rfl))
 f246:=Tryz.func182.trans (congrArg some (by kernel_rfl))
 f283:=Tryz.func194.trans (congrArg some (by kernel_rfl))
 f284:=Tryz.func195.trans (congrArg some (by kernel_rfl))
 f285:=Tryz.func196.trans (congrArg some (by kernel_rfl))
 f286:=Tryz.func197.trans (congrArg some (by kernel_rfl))
 f317:=Tryz.func206.trans (congrArg some (by kernel_rfl))
 f318:=Tryz.func208.trans (congrArg some (by kernel_rfl))
 f319:=Tryz.func209.trans (congrArg some (by kernel_rfl))
 f320:=Tryz.func210.trans (congrArg some (by kernel_rfl))
 f337:=Tryz.func217.trans (congrArg some (by kernel_rfl))
 f338:=Tryz.func218.trans (congrArg some (by kernel_rfl))
 t0:=Tryz.underlying0
 a0:=Tryz.isAgg0
 z0:=Tryz.sizeOf0
 v0:=Tryz.zeroValue0
 t2:=Tryz.underlying2
 a2:=Tryz.isAgg2
 z2:=Tryz.sizeOf2
 v2:=Tryz.zeroValue2
 t3:=Tryz.underlying3
 a3:=Tryz.isAgg3
 z3:=Tryz.sizeOf3
 v3:=Tryz.zeroValue3
 t4:=Tryz.underlying4
 a4:=Tryz.isAgg4
 z4:=Tryz.sizeOf4
 v4:=Tryz.zeroValue4
 t5:=Tryz.underlying5
 a5:=Tryz.isAgg5
 z5:=Tryz.sizeOf5
 v5:=Tryz.zeroValue5
 t9:=Tryz.underlying9
 a9:=Tryz.isAgg9
 z9:=Tryz.sizeOf9
 v9:=Tryz.zeroValue9
 t20:=Tryz.underlying20
 a20:=Tryz.isAgg20
 z20:=Tryz.sizeOf20
 v20:=Tryz.zeroValue20
 t37:=Tryz.underlying237
 a37:=Tryz.isAgg237
 z37:=Tryz.sizeOf237
 v37:=Tryz.zeroValue237
 t46:=Tryz.underlying265
 a46:=Tryz.isAgg265
 z46:=Tryz.sizeOf265
 v46:=Tryz.zeroValue265
 t51:=Tryz.underlying275
 a51:=Tryz.isAgg275
 z51:=Tryz.sizeOf275
 v51:=Tryz.zeroValue275
 t53:=Tryz.underlying219
 a53:=Tryz.isAgg219
 z53:=Tryz.sizeOf219
 v53:=Tryz.zeroValue219
 t171:=Tryz.underlying249
 a171:=Tryz.isAgg249
 z171:=Tryz.sizeOf249
 v171:=Tryz.zeroValue249
 t173:=Tryz.underlying252
 a173:=Tryz.isAgg252
 z173:=Tryz.sizeOf252
 v173:=Tryz.zeroValue252
 t212:=Tryz.underlying274
 a212:=Tryz.isAgg274
 z212:=Tryz.sizeOf274
 v212:=Tryz.zeroValue274
 t213:=Tryz.underlying276
 a213:=Tryz.isAgg276
 z213:=Tryz.sizeOf276
 t232:=Tryz.underlying299
 a232:=Tryz.isAgg299
 z232:=Tryz.sizeOf299
 v232:=Tryz.zeroValue299
 t233:=Tryz.underlying300
 a233:=Tryz.isAgg300
 z233:=Tryz.sizeOf300
 v233:=Tryz.zeroValue300
 g17:=by kernel_rfl
 g18:=by kernel_rfl
 g19:=by kernel_rfl
 i0:=by kernel_rfl
 i2:=by kernel_rfl
 i3:=by kernel_rfl
 i4:=by kernel_rfl
 i5:=by kernel_rfl
 i9:=by kernel_rfl
 i20:=by kernel_rfl
 i37:=by kernel_rfl
 i46:=by kernel_rfl
 i51:=by kernel_rfl
 i53:=by kernel_rfl
 i171:=by kernel_rfl
 i173:=by kernel_rfl
 i212:=by kernel_rfl
 i232:=by kernel_rfl
 i233:=by kernel_rfl
 m17:=by kernel_rfl
 m18:=by kernel_rfl
 m19:=by kernel_rfl }
open Go.RowKit Go.Sort Go.Lib in
theorem Tryz.strconv_Itoa (n:Int) (b:-9223372036854775808<=n) (h1:n<=9223372036854775807) (w:World) (a:Lib.TabIs Tryz.prog w "internal/strconv.uint64pow10" .u64 Lib.pow10Tab) :
  Calls Tryz.prog 99 #[.int .i64 n] w fun e w'=>e=.returned (.string ⟨(Lib.itoa n).toArray⟩)/\∃k os,w'=grow (w.drewN k) os:=Any.strconv_Itoa Tryz.laysM171 n b h1 w a
def Tryz.laysC172_ren:Go.Shelf.Ren:=⟨fun | 172=>203 | 244=>215 | 245=>216 | 247=>223 | 279=>224 | 280=>225 | 281=>226 | 282=>227 | 287=>240 | 316=>241 | 171=>99 | 205=>242 | 321=>245 | 322=>246 | 243=>144 | 246=>182 | 283=>194 | 284=>195 | 285=>196 | 286=>197 | 129=>207 | 317=>206 | 318=>208 | 319=>209 | 320=>210 | 337=>217 | 338=>218 | n=>n,fun | 9=>9 | 3=>3 | 75=>268 | 76=>269 | 4=>4 | 5=>5 | 167=>293 | 37=>237 | 0=>0 | 85=>294 | 2=>2 | 168=>296 | 53=>219 | 175=>307 | 46=>265 | 210=>310 | 127=>317 | 145=>320 | 143=>318 | 21=>21 | 171=>249 | 173=>252 | 212=>274 | 51=>275 | 20=>20 | 213=>276 | 232=>299 | 233=>300 | 80=>79 | n=>n,fun | 15=>4 | 16=>5 | 17=>0 | 18=>2 | 19=>3 | n=>n⟩
theorem Tryz.laysC172:Go.Proofs.LaysC.n172 Tryz.prog Tryz.laysC172_ren:={
 mixed:=by kernel_rfl
 f129:=Tryz.func207.trans (congrArg some (by kernel_rfl))
 f171:=Tryz.func99.trans (congrArg some (by kernel_rfl))
 f172:=Tryz.func203.trans (congrArg some (by kernel_rfl))
 f205:=Tryz.func242.trans (congrArg some (by kernel_rfl))
 f243:=Tryz.func144.trans (congrArg some (by kernel_rfl))
 f244:=Tryz.func215.trans (congrArg some (by kernel_rfl))
 f245:=Tryz.func216.trans (congrArg some (by kernel_rfl))
 f246:=Tryz.func182.trans (congrArg some (by kernel_rfl))
 f247:=Tryz.func223.trans (congrArg some (by kernel_rfl))
 f279:=Tryz.func224.trans (congrArg some (by kernel_rfl))
 f280:=Tryz.func225.trans (congrArg some (by kernel_rfl))
 f281:=Tryz.func226.trans (congrArg some (by kernel_rfl))
 f282:=Tryz.func227.trans (congrArg some (by kernel_rfl))
 f283:=Tryz.func194.trans (congrArg some (by kernel_rfl))
 f284:=Tryz.func195.trans (congrArg some (by kernel_rfl))
 f285:=Tryz.func196.trans (congrArg some (by kernel_rfl))
 f286:=Tryz.func197.trans (congrArg some (by kernel_rfl))
 f287:=Tryz.func240.trans (congrArg some (by kernel_rfl))
 f316:=Tryz.func241.trans (congrArg some (by kernel_rfl))
 f317:=Tryz.func206.trans (congrArg some (by kernel_rfl))
 f318:=Tryz.func208.trans (congrArg some (by kernel_rfl))
 f319:=Tryz.func209.trans (congrArg some (by kernel_rfl))
 f320:=Tryz.func210.trans (congrArg some (by kernel_rfl))
 f321:=Tryz.func245.trans (congrArg some (by kernel_rfl))
 f322:=Tryz.func246.trans (congrArg some (by kernel_rfl))
 f337:=Tryz.func217.trans (congrArg some (by kernel_rfl))
 f338:=Tryz.func218.trans (congrArg some (by kernel_rfl))
 t0:=Tryz.underlying0
 a0:=Tryz.isAgg0
 z0:=Tryz.sizeOf0
 v0:=Tryz.zeroValue0
 t2:=Tryz.underlying2
 a2:=Tryz.isAgg2
 z2:=Tryz.sizeOf2
 v2:=Tryz.zeroValue2
 t3:=Tryz.underlying3
 a3:=Tryz.isAgg3
 z3:=Tryz.sizeOf3
 v3:=Tryz.zeroValue3
 t4:=Tryz.underlying4
 a4:=Tryz.isAgg4
 z4:=Tryz.sizeOf4
 v4:=Tryz.zeroValue4
 t5:=Tryz.underlying5
 a5:=Tryz.isAgg5
 z5:=Tryz.sizeOf5
 v5:=Tryz.zeroValue5
 t9:=Tryz.underlying9
 a9:=Tryz.isAgg9
 z9:=Tryz.sizeOf9
 v9:=Tryz.zeroValue9
 t20:=Tryz.underlying20
 a20:=Tryz.isAgg20
 z20:=Tryz.sizeOf20
 v20:=Tryz.zeroValue20
 t21:=Tryz.underlying21
 a21:=Tryz.isAgg21
 z21:=Tryz.sizeOf21
 v21:=Tryz.zeroValue21
 t37:=Tryz.underlying237
 a37:=Tryz.isAgg237
 z37:=Tryz.sizeOf237
 v37:=Tryz.zeroValue237
 t46:=Tryz.underlying265
 a46:=Tryz.isAgg265
 z46:=Tryz.sizeOf265
 v46:=Tryz.zeroValue265
 t51:=Tryz.underlying275
 a51:=Tryz.isAgg275
 z51:=Tryz.sizeOf275
 v51:=Tryz.zeroValue275
 t53:=Tryz.underlying219
 a53:=Tryz.isAgg219
 z53:=Tryz.sizeOf219
 v53:=Tryz.zeroValue219
 t75:=Tryz.underlying268
 a75:=Tryz.isAgg268
 z75:=Tryz.sizeOf268
 v75:=Tryz.zeroValue268
 t76:=Tryz.underlying269
 a76:=Tryz.isAgg269
 z76:=Tryz.sizeOf269
 v76:=Tryz.zeroValue269
 t85:=Tryz.underlying294
 a85:=Tryz.isAgg294
 z85:=Tryz.sizeOf294
 v85:=Tryz.zeroValue294
 t127:=Tryz.underlying317
 a127:=Tryz.isAgg317
 z127:=Tryz.sizeOf317
 v127:=Tryz.zeroValue317
 t143:=Tryz.underlying318
 a143:=Tryz.isAgg318
 z143:=Tryz.sizeOf318
 v143:=Tryz.zeroValue318
 t145:=Tryz.underlying320
 a145:=Tryz.isAgg320
 z145:=Tryz.sizeOf320
 v145:=Tryz.zeroValue320
 t167:=Tryz.underlying293
 a167:=Tryz.isAgg293
 z167:=Tryz.sizeOf293
 v167:=Tryz.zeroValue293
 t168:=Tryz.underlying296
 a168:=Tryz.isAgg296
 z168:=Tryz.sizeOf296
 v168:=Tryz.zeroValue296
 t171:=Tryz.underlying249
 a171:=Tryz.isAgg249
 z171:=Tryz.sizeOf249
 v171:=Tryz.zeroValue249
 t173:=Tryz.underlying252
 a173:=Tryz.isAgg252
 z173:=Tryz.sizeOf252
 v173:=Tryz.zeroValue252
 t175:=Tryz.underlying307
 a175:=Tryz.isAgg307
 z175:=Tryz.sizeOf307
 v175:=Tryz.zeroValue307
 t210:=Tryz.underlying310
 a210:=Tryz.isAgg310
 z210:=Tryz.sizeOf310
 v210:=Tryz.zeroValue310
 t212:=Tryz.underlying274
 a212:=Tryz.isAgg274
 z212:=Tryz.sizeOf274
 v212:=Tryz.zeroValue274
 t213:=Tryz.underlying276
 a213:=Tryz.isAgg276
 z213:=Tryz.sizeOf276
 t232:=Tryz.underlying299
 a232:=Tryz.isAgg299
 z232:=Tryz.sizeOf299
 v232:=Tryz.zeroValue299
 t233:=Tryz.underlying300
 a233:=Tryz.isAgg300
 z233:=Tryz.sizeOf300
 v233:=Tryz.zeroValue300
 g15:=by kernel_rfl
 g16:=by kernel_rfl
 g17:=by kernel_rfl
 g18:=by kernel_rfl
 g19:=by kernel_rfl
 t80:=Tryz.underlying79
 a80:=Tryz.isAgg79
 z80:=Tryz.sizeOf79
 v80:=Tryz.zeroValue79
 i0:=by kernel_rfl
 i2:=by kernel_rfl
 i3:=by kernel_rfl
 i4:=by kernel_rfl
 i5:=by kernel_rfl
 i9:=by kernel_rfl
 i20:=by kernel_rfl
 i21:=by kernel_rfl
 i37:=by kernel_rfl
 i46:=by kernel_rfl
 i51:=by kernel_rfl
 i53:=by kernel_rfl
 i75:=by kernel_rfl
 i76:=by kernel_rfl
 i80:=by kernel_rfl
 i85:=by kernel_rfl
 i127:=by kernel_rfl
 i143:=by kernel_rfl
 i145:=by kernel_rfl
 i167:=by kernel_rfl
 i168:=by kernel_rfl
 i171:=by kernel_rfl
 i173:=by kernel_rfl
 i175:=by kernel_rfl
 i210:=by kernel_rfl
 i212:=by kernel_rfl
 i232:=by kernel_rfl
 i233:=by kernel_rfl
 m15:=by kernel_rfl
 m16:=by kernel_rfl
 m17:=by kernel_rfl
 m18:=by kernel_rfl
 m19:=by kernel_rfl
 c0:=by kernel_rfl
 c2:=by kernel_rfl
 c3:=by kernel_rfl
 c4:=by kernel_rfl
 c5:=by kernel_rfl
 c9:=by kernel_rfl
 c20:=by kernel_rfl
 c21:=by kernel_rfl
 c37:=by kernel_rfl
 c46:=by kernel_rfl
 c51:=by kernel_rfl
 c53:=by kernel_rfl
 c75:=by kernel_rfl
 c76:=by kernel_rfl
 c80:=by kernel_rfl
 c85:=by kernel_rfl
 c127:=by kernel_rfl
 c143:=by kernel_rfl
 c145:=by kernel_rfl
 c167:=by kernel_rfl
 c168:=by kernel_rfl
 c171:=by kernel_rfl
 c173:=by kernel_rfl
 c175:=by kernel_rfl
 c210:=by kernel_rfl
 c212:=by kernel_rfl
 c213:=by kernel_rfl
 c232:=by kernel_rfl
 c233:=by kernel_rfl }
def Tryz.lays154_ren:Go.Shelf.Ren:=⟨fun | 154=>248 | 138=>250 | 165=>251 | 143=>252 | 166=>253 | 197=>254 | 169=>255 | 195=>256 | 218=>257 | 240=>258 | 241=>259 | 219=>260 | 260=>261 | 276=>262 | 277=>263 | 217=>214 | 225=>202 | 224=>201 | 267=>264 | 266=>222 | 314=>265 | n=>n,fun | 9=>9 | 3=>3 | 4=>4 | 72=>324 | 0=>0 | 76=>269 | 105=>326 | 21=>21 | 5=>5 | 70=>322 | 20=>20 | 37=>237 | 75=>268 | 127=>317 | 164=>328 | 46=>265 | 119=>331 | 139=>334 | 138=>333 | 146=>335 | 51=>275 | 80=>79 | n=>n,fun | 1=>1 | 3=>6 | 4=>7 | n=>n⟩
theorem Tryz.lays154:Go.Proofs.Lays.n154 Tryz.prog Tryz.lays154_ren:={
 mixed:=by kernel_rfl
 f138:=Tryz.func250.trans (congrArg some (by kernel_rfl))
 f143:=Tryz.func252.trans (congrArg some (by kernel_rfl))
 f154:=Tryz.func248.trans (congrArg some (by kernel_rfl))
 f165:=Tryz.func251.trans (congrArg some (by kernel_rfl))
 f166:=Tryz.func253.trans (congrArg some (by kernel_rfl))
 f169:=Tryz.func255.trans (congrArg some (by kernel_rfl))
 f195:=Tryz.func256.trans (congrArg some (by kernel_rfl))
 f197:=Tryz.func254.trans (congrArg some (by kernel_rfl))
 f217:=Tryz.func214.trans (congrArg some (by kernel_rfl))
 f218:=Tryz.func257.trans (congrArg some (by kernel_rfl))
 f219:=Tryz.func260.trans (congrArg some (by kernel_rfl))
 f224:=Tryz.func201.trans (congrArg some (by kernel_rfl))
 f225:=Tryz.func202.trans (congrArg some (by kernel_rfl))
 f240:=Tryz.func258.trans (congrArg some (by kernel_rfl))
 f241:=Tryz.func259.trans (congrArg some (by kernel_rfl))
 f260:=Tryz.func261.trans (congrArg some (by kernel_rfl))
 f266:=Tryz.func222.trans (congrArg some (by kernel_rfl))
 f267:=Tryz.func264.trans (congrArg some (by kernel_rfl))
 f276:=Tryz.func262.trans (congrArg some (by kernel_rfl))
 f277:=Tryz.func263.trans (congrArg some (by kernel_rfl))
 f314:=Tryz.func265.trans (congrArg some (by kernel_rfl))
 t0:=Tryz.underlying0
 a0:=Tryz.isAgg0
 z0:=Tryz.sizeOf0
 v0:=Tryz.zeroValue0
 t3:=Tryz.underlying3
 a3:=Tryz.isAgg3
 z3:=Tryz.sizeOf3
 v3:=Tryz.zeroValue3
 t4:=Tryz.underlying4
 a4:=Tryz.isAgg4
 z4:=Tryz.sizeOf4
 v4:=Tryz.zeroValue4
 t5:=Tryz.underlying5
 a5:=Tryz.isAgg5
 z5:=Tryz.sizeOf5
 v5:=Tryz.zeroValue5
 t9:=Tryz.underlying9
 a9:=Tryz.isAgg9
 z9:=Tryz.sizeOf9
 v9:=Tryz.zeroValue9
 t20:=Tryz.underlying20
 a20:=Tryz.isAgg20
 z20:=Tryz.sizeOf20
 v20:=Tryz.zeroValue20
 t21:=Tryz.underlying21
 a21:=Tryz.isAgg21
 z21:=Tryz.sizeOf21
 v21:=Tryz.zeroValue21
 t37:=Tryz.underlying237
 a37:=Tryz.isAgg237
 z37:=Tryz.sizeOf237
 v37:=Tryz.zeroValue237
 t46:=Tryz.underlying265
 a46:=Tryz.isAgg265
 z46:=Tryz.sizeOf265
 v46:=Tryz.zeroValue265
 t51:=Tryz.underlying275
 a51:=Tryz.isAgg275
 z51:=Tryz.sizeOf275
 v51:=Tryz.zeroValue275
 t70:=Tryz.underlying322
 a70:=Tryz.isAgg322
 z70:=Tryz.sizeOf322
 v70:=Tryz.zeroValue322
 t72:=Tryz.underlying324
 a72:=Tryz.isAgg324
 z72:=Tryz.sizeOf324
 v72:=Tryz.zeroValue324
 t75:=Tryz.underlying268
 a75:=Tryz.isAgg268
 z75:=Tryz.sizeOf268
 v75:=Tryz.zeroValue268
 t76:=Tryz.underlying269
 a76:=Tryz.isAgg269
 z76:=Tryz.sizeOf269
 v76:=Tryz.zeroValue269
 t105:=Tryz.underlying326
 a105:=Tryz.isAgg326
 z105:=Tryz.sizeOf326
 v105:=Tryz.zeroValue326
 t119:=Tryz.underlying331
 a119:=Tryz.isAgg331
 z119:=Tryz.sizeOf331
 t127:=Tryz.underlying317
 a127:=Tryz.isAgg317
 z127:=Tryz.sizeOf317
 v127:=Tryz.zeroValue317
 t138:=Tryz.underlying333
 a138:=Tryz.isAgg333
 z138:=Tryz.sizeOf333
 v138:=Tryz.zeroValue333
 t139:=Tryz.underlying334
 a139:=Tryz.isAgg334
 z139:=Tryz.sizeOf334
 v139:=Tryz.zeroValue334
 t146:=Tryz.underlying335
 a146:=Tryz.isAgg335
 z146:=Tryz.sizeOf335
 v146:=Tryz.zeroValue335
 t164:=Tryz.underlying328
 a164:=Tryz.isAgg328
 z164:=Tryz.sizeOf328
 v164:=Tryz.zeroValue328
 g1:=by kernel_rfl
 g3:=by kernel_rfl
 g4:=by kernel_rfl }
theorem Tryz.Builder_Extra_154:Builder.Extra Tryz.prog Tryz.lays154_ren:={
 sizeBuilder:=by kernel_rfl
 liesBuilder:=by kernel_rfl
 t5:=Tryz.underlying5
 a5:=Tryz.isAgg5
 z5:=Tryz.sizeOf5
 v5:=Tryz.zeroValue5
 infoByte:=by kernel_rfl
 cellsByte:=by kernel_rfl
 sizeByte:=by kernel_rfl
 neB5:=by decide }
open Go.RowKit Go.Lib in
theorem Tryz.strings_Replace (s old new:ByteArray) (n:Int) (m:Int) (w:World) (O:s.size < 4294967281) (N:w.cell? ⟨1,0,none⟩=some (.int .i64 m)) (h1:1<=old.size) (a:s.size+Lib.countB s old * new.size<=140737488355328) :
  Calls Tryz.prog 248 #[.string s,.string old,.string new,.int .i64 n] w fun e w'=>
   e=.returned (.string ⟨(Lib.replace s.data.toList old.data.toList new.data.toList n).toArray⟩)/\Below w.heap.size w w':=Any.strings_Replace Tryz.lays154 Tryz.Builder_Extra_154 s old new n m w O N h1 a
def Tryz.lays153_ren:Go.Shelf.Ren:=⟨fun | 153=>176 | 152=>187 | 226=>188 | 227=>189 | 228=>190 | 137=>199 | 119=>200 | 224=>201 | 225=>202 | 217=>214 | 266=>222 | n=>n,fun | 9=>9 | 3=>3 | 4=>4 | 5=>5 | 21=>21 | 117=>245 | 116=>244 | 0=>0 | 46=>265 | 124=>266 | n=>n,fun | n=>n⟩
theorem Tryz.lays153:Go.Proofs.Lays.n153 Tryz.prog Tryz.lays153_ren:={
 mixed:=by kernel_rfl
 f119:=Tryz.func200.trans (congrArg some (by kernel_rfl))
 f137:=Tryz.func199.trans (congrArg some (by kernel_rfl))
 f152:=Tryz.func187.trans (congrArg some (by kernel_rfl))
 f153:=Tryz.func176.trans (congrArg some (by kernel_rfl))
 f217:=Tryz.func214.trans (congrArg some (by kernel_rfl))
 f224:=Tryz.func201.trans (congrArg some (by kernel_rfl))
 f225:=Tryz.func202.trans (congrArg some (by kernel_rfl))
 f226:=Tryz.func188.trans (congrArg some (by kernel_rfl))
 f227:=Tryz.func189.trans (congrArg some (by kernel_rfl))
 f228:=Tryz.func190.trans (congrArg some (by kernel_rfl))
 f266:=Tryz.func222.trans (congrArg some (by kernel_rfl))
 t0:=Tryz.underlying0
 a0:=Tryz.isAgg0
 z0:=Tryz.sizeOf0
 v0:=Tryz.zeroValue0
 t3:=Tryz.underlying3
 a3:=Tryz.isAgg3
 z3:=Tryz.sizeOf3
 v3:=Tryz.zeroValue3
 t4:=Tryz.underlying4
 a4:=Tryz.isAgg4
 z4:=Tryz.sizeOf4
 v4:=Tryz.zeroValue4
 t5:=Tryz.underlying5
 a5:=Tryz.isAgg5
 z5:=Tryz.sizeOf5
 v5:=Tryz.zeroValue5
 t9:=Tryz.underlying9
 a9:=Tryz.isAgg9
 z9:=Tryz.sizeOf9
 v9:=Tryz.zeroValue9
 t21:=Tryz.underlying21
 a21:=Tryz.isAgg21
 z21:=Tryz.sizeOf21
 v21:=Tryz.zeroValue21
 t46:=Tryz.underlying265
 a46:=Tryz.isAgg265
 z46:=Tryz.sizeOf265
 v46:=Tryz.zeroValue265
 t116:=Tryz.underlying244
 a116:=Tryz.isAgg244
 z116:=Tryz.sizeOf244
 t117:=Tryz.underlying245
 a117:=Tryz.isAgg245
 z117:=Tryz.sizeOf245
 v117:=Tryz.zeroValue245
 t124:=Tryz.underlying266
 a124:=Tryz.isAgg266
 z124:=Tryz.sizeOf266
 v124:=Tryz.zeroValue266 }
end Go.Proofs
