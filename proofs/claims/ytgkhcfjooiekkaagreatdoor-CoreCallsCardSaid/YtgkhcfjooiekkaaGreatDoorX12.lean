import Derived.OrdersIn
import Derived.Test.YtgkhcfjooiekkaaGreatDoorX11
set_option linter.unusedVariables false
set_option linter.unusedSimpArgs false
namespace Go.Sw
open Go.Proofs Go.Proofs.Tryz
set_option maxRecDepth 20000
set_option maxHeartbeats 4000000
section
variable {P:Program} {ops:Array Oper} {md:Region.Mode} {B:World->Prop} {kd:List Nat} {Qp:List PanicEntry->World->Prop} {D:List Deferred}
theorem q6x {Inv:Act->Prop} (t:∀(i:Nat) (o:Oper) (a:Act) (v:Value),ops[i]? = some o->Inv a->Inv (a.put o.dst v)) {Q:Act->World->Prop} {Q':Exit->Act->World->Prop} (hQ:∀a w,Q a w->Q' .normal a w) (H:∀c a w,Inv a->Qp c w->Q' (.panic c) a w) :
  ∀(n:Nat) (listed:Array Bool) (a:Act) (w:World),Inv a->((List.range ops.size).any (fun i=>qI kd i==2 && !listed.getD i true)=true->B w) ->
   q6y P md ops B kd Qp Q n listed a w->wpAny P md ops Q' n listed a w:=by
 intro n
 induction n with
 | zero=>intro listed a w _ _ h;exact ⟨h.1,hQ _ _ h.2⟩
 | succ n s=>
  intro listed a w q y h
  refine ⟨fun D=>hQ _ _ (h.1 D),fun i u=>?_⟩
  have hi':=mem_ready.1 u
  have f:((List.range ops.size).any (fun k=>qI kd k==2 && !(listed.setIfInBounds i true).getD k true)=true->B w):=fun m=>by
   apply y
   rw [List.any_eq_true] at m ⊢
   obtain ⟨k,r,b⟩:=m
   simp only [baQ,beq_iff_eq,Bool.not_eq_true'] at b
   refine ⟨k,r,?_⟩
   simp only [baQ,beq_iff_eq,Bool.not_eq_true']
   refine ⟨b.1,?_⟩
   by_cases d:i=k
   ·subst d;exact hi'.1
   ·rw [getD_set_ne true d] at b;exact b.2
  have h1:=h.2 i u
  unfold cL at h1
  unfold wpOp
  cases l:ops[i]? with
  | none=>simp only [l] at h1 ⊢;exact s _ _ _ q f h1
  | some o=>
   simp only [l] at h1 ⊢
   by_cases C:Region.wanted o (yielded ops a.tmps)=true
   ·rw [if_pos C] at h1 ⊢
    refine .inl (gB ?_)
    by_cases z:qI kd i=0
    ·rw [if_pos z] at h1
     refine qH h1 (fun v w' A=>s _ _ _ (t _ _ _ _ l q) (fun m=>A.1 ?_) A.2) (fun c w' G=>H c a w' q G)
     rw [List.any_eq_true] at m
     obtain ⟨k,r,b⟩:=m
     simp only [baQ,beq_iff_eq,Bool.not_eq_true'] at b
     unfold sL
     rw [List.any_eq_true]
     have j:k < kd.length:=by
      by_cases j:k < kd.length
      ·exact j
      ·have:=b.1
       simp [qI,List.getD_eq_getElem?_getD,List.getElem?_eq_none (Nat.le_of_not_lt j)] at this
     refine ⟨k,List.mem_range.2 j,?_⟩
     simp only [baQ,beq_iff_eq,Bool.not_eq_true']
     refine ⟨b.1,?_⟩
     rw [<- Bool.not_eq_true]
     intro m
     obtain ⟨e,J,hb⟩:=Array.any_eq_true'.1 m
     simp only [baQ,beq_iff_eq] at hb
     obtain ⟨_,o',ho',p⟩:=hi'
     rw [l] at ho'
     cases ho'
     have hl:=p e J hb.1
     rw [hb.2] at hl
     have g:=b.2
     by_cases d:i=k
     ·subst d
      have:=(mem_ready.1 u).1
      rcases Nat.lt_or_ge i listed.size with h' | h'
      ·simp [h'] at hl this;rw [hl] at this;cases this
      ·simp [Array.getElem?_eq_none h'] at hl
     ·rw [getD_set_ne true d] at g
      rcases Nat.lt_or_ge k listed.size with h' | h'
      ·simp [h'] at hl g;rw [hl] at g;cases g
      ·simp [Array.getElem?_eq_none h'] at hl
    ·rw [if_neg z] at h1
     obtain ⟨v,E,F⟩:=h1
     have hr:=E w (fun e=>y (by
      rw [List.any_eq_true]
      refine ⟨i,List.mem_range.2 (Array.getElem?_eq_some_iff.1 l).1,?_⟩
      simp only [baQ,beq_iff_eq,Bool.not_eq_true']
      exact ⟨e,hi'.1⟩))
     unfold Oper.eff
     rw [hr]
     exact s _ _ _ (t _ _ _ _ l q) f F
   ·rw [if_neg C] at h1 ⊢
    exact s _ _ _ (t _ _ _ _ l q) f h1
theorem y7p {r:Option Nat} {m:Nat} (C:∀(i:Nat) (o:Oper),ops[i]? = some o->∀c,o.op≠.defer c) {Inv:Act->Prop} (z:∀(i:Nat) (o:Oper) (a:Act) (v:Value),ops[i]? = some o->Inv a->Inv (a.put o.dst v)) {Q:Act->World->Prop} {Q':Exit->Act->World->Prop} (hQ:∀a w,Q a w->Q' .normal a w) (M:∀c a w,Inv a->Qp c w->Q' (.panic c) a w) :
  ∀(n:Nat) (listed:Array Bool) (a:Act) (w:World),Inv a->((List.range ops.size).any (fun i=>qI kd i==2 && !listed.getD i true)=true->B w) ->
   q6y P md ops B kd Qp Q n listed a w->wpAnyIn (FO r) m P md ops Q' n listed a w:=by
 intro n
 induction n with
 | zero=>intro listed a w _ _ h;exact ⟨h.1,hQ _ _ h.2⟩
 | succ n y=>
  intro listed a w t D h
  refine ⟨fun H=>hQ _ _ (h.1 H),fun i A=>?_⟩
  have hi':=mem_ready.1 A
  have g:((List.range ops.size).any (fun k=>qI kd k==2 && !(listed.setIfInBounds i true).getD k true)=true->B w):=fun q=>by
   apply D
   rw [List.any_eq_true] at q ⊢
   obtain ⟨k,u,b⟩:=q
   simp only [baQ,beq_iff_eq,Bool.not_eq_true'] at b
   refine ⟨k,u,?_⟩
   simp only [baQ,beq_iff_eq,Bool.not_eq_true']
   refine ⟨b.1,?_⟩
   by_cases d:i=k
   ·subst d;exact hi'.1
   ·rw [getD_set_ne true d] at b;exact b.2
  have h1:=h.2 i A
  unfold cL at h1
  unfold wpOpIn
  cases p:ops[i]? with
  | none=>simp only [p] at h1 ⊢;exact y _ _ _ t g h1
  | some o=>
   simp only [p] at h1 ⊢
   by_cases G:Region.wanted o (yielded ops a.tmps)=true
   ·rw [if_pos G] at h1 ⊢
    refine z3j (C _ _ p) ?_
    by_cases E:qI kd i=0
    ·rw [if_pos E] at h1
     refine qH h1 (fun v w' F=>y _ _ _ (z _ _ _ _ p t) (fun q=>F.1 ?_) F.2) (fun c w' L=>M c a w' t L)
     rw [List.any_eq_true] at q
     obtain ⟨k,u,b⟩:=q
     simp only [baQ,beq_iff_eq,Bool.not_eq_true'] at b
     unfold sL
     rw [List.any_eq_true]
     have l:k < kd.length:=by
      by_cases l:k < kd.length
      ·exact l
      ·have:=b.1
       simp [qI,List.getD_eq_getElem?_getD,List.getElem?_eq_none (Nat.le_of_not_lt l)] at this
     refine ⟨k,List.mem_range.2 l,?_⟩
     simp only [baQ,beq_iff_eq,Bool.not_eq_true']
     refine ⟨b.1,?_⟩
     rw [<- Bool.not_eq_true]
     intro q
     obtain ⟨e,J,hb⟩:=Array.any_eq_true'.1 q
     simp only [baQ,beq_iff_eq] at hb
     obtain ⟨_,o',ho',s⟩:=hi'
     rw [p] at ho'
     cases ho'
     have hl:=s e J hb.1
     rw [hb.2] at hl
     have j:=b.2
     by_cases d:i=k
     ·subst d
      have:=(mem_ready.1 A).1
      rcases Nat.lt_or_ge i listed.size with h' | h'
      ·simp [h'] at hl this;rw [hl] at this;cases this
      ·simp [Array.getElem?_eq_none h'] at hl
     ·rw [getD_set_ne true d] at j
      rcases Nat.lt_or_ge k listed.size with h' | h'
      ·simp [h'] at hl j;rw [hl] at j;cases j
      ·simp [Array.getElem?_eq_none h'] at hl
    ·rw [if_neg E] at h1
     obtain ⟨v,I,K⟩:=h1
     have hr:=I w (fun e=>D (by
      rw [List.any_eq_true]
      refine ⟨i,List.mem_range.2 (Array.getElem?_eq_some_iff.1 p).1,?_⟩
      simp only [baQ,beq_iff_eq,Bool.not_eq_true']
      exact ⟨e,hi'.1⟩))
     unfold Oper.eff
     rw [hr]
     exact y _ _ _ (z _ _ _ _ p t) g K
   ·rw [if_neg G] at h1 ⊢
    exact ⟨fun f _=>FO.fn f,y _ _ _ (z _ _ _ _ p t) g h1⟩
end
theorem EnvR.keep {n:Nat} {E0:List (Nat×Value)} {D:List Deferred} {a:Act} {o:Oper} {v:Value} (J:EnvR n E0 D a) (b:(match o.dst with | some d=>(get E0 d).isNone | none=>true)=true):EnvR n E0 D (a.put o.dst v):=by
 cases c:o.dst with
 | none=>exact J
 | some d=>
  rw [c] at b
  refine ⟨by simp [Act.put,J.size],fun t u h=>?_,J.defs⟩
  have:t≠d:=fun e=>by subst e;simp only [h] at b;cases b
  simp only [Act.put]
  rw [Array.getElem?_setIfInBounds_ne (Ne.symm this)]
  exact J.env t u h
theorem oQ {P:Program} {n:Nat} {E0:List (Nat×Value)} {D:List Deferred} {a:Act} {V:Fz} {K:List Res} {w:World} {id:Nat} {l:List Oper} {Q:Exit->Act->World->Prop} (kd:List Nat) (p:Plan) (K':List Res) (g:EnvR n E0 D a) (N:Mem V K w) (q:P.follows .mixedOrders=true) (f:z7f l.toArray kd p=true) (j:∀r∈K',r∈K)
  (m:l.all (fun o=>match o.dst with | some d=>(get E0 d).isNone | none=>true)=true)
  (h:∀w,Mem V K w->yI P .any l.toArray (Sees V K') kd (fun c w=>∀a,EnvR n E0 D a->Q (.panic c) a w) (Q .normal) p a w):(Code.region id l.toArray true).wp P Q a w:=by
 have hm':=N.drew
 have h:=h _ hm'
 simp only [z7f,baQ,beq_iff_eq] at f
 obtain ⟨⟨⟨O,b⟩,hl⟩,e⟩:=f
 refine wp_region_any q (q6x (Inv:=EnvR n E0 D) (kd:=kd) (B:=Sees V K') (Qp:=fun c w=>∀a,EnvR n E0 D a->Q (.panic c) a w) (Q:=Q .normal) (fun i o a v k J=>J.keep ?_) (fun _ _ h=>h) (fun c a w J h=>h a J) _ _ _ _ g (fun _=>⟨hm'.fz,fun r hr=>hm'.own r (j r hr)⟩) ?_)
 ·have h1:l[i]? = some o:=by simpa using k
  exact List.all_eq_true.1 m o (mgQ h1)
 ·have:=wL O p _ _ _ b e h
  rw [hl] at this
  exact this
theorem y9p {P:Program} {n m:Nat} {r:Option Nat} {E:List (Nat×Value)} {a:Act} {V:Fz} {K:List Res} {w:World} {id:Nat} {l:List Oper} {Q:Exit->Act->World->Prop} (kd:List Nat) (p:Plan) (K':List Res) (J:EnvR n E [] a) (N:Mem V K w) (s:P.follows .mixedOrders=true) (f:z7f l.toArray kd p=true) (g:∀r∈K',r∈K)
  (q:l.all (fun o=>match o.op with | .defer _=>false | _=>true)=true)
  (h:∀w,Mem V K w->yI P .any l.toArray (Sees V K') kd (fun _ _=>False) (Q .normal) p a w):(Code.region id l.toArray true).wpIn (FO r) m P Q a w:=by
 have hm':=N.drew
 have h:=h _ hm'
 simp only [z7f,baQ,beq_iff_eq] at f
 obtain ⟨⟨⟨O,b⟩,hl⟩,d⟩:=f
 refine wpIn_region_any s (y7p (Inv:=fun _=>True) (kd:=kd) (B:=Sees V K') (Qp:=fun _ _=>False) (Q:=Q .normal) (fun i o k c j=>?_) (fun _ _ _ _ _ h=>h) (fun _ _ h=>h) (fun _ _ _ _ h=>h.elim) _ _ _ _ trivial (fun _=>⟨hm'.fz,fun r hr=>hm'.own r (g r hr)⟩) ?_)
 ·have h1:l[i]? = some o:=by simpa using k
  have e:=List.all_eq_true.1 q o (mgQ h1)
  rw [j] at e;cases e
 ·have:=wL O p _ _ _ b d h
  rw [hl] at this
  exact this
theorem sP (p:Nat->Bool) (t:Bs):∀(f i j:Nat),j < yV p t f i->i+j < t.size/\p (zH t (i+j))=true
 | 0,i,j,h=>by simp [yV] at h
 | f+1,i,j,h=>by
  simp only [yV] at h
  split at h
  ·rename_i h1
   cases j with
   | zero=>exact h1
   | succ j=>
    have:=sP p t f (i+1) j (by omega)
    rw [show i+(j+1)=i+1+j by omega];exact this
  ·omega
theorem y6i (p:Nat->Bool) (t:Bs):∀(f i:Nat),t.size<=i+f->i+yV p t f i < t.size->p (zH t (i+yV p t f i))=false
 | 0,i,h,a=>by simp only [yV] at a ⊢;omega
 | f+1,i,h,a=>by
  by_cases h1:i < t.size/\p (zH t i)=true
  ·have e:yV p t (f+1) i=yV p t f (i+1)+1:=by simp only [yV];rw [if_pos h1]
   rw [e] at a ⊢
   have:=y6i p t f (i+1) (by omega) (by omega)
   rw [show i+(yV p t f (i+1)+1)=i+1+yV p t f (i+1) by omega];exact this
  ·have e:yV p t (f+1) i=0:=by simp only [yV];rw [if_neg h1]
   rw [e] at a ⊢
   cases b:p (zH t (i+0)) with
   | false=>rfl
   | true=>exact absurd ⟨by omega,b⟩ h1
theorem byte_eq (b k:UInt8):(b==k)=decide (b.toNat=k.toNat):=by
 rw [Bool.eq_iff_iff];simp [UInt8.toNat_inj]
theorem z7p (b:UInt8):([32,10,40,41]:List UInt8).contains b=y6o b.toNat:=by
 simp only [List.contains_cons,List.contains_nil,y6o,byte_eq,Bool.or_false]
 simp [Bool.or_assoc]
theorem y4a {t:Bs} {i j:Nat} (c:i+j < t.size):(t.extract i t.size).data.toList[j]? = some t[i+j]:=by
 rw [Array.getElem?_toList]
 have h:=ByteArray.data_extract (a:=t) (b:=i) (e:=t.size)
 rw [h,Array.getElem?_extract]
 have:t.data.size=t.size:=rfl
 rw [if_pos (by omega),Array.getElem?_eq_getElem (by omega)]
 rfl
theorem dL {t:Bs} {i:Nat} (h:i < t.size):zH t i=t[i].toNat:=by simp [zH,h]
theorem q9c {t:Bs} {i:Nat} {x:UInt8} {j:Nat} (h:(t.extract i t.size).data.toList[j]? = some x):i+j < t.size:=by
 have h1:=(List.getElem?_eq_some_iff.1 h).1
 have c:(t.extract i t.size).data.toList.length=(t.extract i t.size).size:=by rw [Array.length_toList];rfl
 have d:=ByteArray.size_extract (a:=t) (b:=i) (e:=t.size)
 omega
theorem z1b {t:Bs} {i:Nat} (h:i<=t.size):i+yZ t i<=t.size:=wG _ t t.size i h
theorem j9y {t:Bs} {i:Nat} (g:i<=t.size):Lib.indexAny (t.extract i t.size).data.toList [32,10,40,41]=if i+yZ t i < t.size then ((yZ t i:Nat):Int) else -1:=by
 have f:∀n,n<=yZ t i->Lib.NoAny (t.extract i t.size).data.toList [32,10,40,41] n:=fun n k j b m hb=>by
  have h1:=q9c hb
  rw [y4a h1] at hb
  simp only [Option.some.injEq] at hb
  have d:=(sP (fun c=> !y6o c) t t.size i j (by unfold yZ at k;omega)).2
  rw [z7p,<- hb,<- dL h1]
  simpa using d
 split
 ·rename_i h
  have d:=y6i (fun c=> !y6o c) t t.size i (by omega) h
  refine Lib.indexAny_hit (x:=t[i+yZ t i]) (f _ (Nat.le_refl _)) (y4a h) ?_
  rw [z7p,<- dL h]
  simpa [yZ] using d
 ·rename_i h
  refine Lib.indexAny_none ?_
  have h1:=z1b g
  have d:(t.extract i t.size).data.toList.length=(t.extract i t.size).size:=by rw [Array.length_toList];rfl
  have l:=ByteArray.size_extract (a:=t) (b:=i) (e:=t.size)
  exact f _ (by omega)
def AscB (t:Bs):Prop:=∀(j:Nat) b,t.data.toList[j]? = some b->b.toNat < 128
theorem x4h {V:Fz} {K:List Res} {w:World} {t:Bs} {i:Nat} (c:AscB t) (f:t.size<=1000000) (d:i<=t.size) (N:Mem V K w) :
  Calls Tryz.prog 175 #[.string (t.extract i t.size),.string ⟨#[32,10,40,41]⟩] w (fun ee w'=>ee=.returned (.int .i64 (if i+yZ t i < t.size then ((yZ t i:Nat):Int) else -1))/\Mem V K w'):=by
 have g:=ByteArray.size_extract (a:=t) (b:=i) (e:=t.size)
 refine (Tryz.strings_IndexAny_laid (t.extract i t.size) ⟨#[32,10,40,41]⟩ w (by omega) (by decide) (fun j b hb=>?_) (by
  intro j b hb
  have hl:(⟨#[32,10,40,41]⟩:Bs).data.toList=[32,10,40,41]:=rfl
  rw [hl] at hb
  have:=mgQ hb
  simp only [List.mem_cons,List.not_mem_nil,or_false] at this
  rcases this with rfl | rfl | rfl | rfl <;> decide)).mono fun e w' J=>?_
 ·have h1:=q9c hb
  rw [y4a h1] at hb
  refine c (i+j) b ?_
  rw [<- hb,Array.getElem?_toList]
  exact Array.getElem?_eq_getElem h1
 ·obtain ⟨rfl,hb⟩:=J
  refine ⟨?_,N.below hb⟩
  rw [<- j9y d]
theorem v0a {t:Bs} {i:Nat} (a:i<=t.size) (h:(if i+yZ t i < t.size then ((yZ t i:Nat):Int) else -1) < 0):i+yZ t i=t.size:=by
 have:=z1b a
 split at h <;> omega
theorem v0b {t:Bs} {i:Nat} (h:¬(if i+yZ t i < t.size then ((yZ t i:Nat):Int) else -1) < 0):(if i+yZ t i < t.size then ((yZ t i:Nat):Int) else -1)=((yZ t i:Nat):Int):=by
 split at h
 ·rename_i h1;rw [if_pos h1]
 ·omega
theorem q3b {t:Bs} {f i:Nat} (h:¬i < t.size):kS t f i=[]:=by cases f with
 | zero=>rfl
 | succ f=>rw [kS,if_neg h]
theorem j2k {t:Bs} {f i:Nat} (h:i < t.size) (a:t.size<=i+f) (hb:zH t i=32∨zH t i=10):kS t f i=kS t (f - 1) (i+1):=by
 obtain ⟨f,rfl⟩:∃k,f=k+1:=⟨f - 1,by omega⟩
 rw [kS,if_pos h,if_pos hb];rfl
theorem q3d {t:Bs} {f i:Nat} (h:i < t.size) (b:t.size<=i+f) (a:¬(zH t i=32∨zH t i=10)) (hb:zH t i=40∨zH t i=41):kS t f i=t.extract i (i+1)::kS t (f - 1) (i+1):=by
 obtain ⟨f,rfl⟩:∃k,f=k+1:=⟨f - 1,by omega⟩
 rw [kS,if_pos h,if_neg a,if_pos hb];rfl
theorem y7o {t:Bs} {f i:Nat} (h:i < t.size) (b:t.size<=i+f) (a:¬(zH t i=32∨zH t i=10)) (hb:¬(zH t i=40∨zH t i=41)):kS t f i=t.extract i (i+yZ t i)::kS t (f - 1) (i+yZ t i):=by
 obtain ⟨f,rfl⟩:∃k,f=k+1:=⟨f - 1,by omega⟩
 rw [kS,if_pos h,if_neg a,if_neg hb];rfl
theorem y1n {t:Bs} {i:Nat} (h:i < t.size) (a:¬(zH t i=32∨zH t i=10)) (hb:¬(zH t i=40∨zH t i=41)):0 < yZ t i:=by
 unfold yZ
 rw [vF,if_pos]
 ·omega
 ·refine ⟨h,?_⟩
  simp only [y6o]
  simp only [not_or] at a hb
  simp [a.1,a.2,hb.1,hb.2]
theorem tJ {t:Bs}:∀f i s,s∈kS t f i->s.size<=t.size
 | 0,i,s,h=>by cases h
 | f+1,i,s,h=>by
  have c:∀a b,(t.extract a b).size<=t.size:=fun a b=>by have:=ByteArray.size_extract (a:=t) (b:=a) (e:=b);omega
  simp only [kS] at h
  split at h
  ·split at h
   ·exact tJ f _ s h
   ·split at h
    ·rcases List.mem_cons.1 h with rfl | h
     ·exact c _ _
     ·exact tJ f _ s h
    ·rcases List.mem_cons.1 h with rfl | h
     ·exact c _ _
     ·exact tJ f _ s h
  ·cases h
theorem tI {t:Bs}:∀f i,(kS t f i).length<=f
 | 0,i=>by simp [kS]
 | f+1,i=>by
  simp only [kS]
  split
  ·split
   ·exact Nat.le_succ_of_le (tI f _)
   ·split
    ·simpa using tI f _
    ·simpa using tI f _
  ·simp
theorem x2l {ws:List Bs} {n:Nat} (h:∀s∈ws,s.size<=n) (j:Nat):(zD ws j).size<=n:=by
 unfold zD
 rw [List.getD_eq_getElem?_getD]
 cases a:ws[j]? with
 | none=>exact Nat.zero_le _
 | some x=>exact h _ (mgQ a)
section
variable {V:Fz} {K:List Res} {w:World}
theorem nH {r i:Nat} {rs:Value} {ws:List Bs} (rl:SliceOf RStr V 1 rs ws) (k:ws.length<=1000000) (m:i<=ws.length) (N:Mem V (.blk r (ob [rs,.int .i64 ((i:Nat):Int)] 208)::K) w) :
  Calls prog 179 #[.pointer (some ⟨r,0,none⟩)] w (fun ee w'=>ee=.returned (.string (zD ws i))/\Mem V (.blk r (ob [rs,.int .i64 ((i:Nat):Int)] 208)::K) w'):=by
 obtain ⟨pw,cw,rfl,j,d⟩:=rl.fm
 refine zK func179 ntmps179 fun Q hQ a J=>?_
 refine Reg [1,1,1,2,1,1,1,2,1,1] [0] fun w N a J=>?_
 by_cases f:i < ws.length
 refine Reg [1,1,1,2,1,1,1,2,1,2,1] [0] fun w N a J=>?_
 refine go fun a J=>?_
 obtain ⟨n,rfl,l,e,c,h,g,b⟩:=rl.el d f
 obtain rfl:c=[.string l]:=b
 refine zF ?_
 rw [xB e];exact ⟨rfl,N⟩
 refine zF ?_
 rw [x8e f];exact ⟨rfl,N⟩
theorem uP {r i:Nat} {rs:Value} {ws:List Bs} (rl:SliceOf RStr V 1 rs ws) (e:ws.length<=1000000) (f:i<=ws.length) (N:Mem V (.blk r (ob [rs,.int .i64 ((i:Nat):Int)] 208)::K) w) :
  Calls prog 130 #[.pointer (some ⟨r,0,none⟩)] w (fun ee w'=>ee=.panicked (aP (i+1))/\Mem V K w'):=by
 obtain ⟨pw,cw,rfl,c,d⟩:=rl.fm
 refine zK func130 ntmps130 fun Q hQ a J=>?_
 refine zX fun a J=>?_
 refine Qq (fun a J=>?_) (o:=by exact fun J O=>qU J rfl runUnderlying204 (by intro ms h;cases h))
 refine st0 J rfl rfl (kE J rfl (kH _) (fun a b=>hQ _ _ _ (qB b ?_)))
 replace N:=N.dl [0]
 exact ⟨rfl,N⟩
theorem y6g {r i:Nat} {rs:Value} {ws:List Bs} {g:Nat} {fs cs:List Value} {p:Bs->Bool} (k:∀args w,(callFunc g args).run prog w=.ok (.enter g args) w)
  (j:∀{w:World} (s:Bs),Mem V (.blk r (ob [rs,.int .i64 ((i:Nat):Int)] 208)::K) w->Calls prog g (fs++[Value.string s]++cs).toArray w (fun ee w'=>ee=.returned (.bool (p s))/\Mem V (.blk r (ob [rs,.int .i64 ((i:Nat):Int)] 208)::K) w')) (rl:SliceOf RStr V 1 rs ws) (d:ws.length<=1000000) (n:i<=ws.length) (N:Mem V (.blk r (ob [rs,.int .i64 ((i:Nat):Int)] 208)::K) w) :
  Calls prog 181 #[.pointer (some ⟨r,0,none⟩),.func (.func g) fs.toArray cs.toArray] w (fun ee w'=>Out (aC ws p i) (fun x=>ee=.returned (.string x.1)/\Mem V (.blk r (ob [rs,.int .i64 ((x.2:Nat):Int)] 208)::K) w') (fun c=>ee=.panicked (aP c)/\Mem V K w')):=by
 obtain ⟨pw,cw,rfl,l,m⟩:=rl.fm
 refine zK func181 ntmps181 fun Q hQ a J=>?_
 refine zO call179 (fun w N a J=>?_) (c:=nH (i:=i) rl d (by omega) N)
 by_cases e:(zD ws i)=(⟨#[]⟩:Bs)
 refine go fun a J=>?_
 refine st J rfl rfl rfl (oX J rfl call130 (uP (i:=i) rl d (by omega) N) (fun w N=>fun a f=>hQ _ _ _ (qB f ?_)))
 show Out (aC ws p i) _ _
 rw [x9l e];exact ⟨rfl,N⟩
 refine y2o k (fun b w N a J=>?_) (fun b w N a J=>?_) (c:=by exact j _ N)
 have h:=mP e
 refine Sto 0 fun w N a J=>?_
 refine zF ?_
 show Out (aC ws p i) _ _
 rw [y6x e b];exact ⟨rfl,N⟩
 refine go fun a J=>?_
 refine st J rfl rfl rfl (oX J rfl call130 (uP (i:=i) rl d (by omega) N) (fun w N=>fun a f=>hQ _ _ _ (qB f ?_)))
 show Out (aC ws p i) _ _
 rw [x3h b];exact ⟨rfl,N⟩
theorem x7u {b:Nat} {s x:Bs} (N:Mem V (.blk b (ob [.string x] 9)::K) w) :
  Calls prog 204 #[.string s,.pointer (some ⟨b,0,none⟩)] w (fun ee w'=>ee=.returned (.bool (decide (s=x)))/\Mem V (.blk b (ob [.string x] 9)::K) w'):=by
 refine zK func204 ntmps204 fun Q hQ a J=>?_
 refine Qq (fun a J=>?_) (o:=by exact fun J O=>z8a J rfl rfl)
 refine zF ?_
 exact ⟨rfl,N⟩
theorem pW {r i:Nat} {rs:Value} {ws:List Bs} {x:Bs} (rl:SliceOf RStr V 1 rs ws) (e:ws.length<=1000000) (l:i<=ws.length) (N:Mem V (.blk r (ob [rs,.int .i64 ((i:Nat):Int)] 208)::K) w) :
  Calls prog 177 #[.pointer (some ⟨r,0,none⟩),.string x] w (fun ee w'=>Out (pJ ws x i) (fun x=>ee=.returned (.tuple #[])/\Mem V (.blk r (ob [rs,.int .i64 ((x.2:Nat):Int)] 208)::K) w') (fun c=>ee=.panicked (aP c)/\Mem V K w')):=by
 obtain ⟨pw,cw,rfl,g,j⟩:=rl.fm
 refine zK func177 ntmps177 fun Q hQ a J=>?_
 refine Bx fun f w N a J=>?_
 replace N:=N.ar [] [1,1,1]
 refine jJ call181 (fun k w b N a J=>?_) (fun k w b N=>?_) (c:=y6g (p:=fun s=>decide (s=x)) (fs:=[]) (cs:=[.pointer (some ⟨f,0,none⟩)]) call204 (fun s N=>(x7u (N.pull (i:=1) rfl)).mono fun _ _ h=>⟨h.1,h.2.pull (i:=1) rfl⟩) (i:=i) rl e (by omega) N)
 have d:=xI b
 refine go fun a J=>?_
 replace N:=N.dl [1]
 refine hQ _ _ _ (dE J results177 ?_)
 show Out (pJ ws x i) _ _
 rw [x7v b];exact ⟨rfl,N⟩
 replace N:=N.dl [0]
 show Out (pJ ws x i) _ _
 rw [x2f b];exact ⟨rfl,N⟩
theorem tE {r i:Nat} {rs:Value} {ws:List Bs} (G:Glob V) (rl:SliceOf RStr V 1 rs ws) (e:ws.length<=1000000) (j:i<=ws.length) (N:Mem V (.blk r (ob [rs,.int .i64 ((i:Nat):Int)] 208)::K) w) :
  Calls prog 176 #[.pointer (some ⟨r,0,none⟩)] w (fun ee w'=>Out (z0t ws i) (fun x=>ee=.returned (.string x.1)/\Mem V (.blk r (ob [rs,.int .i64 ((x.2:Nat):Int)] 208)::K) w') (fun c=>ee=.panicked (aP c)/\Mem V K w')):=by
 obtain ⟨pw,cw,rfl,g,h⟩:=rl.fm
 refine zK func176 ntmps176 fun Q hQ a J=>?_
 refine jJ call181 (fun f w b N a J=>?_) (fun f w b N=>?_) (c:=y6g (p:=qL) (fs:=[]) (cs:=[]) call178 (fun s N=>nD G N) (i:=i) rl e (by omega) N)
 have d:=xI b
 refine zF ?_
 show Out (z0t ws i) _ _
 rw [show z0t ws i=.ok f from b];exact ⟨rfl,N⟩
 show Out (z0t ws i) _ _
 rw [show z0t ws i=_ from b];exact ⟨rfl,N⟩
theorem cW {r i:Nat} {rs:Value} {ws:List Bs} (G:Glob V) (rl:SliceOf RStr V 1 rs ws) (e:ws.length<=1000000) (j:i<=ws.length) (N:Mem V (.blk r (ob [rs,.int .i64 ((i:Nat):Int)] 208)::K) w) :
  Calls prog 129 #[.pointer (some ⟨r,0,none⟩)] w (fun ee w'=>Out (cV ws i) (fun x=>ee=.returned (.string x.1)/\Mem V (.blk r (ob [rs,.int .i64 ((x.2:Nat):Int)] 208)::K) w') (fun c=>ee=.panicked (aP c)/\Mem V K w')):=by
 obtain ⟨pw,cw,rfl,g,h⟩:=rl.fm
 refine zK func129 ntmps129 fun Q hQ a J=>?_
 refine jJ call181 (fun f w b N a J=>?_) (fun f w b N=>?_) (c:=y6g (p:=qO) (fs:=[]) (cs:=[]) call138 (fun s N=>uH G N) (i:=i) rl e (by omega) N)
 have d:=xI b
 refine zF ?_
 show Out (cV ws i) _ _
 rw [show cV ws i=.ok f from b];exact ⟨rfl,N⟩
 show Out (cV ws i) _ _
 rw [show cV ws i=_ from b];exact ⟨rfl,N⟩
theorem j4b {s:Bs} (O:s.size<=1000000) (G:Glob V) (N:Mem V K w) :
  Calls prog 205 #[.string s] w (fun ee w'=>∃y:Int,ee=.returned (.tuple #[.int .i64 y,.bool (z0e s).isSome])/\(∀v,z0e s=some v->y=v)/\Mem V K w'):=by
 refine zK func205 ntmps205 fun Q hQ a J=>?_
 refine go fun a J=>?_
 refine st J rfl rfl rfl (q0y J rfl call217 (j7f (by exact O) G N) (fun e w b N a J=>?_) (fun e f w b N a J=>?_))
 replace N:=N.nf
 refine Qq (fun a J=>?_) (o:=by exact fun J O=>cZ (v:=.bool true) J rfl rfl rfl (by kernel_rfl))
 refine zO call122 (fun w N a J=>?_) (c:=q5v (y2v b) G.tabs N)
 refine Qq (fun a J=>?_) (o:=by exact fun J O=>z8a J rfl rfl)
 refine xG ?_
 by_cases d:z2f e=s
 rw [x1n b d,decide_eq_true d];exact ⟨_,rfl,(fun v h=>by injection h),N⟩
 rw [intP_ne b d,decide_eq_false d];exact ⟨_,rfl,(fun v h=>by cases h),N⟩
 replace N:=N.nf
 refine Qq (fun a J=>?_) (o:=by exact fun J O=>cZ (v:=.bool false) J rfl rfl rfl (by kernel_rfl))
 refine xG ?_
 rw [x7f b];exact ⟨_,rfl,(fun v h=>by cases h),N⟩
end
theorem j8z {V:Fz} {K:List Res} {w:World} {r i:Nat} {rs:Value} {ws:List Bs} {d:Nat} (hd:d<=1000) (E:uW ws d) (G:Glob V) (rl:SliceOf RStr V 1 rs ws) (l0:ws.length<=1000000) (hi:i<=ws.length) (N:Mem V (.blk r (ob [rs,.int .i64 ((i:Nat):Int)] 208)::K) w) :
  Calls prog 218 #[.pointer (some ⟨r,0,none⟩),.int .i64 ((d+1:Nat):Int)] w (fun ee w'=>Out (z7t (zW ws d) i) (fun x=>∃y:Fz×Value,ee=.returned y.2/\(V.Le y.1/\SliceOf REx y.1 5 y.2 x.1)/\Mem y.1 (.blk r (ob [rs,.int .i64 ((x.2:Nat):Int)] 208)::K) w') (fun c=>ee=.panicked (aP c)/\Mem V K w')):=by
 obtain ⟨pw,cw,rfl,j0,k0⟩:=rl.fm
 refine zK func218 ntmps218 fun Q hQ a J=>?_
 refine Qq (fun a J=>?_) (o:=by exact fun J O=>xX ((d:Nat):Int) J rfl rfl (by rw [yD (by omega)];omega))
 refine vS call180 (fun v y4 w j z N a J=>?_) (fun v w j N=>?_) (c:=E G rl (i:=i) (by omega) N)
 obtain ⟨t0,d8⟩:=y4
 obtain ⟨m,b⟩:=z
 simp only at m b N J
 have A:=kF d _ _ j
 replace rl:=rl.up m
 replace G:=G.mono m
 replace N:=N.nf
 obtain ⟨m0,a0,n0,c21,rfl,F,f0,g0,I,S,L,T⟩:=REx.fm b
 refine Alc fun Z w N a J=>?_
 refine Sto 0 fun w N a J=>?_
 refine Reg [2,1,1,1,0,0,1] [0] fun w N a J=>?_
 refine Qq (fun a J=>?_) (o:=by exact fun J O=>xX ((d:Nat):Int) J rfl rfl (by rw [yD (by omega)];omega))
 replace N:=N.pl 1
 refine vS call180 (fun p D w f u N a J=>?_) (fun p w f N=>?_) (c:=E G rl (i:=v.2) (by omega) N)
 obtain ⟨Y,e0⟩:=D
 obtain ⟨g,e⟩:=u
 simp only at g e N J
 have B:=kF d _ _ f
 replace G:=G.mono g
 replace b:=b.up g
 replace N:=N.nf
 obtain ⟨o0,b0,p0,c0,rfl,H,h0,i0,M,U,P,W⟩:=REx.fm e
 refine qF fun r0 w N a J=>?_
 refine go fun a J=>?_
 have q:=N
 clear N
 obtain ⟨t,h,N,n⟩:=q.freezeRow (i:=0) rfl
 clear q
 replace G:=G.mono h
 replace b:=b.up h
 replace e:=e.up h
 replace N:=N.nf
 have l:SliceOf REx t 5 _ ([v.1,p.1]):=⟨_,n,(Chunks.two (k:=5) rfl b rfl e :)⟩
 obtain ⟨q0,d0,C,R,X⟩:=l.form (by decide)
 have s:=N
 clear N
 subst C
 have N:=s
 clear s
 replace N:=N.dl [1]
 refine zF ?_
 show Out (z7t (zW ws d) i) _ _
 rw [show z7t (zW ws d) i=.ok ([v.1,p.1],p.2) from (zC j).trans ((zC f).trans (rfl))]
 exact ⟨(t,_),rfl,⟨((m).trans g).trans h,l⟩,N⟩
 replace N:=N.dl [0]
 show Out (z7t (zW ws d) i) _ _
 rw [show z7t (zW ws d) i=.error _ from (zC j).trans (zQ f)]
 exact ⟨rfl,N.le (m)⟩
 show Out (z7t (zW ws d) i) _ _
 rw [show z7t (zW ws d) i=.error _ from zQ j]
 exact ⟨rfl,N.le (Fz.Le.refl _)⟩
theorem j1i {V:Fz} {K:List Res} {w:World} {r i:Nat} {rs:Value} {ws:List Bs} {m:Nat} {d:Nat} (hd:d<=1000) (hE:uW ws d) (G:Glob V) (rl:SliceOf RStr V 1 rs ws) (b0:ws.length<=1000000) (hi:i<=ws.length) (N:Mem V (.blk r (ob [rs,.int .i64 ((i:Nat):Int)] 208)::K) w) :
  Calls prog 219 #[.pointer (some ⟨r,0,none⟩),.int .i64 ((m:Nat):Int),.int .i64 ((d+1:Nat):Int)] w (fun ee w'=>Out (pC ws (zW ws d) (ws.length+1) m i) (fun x=>∃y:Fz×Value,ee=.returned y.2/\(V.Le y.1/\SliceOf REx y.1 5 y.2 x.1)/\Mem y.1 (.blk r (ob [rs,.int .i64 ((x.2:Nat):Int)] 208)::K) w') (fun c=>ee=.panicked (aP c)/\Mem V K w')):=by
 obtain ⟨pw,cw,rfl,G0,H0⟩:=rl.fm
 refine zK func219 ntmps219 fun Q hQ a J=>?_
 refine go fun a J=>?_
 replace N:=N.nilRow 66 5
 replace N:=N.nf
 refine zU (J.ks [0,1,2]) N (fun R mm a w=>∃(B:Fz) (j:Nat) (u:Value) (cs:List Value) (xs:List Ex) (f:Nat),mm=ws.length - j/\R B [(7,u)] [(0,.gs (u) 66 5 cs),(1,.blk r (ob [.slice pw ws.length cw,.int .i64 ((j:Nat):Int)] 208))] a w/\(V.Le B/\(Chunks (REx B) 5 cs xs/\xs.length<=j/\j<=ws.length/\xs.length+f=ws.length+1/\pC ws (zW ws d) (ws.length+1) m i=wP xs (pC ws (zW ws d) f (m - xs.length) j)))) (ws.length - i) ⟨V,i,.slice none 0 0,[],[],ws.length+1,rfl,⟨J.pk,N⟩,⟨Fz.Le.refl _,⟨rfl,Nat.zero_le _,hi,Nat.zero_add _,sO _⟩⟩⟩ ?_
 clear N J
 rintro mm a w ⟨B,j,u,cs,xs,f,S,⟨J,N⟩,I⟩ L6 P
 replace N:=N.nf
 obtain ⟨k,I⟩:=I
 replace rl:=rl.up k
 replace G:=G.mono k
 obtain ⟨hch,I0,hj,E0,s⟩:=I
 refine Qq (fun a J=>?_) (o:=by exact fun J O=>y7u 0 (xs.length) J O rfl rfl (hch.length) (by decide) runUnderlying63)
 refine go fun a J=>?_
 by_cases F:xs.length < m
 refine Qq (fun a J=>?_) (o:=by exact fun J O=>xX ((d:Nat):Int) J rfl rfl (by rw [yD (by omega)];omega))
 replace N:=N.pl 1
 refine vS call180 (fun e i0 w l L N a J=>?_) (fun e w l N=>?_) (c:=hE G rl (i:=j) (by omega) N)
 obtain ⟨T,y0⟩:=i0
 obtain ⟨b,t⟩:=L
 simp only at b t N J
 have Y:=kF d _ _ l
 replace rl:=rl.up b
 replace G:=G.mono b
 replace hch:=hch.mono fun _ _ h=>h.up b
 replace N:=N.nf
 obtain ⟨c0,c23,d0,W,rfl,l0,A0,B0,n0,s0,o0,t0⟩:=REx.fm t
 refine qF fun K0 w N a J=>?_
 refine qQ 2 rt_63 (fun g0 w N a J=>?_)
 refine go fun a J=>?_
 replace N:=N.ar [0] [1]
 refine P _ _ _ (by subst S;omega) ⟨(T),(e.2),(g0),((cs++[.int .i64 (e.1.kind),.int .i64 (e.1.num),.string e.1.name,.slice c0 e.1.args.length c23,.slice d0 e.1.arms.length W])),(xs++[e.1]),(f - 1),rfl,⟨J.pk,by exact N⟩,?_⟩
 refine ⟨(k).trans b,?_⟩
 exact ⟨hch.snoc rfl t,by simp only [laQ,lcQ,lnQ];omega,by omega,by simp only [laQ,lcQ,lnQ];omega,q1y s (by omega) (.inl F) l⟩
 replace N:=N.dl [0]
 show Out (pC ws (zW ws d) (ws.length+1) m i) _ _
 rw [show pC ws (zW ws d) (ws.length+1) m i=.error _ from q1x s (by omega) (.inl F) l]
 exact ⟨rfl,N.le (k)⟩
 replace N:=N.pl 1
 refine zO call179 (fun w N a J=>?_) (c:=nH (i:=j) rl b0 (by omega) N)
 by_cases H:(zD ws j)=(⟨#[41]⟩:Bs)
 refine go fun a J=>?_
 have C:=N
 clear N
 obtain ⟨E,p,N,A⟩:=C.freezeRow (i:=1) rfl
 clear C
 replace rl:=rl.up p
 replace G:=G.mono p
 replace hch:=hch.mono fun _ _ h=>h.up p
 replace N:=N.nf
 have z:SliceOf REx E 5 _ (xs):=⟨_,A,hch⟩
 obtain ⟨J0,c42,a0,p0,u0⟩:=z.form (by decide)
 have D:=N
 clear N
 subst a0
 have N:=D
 clear D
 refine zF ?_
 show Out (pC ws (zW ws d) (ws.length+1) m i) _ _
 rw [show pC ws (zW ws d) (ws.length+1) m i=.ok (xs,j) from x7n s (by omega) F H]
 exact ⟨(E,_),rfl,⟨(k).trans p,z⟩,N⟩
 refine Qq (fun a J=>?_) (o:=by exact fun J O=>xX ((d:Nat):Int) J rfl rfl (by rw [yD (by omega)];omega))
 refine vS call180 (fun g j0 w n M N a J=>?_) (fun g w n N=>?_) (c:=hE G rl (i:=j) (by omega) N)
 obtain ⟨U,z0⟩:=j0
 obtain ⟨q,v⟩:=M
 simp only at q v N J
 have Z:=kF d _ _ n
 replace G:=G.mono q
 replace hch:=hch.mono fun _ _ h=>h.up q
 replace N:=N.nf
 obtain ⟨e0,X,f0,c63,rfl,m0,C0,D0,q0,w0,r0,x0⟩:=REx.fm v
 refine qF fun L0 w N a J=>?_
 refine qQ 2 rt_63 (fun h0 w N a J=>?_)
 refine go fun a J=>?_
 replace N:=N.ar [0] [1]
 refine P _ _ _ (by subst S;omega) ⟨(U),(g.2),(h0),((cs++[.int .i64 (g.1.kind),.int .i64 (g.1.num),.string g.1.name,.slice e0 g.1.args.length X,.slice f0 g.1.arms.length c63])),(xs++[g.1]),(f - 1),rfl,⟨J.pk,by exact N⟩,?_⟩
 refine ⟨(k).trans q,?_⟩
 exact ⟨hch.snoc rfl v,by simp only [laQ,lcQ,lnQ];omega,by omega,by simp only [laQ,lcQ,lnQ];omega,q1y s (by omega) (.inr H) n⟩
 replace N:=N.dl [0]
 show Out (pC ws (zW ws d) (ws.length+1) m i) _ _
 rw [show pC ws (zW ws d) (ws.length+1) m i=.error _ from q1x s (by omega) (.inr H) n]
 exact ⟨rfl,N.le (k)⟩
theorem x8l {V:Fz} {K:List Res} {w:World} {r i:Nat} {rs:Value} {ws:List Bs} {d:Nat} (hd:d<=1000) (hE:uW ws d) (G:Glob V) (rl:SliceOf RStr V 1 rs ws) (v:ws.length<=1000000) (hi:i<=ws.length) (N:Mem V (.blk r (ob [rs,.int .i64 ((i:Nat):Int)] 208)::K) w) :
  Calls prog 206 #[.pointer (some ⟨r,0,none⟩),.int .i64 ((d+1:Nat):Int)] w (fun ee w'=>Out (qD ws (zW ws d) i) (fun x=>∃y:Fz×List Value,ee=.returned (.agg y.2.toArray)/\(V.Le y.1/\REx y.1 y.2 x.1)/\Mem y.1 (.blk r (ob [rs,.int .i64 ((x.2:Nat):Int)] 208)::K) w') (fun c=>ee=.panicked (aP c)/\Mem V K w')):=by
 obtain ⟨pw,cw,rfl,h4,i4⟩:=rl.fm
 refine zK func206 ntmps206 fun Q hQ a J=>?_
 refine Alc fun b2 w N a J=>?_
 replace N:=N.pl 1
 refine zO call179 (fun w N a J=>?_) (c:=nH (i:=i) rl v (by omega) N)
 refine goJ 10 fun a J=>?_
 refine sq fun L6 L2=>?_
 have u0:∀a w,(EnvR 125 [(0,.pointer (some ⟨r,0,none⟩)),(1,.int .i64 ((d+1:Nat):Int)),(4,.pointer (some ⟨b2,0,none⟩)),(5,.string (zD ws i)),(12,.string (zD ws i)),(13,.bool (z1j (zD ws i)))] [] a/\Mem V (.blk r (ob [.slice pw ws.length cw,.int .i64 ((i:Nat):Int)] 208)::.blk b2 (ob [.int .i64 ((0:Nat):Int),.int .i64 ((0:Nat):Int),.string ⟨#[]⟩,.slice none 0 0,.slice none 0 0] 66)::K) w/\(True))->L6 a w:=by
  clear N J
  rintro a w ⟨J,N,f4⟩
  apply L2
  generalize b:(z1j (zD ws i))=I2 at J
  cases I2
  by_cases s:(zD ws i)=(⟨#[108,101,116]⟩:Bs)
  have N0:=z0p s (by decide)
  refine Sto 0 fun w N a J=>?_
  refine jJ call129 (fun x1 w w0 N a J=>?_) (fun x1 w w0 N=>?_) (c:=cW G (i:=(i+1)) rl v (by omega) N)
  have z2:=xI w0
  refine vS call218 (fun y1 m3 w G0 L1 N a J=>?_) (fun y1 w G0 N=>?_) (c:=j8z hd hE G (i:=x1.2) rl v (by omega) N)
  obtain ⟨q2,b4⟩:=m3
  obtain ⟨J0,O0⟩:=L1
  simp only at J0 O0 N J
  have M2:=two_le G0
  replace rl:=rl.up J0
  replace G:=G.mono J0
  replace N:=N.nf
  obtain ⟨k4,Z3,rfl,Y2,I3⟩:=O0.fm
  refine zX fun a J=>?_
  refine Sto 1 fun w N a J=>?_
  refine go fun a J=>?_
  have g0:=N
  replace N:=N.dl [1]
  refine qG (N:=g0) ?_
  show Out (qD ws (zW ws d) i) _ _
  rw [show qD ws (zW ws d) i=.ok (.mk 6 0 x1.1 y1.1 [],y1.2) from (y4i b s).trans ((zC w0).trans ((zC G0).trans (rfl)))]
  exact ⟨(q2,_),rfl,⟨J0,REx.node O0⟩,N⟩
  replace N:=N.dl [0]
  show Out (qD ws (zW ws d) i) _ _
  rw [show qD ws (zW ws d) i=.error _ from (y4i b s).trans ((zC w0).trans (zQ G0))]
  exact ⟨rfl,N.le (Fz.Le.refl _)⟩
  replace N:=N.dl [0]
  show Out (qD ws (zW ws d) i) _ _
  rw [show qD ws (zW ws d) i=.error _ from (y4i b s).trans (zQ w0)]
  exact ⟨rfl,N.le (Fz.Le.refl _)⟩
  by_cases t:(zD ws i)=(⟨#[99,97,115,101]⟩:Bs)
  have N0:=z0p t (by decide)
  refine Sto 0 fun w N a J=>?_
  refine Qq (fun a J=>?_) (o:=by exact fun J O=>xX ((d:Nat):Int) J rfl rfl (by rw [yD (by omega)];omega))
  refine vS call180 (fun F0 n3 w n M1 N a J=>?_) (fun F0 w n N=>?_) (c:=hE G rl (i:=(i+1)) (by omega) N)
  obtain ⟨V3,c4⟩:=n3
  obtain ⟨p,l⟩:=M1
  simp only at p l N J
  have N2:=kF d _ _ n
  replace rl:=rl.up p
  replace G:=G.mono p
  replace N:=N.nf
  obtain ⟨l4,a4,m4,c53,rfl,D3,d4,e4,E3,J3,F3,K3⟩:=REx.fm l
  refine qF fun n4 w N a J=>?_
  have D:=N
  clear N
  obtain ⟨a1,q,N,c1⟩:=D.freezeRow (i:=0) rfl
  clear D
  replace rl:=rl.up q
  replace G:=G.mono q
  replace l:=l.up q
  replace N:=N.nf
  have e:SliceOf REx a1 5 _ ([F0.1]):=⟨_,c1,(Chunks.one rfl l)⟩
  obtain ⟨k3,c63,D0,G3,L3⟩:=e.form (by decide)
  have E:=N
  clear N
  subst D0
  have N:=E
  clear E
  refine zX fun a J=>?_
  refine Alc fun G2 w N a J=>?_
  refine Sto 0 fun w N a J=>?_
  refine go fun a J=>?_
  replace N:=N.nilRow 195 7
  replace N:=N.nf
  refine zU (J.ks [0,1,4,7]) N (fun R mm a w=>∃(f0:Fz) (j:Nat) (u:Value) (cs:List Value) (xs:List Arm) (f:Nat),mm=ws.length - j/\R f0 [] [(0,.gs (u) 195 7 cs),(1,.blk G2 (ob [.int .i64 ((7:Nat):Int),.int .i64 ((0:Nat):Int),.string ⟨#[]⟩,.slice k3 ([F0.1]).length c63,u] 66)),(2,.blk r (ob [.slice pw ws.length cw,.int .i64 ((j:Nat):Int)] 208))] a w/\(a1.Le f0/\(Chunks (RArm f0) 7 cs xs/\xs.length<=j/\j<=ws.length/\xs.length+f=ws.length+1/\sC ws (zW ws d) (ws.length+1) true F0.2=wP xs (sC ws (zW ws d) f (decide (xs.length=0)) j)))) (ws.length - F0.2) ⟨a1,F0.2,.slice none 0 0,[],[],ws.length+1,rfl,⟨J.pk,N⟩,⟨Fz.Le.refl _,⟨rfl,Nat.zero_le _,by omega,Nat.zero_add _,sO _⟩⟩⟩ ?_
  clear N J
  rintro mm a w ⟨f0,j,u,cs,xs,f,K0,⟨J,N⟩,M0⟩ X3 l1
  replace N:=N.nf
  obtain ⟨g,M0⟩:=M0
  replace rl:=rl.up g
  replace G:=G.mono g
  replace l:=l.up g
  replace e:=e.up g
  obtain ⟨hch,j4,hj,g4,I⟩:=M0
  refine Qq (fun a J=>?_) (o:=by exact fun J O=>y7u 0 (xs.length) J O rfl rfl (hch.length) (by decide) runUnderlying64)
  by_cases t0:xs.length=0
  replace N:=N.pl 2
  refine jJ call177 (fun e2 w L N a J=>?_) (fun e2 w L N=>?_) (c:=pW (x:=(⟨#[40]⟩:Bs)) (i:=j) rl v (by omega) N)
  have A2:=pV L
  refine jJ call176 (fun s0 w Y N a J=>?_) (fun s0 w Y N=>?_) (c:=tE G (i:=e2.2) rl v (by omega) N)
  have B2:=xI Y
  refine zX fun a J=>?_
  refine Alc fun H2 w N a J=>?_
  refine Sto 0 fun w N a J=>?_
  refine go fun a J=>?_
  replace N:=N.nilRow 9 1
  replace N:=N.nf
  refine zU (J.ks [0,1,4,7,8]) N (fun R mm a w=>∃(j2:Nat) (u2:Value) (vs:List Bs) (f2:Nat),mm=ws.length - j2/\R f0 [] [(0,.gs (u2) 9 1 (strs vs)),(1,.blk H2 (ob [.string s0.1,u2,.int .i64 ((0:Nat):Int),.int .i64 ((0:Nat):Int),.string ⟨#[]⟩,.slice none 0 0,.slice none 0 0] 195)),(2,.blk r (ob [.slice pw ws.length cw,.int .i64 ((j2:Nat):Int)] 208))] a w/\(vs.length<=j2/\j < j2/\j2<=ws.length/\vs.length+f2=ws.length+1/\oA ws (ws.length+1) s0.2=wP vs (oA ws f2 j2))) (ws.length - s0.2) ⟨s0.2,.slice none 0 0,[],ws.length+1,rfl,⟨J.pk,N⟩,⟨Nat.zero_le _,by omega,by omega,Nat.zero_add _,sO _⟩⟩ ?_
  clear N J
  rintro mm a w ⟨j2,u2,vs,f2,K0,⟨J,N⟩,N1⟩ Y3 O1
  replace N:=N.nf
  obtain ⟨j3,Q2,R2,P1,x0⟩:=N1
  replace N:=N.pl 2
  refine zO call179 (fun w N a J=>?_) (c:=nH (i:=j2) rl v (by omega) N)
  by_cases o1:(zD ws j2)=(⟨#[45,62]⟩:Bs)
  refine go fun a J=>?_
  have D:=N
  clear N
  obtain ⟨r2,M,N,d1⟩:=D.freezeRow (i:=1) rfl
  clear D
  replace rl:=rl.up M
  replace G:=G.mono M
  replace l:=l.up M
  replace e:=e.up M
  replace hch:=hch.mono fun _ _ h=>h.up M
  replace N:=N.nf
  have o0:SliceOf RStr r2 1 _ (vs):=SliceOf.strs.2 d1
  obtain ⟨l3,J2,D0,H3,M3⟩:=o0.form (by decide)
  have E:=N
  clear N
  subst D0
  have N:=E
  clear E
  have I0:=j2b x0 (by omega) o1
  refine jJ call177 (fun g2 w e0 N a J=>?_) (fun g2 w e0 N=>?_) (c:=pW (x:=(⟨#[45,62]⟩:Bs)) (i:=j2) rl v (by omega) N)
  have C2:=pV e0
  refine Qq (fun a J=>?_) (o:=by exact fun J O=>xX ((d:Nat):Int) J rfl rfl (by rw [yD (by omega)];omega))
  refine vS call180 (fun P l2 w a0 q1 N a J=>?_) (fun P w a0 N=>?_) (c:=hE G rl (i:=g2.2) (by omega) N)
  obtain ⟨A1,u3⟩:=l2
  obtain ⟨A,y0⟩:=q1
  simp only at A y0 N J
  have t2:=kF d _ _ a0
  replace rl:=rl.up A
  replace G:=G.mono A
  replace l:=l.up A
  replace e:=e.up A
  replace hch:=hch.mono fun _ _ h=>h.up A
  replace o0:=o0.up A
  replace N:=N.nf
  obtain ⟨Y1,H1,Z1,I1,rfl,O2,z3,A3,S2,Z2,T2,a3⟩:=REx.fm y0
  refine Sto 1 fun w N a J=>?_
  refine jJ call177 (fun R0 w h0 N a J=>?_) (fun R0 w h0 N=>?_) (c:=pW (x:=(⟨#[41]⟩:Bs)) (i:=P.2) rl v (by omega) N)
  have Q1:=pV h0
  refine qF fun R3 w N a J=>?_
  refine qQ 3 rt_64 (fun v127 w N a J=>?_)
  refine Sto 4 fun w N a J=>?_
  refine go fun a J=>?_
  replace N:=N.ar [2,0] [3,1,3,3]
  refine l1 _ _ _ (by subst K0;omega) ⟨(A1),(R0.2),(v127),((cs++[.string s0.1,.slice l3 (vs).length J2,.int .i64 (P.1.kind),.int .i64 (P.1.num),.string P.1.name,.slice Y1 P.1.args.length H1,.slice Z1 P.1.arms.length I1])),(xs++[.mk s0.1 vs P.1]),(f - 1),rfl,⟨J.pk,by exact N⟩,?_⟩
  refine ⟨((g).trans M).trans A,?_⟩
  exact ⟨hch.snoc (k:=7) rfl (RArm.of o0 y0 (c:=s0.1)),by simp only [laQ,lcQ,lnQ];omega,by omega,by simp only [laQ,lcQ,lnQ];omega,q0b (x:=(.mk s0.1 vs P.1,R0.2)) I (by omega) (.inl t0) ((zC L).trans ((zC Y).trans ((zC I0).trans ((zC e0).trans ((zC a0).trans ((zC h0).trans (rfl)))))))⟩
  replace N:=N.dl [3,2,1,0]
  show Out (qD ws (zW ws d) i) _ _
  rw [show qD ws (zW ws d) i=.error _ from (vT b s t).trans ((zC n).trans (zQ (kU I (by omega) (.inl t0) ((zC L).trans ((zC Y).trans ((zC I0).trans ((zC e0).trans ((zC a0).trans (zQ h0)))))))))]
  exact ⟨rfl,N.le (((((p).trans q).trans g).trans M).trans A)⟩
  replace N:=N.dl [3,2,1,0]
  show Out (qD ws (zW ws d) i) _ _
  rw [show qD ws (zW ws d) i=.error _ from (vT b s t).trans ((zC n).trans (zQ (kU I (by omega) (.inl t0) ((zC L).trans ((zC Y).trans ((zC I0).trans ((zC e0).trans (zQ a0))))))))]
  exact ⟨rfl,N.le ((((p).trans q).trans g).trans M)⟩
  replace N:=N.dl [3,2,1,0]
  show Out (qD ws (zW ws d) i) _ _
  rw [show qD ws (zW ws d) i=.error _ from (vT b s t).trans ((zC n).trans (zQ (kU I (by omega) (.inl t0) ((zC L).trans ((zC Y).trans ((zC I0).trans (zQ e0)))))))]
  exact ⟨rfl,N.le ((((p).trans q).trans g).trans M)⟩
  refine Reg [1,2,1,0,0,0,1,0] [2,3,4,5] fun w N a J=>?_
  refine jJ call129 (fun S0 w i0 N a J=>?_) (fun S0 w i0 N=>?_) (c:=cW G (i:=j2) rl v (by omega) N)
  have R1:=xI i0
  refine qF fun S3 w N a J=>?_
  refine qQ 2 wT (fun h2 w N a J=>?_) (hb:=by simp [yG];omega)
  refine Sto 3 fun w N a J=>?_
  refine go fun a J=>?_
  first | rw [jS] at N | rw [<- yW] at N
  replace N:=N.ar [0] [5,5,5,3,5,5]
  refine O1 _ _ _ (by subst K0;omega) ⟨(S0.2),(h2),(vs++[S0.1]),(f2 - 1),rfl,⟨J.pk,by exact N⟩,?_⟩
  exact ⟨by simp only [laQ,lcQ,lnQ];omega,by omega,by omega,by simp only [laQ,lcQ,lnQ];omega,q2x x0 (by omega) o1 i0⟩
  replace N:=N.dl [4,3,2,1,0]
  show Out (qD ws (zW ws d) i) _ _
  rw [show qD ws (zW ws d) i=.error _ from (vT b s t).trans ((zC n).trans (zQ (kU I (by omega) (.inl t0) ((zC L).trans ((zC Y).trans (zQ (q2w x0 (by omega) o1 i0)))))))]
  exact ⟨rfl,N.le (((p).trans q).trans g)⟩
  replace N:=N.dl [2,1,0]
  show Out (qD ws (zW ws d) i) _ _
  rw [show qD ws (zW ws d) i=.error _ from (vT b s t).trans ((zC n).trans (zQ (kU I (by omega) (.inl t0) ((zC L).trans (zQ Y)))))]
  exact ⟨rfl,N.le (((p).trans q).trans g)⟩
  replace N:=N.dl [2,1,0]
  show Out (qD ws (zW ws d) i) _ _
  rw [show qD ws (zW ws d) i=.error _ from (vT b s t).trans ((zC n).trans (zQ (kU I (by omega) (.inl t0) (zQ L))))]
  exact ⟨rfl,N.le (((p).trans q).trans g)⟩
  replace N:=N.pl 2
  refine zO call179 (fun w N a J=>?_) (c:=nH (i:=j) rl v (by omega) N)
  by_cases X:(zD ws j)=(⟨#[40]⟩:Bs)
  refine jJ call177 (fun m1 w z N a J=>?_) (fun m1 w z N=>?_) (c:=pW (x:=(⟨#[40]⟩:Bs)) (i:=j) rl v (by omega) N)
  have S1:=pV z
  refine jJ call176 (fun S w F N a J=>?_) (fun S w F N=>?_) (c:=tE G (i:=m1.2) rl v (by omega) N)
  have T1:=xI F
  refine zX fun a J=>?_
  refine Alc fun G1 w N a J=>?_
  refine Sto 0 fun w N a J=>?_
  refine go fun a J=>?_
  replace N:=N.nilRow 9 1
  replace N:=N.nf
  refine zU (J.ks [0,1,4,7,8]) N (fun R mm a w=>∃(j2:Nat) (u2:Value) (vs:List Bs) (f2:Nat),mm=ws.length - j2/\R f0 [] [(0,.gs (u2) 9 1 (strs vs)),(1,.blk G1 (ob [.string S.1,u2,.int .i64 ((0:Nat):Int),.int .i64 ((0:Nat):Int),.string ⟨#[]⟩,.slice none 0 0,.slice none 0 0] 195)),(2,.blk r (ob [.slice pw ws.length cw,.int .i64 ((j2:Nat):Int)] 208))] a w/\(vs.length<=j2/\j < j2/\j2<=ws.length/\vs.length+f2=ws.length+1/\oA ws (ws.length+1) S.2=wP vs (oA ws f2 j2))) (ws.length - S.2) ⟨S.2,.slice none 0 0,[],ws.length+1,rfl,⟨J.pk,N⟩,⟨Nat.zero_le _,by omega,by omega,Nat.zero_add _,sO _⟩⟩ ?_
  clear N J
  rintro mm a w ⟨j2,u2,vs,f2,K0,⟨J,N⟩,v1⟩ o3 w1
  replace N:=N.nf
  obtain ⟨j3,Q2,R2,P1,x0⟩:=v1
  replace N:=N.pl 2
  refine zO call179 (fun w N a J=>?_) (c:=nH (i:=j2) rl v (by omega) N)
  by_cases L0:(zD ws j2)=(⟨#[45,62]⟩:Bs)
  refine go fun a J=>?_
  have D:=N
  clear N
  obtain ⟨B1,B,N,P0⟩:=D.freezeRow (i:=1) rfl
  clear D
  replace rl:=rl.up B
  replace G:=G.mono B
  replace l:=l.up B
  replace e:=e.up B
  replace hch:=hch.mono fun _ _ h=>h.up B
  replace N:=N.nf
  have Z:SliceOf RStr B1 1 _ (vs):=SliceOf.strs.2 P0
  obtain ⟨a2,J1,D0,U2,b3⟩:=Z.form (by decide)
  have E:=N
  clear N
  subst D0
  have N:=E
  clear E
  have p0:=j2b x0 (by omega) L0
  refine jJ call177 (fun n1 w U N a J=>?_) (fun n1 w U N=>?_) (c:=pW (x:=(⟨#[45,62]⟩:Bs)) (i:=j2) rl v (by omega) N)
  have U1:=pV U
  refine Qq (fun a J=>?_) (o:=by exact fun J O=>xX ((d:Nat):Int) J rfl rfl (by rw [yD (by omega)];omega))
  refine vS call180 (fun T m2 w b0 r1 N a J=>?_) (fun T w b0 N=>?_) (c:=hE G rl (i:=n1.2) (by omega) N)
  obtain ⟨C1,v3⟩:=m2
  obtain ⟨C,z0⟩:=r1
  simp only at C z0 N J
  have v2:=kF d _ _ b0
  replace rl:=rl.up C
  replace G:=G.mono C
  replace l:=l.up C
  replace e:=e.up C
  replace hch:=hch.mono fun _ _ h=>h.up C
  replace Z:=Z.up C
  replace N:=N.nf
  obtain ⟨c2,c171,d2,K1,rfl,P2,B3,C3,V2,d3,W2,e3⟩:=REx.fm z0
  refine Sto 1 fun w N a J=>?_
  refine jJ call177 (fun T0 w j0 N a J=>?_) (fun T0 w j0 N=>?_) (c:=pW (x:=(⟨#[41]⟩:Bs)) (i:=T.2) rl v (by omega) N)
  have V1:=pV j0
  refine qF fun T3 w N a J=>?_
  refine qQ 3 rt_64 (fun i2 w N a J=>?_)
  refine Sto 4 fun w N a J=>?_
  refine go fun a J=>?_
  replace N:=N.ar [2,0] [3,1,3,3]
  refine l1 _ _ _ (by subst K0;omega) ⟨(C1),(T0.2),(i2),((cs++[.string S.1,.slice a2 (vs).length J1,.int .i64 (T.1.kind),.int .i64 (T.1.num),.string T.1.name,.slice c2 T.1.args.length c171,.slice d2 T.1.arms.length K1])),(xs++[.mk S.1 vs T.1]),(f - 1),rfl,⟨J.pk,by exact N⟩,?_⟩
  refine ⟨((g).trans B).trans C,?_⟩
  exact ⟨hch.snoc (k:=7) rfl (RArm.of Z z0 (c:=S.1)),by simp only [laQ,lcQ,lnQ];omega,by omega,by simp only [laQ,lcQ,lnQ];omega,q0b (x:=(.mk S.1 vs T.1,T0.2)) I (by omega) (.inr X) ((zC z).trans ((zC F).trans ((zC p0).trans ((zC U).trans ((zC b0).trans ((zC j0).trans (rfl)))))))⟩
  replace N:=N.dl [3,2,1,0]
  show Out (qD ws (zW ws d) i) _ _
  rw [show qD ws (zW ws d) i=.error _ from (vT b s t).trans ((zC n).trans (zQ (kU I (by omega) (.inr X) ((zC z).trans ((zC F).trans ((zC p0).trans ((zC U).trans ((zC b0).trans (zQ j0)))))))))]
  exact ⟨rfl,N.le (((((p).trans q).trans g).trans B).trans C)⟩
  replace N:=N.dl [3,2,1,0]
  show Out (qD ws (zW ws d) i) _ _
  rw [show qD ws (zW ws d) i=.error _ from (vT b s t).trans ((zC n).trans (zQ (kU I (by omega) (.inr X) ((zC z).trans ((zC F).trans ((zC p0).trans ((zC U).trans (zQ b0))))))))]
  exact ⟨rfl,N.le ((((p).trans q).trans g).trans B)⟩
  replace N:=N.dl [3,2,1,0]
  show Out (qD ws (zW ws d) i) _ _
  rw [show qD ws (zW ws d) i=.error _ from (vT b s t).trans ((zC n).trans (zQ (kU I (by omega) (.inr X) ((zC z).trans ((zC F).trans ((zC p0).trans (zQ U)))))))]
  exact ⟨rfl,N.le ((((p).trans q).trans g).trans B)⟩
  refine Reg [1,2,1,0,0,0,1,0] [2,3,4,5] fun w N a J=>?_
  refine jJ call129 (fun U0 w k0 N a J=>?_) (fun U0 w k0 N=>?_) (c:=cW G (i:=j2) rl v (by omega) N)
  have W1:=xI k0
  refine qF fun U3 w N a J=>?_
  refine qQ 2 wT (fun k2 w N a J=>?_) (hb:=by simp [yG];omega)
  refine Sto 3 fun w N a J=>?_
  refine go fun a J=>?_
  first | rw [jS] at N | rw [<- yW] at N
  replace N:=N.ar [0] [5,5,5,3,5,5]
  refine w1 _ _ _ (by subst K0;omega) ⟨(U0.2),(k2),(vs++[U0.1]),(f2 - 1),rfl,⟨J.pk,by exact N⟩,?_⟩
  exact ⟨by simp only [laQ,lcQ,lnQ];omega,by omega,by omega,by simp only [laQ,lcQ,lnQ];omega,q2x x0 (by omega) L0 k0⟩
  replace N:=N.dl [4,3,2,1,0]
  show Out (qD ws (zW ws d) i) _ _
  rw [show qD ws (zW ws d) i=.error _ from (vT b s t).trans ((zC n).trans (zQ (kU I (by omega) (.inr X) ((zC z).trans ((zC F).trans (zQ (q2w x0 (by omega) L0 k0)))))))]
  exact ⟨rfl,N.le (((p).trans q).trans g)⟩
  replace N:=N.dl [2,1,0]
  show Out (qD ws (zW ws d) i) _ _
  rw [show qD ws (zW ws d) i=.error _ from (vT b s t).trans ((zC n).trans (zQ (kU I (by omega) (.inr X) ((zC z).trans (zQ F)))))]
  exact ⟨rfl,N.le (((p).trans q).trans g)⟩
  replace N:=N.dl [2,1,0]
  show Out (qD ws (zW ws d) i) _ _
  rw [show qD ws (zW ws d) i=.error _ from (vT b s t).trans ((zC n).trans (zQ (kU I (by omega) (.inr X) (zQ z))))]
  exact ⟨rfl,N.le (((p).trans q).trans g)⟩
  refine go fun a J=>?_
  have D:=N
  clear N
  obtain ⟨Z0,W,N,Q0⟩:=D.freezeRow (i:=1) rfl
  clear D
  replace rl:=rl.up W
  replace G:=G.mono W
  replace l:=l.up W
  replace e:=e.up W
  replace hch:=hch.mono fun _ _ h=>h.up W
  replace N:=N.nf
  have H0:SliceOf RArm Z0 7 _ (xs):=⟨_,Q0,hch⟩
  obtain ⟨N3,q3,D0,X2,f3⟩:=H0.form (by decide)
  have E:=N
  clear N
  subst D0
  have N:=E
  clear E
  have K2:=x4m I (by omega) t0 X
  refine Sto 2 fun w N a J=>?_
  refine go fun a J=>?_
  have g0:=N
  replace N:=N.dl [2,1]
  refine qG (N:=g0) ?_
  show Out (qD ws (zW ws d) i) _ _
  rw [show qD ws (zW ws d) i=.ok (.mk 7 0 ⟨#[]⟩ [F0.1] xs,j) from (vT b s t).trans ((zC n).trans ((zC K2).trans rfl))]
  exact ⟨(Z0,_),rfl,⟨(((p).trans q).trans g).trans W,REx.full e H0⟩,N⟩
  replace N:=N.dl [0]
  show Out (qD ws (zW ws d) i) _ _
  rw [show qD ws (zW ws d) i=.error _ from (vT b s t).trans (zQ n)]
  exact ⟨rfl,N.le (Fz.Le.refl _)⟩
  refine zZ call178 (fun H w N a J=>?_) (fun H w N a J=>?_) (c:=nD G N)
  have N0:=x7i H
  refine Sto 0 fun w N a J=>?_
  refine vS call219 (fun V0 n2 w l0 s1 N a J=>?_) (fun V0 w l0 N=>?_) (c:=j1i (m:=1) hd hE G (i:=(i+1)) rl v (by omega) N)
  obtain ⟨D1,w3⟩:=n2
  obtain ⟨q0,A0⟩:=s1
  simp only at q0 A0 N J
  have w2:=j8l (by omega) l0
  replace rl:=rl.up q0
  replace G:=G.mono q0
  replace N:=N.nf
  obtain ⟨O3,r3,rfl,D2,g3⟩:=A0.fm
  refine zX fun a J=>?_
  refine Sto 1 fun w N a J=>?_
  refine go fun a J=>?_
  have g0:=N
  replace N:=N.dl [1]
  refine qG (N:=g0) ?_
  show Out (qD ws (zW ws d) i) _ _
  rw [show qD ws (zW ws d) i=.ok (.mk 4 0 (zD ws i) V0.1 [],V0.2) from (q9h b s t H).trans ((zC l0).trans (rfl))]
  exact ⟨(D1,_),rfl,⟨q0,REx.node A0⟩,N⟩
  replace N:=N.dl [0]
  show Out (qD ws (zW ws d) i) _ _
  rw [show qD ws (zW ws d) i=.error _ from (q9h b s t H).trans (zQ l0)]
  exact ⟨rfl,N.le (Fz.Le.refl _)⟩
  refine jJ call129 (fun W0 w c0 N a J=>?_) (fun W0 w c0 N=>?_) (c:=cW G (i:=i) rl v (by omega) N)
  have X1:=xI c0
  refine vS call219 (fun X0 o2 w m0 t1 N a J=>?_) (fun X0 w m0 N=>?_) (c:=j1i (m:=0) hd hE G (i:=W0.2) rl v (by omega) N)
  obtain ⟨E1,x3⟩:=o2
  obtain ⟨r0,B0⟩:=t1
  simp only at r0 B0 N J
  have x2:=j8l (by omega) m0
  replace rl:=rl.up r0
  replace G:=G.mono r0
  replace N:=N.nf
  obtain ⟨P3,s3,rfl,E2,h3⟩:=B0.fm
  refine zX fun a J=>?_
  refine Sto 1 fun w N a J=>?_
  refine go fun a J=>?_
  have g0:=N
  replace N:=N.dl [1]
  refine qG (N:=g0) ?_
  show Out (qD ws (zW ws d) i) _ _
  rw [show qD ws (zW ws d) i=.ok (.mk 5 0 W0.1 X0.1 [],X0.2) from (z9a b s t H).trans ((zC c0).trans ((zC m0).trans (rfl)))]
  exact ⟨(E1,_),rfl,⟨r0,REx.node B0⟩,N⟩
  replace N:=N.dl [0]
  show Out (qD ws (zW ws d) i) _ _
  rw [show qD ws (zW ws d) i=.error _ from (z9a b s t H).trans ((zC c0).trans (zQ m0))]
  exact ⟨rfl,N.le (Fz.Le.refl _)⟩
  replace N:=N.dl [0]
  show Out (qD ws (zW ws d) i) _ _
  rw [show qD ws (zW ws d) i=.error _ from (z9a b s t H).trans (zQ c0)]
  exact ⟨rfl,N.le (Fz.Le.refl _)⟩
  have N0:=isOp_lt b
  refine Sto 0 fun w N a J=>?_
  refine vS call218 (fun Y0 p2 w n0 u1 N a J=>?_) (fun Y0 w n0 N=>?_) (c:=j8z hd hE G (i:=(i+1)) rl v (by omega) N)
  obtain ⟨F1,y3⟩:=p2
  obtain ⟨E0,C0⟩:=u1
  simp only at E0 C0 N J
  have y2:=two_le n0
  replace G:=G.mono E0
  replace N:=N.nf
  obtain ⟨Q3,t3,rfl,F2,i3⟩:=C0.fm
  refine zX fun a J=>?_
  refine Sto 1 fun w N a J=>?_
  refine go fun a J=>?_
  have g0:=N
  replace N:=N.dl [1]
  refine qG (N:=g0) ?_
  show Out (qD ws (zW ws d) i) _ _
  rw [show qD ws (zW ws d) i=.ok (.mk 8 0 (zD ws i) Y0.1 [],Y0.2) from (j7t b).trans ((zC n0).trans (rfl))]
  exact ⟨(F1,_),rfl,⟨E0,REx.node C0⟩,N⟩
  replace N:=N.dl [0]
  show Out (qD ws (zW ws d) i) _ _
  rw [show qD ws (zW ws d) i=.error _ from (j7t b).trans (zQ n0)]
  exact ⟨rfl,N.le (Fz.Le.refl _)⟩
 by_cases e1:(zD ws i)=(⟨#[43]⟩:Bs)
 refine go fun a J=>?_
 exact u0 _ _ (by rw [sK (.inl e1)];exact ⟨J.pk,N,trivial⟩)
 by_cases f1:(zD ws i)=(⟨#[45]⟩:Bs)
 refine go fun a J=>?_
 exact u0 _ _ (by rw [sK (.inr (.inl f1))];exact ⟨J.pk,N,trivial⟩)
 by_cases g1:(zD ws i)=(⟨#[42]⟩:Bs)
 refine go fun a J=>?_
 exact u0 _ _ (by rw [sK (.inr (.inr (.inl g1)))];exact ⟨J.pk,N,trivial⟩)
 refine go fun a J=>?_
 by_cases h1:(zD ws i)=(⟨#[47]⟩:Bs)
 refine go fun a J=>?_
 exact u0 _ _ (by rw [sK (.inr (.inr (.inr (.inl h1))))];exact ⟨J.pk,N,trivial⟩)
 by_cases i1:(zD ws i)=(⟨#[37]⟩:Bs)
 refine go fun a J=>?_
 exact u0 _ _ (by rw [sK (.inr (.inr (.inr (.inr (.inl i1)))))];exact ⟨J.pk,N,trivial⟩)
 by_cases j1:(zD ws i)=(⟨#[60]⟩:Bs)
 refine go fun a J=>?_
 exact u0 _ _ (by rw [sK (.inr (.inr (.inr (.inr (.inr (.inl j1))))))];exact ⟨J.pk,N,trivial⟩)
 by_cases k1:(zD ws i)=(⟨#[61]⟩:Bs)
 refine go fun a J=>?_
 exact u0 _ _ (by rw [sK (.inr (.inr (.inr (.inr (.inr (.inr k1))))))];exact ⟨J.pk,N,trivial⟩)
 refine go fun a J=>?_
 exact u0 _ _ (by rw [isOp_no e1 f1 g1 h1 i1 j1 k1];exact ⟨J.pk,N,trivial⟩)
theorem j5u {ws:List Bs} (b:ws.length<=1000000):uW ws 0:=by
 intro V K w r i rs G rl j N
 obtain ⟨pw,cw,rfl,e,f⟩:=rl.fm
 refine zK func180 ntmps180 fun Q hQ a J=>?_
 refine Alc fun g w N a J=>?_
 replace N:=N.pl 1
 refine zO call179 (fun w N a J=>?_) (c:=nH (i:=i) rl b (by omega) N)
 by_cases h:(zD ws i)=(⟨#[]⟩:Bs)
 refine go fun a J=>?_
 refine st J rfl rfl rfl (oX J rfl call130 (uP (i:=i) rl b (by omega) N) (fun w N=>fun a d=>hQ _ _ _ (qB d ?_)))
 replace N:=N.dl [0]
 show Out (zW ws 0 i) _ _
 rw [q1b];exact ⟨rfl,N⟩
 refine Qq (fun a J=>?_) (o:=by exact fun J O=>jU true J rfl rfl rfl)
 refine go fun a J=>?_
 refine st J rfl rfl rfl (oX J rfl call130 (uP (i:=i) rl b (by omega) N) (fun w N=>fun a d=>hQ _ _ _ (qB d ?_)))
 replace N:=N.dl [0]
 show Out (zW ws 0 i) _ _
 rw [q1b];exact ⟨rfl,N⟩
theorem j5t {ws:List Bs} {d:Nat} (U:d<=1000) (n:ws.length<=1000000) (X:∀j,(zD ws j).size<=1000000) (hE:uW ws d):uW ws (d+1):=by
 intro V K w r i rs G rl hi N
 obtain ⟨pw,cw,rfl,m0,n0⟩:=rl.fm
 have Z:¬d+1=0:=by omega
 refine zK func180 ntmps180 fun Q hQ a J=>?_
 refine Alc fun b2 w N a J=>?_
 replace N:=N.pl 1
 refine zO call179 (fun w N a J=>?_) (c:=nH (i:=i) rl n (by omega) N)
 by_cases m:(zD ws i)=(⟨#[]⟩:Bs)
 refine go fun a J=>?_
 refine st J rfl rfl rfl (oX J rfl call130 (uP (i:=i) rl n (by omega) N) (fun w N=>fun a U=>hQ _ _ _ (qB U ?_)))
 replace N:=N.dl [0]
 show Out (zW ws (d+1) i) _ _
 rw [show zW ws (d+1) i=.error _ from expr_no m]
 exact ⟨rfl,N⟩
 refine yP call205 (fun y9 w z N a J=>?_) (c:=j4b (X _) G N)
 replace N:=N.nf
 rcases b:z0e (zD ws i) with _ | o0
 rw [b] at J
 by_cases g:(zD ws i)=(⟨#[40]⟩:Bs)
 have A:=mP m
 refine Sto 0 fun w N a J=>?_
 refine vS call206 (fun C Y w k H N a J=>?_) (fun C w k N=>?_) (c:=x8l U hE G (i:=(i+1)) rl n (by omega) N)
 obtain ⟨M,i0⟩:=Y
 obtain ⟨l,y⟩:=H
 simp only at l y N J
 have W:=form_le k
 replace rl:=rl.up l
 replace G:=G.mono l
 replace N:=N.nf
 obtain ⟨p0,h0,q0,c37,rfl,a0,j0,k0,b0,d0,c0,e0⟩:=REx.fm y
 refine Alc fun g0 w N a J=>?_
 refine Sto 0 fun w N a J=>?_
 replace N:=N.pl 1
 refine jJ call177 (fun L w s N a J=>?_) (fun L w s N=>?_) (c:=pW (x:=(⟨#[41]⟩:Bs)) (i:=C.2) rl n (by omega) N)
 have P:=pV s
 refine Sto 2 fun w N a J=>?_
 refine go fun a J=>?_
 have f:=N
 replace N:=N.dl [2,1]
 refine qG (N:=f) ?_
 show Out (zW ws (d+1) i) _ _
 rw [show zW ws (d+1) i=.ok (C.1,L.2) from x1f m b g k s]
 exact ⟨(M,_),rfl,⟨l,y⟩,N⟩
 replace N:=N.dl [1,0]
 show Out (zW ws (d+1) i) _ _
 rw [show zW ws (d+1) i=.error _ from expr_fc m b g k s]
 exact ⟨rfl,N.le (l)⟩
 replace N:=N.dl [0]
 show Out (zW ws (d+1) i) _ _
 rw [show zW ws (d+1) i=.error _ from expr_fe m b g k]
 exact ⟨rfl,N⟩
 refine zZ call178 (fun e w N a J=>?_) (fun e w N a J=>?_) (c:=nD G N)
 refine jJ call176 (fun D w t N a J=>?_) (fun D w t N=>?_) (c:=tE G (i:=i) rl n (by omega) N)
 have R:=xI t
 refine zX fun a J=>?_
 refine Sto 1 fun w N a J=>?_
 refine go fun a J=>?_
 have f:=N
 replace N:=N.dl [1]
 refine qG (N:=f) ?_
 show Out (zW ws (d+1) i) _ _
 rw [show zW ws (d+1) i=.ok (.mk 4 0 D.1 [] [],D.2) from x5k m b g e t]
 exact ⟨(V,_),rfl,⟨Fz.Le.refl _,REx.leaf q1k⟩,N⟩
 replace N:=N.dl [0]
 exact x1e m e t
 have f0:=x9g m
 have I:0 < (zD ws i).size:=by omega
 obtain ⟨c53,q⟩:=wM I
 refine Qq (fun a J=>?_) (o:=by exact fun J O=>kB 0 c53 J rfl rfl runUnderlying9 q)
 by_cases B:c53.toNat=33
 refine Qq (fun a J=>?_) (o:=by exact fun J O=>kC 1 ((zD ws i).size) J rfl runUnderlying9 ⟨_,rfl⟩ rfl (by omega) (by exact Nat.le_refl _))
 refine zZ call138 (fun p w N a J=>?_) (fun p w N a J=>?_) (c:=uH G N)
 have A:=mP m
 refine Sto 0 fun w N a J=>?_
 refine Qq (fun a J=>?_) (o:=by exact fun J O=>kC 1 ((zD ws i).size) J rfl runUnderlying9 ⟨_,rfl⟩ rfl (by omega) (by exact Nat.le_refl _))
 refine zX fun a J=>?_
 refine Sto 1 fun w N a J=>?_
 refine go fun a J=>?_
 have f:=N
 replace N:=N.dl [1]
 refine qG (N:=f) ?_
 show Out (zW ws (d+1) i) _ _
 rw [show zW ws (d+1) i=.ok (.mk 3 0 ((zD ws i).extract 1 (zD ws i).size) [] [],i+1) from j3t m b g e ((qC q).trans B) p]
 exact ⟨(V,_),rfl,⟨Fz.Le.refl _,REx.leaf q1k⟩,N⟩
 refine jJ call129 (fun E w u N a J=>?_) (fun E w u N=>?_) (c:=cW G (i:=i) rl n (by omega) N)
 have S:=xI u
 refine zX fun a J=>?_
 refine Sto 1 fun w N a J=>?_
 refine go fun a J=>?_
 have f:=N
 replace N:=N.dl [1]
 refine qG (N:=f) ?_
 show Out (zW ws (d+1) i) _ _
 rw [show zW ws (d+1) i=.ok (.mk 2 0 E.1 [] [],E.2) from (z3w m b g e (fun h=>absurd (h.2.symm.trans p) (by decide))).trans ((zC u).trans rfl)]
 exact ⟨(V,_),rfl,⟨Fz.Le.refl _,REx.leaf q1k⟩,N⟩
 replace N:=N.dl [0]
 show Out (zW ws (d+1) i) _ _
 rw [show zW ws (d+1) i=.error _ from (z3w m b g e (fun h=>absurd (h.2.symm.trans p) (by decide))).trans (zQ u)]
 exact ⟨rfl,N⟩
 refine jJ call129 (fun F w v N a J=>?_) (fun F w v N=>?_) (c:=cW G (i:=i) rl n (by omega) N)
 have T:=xI v
 refine zX fun a J=>?_
 refine Sto 1 fun w N a J=>?_
 refine go fun a J=>?_
 have f:=N
 replace N:=N.dl [1]
 refine qG (N:=f) ?_
 show Out (zW ws (d+1) i) _ _
 rw [show zW ws (d+1) i=.ok (.mk 2 0 F.1 [] [],F.2) from (z3w m b g e (fun h=>B ((qC q).symm.trans h.1))).trans ((zC v).trans rfl)]
 exact ⟨(V,_),rfl,⟨Fz.Le.refl _,REx.leaf q1k⟩,N⟩
 replace N:=N.dl [0]
 show Out (zW ws (d+1) i) _ _
 rw [show zW ws (d+1) i=.error _ from (z3w m b g e (fun h=>B ((qC q).symm.trans h.1))).trans (zQ v)]
 exact ⟨rfl,N⟩
 rw [b] at J
 have A:=mP m
 refine Sto 0 fun w N a J=>?_
 refine zX fun a J=>?_
 refine Sto 1 fun w N a J=>?_
 refine go fun a J=>?_
 have f:=N
 replace N:=N.dl [1]
 refine qG (N:=f) ?_
 show Out (zW ws (d+1) i) _ _
 rw [show zW ws (d+1) i=.ok (.mk 1 y9 ⟨#[]⟩ [] [],i+1) from x5l m (b.trans (congrArg some (z _ b).symm))]
 exact ⟨(V,_),rfl,⟨Fz.Le.refl _,REx.leaf (x7g (b.trans (congrArg some (z _ b).symm)))⟩,N⟩
theorem j1h {ws:List Bs} (a:ws.length<=1000000) (b:∀j,(zD ws j).size<=1000000):∀d,d<=1000->uW ws d
 | 0,_=>j5u a
 | d+1,h=>j5t (by omega) a b (j1h a b d (by omega))
theorem q2m {V:Fz} {K:List Res} {w:World} {r i:Nat} {rs:Value} {ws:List Bs} (G:Glob V) (rl:SliceOf RStr V 1 rs ws) (f:ws.length<=1000000) (s:i<=ws.length) (N:Mem V (.blk r (ob [rs,.int .i64 ((i:Nat):Int)] 208)::K) w) :
  Calls prog 127 #[.pointer (some ⟨r,0,none⟩)] w (fun ee w'=>Out (pO ws i) (fun x=>ee=.returned (.agg #[.string x.1.name,.string x.1.type])/\Mem V (.blk r (ob [rs,.int .i64 ((x.2:Nat):Int)] 208)::K) w') (fun c=>ee=.panicked (aP c)/\Mem V K w')):=by
 obtain ⟨pw,cw,rfl,o,p⟩:=rl.fm
 refine zK func127 ntmps127 fun Q hQ a J=>?_
 refine Alc fun q w N a J=>?_
 replace N:=N.pl 1
 refine jJ call129 (fun m w d N a J=>?_) (fun m w d N=>?_) (c:=cW G (i:=i) rl f (by omega) N)
 have j:=xI d
 refine jJ call177 (fun n w e N a J=>?_) (fun n w e N=>?_) (c:=pW (x:=(⟨#[58]⟩:Bs)) (i:=m.2) rl f (by omega) N)
 have k:=pV e
 refine jJ call176 (fun g w b N a J=>?_) (fun g w b N=>?_) (c:=tE G (i:=n.2) rl f (by omega) N)
 have h:=xI b
 refine zX fun a J=>?_
 refine Sto 1 fun w N a J=>?_
 refine go fun a J=>?_
 have l:=N
 replace N:=N.dl [1]
 refine qG (N:=l) ?_
 show Out (pO ws i) _ _
 rw [show pO ws i=.ok ((⟨m.1,g.1⟩:Param),g.2) from (zC d).trans ((zC e).trans ((zC b).trans (rfl)))]
 exact ⟨rfl,N⟩
 replace N:=N.dl [0]
 show Out (pO ws i) _ _
 rw [show pO ws i=.error _ from (zC d).trans ((zC e).trans (zQ b))]
 exact ⟨rfl,N⟩
 replace N:=N.dl [0]
 show Out (pO ws i) _ _
 rw [show pO ws i=.error _ from (zC d).trans (zQ e)]
 exact ⟨rfl,N⟩
 replace N:=N.dl [0]
 show Out (pO ws i) _ _
 rw [show pO ws i=.error _ from zQ d]
 exact ⟨rfl,N⟩
theorem x8h {V:Fz} {K:List Res} {w:World} {r i:Nat} {rs:Value} {ws:List Bs} (G:Glob V) (rl:SliceOf RStr V 1 rs ws) (z:ws.length<=1000000) (hi:i<=ws.length) (N:Mem V (.blk r (ob [rs,.int .i64 ((i:Nat):Int)] 208)::K) w) :
  Calls prog 126 #[.pointer (some ⟨r,0,none⟩)] w (fun ee w'=>Out (gK ws i) (fun x=>∃y:Fz×List Value,ee=.returned (.agg y.2.toArray)/\(V.Le y.1/\RData y.1 y.2 x.1)/\Mem y.1 (.blk r (ob [rs,.int .i64 ((x.2:Nat):Int)] 208)::K) w') (fun c=>ee=.panicked (aP c)/\Mem V K w')):=by
 obtain ⟨pw,cw,rfl,B0,C0⟩:=rl.fm
 refine zK func126 ntmps126 fun Q hQ a J=>?_
 refine Alc fun b2 w N a J=>?_
 replace N:=N.pl 1
 refine jJ call176 (fun q4 w p N a J=>?_) (fun q4 w p N=>?_) (c:=tE G (i:=i) rl z (by omega) N)
 have g0:=xI p
 refine zX fun a J=>?_
 refine Alc fun b6 w N a J=>?_
 refine Sto 0 fun w N a J=>?_
 replace N:=N.pl 1
 refine jJ call177 (fun q8 w v N a J=>?_) (fun q8 w v N=>?_) (c:=pW (x:=(⟨#[61]⟩:Bs)) (i:=q4.2) rl z (by omega) N)
 have h0:=pV v
 refine go fun a J=>?_
 replace N:=N.nilRow 135 2
 replace N:=N.nf
 refine zU (J.ks [0,2,3]) N (fun R mm a w=>∃(o:Fz) (j:Nat) (u:Value) (cs:List Value) (xs:List Con) (f:Nat),mm=ws.length - j/\R o [] [(0,.gs (u) 135 2 cs),(1,.blk r (ob [.slice pw ws.length cw,.int .i64 ((j:Nat):Int)] 208)),(2,.blk b6 (ob [.string q4.1,u] 133))] a w/\(V.Le o/\(Chunks (RCon o) 2 cs xs/\xs.length<=j/\j<=ws.length/\xs.length+f=ws.length+1/\sD ws (ws.length+1) q8.2=wP xs (sD ws f j)))) (ws.length - q8.2) ⟨V,q8.2,.slice none 0 0,[],[],ws.length+1,rfl,⟨J.pk,N⟩,⟨Fz.Le.refl _,⟨rfl,Nat.zero_le _,by omega,Nat.zero_add _,sO _⟩⟩⟩ ?_
 clear N J
 rintro mm a w ⟨o,j,u,cs,xs,f,S,⟨J,N⟩,B⟩ t0 X
 replace N:=N.nf
 obtain ⟨g,B⟩:=B
 replace rl:=rl.up g
 replace G:=G.mono g
 obtain ⟨hch,E0,hj,y0,D⟩:=B
 replace N:=N.pl 1
 refine jJ call176 (fun d w e N a J=>?_) (fun d w e N=>?_) (c:=tE G (i:=j) rl z (by omega) N)
 have a0:=xI e
 refine zX fun a J=>?_
 refine Alc fun e0 w N a J=>?_
 refine Sto 0 fun w N a J=>?_
 refine go fun a J=>?_
 replace N:=N.nilRow 9 1
 replace N:=N.nf
 refine zU (J.ks [0,2,3,4]) N (fun R mm a w=>∃(A:Nat) (u2:Value) (vs:List Bs) (Z:Nat),mm=ws.length - A/\R o [] [(0,.gs (u2) 9 1 (strs vs)),(1,.blk e0 (ob [.string d.1,u2] 135)),(2,.blk r (ob [.slice pw ws.length cw,.int .i64 ((A:Nat):Int)] 208))] a w/\(vs.length<=A/\j < A/\A<=ws.length/\vs.length+Z=ws.length+1/\kX ws (ws.length+1) d.2=wP vs (kX ws Z A))) (ws.length - d.2) ⟨d.2,.slice none 0 0,[],ws.length+1,rfl,⟨J.pk,N⟩,⟨Nat.zero_le _,by omega,by omega,Nat.zero_add _,sO _⟩⟩ ?_
 clear N J
 rintro mm a w ⟨A,u2,vs,Z,S,⟨J,N⟩,W⟩ u0 Y
 replace N:=N.nf
 obtain ⟨D0,z0,A0,n0,P⟩:=W
 replace N:=N.pl 2
 refine zO call179 (fun w N a J=>?_) (c:=nH (i:=A) rl z (by omega) N)
 refine zZ call178 (fun q w N a J=>?_) (fun q w N a J=>?_) (c:=nD G N)
 refine Reg [1,2,1,0,0,0,1,0] [2,3,4,5] fun w N a J=>?_
 refine jJ call176 (fun U w s N a J=>?_) (fun U w s N=>?_) (c:=tE G (i:=A) rl z (by omega) N)
 have b0:=xI s
 refine qF fun G0 w N a J=>?_
 refine qQ 2 wT (fun l0 w N a J=>?_) (hb:=by simp [yG];omega)
 refine Sto 3 fun w N a J=>?_
 refine go fun a J=>?_
 first | rw [jS] at N | rw [<- yW] at N
 replace N:=N.ar [0] [5,5,5,3,5,5]
 refine Y _ _ _ (by subst S;omega) ⟨(U.2),(l0),(vs++[U.1]),(Z - 1),rfl,⟨J.pk,by exact N⟩,?_⟩
 exact ⟨by simp only [laQ,lcQ,lnQ];omega,by omega,by omega,by simp only [laQ,lcQ,lnQ];omega,q9e P (by omega) q s⟩
 replace N:=N.dl [4,3,2,1,0]
 show Out (gK ws i) _ _
 rw [show gK ws i=.error _ from (zC p).trans ((zC v).trans (zQ (j3j D (by omega) e (q9d P (by omega) q s))))]
 exact ⟨rfl,N.le (g)⟩
 refine go fun a J=>?_
 have l:=N
 clear N
 obtain ⟨I,n,N,E⟩:=l.freezeRow (i:=1) rfl
 clear l
 replace rl:=rl.up n
 replace G:=G.mono n
 replace hch:=hch.mono fun _ _ h=>RCon.mono _ _ _ _ n h
 replace N:=N.nf
 have b:SliceOf RStr I 1 _ (vs):=SliceOf.strs.2 E
 obtain ⟨j0,f0,T,p0,r0⟩:=b.form (by decide)
 have m:=N
 clear N
 subst T
 have N:=m
 clear m
 have H:=j3u P (by omega) q
 refine qF fun H0 w N a J=>?_
 refine qQ 3 rt_131 (fun m0 w N a J=>?_)
 refine Sto 4 fun w N a J=>?_
 replace N:=N.pl 1
 refine zO call179 (fun w N a J=>?_) (c:=nH (i:=A) rl z (by omega) N)
 by_cases M:(zD ws A)=(⟨#[124]⟩:Bs)
 have o0:=z0p M (by decide)
 refine Sto 0 fun w N a J=>?_
 refine go fun a J=>?_
 replace N:=N.ar [2,1] [3,3,2,3]
 refine X _ _ _ (by subst S;omega) ⟨(I),(A+1),(m0),((cs++[.string d.1,.slice j0 (vs).length f0])),(xs++[(⟨d.1,vs⟩:Con)]),(f - 1),rfl,⟨J.pk,by exact N⟩,?_⟩
 refine ⟨(g).trans n,?_⟩
 exact ⟨(hch.snoc (k:=2) (x:=(⟨d.1,vs⟩:Con)) rfl ⟨_,rfl,b⟩),by simp only [laQ,lcQ,lnQ];omega,by omega,by simp only [laQ,lcQ,lnQ];omega,x0k D (by omega) e H M⟩
 refine go fun a J=>?_
 have l:=N
 clear N
 obtain ⟨L,t,N,F⟩:=l.freezeRow (i:=3) rfl
 clear l
 replace G:=G.mono t
 replace hch:=hch.mono fun _ _ h=>RCon.mono _ _ _ _ t h
 replace b:=b.up t
 replace N:=N.nf
 have C:SliceOf RCon L 2 _ (xs++[(⟨d.1,vs⟩:Con)]):=⟨_,F,(hch.snoc (k:=2) (x:=(⟨d.1,vs⟩:Con)) rfl ⟨_,rfl,b⟩)⟩
 obtain ⟨F0,x0,T,q0,s0⟩:=C.form (by decide)
 have m:=N
 clear N
 subst T
 have N:=m
 clear m
 refine Sto 4 fun w N a J=>?_
 refine go fun a J=>?_
 have i0:=N
 replace N:=N.dl [4,3,2,1]
 refine qG (N:=i0) ?_
 show Out (gK ws i) _ _
 rw [show gK ws i=.ok ((⟨q4.1,xs++[(⟨d.1,vs⟩:Con)]⟩:Data),A) from (zC p).trans ((zC v).trans ((zC (x5b D (by omega) e H M)).trans rfl))]
 exact ⟨(L,_),rfl,⟨((g).trans n).trans t,⟨_,rfl,C⟩⟩,N⟩
 replace N:=N.dl [2,1,0]
 show Out (gK ws i) _ _
 rw [show gK ws i=.error _ from (zC p).trans ((zC v).trans (zQ (j3i D (by omega) e)))]
 exact ⟨rfl,N.le (g)⟩
 replace N:=N.dl [1,0]
 show Out (gK ws i) _ _
 rw [show gK ws i=.error _ from (zC p).trans (zQ v)]
 exact ⟨rfl,N⟩
 replace N:=N.dl [0]
 show Out (gK ws i) _ _
 rw [show gK ws i=.error _ from zQ p]
 exact ⟨rfl,N⟩
theorem rfun_ok {V:Fz} {K:List Res} {w:World} {r i:Nat} {rs:Value} {ws:List Bs} (hE:uW ws 250) (G:Glob V) (rl:SliceOf RStr V 1 rs ws) (p:ws.length<=1000000) (hi:i<=ws.length) (N:Mem V (.blk r (ob [rs,.int .i64 ((i:Nat):Int)] 208)::K) w) :
  Calls prog 128 #[.pointer (some ⟨r,0,none⟩)] w (fun ee w'=>Out (sG ws i) (fun x=>∃y:Fz×List Value,ee=.returned (.agg y.2.toArray)/\(V.Le y.1/\RFun y.1 y.2 x.1)/\Mem y.1 (.blk r (ob [rs,.int .i64 ((x.2:Nat):Int)] 208)::K) w') (fun c=>ee=.panicked (aP c)/\Mem V K w')):=by
 obtain ⟨pw,cw,rfl,A0,B0⟩:=rl.fm
 refine zK func128 ntmps128 fun Q hQ a J=>?_
 refine Alc fun b2 w N a J=>?_
 replace N:=N.pl 1
 refine jJ call129 (fun I w e N a J=>?_) (fun I w e N=>?_) (c:=cW G (i:=i) rl p (by omega) N)
 have e0:=xI e
 refine zX fun a J=>?_
 refine Alc fun b6 w N a J=>?_
 refine Sto 0 fun w N a J=>?_
 refine go fun a J=>?_
 replace N:=N.nilRow 72 2
 replace N:=N.nf
 refine zU (J.ks [0,2,3]) N (fun R mm a w=>∃(j:Nat) (u:Value) (cs:List Value) (xs:List Param) (f:Nat),mm=ws.length - j/\R V [] [(0,.gs (u) 72 2 cs),(1,.blk b6 (ob [.string I.1,u,.string ⟨#[]⟩,.int .i64 ((0:Nat):Int),.int .i64 ((0:Nat):Int),.string ⟨#[]⟩,.slice none 0 0,.slice none 0 0] 68)),(2,.blk r (ob [.slice pw ws.length cw,.int .i64 ((j:Nat):Int)] 208))] a w/\(Chunks (RParam V) 2 cs xs/\xs.length<=j/\j<=ws.length/\xs.length+f=ws.length+1/\wV ws (ws.length+1) I.2=wP xs (wV ws f j))) (ws.length - I.2) ⟨I.2,.slice none 0 0,[],[],ws.length+1,rfl,⟨J.pk,N⟩,⟨rfl,Nat.zero_le _,by omega,Nat.zero_add _,sO _⟩⟩ ?_
 clear N J
 rintro mm a w ⟨j,u,cs,xs,f,g0,⟨J,N⟩,b0⟩ L8 c0
 replace N:=N.nf
 obtain ⟨hch,C0,hj,z0,B⟩:=b0
 replace N:=N.pl 2
 refine zO call179 (fun w N a J=>?_) (c:=nH (i:=j) rl p (by omega) N)
 by_cases z:(zD ws j)=(⟨#[40]⟩:Bs)
 have l0:=z0p z (by decide)
 refine Sto 0 fun w N a J=>?_
 refine Reg [1,2,1,0,0,0,1,0] [2,3] fun w N a J=>?_
 refine jJ call127 (fun v w m N a J=>?_) (fun v w m N=>?_) (c:=q2m G (i:=(j+1)) rl p (by omega) N)
 have W:=j0s m
 refine qF fun G0 w N a J=>?_
 refine qQ 2 z4s (fun i0 w N a J=>?_)
 refine Sto 3 fun w N a J=>?_
 replace N:=N.pl 1
 refine jJ call177 (fun M w q N a J=>?_) (fun M w q N=>?_) (c:=pW (x:=(⟨#[41]⟩:Bs)) (i:=v.2) rl p (by omega) N)
 have X:=pV q
 refine go fun a J=>?_
 replace N:=N.ar [1] [3,1,3,3]
 refine c0 _ _ _ (by subst g0;omega) ⟨(M.2),(i0),((cs++[.string v.1.name,.string v.1.type])),(xs++[v.1]),(f - 1),rfl,⟨J.pk,by exact N⟩,?_⟩
 exact ⟨(hch.snoc (k:=2) (x:=v.1) rfl rfl),by simp only [laQ,lcQ,lnQ];omega,by omega,by simp only [laQ,lcQ,lnQ];omega,j0t B (by omega) z m q⟩
 replace N:=N.dl [3,2,1,0]
 show Out (sG ws i) _ _
 rw [show sG ws i=.error _ from (zC e).trans (zQ (q6j B (by omega) z m q))]
 exact ⟨rfl,N⟩
 replace N:=N.dl [2,1,0]
 show Out (sG ws i) _ _
 rw [show sG ws i=.error _ from (zC e).trans (zQ (q6i B (by omega) z m))]
 exact ⟨rfl,N⟩
 refine go fun a J=>?_
 have D:=N
 clear N
 obtain ⟨T,b,N,C⟩:=D.freezeRow (i:=1) rfl
 clear D
 replace rl:=rl.up b
 replace G:=G.mono b
 replace hch:=hch.mono fun _ _ h=>RParam.mono _ _ _ _ b h
 replace N:=N.nf
 have l:SliceOf RParam T 2 _ (xs):=⟨_,C,hch⟩
 obtain ⟨D0,c27,h0,m0,p0⟩:=l.form (by decide)
 have E:=N
 clear N
 subst h0
 have N:=E
 clear E
 have o:=j5d B (by omega) z
 refine jJ call177 (fun P w d N a J=>?_) (fun P w d N=>?_) (c:=pW (x:=(⟨#[58]⟩:Bs)) (i:=j) rl p (by omega) N)
 have Y:=pV d
 refine jJ call176 (fun F w g N a J=>?_) (fun F w g N=>?_) (c:=tE G (i:=P.2) rl p (by omega) N)
 have Z:=xI g
 refine Sto 1 fun w N a J=>?_
 refine jJ call177 (fun S w n N a J=>?_) (fun S w n N=>?_) (c:=pW (x:=(⟨#[61]⟩:Bs)) (i:=F.2) rl p (by omega) N)
 have a0:=pV n
 refine vS call180 (fun H j0 w s L N a J=>?_) (fun H w s N=>?_) (c:=hE G rl (i:=S.2) (by omega) N)
 obtain ⟨U,u0⟩:=j0
 obtain ⟨t,A⟩:=L
 simp only at t A N J
 have d0:=kF 250 _ _ s
 replace G:=G.mono t
 replace l:=l.up t
 replace N:=N.nf
 obtain ⟨E0,t0,F0,c58,rfl,k0,w0,x0,n0,q0,o0,r0⟩:=REx.fm A
 refine Sto 1 fun w N a J=>?_
 refine Sto 2 fun w N a J=>?_
 refine go fun a J=>?_
 have f0:=N
 replace N:=N.dl [2,1]
 refine qG (N:=f0) ?_
 show Out (sG ws i) _ _
 rw [show sG ws i=.ok ((⟨I.1,xs,F.1,H.1⟩:Fun),H.2) from (zC e).trans ((zC o).trans ((zC d).trans ((zC g).trans ((zC n).trans ((zC s).trans (rfl))))))]
 exact ⟨(U,_),rfl,⟨(b).trans t,⟨_,_,rfl,l,A⟩⟩,N⟩
 replace N:=N.dl [1,0]
 show Out (sG ws i) _ _
 rw [show sG ws i=.error _ from (zC e).trans ((zC o).trans ((zC d).trans ((zC g).trans ((zC n).trans (zQ s)))))]
 exact ⟨rfl,N.le (b)⟩
 replace N:=N.dl [1,0]
 show Out (sG ws i) _ _
 rw [show sG ws i=.error _ from (zC e).trans ((zC o).trans ((zC d).trans ((zC g).trans (zQ n))))]
 exact ⟨rfl,N.le (b)⟩
 replace N:=N.dl [1,0]
 show Out (sG ws i) _ _
 rw [show sG ws i=.error _ from (zC e).trans ((zC o).trans ((zC d).trans (zQ g)))]
 exact ⟨rfl,N.le (b)⟩
 replace N:=N.dl [1,0]
 show Out (sG ws i) _ _
 rw [show sG ws i=.error _ from (zC e).trans ((zC o).trans (zQ d))]
 exact ⟨rfl,N.le (b)⟩
 replace N:=N.dl [0]
 show Out (sG ws i) _ _
 rw [show sG ws i=.error _ from zQ e]
 exact ⟨rfl,N⟩
theorem v0c {V:Fz} {K:List Res} {w:World} {t:Bs} (N:Mem V K w) :
  Calls prog 125 #[.string t] w (fun ee w'=>∃y:Nat,ee=.returned (.func (.func 174) #[] #[.pointer (some ⟨y,0,none⟩)])/\True/\Mem V (.blk y (ob [.string t] 9)::K) w'):=by
 refine zK func125 ntmps125 fun Q hQ a J=>?_
 refine Bx fun b w N a J=>?_
 refine zF ?_
 exact ⟨_,rfl,trivial,N⟩
theorem x3o {β:Type} {V:Fz} {w:World} {t:Bs} {bx l:Nat} {KY:List Bs->β->List Res} {z:β} (h2:t.size<=1000000) (P:AscB t)
  (hy:∀pre z Z (k:Bs) w,pre.length < t.size->Mem V (Z++KY pre z) w->YieldAt Fence.wide 2 prog l #[.string k] w (fun e w'=>e=.returned (.bool true)/\∃z',Mem V (Z++KY (pre++[k]) z') w'))
  (N:Mem V (.blk bx (ob [.string t] 9)::KY [] z) w) :
  Calls prog 174 #[.func (.yield l) #[] #[],.pointer (some ⟨bx,0,none⟩)] w (fun ee w'=>∃y:β,ee=.returned (.tuple #[])/\Mem V (KY (tV t) y) w'):=by
 refine zK func174 ntmps174 fun Q hQ a J=>?_
 refine go fun a J=>?_
 refine mO (fun mm a w=>∃(i:Nat) (f:Nat) (pre:List Bs) (z0:β),mm=t.size - i/\EnvR 52 [(0,.func (.yield l) #[] #[]),(1,.pointer (some ⟨bx,0,none⟩)),(3,.int .i64 ((i:Nat):Int))] [] a/\Mem V (.blk bx (ob [.string t] 9)::KY pre z0) w/\(i<=t.size/\pre.length<=i/\t.size<=i+f/\tV t=pre++kS t f i)) (t.size - 0) ⟨0,t.size,[],z,rfl,J.pk,N,⟨Nat.zero_le _,Nat.zero_le _,by omega,rfl⟩⟩ ?_
 clear N J
 rintro mm a w ⟨i,f,pre,z0,u,J,N,U⟩ L2 s
 obtain ⟨d0,e0,f0,p⟩:=U
 by_cases B:i < t.size
 obtain ⟨A,b⟩:=wM B
 refine Qq (fun a J=>?_) (o:=by exact fun J O=>kB i A J rfl rfl runUnderlying9 b)
 refine goJ 10 fun a J=>?_
 refine sq fun R K=>?_
 have g:∀a w,(EnvR 52 [(0,.func (.yield l) #[] #[]),(1,.pointer (some ⟨bx,0,none⟩)),(3,.int .i64 ((i:Nat):Int)),(11,.int .u8 ((A.toNat:Nat):Int)),(34,.bool (decide (zH t i=32∨zH t i=10)))] [] a/\Mem V (.blk bx (ob [.string t] 9)::KY pre z0) w/\(True))->R a w:=by
  clear N J
  rintro a w ⟨J,N,a0⟩
  apply K
  generalize d:(decide (zH t i=32∨zH t i=10))=C at J
  cases C
  refine goJ 13 fun a J=>?_
  refine sq fun S L=>?_
  have m:∀a w,(EnvR 52 [(0,.func (.yield l) #[] #[]),(1,.pointer (some ⟨bx,0,none⟩)),(3,.int .i64 ((i:Nat):Int)),(39,.bool (decide (zH t i=40∨zH t i=41)))] [] a/\Mem V (.blk bx (ob [.string t] 9)::KY pre z0) w/\(True))->S a w:=by
   clear N J
   rintro a w ⟨J,N,b0⟩
   apply L
   generalize n:(decide (zH t i=40∨zH t i=41))=D at J
   cases D
   have g0:=z1b (t:=t) (i:=i) (by omega)
   have i0:=y1n B (of_decide_eq_false d) (of_decide_eq_false n)
   refine Qq (fun a J=>?_) (o:=by exact fun J O=>kC i (t.size) J rfl runUnderlying9 ⟨_,rfl⟩ rfl (by omega) (by exact Nat.le_refl _))
   refine zO call175 (fun w N a J=>?_) (c:=x4h (i:=i) P (by omega) (by omega) N)
   refine goJ 6 fun a J=>?_
   refine sq fun T M=>?_
   have q:∀a w,(EnvR 52 [(0,.func (.yield l) #[] #[]),(1,.pointer (some ⟨bx,0,none⟩)),(3,.int .i64 ((i:Nat):Int)),(4,.int .i64 ((yZ t i:Nat):Int))] [] a/\Mem V (.blk bx (ob [.string t] 9)::KY pre z0) w/\(True))->T a w:=by
    clear N J
    rintro a w ⟨J,N,c0⟩
    apply M
    refine go1 fun a J=>?_
    refine z1c ?_
    refine aA J (by intro c h;cases h) (vW J rfl) rfl fun a J=>?_
    refine aA J (by intro c h;cases h) (pT 0 J N.toSees rfl rfl rfl isAgg9) rfl fun a J=>?_
    refine aA J (by intro c h;cases h) (vW J rfl) rfl fun a J=>?_
    refine aA J (by intro c h;cases h) (vW J rfl) rfl fun a J=>?_
    refine aA J (by intro c h;cases h) (vW J rfl) rfl fun a J=>?_
    refine aA J (by intro c h;cases h) (pZ (i:=i) (j:=yZ t i) J rfl rfl (by omega)) rfl fun a J=>?_
    refine aA J (by intro c h;cases h) (kC i (i+yZ t i) J rfl runUnderlying9 ⟨_,rfl⟩ ⟨_,rfl⟩ (by omega) (by omega)) rfl fun a J=>?_
    refine y4t (v:=.string (t.extract i (i+yZ t i))) J rfl rfl rfl (hy pre z0 [.blk bx (ob [.string t] 9)] (t.extract i (i+yZ t i)) w (by omega) N) fun w r a J=>?_
    obtain ⟨X,N⟩:=r
    replace N:=N.nf
    refine aA J (by intro c h;cases h) (q3i J rfl) rfl fun a J=>?_
    refine wpListIn_nil ?_
    refine Qq (fun a J=>?_) (o:=by exact fun J O=>pZ (i:=i) (j:=(yZ t i)) J rfl rfl (by omega))
    refine go fun a J=>?_
    refine s _ _ _ (by subst u;omega) ⟨((i+(yZ t i))),(f - 1),(pre++[(t.extract i (i+yZ t i))]),(X),rfl,J.pk,N,?_⟩
    exact ⟨by omega,by simp only [laQ,lcQ,lnQ];omega,by omega,by rw [p,y7o B (by omega) (of_decide_eq_false d) (of_decide_eq_false n),List.append_assoc];rfl⟩
   by_cases E:(if i+yZ t i < t.size then ((yZ t i:Nat):Int) else -1) < 0
   have h0:=v0a (by omega) E
   refine Qq (fun a J=>?_) (o:=by exact fun J O=>xX ((yZ t i:Nat):Int) J rfl rfl (by rw [yD (by omega)];omega))
   refine go fun a J=>?_
   exact q _ _ ⟨J.pk,N,trivial⟩
   refine go fun a J=>?_
   rw [v0b E] at J
   exact q _ _ ⟨J.pk,N,trivial⟩
   refine go1 fun a J=>?_
   refine z1c ?_
   refine aA J (by intro c h;cases h) (vW J rfl) rfl fun a J=>?_
   refine aA J (by intro c h;cases h) (pT 0 J N.toSees rfl rfl rfl isAgg9) rfl fun a J=>?_
   refine aA J (by intro c h;cases h) (vW J rfl) rfl fun a J=>?_
   refine aA J (by intro c h;cases h) (vW J rfl) rfl fun a J=>?_
   refine aA J (by intro c h;cases h) (pZ (i:=i) (j:=1) J rfl rfl (by omega)) rfl fun a J=>?_
   refine aA J (by intro c h;cases h) (kC i (i+1) J rfl runUnderlying9 ⟨_,rfl⟩ ⟨_,rfl⟩ (by omega) (by omega)) rfl fun a J=>?_
   refine y4t (v:=.string (t.extract i (i+1))) J rfl rfl rfl (hy pre z0 [.blk bx (ob [.string t] 9)] (t.extract i (i+1)) w (by omega) N) fun w r a J=>?_
   obtain ⟨Y,N⟩:=r
   replace N:=N.nf
   refine aA J (by intro c h;cases h) (q3i J rfl) rfl fun a J=>?_
   refine wpListIn_nil ?_
   refine go fun a J=>?_
   refine s _ _ _ (by subst u;omega) ⟨((i+1)),(f - 1),(pre++[(t.extract i (i+1))]),(Y),rfl,J.pk,N,?_⟩
   exact ⟨by omega,by simp only [laQ,lcQ,lnQ];omega,by omega,by rw [p,q3d B (by omega) (of_decide_eq_false d) (of_decide_eq_true n),List.append_assoc];rfl⟩
  by_cases F:A.toNat=40
  refine go fun a J=>?_
  exact m _ _ (by rw [show decide (zH t i=40∨zH t i=41)=true from decide_eq_true (.inl ((qC b).trans F))];exact ⟨J.pk,N,trivial⟩)
  by_cases G:A.toNat=41
  refine go fun a J=>?_
  exact m _ _ (by rw [show decide (zH t i=40∨zH t i=41)=true from decide_eq_true (.inr ((qC b).trans G))];exact ⟨J.pk,N,trivial⟩)
  refine go fun a J=>?_
  exact m _ _ (by rw [show decide (zH t i=40∨zH t i=41)=false from decide_eq_false (by rw [qC b];exact fun W=>W.elim F G)];exact ⟨J.pk,N,trivial⟩)
  refine go fun a J=>?_
  refine s _ _ _ (by subst u;omega) ⟨(i+1),(f - 1),(pre),(z0),rfl,J.pk,N,?_⟩
  exact ⟨by omega,by omega,by omega,by rw [p,j2k B (by omega) (of_decide_eq_true d)]⟩
 by_cases H:A.toNat=32
 refine go fun a J=>?_
 exact g _ _ (by rw [show decide (zH t i=32∨zH t i=10)=true from decide_eq_true (.inl ((qC b).trans H))];exact ⟨J.pk,N,trivial⟩)
 by_cases I:A.toNat=10
 refine go fun a J=>?_
 exact g _ _ (by rw [show decide (zH t i=32∨zH t i=10)=true from decide_eq_true (.inr ((qC b).trans I))];exact ⟨J.pk,N,trivial⟩)
 refine go fun a J=>?_
 exact g _ _ (by rw [show decide (zH t i=32∨zH t i=10)=false from decide_eq_false (by rw [qC b];exact fun W=>W.elim H I)];exact ⟨J.pk,N,trivial⟩)
 refine go fun a J=>?_
 replace N:=N.dl [0]
 refine hQ _ _ _ (dE J results174 ?_)
 rw [p,q3b B,List.append_nil];exact ⟨z0,rfl,N⟩
end Go.Sw
