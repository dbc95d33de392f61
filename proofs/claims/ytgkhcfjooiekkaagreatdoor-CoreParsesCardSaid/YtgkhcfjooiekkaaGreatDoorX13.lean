import Derived.Test.YtgkhcfjooiekkaaGreatDoorX12
set_option linter.unusedVariables false
set_option linter.unusedSimpArgs false
namespace Go.Sw
open Go.Proofs Go.Proofs.Tryz
set_option maxRecDepth 20000
set_option maxHeartbeats 4000000
abbrev Sr:=Nat×Bool
def yI (ws:List Bs) (w:Bs) (s:Sr):Sr:=if s.2=true∨zB ws s.1≠w then (s.1,true) else (s.1+1,false)
def isY (v:Bool) (w:Bs):Bool:=if v then xT w else nV w
def yJ (ws:List Bs) (v:Bool) (s:Sr):Bs×Sr:=if s.2=true∨isY v (zB ws s.1)=false then (sNo,(s.1,true)) else (zB ws s.1,(s.1+1,false))
section
variable (ws:List Bs) (ex:Sr->Ex×Sr)
def z5v:Nat->Sr->List Ex×Sr
 | 0,s=>([],s)
 | f+1,s=>if s.2=false/\zB ws s.1≠jQ then ((ex s).1::(z5v f (ex s).2).1,(z5v f (ex s).2).2) else ([],s)
def dR:Nat->Sr->List Bs×Sr
 | 0,s=>([],s)
 | f+1,s=>if s.2=false/\zB ws s.1≠wY then ((yJ ws true s).1::(dR f (yJ ws true s).2).1,(dR f (yJ ws true s).2).2) else ([],s)
def z5i (s:Sr):Arm×Sr :=
 let c:=yJ ws false (yI ws kD s)
 let v:=dR ws (ws.length+1) c.2
 let b:=ex (yI ws wY v.2)
 (.mk c.1 v.1 b.1,yI ws jQ b.2)
def mQ:Nat->Bool->Sr->List Arm×Sr
 | 0,_,s=>([],s)
 | f+1,first,s=>if s.2=false/\(first=true∨zB ws s.1=kD) then ((z5i ws ex s).1::(mQ f false (z5i ws ex s).2).1,(mQ f false (z5i ws ex s).2).2) else ([],s)
def pZ (s:Sr):Ex×Sr :=
 let p:=zB ws s.1
 if p=q5d then
  let n:=yJ ws true (s.1+1,s.2)
  let a:=ex n.2
  let b:=ex a.2
  (.mk 6 0 n.1 [a.1,b.1] [],yI ws jQ b.2)
 else if p=z6s then
  let a:=ex (s.1+1,s.2)
  let r:=mQ ws ex (ws.length+1) true a.2
  (.mk 7 0 sNo [a.1] r.1,yI ws jQ r.2)
 else if nV p=true then
  let a:=ex (s.1+1,s.2)
  let q:=z5v ws ex (ws.length+1) a.2
  (.mk 4 0 p (a.1::q.1) [],yI ws jQ q.2)
 else if xT p=true then
  let q:=z5v ws ex (ws.length+1) (s.1+1,s.2)
  (.mk 5 0 p q.1 [],yI ws jQ q.2)
 else if mT p=true then
  let a:=ex (s.1+1,s.2)
  let b:=ex a.2
  (.mk 8 0 p [a.1,b.1] [],yI ws jQ b.2)
 else (.mk 0 0 sNo [] [],(s.1,true))
end
def e0:Ex:=.mk 0 0 sNo [] []
def jF (ws:List Bs):Nat->Sr->Ex×Sr
 | 0,s=>(e0,(s.1,true))
 | d+1,s=>if s.2=true∨zB ws s.1=sNo∨zB ws s.1=jQ then (e0,(s.1,true)) else
  match wH (zB ws s.1) with
  | some n=>(.mk 1 n sNo [] [],(s.1+1,s.2))
  | none=>
   if xT (zB ws s.1)=true then (.mk 2 0 (zB ws s.1) [] [],(s.1+1,s.2))
   else if nV (zB ws s.1)=true then (.mk 4 0 (zB ws s.1) [] [],(s.1+1,s.2))
   else if zC (zB ws s.1) 0=33/\xT ((zB ws s.1).extract 1 (zB ws s.1).size)=true then (.mk 3 0 ((zB ws s.1).extract 1 (zB ws s.1).size) [] [],(s.1+1,s.2))
   else if zB ws s.1≠kD then (e0,(s.1,true))
   else pZ ws (jF ws d) (s.1+1,s.2)
section
variable (ws:List Bs)
def mL:Nat->Sr->List Bs×Sr
 | 0,s=>([],s)
 | f+1,s=>if s.2=false/\nV (zB ws s.1)=true then ((yJ ws false s).1::(mL f (yJ ws false s).2).1,(mL f (yJ ws false s).2).2) else ([],s)
def oE (s:Sr):Con×Sr :=
 let n:=yJ ws false s
 let l:=mL ws (ws.length+1) n.2
 (⟨n.1,l.1⟩,l.2)
def pN:Nat->Sr->List Con×Sr
 | 0,s=>([],s)
 | f+1,s=>if (oE ws s).2.2=true∨zB ws (oE ws s).2.1≠y1h then ([(oE ws s).1],(oE ws s).2)
  else ((oE ws s).1::(pN f ((oE ws s).2.1+1,(oE ws s).2.2)).1,(pN f ((oE ws s).2.1+1,(oE ws s).2.2)).2)
def j5x (s:Sr):Data×Sr :=
 let n:=yJ ws false s
 let l:=pN ws (ws.length+1) (yI ws sEq n.2)
 (⟨n.1,l.1⟩,l.2)
def gC (s:Sr):Param×Sr :=
 let n:=yJ ws true s
 let t:=yJ ws false (yI ws mP n.2)
 (⟨n.1,t.1⟩,t.2)
def vC:Nat->Sr->List Param×Sr
 | 0,s=>([],s)
 | f+1,s=>if s.2=false/\zB ws s.1=kD then
   ((gC ws (s.1+1,s.2)).1::(vC f (yI ws jQ (gC ws (s.1+1,s.2)).2)).1,(vC f (yI ws jQ (gC ws (s.1+1,s.2)).2)).2) else ([],s)
def funY (s:Sr):Fun×Sr :=
 let n:=yJ ws true s
 let ps:=vC ws (ws.length+1) n.2
 let r:=yJ ws false (yI ws mP ps.2)
 let b:=jF ws 250 (yI ws sEq r.2)
 (⟨n.1,ps.1,r.1,b.1⟩,b.2)
def pX (c:Core) (s:Sr):Core×Sr :=
 if zB ws s.1=dI then let d:=j5x ws (s.1+1,s.2);({ c with datas:=c.datas++[d.1] },d.2)
 else if zB ws s.1=aH then let d:=gC ws (s.1+1,s.2);({ c with inputs:=c.inputs++[d.1] },d.2)
 else if zB ws s.1=y5f then let d:=funY ws (s.1+1,s.2);({ c with funs:=c.funs++[d.1] },d.2)
 else if zB ws s.1=sG then let d:=yJ ws true (s.1+1,s.2);({ c with outputs:=c.outputs++[d.1] },d.2)
 else (c,(s.1,true))
def dX:Nat->Core->Sr->Core×Sr
 | 0,c,s=>(c,s)
 | f+1,c,s=>if s.1 < ws.length/\s.2=false then dX f (pX ws c s).1 (pX ws c s).2 else (c,s)
end
def AtY {α:Type} (t:α×Sr) (r:Rd α):Prop:=match r with
 | .ok (x,j)=>t=(x,(j,false))
 | .error n=>∃m,n=m+1/\t.2=(m,true)
def z0t {α:Type} (t:Sr->α×Sr):Prop:=∀i,(t (i,true)).2=(i,true)
theorem AtY.bind {α β:Type} {t:α×Sr} {r:Rd α} {g:α×Sr->β×Sr} {f:α->Nat->Rd β} (h:AtY t r) (a:∀x j,r=.ok (x,j)->AtY (g (x,(j,false))) (f x j)) (b:∀x m,(g (x,(m,true))).2=(m,true)):AtY (g t) (yA r f):=by
 cases hr:r with
 | error n=>
  rw [hr] at h
  obtain ⟨m,rfl,h2⟩:=h
  refine ⟨m,rfl,?_⟩
  obtain ⟨x,s⟩:=t
  simp only at h2;subst h2
  exact b x m
 | ok y=>
  obtain ⟨x,j⟩:=y
  rw [hr] at h
  have h:t=(x,(j,false)):=h
  subst h
  exact a x j hr
theorem AtY.ok {α:Type} {x:α} {j:Nat}:AtY (x,(j,false)) (.ok (x,j)):=rfl
theorem AtY.err {α:Type} {x:α} {i:Nat}:AtY (x,(i,true)) (.error (i+1)):=⟨i,rfl,rfl⟩
theorem kT {α β γ:Type} {r:Rd α} {f:α->Nat->Rd β} {g:β->Nat->Rd γ}:yA (yA r f) g=yA r fun x j=>yA (f x j) g:=by
 cases r with
 | error n=>rfl
 | ok x=>obtain ⟨x,j⟩:=x;rfl
theorem y6l {α β:Type} {x:α} {j:Nat} {f:α->Nat->Rd β}:yA (.ok (x,j)) f=f x j:=rfl
section
variable {ws:List Bs}
theorem jB (w:Bs) (i:Nat):yI ws w (i,true)=(i,true):=if_pos (.inl rfl)
theorem mV {w:Bs} (a:w≠sNo) (i:Nat):AtY ((),yI ws w (i,false)) (vH ws w i):=by
 unfold vH kW yI
 by_cases h:zB ws i=w
 ·rw [if_neg (by simp [h]),if_neg (by rw [h];simp [a])];rfl
 ·rw [if_pos (.inr h),if_pos (.inr (by simp [h]))];exact ⟨i,rfl,rfl⟩
theorem cO (v:Bool):z0t (yJ ws v):=fun i=>by unfold yJ;rw [if_pos (.inl rfl)]
theorem j2i (v:Bool) (w:Bs):isY v w=if v then yT w else yO w:=by
 cases v
 ·exact mJ w
 ·exact kQ w
theorem y1n:yT sNo=false:=by rw [<- kQ];decide
theorem j1k:yO sNo=false:=by rw [<- mJ];decide
theorem pD (v:Bool) (i:Nat):AtY (yJ ws v (i,false)) (kW ws (if v then yT else yO) i):=by
 unfold yJ kW
 have e:isY v (zB ws i)=(if v then yT else yO) (zB ws i):=by rw [j2i];cases v <;> rfl
 simp only [e]
 by_cases h:(if v then yT else yO) (zB ws i)=false
 ·rw [if_pos (.inr h),if_pos (.inr h)];exact AtY.err
 ·have h2:¬zB ws i=sNo:=fun g=>h (by rw [g];cases v;exact j1k;exact y1n)
  rw [if_neg (by simp only [Bool.false_eq_true,false_or];exact h),if_neg (by simp only [not_or];exact ⟨h2,h⟩)];rfl
variable {ex:Sr->Ex×Sr} {eP:Nat->Rd Ex}
theorem q7g (f i:Nat):z5v ws ex f (i,true)=([],(i,true)):=by cases f <;> simp [z5v]
theorem z9d (f i:Nat):dR ws f (i,true)=([],(i,true)):=by cases f <;> simp [dR]
theorem y9u (f i:Nat) (b:Bool):mQ ws ex f b (i,true)=([],(i,true)):=by cases f <;> simp [mQ]
theorem dG (f i:Nat):mL ws f (i,true)=([],(i,true)):=by cases f <;> simp [mL]
theorem z1p (f i:Nat):vC ws f (i,true)=([],(i,true)):=by cases f <;> simp [vC]
theorem q3w (b:∀i,AtY (ex (i,false)) (eP i)) (c:Goes ws eP):∀(f g i:Nat),i<=ws.length->ws.length < i+f->ws.length < i+g->AtY (z5v ws ex f (i,false)) (kB ws eP g 0 i)
 | 0,_,i,h,h',_=>absurd h' (by omega)
 | f+1,0,i,h,_,h'=>absurd h' (by omega)
 | f+1,g+1,i,h,h',h2=>by
  unfold z5v kB
  by_cases a:zB ws i=jQ
  ·rw [if_neg (by simp [a]),if_neg (by simp [a])];rfl
  ·rw [if_pos ⟨rfl,a⟩,if_pos (.inr a)]
   refine AtY.bind (g:=fun r=>(r.1::(z5v ws ex f r.2).1,(z5v ws ex f r.2).2)) (b i) (fun x j d=>?_) fun x m=>by simp only [q7g]
   have:=c _ _ d
   simp only at this
   exact AtY.bind (g:=fun r=>(x::r.1,r.2)) (q3w b c f g j (by omega) (by omega) (by omega)) (fun l k _=>rfl) fun _ _=>rfl
theorem z2w:Goes ws (vU ws):=xJ yT
theorem con_goes:Goes ws (oS ws):=xJ yO
theorem j0c:∀(f i:Nat),i<=ws.length->ws.length < i+f->AtY (dR ws f (i,false)) (cA ws f i)
 | 0,i,h,h'=>absurd h' (by omega)
 | f+1,i,h,h'=>by
  unfold dR cA
  by_cases a:zB ws i=wY
  ·rw [if_neg (by simp [a]),if_neg (by simp [a])];rfl
  ·rw [if_pos ⟨rfl,a⟩,if_pos a]
   refine AtY.bind (g:=fun r=>(r.1::(dR ws f r.2).1,(dR ws f r.2).2)) (pD true i) (fun x j b=>?_) fun x m=>by simp only [z9d]
   have:=z2w _ _ b
   simp only at this
   exact AtY.bind (g:=fun r=>(x::r.1,r.2)) (j0c f j (by omega) (by omega)) (fun l k _=>rfl) fun _ _=>rfl
theorem j5l (O:z0t ex) (a:∀i,AtY (ex (i,false)) (eP i)) (i:Nat):AtY (z5i ws ex (i,false)) (armP ws eP i):=by
 unfold z5i armP
 refine AtY.bind (g:=fun r:Unit×Sr=>(Arm.mk (yJ ws false r.2).1 (dR ws (ws.length+1) (yJ ws false r.2).2).1 (ex (yI ws wY (dR ws (ws.length+1) (yJ ws false r.2).2).2)).1,yI ws jQ (ex (yI ws wY (dR ws (ws.length+1) (yJ ws false r.2).2).2)).2)) (mV (by decide) i) (fun _ j h=>?_) fun _ m=>by simp only [jB,cO false m,z9d,O m]
 refine AtY.bind (g:=fun r:Bs×Sr=>(Arm.mk r.1 (dR ws (ws.length+1) r.2).1 (ex (yI ws wY (dR ws (ws.length+1) r.2).2)).1,yI ws jQ (ex (yI ws wY (dR ws (ws.length+1) r.2).2)).2)) (pD false j) (fun c k d=>?_) fun _ m=>by simp only [jB,z9d,O m]
 have h1:=con_goes _ _ d
 simp only at h1
 refine AtY.bind (g:=fun r:List Bs×Sr=>(Arm.mk c r.1 (ex (yI ws wY r.2)).1,yI ws jQ (ex (yI ws wY r.2)).2)) (j0c (ws.length+1) k (by omega) (by omega)) (fun v l hl=>?_) fun _ m=>by simp only [jB,O m]
 refine AtY.bind (g:=fun r:Unit×Sr=>(Arm.mk c v (ex r.2).1,yI ws jQ (ex r.2).2)) (mV (by decide) l) (fun _ e _=>?_) fun _ m=>by simp only [jB,O m]
 refine AtY.bind (g:=fun r:Ex×Sr=>(Arm.mk c v r.1,yI ws jQ r.2)) (a e) (fun b f _=>?_) fun _ m=>by simp only [jB]
 exact AtY.bind (g:=fun r:Unit×Sr=>(Arm.mk c v b,r.2)) (mV (by decide) f) (fun _ _ _=>rfl) fun _ _=>rfl
theorem q6d (O:z0t ex) (c:∀i,AtY (ex (i,false)) (eP i)) (d:Goes ws eP):∀(f:Nat) (b:Bool) (i:Nat),i<=ws.length->ws.length < i+f->AtY (mQ ws ex f b (i,false)) (dB ws eP f b i)
 | 0,b,i,h,h'=>absurd h' (by omega)
 | f+1,b,i,h,h'=>by
  unfold mQ dB
  by_cases a:b=true∨zB ws i=kD
  ·rw [if_pos ⟨rfl,a⟩,if_pos a]
   refine AtY.bind (g:=fun r=>(r.1::(mQ ws ex f false r.2).1,(mQ ws ex f false r.2).2)) (j5l O c i) (fun x j e=>?_) fun x m=>by simp only [y9u]
   have:=y2b d _ _ e
   simp only at this
   exact AtY.bind (g:=fun r=>(x::r.1,r.2)) (q6d O c d f false j (by omega) (by omega)) (fun l k _=>rfl) fun _ _=>rfl
  ·rw [if_neg (fun g=>a g.2),if_neg a];rfl
theorem y1q {r:Rd (List Ex)} {k:Int} {s:Bs} {g:Ex->Nat->Rd Ex}:yA (yA r fun l j=>.ok (Ex.mk k 0 s l [],j)) g=yA r fun l j=>g (Ex.mk k 0 s l []) j:=by rw [kT];rfl
theorem op_no {s:Bs} (h:mT s=true):¬s=q5d/\¬s=z6s/\nV s=false/\xT s=false:=by
 simp only [mT,Bool.or_eq_true,decide_eq_true_eq] at h
 rcases h with (((((h | h) | h) | h) | h) | h) | h <;> subst h <;> decide
abbrev endY (ws:List Bs) (e:Ex) (j:Nat):Rd Ex:=yA (vH ws jQ j) fun _ j=>.ok (e,j)
theorem y1k (e:Ex) (j:Nat):AtY (e,yI ws jQ (j,false)) (endY ws e j) :=
 AtY.bind (g:=fun r:Unit×Sr=>(e,r.2)) (mV (by decide) j) (fun _ _ _=>rfl) fun _ _=>rfl
theorem two_at (O:z0t ex) (c:∀i,AtY (ex (i,false)) (eP i)) (mkE:List Ex->Ex) (i:Nat) :
  AtY (mkE [(ex (i,false)).1,(ex (ex (i,false)).2).1],yI ws jQ (ex (ex (i,false)).2).2) (yA (z3k eP i) fun l j=>endY ws (mkE l) j):=by
 unfold z3k
 rw [kT]
 refine AtY.bind (g:=fun r:Ex×Sr=>(mkE [r.1,(ex r.2).1],yI ws jQ (ex r.2).2)) (c i) (fun a j _=>?_) fun _ m=>by simp only [jB,O m]
 rw [kT]
 refine AtY.bind (g:=fun r:Ex×Sr=>(mkE [a,r.1],yI ws jQ r.2)) (c j) (fun b k _=>?_) fun _ m=>by simp only [jB]
 exact y1k _ _
theorem x4v (O:z0t ex) (n:∀i,AtY (ex (i,false)) (eP i)) (o:Goes ws eP) (i:Nat):AtY (pZ ws ex (i,false)) (yA (yX ws eP i) fun e j=>endY ws e j):=by
 unfold pZ yX
 simp only
 by_cases f:mT (zB ws i)=true
 ·obtain ⟨h1,h2,q,s⟩:=op_no f
  rw [if_neg h1,if_neg h2,if_neg (by rw [q];decide),if_neg (by rw [s];decide),if_pos f,if_pos f,y1q]
  exact two_at O n (fun l=>.mk 8 0 (zB ws i) l []) (i+1)
 rw [if_neg f,if_neg f]
 by_cases d:zB ws i=q5d
 ·rw [if_pos d,if_pos d,kT]
  refine AtY.bind (g:=fun r:Bs×Sr=>(Ex.mk 6 0 r.1 [(ex r.2).1,(ex (ex r.2).2).1] [],yI ws jQ (ex (ex r.2).2).2)) (pD true (i+1)) (fun x j _=>?_) fun _ m=>by
   have h1:(ex (m,true)).2=(m,true):=O m
   simp only [h1,jB]
  rw [y1q]
  exact two_at O n (fun l=>.mk 6 0 x l []) j
 rw [if_neg d,if_neg d]
 by_cases b:zB ws i=z6s
 ·rw [if_pos b,if_pos b,kT]
  refine AtY.bind (g:=fun r:Ex×Sr=>(Ex.mk 7 0 sNo [r.1] (mQ ws ex (ws.length+1) true r.2).1,yI ws jQ (mQ ws ex (ws.length+1) true r.2).2)) (n (i+1)) (fun a j p=>?_) fun _ m=>by simp only [y9u,jB]
  have h1:=o _ _ p
  simp only at h1
  rw [kT]
  exact AtY.bind (g:=fun r:List Arm×Sr=>(Ex.mk 7 0 sNo [a] r.1,yI ws jQ r.2)) (q6d O n o (ws.length+1) true j (by omega) (by omega)) (fun r k _=>y1k _ _) fun _ m=>by simp only [jB]
 rw [if_neg b,if_neg b]
 by_cases c:nV (zB ws i)=true
 ·rw [if_pos c,if_pos (by rw [<- mJ];exact c),y1q,kB,if_pos (.inl (by decide)),kT]
  refine AtY.bind (g:=fun r:Ex×Sr=>(Ex.mk 4 0 (zB ws i) (r.1::(z5v ws ex (ws.length+1) r.2).1) [],yI ws jQ (z5v ws ex (ws.length+1) r.2).2)) (n (i+1)) (fun a j p=>?_) fun _ m=>by simp only [q7g,jB]
  have h1:=o _ _ p
  simp only at h1
  rw [kT]
  exact AtY.bind (g:=fun r:List Ex×Sr=>(Ex.mk 4 0 (zB ws i) (a::r.1) [],yI ws jQ r.2)) (q3w n o (ws.length+1) ws.length j (by omega) (by omega) (by omega)) (fun l k _=>y1k _ _) fun _ m=>by simp only [jB]
 rw [if_neg c,if_neg (show ¬yO (zB ws i)=true by rw [<- mJ];exact c)]
 by_cases h:xT (zB ws i)=true
 ·rw [if_pos h]
  have e:vU ws i=.ok (zB ws i,i+1):=by
   unfold vU kW
   rw [kQ] at h
   rw [if_neg (by simp only [not_or,Bool.not_eq_false];exact ⟨fun g=>(by rw [g,y1n] at h;cases h),h⟩)]
  rw [e,y6l,y1q]
  refine AtY.bind (g:=fun r:List Ex×Sr=>(Ex.mk 5 0 (zB ws i) r.1 [],yI ws jQ r.2)) (q3w n o (ws.length+1) (ws.length+1) (i+1) ?_ (by omega) (by omega)) (fun l k _=>y1k _ _) fun _ m=>by simp only [jB]
  have:=vD (ws:=ws) (i:=i) (fun g=>by rw [kQ,show zB ws i=sNo from g,y1n] at h;cases h)
  omega
 ·rw [if_neg h]
  have e:vU ws i=.error (i+1):=by
   unfold vU kW
   rw [kQ] at h
   rw [if_pos (.inr (by simpa using h))]
  rw [e];exact AtY.err
theorem cJ:∀d,z0t (jF ws d)
 | 0,i=>rfl
 | d+1,i=>by unfold jF;rw [if_pos (.inl rfl)]
theorem cls_no:yO jQ=false/\yT jQ=false:=by rw [<- mJ,<- kQ];decide
theorem opn_no:yO kD=false/\yT kD=false:=by rw [<- mJ,<- kQ];decide
theorem int_cls:wH jQ=none:=by decide +kernel
theorem x5w {s:Bs} (h:yT s=true):yO s=false:=by
 simp only [yT,yO,decide_eq_true_eq] at h ⊢
 simp [h]
theorem bang_no {s:Bs} (h:zC s 0=33):yT s=false/\yO s=false:=by
 rw [<- mJ,<- kQ]
 unfold xT nV tS
 by_cases h1:s.size < 1∨24 < s.size∨zC s 0 < 97∨122 < zC s 0 <;> by_cases h2:s.size < 1∨24 < s.size∨zC s 0 < 65∨90 < zC s 0 <;> simp_all
theorem z5u:∀(d i:Nat),AtY (jF ws d (i,false)) (zS ws d i)
 | 0,i=>AtY.err
 | d+1,i=>by
  have k:=fun i=>z5u d i
  unfold jF zS
  by_cases b:zB ws i=sNo
  ·rw [if_pos (.inr (.inl b)),if_pos b];exact AtY.err
  rw [if_neg b]
  by_cases c:zB ws i=jQ
  ·rw [if_pos (.inr (.inr c)),c,int_cls]
   simp only
   rw [if_neg (by decide),if_neg (by rw [cls_no.1];decide),if_neg (fun g=>by have:=g.1;revert this;decide)]
   have e:vU ws i=.error (i+1):=by
    unfold vU kW
    rw [if_pos (.inr (by rw [c];exact cls_no.2))]
   rw [e];exact AtY.err
  rw [if_neg (by simp only [not_or];exact ⟨by decide,b,c⟩)]
  cases l:wH (zB ws i) with
  | some n=>exact AtY.ok
  | none=>
   simp only
   by_cases a:zB ws i=kD
   ·have h1:¬xT (zB ws i)=true:=by rw [kQ,a,opn_no.2];decide
    have h2:¬nV (zB ws i)=true:=by rw [mJ,a,opn_no.1];decide
    have j:¬(zC (zB ws i) 0=33/\xT ((zB ws i).extract 1 (zB ws i).size)=true):=fun g=>by have:=g.1;rw [a] at this;revert this;decide
    rw [if_neg h1,if_neg h2,if_neg j,if_neg (not_not_intro a),if_pos a]
    exact x4v (cJ d) k (xI d) (i+1)
   rw [if_neg a]
   by_cases f:xT (zB ws i)=true
   ·rw [if_pos f]
    rw [kQ] at f
    have j:¬(zC (zB ws i) 0=33/\yT ((zB ws i).extract 1 (zB ws i).size)=true):=fun g=>by rw [(bang_no g.1).1] at f;cases f
    rw [if_neg (by rw [x5w f];decide),if_neg j]
    have e:vU ws i=.ok (zB ws i,i+1):=by
     unfold vU kW
     rw [if_neg (by simp only [not_or,Bool.not_eq_false];exact ⟨b,f⟩)]
    rw [e];exact AtY.ok
   rw [if_neg f]
   by_cases h:nV (zB ws i)=true
   ·rw [if_pos h,if_pos (by rw [<- mJ];exact h)];exact AtY.ok
   rw [if_neg h,if_neg (show ¬yO (zB ws i)=true by rw [<- mJ];exact h)]
   by_cases hb:zC (zB ws i) 0=33/\xT ((zB ws i).extract 1 (zB ws i).size)=true
   ·rw [if_pos hb,if_pos (by rw [<- kQ];exact hb)];exact AtY.ok
   ·rw [if_neg hb,if_pos a,if_neg (by rw [<- kQ];exact hb)]
    have e:vU ws i=.error (i+1):=by
     unfold vU kW
     rw [kQ] at f
     rw [if_pos (.inr (by simpa using f))]
    rw [e];exact AtY.err
theorem z4g:∀(f i:Nat),i<=ws.length->ws.length < i+f->AtY (mL ws f (i,false)) (xC ws f i)
 | 0,i,h,h'=>absurd h' (by omega)
 | f+1,i,h,h'=>by
  unfold mL xC
  rw [mJ]
  by_cases a:yO (zB ws i)=true
  ·rw [if_pos ⟨rfl,a⟩,if_pos a]
   refine AtY.bind (g:=fun r=>(r.1::(mL ws f r.2).1,(mL ws f r.2).2)) (pD false i) (fun x j b=>?_) fun x m=>by simp only [dG]
   have:=con_goes _ _ b
   simp only at this
   exact AtY.bind (g:=fun r=>(x::r.1,r.2)) (z4g f j (by omega) (by omega)) (fun l k _=>rfl) fun _ _=>rfl
  ·rw [if_neg (fun g=>a g.2),if_neg a];rfl
theorem y2p:z0t (oE ws):=fun i=>by simp only [oE,cO false i,dG]
theorem q0f:∀f,z0t (pN ws f)
 | 0,i=>rfl
 | f+1,i=>by unfold pN;rw [if_pos (.inl (congrArg Prod.snd (y2p (ws:=ws) i)))];exact y2p (ws:=ws) i
theorem q6p:∀(f i:Nat),i<=ws.length->ws.length < i+f->AtY (pN ws f (i,false)) (aW ws f i)
 | 0,i,h,h'=>absurd h' (by omega)
 | f+1,i,h,h'=>by
  unfold pN aW
  have key:∀(r:Con×Sr),AtY r (yA (oS ws i) fun n i=>yA (xC ws (ws.length+1) i) fun l i=>.ok ((⟨n,l⟩:Con),i)) ->
    AtY (if r.2.2=true∨zB ws r.2.1≠y1h then ([r.1],r.2) else (r.1::(pN ws f (r.2.1+1,r.2.2)).1,(pN ws f (r.2.1+1,r.2.2)).2))
     (yA (yA (oS ws i) fun n i=>yA (xC ws (ws.length+1) i) fun l i=>.ok ((⟨n,l⟩:Con),i)) fun c i=>if zB ws i≠y1h then .ok ([c],i) else yA (aW ws f (i+1)) fun cs i=>.ok (c::cs,i)):=by
   intro r hr
   refine AtY.bind (g:=fun r:Con×Sr=>if r.2.2=true∨zB ws r.2.1≠y1h then ([r.1],r.2) else (r.1::(pN ws f (r.2.1+1,r.2.2)).1,(pN ws f (r.2.1+1,r.2.2)).2)) hr (fun c j a=>?_) fun _ m=>by simp
   simp only
   by_cases hb:zB ws j=y1h
   ·rw [if_neg (by simp [hb]),if_neg (not_not_intro hb)]
    have b:Goes ws fun i=>yA (oS ws i) fun n i=>yA (xC ws (ws.length+1) i) fun l i=>.ok ((⟨n,l⟩:Con),i):=con_goes.bind fun n=>(gR _).bind fun l=>Stays.ok _
    have h1:=b _ _ a
    simp only at h1
    have h2:=vD (ws:=ws) (i:=j) (fun g=>by rw [g] at hb;revert hb;decide)
    exact AtY.bind (g:=fun r=>(c::r.1,r.2)) (q6p f (j+1) (by omega) (by omega)) (fun l k _=>rfl) fun _ _=>rfl
   ·rw [if_pos (.inr hb),if_pos hb];rfl
  have h1:=key (oE ws (i,false)) (by
   unfold oE
   refine AtY.bind (g:=fun r:Bs×Sr=>((⟨r.1,(mL ws (ws.length+1) r.2).1⟩:Con),(mL ws (ws.length+1) r.2).2)) (pD false i) (fun n j a=>?_) fun _ m=>by simp only [dG]
   have:=con_goes _ _ a
   simp only at this
   exact AtY.bind (g:=fun r:List Bs×Sr=>((⟨n,r.1⟩:Con),r.2)) (z4g (ws.length+1) j (by omega) (by omega)) (fun l k _=>rfl) fun _ _=>rfl)
  simp only [kT,y6l] at h1
  exact h1
theorem q6s (i:Nat):AtY (j5x ws (i,false)) (nK ws i):=by
 unfold j5x nK
 refine AtY.bind (g:=fun r:Bs×Sr=>((⟨r.1,(pN ws (ws.length+1) (yI ws sEq r.2)).1⟩:Data),(pN ws (ws.length+1) (yI ws sEq r.2)).2)) (pD false i) (fun n j _=>?_) fun _ m=>by simp only [jB,q0f _ m]
 refine AtY.bind (g:=fun r:Unit×Sr=>((⟨n,(pN ws (ws.length+1) r.2).1⟩:Data),(pN ws (ws.length+1) r.2).2)) (mV (by decide) j) (fun _ k a=>?_) fun _ m=>by simp only [q0f _ m]
 have:=vL _ _ _ a
 simp only at this
 exact AtY.bind (g:=fun r:List Con×Sr=>((⟨n,r.1⟩:Data),r.2)) (q6p (ws.length+1) k (by omega) (by omega)) (fun l k _=>rfl) fun _ _=>rfl
theorem z2y (i:Nat):AtY (gC ws (i,false)) (xX ws i):=by
 unfold gC xX
 refine AtY.bind (g:=fun r:Bs×Sr=>((⟨r.1,(yJ ws false (yI ws mP r.2)).1⟩:Param),(yJ ws false (yI ws mP r.2)).2)) (pD true i) (fun n j _=>?_) fun _ m=>by simp only [jB,cO false m]
 refine AtY.bind (g:=fun r:Unit×Sr=>((⟨n,(yJ ws false r.2).1⟩:Param),(yJ ws false r.2).2)) (mV (by decide) j) (fun _ k _=>?_) fun _ m=>by simp only [cO false m]
 exact AtY.bind (g:=fun r:Bs×Sr=>((⟨n,r.1⟩:Param),r.2)) (pD false k) (fun t l _=>rfl) fun _ _=>rfl
theorem y5w:∀(f i:Nat),i<=ws.length->ws.length < i+f->AtY (vC ws f (i,false)) (vZ ws f i)
 | 0,i,h,h'=>absurd h' (by omega)
 | f+1,i,h,h'=>by
  unfold vC vZ
  by_cases a:zB ws i=kD
  ·rw [if_pos ⟨rfl,a⟩,if_pos a]
   refine AtY.bind (g:=fun r:Param×Sr=>(r.1::(vC ws f (yI ws jQ r.2)).1,(vC ws f (yI ws jQ r.2)).2)) (z2y (i+1)) (fun x j b=>?_) fun x m=>by simp only [jB,z1p]
   have h1:=param_goes _ _ b
   refine AtY.bind (g:=fun r:Unit×Sr=>(x::(vC ws f r.2).1,(vC ws f r.2).2)) (mV (by decide) j) (fun _ k c=>?_) fun x m=>by simp only [z1p]
   have h2:=vL _ _ _ c
   simp only at h1 h2
   exact AtY.bind (g:=fun r=>(x::r.1,r.2)) (y5w f k (by omega) (by omega)) (fun l k _=>rfl) fun _ _=>rfl
  ·rw [if_neg (fun g=>a g.2),if_neg a];rfl
theorem j6e (i:Nat):AtY (funY ws (i,false)) (dH ws i):=by
 unfold funY dH
 refine AtY.bind (g:=fun r:Bs×Sr=>((⟨r.1,(vC ws (ws.length+1) r.2).1,(yJ ws false (yI ws mP (vC ws (ws.length+1) r.2).2)).1,(jF ws 250 (yI ws sEq (yJ ws false (yI ws mP (vC ws (ws.length+1) r.2).2)).2)).1⟩:Fun),(jF ws 250 (yI ws sEq (yJ ws false (yI ws mP (vC ws (ws.length+1) r.2).2)).2)).2))
  (pD true i) (fun n j a=>?_) fun _ m=>by simp only [z1p,jB,cO false m,cJ 250 m]
 have h1:=z2w _ _ a
 simp only at h1
 refine AtY.bind (g:=fun r:List Param×Sr=>((⟨n,r.1,(yJ ws false (yI ws mP r.2)).1,(jF ws 250 (yI ws sEq (yJ ws false (yI ws mP r.2)).2)).1⟩:Fun),(jF ws 250 (yI ws sEq (yJ ws false (yI ws mP r.2)).2)).2))
  (y5w (ws.length+1) j (by omega) (by omega)) (fun ps c _=>?_) fun _ m=>by simp only [jB,cO false m,cJ 250 m]
 refine AtY.bind (g:=fun r:Unit×Sr=>((⟨n,ps,(yJ ws false r.2).1,(jF ws 250 (yI ws sEq (yJ ws false r.2).2)).1⟩:Fun),(jF ws 250 (yI ws sEq (yJ ws false r.2).2)).2)) (mV (by decide) c) (fun _ d _=>?_) fun _ m=>by simp only [jB,cO false m,cJ 250 m]
 refine AtY.bind (g:=fun r:Bs×Sr=>((⟨n,ps,r.1,(jF ws 250 (yI ws sEq r.2)).1⟩:Fun),(jF ws 250 (yI ws sEq r.2)).2)) (pD false d) (fun t e _=>?_) fun _ m=>by simp only [jB,cJ 250 m]
 refine AtY.bind (g:=fun r:Unit×Sr=>((⟨n,ps,t,(jF ws 250 r.2).1⟩:Fun),(jF ws 250 r.2).2)) (mV (by decide) e) (fun _ f _=>?_) fun _ m=>by simp only [cJ 250 m]
 exact AtY.bind (g:=fun r:Ex×Sr=>((⟨n,ps,t,r.1⟩:Fun),r.2)) (z5u 250 f) (fun b k _=>rfl) fun _ _=>rfl
theorem y9x {α:Type} {t:α×Sr} {r:Rd α} {x:α} {j:Nat} (h:AtY t r) (hr:r=.ok (x,j)):t=(x,(j,false)):=by rw [hr] at h;exact h
theorem z7k {α:Type} {t:α×Sr} {r:Rd α} {n:Nat} (h:AtY t r) (hr:r=.error n):∃m,n=m+1/\t.2=(m,true):=by rw [hr] at h;exact h
theorem y3q (f:Nat) (c:Core) (i:Nat):dX ws f c (i,true)=(c,(i,true)):=by cases f <;> simp [dX]
def AtC (t:Core×Sr) (r:Except Nat Core):Prop:=match r with
 | .ok d=>∃j,t=(d,(j,false))
 | .error n=>∃m,n=m+1/\t.2=(m,true)
theorem q0k:∀(f:Nat) (c:Core) (i:Nat),i<=ws.length->ws.length < i+f->AtC (dX ws f c (i,false)) (qW ws f c i)
 | 0,c,i,h,h'=>absurd h' (by omega)
 | f+1,c,i,h,h'=>by
  unfold dX qW
  by_cases k:i < ws.length
  ·rw [if_pos (show (i,false).1 < ws.length/\(i,false).2=false from ⟨k,rfl⟩),if_pos k]
   have step:∀{α:Type} {t:α×Sr} {r:Rd α} (g:α->Core),AtY t r->(∀x j,r=.ok (x,j)->i < j/\j<=ws.length) ->
     (∀x j,r=.ok (x,j)->AtC (dX ws f (g t.1) t.2) (qW ws f (g x) j))/\∀n,r=.error n->AtC (dX ws f (g t.1) t.2) (.error n):=by
    intro α t r g l hG
    refine ⟨fun x j hr=>?_,fun n hr=>?_⟩
    ·have h2:=y9x l hr
     have:=hG x j hr
     subst h2
     exact q0k f (g x) j (by omega) (by omega)
    ·obtain ⟨m,N,h2⟩:=z7k l hr
     exact ⟨m,N,by rw [h2,y3q]⟩
   unfold pX
   by_cases h1:zB ws i=dI
   ·rw [if_pos h1,if_pos h1]
    have h_:=step (fun d=>{ c with datas:=c.datas++[d] }) (q6s (i+1)) fun x j a=>by have:=z7u (ws:=ws) _ _ a;simp only at this;omega
    cases hr:nK ws (i+1) with
    | error n=>exact h_.2 n hr
    | ok y=>obtain ⟨x,j⟩:=y;exact h_.1 x j hr
   rw [if_neg h1,if_neg h1]
   by_cases h2:zB ws i=aH
   ·rw [if_pos h2,if_pos h2]
    have h_:=step (fun d=>{ c with inputs:=c.inputs++[d] }) (z2y (i+1)) fun x j a=>by have:=param_goes (ws:=ws) _ _ a;simp only at this;omega
    cases hr:xX ws (i+1) with
    | error n=>exact h_.2 n hr
    | ok y=>obtain ⟨x,j⟩:=y;exact h_.1 x j hr
   rw [if_neg h2,if_neg h2]
   by_cases b:zB ws i=y5f
   ·rw [if_pos b,if_pos b]
    have h_:=step (fun d=>{ c with funs:=c.funs++[d] }) (j6e (i+1)) fun x j a=>by have:=y4r (ws:=ws) _ _ a;simp only at this;omega
    cases hr:dH ws (i+1) with
    | error n=>exact h_.2 n hr
    | ok y=>obtain ⟨x,j⟩:=y;exact h_.1 x j hr
   rw [if_neg b,if_neg b]
   by_cases e:zB ws i=sG
   ·rw [if_pos e,if_pos e]
    have h_:=step (fun d=>{ c with outputs:=c.outputs++[d] }) (pD true (i+1)) fun x j a=>by have:=z2w (ws:=ws) _ _ a;simp only at this;omega
    cases hr:vU ws (i+1) with
    | error n=>exact h_.2 n hr
    | ok y=>obtain ⟨x,j⟩:=y;exact h_.1 x j hr
   rw [if_neg e,if_neg e]
   exact ⟨i,rfl,by rw [y3q]⟩
  ·rw [if_neg (show ¬((i,false).1 < ws.length/\(i,false).2=false) from fun g=>k g.1),if_neg k];exact ⟨i,rfl⟩
end
section
variable {ws:List Bs}
def LeY {α:Type} (ws:List Bs) (t:Sr->α×Sr):Prop:=∀s,s.1<=ws.length->(t s).2.1<=ws.length
def y9o {α:Type} (t:Sr->α×Sr):Prop:=∀s,s.2=false->(t s).2.2=true∨s.1 < (t s).2.1
theorem wO {i:Nat} {w:Bs} (h:zB ws i=w) (a:w≠sNo):i < ws.length:=vD (ws:=ws) (i:=i) fun g=>a (h▸g)
theorem vV {w:Bs} (a:w≠sNo) {s:Sr} (h:s.1<=ws.length):(yI ws w s).1<=ws.length:=by
 unfold yI
 split
 ·exact h
 ·rename_i g
  simp only [not_or,Decidable.not_not] at g
  exact wO g.2 a
theorem kR (v:Bool):LeY ws (yJ ws v):=fun s h=>by
 unfold yJ
 split
 ·exact h
 ·rename_i g
  simp only [not_or] at g
  have:zB ws s.1≠sNo:=fun e=>g.2 (by rw [e,j2i];cases v;exact j1k;exact y1n)
  exact wO rfl this
theorem z4l (v:Bool):y9o (yJ ws v):=fun s h=>by
 unfold yJ
 split
 ·exact .inl rfl
 ·exact .inr (Nat.lt_succ_self _)
def vQ {α:Type} (c:Nat->Bool) (b:Sr->α×Sr):Nat->Sr->List α×Sr
 | 0,s=>([],s)
 | f+1,s=>if s.2=false/\c s.1=true then ((b s).1::(vQ c b f (b s).2).1,(vQ c b f (b s).2).2) else ([],s)
theorem z1l {α:Type} {c:Nat->Bool} {b:Sr->α×Sr} (hb:LeY ws b):∀f,LeY ws (vQ c b f)
 | 0=>fun s h=>h
 | f+1=>fun s h=>by
  unfold vQ
  split
  ·exact z1l hb f _ (hb s h)
  ·exact h
structure LoopY {α:Type} (ws:List Bs) (c:Nat->Bool) (b:Sr->α×Sr) (r:List α×Sr) (l:List α) (f:Nat) (s:Sr):Prop where
 eq:r=(l++(vQ c b f s).1,(vQ c b f s).2)
 le:s.1<=ws.length
 gas:s.2=false->ws.length < s.1+f
theorem LoopY.start {α:Type} {c:Nat->Bool} {b:Sr->α×Sr} {s:Sr} (h:s.1<=ws.length):LoopY ws c b (vQ c b (ws.length+1) s) [] (ws.length+1) s:=⟨by simp,h,fun _=>by omega⟩
theorem LoopY.next {α:Type} {c:Nat->Bool} {b:Sr->α×Sr} {r:List α×Sr} {l:List α} {f:Nat} {s:Sr} (a:LoopY ws c b r l f s) (hl:LeY ws b) (e:y9o b) (h1:s.2=false) (h2:c s.1=true) :
  0 < f/\LoopY ws c b r (l++[(b s).1]) (f - 1) (b s).2:=by
 have i:=a.gas h1
 have d:=a.le
 obtain ⟨f,rfl⟩:∃k,f=k+1:=⟨f - 1,by omega⟩
 refine ⟨Nat.succ_pos _,?_,hl s a.le,fun h=>?_⟩
 ·have:=a.eq
  rw [vQ,if_pos ⟨h1,h2⟩] at this
  rw [this];simp
 ·rcases e s h1 with g | g
  ·rw [h] at g;cases g
  ·simp only [Nat.add_sub_cancel];omega
theorem LoopY.fin {α:Type} {c:Nat->Bool} {b:Sr->α×Sr} {r:List α×Sr} {l:List α} {f:Nat} {s:Sr} (a:LoopY ws c b r l f s) (h:s.2=true∨c s.1=false):r=(l,s):=by
 have e:vQ c b f s=([],s):=by
  cases f with
  | zero=>rfl
  | succ f=>rw [vQ,if_neg];rcases h with h | h <;> simp [h]
 rw [a.eq,e];simp
theorem tE {ex:Sr->Ex×Sr}:∀f,z5v ws ex f=vQ (fun i=>decide (zB ws i≠jQ)) ex f
 | 0=>rfl
 | f+1=>by funext s;unfold z5v vQ;simp only [tE f,decide_eq_true_eq]
theorem z5b:∀f,dR ws f=vQ (fun i=>decide (zB ws i≠wY)) (yJ ws true) f
 | 0=>rfl
 | f+1=>by funext s;unfold dR vQ;simp only [z5b f,decide_eq_true_eq]
theorem uB:∀f,mL ws f=vQ (fun i=>nV (zB ws i)) (yJ ws false) f
 | 0=>rfl
 | f+1=>by funext s;unfold mL vQ;simp only [uB f]
def gD (ws:List Bs) (s:Sr):Param×Sr:=((gC ws (s.1+1,s.2)).1,yI ws jQ (gC ws (s.1+1,s.2)).2)
theorem z6j:∀f,vC ws f=vQ (fun i=>decide (zB ws i=kD)) (gD ws) f
 | 0=>rfl
 | f+1=>by funext s;unfold vC vQ;simp only [z6j f,decide_eq_true_eq];rfl
theorem j5m {ex:Sr->Ex×Sr} (J:LeY ws ex):LeY ws (z5i ws ex):=fun s h=>by
 unfold z5i
 simp only
 refine vV (by decide) (J _ (vV (by decide) ?_))
 rw [z5b]
 exact z1l (kR true) _ _ (kR false _ (vV (by decide) h))
theorem q6e {ex:Sr->Ex×Sr} (J:LeY ws ex):∀f b,LeY ws (mQ ws ex f b)
 | 0,_=>fun s h=>h
 | f+1,b=>fun s h=>by
  unfold mQ
  split
  ·exact q6e J f false _ (j5m J s h)
  ·exact h
theorem q7k {ex:Sr->Ex×Sr} (J:LeY ws ex):LeY ws (pZ ws ex):=fun s h=>by
 unfold pZ
 simp only
 have a:∀{w:Bs},w≠sNo->zB ws s.1=w->s.1+1<=ws.length:=fun c g=>wO g c
 split
 ·rename_i g
  exact vV (by decide) (J _ (J _ (kR true (s.1+1,s.2) (a (by decide) g))))
 ·split
  ·rename_i g
   exact vV (by decide) (q6e J _ _ _ (J (s.1+1,s.2) (a (by decide) g)))
  ·have hq:∀{p:Bs->Bool},p sNo=false->p (zB ws s.1)=true->s.1+1<=ws.length:=fun b h1=>wO rfl fun e=>by rw [e,b] at h1;cases h1
   split
   ·rename_i g
    rw [tE]
    exact vV (by decide) (z1l J _ _ (J (s.1+1,s.2) (hq (p:=nV) (by decide) g)))
   ·split
    ·rename_i g
     rw [tE]
     exact vV (by decide) (z1l J _ _ (hq (p:=xT) (by decide) g))
    ·split
     ·rename_i g
      exact vV (by decide) (J _ (J (s.1+1,s.2) (hq (p:=mT) (by decide) g)))
     ·exact h
theorem oK:∀d,LeY ws (jF ws d)
 | 0=>fun s h=>h
 | d+1=>fun s h=>by
  unfold jF
  split
  ·exact h
  ·rename_i g
   simp only [not_or] at g
   have h1:s.1+1<=ws.length:=wO rfl g.2.1
   split
   ·exact h1
   ·split
    ·exact h1
    ·split
     ·exact h1
     ·split
      ·exact h1
      ·split
       ·exact h
       ·exact q7k (oK d) (s.1+1,s.2) h1
theorem y4i (d:Nat):y9o (jF ws d):=fun s h=>by
 obtain ⟨i,b⟩:=s
 simp only at h
 subst h
 have h1:=z5u (ws:=ws) d i
 cases hr:zS ws d i with
 | ok y=>
  obtain ⟨x,j⟩:=y
  have h2:=y9x h1 hr
  have a:=xI d _ _ hr
  rw [h2];exact .inr a.1
 | error n=>
  obtain ⟨m,_,h2⟩:=z7k h1 hr
  rw [h2];exact .inl rfl
theorem j8g (d:Nat):y9o (z5i ws (jF ws d)):=fun s h=>by
 obtain ⟨i,b⟩:=s
 simp only at h
 subst h
 have h1:=j5l (ws:=ws) (ex:=jF ws d) (eP:=zS ws d) (cJ d) (fun i=>z5u d i) i
 cases hr:armP ws (zS ws d) i with
 | ok y=>
  obtain ⟨x,j⟩:=y
  have h2:=y9x h1 hr
  have a:=y2b (xI d) _ _ hr
  rw [h2];exact .inr a.1
 | error n=>
  obtain ⟨m,_,h2⟩:=z7k h1 hr
  rw [h2];exact .inl rfl
theorem z8u:LeY ws (gC ws):=fun s h=>by
 unfold gC
 exact kR false _ (vV (by decide) (kR true _ h))
end
theorem y6a:∀(f u:Nat),u < f->u<=9223372036854775808->∀r,Lib.parseUint10 0 (Lib.decDigits u++r)=Lib.parseUint10 u r
 | 0,_,h,_,_=>by omega
 | f+1,u,h,b,r=>by
  rw [Lib.decDigits]
  by_cases a:u < 10
  ·rw [dif_pos a,List.singleton_append,Lib.parseUint10]
   have e:(UInt8.ofNat (48+u)).toNat=48+u:=by rw [UInt8.toNat_ofNat'];omega
   rw [e,if_pos (by omega),if_neg (by omega),if_neg (by omega)]
   congr 1;omega
  ·rw [dif_neg a,List.append_assoc,y6a f (u / 10) (by omega) (by omega),List.singleton_append,Lib.parseUint10]
   have e:(UInt8.ofNat (48+u % 10)).toNat=48+u % 10:=by rw [UInt8.toNat_ofNat'];omega
   rw [e,if_pos (by omega),if_neg (by omega),if_neg (by omega)]
   congr 1;omega
theorem digs_ne (u:Nat):Lib.decDigits u≠[]:=by
 rw [Lib.decDigits];split <;> simp
theorem q2a {u:Nat} (h:u<=9223372036854775808):Lib.parseMag (Lib.decDigits u)=.ok u:=by
 unfold Lib.parseMag
 rw [if_neg (digs_ne u)]
 have:=y6a (u+1) u (Nat.lt_succ_self _) h []
 rw [List.append_nil] at this
 rw [this];rfl
theorem j9a (u:Nat):∃b r,Lib.decDigits u=b::r/\48<=b.toNat/\b.toNat<=57:=by
 obtain ⟨b,r,e,h⟩:=x0c (u:Int)
 have e2:z0n (u:Int)=Lib.decDigits u:=by rw [<- j6u];unfold Lib.itoa;rw [if_neg (by omega)];rfl
 rw [e2] at e
 rcases h with rfl | h
 ·exfalso
  have h1:(45:UInt8)∈Lib.decDigits u:=by rw [e];exact msQ
  rw [<- z2n (u+1) u (Nat.lt_succ_self _)] at h1
  have:=y3w _ _ _ (List.mem_reverse.1 h1)
  exact absurd this (by decide)
 ·exact ⟨b,r,e,h⟩
theorem j8h {n:Int} (h:I64 n):Lib.atoiAll (Lib.itoa n)=.ok n:=by
 unfold I64 at h
 unfold Lib.itoa
 split
 ·rename_i a
  have h1:=q2a (u:=n.natAbs) (by omega)
  simp only [Lib.atoiAll]
  rw [if_pos (.inr rfl),h1]
  simp only
  rw [if_neg (by intro h;exact h.1 rfl),if_neg (by intro h;omega)]
  simp only [show ((45:UInt8).toNat=45)=True from by simp,if_true]
  congr 1;omega
 ·rename_i a
  have h1:=q2a (u:=n.toNat) (by omega)
  obtain ⟨b,r,e,hb⟩:=j9a n.toNat
  rw [e] at h1 ⊢
  simp only [Lib.atoiAll]
  rw [if_neg (by omega),h1]
  simp only
  rw [if_neg (by intro h;omega),if_neg (by intro h;omega),if_neg (by omega)]
  congr 1;omega
theorem x5g {n:Int} (h:I64 n):wH (mC n)=some n:=by
 unfold wH
 have h1:oZ (mC n)=.ok n:=by
  unfold oZ
  rw [show (mC n).data.toList=Lib.itoa n from by simp [mC],j8h h]
 rw [h1]
 exact if_pos rfl
def z3n (c:Nat):Bool := !(decide (c < 48) || decide (57 < c))
def tZ (t:Bs):Nat->Nat
 | 0=>0
 | i+1=>(10 * tZ t i+(zC t i - 48)) % 18446744073709551616
def sR (s:Bs):Bool:=decide (0 < s.size)&&decide (zC s 0=45)
def nY (s:Bs):Bs:=if sR s=true then s.extract 1 s.size else s
theorem z2x {l:Tx} {i:Nat} {c:UInt8} (h:l[i]? = some c):zC (xO l) i=c.toNat:=by
 have hl:i < l.length:=(List.getElem?_eq_some_iff.1 h).1
 have O:i < (xO l).size:=by rw [kI];exact hl
 rw [pI O]
 congr 1
 have:(xO l)[i]=l[i]:=by simp [xO,ByteArray.getElem_eq_getElem_data];rfl
 rw [this]
 have:=List.getElem?_eq_getElem hl
 rw [h] at this
 exact (Option.some.inj this).symm
theorem q0n {l:Tx}:∀{i:Nat},i<=l.length->tZ (xO l) i=((l.take i).foldl (fun a c=>(10 * a+(c.toNat - 48)) % 18446744073709551616) 0)
 | 0,_=>rfl
 | i+1,h=>by
  have hl:i < l.length:=by omega
  have e:l[i]? = some l[i]:=List.getElem?_eq_getElem hl
  rw [tZ,q0n (by omega),z2x e,List.take_add_one,e,Option.toList,List.foldl_append];rfl
theorem y1j {n:Nat} (h:n < 10):((48+n).toUInt8).toNat=48+n:=by simp [Nat.toUInt8];omega
theorem z2m (n:Nat):((vP n).foldl (fun a (c:UInt8)=>(10 * a+(c.toNat - 48)) % 18446744073709551616) 0)=n % 18446744073709551616/\(∀c∈vP n,z3n c.toNat=true)/\vP n≠[]:=by
 induction n using Nat.strongRecOn with
 | ind n d=>
  by_cases h:n < 10
  ·rw [z2l h]
   refine ⟨?_,?_,by simp⟩
   ·simp only [List.foldl_cons,List.foldl_nil,y1j h];congr 1;omega
   ·intro c b
    simp only [List.mem_singleton] at b
    subst b
    rw [y1j h];unfold z3n;simp;omega
  ·rw [y3u h,z2l (n:=n % 10) (by omega)]
   obtain ⟨h1,h2,e⟩:=d (n / 10) (by omega)
   refine ⟨?_,?_,by simp⟩
   ·rw [List.foldl_append,h1]
    simp only [List.foldl_cons,List.foldl_nil,y1j (n:=n % 10) (by omega)]
    omega
   ·intro c b
    rcases List.mem_append.1 b with b | b
    ·exact h2 c b
    ·simp only [List.mem_singleton] at b
     subst b
     rw [y1j (by omega)];unfold z3n;simp;omega
theorem j1r {n i:Nat} (h:i < (vP n).length):z3n (zC (xO (vP n)) i)=true:=by
 have e:(vP n)[i]? = some (vP n)[i]:=List.getElem?_eq_getElem h
 rw [z2x e]
 exact (z2m n).2.1 _ (List.getElem_mem h)
theorem j8o {c:UInt8} {l:Tx}:(xO (c::l)).extract 1 (xO (c::l)).size=xO l:=by
 apply ByteArray.ext
 apply Array.ext'
 have h:(xO (c::l)).size=l.length+1:=by rw [kI];rfl
 rw [h]
 simp [xO,ByteArray.data_extract]
theorem q1w {s:Bs} {v:Int} (h:wH s=some v):nY s=xO (vP v.natAbs)/\sR s=decide (v < 0)/\I64 v/\mC v=s:=by
 have O:mC v=s:=by
  unfold wH at h
  split at h
  ·split at h
   ·rename_i g;cases h;exact g
   ·cases h
  ·cases h
 have key:nY s=xO (vP v.natAbs)/\sR s=decide (v < 0):=by
  subst O
  rw [z6a,z0n]
  by_cases a:v < 0
  ·have e:(-v).toNat=v.natAbs:=by omega
   have h1:sR (xO (45::vP (-v).toNat))=true:=by
    unfold sR
    rw [kI,z2x (l:=45::vP (-v).toNat) (i:=0) (c:=45) rfl];rfl
   rw [if_pos a]
   refine ⟨?_,by rw [h1,decide_eq_true a]⟩
   unfold nY
   rw [if_pos h1,j8o,e]
  ·have e:v.toNat=v.natAbs:=by omega
   have h1:sR (xO (vP v.toNat))=false:=by
    unfold sR
    obtain ⟨_,h2,d⟩:=z2m v.toNat
    obtain ⟨c,l,b⟩:=List.exists_cons_of_ne_nil d
    rw [Bool.and_eq_false_iff]
    refine .inr (decide_eq_false ?_)
    rw [z2x (l:=vP v.toNat) (i:=0) (c:=c) (by rw [b];rfl)]
    have:=h2 c (by rw [b];exact msQ)
    intro g
    rw [g] at this
    revert this;decide
   rw [if_neg a]
   refine ⟨?_,by rw [h1,decide_eq_false a]⟩
   unfold nY
   rw [if_neg (by rw [h1];decide),e]
 exact ⟨key.1,key.2,y5a h,O⟩
theorem q8l {s:Bs} {v:Int} (h:wH s=some v):1<=(nY s).size/\(nY s).size<=19/\(∀i,i < (nY s).size->z3n (zC (nY s) i)=true)/\tZ (nY s) (nY s).size=v.natAbs:=by
 obtain ⟨h1,_,b,_⟩:=q1w h
 have hb:v.natAbs<=9223372036854775808:=by have:=b.1;have:=b.2;omega
 rw [h1,kI]
 have a:=(z2m v.natAbs).2.2
 refine ⟨List.length_pos_iff.2 a,?_,fun i c=>j1r c,?_⟩
 ·unfold vP;rw [List.length_reverse];exact z7w 18 _ _ (by omega)
 ·rw [q0n (Nat.le_refl _),List.take_length,(z2m v.natAbs).1];omega
def y0s (b:Bool) (n:Nat):Int:=if b=true then IntKind.i64.wrap (IntKind.u64.wrap (0 - ((n:Nat):Int))) else IntKind.i64.wrap ((n:Nat):Int)
theorem q9q (b:Bool) (n:Nat):I64 (y0s b n):=by
 unfold y0s;split <;> exact I64.of_wrap _
theorem x7f {v:Int} (h:I64 v):y0s (decide (v < 0)) v.natAbs=v:=by
 have h1:=h.1;have h2:=h.2
 unfold y0s
 by_cases a:v < 0
 ·rw [if_pos (by simp [a])]
  simp only [IntKind.wrap,IntKind.signed,IntKind.bits];simp;omega
 ·rw [if_neg (by simp [a])]
  simp only [IntKind.wrap,IntKind.signed,IntKind.bits];simp;omega
theorem y1p {s:Bs} (h:(nY s).size < 1∨19 < (nY s).size∨∃i,i < (nY s).size/\z3n (zC (nY s) i)=false):wH s=none:=by
 cases b:wH s with
 | none=>rfl
 | some v=>
  obtain ⟨h1,h2,a,_⟩:=q8l b
  rcases h with h | h | ⟨i,h,g⟩
  ·omega
  ·omega
  ·rw [a i h] at g;cases g
theorem x6a {s:Bs} (h:mC (y0s (sR s) (tZ (nY s) (nY s).size))=s):wH s=some (y0s (sR s) (tZ (nY s) (nY s).size)):=by
 have:=x5g (q9q (sR s) (tZ (nY s) (nY s).size))
 rwa [h] at this
theorem numR_ne {s:Bs} (h:¬mC (y0s (sR s) (tZ (nY s) (nY s).size))=s):wH s=none:=by
 cases a:wH s with
 | none=>rfl
 | some v=>
  obtain ⟨h1,h2,b,c⟩:=q1w a
  obtain ⟨_,_,_,d⟩:=q8l a
  rw [d,h2,x7f b] at h
  exact absurd c h
structure WordsI (s:Bs) (out:List Bs) (fr i:Nat):Prop where
 le:fr<=i
 top:i<=s.size+1
 run:∀j,fr<=j->j < i->oY (zC s j)=false
 end_:s.size < i->s.size < fr
 len:out.length<=fr
 eq:∃f,s.size<=fr+f/\vE s=out++vW s f fr
theorem WordsI.start (s:Bs):WordsI s [] 0 0:=⟨Nat.le_refl _,Nat.zero_le _,fun _ _ h=>absurd h (Nat.not_lt_zero _),fun h=>absurd h (Nat.not_lt_zero _),Nat.zero_le _,s.size,by omega,rfl⟩
theorem q5e (c:Nat):oY c=true↔(c=32∨c=10)∨c=40∨c=41:=by
 unfold oY
 simp only [Bool.or_eq_true,decide_eq_true_eq]
 omega
theorem WordsI.on {s:Bs} {out:List Bs} {fr i:Nat} (h:WordsI s out fr i) (b:i < s.size) (O:oY (zC s i)=false):WordsI s out fr (i+1) :=
 ⟨Nat.le_succ_of_le h.le,by omega,fun j h1 h2=>by
  by_cases a:j=i
  ·subst a;exact O
  ·exact h.run j h1 (by omega),fun g=>by omega,h.len,h.eq⟩
theorem j0k {s:Bs} {fr i:Nat} (b:fr<=i) (f:i<=s.size) (hr:∀j,fr<=j->j < i->oY (zC s j)=false) (J:i < s.size->oY (zC s i)=true):qD s fr=i - fr:=by
 have h1:=z0i (t:=s) (i:=fr) (by omega)
 have h2:=oT (fun c=> !oY c) s s.size fr
 have a:=y6t (fun c=> !oY c) s s.size fr (by omega)
 have e:yR (fun c=> !oY c) s s.size fr=qD s fr:=rfl
 rw [e] at h2 a
 by_cases d:qD s fr < i - fr
 ·have:=a (by omega)
  rw [hr (fr+qD s fr) (by omega) (by omega)] at this
  cases this
 ·by_cases hb:i - fr < qD s fr
  ·have:=h2 (i - fr) hb
   rw [show fr+(i - fr)=i by omega] at this
   rw [J this.1] at this
   cases this.2
  ·omega
theorem WordsI.word {s:Bs} {out:List Bs} {fr i:Nat} (h:WordsI s out fr i) (e:i<=s.size) (J:i < s.size->oY (zC s i)=true) :
  (if fr < i then out++[s.extract fr i] else out).length<=i/\∃f,s.size<=i+f/\vE s=(if fr < i then out++[s.extract fr i] else out)++vW s f i:=by
 obtain ⟨f,c,hq⟩:=h.eq
 have hl:=h.len
 by_cases a:fr < i
 ·rw [if_pos a]
  have j:=j0k h.le e h.run J
  have b:=h.run fr (Nat.le_refl _) a
  have d:¬((zC s fr=32∨zC s fr=10)∨zC s fr=40∨zC s fr=41):=fun g=>by rw [(q5e _).2 g] at b;cases b
  have h1:=y7s (t:=s) (f:=f) (i:=fr) (by omega) c (fun g=>d (.inl g)) (fun g=>d (.inr g))
  rw [j,show fr+(i - fr)=i by omega] at h1
  refine ⟨by simp;omega,f - 1,by omega,?_⟩
  rw [hq,h1];simp
 ·rw [if_neg a]
  have:fr=i:=Nat.le_antisymm h.le (by omega)
  subst this
  exact ⟨hl,f,c,hq⟩
theorem WordsI.sep {s:Bs} {out:List Bs} {fr i:Nat} (h:WordsI s out fr i) (b:i<=s.size) (J:i=s.size∨zC s i=32∨zC s i=10):WordsI s (if fr < i then out++[s.extract fr i] else out) (i+1) (i+1):=by
 obtain ⟨hl,f,a,hq⟩:=h.word b (fun g=>(q5e _).2 (.inl (J.resolve_left (by omega))))
 refine ⟨Nat.le_refl _,by omega,fun j h1 h2=>by omega,fun g=>by omega,by omega,?_⟩
 by_cases c:i=s.size
 ·refine ⟨0,by omega,?_⟩
  rw [hq,z3d (by omega),z3d (by omega)]
 ·exact ⟨f - 1,by omega,by rw [hq,j0m (by omega) a (J.resolve_left c)]⟩
theorem WordsI.par {s:Bs} {out:List Bs} {fr i:Nat} (h:WordsI s out fr i) (c:i < s.size) (b:¬(zC s i=32∨zC s i=10)) (J:zC s i=40∨zC s i=41):WordsI s ((if fr < i then out++[s.extract fr i] else out)++[s.extract i (i+1)]) (i+1) (i+1):=by
 obtain ⟨hl,f,a,hq⟩:=h.word (by omega) (fun g=>(q5e _).2 (.inr J))
 refine ⟨Nat.le_refl _,by omega,fun j h1 h2=>by omega,fun g=>by omega,by rw [laQ];simp only [lcQ,lnQ];omega,f - 1,by omega,?_⟩
 rw [hq,q2w (by omega) a b J];simp
theorem WordsI.fin {s:Bs} {out:List Bs} {fr i:Nat} (h:WordsI s out fr i) (b:¬i<=s.size):out=vE s/\out.length<=s.size+1:=by
 obtain ⟨f,_,hq⟩:=h.eq
 have:=h.end_ (by omega)
 rw [z3d (by omega),List.append_nil] at hq
 have h1:=h.len;have h2:=h.le;have a:=h.top
 exact ⟨hq.symm,by omega⟩
section
variable {V:Fz} {K:List Res} {w:World}
theorem y9h {l:List Bs} {v:Value} {d1:List Value} {e:Ex} (m1:REx V d1 e) (hb:l.length+(yH e).length<=8796093000000) (ih:∀x:Ex,x.sz < e.sz->∀{V:Fz} {K:List Res} {w:World} {d:List Value} {v:Value} {l:List Bs},l.length+(yH x).length<=8796093000000->REx V d x->Mem V (.gs v 9 1 (strs l)::K) w->Calls prog 147 #[v,.agg d.toArray] w (fun ee w'=>∃v,ee=.returned v/\Mem V (.gs v 9 1 (strs (l++yH x))::K) w')) (N:Mem V (.gs v 9 1 (strs l)::K) w) :
  Calls prog 147 #[v,.agg d1.toArray] w (fun ee w'=>∃v,ee=.returned v/\Mem V (.gs v 9 1 (strs (l++yH e))::K) w'):=by
 obtain ⟨X,c4,p9,t,rfl,N1,h2,h8,G2,k0,T1,G⟩:=REx.fm m1
 refine zI func147 ntmps147 fun Q hQ a J=>?_
 refine Bx fun f w N a J=>?_
 by_cases B2:e.kind=6
 refine yK fun W w N a J=>?_
 refine yU 2 vA (fun v20 w N a J=>?_) (hb:=by simp [zZ];omega)
 first | rw [qM] at N | rw [<- yE] at N
 refine go fun a J=>?_
 refine mN (fun mm a w=>∃(i:Nat) (u:Value) (m:List Bs),mm=e.args.length - i/\EnvR 53 [(0,u),(3,.pointer (some ⟨f,0,none⟩)),(5,.int .i64 i)] [] a/\Mem V (.gs (W) 9 1 [.string e.name]::.blk f (ob [.int .i64 (e.kind),.int .i64 (e.num),.string e.name,.slice X e.args.length c4,.slice p9 e.arms.length t] 66)::.gs (u) 9 1 (strs m)::K) w/\(l++yH e=m++bindPs (e.args.drop i)++bindPa e.arms)) (e.args.length - 0) ⟨0,v20,(l++[e.name]),rfl,J.pk,N,by rw [dC];simp [*]⟩ ?_
 clear N J
 rintro mm a w ⟨i,u,m,q,J,N,z⟩ r2 h0
 by_cases f0:i < e.args.length
 refine go fun a J=>?_
 obtain ⟨N2,rfl,p1,s,A1,Q1,L1,H⟩:=h2.el k0 f0
 obtain ⟨H2,v2,I2,w2,rfl,O1,C2,D2,U1,a2,V1,b2⟩:=REx.fm H
 refine go fun a J=>?_
 replace N:=N.pl 2
 refine st J rfl rfl rfl (kG J rfl call147 (ih _ (by first | exact Ex.lt_args (mgQ s) | exact Ex.lt_arms (mgQ s)) (l:=m) (by have hq:=congrArg List.length z;rw [zA s] at hq;simp only [bindPs,qO,laQ] at hq hb ⊢;omega) H N) fun n1 w N a J=>?_)
 replace N:=N.nf
 refine go fun a J=>?_
 replace N:=N.ar [] [2,2]
 refine h0 _ _ _ (by subst q;omega) ⟨(i+1),(n1),((m++yH p1)),rfl,J.pk,N,?_⟩
 rw [z,zA s];simp [bindPs]
 refine go fun a J=>?_
 refine mN (fun mm a w=>∃(j:Nat) (U:Value) (m2:List Bs),mm=e.arms.length - j/\EnvR 53 [(0,U),(3,.pointer (some ⟨f,0,none⟩)),(6,.int .i64 j)] [] a/\Mem V (.gs (W) 9 1 [.string e.name]::.blk f (ob [.int .i64 (e.kind),.int .i64 (e.num),.string e.name,.slice X e.args.length c4,.slice p9 e.arms.length t] 66)::.gs (U) 9 1 (strs m2)::K) w/\(l++yH e=m2++bindPa (e.arms.drop j))) (e.arms.length - 0) ⟨0,u,m,rfl,J.pk,N,by rw [z,zE f0];simp [bindPs]⟩ ?_
 clear N J
 rintro mm a w ⟨j,U,m2,q,J,N,r⟩ s2 i0
 by_cases L:j < e.arms.length
 refine go fun a J=>?_
 obtain ⟨l1,rfl,q1,I,B1,R1,M1,l0⟩:=h8.el G L
 obtain ⟨O2,t2,rfl,g0,E0⟩:=RArm.iff.1 l0
 obtain ⟨J2,x2,rfl,W1,c2⟩:=g0.fm
 obtain ⟨K2,y2,L2,z2,rfl,P1,E2,F2,X1,d2,Y1,e2⟩:=REx.fm E0
 refine yU 2 vA (fun o1 w N a J=>?_) (hr:=(SliceOf.strs.1 g0).rowIn N.toSees) (h1:=cR _) (hb:=by have hq:=congrArg List.length r;rw [zA I,qO] at hq;simp only [laQ,zZ] at hq hb ⊢;omega)
 first | rw [qM] at N | rw [<- yE] at N
 refine go fun a J=>?_
 obtain ⟨g,h⟩:=jC L
 obtain ⟨C1,S1,j0,m0⟩:=h8.elem h
 obtain ⟨P2,t1,rfl,F0,C⟩:=RArm.iff.1 m0
 obtain ⟨M2,A2,rfl,Z1,f2⟩:=F0.fm
 obtain ⟨n0,Y,o0,Z,rfl,I0,D1,E1,P0,Z0,Q0,a1⟩:=REx.fm C
 refine Qq (fun a J=>?_) (o:=by exact fun J O=>vY 2 (vs:=[.int .i64 (g.body.kind),.int .i64 (g.body.num),.string g.body.name,.slice n0 g.body.args.length Y,.slice o0 g.body.arms.length Z]) J O rfl j0 isAgg66 sizeOf66 rfl rfl)
 replace N:Mem V (.gs (W) 9 1 [.string e.name]::.blk f (ob [.int .i64 (e.kind),.int .i64 (e.num),.string e.name,.slice X e.args.length c4,.slice (some l1) e.arms.length t] 66)::.gs (o1) 9 1 (strs (m2++g.vars))::K) w:=by rw [show g=q1 from Option.some.inj (h.symm.trans I)];exact N
 replace N:=N.pl 2
 refine st J rfl rfl rfl (kG J rfl call147 (ih _ (by first | exact Ex.lt_args (mgQ h) | exact Ex.lt_arms (mgQ h)) (l:=m2++g.vars) (by have hq:=congrArg List.length r;rw [zA h] at hq;simp only [bindPs,qO,laQ] at hq hb ⊢;omega) C N) fun s0 w N a J=>?_)
 replace N:=N.nf
 refine go fun a J=>?_
 replace N:=N.ar [] [2,2]
 refine i0 _ _ _ (by subst q;omega) ⟨(j+1),(s0),((m2++g.vars++yH g.body)),rfl,J.pk,N,?_⟩
 rw [r,zA h,qO];simp
 refine zF ?_
 replace N:=N.dl [1,0]
 refine ⟨_,rfl,?_⟩
 rw [show (strs (l++yH e))=(strs m2) by rw [r,zE L];simp [bindPa]];exact N
 refine go fun a J=>?_
 refine mN (fun mm a w=>∃(i:Nat) (u:Value) (m:List Bs),mm=e.args.length - i/\EnvR 53 [(0,u),(3,.pointer (some ⟨f,0,none⟩)),(5,.int .i64 i)] [] a/\Mem V (.blk f (ob [.int .i64 (e.kind),.int .i64 (e.num),.string e.name,.slice X e.args.length c4,.slice p9 e.arms.length t] 66)::.gs (u) 9 1 (strs m)::K) w/\(l++yH e=m++bindPs (e.args.drop i)++bindPa e.arms)) (e.args.length - 0) ⟨0,v,l,rfl,J.pk,N,by rw [dC];simp [*]⟩ ?_
 clear N J
 rintro mm a w ⟨i,u,m,q,J,N,p⟩ r1 M
 by_cases D:i < e.args.length
 refine go fun a J=>?_
 obtain ⟨o2,rfl,w0,n,B0,M0,G0,A⟩:=h2.el k0 D
 obtain ⟨g2,c135,i2,w1,rfl,J0,F1,G1,R0,b1,S0,c1⟩:=REx.fm A
 refine go fun a J=>?_
 replace N:=N.pl 1
 refine st J rfl rfl rfl (kG J rfl call147 (ih _ (by first | exact Ex.lt_args (mgQ n) | exact Ex.lt_arms (mgQ n)) (l:=m) (by have hq:=congrArg List.length p;rw [zA n] at hq;simp only [bindPs,qO,laQ] at hq hb ⊢;omega) A N) fun v145 w N a J=>?_)
 replace N:=N.nf
 refine go fun a J=>?_
 replace N:=N.pl 1
 refine M _ _ _ (by subst q;omega) ⟨(i+1),(v145),((m++yH w0)),rfl,J.pk,N,?_⟩
 rw [p,zA n];simp [bindPs]
 refine go fun a J=>?_
 refine mN (fun mm a w=>∃(j:Nat) (U:Value) (m2:List Bs),mm=e.arms.length - j/\EnvR 53 [(0,U),(3,.pointer (some ⟨f,0,none⟩)),(6,.int .i64 j)] [] a/\Mem V (.blk f (ob [.int .i64 (e.kind),.int .i64 (e.num),.string e.name,.slice X e.args.length c4,.slice p9 e.arms.length t] 66)::.gs (U) 9 1 (strs m2)::K) w/\(l++yH e=m2++bindPa (e.arms.drop j))) (e.arms.length - 0) ⟨0,u,m,rfl,J.pk,N,by rw [p,zE D];simp [bindPs]⟩ ?_
 clear N J
 rintro mm a w ⟨j,U,m2,q,J,N,k⟩ s1 P
 by_cases y:j < e.arms.length
 refine go fun a J=>?_
 obtain ⟨r0,rfl,x0,B,C0,N0,H0,S⟩:=h8.el G y
 obtain ⟨p2,u1,rfl,E,c0⟩:=RArm.iff.1 S
 obtain ⟨j2,x1,rfl,T0,e1⟩:=E.fm
 obtain ⟨k2,c173,l2,y1,rfl,K0,H1,I1,U0,f1,V0,g1⟩:=REx.fm c0
 refine yU 1 vA (fun t0 w N a J=>?_) (hr:=(SliceOf.strs.1 E).rowIn N.toSees) (h1:=cR _) (hb:=by have hq:=congrArg List.length k;rw [zA B,qO] at hq;simp only [laQ,zZ] at hq hb ⊢;omega)
 first | rw [qM] at N | rw [<- yE] at N
 refine go fun a J=>?_
 obtain ⟨b,c⟩:=jC y
 obtain ⟨D0,O0,R,T⟩:=h8.elem c
 obtain ⟨q2,v1,rfl,d0,F⟩:=RArm.iff.1 T
 obtain ⟨n2,z1,rfl,W0,i1⟩:=d0.fm
 obtain ⟨p0,a0,q0,b0,rfl,L0,J1,K1,X0,j1,Y0,k1⟩:=REx.fm F
 refine Qq (fun a J=>?_) (o:=by exact fun J O=>vY 2 (vs:=[.int .i64 (b.body.kind),.int .i64 (b.body.num),.string b.body.name,.slice p0 b.body.args.length a0,.slice q0 b.body.arms.length b0]) J O rfl R isAgg66 sizeOf66 rfl rfl)
 replace N:Mem V (.blk f (ob [.int .i64 (e.kind),.int .i64 (e.num),.string e.name,.slice X e.args.length c4,.slice (some r0) e.arms.length t] 66)::.gs (t0) 9 1 (strs (m2++b.vars))::K) w:=by rw [show b=x0 from Option.some.inj (c.symm.trans B)];exact N
 replace N:=N.pl 1
 refine st J rfl rfl rfl (kG J rfl call147 (ih _ (by first | exact Ex.lt_args (mgQ c) | exact Ex.lt_arms (mgQ c)) (l:=m2++b.vars) (by have hq:=congrArg List.length k;rw [zA c] at hq;simp only [bindPs,qO,laQ] at hq hb ⊢;omega) F N) fun u0 w N a J=>?_)
 replace N:=N.nf
 refine go fun a J=>?_
 replace N:=N.pl 1
 refine P _ _ _ (by subst q;omega) ⟨(j+1),(u0),((m2++b.vars++yH b.body)),rfl,J.pk,N,?_⟩
 rw [k,zA c,qO];simp
 refine zF ?_
 replace N:=N.dl [0]
 refine ⟨_,rfl,?_⟩
 rw [show (strs (l++yH e))=(strs m2) by rw [k,zE y];simp [bindPa]];exact N
theorem q9d {d:List Value} {e:Ex} {v:Value} {l:List Bs} (hb:l.length+(yH e).length<=8796093000000) (re:REx V d e) (N:Mem V (.gs v 9 1 (strs l)::K) w) :
  Calls prog 147 #[v,.agg d.toArray] w (fun ee w'=>∃v,ee=.returned v/\Mem V (.gs v 9 1 (strs (l++yH e))::K) w'):=by
 suffices H:∀n (e:Ex),e.sz < n->∀{V:Fz} {K:List Res} {w:World} {d:List Value} {v:Value} {l:List Bs},l.length+(yH e).length<=8796093000000->REx V d e->Mem V (.gs v 9 1 (strs l)::K) w->Calls prog 147 #[v,.agg d.toArray] w (fun ee w'=>∃v,ee=.returned v/\Mem V (.gs v 9 1 (strs (l++yH e))::K) w') from H _ e (Nat.lt_succ_self _) hb re N
 intro n
 induction n with
 | zero=>intro e h;omega
 | succ n b=>intro e h V K w d v l hb re N;exact y9h re hb (fun x c _ _ _ _ _ _ a r m=>b x (by omega) a r m) N
theorem y1m {v0:Value} {l:List Bs} {s:Bs} (f:SliceOf RStr V 1 v0 l) (N:Mem V K w) :
  Calls prog 87 #[v0,.string s] w (fun ee w'=>ee=.returned (.bool (gS l s))/\Mem V K w'):=by
 obtain ⟨u,c0,rfl,q,k⟩:=f.fm
 refine zI func87 ntmps87 fun Q hQ a J=>?_
 refine go fun a J=>?_
 refine zR (J.ks [0,1]) N (fun R mm a w=>∃(i:Nat),mm=l.length - i/\R V [(5,.int .i64 i)] [] a w/\(gS l s=gS (l.drop i) s)) (l.length - 0) ⟨0,rfl,⟨J.pk,N⟩,rfl⟩ ?_
 clear N J
 rintro mm a w ⟨i,j,⟨J,N⟩,c⟩ t h
 by_cases m:i < l.length
 refine go fun a J=>?_
 obtain ⟨r,rfl,g,b,d,o,n,e⟩:=f.el k m
 obtain rfl:d=[.string g]:=e
 by_cases p:g=s
 refine zF ?_
 exact zJ N (by rw [c,zA b,z8j];simp [*])
 refine go fun a J=>?_
 refine h _ _ _ (by subst j;omega) ⟨(i+1),rfl,⟨J.pk,N⟩,?_⟩
 rw [c,zA b,z8j];simp [*]
 refine zF ?_
 exact zJ N (by rw [c,zE m];rfl)
theorem z7f {s:Bs} {lo a:Nat} (h:s.size < 1∨24 < s.size∨zC s 0 < lo∨a < zC s 0):tS s lo a=false:=if_pos h
theorem x1w {s:Bs} {lo a:Nat} (h:¬(s.size < 1∨24 < s.size∨zC s 0 < lo∨a < zC s 0)) (h1:xG s=s.size):tS s lo a=true:=by unfold tS;rw [if_neg h,if_pos h1]
theorem q2t {s:Bs} {lo b i:Nat} (h1:xG s=i) (h2:i≠s.size) (a:zC s i≠39∨i+1=s.size):tS s lo b=false:=by
 subst h1;unfold tS;rw [if_neg h2,if_pos a];split <;> rfl
theorem z9f {s:Bs} {lo a i:Nat} (h:¬(s.size < 1∨24 < s.size∨zC s 0 < lo∨a < zC s 0)) (h1:xG s=i) (h2:i≠s.size) (b:¬(zC s i≠39∨i+1=s.size)):tS s lo a=decide (i+1+yR yD s s.size (i+1)=s.size):=by
 subst h1;unfold tS;rw [if_neg h,if_neg h2,if_neg b]
theorem x0y {c:Nat}  (N:Mem V K w) :
  Calls prog 207 #[.int .u8 c] w (fun ee w'=>ee=.returned (.bool (yN c))/\Mem V K w'):=by
 refine zI func207 ntmps207 fun Q hQ a J=>?_
 by_cases l:97<=c
 by_cases m:c<=122
 rotate_left
 by_cases n:65<=c
 refine go fun a J=>?_
 by_cases p:c<=90
 rotate_left
 by_cases q:48<=c
 by_cases r:c<=57
 rotate_left
 refine Qq (fun a J=>?_) (o:=by exact fun J O=>pR (i:=c) (j:=95) J rfl rfl)
 rotate_left
 refine Qq (fun a J=>?_) (o:=by exact fun J O=>pR (i:=c) (j:=95) J rfl rfl)
 rotate_left
 refine go fun a J=>?_
 by_cases s:48<=c
 by_cases b:c<=57
 rotate_left
 refine Qq (fun a J=>?_) (o:=by exact fun J O=>pR (i:=c) (j:=95) J rfl rfl)
 rotate_left
 refine Qq (fun a J=>?_) (o:=by exact fun J O=>pR (i:=c) (j:=95) J rfl rfl)
 rotate_left
 by_cases d:65<=c
 by_cases e:c<=90
 rotate_left
 refine go fun a J=>?_
 by_cases f:48<=c
 by_cases g:c<=57
 rotate_left
 refine Qq (fun a J=>?_) (o:=by exact fun J O=>pR (i:=c) (j:=95) J rfl rfl)
 rotate_left
 refine Qq (fun a J=>?_) (o:=by exact fun J O=>pR (i:=c) (j:=95) J rfl rfl)
 rotate_left
 by_cases h:48<=c
 refine go fun a J=>?_
 by_cases k:c<=57
 rotate_left
 refine Qq (fun a J=>?_) (o:=by exact fun J O=>pR (i:=c) (j:=95) J rfl rfl)
 rotate_left
 refine Qq (fun a J=>?_) (o:=by exact fun J O=>pR (i:=c) (j:=95) J rfl rfl)
 rotate_left
 all_goals (refine zF ?_;exact zJ N (by unfold yN qK qT yD;simp <;> omega))
theorem j0l {s:Bs} {lo:Nat} {P:Nat}  (N:Mem V K w) :
  Calls prog 182 #[.string s,.int .u8 lo,.int .u8 P] w (fun ee w'=>ee=.returned (.bool (tS s lo P))/\Mem V K w'):=by
 refine zI func182 ntmps182 fun Q hQ a J=>?_
 by_cases h4:s.size < 1
 rotate_left
 by_cases h6:24 < s.size
 rotate_left
 have M:0 < s.size:=by omega
 obtain ⟨c9,f⟩:=qJ M
 refine Qq (fun a J=>?_) (o:=by exact fun J O=>yZ 0 c9 J rfl rfl runUnderlying9 f)
 have X:=zT f
 by_cases b0:c9.toNat < lo
 have I:=zT f
 rotate_left
 obtain ⟨z,p⟩:=qJ M
 refine Qq (fun a J=>?_) (o:=by exact fun J O=>yZ 0 z J rfl rfl runUnderlying9 p)
 have I:=zT p
 refine go fun a J=>?_
 by_cases c0:P < z.toNat
 rotate_left
 refine goJ 6 fun a J=>?_
 refine sq fun S F=>?_
 have n:∀a w,(∃(i:Nat),EnvR 74 [(0,.string s),(7,.int .i64 i)] [] a/\Mem V (K) w/\(xG s=i/\1<=i/\i<=s.size/\¬(s.size < 1∨24 < s.size∨zC s 0 < lo∨P < zC s 0)))->S a w:=by
  clear N J
  rintro a w ⟨i,J,N,C⟩
  apply F
  obtain ⟨l,t,u,b⟩:=C
  by_cases d0:i=s.size
  refine zF ?_
  exact zJ N (by exact (x1w b (by omega)).symm)
  have L:i < s.size:=by omega
  obtain ⟨A,q⟩:=qJ L
  refine Qq (fun a J=>?_) (o:=by exact fun J O=>yZ i A J rfl rfl runUnderlying9 q)
  have Y:=zT q
  by_cases f0:A.toNat=39
  by_cases g0:(i+1)=s.size
  rotate_left
  refine go fun a J=>?_
  refine zR (J.ks [0]) N (fun R mm a w=>∃(k:Nat),mm=s.size - k/\R V [(8,.int .i64 k)] [] a w/\(k<=s.size/\i+1+yR yD s s.size (i+1)=k+yR yD s s.size k)) (s.size - (i+1)) ⟨i+1,rfl,⟨J.pk,N⟩,by exact ⟨by omega,rfl⟩⟩ ?_
  clear N J
  rintro mm a w ⟨k,y,⟨J,N⟩,D⟩ Z G
  obtain ⟨j0,m⟩:=D
  by_cases B:k < s.size
  obtain ⟨c42,g⟩:=qJ B
  refine Qq (fun a J=>?_) (o:=by exact fun J O=>yZ k c42 J rfl rfl runUnderlying9 g)
  have W:=zT g
  by_cases h0:c42.toNat < 48
  have r:=zT g
  rotate_left
  obtain ⟨c46,h⟩:=qJ B
  refine Qq (fun a J=>?_) (o:=by exact fun J O=>yZ k c46 J rfl rfl runUnderlying9 h)
  have r:=zT h
  by_cases i0:57 < c46.toNat
  rotate_left
  refine go fun a J=>?_
  refine G _ _ _ (by subst y;omega) ⟨(k+1),rfl,⟨J.pk,N⟩,?_⟩
  exact ⟨by omega,by rw [m,xP yD s k,if_pos ⟨by omega,by rw [zT h];simp [yD];omega⟩];omega⟩
  refine zF ?_
  exact zJ N (by rw [z9f b l (by omega) (by omega),m,xP,if_neg (by omega)];exact (decide_eq_true (by omega)).symm)
  rotate_left
  all_goals first | (refine zF ?_;exact zJ N (by rw [z9f b l (by omega) (by omega),m,xP,if_neg (by rintro ⟨_,d⟩;simp [yD] at d;omega)];exact (decide_eq_false (by omega)).symm)) | (refine zF ?_;exact zJ N (by exact (q2t l (by omega) (by omega)).symm))
 refine go fun a J=>?_
 refine zR (J.ks [0]) N (fun R mm a w=>∃(i:Nat),mm=s.size - i/\R V [(7,.int .i64 i)] [] a w/\(1<=i/\i<=s.size/\xG s=i+yR yN s s.size i/\¬(s.size < 1∨24 < s.size∨zC s 0 < lo∨P < zC s 0))) (s.size - 1) ⟨1,rfl,⟨J.pk,N⟩,by exact ⟨by omega,by omega,rfl,by omega⟩⟩ ?_
 clear N J
 rintro mm a w ⟨i,y,⟨J,N⟩,E⟩ a0 H
 obtain ⟨t,u,v,b⟩:=E
 by_cases U:i < s.size
 obtain ⟨T,j⟩:=qJ U
 refine Qq (fun a J=>?_) (o:=by exact fun J O=>yZ i T J rfl rfl runUnderlying9 j)
 refine zX call207 (fun e w N a J=>?_) (fun e w N a J=>?_) (c:=x0y N)
 refine go fun a J=>?_
 refine H _ _ _ (by subst y;omega) ⟨(i+1),rfl,⟨J.pk,N⟩,?_⟩
 exact ⟨by omega,by omega,by rw [v,xP yN s i,if_pos ⟨by omega,by rw [zT j];exact e⟩];omega,b⟩
 refine go fun a J=>?_
 exact n _ _ ⟨i,J.pk,N,⟨by rw [v,xP yN s i,if_neg (by rintro ⟨_,d⟩;rw [zT j,e] at d;cases d)];rfl,t,u,b⟩⟩
 refine go fun a J=>?_
 exact n _ _ ⟨i,J.pk,N,⟨by rw [v,xP yN s i,if_neg (by omega)];rfl,t,u,b⟩⟩
 all_goals (refine zF ?_;exact zJ N (by exact (z7f (by omega)).symm))
theorem x5u {s:Bs}  (N:Mem V K w) :
  Calls prog 197 #[.string s] w (fun ee w'=>ee=.returned (.bool (xT s))/\Mem V K w'):=by
 refine zI func197 ntmps197 fun Q hQ a J=>?_
 refine yK fun v3 w N a J=>?_
 refine zX call182 (fun g w N a J=>?_) (fun g w N a J=>?_) (c:=j0l (s:=s) N)
 refine go fun a J=>?_
 have b:=N
 clear N
 obtain ⟨k,j,N,f⟩:=b.freezeRow (i:=0) rfl
 clear b
 replace N:=N.nf
 have e:SliceOf RStr k 1 _ (wordsL):=SliceOf.strs.2 f
 obtain ⟨o,n,h,l,m⟩:=e.form (by decide)
 have d:=N
 clear N
 subst h
 have N:=d
 clear d
 refine zO call87 (fun w N a J=>?_) (c:=y1m e N)
 refine zF ?_
 replace N:=N.le (j)
 exact zJ N (by simp [xT, *])
 refine zF ?_
 replace N:=N.dl [0]
 exact zJ N (by simp [xT, *])
theorem tI {s:Bs}  (N:Mem V K w) :
  Calls prog 161 #[.string s] w (fun ee w'=>ee=.returned (.bool (xT s))/\Mem V K w'):=by
 refine zI func161 ntmps161 fun Q hQ a J=>?_
 refine zO call197 (fun w N a J=>?_) (c:=x5u N)
 refine zF ?_
 exact zJ N (by rfl)
theorem hY {s:Bs}  (N:Mem V K w) :
  Calls prog 134 #[.string s] w (fun ee w'=>ee=.returned (.bool (nV s))/\Mem V K w'):=by
 refine zI func134 ntmps134 fun Q hQ a J=>?_
 refine zO call182 (fun w N a J=>?_) (c:=j0l (s:=s) N)
 refine zF ?_
 exact zJ N (by rfl)
theorem z9q (N:Mem V K w) :
  Calls prog 169 #[] w (fun ee w'=>∃y:Fz×List Value,ee=.returned (.agg y.2.toArray)/\(V.Le y.1/\RData y.1 y.2 truthsD)/\Mem y.1 K w'):=by
 refine zI func169 ntmps169 fun Q hQ a J=>?_
 refine Alc fun n w N a J=>?_
 refine zU fun a J=>?_
 refine zU fun a J=>?_
 refine yK fun v4 w N a J=>?_
 have b:=N
 clear N
 obtain ⟨f,j,N,e⟩:=b.freezeRow (i:=0) rfl
 clear b
 replace N:=N.nf
 have d:SliceOf RCon f 2 _ (truthsD.cons):=⟨_,e,⟨[_,_],[_,_],rfl,rfl,⟨_,rfl,SliceOf.nil 1⟩,[_,_],[],rfl,rfl,⟨_,rfl,SliceOf.nil 1⟩,rfl⟩⟩
 obtain ⟨o,m,h,k,l⟩:=d.form (by decide)
 have c:=N
 clear N
 subst h
 have N:=c
 clear c
 refine zU fun a J=>?_
 refine Sto 0 fun w N a J=>?_
 refine go fun a J=>?_
 have g:=N
 replace N:=N.dl [0]
 refine qI (N:=g) ?_
 exact ⟨(f,_),rfl,⟨j,_,rfl,d⟩,N⟩
theorem y3o {d0:List Value} {c:Core} {name:Bs} (l:RCore V d0 c) (N:Mem V K w) :
  Calls prog 118 #[.agg d0.toArray,.string name] w (fun ee w'=>∃y:Fz×List Value,ee=.returned (.tuple #[.agg y.2.toArray,.bool (qV c.datas name).isSome])/\(V.Le y.1/\RData y.1 y.2 ((qV c.datas name).getD z4m))/\Mem y.1 K w'):=by
 obtain ⟨p3,c4,p9,c0,k0,f0,l0,c22,rfl,h2,h8,h0,i0,j0,B,I,T,L,U,M,W⟩:=RCore.fm l
 refine zI func118 ntmps118 fun Q hQ a J=>?_
 refine Bx fun a0 w N a J=>?_
 refine Alc fun b0 w N a J=>?_
 by_cases n:name=(⟨#[66,111,111,108]⟩:Bs)
 refine zV call169 (fun E w q N a J=>?_) (c:=z9q N)
 obtain ⟨t,g0⟩:=E
 obtain ⟨b,e⟩:=q
 simp only at b e N J
 replace h2:=h2.up b
 replace l:=l.up b
 replace N:=N.nf
 obtain ⟨n0,rfl,v⟩:=id e
 obtain ⟨C,u,rfl,P,X⟩:=v.fm
 refine Sto 0 fun w N a J=>?_
 refine go fun a J=>?_
 have d:=N
 replace N:=N.dl [1,0]
 refine hQ _ _ _ (uQ (i:=0) (cs:=[.string truthsD.name,.slice C truthsD.cons.length u]) J d.toSees results118 rfl rfl isAgg133 sizeOf133 rfl rfl ?_)
 have m:=show qV c.datas name=some truthsD from if_pos n
 rw [m];exact ⟨(t,_),rfl,⟨b,e⟩,N⟩
 refine go fun a J=>?_
 refine zR (J.ks [1,2,4]) N (fun R mm a w=>∃(i:Nat),mm=c.datas.length - i/\R V [(6,.int .i64 i)] [] a w/\(¬name=wG/\wA c.datas name=wA (c.datas.drop i) name)) (c.datas.length - 0) ⟨0,rfl,⟨J.pk,N⟩,⟨n,rfl⟩⟩ ?_
 clear N J
 rintro mm a w ⟨i,A,⟨J,N⟩,r⟩ Z s
 obtain ⟨j,k⟩:=r
 by_cases o:i < c.datas.length
 refine go fun a J=>?_
 obtain ⟨m0,rfl,f,h,F,H,G,g⟩:=h2.el B o
 obtain ⟨o0,rfl,z⟩:=id g
 obtain ⟨D,c63,rfl,S,Y⟩:=z.fm
 by_cases p:f.name=name
 refine Sto 0 fun w N a J=>?_
 refine go fun a J=>?_
 have d:=N
 replace N:=N.dl [1,0]
 refine hQ _ _ _ (uQ (i:=0) (cs:=[.string f.name,.slice D f.cons.length c63]) J d.toSees results118 rfl rfl isAgg133 sizeOf133 rfl rfl ?_)
 have m:=show qV c.datas name=some f by rw [qV,if_neg j,k,zA h,wA,if_pos p]
 rw [m];exact ⟨(V,_),rfl,⟨Fz.Le.refl _,g⟩,N⟩
 refine go fun a J=>?_
 refine s _ _ _ (by subst A;omega) ⟨(i+1),rfl,⟨J.pk,N⟩,?_⟩
 exact ⟨j,by rw [k,zA h,wA,if_neg p]⟩
 refine zU fun a J=>?_
 refine Sto 0 fun w N a J=>?_
 refine go fun a J=>?_
 have d:=N
 replace N:=N.dl [1,0]
 refine hQ _ _ _ (uQ (i:=0) (cs:=[.string ⟨#[]⟩,.slice none 0 0]) J d.toSees results118 rfl rfl isAgg133 sizeOf133 rfl rfl ?_)
 have m:=show qV c.datas name=none by rw [qV,if_neg j,k,zE o,wA]
 rw [m];exact ⟨(V,_),rfl,⟨Fz.Le.refl _,⟨_,rfl,SliceOf.nil 2⟩⟩,N⟩
theorem z4i {d0:List Value} {c:Core} {name:Bs} (d:RCore V d0 c) (N:Mem V K w) :
  Calls prog 81 #[.agg d0.toArray,.string name] w (fun ee w'=>ee=.returned (.bool (jP c.datas name))/\Mem V K w'):=by
 obtain ⟨M,c4,P,y,F,z,G,c22,rfl,h2,L,B,C,D,E,k,p,l,q,m,r⟩:=RCore.fm d
 refine zI func81 ntmps81 fun Q hQ a J=>?_
 refine Bx fun u w N a J=>?_
 refine zV call118 (fun i w g N a J=>?_) (c:=y3o d N)
 obtain ⟨t,A⟩:=i
 obtain ⟨b,e⟩:=g
 simp only at b e N J
 replace d:=d.up b
 replace N:=N.nf
 obtain ⟨I,rfl,h⟩:=id e
 obtain ⟨H,c37,rfl,n,s⟩:=h.fm
 refine Alc fun v w N a J=>?_
 refine Sto 0 fun w N a J=>?_
 refine go fun a J=>?_
 generalize j:(qV c.datas name).isSome=f at J
 cases f
 refine Qq (fun a J=>?_) (o:=by exact fun J O=>z3f J rfl rfl)
 refine zF ?_
 replace N:=N.le (b)
 replace N:=N.dl [1,0]
 exact zJ N (by simp [jP,yL, *] <;> rfl)
 refine zF ?_
 replace N:=N.le (b)
 replace N:=N.dl [1,0]
 exact zJ N (by simp [jP,yL, *] <;> rfl)
theorem q0y {d0:List Value} {c:Core} {name:Bs} (o:RCore V d0 c) (N:Mem V K w) :
  Calls prog 55 #[.agg d0.toArray,.string name] w (fun ee w'=>ee=.returned (.int .i64 (aE c.funs name))/\Mem V K w'):=by
 obtain ⟨p3,c4,p9,M,a0,P,b0,c22,rfl,h2,h8,k,U,Y,Z,u,C,v,h,y,D⟩:=RCore.fm o
 refine zI func55 ntmps55 fun Q hQ a J=>?_
 refine Bx fun I w N a J=>?_
 refine go fun a J=>?_
 refine zR (J.ks [1,2]) N (fun R mm a w=>∃(i:Nat),mm=c.funs.length - i/\R V [(5,.int .i64 i)] [] a w/\(gK c.funs name=z0m (c.funs.drop i) name i)) (c.funs.length - 0) ⟨0,rfl,⟨J.pk,N⟩,rfl⟩ ?_
 clear N J
 rintro mm a w ⟨i,n,⟨J,N⟩,b⟩ H g
 by_cases e:i < c.funs.length
 refine go fun a J=>?_
 obtain ⟨h0,rfl,p,d,q,t,r,j⟩:=k.el h e
 obtain ⟨i0,L,rfl,l,m⟩:=id j
 obtain ⟨c0,c46,rfl,z,E⟩:=l.fm
 obtain ⟨f0,S,g0,T,rfl,s,W,X,A,F,B,G⟩:=REx.fm m
 by_cases f:p.name=name
 refine zF ?_
 replace N:=N.dl [0]
 exact pF N (by rw [aE,b,zA d,z0m,if_pos f])
 refine go fun a J=>?_
 refine g _ _ _ (by subst n;omega) ⟨(i+1),rfl,⟨J.pk,N⟩,?_⟩
 rw [b,zA d,z0m,if_neg f]
 refine zF ?_
 replace N:=N.dl [0]
 exact pF N (by rw [aE,b,zE e,z0m])
theorem j8l {d0:List Value} {c:Core} {name:Bs} (p:RCore V d0 c) (l0:c.datas.length<=1000) (N:Mem V K w) :
  Calls prog 163 #[.agg d0.toArray,.string name] w (fun ee w'=>∃y:Fz×List Value,ee=.returned (.tuple #[.agg y.2.toArray,.string (((nC c.datas name).map Maker.data).getD sNo),.bool (nC c.datas name).isSome])/\(V.Le y.1/\RCon y.1 y.2 (((nC c.datas name).map Maker.con).getD y0h))/\Mem y.1 K w'):=by
 obtain ⟨p3,c4,p9,E0,M0,F0,N0,c22,rfl,h2,h8,I0,J0,K0,L0,m0,t0,n0,u0,o0,w0⟩:=RCore.fm p
 refine zI func163 ntmps163 fun Q hQ a J=>?_
 refine Bx fun C0 w N a J=>?_
 refine Alc fun D0 w N a J=>?_
 refine go fun a J=>?_
 refine qP [0,0,1,2,0,1] (.q 2 (.q 3 (.e 0 (.e 1 (.e 4 (.q 5 (.done))))))) [0,1] J N fun w N=>?_
 refine zV call169 (fun b0 w I N a J=>?_) (c:=z9q N)
 obtain ⟨z0,H0⟩:=b0
 obtain ⟨f,d⟩:=I
 simp only at f d N J
 replace h2:=h2.up f
 replace p:=p.up f
 replace N:=N.nf
 obtain ⟨T0,rfl,X⟩:=id d
 obtain ⟨O0,c38,rfl,p0,x0⟩:=X.fm
 refine yK fun W0 w N a J=>?_
 obtain ⟨c0,s,b⟩:=id h2
 refine yU 0 q9l (fun X0 w N a J=>?_) (hr:=s.rowIn N.toSees) (h1:=b.ones RData.ones) (hb:=by have h_:=b.length;simp only [lcQ,lnQ];omega)
 refine go fun a J=>?_
 have u:=N
 clear N
 obtain ⟨l,g,N,t⟩:=u.freezeRow (i:=0) rfl
 clear u
 replace p:=p.up g
 replace d:=d.up g
 replace b:=b.mono fun _ _ h=>h.up g
 replace N:=N.nf
 have o:SliceOf RData l 2 _ (truthsD::c.datas):=⟨_,t,⟨_,_,rfl,rfl,d,b⟩⟩
 obtain ⟨P0,c53,Z,q0,P⟩:=o.form (by decide)
 have v:=N
 clear N
 subst Z
 have N:=v
 clear v
 refine go fun a J=>?_
 refine zR (J.ks [1,4,7]) N (fun R mm a w=>∃(i:Nat),mm=(truthsD::c.datas).length - i/\R l [(8,.int .i64 i)] [] a w/\(mM (truthsD::c.datas) name=mM ((truthsD::c.datas).drop i) name)) ((truthsD::c.datas).length - 0) ⟨0,rfl,⟨J.pk,N⟩,rfl⟩ ?_
 clear N J
 rintro mm a w ⟨i,D,⟨J,N⟩,m⟩ A0 L
 by_cases E:i < (truthsD::c.datas).length
 refine go fun a J=>?_
 obtain ⟨R0,rfl,j,A,f0,j0,h0,T⟩:=o.el P E
 obtain ⟨U0,rfl,F⟩:=id T
 obtain ⟨Q0,G0,rfl,r0,S⟩:=F.fm
 refine zR (J.ks [1,4,7,8]) N (fun R mm a w=>∃(k:Nat),mm=j.cons.length - k/\R l [(9,.int .i64 k)] [] a w/\(sC j.cons name=sC (j.cons.drop k) name)) (j.cons.length - 0) ⟨0,rfl,⟨J.pk,N⟩,rfl⟩ ?_
 clear N J
 rintro mm a w ⟨k,D,⟨J,N⟩,n⟩ B0 M
 by_cases G:k < j.cons.length
 refine go fun a J=>?_
 obtain ⟨S0,rfl,r,B,g0,k0,i0,z⟩:=F.el S G
 obtain ⟨V0,rfl,Y⟩:=id z
 obtain ⟨a0,U,rfl,s0,y0⟩:=Y.fm
 by_cases H:r.name=name
 refine Reg [1,1,1,1,2,1,1,2,1,1,1,1,2,0,1,1] [1] fun w N a J=>?_
 refine Sto 0 fun w N a J=>?_
 refine go fun a J=>?_
 have C:=N
 replace N:=N.dl [1,0]
 refine hQ _ _ _ (kC (i:=0) (cs:=[.string r.name,.slice a0 r.fields.length U]) J C.toSees results163 rfl rfl isAgg135 sizeOf135 rfl rfl rfl ?_)
 have W:=show nC c.datas name=some ⟨j.name,r⟩ by show mM (truthsD::c.datas) name=_;rw [m,zA A,mM,show sC j.cons name=some r by rw [n,zA B,sC,if_pos H]]
 rw [W];exact ⟨(l,_),rfl,⟨(f).trans g,z⟩,N⟩
 refine go fun a J=>?_
 refine M _ _ _ (by subst D;omega) ⟨(k+1),rfl,⟨J.pk,N⟩,?_⟩
 rw [n,zA B,sC,if_neg H]
 refine go fun a J=>?_
 refine L _ _ _ (by subst D;omega) ⟨(i+1),rfl,⟨J.pk,N⟩,?_⟩
 rw [m,zA A,mM,show sC j.cons name=none by rw [n,zE G,sC]]
 refine zU fun a J=>?_
 refine Sto 0 fun w N a J=>?_
 refine go fun a J=>?_
 have C:=N
 replace N:=N.dl [1,0]
 refine hQ _ _ _ (kC (i:=0) (cs:=[.string ⟨#[]⟩,.slice none 0 0]) J C.toSees results163 rfl rfl isAgg135 sizeOf135 rfl rfl rfl ?_)
 have W:=show nC c.datas name=none by show mM (truthsD::c.datas) name=_;rw [m,zE E,mM]
 rw [W];exact ⟨(l,_),rfl,⟨(f).trans g,⟨_,rfl,SliceOf.nil 1⟩⟩,N⟩
theorem z9o {name:Bs} {d:Data} {l:List Data} (h:¬d.name=name):wL name (d::l)=wL name l/\kH name (d::l)=kH name l:=by
 simp only [wL,kH,List.any_cons,List.filter_cons,h,decide_false,Bool.false_and,Bool.false_or,Bool.false_eq_true,if_false,and_self]
theorem z0u {name:Bs} {d:Data} {l:List Data} (h:d.name=name):wL name (d::l)=(mI name d.cons || wL name l)/\kH name (d::l)=kH name l+1:=by
 simp only [wL,kH,List.any_cons,List.filter_cons,h,decide_true,Bool.true_and,if_true,lcQ,and_self]
theorem z5j (name:Bs) (x:Con) (l:List Con):mI name (x::l)=(x.fields.any (inF name) || mI name l):=rfl
theorem j2b {ds:List Data} {name:Bs} (a:¬name=yL) (h:wL name ds=true):xE ds name=false:=by rw [xE,if_neg a,h];rfl
theorem y4z {ds:List Data} {name:Bs} {n:Nat} (a:¬name=yL) (h:wL name ds=false) (h1:kH name ds=n):xE ds name=(decide (n=1) && !decide (name=wG)):=by rw [xE,if_neg a,h,h1];rfl
theorem y1c {d0:List Value} {c:Core} {name:Bs} (T:RCore V d0 c) (N:Mem V K w) :
  Calls prog 109 #[.agg d0.toArray,.string name] w (fun ee w'=>ee=.returned (.bool (xE c.datas name))/\Mem V K w'):=by
 obtain ⟨p3,c4,p9,r0,C0,s0,D0,c22,rfl,h2,h8,u0,w0,B0,S,f0,k0,g0,l0,h0,m0⟩:=RCore.fm T
 refine zI func109 ntmps109 fun Q hQ a J=>?_
 refine Bx fun q0 w N a J=>?_
 by_cases A:name=(⟨#[73,110,116]⟩:Bs)
 refine zF ?_
 replace N:=N.dl [0]
 exact zJ N (by rw [xE];exact (if_pos A).symm)
 refine go fun a J=>?_
 refine zR (J.ks [1,2]) N (fun R mm a w=>∃(i:Nat) (n:Nat),mm=c.datas.length - i/\R V [(5,.int .i64 n),(6,.int .i64 i)] [] a w/\(¬name=yL/\n<=i/\wL name c.datas=wL name (c.datas.drop i)/\kH name c.datas=n+kH name (c.datas.drop i))) (c.datas.length - 0) ⟨0,0,rfl,⟨J.pk,N⟩,⟨A,Nat.le_refl _,rfl,by rw [Nat.zero_add];rfl⟩⟩ ?_
 clear N J
 rintro mm a w ⟨i,n,e,⟨J,N⟩,F⟩ n0 u
 obtain ⟨p,A0,q,t⟩:=F
 by_cases h:i < c.datas.length
 refine go fun a J=>?_
 obtain ⟨G0,rfl,d,b,U,a0,X,L⟩:=h2.el S h
 obtain ⟨J0,rfl,B⟩:=id L
 obtain ⟨E0,t0,rfl,i0,H⟩:=B.fm
 by_cases l:d.name=name
 refine go fun a J=>?_
 refine zR (J.ks [1,2,5,6]) N (fun R mm a w=>∃(k:Nat),mm=d.cons.length - k/\R V [(7,.int .i64 k)] [] a w/\(mI name d.cons=mI name (d.cons.drop k))) (d.cons.length - 0) ⟨0,rfl,⟨J.pk,N⟩,rfl⟩ ?_
 clear N J
 rintro mm a w ⟨k,e,⟨J,N⟩,m⟩ o0 G
 by_cases C:k < d.cons.length
 refine go fun a J=>?_
 obtain ⟨H0,rfl,f,y,W,b0,Y,M⟩:=B.el H C
 obtain ⟨K0,rfl,D⟩:=id M
 obtain ⟨F0,c75,rfl,j0,I⟩:=D.fm
 refine go fun a J=>?_
 refine zR (J.ks [1,2,5,6,7,8]) N (fun R mm a w=>∃(j:Nat),mm=f.fields.length - j/\R V [(9,.int .i64 j)] [] a w/\(f.fields.any (inF name)=(f.fields.drop j).any (inF name))) (f.fields.length - 0) ⟨0,rfl,⟨J.pk,N⟩,rfl⟩ ?_
 clear N J
 rintro mm a w ⟨j,e,⟨J,N⟩,g⟩ p0 v
 by_cases E:j < f.fields.length
 refine go fun a J=>?_
 obtain ⟨I0,rfl,s,r,z,c0,Z,P⟩:=D.el I E
 obtain rfl:z=[.string s]:=P
 by_cases x0:s=(⟨#[73,110,116]⟩:Bs)
 refine go fun a J=>?_
 refine v _ _ _ (by subst e;omega) ⟨(j+1),rfl,⟨J.pk,N⟩,?_⟩
 rw [g,zA r,List.any_cons,show inF name s=false by simp [inF,yL, *],Bool.false_or]
 by_cases y0:s=name
 refine go fun a J=>?_
 refine v _ _ _ (by subst e;omega) ⟨(j+1),rfl,⟨J.pk,N⟩,?_⟩
 rw [g,zA r,List.any_cons,show inF name s=false by simp [inF,yL, *],Bool.false_or]
 refine zF ?_
 replace N:=N.dl [0]
 exact zJ N (by exact (j2b p (by rw [q,zA b,(z0u l).1,show mI name d.cons=true by rw [m,zA y,z5j,show f.fields.any (inF name)=true by rw [g,zA r,List.any_cons];simp [inF,yL, *]];rfl];rfl)).symm)
 refine go fun a J=>?_
 refine G _ _ _ (by subst e;omega) ⟨(k+1),rfl,⟨J.pk,N⟩,?_⟩
 rw [m,zA y,z5j,show f.fields.any (inF name)=false by rw [g,zE E];rfl,Bool.false_or]
 refine go fun a J=>?_
 refine u _ _ _ (by subst e;omega) ⟨(i+1),((n+1)),rfl,⟨J.pk,N⟩,?_⟩
 exact ⟨p,by omega,by rw [q,zA b,(z0u l).1,show mI name d.cons=false by rw [m,zE C];rfl,Bool.false_or],by rw [t,zA b,(z0u l).2];omega⟩
 refine go fun a J=>?_
 refine u _ _ _ (by subst e;omega) ⟨(i+1),(n),rfl,⟨J.pk,N⟩,?_⟩
 exact ⟨p,by omega,by rw [q,zA b,(z9o l).1],by rw [t,zA b,(z9o l).2]⟩
 by_cases z0:n=1
 refine Qq (fun a J=>?_) (o:=by exact fun J O=>j8b J rfl rfl)
 refine zF ?_
 replace N:=N.dl [0]
 rotate_left
 refine zF ?_
 replace N:=N.dl [0]
 rotate_left
 all_goals (exact zJ N (by rw [y4z (n:=n) p (by rw [q,zE h];rfl) (by rw [t,zE h];rfl)];simp [wG, *] <;> rfl))
theorem j3j {d0:List Value} {e:Ex} (b:REx V d0 e) (N:Mem V K w) :
  Calls prog 106 #[.agg d0.toArray,.int .i64 ((0:Nat):Int)] w (fun ee w'=>ee=.returned (.bool (xN 0 e))/\Mem V K w'):=by
 obtain ⟨l,c4,m,h,rfl,c,h2,k,i,j,d,f⟩:=REx.fm b
 refine zI func106 ntmps106 fun Q hQ a J=>?_
 refine Bx fun g w N a J=>?_
 refine Qq (fun a J=>?_) (o:=by exact fun J O=>xH true J rfl rfl rfl)
 refine zF ?_
 replace N:=N.dl [0]
 exact zJ N (by rw [y3r])
theorem j3i {d0:List Value} {e:Ex} {m:Nat} (I:REx V d0 e) (B0:m < 100000) (ih:∀{V:Fz} {K:List Res} {w:World} {d:List Value} {e:Ex},REx V d e->Mem V K w->Calls prog 106 #[.agg d.toArray,.int .i64 m] w (fun ee w'=>ee=.returned (.bool (xN m e))/\Mem V K w')) (N:Mem V K w) :
  Calls prog 106 #[.agg d0.toArray,.int .i64 ((m+1:Nat):Int)] w (fun ee w'=>ee=.returned (.bool (xN (m+1) e))/\Mem V K w'):=by
 obtain ⟨p3,c4,p9,q0,rfl,S,h2,h8,A0,F,Y,z⟩:=REx.fm I
 refine zI func106 ntmps106 fun Q hQ a J=>?_
 refine Bx fun o0 w N a J=>?_
 by_cases D:m+1=0
 refine zF ?_
 replace N:=N.dl [0]
 exact zJ N (by exact absurd D (by omega))
 refine go fun a J=>?_
 refine zR (J.ks [1,2]) N (fun R mm a w=>∃(i:Nat),mm=e.args.length - i/\R V [(5,.int .i64 i)] [] a w/\(xN (m+1) e=((e.args.drop i).any (xN m) || e.arms.any fun a=>xN m a.body))) (e.args.length - 0) ⟨0,rfl,⟨J.pk,N⟩,by rw [z4b];rfl⟩ ?_
 clear N J
 rintro mm a w ⟨i,q,⟨J,N⟩,g⟩ m0 u
 by_cases r:i < e.args.length
 refine go fun a J=>?_
 obtain ⟨F0,rfl,I0,n,L,W,P,l⟩:=h2.el F r
 obtain ⟨C0,r0,D0,s0,rfl,T,u0,w0,Z,g0,a0,h0⟩:=REx.fm l
 refine Qq (fun a J=>?_) (o:=by exact fun J O=>jT ((m:Nat):Int) J rfl rfl (by rw [yB (by omega)];omega))
 refine zX call106 (fun b w N a J=>?_) (fun b w N a J=>?_) (c:=ih l N)
 refine zF ?_
 replace N:=N.dl [0]
 exact zJ N (by rw [g,zA n,List.any_cons,b];rfl)
 refine go fun a J=>?_
 refine u _ _ _ (by subst q;omega) ⟨(i+1),rfl,⟨J.pk,N⟩,?_⟩
 rw [g,zA n,List.any_cons,b,Bool.false_or]
 refine go fun a J=>?_
 refine zR (J.ks [1,2]) N (fun R mm a w=>∃(j:Nat),mm=e.arms.length - j/\R V [(6,.int .i64 j)] [] a w/\(xN (m+1) e=(e.arms.drop j).any fun a=>xN m a.body)) (e.arms.length - 0) ⟨0,rfl,⟨J.pk,N⟩,by rw [g,zE r];rfl⟩ ?_
 clear N J
 rintro mm a w ⟨j,q,⟨J,N⟩,h⟩ n0 v
 by_cases s:j < e.arms.length
 refine go fun a J=>?_
 obtain ⟨G0,rfl,k,p,M,X,y,A⟩:=h8.el z s
 obtain ⟨H0,p0,rfl,E,t⟩:=RArm.iff.1 A
 obtain ⟨E0,t0,rfl,b0,i0⟩:=E.fm
 obtain ⟨G,B,H,C,rfl,U,x0,z0,c0,j0,f0,k0⟩:=REx.fm t
 refine Qq (fun a J=>?_) (o:=by exact fun J O=>vY 2 (vs:=[.int .i64 (k.body.kind),.int .i64 (k.body.num),.string k.body.name,.slice G k.body.args.length B,.slice H k.body.arms.length C]) J O rfl y isAgg66 sizeOf66 rfl rfl)
 refine Qq (fun a J=>?_) (o:=by exact fun J O=>jT ((m:Nat):Int) J rfl rfl (by rw [yB (by omega)];omega))
 refine zX call106 (fun f w N a J=>?_) (fun f w N a J=>?_) (c:=ih t N)
 refine zF ?_
 replace N:=N.dl [0]
 exact zJ N (by rw [h,zA p,List.any_cons,f];rfl)
 refine go fun a J=>?_
 refine v _ _ _ (by subst q;omega) ⟨(j+1),rfl,⟨J.pk,N⟩,?_⟩
 rw [h,zA p,List.any_cons,f,Bool.false_or]
 refine zF ?_
 replace N:=N.dl [0]
 exact zJ N (by rw [h,zE s];rfl)
theorem x6l {m:Nat} (a:m < 100000):∀{V:Fz} {K:List Res} {w:World} {d:List Value} {e:Ex},REx V d e->Mem V K w->Calls prog 106 #[.agg d.toArray,.int .i64 m] w (fun ee w'=>ee=.returned (.bool (xN m e))/\Mem V K w'):=by
 induction m with
 | zero=>intro V K w d e re N;exact j3j re N
 | succ m b=>intro V K w d e re N;exact j3i re (by omega) (fun r h=>b (by omega) r h) N
theorem j3s {d0:List Value} {e:Ex} {most:Nat} (Z:REx V d0 e) (h1:most<=1000000) (ih:∀x:Ex,x.sz < e.sz->∀{V:Fz} {K:List Res} {w:World} {d:List Value} {most:Nat},most<=1000000->REx V d x->Mem V K w->Calls prog 160 #[.agg d.toArray,.int .i64 (most:Int)] w (fun ee w'=>ee=.returned (.int .i64 ((jZ x most:Nat):Int))/\Mem V K w')) (N:Mem V K w) :
  Calls prog 160 #[.agg d0.toArray,.int .i64 (most:Int)] w (fun ee w'=>ee=.returned (.int .i64 (((jZ e most:Nat):Int)))/\Mem V K w'):=by
 obtain ⟨p3,c4,p9,u,rfl,f0,h2,h8,N0,W,k0,H⟩:=REx.fm Z
 refine zI func160 ntmps160 fun Q hQ a J=>?_
 refine Bx fun s w N a J=>?_
 refine goJ 6 fun a J=>?_
 refine sq fun L C=>?_
 have p:∀a w,(∃(n:Nat),EnvR 66 [(1,.int .i64 most),(2,.pointer (some ⟨s,0,none⟩)),(5,.int .i64 n)] [] a/\Mem V (.blk s (ob [.int .i64 (e.kind),.int .i64 (e.num),.string e.name,.slice p3 e.args.length c4,.slice p9 e.arms.length u] 66)::K) w/\(1<=n/\n<=most+1/\jZ e most=sizeAr e.arms most n))->L a w:=by
  clear N J
  rintro a w ⟨n,J,N,y⟩
  apply C
  obtain ⟨h,k,b⟩:=y
  refine sq fun M D=>?_
  have q:∀a w,(∃(n:Nat),EnvR 66 [(5,.int .i64 n)] [] a/\Mem V (.blk s (ob [.int .i64 (e.kind),.int .i64 (e.num),.string e.name,.slice p3 e.args.length c4,.slice p9 e.arms.length u] 66)::K) w/\(jZ e most=n))->M a w:=by
   clear N J
   rintro a w ⟨n,J,N,z⟩
   apply D
   refine zF ?_
   replace N:=N.dl [0]
   exact pF N (by rw [z])
  refine go fun a J=>?_
  refine zR (J.ks [1,2]) N (fun R mm a w=>∃(j:Nat) (n:Nat),mm=e.arms.length - j/\R V [(5,.int .i64 n),(7,.int .i64 j)] [] a w/\(1<=n/\n<=most+1/\jZ e most=sizeAr (e.arms.drop j) most n)) (e.arms.length - 0) ⟨0,n,rfl,⟨J.pk,N⟩,⟨h,k,b⟩⟩ ?_
  clear N J
  rintro mm a w ⟨j,n,t,⟨J,N⟩,A⟩ z0 E
  clear h k b
  obtain ⟨h,k,b⟩:=A
  by_cases S:j < e.arms.length
  by_cases F0:n<=most
  refine go fun a J=>?_
  obtain ⟨R0,rfl,f,g,a0,i0,G,I⟩:=h8.el H S
  obtain ⟨T0,B0,rfl,T,v⟩:=RArm.iff.1 I
  obtain ⟨O0,C0,rfl,l0,q0⟩:=T.fm
  obtain ⟨X,P,Y,c58,rfl,g0,G0,H0,m0,r0,n0,s0⟩:=REx.fm v
  by_cases I0:16 < f.vars.length
  refine zF ?_
  replace N:=N.dl [0]
  exact pF N (by rw [b,zA g,z1w,if_pos (by omega),if_pos (by omega)])
  refine Qq (fun a J=>?_) (o:=by exact fun J O=>vY 2 (vs:=[.int .i64 (f.body.kind),.int .i64 (f.body.num),.string f.body.name,.slice X f.body.args.length P,.slice Y f.body.arms.length c58]) J O rfl G isAgg66 sizeOf66 rfl rfl)
  refine Qq (fun a J=>?_) (o:=by exact fun J O=>jT ((most - n:Nat):Int) J rfl rfl (by rw [yB (by omega)];omega))
  refine zO call160 (fun w N a J=>?_) (c:=ih _ (by first | exact Ex.lt_args (mgQ g) | exact Ex.lt_arms (mgQ g)) (by omega) v N)
  refine Qq (fun a J=>?_) (o:=by exact fun J O=>z0p ((n+(jZ f.body (most - n)):Nat):Int) J rfl rfl (by have h_:=mG f.body (most - n);rw [yB (by omega)];omega))
  refine go fun a J=>?_
  refine E _ _ _ (by subst t;omega) ⟨(j+1),(n+(jZ f.body (most - n))),rfl,⟨J.pk,N⟩,?_⟩
  have h_:=mG f.body (most - n);exact ⟨by omega,by omega,by rw [b,zA g,z1w,if_pos (by omega),if_neg (by omega)]⟩
  rotate_left
  rotate_left
  all_goals (refine go fun a J=>?_;exact q _ _ ⟨n,J.pk,N,by rw [b,y6y (by omega)]⟩)
 refine go fun a J=>?_
 refine zR (J.ks [1,2]) N (fun R mm a w=>∃(i:Nat) (n:Nat),mm=e.args.length - i/\R V [(5,.int .i64 n),(6,.int .i64 i)] [] a w/\(1<=n/\n<=most+1/\jZ e most=sizeAr e.arms most (sizeRs (e.args.drop i) most n))) (e.args.length - 0) ⟨0,1,rfl,⟨J.pk,N⟩,⟨by omega,by omega,x7g e most⟩⟩ ?_
 clear N J
 rintro mm a w ⟨i,n,t,⟨J,N⟩,B⟩ A0 F
 obtain ⟨h,k,b⟩:=B
 by_cases U:i < e.args.length
 by_cases J0:n<=most
 refine go fun a J=>?_
 obtain ⟨S0,rfl,m,l,b0,j0,c0,r⟩:=h2.el W U
 obtain ⟨P0,D0,Q0,E0,rfl,h0,L0,M0,o0,t0,p0,u0⟩:=REx.fm r
 refine Qq (fun a J=>?_) (o:=by exact fun J O=>jT ((most - n:Nat):Int) J rfl rfl (by rw [yB (by omega)];omega))
 refine zO call160 (fun w N a J=>?_) (c:=ih _ (by first | exact Ex.lt_args (mgQ l) | exact Ex.lt_arms (mgQ l)) (by omega) r N)
 refine Qq (fun a J=>?_) (o:=by exact fun J O=>z0p ((n+(jZ m (most - n)):Nat):Int) J rfl rfl (by have h_:=mG m (most - n);rw [yB (by omega)];omega))
 refine go fun a J=>?_
 refine F _ _ _ (by subst t;omega) ⟨(i+1),(n+(jZ m (most - n))),rfl,⟨J.pk,N⟩,?_⟩
 have h_:=mG m (most - n);exact ⟨by omega,by omega,by rw [b,zA l,q9r,if_pos (by omega)]⟩
 rotate_left
 rotate_left
 all_goals (refine go fun a J=>?_;exact p _ _ ⟨n,J.pk,N,⟨h,k,by rw [b,y6z (by omega)]⟩⟩)
theorem x6q {d:List Value} {e:Ex} {most:Nat} (h1:most<=1000000) (re:REx V d e) (N:Mem V K w) :
  Calls prog 160 #[.agg d.toArray,.int .i64 (most:Int)] w (fun ee w'=>ee=.returned (.int .i64 ((jZ e most:Nat):Int))/\Mem V K w'):=by
 suffices H:∀n (e:Ex),e.sz < n->∀{V:Fz} {K:List Res} {w:World} {d:List Value} {most:Nat},most<=1000000->REx V d e->Mem V K w->Calls prog 160 #[.agg d.toArray,.int .i64 (most:Int)] w (fun ee w'=>ee=.returned (.int .i64 ((jZ e most:Nat):Int))/\Mem V K w') from H _ e (Nat.lt_succ_self _) h1 re N
 intro n
 induction n with
 | zero=>intro e h;omega
 | succ n b=>intro e h V K w d most h1 re N;exact j3s re h1 (fun x c _ _ _ _ _ a r m=>b x (by omega) a r m) N
theorem y4u (l:List Bs) (s:Bs):has l s=gS l s:=rfl
theorem gQ {v0:Value} {l:List Bs} (e:SliceOf RStr V 1 v0 l) (k:Cap v0) (N:Mem V K w) :
  Calls prog 110 #[v0] w (fun ee w'=>ee=.returned (.bool (cB l))/\Mem V K w'):=by
 obtain ⟨B,c0,rfl,y,t⟩:=e.fm
 have r:=k _ _ _ rfl
 refine zI func110 ntmps110 fun Q hQ a J=>?_
 refine go fun a J=>?_
 refine zR (J.ks [0]) N (fun R mm a w=>∃(i:Nat),mm=l.length - i/\R V [(3,.int .i64 i)] [] a w/\(cB l=pK xT (l.take i) (l.drop i))) (l.length - 0) ⟨0,rfl,⟨J.pk,N⟩,by rfl⟩ ?_
 clear N J
 rintro mm a w ⟨i,s,⟨J,N⟩,d⟩ A q
 by_cases p:i < l.length
 refine Reg [1,1,1,2,0,1,1,1,1,1,1,1,1,1,2,0,1] [] fun w N a J=>?_
 refine go fun a J=>?_
 obtain ⟨z,rfl,f,b,g,v,u,m⟩:=e.el t p
 obtain rfl:g=[.string f]:=m
 refine zX call161 (fun h w N a J=>?_) (fun h w N a J=>?_) (c:=tI N)
 have n:=q9t e p
 refine Qq (fun a J=>?_) (o:=by exact fun J O=>q5t J rfl rfl rfl runUnderlying25 sizeOf9 (by omega))
 refine zX call87 (fun j w N a J=>?_) (fun j w N a J=>?_) (c:=y1m n N)
 refine zF ?_
 exact zJ N (by rw [d,zA b,pK];simp [y4u, *])
 refine go fun a J=>?_
 refine q _ _ _ (by subst s;omega) ⟨(i+1),rfl,⟨J.pk,N⟩,?_⟩
 rw [d,zA b,pK,xK b,show (xT f && !has (l.take i) f)=true by simp [y4u, *]];rfl
 refine zF ?_
 exact zJ N (by rw [d,zA b,pK];simp [y4u, *])
 refine zF ?_
 exact zJ N (by rw [d,zE p];rfl)
end
end Go.Sw
