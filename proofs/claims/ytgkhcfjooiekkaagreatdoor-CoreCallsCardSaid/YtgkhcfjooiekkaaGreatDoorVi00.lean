/- CoreCalls: for every program and every call of a function by a name, with values and fuel, the law returns true: Call answers as the specification does; the statement coreCallsCardSaid, as it is given; nothing is assumed beyond it. -/
import Derived.Test.YtgkhcfjooiekkaaGreatDoorX17
set_option linter.unusedVariables false
set_option linter.unusedSimpArgs false
namespace Go.Sw
open Go.Proofs Go.Proofs.Tryz
set_option maxRecDepth 20000
set_option maxHeartbeats 4000000
def z1o (l:List Bs) (x:Bs):List Bs:=if sH l x then l else l++[x]
def xQ (l:List Bs) (xs:List Bs):List Bs:=xs.foldl z1o l
theorem oC (l a b:List Bs):xQ l (a++b)=xQ (xQ l a) b:=by simp [xQ]
theorem z8b (l:List Bs):xQ l []=l:=rfl
theorem x4d {l:List Bs} {x y:Bs}:y∈z1o l x↔y∈l∨y=x:=by
 unfold z1o
 split
 ·rename_i h
  exact ⟨.inl,fun h'=>h'.elim id fun e=>e▸hasB_mem.1 h⟩
 ·simp
theorem addsN_mem:∀{xs l:List Bs} {y:Bs},y∈xQ l xs↔y∈l∨y∈xs
 | [],l,y=>by simp [xQ]
 | x::xs,l,y=>by
  have:=addsN_mem (xs:=xs) (l:=z1o l x) (y:=y)
  simp only [xQ,List.foldl_cons] at this ⊢
  rw [this,x4d,List.mem_cons,or_assoc]
theorem j2v {l:List Bs} {x:Bs} (h:l.Nodup):(z1o l x).Nodup:=by
 unfold z1o
 split
 ·exact h
 ·rename_i c
  have c:x∉l:=fun g=>c (hasB_mem.2 g)
  exact List.nodup_append.2 ⟨h,by simp,fun a d b hb=>by simp only [List.mem_singleton] at hb;subst hb;rintro rfl;exact c d⟩
theorem y0e:∀{xs l:List Bs},l.Nodup->(xQ l xs).Nodup
 | [],_,h=>h
 | x::xs,l,h=>y0e (xs:=xs) (l:=z1o l x) (j2v h)
theorem x4e (l:List Bs) (x:Bs):∃r,z1o l x=l++r:=by
 unfold z1o
 split
 ·exact ⟨[],by simp⟩
 ·exact ⟨[x],rfl⟩
theorem y9w:∀(xs l:List Bs),∃r,xQ l xs=l++r
 | [],l=>⟨[],by simp [xQ]⟩
 | x::xs,l=>by
  obtain ⟨r,hr⟩:=x4e l x
  obtain ⟨q,hq⟩:=y9w xs (z1o l x)
  exact ⟨r++q,by rw [show xQ l (x::xs)=xQ (z1o l x) xs from rfl,hq,hr,List.append_assoc]⟩
theorem x4c (l:List Bs) (x:Bs):(z1o l x).length<=l.length+1:=by
 unfold z1o;split <;> simp
theorem z3n:∀(xs l:List Bs),(xQ l xs).length<=l.length+xs.length
 | [],l=>by simp [xQ]
 | x::xs,l=>by
  have h1:=z3n xs (z1o l x)
  have a:=x4c l x
  rw [show xQ l (x::xs)=xQ (z1o l x) xs from rfl,lcQ];omega
theorem z7b:∀{l:List Ex} {y:Bs},y∈calledPs l->∃x∈l,y∈zY x
 | [],_,h=>by cases h
 | x::l,y,h=>by
  simp only [calledPs,List.mem_append] at h
  rcases h with h | h
  ·exact ⟨x,msQ,h⟩
  ·obtain ⟨z,a,g⟩:=z7b h;exact ⟨z,mcQ _ a,g⟩
theorem z7a:∀{l:List Arm} {y:Bs},y∈calledPa l->∃a∈l,y∈zY a.body
 | [],_,h=>by cases h
 | x::l,y,h=>by
  rw [mA,List.mem_append] at h
  rcases h with h | h
  ·exact ⟨x,msQ,h⟩
  ·obtain ⟨z,b,g⟩:=z7a h;exact ⟨z,mcQ _ b,g⟩
theorem z3h {T:Table} (c:zJ T.datas sNo=none):∀(n:Nat) (e:Ex),e.sz < n->∀(s:Scope) (t:Bs),(zP e).Nodup->Fresh s (zP e)->Ty T e s t->∀y∈zY e,∃f,zJ T.funs y=some f
 | 0,_,h=>by omega
 | n+1,e,v=>by
  intro s t r q l y b
  have k:=z3i c r q l
  rw [mW,List.mem_append,List.mem_append] at b
  rcases b with (b | b) | b
  ·split at b
   ·rename_i p
    simp only [List.mem_singleton] at b
    subst b
    obtain ⟨h,i⟩:=l
    rw [wK T e s p] at h
    unfold nS at h
    split at h
    ·exact absurd h.symm i
    ·rename_i m N;exact ⟨m,N⟩
   ·cases b
  ·obtain ⟨x,o,g⟩:=z7b b
   obtain ⟨s',u,d,a2,a3,_⟩:=k.args x o
   exact z3h c n x (by have:=Ex.lt_args o;omega) s' u d a2 a3 y g
  ·obtain ⟨a,j,g⟩:=z7a b
   obtain ⟨⟨s',u,d,a2,a3,_⟩,_⟩:=k.arms a j
   exact z3h c n a.body (by have:=Ex.lt_arms j;omega) s' u d a2 a3 y g
theorem j3a {c:Core} (a:Right c) {f:Fun} (d:f∈c.funs):∀y∈zY f.body,∃g,zJ (zE c).funs y=some g:=by
 have h1:=a.fOk f d
 simp only [pI,baQ,decide_eq_true_eq] at h1
 obtain ⟨b,_,_⟩:=vG h1.1.2
 have a4:=zV b
 refine z3h (uR (inp:=[]) a).dNo _ f.body (Nat.lt_succ_self _) (sQ f.params) f.result a4.2.1 (fun m N=>?_) ⟨h1.2,q6t a h1.1.1.2⟩
 rw [aZ,vE (fun e=>a4.2.2 m e N)];rfl
theorem q2k {c:Core} (h:yR c=0) {n:Bs} {f:Fun} (d:zJ (zE c).funs n=some f) {x:Bs} (i:Reach (zE c) n x):∃g,zJ (zE c).funs x=some g:=by
 induction i with
 | refl=>exact ⟨f,d⟩
 | step _ b j=>
  obtain ⟨g,a⟩:=j
  have hr:=(vD h).2
  have e:wI c=true:=by simp only [qX,baQ] at hr;exact hr.1.1.1.1.1
  rw [jV,aJ a] at b
  exact j3a (pL h) (cC e a) _ b
theorem oY {c:Core} (h:yR c=0):(zE c).funs=xK Fun.name id c.funs:=(pL h).funs
theorem x8j {c:Core} (h:yR c=0) {n:Bs} {f:Fun} (d:zJ (zE c).funs n=some f) {x:Bs} (e:Reach (zE c) n x):∃g j,mM c.funs x=some j/\c.funs[j]? = some g/\aR (zE c) x=g.body:=by
 obtain ⟨g,a⟩:=q2k h d e
 have hb:=aJ a
 rw [oY h] at a
 obtain ⟨j,h1,b⟩:=y4j a
 exact ⟨g,j,h1,b,hb⟩
structure ClosI (c:Core) (n:Bs) (m:List Bs) (i:Nat) (b:Bool):Prop where
 starts:n∈m
 nodup:m.Nodup
 reach:∀x∈m,Reach (zE c) n x
 closed:∀x∈m.take i,∀y∈zY (aR (zE c) x),y∈m
 reads:b=(m.take i).any (fun x=>jA (aR (zE c) x))
 le:i<=m.length
theorem ClosI.start {c:Core} {n:Bs}:ClosI c n [n] 0 false:=⟨by simp,by simp,by simp;exact .refl,by simp,rfl,Nat.zero_le _⟩
theorem ClosI.next {c:Core} {n:Bs} {m:List Bs} {i:Nat} {b:Bool} {x:Bs} (h:ClosI c n m i b) (e:m[i]? = some x):ClosI c n (xQ m (zY (aR (zE c) x))) (i+1) (b || jA (aR (zE c) x)):=by
 have k:i < m.length:=(List.getElem?_eq_some_iff.1 e).1
 have j:m.take (i+1)=m.take i++[x]:=by rw [List.take_add_one,e];rfl
 obtain ⟨r,hr⟩:=y9w (zY (aR (zE c) x)) m
 have d:(xQ m (zY (aR (zE c) x))).take (i+1)=m.take i++[x]:=by rw [hr,List.take_append_of_le_length (by omega),j]
 have f:x∈m:=mgQ e
 refine ⟨addsN_mem.2 (.inl h.starts),y0e h.nodup,fun y a=>?_,fun y a z g=>?_,?_,?_⟩
 ·rcases addsN_mem.1 a with a | a
  ·exact h.reach y a
  ·exact .step (h.reach x f) a
 ·rw [d] at a
  rcases List.mem_append.1 a with a | a
  ·exact addsN_mem.2 (.inl (h.closed y a z g))
  ·simp only [List.mem_singleton] at a;subst a;exact addsN_mem.2 (.inr g)
 ·rw [d,List.any_append,<- h.reads];simp
 ·rw [hr,laQ];omega
theorem ClosI.fin {c:Core} {n:Bs} {m:List Bs} {i:Nat} {b:Bool} (h:ClosI c n m i b) (j:¬i < m.length):b=true↔xP (zE c) n:=by
 have d:m.take i=m:=List.take_of_length_le (by omega)
 have N:∀x,Reach (zE c) n x->x∈m:=fun x e=>by
  induction e with
  | refl=>exact h.starts
  | step _ f g=>exact h.closed _ (by rw [d];exact g) _ f
 rw [h.reads,d,List.any_eq_true]
 exact ⟨fun ⟨x,h1,a⟩=>⟨x,h.reach x h1,a⟩,fun ⟨x,h1,a⟩=>⟨x,N x h1,a⟩⟩
theorem ClosI.len {c:Core} (hl:yR c=0) {n:Bs} {f:Fun} (e:zJ (zE c).funs n=some f) {m:List Bs} {i:Nat} {b:Bool} (h:ClosI c n m i b):m.length<=300:=by
 have h1:m.length<=(c.funs.map Fun.name).length:=z2s h.nodup fun x j=>by
  obtain ⟨g,a⟩:=q2k hl e (h.reach x j)
  rw [oY hl] at a
  obtain ⟨y,k,rfl,_⟩:=xS a
  exact List.mem_map_of_mem k
 have d:=(vD hl).1
 simp only [vO,Bool.or_eq_false_iff,decide_eq_false_iff_not] at d
 simp only [List.length_map] at h1
 omega
def sW (ds:List Data):List Val->List Param->Bool
 | [],_=>true
 | _::_,[]=>true
 | v::vs,p::ps=> !z0g v&&mG ds v p.type&&sW ds vs ps
theorem y2s {c:Core} (h:Tabled c):∀(l:List Val) (ps:List Param),ps.length=l.length->sW c.datas l ps=nC (zE c) l ps
 | [],[],_=>rfl
 | x::l,p::ps,hl=>by simp only [sW,nC,z2h,y7h h,y2s h l ps (by simpa using hl)]
 | [],_::_,hl=>by simp at hl
 | _::_,[],hl=>by simp at hl
theorem y4l {T:Table}:∀{l:List Val} {ps:List Param},nC T l ps=true->ps.length=l.length
 | [],[],_=>rfl
 | _::l,_::ps,h=>by simp only [nC,baQ] at h;simp [y4l h.2]
 | [],_::_,h=>by cases h
 | _::_,[],h=>by cases h
open Classical in
noncomputable def vK (c:Core) (name:Bs) (args:List Val) (fuel:Int):Val×Int×Int :=
 if jP c≠0 then (v0,0,jP c)
 else if (decide (0<=fuel)&&decide (fuel<=200000))=false then (v0,0,1)
 else match zJ (xK Fun.name id c.funs) name with
  | none=>(v0,0,3)
  | some f=>
   if ¬f.params.length=args.length then (v0,0,8)
   else if sW c.datas args f.params=false then (v0,0,8)
   else if xP (zE c) name then (v0,0,8)
   else match kP (xC (yM (mY c [])) f args) fuel.toNat with
    | .ok (v,g)=>(v,((fuel.toNat - g:Nat):Int),0)
    | .error e=>(v0,0,((e:Nat):Int))
theorem q8s {c:Core} (h:yR c=0):yM (mY c [])=yM ⟨(zE c).funs,[]⟩ :=
 y0r (C:=⟨(zE c).funs,[]⟩) (D:=mY c []) (q8t h) fun _=>rfl
theorem call_eq (c:Core) (name:Bs) (args:List Val) (fuel:Int):vK c name args fuel=yN c name args fuel:=by
 unfold vK yN
 rw [gJ]
 by_cases h:yR c=0
 ·have b:=(y2g h).tab
  rw [if_neg (not_not_intro h),if_neg (not_not_intro h),oY h,q8s h,<- oY h]
  by_cases a:fuel < 0∨200000 < fuel
  ·rw [if_pos a,if_pos (by rcases a with a | a <;> simp <;> omega)]
  ·rw [if_neg a,if_neg (by simp;omega)]
   cases zJ (zE c).funs name with
   | none=>rfl
   | some f=>
    simp only
    by_cases hl:f.params.length=args.length
    ·rw [if_neg (not_not_intro hl),y2s b _ _ hl];rfl
    ·rw [if_pos hl,if_pos]
     cases g:nC (zE c) args f.params with
     | true=>exact absurd (y4l g) hl
     | false=>rfl
 ·rw [if_pos h,if_pos h]
theorem x4t {c:Core} {name:Bs} {args:List Val} {f:Fun} (h:yR c=0) (a:zJ (xK Fun.name id c.funs) name=some f) (hl:f.params.length=args.length) (b:sW c.datas args f.params=true) (hr:¬xP (zE c) name) (g:Nat):xC (yM (mY c [])) f args g≠.stuck:=by
 rw [q8s h]
 rw [<- oY h] at a
 rw [y2s (y2g h).tab _ _ hl] at b
 exact z8f h name args f a b hr g
section
variable {c:Core} {name:Bs} {args:List Val} {fuel:Int} {f:Fun}
theorem x0e (h:¬jP c=0):vK c name args fuel=(v0,0,jP c):=by rw [vK,if_pos h]
theorem j3b (h:jP c=0) (a:(decide (0<=fuel)&&decide (fuel<=200000))=false):vK c name args fuel=(v0,0,1):=by rw [vK,if_neg (not_not_intro h),if_pos a]
theorem j3c (h:jP c=0) (b:(decide (0<=fuel)&&decide (fuel<=200000))=true) (a:xF c.funs name < 0):vK c name args fuel=(v0,0,3):=by
 rw [vK,if_neg (not_not_intro h),if_neg (by rw [b];decide)]
 have:zJ (xK Fun.name id c.funs) name=none:=by
  rw [<- z9b]
  unfold xF at a
  cases d:mM c.funs name with
  | none=>rfl
  | some j=>rw [d] at a;exact absurd a (by simp)
 rw [this]
theorem j3x (a:¬xF c.funs name < 0):∃j f,mM c.funs name=some j/\c.funs[j]? = some f/\zJ (xK Fun.name id c.funs) name=some f:=by
 cases b:mM c.funs name with
 | none=>unfold xF at a;rw [b] at a;exact absurd (show (-1:Int) < 0 by decide) a
 | some j=>obtain ⟨f,h1,d⟩:=j3w b;exact ⟨j,f,rfl,h1,d⟩
theorem x0f (h:jP c=0) (a:(decide (0<=fuel)&&decide (fuel<=200000))=true) (b:zJ (xK Fun.name id c.funs) name=some f) (hl:¬f.params.length=args.length):vK c name args fuel=(v0,0,8):=by
 rw [vK,if_neg (not_not_intro h),if_neg (by rw [a];decide),b];simp only;rw [if_pos hl]
theorem y3c (h:jP c=0) (a:(decide (0<=fuel)&&decide (fuel<=200000))=true) (d:zJ (xK Fun.name id c.funs) name=some f) (hl:f.params.length=args.length) (b:sW c.datas args f.params=false):vK c name args fuel=(v0,0,8):=by
 rw [vK,if_neg (not_not_intro h),if_neg (by rw [a];decide),d];simp only;rw [if_neg (not_not_intro hl),if_pos b]
theorem q7u (h:jP c=0) (a:(decide (0<=fuel)&&decide (fuel<=200000))=true) (d:zJ (xK Fun.name id c.funs) name=some f) (hl:f.params.length=args.length) (b:sW c.datas args f.params=true) (hr:xP (zE c) name):vK c name args fuel=(v0,0,8):=by
 rw [vK,if_neg (not_not_intro h),if_neg (by rw [a];decide),d];simp only;rw [if_neg (not_not_intro hl),if_neg (by rw [b];decide),if_pos hr]
theorem uB (h:jP c=0) (a:(decide (0<=fuel)&&decide (fuel<=200000))=true) (d:zJ (xK Fun.name id c.funs) name=some f) (hl:f.params.length=args.length) (b:sW c.datas args f.params=true) (hr:¬xP (zE c) name) :
  vK c name args fuel=match kP (xC (yM (mY c [])) f args) fuel.toNat with
    | .ok (v,g)=>(v,((fuel.toNat - g:Nat):Int),0)
    | .error e=>(v0,0,((e:Nat):Int)):=by
 rw [vK,if_neg (not_not_intro h),if_neg (by rw [a];decide),d];simp only;rw [if_neg (not_not_intro hl),if_neg (by rw [b];decide),if_neg hr]
end
def CallsI (l:List Bs) (e:Ex) (m:List Bs) (b:Bool) (xs:List Ex) (rs:List Arm):Prop :=
 xQ l (zY e)=xQ (xQ m (calledPs xs)) (calledPa rs)/\jA e=(b || xs.any jA || rs.any (fun a=>jA a.body))/\m.length+(calledPs xs).length+(calledPa rs).length<=l.length+(zY e).length
theorem z1w {l m:List Bs} {e:Ex} {b:Bool} (h:m=xQ l (if e.kind=5 then [e.name] else [])) (hb:b=decide (e.kind=3)):CallsI l e m b e.args e.arms:=by
 subst h;subst hb
 refine ⟨by rw [mW,oC,oC],by rw [aX],?_⟩
 have:=z3n (if e.kind=5 then [e.name] else []) l
 rw [mW];simp only [laQ];omega
section
variable {l m:List Bs} {e x:Ex} {b:Bool} {xs:List Ex} {rs:List Arm} {a:Arm}
theorem CallsI.arg (h:CallsI l e m b (x::xs) rs):CallsI l e (xQ m (zY x)) (b || jA x) xs rs:=by
 obtain ⟨h1,a,c⟩:=h
 have:=z3n (zY x) m
 simp only [calledPs,oC,laQ,List.any_cons] at h1 a c
 exact ⟨h1,by rw [a];simp [Bool.or_assoc],by omega⟩
theorem CallsI.arm (h:CallsI l e m b [] (a::rs)):CallsI l e (xQ m (zY a.body)) (b || jA a.body) [] rs:=by
 obtain ⟨h1,c,d⟩:=h
 have:=z3n (zY a.body) m
 simp only [mA,calledPs,oC,z8b,laQ,lnQ,List.any_cons,List.any_nil,Bool.or_false] at h1 c d
 exact ⟨by simpa [calledPs,z8b] using h1,by rw [c];simp [Bool.or_assoc],by simp only [calledPs,lnQ];omega⟩
theorem CallsI.len1 (h:CallsI l e m b (x::xs) rs) {k:Nat} (c:l.length+(zY e).length<=k):m.length+(zY x).length<=k:=by
 have a:=h.2.2;simp only [calledPs,laQ] at a;omega
theorem CallsI.len2 (h:CallsI l e m b xs (a::rs)) {k:Nat} (d:l.length+(zY e).length<=k):m.length+(zY a.body).length<=k:=by
 have c:=h.2.2;simp only [mA,laQ] at c;omega
theorem CallsI.fin (h:CallsI l e m b [] []):xQ l (zY e)=m/\jA e=b:=by
 obtain ⟨h1,a,_⟩:=h
 exact ⟨by simpa [calledPs,calledPa,z8b] using h1,by simpa using a⟩
end
theorem x9j {l:List Bs} {i:Nat} {x:Bs} (h:l[i]? = some x):(strs l)[i * 1]? = some (.string x):=by
 simp [strs,h]
theorem gs_form {V:Fz} {K:List Res} {w:World} {i:Nat} {v:Value} {l:List Bs} (N:Mem V K w) (c:qS K i=some (.gs v 9 1 (strs l))):∃p cap,v=.slice p l.length cap:=by
 obtain ⟨m,hl,a⟩:=N.own _ (yU c)
 rw [yG] at hl
 rcases a with ⟨rfl,rfl⟩ | ⟨b,cap,cur,rfl,_⟩
 ·exact ⟨none,0,by rw [show l.length=0 by omega]⟩
 ·exact ⟨_,cap,by rw [show l.length=m by omega]⟩
section
variable {V:Fz} {K:List Res} {w:World}
theorem q7x {v:Value} {l:List Bs} {d1:List Value} {e:Ex} (p0:REx V d1 e) (hb:l.length+(zY e).length<=8796093000000) (ih:∀x:Ex,x.sz < e.sz->∀{V:Fz} {K:List Res} {w:World} {d:List Value} {v:Value} {l:List Bs},l.length+(zY x).length<=8796093000000->REx V d x->Mem V (.gs v 9 1 (strs l)::K) w->Calls prog 94 #[v,.agg d.toArray] w (fun ee w'=>∃y:Value,ee=.returned (.tuple #[y,.bool (jA x)])/\True/\Mem V (.gs y 9 1 (strs (xQ l (zY x)))::K) w')) (N:Mem V (.gs v 9 1 (strs l)::K) w) :
  Calls prog 94 #[v,.agg d1.toArray] w (fun ee w'=>∃y:Value,ee=.returned (.tuple #[y,.bool (jA e)])/\True/\Mem V (.gs y 9 1 (strs (xQ l (zY e)))::K) w'):=by
 obtain ⟨p3,c4,p9,A,rfl,A0,h2,h8,f1,l0,F0,W⟩:=REx.fm p0
 refine zK func94 ntmps94 fun Q hQ a J=>?_
 refine Bx fun g w N a J=>?_
 refine goJ 2 fun a J=>?_
 refine sq fun g0 S=>?_
 have B:∀a w,(∃(G:Bool),EnvR 78 [(0,v),(3,.pointer (some ⟨g,0,none⟩)),(6,.bool G)] [] a/\Mem V (.blk g (ob [.int .i64 (e.kind),.int .i64 (e.num),.string e.name,.slice p3 e.args.length c4,.slice p9 e.arms.length A] 66)::.gs (v) 9 1 (strs l)::K) w/\(G=decide (e.kind=3)))->g0 a w:=by
  clear N J
  rintro a w ⟨G,J,N,P⟩
  apply S
  have t:=P
  refine sq fun h0 T=>?_
  have s:∀a w,(∃(u0:Value) (m0:List Bs),EnvR 78 [(0,u0),(3,.pointer (some ⟨g,0,none⟩)),(6,.bool G)] [] a/\Mem V (.blk g (ob [.int .i64 (e.kind),.int .i64 (e.num),.string e.name,.slice p3 e.args.length c4,.slice p9 e.arms.length A] 66)::.gs (u0) 9 1 (strs m0)::K) w/\(CallsI l e m0 G e.args e.arms))->h0 a w:=by
   clear N J
   rintro a w ⟨u0,m0,J,N,R⟩
   apply T
   refine go fun a J=>?_
   refine mO (fun mm a w=>∃(i:Nat) (u:Value) (m:List Bs) (b:Bool),mm=e.args.length - i/\EnvR 78 [(0,u),(3,.pointer (some ⟨g,0,none⟩)),(6,.bool b),(7,.int .i64 ((i:Nat):Int))] [] a/\Mem V (.blk g (ob [.int .i64 (e.kind),.int .i64 (e.num),.string e.name,.slice p3 e.args.length c4,.slice p9 e.arms.length A] 66)::.gs (u) 9 1 (strs m)::K) w/\(CallsI l e m b (e.args.drop i) e.arms)) (e.args.length - 0) ⟨0,u0,m0,G,rfl,J.pk,N,by simpa using R⟩ ?_
   clear N J
   rintro mm a w ⟨i,u,m,b,z,J,N,n⟩ R0 C
   by_cases H:i < e.args.length
   refine go fun a J=>?_
   obtain ⟨j1,rfl,F,q,s0,D0,z0,E⟩:=h2.el l0 H
   obtain ⟨g1,U0,h1,V0,rfl,B0,Y0,Z0,G0,L0,H0,M0⟩:=REx.fm E
   replace N:=N.pl 1
   refine yP call94 (fun Y w x0 N a J=>?_) (c:=ih _ (Ex.lt_args (mgQ q)) (l:=m) (by have h_:=n;rw [zA q] at h_;exact h_.len1 hb) E N)
   replace N:=N.nf
   refine go fun a J=>?_
   cases b
   refine go fun a J=>?_
   replace N:=N.pl 1
   refine C _ _ _ (by subst z;omega) ⟨(i+1),(Y),((xQ m (zY F))),((jA F)),rfl,J.pk,N,?_⟩
   have h_:=n;rw [zA q] at h_;first | exact h_.arg | (have f:=h_.arg;simp only [*] at f ⊢;exact f)
   refine go fun a J=>?_
   replace N:=N.pl 1
   refine C _ _ _ (by subst z;omega) ⟨(i+1),(Y),((xQ m (zY F))),(true),rfl,J.pk,N,?_⟩
   have h_:=n;rw [zA q] at h_;first | exact h_.arg | (have f:=h_.arg;simp only [*] at f ⊢;exact f)
   refine go fun a J=>?_
   refine mO (fun mm a w=>∃(j:Nat) (u2:Value) (m2:List Bs) (b2:Bool),mm=e.arms.length - j/\EnvR 78 [(0,u2),(3,.pointer (some ⟨g,0,none⟩)),(6,.bool b2),(10,.int .i64 ((j:Nat):Int))] [] a/\Mem V (.blk g (ob [.int .i64 (e.kind),.int .i64 (e.num),.string e.name,.slice p3 e.args.length c4,.slice p9 e.arms.length A] 66)::.gs (u2) 9 1 (strs m2)::K) w/\(CallsI l e m2 b2 [] (e.arms.drop j))) (e.arms.length - 0) ⟨0,u,m,b,rfl,J.pk,N,by have h_:=n;rw [zB H] at h_;exact h_⟩ ?_
   clear N J
   rintro mm a w ⟨j,u2,m2,b2,z,J,N,p⟩ S0 D
   by_cases I:j < e.arms.length
   refine go fun a J=>?_
   obtain ⟨k1,rfl,h,r,t0,E0,U,X⟩:=h8.el W I
   obtain ⟨l1,T0,rfl,k0,L⟩:=RArm.iff.1 X
   obtain ⟨i1,W0,rfl,I0,N0⟩:=k0.fm
   obtain ⟨n0,i0,o0,j0,rfl,C0,a1,c1,J0,O0,K0,P0⟩:=REx.fm L
   refine Qq (fun a J=>?_) (o:=by exact fun J O=>jF 2 (vs:=[.int .i64 (h.body.kind),.int .i64 (h.body.num),.string h.body.name,.slice n0 h.body.args.length i0,.slice o0 h.body.arms.length j0]) J O rfl U isAgg66 sizeOf66 rfl rfl)
   replace N:=N.pl 1
   refine yP call94 (fun Z w y0 N a J=>?_) (c:=ih _ (Ex.lt_arms (mgQ r)) (l:=m2) (by have h_:=p;rw [zA r] at h_;exact h_.len2 hb) L N)
   replace N:=N.nf
   refine go fun a J=>?_
   cases b2
   refine go fun a J=>?_
   replace N:=N.pl 1
   refine D _ _ _ (by subst z;omega) ⟨(j+1),(Z),((xQ m2 (zY h.body))),((jA h.body)),rfl,J.pk,N,?_⟩
   have h_:=p;rw [zA r] at h_;first | exact h_.arm | (have f:=h_.arm;simp only [*] at f ⊢;exact f)
   refine go fun a J=>?_
   replace N:=N.pl 1
   refine D _ _ _ (by subst z;omega) ⟨(j+1),(Z),((xQ m2 (zY h.body))),(true),rfl,J.pk,N,?_⟩
   have h_:=p;rw [zA r] at h_;first | exact h_.arm | (have f:=h_.arm;simp only [*] at f ⊢;exact f)
   refine xG ?_
   replace N:=N.dl [0]
   have k:=p
   rw [zB I] at k
   rw [k.fin.1,k.fin.2];exact ⟨_,rfl,trivial,N⟩
  refine go fun a J=>?_
  by_cases e1:e.kind=5
  replace N:=N.pl 1
  refine zZ call87 (fun M w N a J=>?_) (fun M w N a J=>?_) (c:=q5p (l:=l) N)
  refine go fun a J=>?_
  replace N:=N.pl 1
  exact s _ _ ⟨v,l,J.pk,N,z1w (by simp [xQ,z1o, *]) t⟩
  refine qF fun m1 w N a J=>?_
  refine qQ 1 wT (fun r0 w N a J=>?_) (hb:=by simp [yG];omega)
  first | rw [jS] at N | rw [<- yW] at N
  refine go fun a J=>?_
  replace N:=N.ar [0] [1]
  exact s _ _ ⟨r0,(l++[e.name]),J.pk,N,z1w (by simp [xQ,z1o, *]) t⟩
  refine go fun a J=>?_
  exact s _ _ ⟨v,l,J.pk,N,z1w (by simp [xQ,z1o, *]) t⟩
 by_cases w0:e.kind=3
 refine go fun a J=>?_
 exact B _ _ ⟨true,J.pk,N,by simp [*]⟩
 refine go fun a J=>?_
 exact B _ _ ⟨false,J.pk,N,by simp [*]⟩
theorem x0h {d:List Value} {v:Value} {l:List Bs} {x:Ex} (hb:l.length+(zY x).length<=8796093000000) (re:REx V d x) (N:Mem V (.gs v 9 1 (strs l)::K) w) :
  Calls prog 94 #[v,.agg d.toArray] w (fun ee w'=>∃y:Value,ee=.returned (.tuple #[y,.bool (jA x)])/\True/\Mem V (.gs y 9 1 (strs (xQ l (zY x)))::K) w'):=by
 suffices H:∀n (x:Ex),x.sz < n->∀{V:Fz} {K:List Res} {w:World} {d:List Value} {v:Value} {l:List Bs},l.length+(zY x).length<=8796093000000->REx V d x->Mem V (.gs v 9 1 (strs l)::K) w->Calls prog 94 #[v,.agg d.toArray] w (fun ee w'=>∃y:Value,ee=.returned (.tuple #[y,.bool (jA x)])/\True/\Mem V (.gs y 9 1 (strs (xQ l (zY x)))::K) w') from H _ x (Nat.lt_succ_self _) hb re N
 intro n
 induction n with
 | zero=>intro x h;omega
 | succ n b=>intro x h V K w d v l hb re N;exact q7x re hb (fun x c _ _ _ _ _ _ a r m=>b x (by omega) a r m) N
theorem q8d {d0:List Value} {v1:Value} {c:Core} {ll:List Bs} {n:Bs} {f:Fun} (L:RCore V d0 c) (t:SliceOf RStr V 1 v1 ll) (F:ll=[n]) (z:yR c=0) (D:zJ (zE c).funs n=some f) (N:Mem V K w) :
  Calls prog 66 #[.agg d0.toArray,v1] w (fun ee w'=>∃y:Value×Bool,ee=.returned (.tuple #[y.1,.bool y.2])/\(y.2=true↔xP (zE c) n)/\Mem V K w'):=by
 obtain ⟨p3,c4,p9,y0,J0,z0,K0,c22,rfl,h2,h8,P,C0,G0,I0,g0,n0,i0,H,j0,o0⟩:=RCore.fm L
 obtain ⟨p1,c1,rfl,F0,H0⟩:=t.fm
 refine zK func66 ntmps66 fun Q hQ a J=>?_
 refine Bx fun w0 w N a J=>?_
 refine go fun a J=>?_
 refine st J rfl rfl rfl (vH (sz:=1) (cs:=[]) J N rfl (dK runUnderlying25 sizeOf9) rfl (by decide) fun O0 w N _ a J=>?_)
 refine qQ 0 wT (fun Y w N a J=>?_) (hr:=(SliceOf.strs.1 t).rowIn N.toSees) (h1:=aN _) (hb:=by rw [yG,F];simp only [lcQ,lnQ];omega)
 refine go fun a J=>?_
 replace N:=N.nf
 refine zU (J.ks [2]) N (fun R mm a w=>∃(i:Nat) (u:Value) (m:List Bs) (b:Bool),mm=300 - i/\R V [(6,u),(7,.bool b),(8,.int .i64 ((i:Nat):Int))] [(0,.gs (u) 9 1 (strs m))] a w/\(ClosI c n m i b)) (300 - 0) ⟨0,Y,ll,false,rfl,⟨J.pk,N⟩,by rw [F];exact ClosI.start⟩ ?_
 clear N J
 rintro mm a w ⟨i,u,m,b,G,⟨J,N⟩,B⟩ u0 j
 replace N:=N.nf
 have d:=B
 refine go fun a J=>?_
 have f0:=d.len z D
 obtain ⟨q_,cap_,rfl⟩:=gs_form N (i:=0) rfl
 by_cases v:i < m.length
 refine Reg [1,1,2,2,1,1,1,0,0,1,1,2,0,1,1,1,1,1] [1] fun w N a J=>?_
 refine go fun a J=>?_
 obtain ⟨X,r⟩:=N.toSees.gsSome (i:=0) rfl v
 obtain ⟨Z,e⟩:=qR (l:=m) (i:=i) (by omega)
 refine Qq (fun a J=>?_) (o:=by exact fun J O=>tK (p:=X) i J (by rw [<- r];rfl) rfl runUnderlying25 sizeOf9 v)
 refine d_e J rfl rfl rfl (mF (q3h 0 i J N.toSees rfl (by rw [<- r];rfl) (x9j e) isAgg9) ⟨fun _=>N.sn (Fz.Le.refl _),fun a J=>?_⟩)
 refine zO call55 (fun w N a J=>?_) (c:=dQ L N)
 obtain ⟨g_,j_,T,q,k⟩:=x8j z D (d.reach _ (mgQ e))
 have E:j_ < c.funs.length:=(List.getElem?_eq_some_iff.1 q).1
 rw [show xF c.funs Z=((j_:Nat):Int) by rw [xF,T]] at J
 obtain ⟨M0,rfl,g,s,a0,e0,C,I⟩:=P.el H E
 obtain ⟨N0,x0,rfl,S,A⟩:=id I
 obtain ⟨L0,A0,rfl,k0,p0⟩:=S.fm
 obtain ⟨U,c62,W,c68,rfl,c0,D0,E0,l0,q0,m0,r0⟩:=REx.fm A
 refine Qq (fun a J=>?_) (o:=by exact fun J O=>jF 3 (vs:=[.int .i64 (g.body.kind),.int .i64 (g.body.num),.string g.body.name,.slice U g.body.args.length c62,.slice W g.body.arms.length c68]) J O rfl C isAgg66 sizeOf66 rfl rfl)
 obtain rfl:g=g_:=Option.some.inj (s.symm.trans q)
 refine yP call94 (fun M w b0 N a J=>?_) (c:=x0h (l:=m) (by have h_:=d.len z D;have h:=oS (nF (vD z).1 (mgQ s));omega) A N)
 replace N:=N.nf
 refine go fun a J=>?_
 cases b
 refine go fun a J=>?_
 refine j (300 - (i+1)) _ _ (by subst G;have h_:=d.len z D;omega) ⟨(i+1),(M),((xQ m (zY g.body))),((jA g.body)),rfl,⟨J.pk,N⟩,?_⟩
 rw [<- k] at *;first | exact d.next e | (have h:=d.next e;simp only [*] at h ⊢;exact h)
 refine go fun a J=>?_
 refine j (300 - (i+1)) _ _ (by subst G;have h_:=d.len z D;omega) ⟨(i+1),(M),((xQ m (zY g.body))),(true),rfl,⟨J.pk,N⟩,?_⟩
 rw [<- k] at *;first | exact d.next e | (have h:=d.next e;simp only [*] at h ⊢;exact h)
 refine xG ?_
 replace N:=N.dl [1,0]
 exact ⟨(_,_),rfl,d.fin v,N⟩
end
theorem x0d {V:Fz} {K:List Res} {w:World} {d0:List Value} {va:Value} {c:Core} {nm:Bs} {args:List Val} {fuel:Int} (m:RCore V d0 c) (ra:SliceOf RVal V 3 va args) (J0:∀v,d0[3]? = some v->Cap v) (N:Mem V K w) :
  Calls prog 21 #[.agg d0.toArray,.agg #[.string nm,va,.int .i64 fuel]] w (fun ee w'=>∃y:Fz×Value,ee=.returned (.tuple #[.agg #[.string (vK c nm args fuel).1.con,.int .i64 (vK c nm args fuel).1.num,y.2,.int .i64 (vK c nm args fuel).2.1],.int .i64 (vK c nm args fuel).2.2])/\(V.Le y.1/\RVal y.1 [.string (vK c nm args fuel).1.con,.int .i64 (vK c nm args fuel).1.num,y.2] (vK c nm args fuel).1)/\Mem y.1 K w'):=by
 obtain ⟨p3,c4,p9,C0,T1,D0,U0,c22,rfl,h2,h8,F0,N1,R1,S1,k1,s1,l1,s0,m1,t1⟩:=RCore.fm m
 obtain ⟨a2,L1,rfl,r1,u0⟩:=ra.fm
 have p0:=J0
 refine zK func21 ntmps21 fun Q hQ a J=>?_
 refine Bx fun D1 w N a J=>?_
 refine Bx fun E1 w N a J=>?_
 refine Alc fun F1 w N a J=>?_
 refine zO call52 (fun w N a J=>?_) (c:=z4z m p0 N)
 by_cases G0:jP c=0
 have e:jP c=0:=by omega
 refine zZ call53 (fun C w N a J=>?_) (fun C w N a J=>?_) (c:=inR_ok N)
 refine go fun a J=>?_
 have h:=C
 have q0:0<=fuel/\fuel<=200000:=by have h_:=C;simp only [baQ,decide_eq_true_eq] at h_;omega
 have r:=N
 have Z:=J
 clear N J
 obtain ⟨fu,rfl⟩:=Int.eq_ofNat_of_zero_le q0.1
 have N:=r
 have J:=Z
 clear r Z
 refine zO call55 (fun w N a J=>?_) (c:=dQ m N)
 by_cases k0:xF c.funs nm < 0
 refine zX fun a J=>?_
 refine Sto 0 fun w N a J=>?_
 refine go fun a J=>?_
 have b:=N
 replace N:=N.dl [2,1,0]
 refine hQ _ _ _ (xV (i:=0) (cs:=[.string ⟨#[]⟩,.int .i64 ((0:Nat):Int),.slice none 0 0,.int .i64 ((0:Nat):Int)]) J b.toSees results21 rfl rfl isAgg46 sizeOf46 rfl rfl ?_)
 have hr_:vK c nm args ((fu:Nat):Int)=(v0,0,3):=by exact j3c e h k0
 rw [hr_];exact ⟨(V,_),rfl,⟨Fz.Le.refl _,RVal.iff.2 ⟨_,rfl,(show I64 0 from ⟨by decide,by decide⟩),SliceOf.nil 3⟩⟩,N⟩
 refine go fun a J=>?_
 obtain ⟨j_,f_,L0,P,f⟩:=j3x k0
 have r0:j_ < c.funs.length:=(List.getElem?_eq_some_iff.1 P).1
 rw [show xF c.funs nm=((j_:Nat):Int) by rw [xF,L0]] at J
 refine go fun a J=>?_
 obtain ⟨V0,rfl,z,w0,a1,h1,E,s⟩:=F0.el s0 r0
 obtain ⟨d2,G1,rfl,l0,I⟩:=id s
 obtain ⟨V1,I1,rfl,n1,t0⟩:=l0.fm
 obtain ⟨W1,J1,X1,c66,rfl,f1,O1,P1,o1,u1,p1,v1⟩:=REx.fm I
 refine Alc fun H1 w N a J=>?_
 refine Sto 0 fun w N a J=>?_
 refine go fun a J=>?_
 obtain rfl:z=f_:=Option.some.inj (w0.symm.trans P)
 by_cases H0:z.params.length=args.length
 have j:z.params.length=args.length:=by omega
 refine go fun a J=>?_
 refine zU (J.ks [2,3,4,7,8]) N (fun R mm a w=>∃(i:Nat),mm=args.length - i/\R V [(9,.int .i64 ((i:Nat):Int))] [] a w/\(sW c.datas args z.params=sW c.datas (args.drop i) (z.params.drop i))) (args.length - 0) ⟨0,rfl,⟨J.pk,N⟩,rfl⟩ ?_
 clear N J
 rintro mm a w ⟨i,Q0,⟨J,N⟩,D⟩ C1 o0
 by_cases m0:i < args.length
 refine Reg [1,2,1,1,2,0,1,2,1,2,1,1,1,2,1,2,1,1,2,0,1,1] [0,1,2,3] fun w N a J=>?_
 have a0:i < z.params.length:=by omega
 refine go fun a J=>?_
 obtain ⟨b2,rfl,e2,W,b1,i1,e1,S⟩:=ra.el u0 m0
 obtain ⟨Z1,K1,rfl,g1,Q1,q1,w1⟩:=RVal.fm S
 refine zZ call56 (fun n0 w N a J=>?_) (fun n0 w N a J=>?_) (c:=z3z S N)
 refine zX fun a J=>?_
 refine Sto 1 fun w N a J=>?_
 refine go fun a J=>?_
 have b:=N
 replace N:=N.dl [3,2,1,0]
 refine hQ _ _ _ (xV (i:=1) (cs:=[.string ⟨#[]⟩,.int .i64 ((0:Nat):Int),.slice none 0 0,.int .i64 ((0:Nat):Int)]) J b.toSees results21 rfl rfl isAgg46 sizeOf46 rfl rfl ?_)
 have hr_:vK c nm args ((fu:Nat):Int)=(v0,0,8):=by exact y3c e h f j (by rw [D,zA W,zA (List.getElem?_eq_getElem a0),sW];simp [*])
 rw [hr_];exact ⟨(V,_),rfl,⟨Fz.Le.refl _,RVal.iff.2 ⟨_,rfl,(show I64 0 from ⟨by decide,by decide⟩),SliceOf.nil 3⟩⟩,N⟩
 refine go fun a J=>?_
 obtain ⟨c2,rfl,B1,U,E0,O0,I0,h0⟩:=l0.el t0 a0
 obtain rfl:=id h0
 refine zZ call65 (fun f0 w N a J=>?_) (fun f0 w N a J=>?_) (c:=y4x m S N)
 refine go fun a J=>?_
 refine o0 _ _ _ (by subst Q0;omega) ⟨(i+1),rfl,⟨J.pk,N⟩,?_⟩
 rw [D,zA W,zA U,sW];simp [*]
 refine zX fun a J=>?_
 refine Sto 1 fun w N a J=>?_
 refine go fun a J=>?_
 have b:=N
 replace N:=N.dl [3,2,1,0]
 refine hQ _ _ _ (xV (i:=1) (cs:=[.string ⟨#[]⟩,.int .i64 ((0:Nat):Int),.slice none 0 0,.int .i64 ((0:Nat):Int)]) J b.toSees results21 rfl rfl isAgg46 sizeOf46 rfl rfl ?_)
 have hr_:vK c nm args ((fu:Nat):Int)=(v0,0,8):=by exact y3c e h f j (by rw [D,zA W,zA U,sW];simp [*])
 rw [hr_];exact ⟨(V,_),rfl,⟨Fz.Le.refl _,RVal.iff.2 ⟨_,rfl,(show I64 0 from ⟨by decide,by decide⟩),SliceOf.nil 3⟩⟩,N⟩
 have k:sW c.datas args z.params=true:=by rw [D,zB m0];rfl
 have X:yR c=0:=by rwa [gJ] at e
 refine qF fun A1 w N a J=>?_
 have b0:=N
 clear N
 obtain ⟨l,d,N,T⟩:=b0.freezeRow (i:=0) rfl
 clear b0
 replace m:=m.up d
 replace ra:=ra.up d
 replace E:=E.mono d
 replace s:=s.up d
 replace I:=I.up d
 replace N:=N.nf
 have F:SliceOf RStr l 1 _ ([nm]):=SliceOf.strs.2 T
 obtain ⟨y1,Z0,T0,P0,R0⟩:=F.form (by decide)
 have r:=N
 clear N
 subst T0
 have N:=r
 clear r
 refine yP call66 (fun y0 w L N a J=>?_) (c:=q8d m F rfl X (by rw [oY X];exact f) N)
 replace N:=N.nf
 refine go fun a J=>?_
 generalize M:y0.2=e0 at J
 cases e0
 have n:¬xP (zE c) nm:=fun h_=>by have j0:=L.2 h_;rw [M] at j0;cases j0
 have Y:=x4t X f j k n (fu - 1)
 refine dG fun a J=>?_
 refine Qq (fun a J=>?_) (o:=by exact fun J O=>xX (((fu:Nat):Int) - 1) J rfl rfl (yD (by omega)))
 have W0:RWorld l [.slice p3 c.datas.length c4,.slice p9 c.inputs.length C0,.slice (some V0) c.funs.length D0,.slice U0 c.outputs.length c22,.slice none 0 0] ⟨c,[]⟩:=⟨_,_,_,_,_,rfl,m,SliceOf.nil 4⟩
 refine st J rfl rfl rfl (jQ J rfl call54 (uX (q9k X) (fu - 1) W0 P ra (by omega) (by omega) (by omega) Y N) (fun c0 z0 w u g0 N a J=>?_) (fun c0 w u N a J=>?_))
 obtain ⟨H,B⟩:=c0
 obtain ⟨A,z1⟩:=z0
 obtain ⟨g,p⟩:=g0
 have q:=jL u
 simp only at g p N J q
 obtain ⟨x0,i0,rfl,K0,S0,A0,B0⟩:=aB p
 replace m:=m.up g
 replace E:=E.mono g
 replace s:=s.up g
 replace I:=I.up g
 replace N:=N.nf
 have M0:¬B < 0:=Nat.not_lt_zero _
 refine Alc fun X0 w N a J=>?_
 refine Sto 0 fun w N a J=>?_
 by_cases c1:fu < 1
 refine zX fun a J=>?_
 refine Sto 2 fun w N a J=>?_
 refine go fun a J=>?_
 have b:=N
 replace N:=N.dl [4,3,2,1,0]
 refine hQ _ _ _ (xV (i:=2) (cs:=[.string ⟨#[]⟩,.int .i64 ((0:Nat):Int),.slice none 0 0,.int .i64 ((0:Nat):Int)]) J b.toSees results21 rfl rfl isAgg46 sizeOf46 rfl rfl ?_)
 have hr_:vK c nm args ((fu:Nat):Int)=(v0,0,4):=by rw [uB e h f j k n,Int.toNat_natCast];first | rw [oH (by omega)];rfl
 rw [hr_];exact ⟨(A,_),rfl,⟨(d).trans g,RVal.iff.2 ⟨_,rfl,(show I64 0 from ⟨by decide,by decide⟩),SliceOf.nil 3⟩⟩,N⟩
 refine zZ call56 (fun t w N a J=>?_) (fun t w N a J=>?_) (c:=z3z p N)
 refine zX fun a J=>?_
 refine Sto 2 fun w N a J=>?_
 refine go fun a J=>?_
 have b:=N
 replace N:=N.dl [4,3,2,1,0]
 refine hQ _ _ _ (xV (i:=2) (cs:=[.string ⟨#[]⟩,.int .i64 ((0:Nat):Int),.slice none 0 0,.int .i64 ((0:Nat):Int)]) J b.toSees results21 rfl rfl isAgg46 sizeOf46 rfl rfl ?_)
 have hr_:vK c nm args ((fu:Nat):Int)=(v0,0,7):=by rw [uB e h f j k n,Int.toNat_natCast];rw [z4m (by omega) q ((z2h _).symm.trans t)];rfl
 rw [hr_];exact ⟨(A,_),rfl,⟨(d).trans g,RVal.iff.2 ⟨_,rfl,(show I64 0 from ⟨by decide,by decide⟩),SliceOf.nil 3⟩⟩,N⟩
 have j1:=nQ q
 refine Qq (fun a J=>?_) (o:=by exact fun J O=>xX ((fu - B:Nat):Int) J rfl rfl (by rw [yD (by omega)];omega))
 refine dG fun a J=>?_
 refine Sto 2 fun w N a J=>?_
 refine go fun a J=>?_
 have b:=N
 replace N:=N.dl [4,3,2,1,0]
 refine hQ _ _ _ (xV (i:=2) (cs:=[.string H.con,.int .i64 (H.num),.slice x0 H.args.length i0,.int .i64 ((fu - B:Nat):Int)]) J b.toSees results21 rfl rfl isAgg46 sizeOf46 rfl rfl ?_)
 have hr_:vK c nm args ((fu:Nat):Int)=(H,((fu - B:Nat):Int),0):=by rw [uB e h f j k n,Int.toNat_natCast];rw [z4y (by omega) q ((z2h _).symm.trans t)]
 rw [hr_];exact ⟨(A,_),rfl,⟨(d).trans g,p⟩,N⟩
 have G:=qW u Y
 have N0:(-1:Int) < 0:=by decide
 refine Alc fun Y0 w N a J=>?_
 refine Sto 0 fun w N a J=>?_
 by_cases d1:fu < 1
 refine zX fun a J=>?_
 refine Sto 2 fun w N a J=>?_
 refine go fun a J=>?_
 have b:=N
 replace N:=N.dl [4,3,2,1,0]
 refine hQ _ _ _ (xV (i:=2) (cs:=[.string ⟨#[]⟩,.int .i64 ((0:Nat):Int),.slice none 0 0,.int .i64 ((0:Nat):Int)]) J b.toSees results21 rfl rfl isAgg46 sizeOf46 rfl rfl ?_)
 have hr_:vK c nm args ((fu:Nat):Int)=(v0,0,4):=by rw [uB e h f j k n,Int.toNat_natCast];first | rw [oH (by omega)];rfl | rw [tN (by omega) G];rfl
 rw [hr_];exact ⟨(l,_),rfl,⟨d,RVal.iff.2 ⟨_,rfl,(show I64 0 from ⟨by decide,by decide⟩),SliceOf.nil 3⟩⟩,N⟩
 refine zX fun a J=>?_
 refine Sto 2 fun w N a J=>?_
 refine go fun a J=>?_
 have b:=N
 replace N:=N.dl [4,3,2,1,0]
 refine hQ _ _ _ (xV (i:=2) (cs:=[.string ⟨#[]⟩,.int .i64 ((0:Nat):Int),.slice none 0 0,.int .i64 ((0:Nat):Int)]) J b.toSees results21 rfl rfl isAgg46 sizeOf46 rfl rfl ?_)
 have hr_:vK c nm args ((fu:Nat):Int)=(v0,0,4):=by rw [uB e h f j k n,Int.toNat_natCast];first | rw [oH (by omega)];rfl | rw [tN (by omega) G];rfl
 rw [hr_];exact ⟨(l,_),rfl,⟨d,RVal.iff.2 ⟨_,rfl,(show I64 0 from ⟨by decide,by decide⟩),SliceOf.nil 3⟩⟩,N⟩
 refine zX fun a J=>?_
 refine Sto 1 fun w N a J=>?_
 refine go fun a J=>?_
 have b:=N
 replace N:=N.dl [3,2,1,0]
 refine hQ _ _ _ (xV (i:=1) (cs:=[.string ⟨#[]⟩,.int .i64 ((0:Nat):Int),.slice none 0 0,.int .i64 ((0:Nat):Int)]) J b.toSees results21 rfl rfl isAgg46 sizeOf46 rfl rfl ?_)
 have hr_:vK c nm args ((fu:Nat):Int)=(v0,0,8):=by exact q7u e h f j k (L.1 M)
 rw [hr_];exact ⟨(l,_),rfl,⟨d,RVal.iff.2 ⟨_,rfl,(show I64 0 from ⟨by decide,by decide⟩),SliceOf.nil 3⟩⟩,N⟩
 refine zX fun a J=>?_
 refine Sto 1 fun w N a J=>?_
 refine go fun a J=>?_
 have b:=N
 replace N:=N.dl [3,2,1,0]
 refine hQ _ _ _ (xV (i:=1) (cs:=[.string ⟨#[]⟩,.int .i64 ((0:Nat):Int),.slice none 0 0,.int .i64 ((0:Nat):Int)]) J b.toSees results21 rfl rfl isAgg46 sizeOf46 rfl rfl ?_)
 have hr_:vK c nm args ((fu:Nat):Int)=(v0,0,8):=by exact x0f e h f H0
 rw [hr_];exact ⟨(V,_),rfl,⟨Fz.Le.refl _,RVal.iff.2 ⟨_,rfl,(show I64 0 from ⟨by decide,by decide⟩),SliceOf.nil 3⟩⟩,N⟩
 refine zX fun a J=>?_
 refine Sto 0 fun w N a J=>?_
 refine go fun a J=>?_
 have b:=N
 replace N:=N.dl [2,1,0]
 refine hQ _ _ _ (xV (i:=0) (cs:=[.string ⟨#[]⟩,.int .i64 ((0:Nat):Int),.slice none 0 0,.int .i64 ((0:Nat):Int)]) J b.toSees results21 rfl rfl isAgg46 sizeOf46 rfl rfl ?_)
 have hr_:vK c nm args fuel=(v0,0,1):=by exact j3b e C
 rw [hr_];exact ⟨(V,_),rfl,⟨Fz.Le.refl _,RVal.iff.2 ⟨_,rfl,(show I64 0 from ⟨by decide,by decide⟩),SliceOf.nil 3⟩⟩,N⟩
 refine zX fun a J=>?_
 refine Sto 0 fun w N a J=>?_
 refine go fun a J=>?_
 have b:=N
 replace N:=N.dl [2,1,0]
 refine hQ _ _ _ (xV (i:=0) (cs:=[.string ⟨#[]⟩,.int .i64 ((0:Nat):Int),.slice none 0 0,.int .i64 ((0:Nat):Int)]) J b.toSees results21 rfl rfl isAgg46 sizeOf46 rfl rfl ?_)
 have hr_:vK c nm args fuel=(v0,0,jP c):=by exact x0e G0
 rw [hr_];exact ⟨(V,_),rfl,⟨Fz.Le.refl _,RVal.iff.2 ⟨_,rfl,(show I64 0 from ⟨by decide,by decide⟩),SliceOf.nil 3⟩⟩,N⟩
section
variable {V:Fz} {K:List Res} {w:World}
theorem x3a {d0 d1:List Value} {v:Val} (b:RVal V d0 v) (a:RVal V d1 v) (N:Mem V K w) :
  Calls prog 22 #[.agg d0.toArray,.agg d1.toArray] w (fun ee w'=>ee=.returned (.bool true)/\Mem V K w'):=by
 refine (z7m b a N).mono fun ee w' h=>?_
 rw [z5q] at h
 exact h
theorem x0c {d0:List Value} {va:Value} {c:Core} {nm:Bs} {args:List Val} {fuel:Int} (b:RCore V d0 c) (ra:SliceOf RVal V 3 va args) (a:∀v,d0[3]? = some v->Cap v) (N:Mem V K w) :
  Calls prog 21 #[.agg d0.toArray,.agg #[.string nm,va,.int .i64 fuel]] w (fun ee w'=>∃y:Fz×Value,ee=.returned (.tuple #[.agg #[.string (yN c nm args fuel).1.con,.int .i64 (yN c nm args fuel).1.num,y.2,.int .i64 (yN c nm args fuel).2.1],.int .i64 (yN c nm args fuel).2.2])/\(V.Le y.1/\RVal y.1 [.string (yN c nm args fuel).1.con,.int .i64 (yN c nm args fuel).1.num,y.2] (yN c nm args fuel).1)/\Mem y.1 K w'):=by
 rw [<- call_eq]
 exact x0d b ra a N
theorem q4e {d0:List Value} {va:Value} {c:Core} {nm:Bs} {args:List Val} {fu:Int} (f:RCore V d0 c) (ra:SliceOf RVal V 3 va args) (l:∀v,d0[3]? = some v->Cap v) (G:Glob V) (h:Tabs V) (N:Mem V K w) :
  Calls prog 4 #[.agg d0.toArray,.agg #[.string nm,va,.int .i64 fu]] w (fun ee w'=>ee=.returned (.bool true)/\Mem V K w'):=by
 obtain ⟨p3,c4,p9,T,g0,U,h0,c22,rfl,h2,h8,a0,b0,e0,f0,t,B,u,C,y,D⟩:=RCore.fm f
 obtain ⟨k0,Y,rfl,A,F⟩:=ra.fm
 have k:=l
 refine zK func4 ntmps4 fun Q hQ a J=>?_
 refine Bx fun M w N a J=>?_
 refine Bx fun P w N a J=>?_
 refine zO call16 (fun w N a J=>?_) (c:=cP N)
 refine Sto 0 fun w N a J=>?_
 refine yP call20 (fun p w i N a J=>?_) (c:=y3b (fuel:=mH fu) f ra (fun h_=>z8f h_ _ _) G N)
 obtain ⟨I,Z⟩:=p
 obtain ⟨b,e⟩:=i
 simp only at b e N J
 replace f:=f.up b
 replace G:=G.mono b
 replace h:=Tabs.mono h b
 replace ra:=ra.up b
 replace N:=N.nf
 obtain ⟨i0,W,rfl,r,c0,z,E⟩:=RVal.fm e
 refine Alc fun R w N a J=>?_
 refine Sto 0 fun w N a J=>?_
 refine yP call21 (fun q w j N a J=>?_) (c:=x0c (nm:=nm) (fuel:=mH fu) f ra k N)
 obtain ⟨L,l0⟩:=q
 obtain ⟨d,g⟩:=j
 simp only at d g N J
 obtain ⟨j0,X,rfl,s,H,m,n⟩:=aB g
 replace f:=f.up d
 replace G:=G.mono d
 replace h:=Tabs.mono h d
 replace e:=e.up d
 replace N:=N.nf
 refine Alc fun S w N a J=>?_
 refine Sto 0 fun w N a J=>?_
 refine zO call18 (fun w N a J=>?_) (c:=gH G h N)
 refine Qq (fun a J=>?_) (o:=by exact fun J O=>jU true J rfl rfl (decide_eq_true rfl))
 refine Qq (fun a J=>?_) (o:=by exact fun J O=>jU true J rfl rfl (decide_eq_true rfl))
 refine zO call22 (fun w N a J=>?_) (c:=x3a e g N)
 refine zF ?_
 replace N:=N.le ((b).trans d)
 replace N:=N.dl [3,2,1,0]
 exact ⟨by rfl,N⟩
end
end Go.Sw
namespace Go.Proofs.YtgkhcfjooiekkaaGreatDoor
open Go.ChangeShapes Go.WideShapes Go.ChangeAt Go.RowKit Go.Sw
set_option maxRecDepth 100000
theorem tt {a b:Bool} (c:a=true) (hb:b=true):(a&&b)=true:=by rw [c,hb];rfl
theorem q3u:Rows.coreCallsRow.wf (OpenSpec.ofChange Rows.coreCallsSpec)=true:=by kernel_rfl
theorem q3v:laidOutB Tryz.prog=true:=by kernel_rfl
theorem q3w:mapsRowed Tryz.prog=true:=by kernel_rfl
theorem q3x:Tryz.f4.params.all (Tryz.prog.readableRec ·)=true:=by kernel_rfl
theorem q3y:namedTie Tryz.prog Rows.coreCallsRow.named Rows.coreCallsSpec.vars=true:=by kernel_rfl
theorem q3z:(Rows.coreCallsRow.stops==[])=true:=by kernel_rfl
theorem q4a:(Tryz.prog.stops==[])=true:=by kernel_rfl
theorem q4b:(Rows.coreCallsRow.knobs==[])=true:=by kernel_rfl
theorem q4c:(Tryz.prog.stopKnobs==[])=true:=by kernel_rfl
theorem q4d:(Rows.coreCallsRow.inPlace==Tryz.prog.inPlace 4)=true:=by kernel_rfl
theorem y8d:(Rows.coreCallsRow.unfollowed==Tryz.prog.unfollowed 4)=true:=by kernel_rfl
theorem y8e:(Rows.coreCallsRow.recurses==Tryz.prog.recurses 4)=true:=by kernel_rfl
theorem y8f:(Rows.coreCallsRow.named==Tryz.prog.varsNamed 4)=true:=by kernel_rfl
theorem y8g:(Rows.coreCallsRow.maps==(Tryz.f4.params.toList++Rows.coreCallsSpec.plain.varTypes Tryz.prog).any (Tryz.prog.mapsRec ·))=true:=by kernel_rfl
theorem y8h:(Rows.coreCallsRow.ifaces==(Tryz.f4.params.toList++Rows.coreCallsSpec.plain.varTypes Tryz.prog).any (Tryz.prog.ifacesRec ·))=true:=by kernel_rfl
theorem y8i:(Rows.coreCallsRow.mapsOut==Tryz.prog.mapsAmong Tryz.f4.resultTypes.toList)=true:=by kernel_rfl
theorem y8j:(Rows.coreCallsRow.loops==(Tryz.f4.params.toList++Rows.coreCallsSpec.plain.varTypes Tryz.prog).any (Tryz.prog.loopsFrom ·))=true:=by kernel_rfl
theorem y8k:(Rows.coreCallsRow.wideKeys==(Tryz.f4.params.toList++Rows.coreCallsSpec.plain.varTypes Tryz.prog++Tryz.f4.resultTypes.toList).any (Tryz.prog.wideKeysFrom ·))=true:=by kernel_rfl
theorem y8l:Rows.coreCallsSpec.vars.all (Tryz.prog.varReadable ·)=true:=by kernel_rfl
theorem y8m:Tryz.f4.resultTypes.all (fun t=>Tryz.prog.readableRec t&&decide (t < Tryz.prog.types.size))=true:=by kernel_rfl
theorem y8n:(Rows.coreCallsRow.ifacesOut==Tryz.f4.resultTypes.toList.any (Tryz.prog.ifacesRec ·))=true:=by kernel_rfl
theorem y8o:(Rows.coreCallsRow.loopsOut==Tryz.f4.resultTypes.toList.any (Tryz.prog.loopsFrom ·))=true:=by kernel_rfl
theorem y8p:(Rows.coreCallsRow.plainKeys==Tryz.prog.plainKeys)=true:=by kernel_rfl
theorem y8q:Rows.coreCallsRow.shortTexts.isNone=true:=by kernel_rfl
theorem y8r:Tryz.prog.stopsHeard=true:=by kernel_rfl
theorem y8s:Tryz.prog.mayEnter=true:=by kernel_rfl
theorem y8t:(Rows.coreCallsRow.lifted==Tryz.prog.liftsFinal)=true:=by kernel_rfl
theorem y8u:(Tryz.prog.make==some Rows.coreCallsRow.make)=true:=by kernel_rfl
theorem y8v:(Rows.coreCallsRow.kinds==(if Rows.coreCallsRow.domain.isEmpty then [] else Tryz.f4.params.toList.map fun t=>match Tryz.prog.underlying t with | some (.int k)=>some k | _=>Option.none))=true:=by kernel_rfl
theorem y8w:(Rows.coreCallsRow.pinned==Rows.coreCallsRow.pinnedBy)=true:=by kernel_rfl
theorem y8x:(Rows.coreCallsRow.veiled==(Tryz.f4.params.toList++Rows.coreCallsSpec.plain.varTypes Tryz.prog++Tryz.f4.resultTypes.toList).any (Tryz.prog.veiledRec ·))=true:=by kernel_rfl
theorem y8y:Rows.coreCallsRow.veiledFits Tryz.prog Tryz.f4.params.toList (Tryz.f4.params.toList++Rows.coreCallsSpec.plain.varTypes Tryz.prog++Tryz.f4.resultTypes.toList)=true:=by kernel_rfl
theorem z8l:joinedFacts Tryz.prog 4 Tryz.f4 Rows.coreCallsSpec Rows.coreCallsRow=true:=(tt (tt (tt (tt (tt (tt (tt (tt (tt (tt (tt (tt (tt (tt (tt (tt (tt (tt (tt (tt (tt (tt (tt (tt (tt (tt (tt (tt (tt (tt (tt q3u q3v) q3w) q3x) q3y) q3z) q4a) q4b) q4c) q4d) y8d) y8e) y8f) y8g) y8h) y8i) y8j) y8k) y8l) y8m) y8n) y8o) y8p) y8q) y8r) y8s) y8t) y8u) y8v) y8w) y8x) y8y)
theorem coreCalls_named:Tryz.prog.funcNamed "restitch/restitchlaw08.CoreCalls" = some 4:=by kernel_rfl
theorem z8n:Tryz.checked.prog.inits.idxOf? 4=none:=by kernel_rfl
theorem z6f:Tryz.f4.resultTypes=#[4]:=by kernel_rfl
theorem y3m:([27,40].all fun t=>Tryz.prog.readableRec t&&decide (t < Tryz.prog.types.size))=true:=by kernel_rfl
theorem z8o:Rows.coreCallsRow.wfByText (OpenSpec.ofChange Rows.coreCallsSpec)=true:=by kernel_rfl
theorem y3l:false=Rows.coreCallsRow.goesBy Tryz.prog:=by kernel_rfl
theorem y1u:([27,40].all fun u=> !Tryz.prog.wantsStandIn u)=true:=by kernel_rfl
abbrev coreCalls_args:Array Value:=#[.agg #[.slice none 0 0,.slice none 0 0,.slice none 0 0,.slice none 0 0],.agg #[.string ⟨#[]⟩,.slice none 0 0,.int .i64 0]]
theorem z8m (os:Os) (started:os.Started) (H:Type) (enc:TypeId×Value->H) :
  ReturnsInHanded {} Tryz.checked os 4 .any (fun w args=>(Rows.coreCallsSpec.pre enc Tryz.prog Tryz.f4 [] false w args/\laidMetH Tryz.prog laidAll w)/\sizedMet enc Tryz.prog Tryz.f4 (OpenSpec.ofChange Rows.coreCallsSpec) false w args)
   (Rows.coreCallsSpec.post enc Tryz.prog Tryz.f4 false true false false):=by
 refine y1o (C:=Tryz.checked) (X:=fun w _=>laidMetH Tryz.prog laidAll w) (fun _ _ _ r h=>h.of_heap r) own started z8n Tryz.func4
  (ChangeSpec.witness_shaped (enc:=enc) (C:=Tryz.checked) (os:=os) (X:=fun w _=>laidMetH Tryz.prog laidAll w) false (World.laidAll Tryz.prog os laidAll) coreCalls_args 8 (World.laidAll_os _ _ _)
   (World.shaped_of_ZipB (by as_aux_lemma=>kernel_rfl) (by as_aux_lemma=>kernel_rfl)) (by as_aux_lemma=>kernel_rfl) (by as_aux_lemma=>kernel_rfl) (by as_aux_lemma=>kernel_rfl)
   (by rw [tB];exact j0b os _)) ?_
 intro W base args ds gs before b n g i
 have a:∀(j:Nat) t v,Tryz.f4.params[j]? = some t->args[j]? = some v->Value.okWide Tryz.prog W .any base t v:=b
 have hW':=n
 obtain ⟨p,q,f,y,rfl,_,_⟩:=n
 have m:DataW.TrodAll enc Tryz.prog W 0 (fun _=>true) true Tryz.f4.params.toList args.toList ds p:=f
 rw [Tryz.params4] at m a
 obtain ⟨v0,u,d0,d1,z,A,rfl,rfl,rfl,l,h1⟩:=trodAll_two m
 rw [tB] at g
 obtain ⟨cs,c,rfl,k⟩:=q8q (a 0 27 v0 rfl rfl) l
 obtain ⟨nm,va,d,fu,rfl,ra⟩:=j3d (a 1 40 u rfl rfl) h1
 refine (q4e k ra (q8r l) (j8g i g) (q6p g) (Mem.whole W)).mono fun e W' ⟨J,N⟩=>?_
 subst J
 exact ⟨_,rfl,j0d hW' rfl (fun gs o=>by subst o;rfl) z6f (by rw [Tryz.params4];exact fun t s=>j8y y3m s) N⟩
theorem y1t:Rows.CoreCallsSaid :=
 OpenClaim.holds_of_wide 4 Tryz.f4 rfl rfl rfl rfl rfl rfl rfl ⟨rfl,rfl,rfl,rfl,rfl⟩ rfl rfl rfl rfl rfl coreCalls_named Tryz.func4 z8l
  (of_decide_eq_true (by as_aux_lemma=>kernel_rfl)) (by unfold Func.isWrapper;first | (rw [if_pos (by decide +kernel)];as_aux_lemma=>kernel_rfl) | (rw [if_neg (by decide +kernel)];exact ⟨rfl,rfl⟩))
  (fun os started H enc _=>z8m os started H enc)
theorem coreCalls_card:Rows.CoreCallsCardSaid :=
 Claim7.holds_tied_plain_at .later [] [.data,.data,.data,.data,.sentinel,.sentinel,.pinned] true (true,"455426ae17f5cebd1e869bbd2c7c15e1646e82f384eadf6ce8080b103650fe81") true y1t (fun _ h=>by cases h) z8o (fun _ h=>by cases h) coreCalls_row_tie rfl ⟨rfl,rfl⟩ j8n rfl
  (fun f fn c a=>by
   obtain rfl:f=4:=Option.some.inj (coreCalls_named.symm.trans c) |>.symm
   obtain rfl:fn=Tryz.f4:=(Option.some.inj (Tryz.func4.symm.trans a)).symm
   exact ⟨j0g,fun j t b=>by
    rw [Tryz.params4] at b
    have N:t∈[27,40]:=by simpa using Array.mem_of_getElem? b
    exact (show Tryz.prog.wantsStandIn t=false by simpa using List.all_eq_true.1 y1u t N)⟩)
  y3l
#print axioms coreCalls_card
end Go.Proofs.YtgkhcfjooiekkaaGreatDoor
