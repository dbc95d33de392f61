import Derived.Test.YtgkhcfjooiekkaaGreatDoorX13
set_option linter.unusedVariables false
set_option linter.unusedSimpArgs false
namespace Go.Sw
open Go.Proofs Go.Proofs.Tryz
set_option maxRecDepth 20000
set_option maxHeartbeats 4000000
theorem j4q {t:Bs} {pos:Nat}:∀j,j < qE t pos->yT (zH t (pos+j))=true∨zH t (pos+j)=39:=by
 intro j a
 unfold qE at a
 split at a
 ·rename_i b
  split at a
  ·by_cases h1:j < yV yT t t.size pos
   ·exact .inl (sP _ _ _ _ _ h1).2
   ·by_cases d:j=yV yT t t.size pos
    ·exact .inr (by rw [d];exact b)
    ·have c:=(sP yC t t.size (pos+(yV yT t t.size pos+1)) (j - (yV yT t t.size pos+1)) (by omega)).2
     rw [show pos+(yV yT t t.size pos+1)+(j - (yV yT t t.size pos+1))=pos+j by omega] at c
     exact .inl (by simp [yT,c])
  ·exact .inl (sP _ _ _ _ _ a).2
 ·exact .inl (sP _ _ _ _ _ a).2
theorem q2e {t:Bs} {pos:Nat} {kd:Int} {k:Tok} (h:wD t pos kd=.ok k):(k.kind=5∨k.kind=kd)/\k.text=t.extract pos (pos+qE t pos):=by
 unfold wD at h
 split at h
 ·cases h
 ·simp only [Except.ok.injEq] at h
  subst h
  refine ⟨?_,rfl⟩
  simp only
  split
  ·exact .inl rfl
  ·exact .inr rfl
theorem j1w {t:Bs} {pos:Nat} {k:Tok} (h:yA t pos=.ok k) (a:k.kind=2∨k.kind=3):((k.kind=2/\qT (zH t pos)=true)∨(k.kind=3/\qZ (zH t pos)=true))/\k.text=t.extract pos (pos+qE t pos):=by
 unfold yA at h
 split at h
 ·unfold z2t at h
  split at h
  ·cases h
  ·split at h
   ·cases h
   ·simp only [Except.ok.injEq] at h;subst h;simp only at a;omega
 split at h
 ·rename_i O
  obtain ⟨h1,b⟩:=q2e h
  exact ⟨.inl ⟨by omega,O⟩,b⟩
 split at h
 ·rename_i O
  obtain ⟨h1,b⟩:=q2e h
  exact ⟨.inr ⟨by omega,O⟩,b⟩
 split at h
 ·obtain ⟨_,rfl⟩:=uI h;simp only at a;omega
 split at h
 ·obtain ⟨_,rfl⟩:=uI h;simp only at a;omega
 split at h
 ·obtain ⟨_,rfl⟩:=uI h;simp only at a;omega
 ·cases h
theorem x1k {s:Bs} {κ:Int} (d:wR s=κ) (h:κ=2∨κ=3):0 < s.size/\((κ=2/\qT (zH s 0)=true)∨(κ=3/\qZ (zH s 0)=true))/\∀j,j < s.size->yT (zH s j)=true∨zH s j=39:=by
 unfold wR at d
 split at d
 ·omega
 split at d
 ·rename_i k c
  split at d
  ·rename_i e
   unfold cE at c
   rw [hY] at c
   split at c
   ·cases c
   rename_i q hq
   split at c
   ·rename_i f
    split at c
    ·cases c
    rename_i k' hk'
    split at c
    ·cases c
    simp only [Except.ok.injEq,List.cons.injEq] at c
    obtain ⟨rfl,_⟩:=c
    obtain ⟨h1,g⟩:=j1w hk' (by omega)
    have i:(s.extract q (q+qE s q)).size=s.size:=by rw [<- g,e]
    rw [ByteArray.size_extract] at i
    have l:q=0:=by omega
    subst l
    refine ⟨f,?_,fun j m=>?_⟩
    ·rcases h1 with ⟨a,b⟩ | ⟨a,b⟩
     ·exact .inl ⟨by omega,b⟩
     ·exact .inr ⟨by omega,b⟩
    ·have:=j4q (t:=s) (pos:=0) j (by omega)
     rwa [Nat.zero_add] at this
   ·cases c
  ·omega
 ·omega
theorem q9o {s:Bs} (h:wR s=2∨wR s=3):0 < s.size/\((wR s=2/\qT (zH s 0)=true)∨(wR s=3/\qZ (zH s 0)=true))/\∀j,j < s.size->yT (zH s j)=true∨zH s j=39:=x1k rfl h
theorem x2c {s:Bs} (h:qO s=true):wR s=2:=by simpa [qO] using h
theorem x4z {s:Bs} (h:qL s=true):wR s=3:=by simpa [qL] using h
theorem j0z {s:Bs} (h:wF (s.extract 0 s.size) ⟨#[40,42]⟩=true):zH s 0=40:=by
 simp only [wF,baQ,decide_eq_true_eq] at h
 obtain ⟨h1,c⟩:=h
 have h1:2<=s.size:=by
  have d:(⟨#[40,42]⟩:Bs).size=2:=rfl
  rw [ByteArray.size_extract] at h1;omega
 have a:=congrArg (fun b:Bs=>zH b 0) c
 have e:zH (⟨#[40,42]⟩:Bs) 0=40:=by decide
 rw [e] at a
 rw [<- a]
 rw [dL (by omega),dL (by rw [ByteArray.size_extract,ByteArray.size_extract];have d:(⟨#[40,42]⟩:Bs).size=2:=rfl;omega)]
 simp [ByteArray.getElem_extract]
theorem j0w {s:Bs} (hb:xZ (zH s 0)=false) (a:zH s 0≠40):dD s 0=.ok 0:=by
 have hr:yV xZ s s.size 0=0:=by rw [vF,if_neg (by simp [hb])]
 unfold dD
 rw [z2u,hr,if_neg (fun h=>a (j0z h))]
theorem x8d (s:Bs):∃q,dD s s.size=.ok q/\s.size<=q:=by
 have hr:yV xZ s s.size s.size=0:=by rw [vF,if_neg (by omega)]
 refine ⟨s.size,?_,Nat.le_refl _⟩
 unfold dD
 rw [z2u,hr,if_neg]
 ·rfl
 ·intro h
  have:=jX h
  have a:(⟨#[40,42]⟩:Bs).size=2:=rfl
  omega
theorem j1q {c:Nat} (h:qT c=true∨qZ c=true):xZ c=false/\c≠40/\yC c=false/\c≠126:=by
 simp only [qT,qZ,baQ,decide_eq_true_eq] at h
 refine ⟨?_,by omega,?_,by omega⟩
 ·simp only [xZ,Bool.or_eq_false_iff,decide_eq_false_iff_not];omega
 ·simp only [yC,Bool.and_eq_false_iff,decide_eq_false_iff_not];omega
def y5b (c:Nat):Int:=if qT c then 2 else 3
theorem q6q {s:Bs} (h:qT (zH s 0)=true∨qZ (zH s 0)=true):yA s 0=wD s 0 (y5b (zH s 0)):=by
 obtain ⟨_,_,a,b⟩:=j1q h
 unfold yA y5b
 rw [if_neg (by simp [a,b])]
 by_cases O:qT (zH s 0)=true
 ·rw [if_pos O,if_pos O]
 ·rw [if_neg O,if_neg O,if_pos (h.resolve_left O)]
theorem oL {s:Bs} (f:s.size<=24) (b:0 < s.size) (h:qT (zH s 0)=true∨qZ (zH s 0)=true) :
  wR s=if qE s 0=s.size then (if z2e s then 5 else y5b (zH s 0)) else 0:=by
 have hl:=y5l s 0 (by omega)
 obtain ⟨h1,d,_,_⟩:=j1q h
 have i:wD s 0 (y5b (zH s 0))=.ok ⟨if z2e (s.extract 0 (0+qE s 0)) then 5 else y5b (zH s 0),0,s.extract 0 (0+qE s 0),0⟩:=by
  unfold wD;rw [if_neg (by omega)]
 unfold wR
 rw [if_neg (by omega)]
 unfold cE
 rw [hY,j0w h1 d]
 simp only [if_pos b,q6q h,i]
 by_cases O:qE s 0=s.size
 ·have j:s.extract 0 (0+qE s 0)=s:=by rw [O,Nat.zero_add];simp
  rw [j,if_pos O]
  obtain ⟨q,hq,g⟩:=x8d s
  have:hY s s.size (0+s.size)=.ok []:=by
   rw [Nat.zero_add,show s.size=(s.size - 1)+1 by omega,hY,show s.size - 1+1=s.size by omega,hq]
   simp only [if_neg (show ¬q < s.size by omega)]
  rw [this]
  simp
 ·rw [if_neg O]
  have a:s.extract 0 (0+qE s 0)≠s:=fun e=>by
   have:=congrArg ByteArray.size e
   rw [ByteArray.size_extract] at this;omega
  cases hY s s.size (0+(s.extract 0 (0+qE s 0)).size) with
  | error c=>rfl
  | ok l=>
   cases l with
   | nil=>simp only [if_neg a]
   | cons k l=>rfl
theorem y5u {c:Nat} (h:qT c=true∨qZ c=true):yT c=true:=by
 unfold yT;rcases h with h | h <;> simp [h]
theorem j2i {s:Bs} (a:0 < s.size) (h:qT (zH s 0)=true∨qZ (zH s 0)=true):yV yT s s.size 0=xW s:=by
 rw [vF,if_pos ⟨a,y5u h⟩];unfold xW;rw [Nat.zero_add];omega
theorem q6b {s:Bs} (b:0 < s.size) (h:qT (zH s 0)=true∨qZ (zH s 0)=true) :
  qE s 0=s.size↔(xW s=s.size∨(zH s (xW s)=39/\xW s+1≠s.size/\xW s+1+yV yC s s.size (xW s+1)=s.size)):=by
 unfold qE
 rw [j2i b h,Nat.zero_add,Nat.zero_add]
 by_cases a:zH s (xW s)=39
 ·rw [if_pos a]
  have c:=uA (t:=s) (i:=xW s) (by omega)
  have hr:=wG yC s s.size (xW s+1) (by omega)
  split <;> omega
 ·rw [if_neg a];omega
theorem q3a {s:Bs} {lo f:Nat} (h:∀c,lo<=c->c<=f->qT c=true∨qZ c=true) :
  z1l s lo f=true↔(0 < s.size/\s.size<=24/\lo<=zH s 0/\zH s 0<=f/\qE s 0=s.size):=by
 unfold z1l
 by_cases i:s.size < 1∨24 < s.size∨zH s 0 < lo∨f < zH s 0
 ·rw [if_pos i]
  refine ⟨fun g=>(by cases g),fun ⟨a,b,c,d,_⟩=>?_⟩
  omega
 ·rw [if_neg i]
  have hb:=h (zH s 0) (by omega) (by omega)
  rw [q6b (by omega) hb]
  by_cases h1:xW s=s.size
  ·rw [if_pos h1]
   exact ⟨fun _=>⟨by omega,by omega,by omega,by omega,.inl h1⟩,fun _=>rfl⟩
  ·rw [if_neg h1]
   by_cases e:zH s (xW s)≠39∨xW s+1=s.size
   ·rw [if_pos e]
    refine ⟨fun g=>(by cases g),fun ⟨_,_,_,_,g⟩=>?_⟩
    rcases g with g | ⟨g1,j,_⟩
    ·exact absurd g h1
    ·rcases e with e | e
     ·exact absurd g1 e
     ·exact absurd e j
   ·rw [if_neg e,decide_eq_true_eq]
    simp only [not_or,Decidable.not_not] at e
    exact ⟨fun g=>⟨by omega,by omega,by omega,by omega,.inr ⟨e.1,e.2,g⟩⟩,fun ⟨_,_,_,_,g⟩=>by rcases g with g | ⟨_,_,g⟩;exact absurd g h1;exact g⟩
theorem y4z (s:Bs):z2e s=sH wordsL s:=by
 unfold z2e wordsM
 have:∀l:List Bs,(yY (l.map (fun s=>(s,Value.int .i64 5))) s).isSome=sH l s:=by
  intro l
  induction l with
  | nil=>rfl
  | cons x l c=>
   simp only [List.map_cons,yY,z9e]
   by_cases a:s=x
   ·rw [if_pos a];simp [a]
   ·rw [if_neg a,c];have b:¬x=s:=fun e=>a e.symm
    simp [b]
 exact this wordsL
theorem q9y {s:Bs} (h:wR s=2∨wR s=3):s.size<=24:=by
 unfold wR at h
 by_cases a:24 < s.size
 ·rw [if_pos a] at h;omega
 ·omega
theorem x7r (s:Bs):z4r s=qO s:=by
 apply Bool.eq_iff_iff.2
 unfold z4r
 rw [baQ,q3a (fun c h1 a=>.inl (by simp [qT,h1,a])),<- y4z]
 constructor
 ·rintro ⟨⟨h1,a,e,f,g⟩,i⟩
  have O:qT (zH s 0)=true:=by simp [qT,e,f]
  simp only [qO,decide_eq_true_eq]
  rw [oL a h1 (.inl O),if_pos g,if_neg (by simpa using i),y5b,if_pos O]
 ·intro h
  have b:=x2c h
  obtain ⟨h1,a,_⟩:=q9o (.inl b)
  have d:=q9y (.inl b)
  have O:qT (zH s 0)=true:=by
   rcases a with ⟨_,a⟩ | ⟨a,_⟩
   ·exact a
   ·omega
  rw [oL d h1 (.inl O)] at b
  have hs':=O
  simp only [qT,baQ,decide_eq_true_eq] at hs'
  split at b
  ·rename_i hl
   refine ⟨⟨h1,d,hs'.1,hs'.2,hl⟩,?_⟩
   split at b
   ·cases b
   ·rename_i j;simpa using j
  ·cases b
theorem j6q {s:Bs} (h:z2e s=true):qT (zH s 0)=true:=by
 rw [y4z] at h
 have:=(hasB_mem (l:=wordsL)).1 h
 simp only [wordsL,List.mem_cons,List.not_mem_nil,or_false] at this
 rcases this with rfl | rfl | rfl | rfl | rfl | rfl | rfl | rfl | rfl | rfl | rfl | rfl | rfl | rfl | rfl <;> decide
theorem j7n (s:Bs):conR s=qL s:=by
 apply Bool.eq_iff_iff.2
 unfold conR
 rw [q3a (fun c h1 a=>.inr (by simp [qZ,h1,a]))]
 have e:∀c,qZ c=true->qT c=false:=fun c h=>by
  simp only [qZ,baQ,decide_eq_true_eq] at h
  simp only [qT,Bool.and_eq_false_iff,decide_eq_false_iff_not];omega
 constructor
 ·rintro ⟨h1,a,f,i,j⟩
  have O:qZ (zH s 0)=true:=by simp [qZ,f,i]
  simp only [qL,decide_eq_true_eq]
  rw [oL a h1 (.inr O),if_pos j,if_neg (fun g=>by have:=j6q g;rw [e _ O] at this;cases this),y5b,if_neg (by rw [e _ O];decide)]
 ·intro h
  have d:=x4z h
  obtain ⟨h1,a,_⟩:=q9o (.inr d)
  have b:=q9y (.inr d)
  have O:qZ (zH s 0)=true:=by
   rcases a with ⟨a,_⟩ | ⟨_,a⟩
   ·omega
   ·exact a
  rw [oL b h1 (.inr O)] at d
  have hs':=O
  simp only [qZ,baQ,decide_eq_true_eq] at hs'
  split at d
  ·rename_i hl;exact ⟨h1,b,hs'.1,hs'.2,hl⟩
  ·cases d
mutual
theorem z9n:∀(e:Ex) (most:Nat),(xM e most<=most->jB e (most:Int)=(false,(most:Int) - (xM e most:Int)))/\(¬xM e most<=most->(jB e (most:Int)).1=true)
 | .mk k nm s args arms,most=>by
  simp only [xM,jB]
  by_cases f:most=0
  ·subst f
   rw [z3a (by omega),tG (by omega)]
   exact ⟨fun h=>by omega,fun _=>by rw [if_pos (by omega)]⟩
  ·rw [if_neg (by omega)]
   have h1:=meass_size args most 1 (by omega)
   have a:=sizeRs_le args most 1 (by omega) (by omega)
   rw [show ((most:Int) - 1)=(most:Int) - ((1:Nat):Int) by omega]
   by_cases O:sizeRs args most 1<=most
   ·rw [h1.1 O]
    exact measa_size arms most _ O
   ·rw [tG O]
    refine ⟨fun g=>absurd g O,fun _=>?_⟩
    have:=h1.2 O
    cases N:meass args ((most:Int) - ((1:Nat):Int)) with
    | mk b q=>rw [N] at this;simp only at this;subst this;rfl
theorem meass_size:∀(es:List Ex) (most n:Nat),n<=most->(sizeRs es most n<=most->meass es ((most:Int) - (n:Int))=(false,(most:Int) - (sizeRs es most n:Int)))/\(¬sizeRs es most n<=most->(meass es ((most:Int) - (n:Int))).1=true)
 | [],most,n,h=>⟨fun _=>rfl,fun g=>absurd h g⟩
 | e::es,most,n,h=>by
  simp only [sizeRs,meass,if_pos h]
  have h1:=z9n e (most - n)
  have hl:=nI e (most - n)
  rw [show ((most:Int) - (n:Int))=((most - n:Nat):Int) by omega]
  by_cases O:xM e (most - n)<=most - n
  ·rw [h1.1 O]
   have a:=meass_size es most (n+xM e (most - n)) (by omega)
   rw [show ((most:Int) - ((n+xM e (most - n):Nat):Int))=((most - n:Nat):Int) - (xM e (most - n):Int) by omega] at a
   exact a
  ·rw [z3a (by omega)]
   refine ⟨fun g=>by omega,fun _=>?_⟩
   have:=h1.2 O
   cases N:jB e ((most - n:Nat):Int) with
   | mk b q=>rw [N] at this;simp only at this;subst this;rfl
theorem measa_size:∀(es:List Arm) (most n:Nat),n<=most->(sizeAr es most n<=most->measa es ((most:Int) - (n:Int))=(false,(most:Int) - (sizeAr es most n:Int)))/\(¬sizeAr es most n<=most->(measa es ((most:Int) - (n:Int))).1=true)
 | [],most,n,h=>⟨fun _=>rfl,fun g=>absurd h g⟩
 | .mk c vs e::es,most,n,h=>by
  simp only [sizeAr,measa,if_pos h]
  by_cases d:16 < vs.length
  ·rw [if_pos d,if_pos d]
   exact ⟨fun g=>by omega,fun _=>rfl⟩
  rw [if_neg d,if_neg d]
  have h1:=z9n e (most - n)
  have hl:=nI e (most - n)
  rw [show ((most:Int) - (n:Int))=((most - n:Nat):Int) by omega]
  by_cases O:xM e (most - n)<=most - n
  ·rw [h1.1 O]
   have a:=measa_size es most (n+xM e (most - n)) (by omega)
   rw [show ((most:Int) - ((n+xM e (most - n):Nat):Int))=((most - n:Nat):Int) - (xM e (most - n):Int) by omega] at a
   exact a
  ·rw [tG (by omega)]
   refine ⟨fun g=>by omega,fun _=>?_⟩
   have:=h1.2 O
   cases N:jB e ((most - n:Nat):Int) with
   | mk b q=>rw [N] at this;simp only at this;subst this;rfl
end
theorem y0x:∀(fs:List Fun) (n:Nat),6000 < n->gV fs n=true
 | [],n,h=>by simpa [gV] using h
 | f::fs,n,h=>by
  simp only [gV,if_neg (show ¬n<=6000 by omega)]
  split
  ·rfl
  ·exact y0x fs n h
theorem j0i:∀(fs:List Fun) (n:Nat),n<=6000->cQ fs ((6000:Int) - (n:Int))=gV fs n
 | [],n,h=>by simp only [cQ,gV];exact (decide_eq_false (by omega)).symm
 | f::fs,n,h=>by
  simp only [cQ,gV,if_pos h]
  have h1:=z9n f.body (6000 - n)
  have hl:=nI f.body (6000 - n)
  rw [show ((6000:Int) - (n:Int))=((6000 - n:Nat):Int) by omega]
  by_cases a:16 < f.params.length
  ·rw [if_pos a];simp [a]
  ·rw [if_neg a]
   by_cases O:xM f.body (6000 - n)<=6000 - n
   ·rw [h1.1 O]
    have b:=j0i fs (n+xM f.body (6000 - n)) (by omega)
    rw [show ((6000:Int) - ((n+xM f.body (6000 - n):Nat):Int))=((6000 - n:Nat):Int) - (xM f.body (6000 - n):Int) by omega] at b
    rw [b];simp [a]
   ·rw [y0x fs _ (by omega),h1.2 O];simp
theorem j0e (c:Core):tC c=vO c:=by
 unfold tC vO
 have:=j0i c.funs 0 (by omega)
 rw [<- this];rfl
theorem z2l {α:Type}:∀(a b:List (Bs×α)) (n:Bs),zJ (a++b) n=match zJ a n with | some v=>some v | none=>zJ b n
 | [],b,n=>rfl
 | (k,x)::a,b,n=>by
  simp only [List.cons_append,zJ]
  by_cases h:n=k
  ·rw [if_pos h,if_pos h]
  ·rw [if_neg h,if_neg h];exact z2l a b n
theorem z5b:∀(l:List Data) (n:Bs),zJ (xK Data.name id l) n=kK l n
 | [],n=>rfl
 | d::l,n=>by
  simp only [xK,List.map_cons,zJ,kK]
  by_cases h:n=d.name
  ·rw [if_pos h,if_pos h.symm];rfl
  ·rw [if_neg h,if_neg (fun e=>h e.symm)];exact z5b l n
theorem z5d (ds:List Data) (n:Bs):zJ (xK Data.name id (truthsD::ds)) n=yK ds n:=by
 have h:truthsD.name=kO:=rfl
 rw [z5b,kK,yK,h]
 by_cases a:n=kO
 ·rw [if_pos a.symm,if_pos a]
 ·rw [if_neg (fun e=>a e.symm),if_neg a]
theorem q0i {β:Type} (f:Con->β):∀(l:List Con) (n:Bs),zJ (xK Con.name f l) n=(vL l n).map f
 | [],n=>rfl
 | x::l,n=>by
  simp only [xK,List.map_cons,zJ,vL]
  by_cases h:n=x.name
  ·rw [if_pos h,if_pos h.symm];rfl
  ·rw [if_neg h,if_neg (fun e=>h e.symm)];exact q0i f l n
theorem z2p:∀(l:List Data) (n:Bs),zJ (z1f l) n=pM l n
 | [],n=>rfl
 | d::l,n=>by
  simp only [z1f,List.map_cons,List.flatten_cons,pM]
  rw [z2l,q0i]
  cases vL d.cons n with
  | some x=>rfl
  | none=>exact z2p l n
theorem q9q:∀(l:List Param) (n:Bs),zJ (xK Param.name Param.type l) n=z9f l n
 | [],n=>rfl
 | d::l,n=>by
  simp only [xK,List.map_cons,zJ,z9f]
  by_cases h:n=d.name
  ·rw [if_pos h,if_pos h.symm]
  ·rw [if_neg h,if_neg (fun e=>h e.symm)];exact q9q l n
theorem z9c:∀(l:List Fun) (n:Bs) (k:Nat),(match z1i l n k with | some j=>k<=j/\l[j - k]? = zJ (xK Fun.name id l) n/\j - k < l.length | none=>zJ (xK Fun.name id l) n=none)
 | [],n,k=>rfl
 | f::l,n,k=>by
  simp only [xK,List.map_cons,zJ,z1i]
  by_cases h:n=f.name
  ·rw [if_pos h,if_pos h.symm]
   simp
  ·rw [if_neg h,if_neg (fun e=>h e.symm)]
   have a:=z9c l n (k+1)
   cases b:z1i l n (k+1) with
   | none=>rw [b] at a;exact a
   | some j=>
    rw [b] at a
    simp only at a ⊢
    obtain ⟨h1,c,d⟩:=a
    refine ⟨by omega,?_,by simp only [lcQ];omega⟩
    rw [show j - k=(j - (k+1))+1 by omega,List.getElem?_cons_succ];exact c
theorem z9b (l:List Fun) (n:Bs):(match mM l n with | some j=>l[j]? | none=>none)=zJ (xK Fun.name id l) n:=by
 have:=z9c l n 0
 unfold mM
 cases a:z1i l n 0 with
 | none=>rw [a] at this;exact this.symm
 | some j=>rw [a] at this;exact this.2.1
theorem j3w {l:List Fun} {n:Bs} {j:Nat} (h:mM l n=some j):∃f,l[j]? = some f/\zJ (xK Fun.name id l) n=some f:=by
 have:=z9c l n 0
 unfold mM at h
 rw [h] at this
 have a:j < l.length:=by have:=this.2.2;omega
 have b:=this.2.1
 rw [Nat.sub_zero,List.getElem?_eq_getElem a] at b
 exact ⟨_,List.getElem?_eq_getElem a,b.symm⟩
theorem j9d (dn:Bs):∀{l:List Con} {m:List (Bs×Maker)},(∀x∈l,qL x.name=true/\zJ m x.name=none)->(l.map Con.name).Nodup->(vI dn true m l).1=true
 | [],m,_,_=>rfl
 | x::l,m,h,a=>by
  have b:=h x msQ
  simp only [vI,b.1,Bool.and_self,if_true,b.2,Option.isNone_none,aU b.2]
  simp only [List.map_cons,List.nodup_cons] at a
  refine j9d dn (fun y c=>⟨(h y (mcQ _ c)).1,?_⟩) a.2
  rw [cO (h y (mcQ _ c)).2]
  exact lget_single.2 (fun e=>a.1 (by rw [<- e];exact List.mem_map_of_mem c))
theorem j9g:∀{l:List Param} {m:List (Bs×Bs)},(∀f∈l,qO f.name=true/\zJ m f.name=none)->(l.map Param.name).Nodup->(tU true m l).1=true
 | [],m,_,_=>rfl
 | x::l,m,h,a=>by
  have b:=h x msQ
  simp only [tU,b.1,Bool.and_self,if_true,b.2,Option.isNone_none,aU b.2]
  simp only [List.map_cons,List.nodup_cons] at a
  refine j9g (fun y c=>⟨(h y (mcQ _ c)).1,?_⟩) a.2
  rw [cO (h y (mcQ _ c)).2]
  exact lget_single.2 (fun e=>a.1 (by rw [<- e];exact List.mem_map_of_mem c))
theorem x1a {β α:Type} {key:β->Bs} {val:β->α} {l:List β} {n:Bs} (h:n∉l.map key):zJ (xK key val l) n=none:=by
 cases a:zJ (xK key val l) n with
 | none=>rfl
 | some v=>obtain ⟨x,b,e,_⟩:=xS a;exact absurd (e▸List.mem_map_of_mem b) h
theorem j9e:∀{l:List Data} {ds:List (Bs×Data)} {m:List (Bs×Maker)},
  (∀d∈l,qL d.name=true/\d.name≠yH/\zJ ds d.name=none/\0 < d.cons.length/\∀x∈d.cons,qL x.name=true/\zJ m x.name=none)->(l.map Data.name).Nodup ->
  ((l.map fun d=>d.cons.map Con.name).flatten).Nodup->(tS true ds m l).1=true
 | [],ds,m,_,_,_=>rfl
 | d::l,ds,m,h,a,k=>by
  obtain ⟨h1,g,i,p,q⟩:=h d msQ
  simp only [List.map_cons,List.nodup_cons] at a
  simp only [List.map_cons,List.flatten_cons] at k
  have hc':=zV k
  have b:cB true ds d=true:=by simp [cB,h1,g,i,p]
  have r:mJ true ds d=ds++[(d.name,d)]:=by
   unfold mJ
   rw [if_pos (by simp [h1,g])]
   exact aU i
  simp only [tS,b,r]
  have j:=j9d d.name q hc'.1
  obtain ⟨_,o,_,_⟩:=z3e d.name j
  rw [j,o]
  refine j9e (fun e J=>?_) a.2 hc'.2.1
  obtain ⟨s,t,u,v,n⟩:=h e (mcQ _ J)
  refine ⟨s,t,?_,v,fun x c=>⟨(n x c).1,?_⟩⟩
  ·rw [cO u]
   exact lget_single.2 (fun e'=>a.1 (by rw [<- e'];exact List.mem_map_of_mem J))
  ·rw [cO (n x c).2]
   refine x1a (fun N=>hc'.2.2 _ N ?_)
   exact List.mem_flatten.2 ⟨_,List.mem_map_of_mem (f:=fun d:Data=>d.cons.map Con.name) J,List.mem_map_of_mem c⟩
structure Tabled (c:Core):Prop where
 dN:∀d∈c.datas,qL d.name=true/\d.name≠yH/\d.name≠kO/\0 < d.cons.length/\∀x∈d.cons,qL x.name=true/\x.name≠kR/\x.name≠nT
 dU:(c.datas.map Data.name).Nodup
 cU:((c.datas.map fun d=>d.cons.map Con.name).flatten).Nodup
 fN:∀f∈c.funs,qO f.name=true
 fU:(c.funs.map Fun.name).Nodup
 iN:∀p∈c.inputs,qO p.name=true
 iU:(c.inputs.map Param.name).Nodup
theorem z0x:truthsD.cons.map Con.name=[kR,nT]:=rfl
theorem uU {c:Core} (h:Tabled c):wI c=true:=by
 unfold wI isP
 have a:(dsP c).1=true:=by
  unfold dsP
  refine j9e (fun d a=>?_) ?_ ?_
  ·rcases List.mem_cons.1 a with rfl | a
   ·refine ⟨by decide,by decide,rfl,by decide,fun x g=>⟨?_,rfl⟩⟩
    simp only [truthsD,List.mem_cons,List.not_mem_nil,or_false] at g
    rcases g with rfl | rfl <;> decide
   ·obtain ⟨h1,k,s,l,o⟩:=h.dN d a
    exact ⟨h1,k,rfl,l,fun x g=>⟨(o x g).1,rfl⟩⟩
  ·simp only [List.map_cons,List.nodup_cons]
   refine ⟨fun N=>?_,h.dU⟩
   obtain ⟨d,a,e⟩:=List.mem_map.1 N
   exact (h.dN d a).2.2.1 e
  ·simp only [List.map_cons,List.flatten_cons]
   rw [List.nodup_append]
   refine ⟨by rw [z0x];decide,h.cU,fun n b m N e=>?_⟩
   subst e
   obtain ⟨ns,j,g⟩:=List.mem_flatten.1 N
   obtain ⟨d,a,rfl⟩:=List.mem_map.1 j
   obtain ⟨y,r,rfl⟩:=List.mem_map.1 g
   have:=((h.dN d a).2.2.2.2 y r).2
   rw [z0x] at b
   simp only [List.mem_cons,List.not_mem_nil,or_false] at b
   rcases b with b | b
   ·exact this.1 b
   ·exact this.2 b
 have i:(fsP c).1=true:=by unfold fsP;rw [a];exact j9f (fun f i=>⟨h.fN f i,rfl⟩) h.fU
 rw [i]
 exact j9g (fun p q=>⟨h.iN p q,rfl⟩) h.iU
theorem j1u:∀{l:List Data} {ok:Bool} {ds:List (Bs×Data)} {m:List (Bs×Maker)},(tS ok ds m l).1=true->∀d∈l,0 < d.cons.length
 | [],_,_,_,_,_,a=>by cases a
 | e::l,ok,ds,m,h,d,a=>by
  simp only [tS] at h
  rcases List.mem_cons.1 a with rfl | a
  ·have g1:=(z3e _ (z3f h).1).1
   simp only [cB,baQ,decide_eq_true_eq] at g1
   exact g1.2
  ·exact j1u h d a
theorem dZ {c:Core} (h:wI c=true):Tabled c/\(zE c).datas=xK Data.name id (truthsD::c.datas)/\(zE c).cons=z1f (truthsD::c.datas)/\(zE c).funs=xK Fun.name id c.funs/\(zE c).inputs=xK Param.name Param.type c.inputs:=by
 obtain ⟨q,i2,i3,i4⟩:=uT (show (tU (fsP c).1 [] c.inputs).1=true from h)
 obtain ⟨l,m,f3,f4⟩:=uS (show (tT (dsP c).1 [] c.funs).1=true from q)
 have k:=(show (tS true [] [] (truthsD::c.datas)).1=true from l)
 obtain ⟨_,d2,d3,d4,i,j⟩:=z3f k
 have a:=j1u k
 simp only [List.map_cons,List.nodup_cons] at i
 simp only [List.map_cons,List.flatten_cons] at j
 have d6':=zV j
 refine ⟨{ dN:=fun d b=>?_,dU:=i.2,cU:=d6'.2.1,fN:=fun f n=>(f3 f n).1,fU:=f4,iN:=fun p o=>(i3 p o).1,iU:=i4 },d2,d3,m,i2⟩
 obtain ⟨r,s,_,_,t⟩:=d4 d (mcQ _ b)
 have g:∀x∈d.cons,x.name∉[kR,nT]:=fun x g N=>d6'.2.2 x.name (by rw [z0x];exact N)
  (List.mem_flatten.2 ⟨_,List.mem_map_of_mem (f:=fun d:Data=>d.cons.map Con.name) b,List.mem_map_of_mem g⟩)
 refine ⟨r,s,fun e=>i.1 (by rw [show truthsD.name=d.name from e.symm];exact List.mem_map_of_mem b),a d (mcQ _ b),fun x N=>⟨(t x N).1,fun e=>?_,fun e=>?_⟩⟩
 ·exact g x N (by rw [e];simp)
 ·exact g x N (by rw [e];simp)
theorem q0k (ds:List Data):∀{l:List Con} {seen:List Bs},z1g ds l seen=true↔(∀x∈l,qL x.name=true/\x.name∉seen/\x.fields.all (xA ds)=true)/\(l.map Con.name).Nodup
 | [],seen=>by simp [z1g]
 | x::l,seen=>by
  simp only [z1g,baQ,q0k ds (l:=l),j7n,Bool.not_eq_true',List.map_cons,List.nodup_cons,List.mem_cons]
  have O:sH seen x.name=false↔x.name∉seen:=by rw [<- hasB_mem (l:=seen)];simp
  rw [O]
  constructor
  ·rintro ⟨⟨⟨h1,f⟩,h⟩,i,j⟩
   refine ⟨fun y d=>?_,fun N=>?_,j⟩
   ·rcases d with rfl | d
    ·exact ⟨h1,f,h⟩
    ·obtain ⟨a,b,c⟩:=i y d
     exact ⟨a,fun g=>b (by simp [g]),c⟩
   ·obtain ⟨y,d,e⟩:=List.mem_map.1 N
    exact (i y d).2.1 (by simp [e])
  ·rintro ⟨h1,f,h⟩
   obtain ⟨a,b,c⟩:=h1 x (.inl rfl)
   refine ⟨⟨⟨a,b⟩,c⟩,fun y d=>?_,h⟩
   obtain ⟨a',b',c'⟩:=h1 y (.inr d)
   refine ⟨a',fun g=>?_,c'⟩
   rcases List.mem_append.1 g with g | g
   ·exact b' g
   ·simp only [List.mem_cons,List.not_mem_nil,or_false] at g
    exact f (by rw [<- g];exact List.mem_map_of_mem d)
theorem z5e (ds:List Data):∀{l:List Data} {names cons:List Bs},dM ds l names cons=true ↔
  (∀d∈l,qL d.name=true/\d.name∉names/\0 < d.cons.length/\∀x∈d.cons,qL x.name=true/\x.name∉cons/\x.fields.all (xA ds)=true)/\(l.map Data.name).Nodup/\((l.map fun d=>d.cons.map Con.name).flatten).Nodup
 | [],names,cons=>by simp [dM]
 | d::l,names,cons=>by
  simp only [dM,baQ,z5e ds (l:=l),q0k,j7n,Bool.not_eq_true',List.map_cons,List.nodup_cons,List.mem_cons,List.flatten_cons,decide_eq_true_eq]
  have O:sH names d.name=false↔d.name∉names:=by rw [<- hasB_mem (l:=names)];simp
  rw [O,List.nodup_append]
  constructor
  ·rintro ⟨⟨⟨⟨h1,j⟩,r⟩,o,p⟩,i,s,t⟩
   refine ⟨fun e J=>?_,⟨fun N=>?_,s⟩,p,t,fun n u m N e=>?_⟩
   ·rcases J with rfl | J
    ·exact ⟨h1,j,by omega,o⟩
    ·obtain ⟨a,b,c,k⟩:=i e J
     exact ⟨a,fun g=>b (by simp [g]),c,fun x h=>⟨(k x h).1,fun g=>(k x h).2.1 (by simp [g]),(k x h).2.2⟩⟩
   ·obtain ⟨e,J,ee⟩:=List.mem_map.1 N
    exact (i e J).2.1 (by simp [ee])
   ·subst e
    obtain ⟨ns,q,h⟩:=List.mem_flatten.1 N
    obtain ⟨e,J,rfl⟩:=List.mem_map.1 q
    obtain ⟨y,v,rfl⟩:=List.mem_map.1 h
    exact ((i e J).2.2.2 y v).2.1 (List.mem_append.2 (.inr u))
  ·rintro ⟨h1,⟨j,r⟩,o,p,i⟩
   obtain ⟨a,b,c,k⟩:=h1 d (.inl rfl)
   refine ⟨⟨⟨⟨a,b⟩,by omega⟩,k,o⟩,fun e J=>?_,r,p⟩
   obtain ⟨a',b',c',k'⟩:=h1 e (.inr J)
   refine ⟨a',fun g=>?_,c',fun x h=>⟨(k' x h).1,fun g=>?_,(k' x h).2.2⟩⟩
   ·rcases List.mem_append.1 g with g | g
    ·exact b' g
    ·simp only [List.mem_cons,List.not_mem_nil,or_false] at g
     exact j (by rw [<- g];exact List.mem_map_of_mem J)
   ·rcases List.mem_append.1 g with g | g
    ·exact (k' x h).2.1 g
    ·exact i _ g _ (List.mem_flatten.2 ⟨_,List.mem_map_of_mem (f:=fun d:Data=>d.cons.map Con.name) J,List.mem_map_of_mem h⟩) rfl
def dF (e:Ex):Prop:=(e.kind≠7/\0 < e.arms.length)∨(e.kind≠1/\e.num≠0)
def tyR (c:Core) (e:Ex) (vars:List Param):Option (List Bs×Bs)->Bs×Bool
 | none=>noT
 | some w=>if w.1=(typesR c e.args vars).1 then (w.2,true) else noT
theorem gP (c:Core) (e:Ex) (vars:List Param):zS c e vars =
  if (e.kind≠7/\0 < e.arms.length)∨(e.kind≠1/\e.num≠0) then noT
  else if e.kind=1 then (yH,decide (e.name=sNo)&&decide (e.args.length=0))
  else if e.kind=2 then (match gU vars e.name with | some t=>(t,decide (e.args.length=0)) | none=>noT)
  else if e.kind=3 then (match z9f c.inputs e.name with | some t=>(t,decide (e.args.length=0)) | none=>noT)
  else if e.kind=6 then letR c e.name e.args vars
  else if e.kind=7 then (if e.args.length≠1∨e.name≠sNo then noT
   else if (firstR c e.args vars).2=false then noT
   else match yK c.datas (firstR c e.args vars).1 with
    | none=>noT
    | some d=>if d.cons.length≠e.arms.length then noT else armsR c e.arms d.cons true sNo vars)
  else if (typesR c e.args vars).2=false then noT
  else tyR c e vars (pG c e.kind e.name):=by cases e;rfl
def nY (c:Core) (e:Ex) (vars:List Param):Bs×Bool :=
 if e.args.length≠1∨e.name≠sNo then noT
 else if (firstR c e.args vars).2=false then noT
 else match yK c.datas (firstR c e.args vars).1 with
  | none=>noT
  | some d=>if d.cons.length≠e.arms.length then noT else armsR c e.arms d.cons true sNo vars
section
variable {c:Core} {e:Ex} {vars:List Param}
theorem y7g (h:dF e):zS c e vars=noT:=by rw [gP];exact if_pos h
theorem j9k (O:¬dF e) (h:e.kind=1):zS c e vars=(yH,decide (e.name=sNo)&&decide (e.args.length=0)):=by rw [gP,if_neg (show ¬((e.kind≠7/\0 < e.arms.length)∨(e.kind≠1/\e.num≠0)) from O),if_pos h]
theorem j9l (O:¬dF e) (h:e.kind=2):zS c e vars=(match gU vars e.name with | some t=>(t,decide (e.args.length=0)) | none=>noT):=by
 rw [gP,if_neg (show ¬((e.kind≠7/\0 < e.arms.length)∨(e.kind≠1/\e.num≠0)) from O),if_neg (by omega),if_pos h]
theorem j9m (O:¬dF e) (h:e.kind=3):zS c e vars=(match z9f c.inputs e.name with | some t=>(t,decide (e.args.length=0)) | none=>noT):=by
 rw [gP,if_neg (show ¬((e.kind≠7/\0 < e.arms.length)∨(e.kind≠1/\e.num≠0)) from O),if_neg (by omega),if_neg (by omega),if_pos h]
theorem z7u (O:¬dF e) (h:e.kind=6):zS c e vars=letR c e.name e.args vars:=by
 rw [gP,if_neg (show ¬((e.kind≠7/\0 < e.arms.length)∨(e.kind≠1/\e.num≠0)) from O),if_neg (by omega),if_neg (by omega),if_neg (by omega),if_pos h]
theorem typeR_7 (O:¬dF e) (h:e.kind=7):zS c e vars=nY c e vars:=by
 rw [gP,if_neg (show ¬((e.kind≠7/\0 < e.arms.length)∨(e.kind≠1/\e.num≠0)) from O),if_neg (by omega),if_neg (by omega),if_neg (by omega),if_neg (by omega),if_pos h];rfl
theorem q6s (O:¬dF e) (h1:¬e.kind=1) (a:¬e.kind=2) (b:¬e.kind=3) (d:¬e.kind=6) (f:¬e.kind=7) :
  zS c e vars=if (typesR c e.args vars).2=false then noT else tyR c e vars (pG c e.kind e.name):=by
 rw [gP,if_neg (show ¬((e.kind≠7/\0 < e.arms.length)∨(e.kind≠1/\e.num≠0)) from O),if_neg h1,if_neg a,if_neg b,if_neg d,if_neg f]
theorem x3l (O:¬dF e) (h1:¬e.kind=1) (a:¬e.kind=2) (b:¬e.kind=3) (d:¬e.kind=6) (f:¬e.kind=7) (h:(typesR c e.args vars).2=false):zS c e vars=noT:=by
 rw [q6s O h1 a b d f,if_pos h]
theorem z0y (O:¬dF e) (h1:¬e.kind=1) (a:¬e.kind=2) (b:¬e.kind=3) (d:¬e.kind=6) (f:¬e.kind=7) (h:pG c e.kind e.name=none):zS c e vars=noT:=by
 rw [q6s O h1 a b d f,h];split <;> rfl
theorem z5t (O:¬dF e) (h1:¬e.kind=1) (b:¬e.kind=2) (d:¬e.kind=3) (f:¬e.kind=6) (g:¬e.kind=7) {wl ts:List Bs} {o:Bs} (h:pG c e.kind e.name=some (wl,o)) (a:typesR c e.args vars=(ts,true)):zS c e vars=if wl=ts then (o,true) else noT:=by
 rw [q6s O h1 b d f g,h,a,if_neg (by simp)];simp only [tyR,a]
theorem want_4 (h:e.kind=4):pG c e.kind e.name=(aH c.datas e.name).map fun m=>(m.con.fields,m.data):=by rw [pG,if_pos h]
theorem want_5 (h:e.kind=5):pG c e.kind e.name=(match mM c.funs e.name with | none=>none | some i=>(c.funs[i]?).map fun f=>(f.params.map Param.type,f.result)):=by rw [pG,if_neg (by omega),if_pos h];rfl
theorem q6v (h:e.kind=8):pG c e.kind e.name=(opR e.name).map fun t=>([yH,yH],t):=by rw [pG,if_neg (by omega),if_neg (by omega),if_pos h]
theorem want_no (a:¬e.kind=4) (b:¬e.kind=5) (d:¬e.kind=8):pG c e.kind e.name=none:=by rw [pG,if_neg a,if_neg b,if_neg d]
theorem letR_no {n:Bs} {l:List Ex} (h:¬l.length=2):letR c n l vars=noT:=by
 cases l with
 | nil=>rfl
 | cons a l=>simp only [letR];rw [if_pos (.inr (by simp only [lcQ] at h;omega))]
theorem pair_of {α:Type} {l:List α} (h:l.length=2) {x y:α} (b:l[0]? = some x) (c:l[1]? = some y):l=[x,y]:=by
 have a:l=x::l.drop 1:=zA b
 have h1:l.drop 1=y::l.drop 2:=zA c
 exact a.trans (by rw [h1,List.drop_of_length_le (by omega)])
theorem q5s {α:Type} {l:List α} {x:α} (a:l[0]? = some x):l=x::l.drop 1:=zA a
theorem j4l {n:Bs} {l:List Ex} {x:Ex} (a:l[0]? = some x) (h:(zS c x vars).2=false):letR c n l vars=noT:=by
 rw [q5s a];simp only [letR];rw [if_pos (.inl h)]
theorem y5f {n:Bs} {l:List Ex} {x y:Ex} (h:l.length=2) (a:l[0]? = some x) (b:l[1]? = some y) (h1:(zS c x vars).2=true):letR c n l vars=zS c y (vars++[⟨n,(zS c x vars).1⟩]):=by
 rw [pair_of h a b];simp only [letR,firstR];rw [if_neg (by simp [h1])]
theorem y1l (x:Ex) (xs:List Ex):typesR c (x::xs) vars=if (zS c x vars).2=false then ([],false) else ((zS c x vars).1::(typesR c xs vars).1,(typesR c xs vars).2):=rfl
theorem aF (a:Arm) (az:List Arm) (x:Con) (cs:List Con) (first:Bool) (out:Bs):armsR c (a::az) (x::cs) first out vars =
  if a.con≠x.name∨a.vars.length≠x.fields.length then noT
  else if (zS c a.body (vars++jT a.vars x.fields)).2=false∨(first=false/\(zS c a.body (vars++jT a.vars x.fields)).1≠out) then noT
  else armsR c az cs false (zS c a.body (vars++jT a.vars x.fields)).1 vars:=by cases a;rfl
theorem q7y (h:e.args.length≠1∨e.name≠sNo):nY c e vars=noT:=if_pos h
theorem z8g {x:Ex} (h:¬(e.args.length≠1∨e.name≠sNo)) (f:e.args[0]? = some x) (h1:(zS c x vars).2=false∨(yK c.datas (zS c x vars).1).isSome=false∨((yK c.datas (zS c x vars).1).getD aL).cons.length≠e.arms.length):nY c e vars=noT:=by
 have b:firstR c e.args vars=zS c x vars:=by rw [q5s f];rfl
 unfold nY
 rw [if_neg h,b]
 by_cases g:(zS c x vars).2=false
 ·rw [if_pos g]
 ·rw [if_neg g]
  have g:=h1.resolve_left g
  cases a:yK c.datas (zS c x vars).1 with
  | none=>rfl
  | some d=>
   rw [a] at g
   exact if_pos (g.resolve_left (by simp))
theorem x4w {x:Ex} (h:¬(e.args.length≠1∨e.name≠sNo)) (j:e.args[0]? = some x) (h1:(zS c x vars).2=true) (a:(yK c.datas (zS c x vars).1).isSome=true) (b:((yK c.datas (zS c x vars).1).getD aL).cons.length=e.arms.length) :
  nY c e vars=armsR c e.arms ((yK c.datas (zS c x vars).1).getD aL).cons true sNo vars:=by
 have i:firstR c e.args vars=zS c x vars:=by rw [q5s j];rfl
 unfold nY
 rw [if_neg h,i,if_neg (by simp [h1])]
 cases f:yK c.datas (zS c x vars).1 with
 | none=>rw [f] at a;cases a
 | some d=>
  rw [f] at b
  exact if_neg (fun g=>g b)
end
theorem j2a {vs fs:List Bs} {k:Nat} {v f:Bs} (b:vs[k]? = some v) (a:fs[k]? = some f):jT (vs.take (k+1)) (fs.take (k+1))=jT (vs.take k) (fs.take k)++[⟨v,f⟩]:=by
 have h1:=(List.getElem?_eq_some_iff.1 b).1
 have c:=(List.getElem?_eq_some_iff.1 a).1
 rw [jY b,jY a]
 unfold jT
 rw [List.zip_append (by simp only [List.length_take];omega)]
 simp
theorem q9i {l:List Fun} {n:Bs} {j:Nat} (h:mM l n=some j):j < l.length:=by
 have:∀(l:List Fun) (k:Nat),z1i l n k=some j->k<=j/\j < k+l.length:=by
  intro l
  induction l with
  | nil=>intro k h;cases h
  | cons f l a=>
   intro k h
   simp only [z1i] at h
   split at h
   ·cases h;simp
   ·have:=a _ h;simp only [lcQ];omega
 have:=this l 0 h
 omega
theorem y0t {fs:List Fun} {n:Bs} (h:¬xF fs n < 0):∃j,mM fs n=some j:=by
 unfold xF at h
 cases a:mM fs n with
 | none=>rw [a] at h;exact absurd (by decide) h
 | some j=>exact ⟨j,rfl⟩
theorem y2x:∀{es:List Ex} {x:Ex},x∈es->(zP x).length<=(bindPs es).length
 | e::es,x,h=>by
  simp only [bindPs,laQ]
  rcases List.mem_cons.1 h with rfl | h
  ·omega
  ·have:=y2x h;omega
theorem y2w:∀{es:List Arm} {a:Arm},a∈es->a.vars.length+(zP a.body).length<=(bindPa es).length
 | e::es,x,h=>by
  rw [qK]
  simp only [laQ]
  rcases List.mem_cons.1 h with rfl | h
  ·omega
  ·have:=y2w h;omega
theorem tZ {e x:Ex} (h:x∈e.args):(zP x).length+(if e.kind=6 then 1 else 0)<=(zP e).length:=by
 have:=y2x h
 rw [wX e]
 simp only [laQ]
 split <;> simp only [lcQ,lnQ] <;> omega
theorem q7q {e:Ex} {a:Arm} (h:a∈e.arms):a.vars.length+(zP a.body).length<=(zP e).length:=by
 have:=y2w h
 rw [wX e]
 simp only [laQ];omega
def Lim (c:Core):Prop:=c.datas.length<=1000/\∀f∈c.funs,f.params.length<=1000
structure Fit (T:Table) (c:Core):Prop where
 ds:∀n,zJ T.datas n=yK c.datas n
 cs:∀n,zJ T.cons n=aH c.datas n
 fs:∀n,zJ T.funs n=(match mM c.funs n with | some j=>c.funs[j]? | none=>none)
 is:∀n,zJ T.inputs n=z9f c.inputs n
 no:zJ T.datas sNo=none
 pos:∀n d,zJ T.datas n=some d->0 < d.cons.length/\∀x∈d.cons,∀f∈x.fields,f≠sNo
 mks:∀n m,zJ T.cons n=some m->m.data≠sNo
 rs:∀n f,zJ T.funs n=some f->f.result≠sNo
 it:∀n t,zJ T.inputs n=some t->t≠sNo
structure Rel (s:Scope) (vars:List Param):Prop where
 get:∀n,zJ s n=gU vars n
 nz:∀p∈vars,p.type≠sNo
theorem Rel.put {s:Scope} {vars:List Param} (h:Rel s vars) {v f:Bs} (a:f≠sNo):Rel (pD s v f) (vars++[⟨v,f⟩]) where
 get n:=by
  rw [kG,z2i,h.get]
  by_cases e:n=v
  ·rw [if_pos e,if_pos e.symm]
  ·rw [if_neg e,if_neg (fun g=>e g.symm)]
 nz p b:=by
  rcases List.mem_append.1 b with g | g
  ·exact h.nz p g
  ·simp only [List.mem_cons,List.not_mem_nil,or_false] at g;subst g;exact a
theorem Rel.putAll:∀{vs fs:List Bs} {s:Scope} {vars:List Param},Rel s vars->(∀f∈fs,f≠sNo)->Rel (putAll s vs fs) (vars++jT vs fs)
 | [],fs,_,_,h,_=>by rw [xU];simpa [jT] using h
 | _::_,[],_,_,h,_=>by simpa [jT,Go.Sw.putAll] using h
 | v::vs,f::fs,_,vars,h,a=>by
  rw [aW,show vars++jT (v::vs) (f::fs)=(vars++[⟨v,f⟩])++jT vs fs by simp [jT]]
  exact (h.put (a f msQ)).putAll (fun g b=>a g (mcQ _ b))
theorem j4k {ps:List Param} {n t:Bs}:∀(r:Option Bs),(ps.foldl (fun r p=>if p.name=n then some p.type else r) r)=some t->(∃p∈ps,p.type=t)∨r=some t:=by
 induction ps with
 | nil=>intro r h;exact .inr h
 | cons p ps a=>
  intro r h
  rcases a _ h with ⟨q,hq,e⟩ | h
  ·exact .inl ⟨q,mcQ _ hq,e⟩
  ·change (if p.name=n then some p.type else r)=some t at h
   split at h
   ·cases h;exact .inl ⟨p,msQ,rfl⟩
   ·exact .inr h
theorem Rel.ne {s:Scope} {vars:List Param} (h:Rel s vars) {n t:Bs} (g:gU vars n=some t):t≠sNo:=by
 rcases j4k none g with ⟨p,a,rfl⟩ | g
 ·exact h.nz p a
 ·cases g
def Alk (x:Bs) (r:Bs×Bool):Prop:=(r.2=true->x=r.1/\r.1≠sNo)/\(r.2=false->x=sNo)
theorem Alk.no {x:Bs} (h:x=sNo):Alk x noT:=⟨fun g=>(by cases g),fun _=>h⟩
theorem Alk.iff {x:Bs} {r:Bs×Bool} (h:Alk x r):x=sNo↔r.2=false:=by
 cases hr:r.2 with
 | true=>have:=h.1 hr;exact ⟨fun e=>absurd (this.1▸e) this.2,fun e=>by cases e⟩
 | false=>exact ⟨fun _=>rfl,fun _=>h.2 hr⟩
def RT (T:Table) (c:Core) (e:Ex):Prop:=∀s vars,Rel s vars->(zP e).Nodup->Fresh s (zP e)->Alk (zG T e s).1 (zS c e vars)
theorem z4u {c:Core}:∀{xs:List Ex} {vars:List Param},(typesR c xs vars).2=true->(typesR c xs vars).1.length=xs.length
 | [],_,_=>rfl
 | x::xs,vars,h=>by
  simp only [typesR] at h ⊢
  split at h
  ·cases h
  ·rename_i a;rw [if_neg a];simp only [lcQ];rw [z4u h]
theorem y2p {T:Table} {c:Core}:∀{xs:List Ex} {s:Scope} {vars:List Param} {ts:List Bs},(∀x∈xs,nW T x)->(∀x∈xs,RT T c x)->Rel s vars->xs.length=ts.length->(bindPs xs).Nodup->Fresh s (bindPs xs) ->
  ((allQ T xs s ts).1=true↔(typesR c xs vars).2=true/\ts=(typesR c xs vars).1)
 | [],_,_,[],_,_,_,_,_,_=>by simp [allQ,typesR]
 | x::xs,s,vars,t::ts,k,l,hr,hl,q,i=>by
  have hn':=zV (show (zP x++bindPs xs).Nodup from q)
  have fs:=i.sub (m:=zP x) fun n h=>List.mem_append.2 (.inl h)
  have o:=l x msQ s vars hr hn'.1 fs
  have j:=o.iff
  rw [z3o]
  simp only [typesR]
  by_cases h1:(zG T x s).1=sNo
  ·rw [if_pos (.inl h1),if_pos (j.1 h1)];simp
  ·have d:(zS c x vars).2=true:=by cases h:(zS c x vars).2 with | true=>rfl | false=>exact absurd (j.2 h) h1
   have f:=o.1 d
   rw [if_neg (show ¬(zS c x vars).2=false by simp [d])]
   by_cases a:(zG T x s).1=t
   ·rw [if_neg (fun e=>e.elim h1 (fun g=>g a))]
    have p:=k x msQ s hn'.1 fs h1
    rw [p,y2p (fun y b=>k y (mcQ _ b)) (fun y b=>l y (mcQ _ b)) hr (by simpa using hl) hn'.2.1 (i.sub fun n h=>List.mem_append.2 (.inr h))]
    simp only [List.cons.injEq,<- f.1,a,true_and]
   ·rw [if_pos (.inr a)]
    simp only [Bool.false_eq_true,List.cons.injEq,false_iff,<- f.1]
    exact fun g=>a g.2.1.symm
 | [],_,_,_::_,_,_,_,hl,_,_=>by simp at hl
 | _::_,_,_,[],_,_,_,hl,_,_=>by simp at hl
theorem j2w {T:Table} {c:Core} {xs:List Ex} {s:Scope} {vars:List Param} {ts:List Bs} (d:∀x∈xs,nW T x) (f:∀x∈xs,RT T c x) (hr:Rel s vars) (e:(bindPs xs).Nodup) (b:Fresh s (bindPs xs)) :
  (vR T xs s ts).1=true↔(typesR c xs vars).2=true/\ts=(typesR c xs vars).1:=by
 unfold vR
 split
 ·rename_i hl;exact y2p d f hr hl e b
 ·rename_i hl
  simp only [Bool.false_eq_true,false_iff]
  rintro ⟨h1,a⟩
  rw [a,z4u h1] at hl
  exact hl rfl
theorem q0c {T:Table} {c:Core}:∀{az:List Arm} {cs:List Con} {first:Bool} {out:Bs} {s:Scope} {vars:List Param},(∀a∈az,nW T a.body)->(∀a∈az,RT T c a.body)->Rel s vars->cs.length=az.length ->
  (∀x∈cs,∀f∈x.fields,f≠sNo)->(bindPa az).Nodup->Fresh s (bindPa az)->(az=[]->out≠sNo)->Alk (splitP T az cs first out s).1 (armsR c az cs first out vars)
 | [],[],_,out,_,_,_,_,_,_,_,_,_,h=>⟨fun _=>⟨rfl,h rfl⟩,fun g=>by cases g⟩
 | a::az,x::cs,first,out,s,vars,p,r,hr,hl,t,q,l,_=>by
  rw [qK] at q l
  have hn':=zV q
  have hn'':=zV hn'.1
  rw [jE,aF]
  by_cases d:a.con≠x.name∨a.vars.length≠x.fields.length
  ·rw [if_pos d,if_pos d];exact .no rfl
  ·rw [if_neg d,if_neg d]
   have fs:Fresh s (a.vars++zP a.body):=l.sub fun n h=>List.mem_append.2 (.inl h)
   have hb:Alk (nU T a x s).1 (zS c a.body (vars++jT a.vars x.fields)) :=
    r _ msQ (putAll s a.vars x.fields) _ (hr.putAll (t x msQ)) hn''.2.1 (fun n hb=>by
     rw [vE (fun N=>hn''.2.2 n N hb)];exact fs n (List.mem_append.2 (.inr hb)))
   have o:=hb.iff
   by_cases h1:(nU T a x s).1=sNo
   ·rw [if_pos (.inl h1),if_pos (.inl (o.1 h1))];exact .no rfl
   ·have m:(zS c a.body (vars++jT a.vars x.fields)).2=true:=by cases h:(zS c a.body (vars++jT a.vars x.fields)).2 with | true=>rfl | false=>exact absurd (o.2 h) h1
    have j:=hb.1 m
    rw [j.1]
    by_cases i:first=false/\(zS c a.body (vars++jT a.vars x.fields)).1≠out
    ·rw [if_pos (.inr i),if_pos (.inr i)];exact .no rfl
    ·rw [if_neg (fun e=>e.elim j.2 i),if_neg (fun e=>e.elim (by simp [m]) i)]
     have k:a.vars.length=x.fields.length:=Classical.byContradiction fun e=>d (.inr e)
     have u:=z3r (p _ msQ) k hn'.1 fs h1
     rw [u]
     exact q0c (fun b hb=>p b (mcQ _ hb)) (fun b hb=>r b (mcQ _ hb)) hr (by simpa using hl) (fun y v=>t y (mcQ _ v)) hn'.2.1 (l.sub fun n h=>List.mem_append.2 (.inr h)) (fun _=>j.2)
 | [],_::_,_,_,_,_,_,_,_,hl,_,_,_,_=>by simp at hl
 | _::_,[],_,_,_,_,_,_,_,hl,_,_,_,_=>by simp at hl
def tyL (T:Table) (e:Ex) (s:Scope):Option (List Bs×Bs)->Bs
 | none=>sNo
 | some p=>if (vR T e.args s p.1).1=true then p.2 else sNo
theorem opR_eq (n:Bs):(opR n).getD sNo=opT n/\∀t,opR n=some t->t≠sNo:=by
 unfold opR opT
 have:sH [⟨#[43]⟩,⟨#[45]⟩,⟨#[42]⟩,⟨#[47]⟩,⟨#[37]⟩] n=true↔(n=⟨#[43]⟩∨n=⟨#[45]⟩∨n=⟨#[42]⟩∨n=⟨#[47]⟩∨n=⟨#[37]⟩):=by
  rw [hasB_mem];simp
 by_cases h:sH [⟨#[43]⟩,⟨#[45]⟩,⟨#[42]⟩,⟨#[47]⟩,⟨#[37]⟩] n=true
 ·rw [if_pos h,if_pos (this.1 h)];exact ⟨rfl,fun t g=>by cases g;decide⟩
 ·rw [if_neg h,if_neg (fun g=>h (this.2 g))]
  split
  ·exact ⟨rfl,fun t g=>by cases g;decide⟩
  ·exact ⟨rfl,fun t g=>by cases g⟩
theorem bare_iff {e:Ex} {name:Bool} {n:Int} {k:Int}:qM e false name n k=true↔e.num=0/\(name=true∨e.name=sNo)/\(n < 0∨(e.args.length:Int)=n)/\(k < 0∨(e.arms.length:Int)=k):=by
 simp [qM,sNo,and_assoc]
theorem bare1 {e:Ex}:qM e true false 0 0=true↔e.name=sNo/\e.args.length=0/\e.arms.length=0:=by
 simp [qM,sNo,and_assoc]
theorem bare0 {e:Ex} {n:Int}:qM e false true n 0=true↔e.num=0/\(n < 0∨(e.args.length:Int)=n)/\e.arms.length=0:=by
 simp only [qM,baQ,Bool.or_eq_true,decide_eq_true_eq,Bool.false_eq_true,false_or,true_or,and_true]
 omega
theorem z3g {T:Table} {c:Core} {e:Ex} {s:Scope} {vars:List Param} {w:Option (List Bs×Bs)} (b:∀x∈e.args,nW T x) (i:∀x∈e.args,RT T c x) (hr:Rel s vars) (d:(bindPs e.args).Nodup) (a:Fresh s (bindPs e.args)) (j:∀p,w=some p->p.2≠sNo) :
  Alk (tyL T e s w) (if (typesR c e.args vars).2=false then noT else tyR c e vars w):=by
 cases w with
 | none=>
  by_cases h:(typesR c e.args vars).2=false
  ·rw [if_pos h];exact .no rfl
  ·rw [if_neg h];exact .no rfl
 | some p=>
  have h1:=j2w (ts:=p.1) b i hr d a
  simp only [tyL,tyR]
  by_cases h:(typesR c e.args vars).2=false
  ·rw [if_pos h]
   have:¬(vR T e.args s p.1).1=true:=fun g=>by rw [(h1.1 g).1] at h;cases h
   rw [if_neg this];exact .no rfl
  ·rw [if_neg h]
   have f:(typesR c e.args vars).2=true:=by cases g:(typesR c e.args vars).2 with | true=>rfl | false=>exact absurd g h
   by_cases g:p.1=(typesR c e.args vars).1
   ·rw [if_pos (h1.2 ⟨f,g⟩),if_pos g]
    exact ⟨fun _=>⟨rfl,j p rfl⟩,fun x=>by cases x⟩
   ·have:¬(vR T e.args s p.1).1=true:=fun x=>g (h1.1 x).2
    rw [if_neg this,if_neg g];exact .no rfl
theorem rt_ok {T:Table} {c:Core} (j:Fit T c):∀(n:Nat) (e:Ex),e.sz < n->RT T c e
 | 0,_,h=>by omega
 | n+1,e,j0=>by
  intro s vars hr X L
  have u:∀x∈e.args,nW T x:=fun x H=>cN T j.no (n+1) x (by have:=Ex.lt_args H;omega)
  have b0:∀a∈e.arms,nW T a.body:=fun a S=>cN T j.no (n+1) a.body (by have:=Ex.lt_arms S;omega)
  have q:∀x∈e.args,RT T c x:=fun x H=>rt_ok j n x (by have:=Ex.lt_args H;omega)
  have d0:∀a∈e.arms,RT T c a.body:=fun a S=>rt_ok j n a.body (by have:=Ex.lt_arms S;omega)
  rw [wX] at X L
  have V:=zV X
  have B:=zV V.1
  have fa:Fresh s (bindPs e.args):=L.sub fun m N=>List.mem_append.2 (.inl (List.mem_append.2 (.inr N)))
  have fb:Fresh s (bindPa e.arms):=L.sub fun m N=>List.mem_append.2 (.inr N)
  rw [gP]
  by_cases F:e.kind=7
  ·rw [nJ T e s F]
   unfold xH
   by_cases hb:qM e false false 1 (-1)=true
   ·rw [if_pos hb]
    obtain ⟨Y,Z,b3,_⟩:=bare_iff.1 hb
    obtain ⟨x,b⟩:=j8q (vC (n:=1) hb)
    have H:e.args[0]? = some x:=by rw [b];rfl
    rw [jG H]
    simp only [F,Y,b,firstR]
    simp only [show ¬((7:Int)=1) by decide,show ¬((7:Int)=2) by decide,show ¬((7:Int)=3) by decide,show ¬((7:Int)=6) by decide,ne_eq,not_true,not_false_eq_true,false_and,and_false,or_self,if_false,if_true,lcQ,lnQ,Z.resolve_left (by decide)]
    have na:=B.2.1
    rw [b] at fa na
    simp only [bindPs,List.append_nil] at fa na
    have mx:x∈e.args:=by rw [b];simp
    have R:=q x mx s vars hr na fa
    by_cases r:(zS c x vars).2=false
    ·rw [if_pos r,R.2 r,j.no];exact .no rfl
    ·rw [if_neg r]
     have h1:(zS c x vars).2=true:=by cases g:(zS c x vars).2 with | true=>rfl | false=>exact absurd g r
     obtain ⟨v,e2⟩:=R.1 h1
     have e3:=u x mx s na fa (v▸e2)
     rw [v,e3,j.ds]
     cases hd:yK c.datas (zS c x vars).1 with
     | none=>exact .no rfl
     | some d=>
      have i:=j.pos _ d ((j.ds _).trans hd)
      simp only
      by_cases k:d.cons.length=e.arms.length
      ·rw [if_pos k,if_neg (fun g=>g k)]
       exact q0c b0 d0 hr k i.2 V.2.1 fb (fun g=>by rw [g] at k;have:=i.1;simp only [lnQ] at k;omega)
      ·rw [if_neg k,if_pos k];exact .no rfl
   ·rw [if_neg hb]
    have hq:¬(e.num=0/\e.name=sNo/\e.args.length=1):=fun g=>hb (bare_iff.2 ⟨g.1,.inr g.2.1,.inr (by rw [g.2.2];rfl),.inl (by decide)⟩)
    by_cases P:(e.kind≠7/\0 < e.arms.length)∨(e.kind≠1/\e.num≠0)
    ·rw [if_pos P];exact .no rfl
    ·rw [if_neg P]
     have r:e.num=0:=Classical.byContradiction fun g=>P (.inr ⟨by rw [F];decide,g⟩)
     simp only [F]
     simp only [show ¬((7:Int)=1) by decide,show ¬((7:Int)=2) by decide,show ¬((7:Int)=3) by decide,show ¬((7:Int)=6) by decide,if_false,if_true]
     rw [if_pos]
     ·exact .no rfl
     ·by_cases hl:e.args.length=1
      ·exact .inr fun g=>hq ⟨r,g,hl⟩
      ·exact .inl hl
  have Q:((e.kind≠7/\0 < e.arms.length)∨(e.kind≠1/\e.num≠0))↔¬(e.arms.length=0/\(e.kind=1∨e.num=0)):=by
   constructor
   ·rintro (⟨_,g⟩ | ⟨g,g'⟩) ⟨x,y⟩
    ·omega
    ·exact y.elim g g'
   ·intro g
    by_cases x:e.arms.length=0
    ·exact .inr ⟨fun y=>g ⟨x,.inl y⟩,fun y=>g ⟨x,.inr y⟩⟩
    ·exact .inl ⟨F,by omega⟩
  by_cases h1:e.kind=1
  ·rw [aO T e s h1]
   unfold oP
   by_cases hb:qM e true false 0 0=true
   ·obtain ⟨Y,Z,b3⟩:=bare1.1 hb
    rw [if_pos hb,if_neg (fun g=>Q.1 g ⟨b3,.inl h1⟩),if_pos h1]
    exact ⟨fun _=>⟨rfl,show yH≠sNo by decide⟩,fun g=>by simp [Y,Z] at g⟩
   ·rw [if_neg hb]
    by_cases O:e.arms.length=0
    ·rw [if_neg (fun g=>Q.1 g ⟨O,.inl h1⟩),if_pos h1]
     refine ⟨fun g=>?_,fun _=>rfl⟩
     simp only [baQ,decide_eq_true_eq] at g
     exact absurd (bare1.2 ⟨g.1,g.2,O⟩) hb
    ·rw [if_pos (Q.2 fun g=>O g.1)];exact .no rfl
  by_cases hq:e.num=0/\e.arms.length=0
  ·rw [if_neg (fun g=>Q.1 g ⟨hq.2,.inr hq.1⟩),if_neg h1]
   have o:∀{n:Int},(n < 0∨(e.args.length:Int)=n)->qM e false true n 0=true:=fun h=>bare0.2 ⟨hq.1,h,hq.2⟩
   have A:∀{n:Int},¬(n < 0∨(e.args.length:Int)=n)->¬qM e false true n 0=true:=fun h g=>h (bare0.1 g).2.1
   by_cases C:e.kind=2
   ·rw [if_pos C,nO T e s C]
    unfold pF
    by_cases hl:e.args.length=0
    ·rw [if_pos (o (.inr (by rw [hl];rfl))),hr.get]
     cases W:gU vars e.name with
     | none=>exact .no rfl
     | some t=>exact ⟨fun _=>⟨rfl,hr.ne W⟩,fun g=>by simp [hl] at g⟩
    ·rw [if_neg (A (by omega))]
     cases W:gU vars e.name with
     | none=>exact .no rfl
     | some t=>exact ⟨fun g=>by simp only [decide_eq_true_eq] at g;exact absurd g hl,fun _=>rfl⟩
   by_cases I:e.kind=3
   ·rw [if_neg C,if_pos I,nL T e s I]
    unfold sI
    by_cases hl:e.args.length=0
    ·rw [if_pos (o (.inr (by rw [hl];rfl))),j.is]
     cases W:z9f c.inputs e.name with
     | none=>exact .no rfl
     | some t=>exact ⟨fun _=>⟨rfl,j.it _ _ ((j.is _).trans W)⟩,fun g=>by simp [hl] at g⟩
    ·rw [if_neg (A (by omega))]
     cases W:z9f c.inputs e.name with
     | none=>exact .no rfl
     | some t=>exact ⟨fun g=>by simp only [decide_eq_true_eq] at g;exact absurd g hl,fun _=>rfl⟩
   rw [if_neg C,if_neg I]
   by_cases E:e.kind=6
   ·rw [if_pos E,nM T e s E]
    unfold z1p
    by_cases hl:e.args.length=2
    ·rw [if_pos (o (.inr (by rw [hl];rfl)))]
     obtain ⟨x,y,b⟩:=j1x hl
     have H:e.args[0]? = some x:=by rw [b];rfl
     have hy:e.args[1]? = some y:=by rw [b];rfl
     simp only [if_pos E,b,bindPs,List.append_nil] at X L
     have c0:=zV X
     have U:=zV c0.1
     have M:=zV U.2.1
     have mx:x∈e.args:=by rw [b];simp
     have my:y∈e.args:=by rw [b];simp
     have R:=q x mx s vars hr M.1 (L.sub fun m N=>by simp [N])
     have hi:=R.iff
     simp only [b,letR,firstR,lcQ,lnQ]
     by_cases r:(zG T x s).1=sNo
     ·rw [<- b,z4a H r,if_pos (.inl (hi.1 r))];exact .no rfl
     ·have g1:(zS c x vars).2=true:=by cases g:(zS c x vars).2 with | true=>rfl | false=>exact absurd (hi.2 g) r
      obtain ⟨v,e2⟩:=R.1 g1
      have e3:=u x mx s M.1 (L.sub fun m N=>by simp [N]) r
      rw [<- b,sM H hy r,if_neg (by simp [g1])]
      simp only [e3,v]
      refine q y my _ _ (hr.put e2) M.2.1 (fun m N=>?_)
      rw [kG,if_neg]
      ·exact L m (by simp [N])
      ·rintro rfl
       exact U.2.2 e.name (by simp) (by simp [N])
    ·rw [if_neg (A (by omega))]
     cases S:e.args with
     | nil=>exact .no rfl
     | cons a l=>
      simp only [letR]
      rw [S] at hl
      rw [if_pos (.inr (by simp only [lcQ] at hl;omega))];exact .no rfl
   rw [if_neg E,if_neg F]
   by_cases z:e.kind=4
   ·rw [nK T e s z]
    have G:pG c e.kind e.name=(zJ T.cons e.name).map fun m=>(m.con.fields,m.data):=by rw [pG,if_pos z,j.cs]
    have:=z3g (w:=pG c e.kind e.name) u q hr B.2.1 fa (fun p i=>by
     rw [G] at i
     cases N:zJ T.cons e.name with
     | none=>rw [N] at i;cases i
     | some m=>rw [N] at i;cases i;exact j.mks _ _ N)
    have v:(tO T e s).1=tyL T e s (pG c e.kind e.name):=by
     rw [G]
     unfold tO
     cases N:zJ T.cons e.name with
     | none=>rfl
     | some m=>simp only [if_pos (o (n:=-1) (.inl (by decide))),Option.map_some,tyL]
    rw [v];exact this
   by_cases D:e.kind=5
   ·rw [wK T e s D]
    have G:pG c e.kind e.name=(zJ T.funs e.name).map fun f=>(f.params.map Param.type,f.result):=by
     rw [pG,if_neg z,if_pos D,j.fs]
     cases mM c.funs e.name <;> rfl
    have:=z3g (w:=pG c e.kind e.name) u q hr B.2.1 fa (fun p i=>by
     rw [G] at i
     cases N:zJ T.funs e.name with
     | none=>rw [N] at i;cases i
     | some m=>rw [N] at i;cases i;exact j.rs _ _ N)
    have v:(nS T e s).1=tyL T e s (pG c e.kind e.name):=by
     rw [G]
     unfold nS
     cases N:zJ T.funs e.name with
     | none=>rfl
     | some m=>simp only [if_pos (o (n:=-1) (.inl (by decide))),Option.map_some,tyL]
    rw [v];exact this
   by_cases K:e.kind=8
   ·rw [cG T e s K]
    have G:pG c e.kind e.name=(opR e.name).map fun t=>([yH,yH],t):=by rw [pG,if_neg z,if_neg D,if_pos K]
    obtain ⟨o1,o2⟩:=opR_eq e.name
    have:=z3g (w:=pG c e.kind e.name) u q hr B.2.1 fa (fun p i=>by
     rw [G] at i
     cases N:opR e.name with
     | none=>rw [N] at i;cases i
     | some m=>rw [N] at i;cases i;exact o2 _ N)
    have v:(nV T e s).1=tyL T e s (pG c e.kind e.name):=by
     rw [G]
     unfold nV
     rw [<- o1]
     by_cases hl:e.args.length=2
     ·rw [if_pos (o (.inr (by rw [hl];rfl)))]
      cases N:opR e.name with
      | none=>simp [tyL]
      | some t=>rfl
     ·rw [if_neg (A (by omega))]
      have:¬(vR T e.args s [yH,yH]).1=true:=by unfold vR;rw [if_neg (by simpa using hl)];simp
      cases N:opR e.name with
      | none=>rfl
      | some t=>simp only [Option.map_some,tyL,if_neg this]
    rw [v];exact this
   ·by_cases i0:e.kind=1∨e.kind=2∨e.kind=3
    ·omega
    ·rw [nN T e s h1 C I z D E F K,pG,if_neg z,if_neg D,if_neg K]
     by_cases h:(typesR c e.args vars).2=false
     ·rw [if_pos h];exact .no rfl
     ·rw [if_neg h];exact .no rfl
  ·rw [if_pos (Q.2 fun g=>hq ⟨g.2.resolve_left h1,g.1⟩)]
   apply Alk.no
   have hb:∀n,¬qM e false true n 0=true:=fun n g=>hq ⟨(bare0.1 g).1,(bare0.1 g).2.2⟩
   by_cases C:e.kind=2
   ·rw [nO T e s C];exact if_neg (hb 0)
   by_cases I:e.kind=3
   ·rw [nL T e s I];exact if_neg (hb 0)
   by_cases z:e.kind=4
   ·rw [nK T e s z];unfold tO
    split
    ·rfl
    ·rw [if_neg (hb _)]
   by_cases D:e.kind=5
   ·rw [wK T e s D];unfold nS
    split
    ·rfl
    ·rw [if_neg (hb _)]
   by_cases E:e.kind=6
   ·rw [nM T e s E];unfold z1p;rw [if_neg (hb _)]
   by_cases K:e.kind=8
   ·rw [cG T e s K];unfold nV;rw [if_neg (hb _)]
   rw [nN T e s h1 C I z D E F K]
theorem mZ:∀{l:List Data} {n:Bs} {d:Data},kK l n=some d->d∈l/\d.name=n
 | [],_,_,h=>by cases h
 | e::l,n,d,h=>by
  simp only [kK] at h
  split at h
  ·rename_i g;cases h;exact ⟨msQ,g⟩
  ·have:=mZ h;exact ⟨mcQ _ this.1,this.2⟩
theorem y0p {l:List Data} {n:Bs} (h:n∉l.map Data.name):kK l n=none:=by
 cases g:kK l n with
 | none=>rfl
 | some d=>obtain ⟨h1,a⟩:=mZ g;exact absurd (a▸List.mem_map_of_mem h1) h
theorem q0r:∀{l:List Data} {d:Data},(l.map Data.name).Nodup->d∈l->kK l d.name=some d
 | e::l,d,a,h=>by
  simp only [List.map_cons,List.nodup_cons] at a
  simp only [kK]
  rcases List.mem_cons.1 h with rfl | h
  ·rw [if_pos rfl]
  ·rw [if_neg (fun g=>a.1 (by rw [g];exact List.mem_map_of_mem h))];exact q0r a.2 h
theorem uE (ds:List Data) (n:Bs):yK ds n=kK (truthsD::ds) n:=by rw [<- z5d,z5b]
theorem z3s:∀{l:List Con} {n:Bs} {x:Con},vL l n=some x->x∈l/\x.name=n
 | [],_,_,h=>by cases h
 | e::l,n,d,h=>by
  simp only [vL] at h
  split at h
  ·rename_i g;cases h;exact ⟨msQ,g⟩
  ·have:=z3s h;exact ⟨mcQ _ this.1,this.2⟩
theorem z2q:∀{l:List Data} {n:Bs} {m:Maker},pM l n=some m->∃d∈l,d.name=m.data/\vL d.cons n=some m.con
 | [],_,_,h=>by cases h
 | e::l,n,m,h=>by
  simp only [pM] at h
  cases a:vL e.cons n with
  | some x=>rw [a] at h;cases h;exact ⟨e,msQ,rfl,a⟩
  | none=>rw [a] at h;obtain ⟨d,b,g⟩:=z2q h;exact ⟨d,mcQ _ b,g⟩
theorem y5i:∀{l:List Data} {n:Bs} {d:Data} {x:Con},((l.map fun d=>d.cons.map Con.name).flatten).Nodup->d∈l->vL d.cons n=some x->pM l n=some ⟨d.name,x⟩
 | e::l,n,d,x,c,a,b=>by
  simp only [List.map_cons,List.flatten_cons] at c
  have hn':=zV c
  simp only [pM]
  rcases List.mem_cons.1 a with rfl | a
  ·rw [b]
  ·have:vL e.cons n=none:=by
    cases g:vL e.cons n with
    | none=>rfl
    | some y=>
     obtain ⟨h1,h⟩:=z3s g
     obtain ⟨i,j⟩:=z3s b
     exact absurd (List.mem_flatten.2 ⟨_,List.mem_map_of_mem (f:=fun d:Data=>d.cons.map Con.name) a,List.mem_map.2 ⟨x,i,j⟩⟩) (hn'.2.2 n (List.mem_map.2 ⟨y,h1,h⟩))
   rw [this]
   exact y5i hn'.2.1 a b
theorem y4s (name:Bs):∀(l:List Con) (ok:Bool),gT name l ok=(ok && !nP name l)
 | [],ok=>by simp [gT,nP]
 | x::l,ok=>by
  simp only [gT,y4s name l,nP,List.any_cons,Bool.not_or,<- Bool.and_assoc];rfl
theorem tA (name:Bs):∀(l:List Data) (n:Int) (ok:Bool),(l.map Data.name).Nodup->mN name l n ok=match kK l name with | none=>(n,ok) | some d=>(IntKind.i64.wrap (n+1),ok && !nP name d.cons)
 | [],n,ok,_=>rfl
 | d::l,n,ok,a=>by
  simp only [List.map_cons,List.nodup_cons] at a
  simp only [mN,kK]
  by_cases h:d.name=name
  ·rw [if_pos h,if_pos h,tA name l _ _ a.2,y0p (by rw [<- h];exact a.1),y4s]
  ·rw [if_neg h,if_neg h,tA name l _ _ a.2]
theorem j0h (name:Bs):∀(l:List Data),(l.map Data.name).Nodup->(wW name l,kW name l)=match kK l name with | none=>(false,0) | some d=>(nP name d.cons,1)
 | [],_=>rfl
 | d::l,b=>by
  simp only [List.map_cons,List.nodup_cons] at b
  have a:=j0h name l b.2
  simp only [wW,kW,kK] at a ⊢
  by_cases h:d.name=name
  ·rw [y0p (by rw [<- h];exact b.1)] at a
   simp only [Prod.mk.injEq] at a
   simp only [List.any_cons,List.filter_cons,h,decide_true,Bool.true_and,if_true,a.1,Bool.or_false,lcQ,a.2]
  ·simp only [List.any_cons,List.filter_cons,h,decide_false,Bool.false_and,Bool.false_or,Bool.false_eq_true,if_false]
   exact a
theorem z0d {ds:List Data} (b:(ds.map Data.name).Nodup) (c:∀d∈ds,d.name≠kO) (name:Bs):xT ds name=jM ds name:=by
 unfold xT jM
 by_cases h:name=yH
 ·rw [if_pos h,if_pos h]
 ·rw [if_neg h,if_neg h]
  have h1:=j0h name ds b
  rw [tA name ds 0 true b]
  cases a:kK ds name with
  | none=>
   rw [a] at h1;simp only [Prod.mk.injEq] at h1
   rw [h1.2];simp
  | some d=>
   rw [a] at h1;simp only [Prod.mk.injEq] at h1
   obtain ⟨e,f⟩:=mZ a
   have:name≠kO:=f▸c d e
   rw [h1.1,h1.2]
   simp only [this,decide_false,Bool.not_false,Bool.and_true,decide_true,Bool.true_and]
   rw [show IntKind.i64.wrap (0+1)=1 by decide];simp
structure Decl (c:Core):Prop where
 tab:Tabled c
 fd:∀d∈c.datas,∀x∈d.cons,∀f∈x.fields,xA c.datas f=true
 it:∀p∈c.inputs,xT c.datas p.type=true
 fp:∀f∈c.funs,(∀p∈f.params,xA c.datas p.type=true)/\xA c.datas f.result=true
theorem q0s {c:Core} (h:Tabled c) {t:Bs} {d:Data} (g:yK c.datas t=some d):t≠sNo:=by
 rintro rfl
 rw [uE] at g
 obtain ⟨h1,a⟩:=mZ g
 rcases List.mem_cons.1 h1 with rfl | h1
 ·revert a;decide
 ·have:=(h.dN d h1).1;rw [a,uG] at this;cases this
theorem z7v {c:Core} (h:Tabled c) {t:Bs} (g:xA c.datas t=true):t≠sNo:=by
 simp only [xA,Bool.or_eq_true,decide_eq_true_eq] at g
 rcases g with g | g
 ·cases a:yK c.datas t with
  | none=>rw [a] at g;cases g
  | some d=>exact q0s h a
 ·rw [g];decide
theorem q1o {c:Core} (h:Tabled c) (n:Bs):kQ (zE c) n=xA c.datas n:=by
 unfold kQ xA
 rw [(dZ (uU h)).2.1,z5d]
theorem fit_of {c:Core} (h:Decl c):Fit (zE c) c:=by
 obtain ⟨_,p,t2,t3,t4⟩:=dZ (uU h.tab)
 have a:∀n,zJ (zE c).datas n=yK c.datas n:=fun n=>by rw [p,z5d]
 have k:∀n,zJ (zE c).cons n=aH c.datas n:=fun n=>by rw [t2,z2p];rfl
 have b:∀d∈truthsD::c.datas,d.name≠sNo/\0 < d.cons.length/\∀x∈d.cons,∀f∈x.fields,f≠sNo:=fun d a=>by
  rcases List.mem_cons.1 a with rfl | a
  ·refine ⟨by decide,by decide,fun x i f j=>?_⟩
   simp only [truthsD,List.mem_cons,List.not_mem_nil,or_false] at i
   rcases i with rfl | rfl <;> cases j
  ·refine ⟨fun e=>?_,(h.tab.dN d a).2.2.2.1,fun x i f j=>z7v h.tab (h.fd d a x i f j)⟩
   have:=(h.tab.dN d a).1;rw [e,uG] at this;cases this
 refine ⟨a,k,fun n=>by rw [t3];exact (z9b c.funs n).symm,fun n=>by rw [t4,q9q],?_,fun n d g=>?_,fun n m g=>?_,fun n f g=>?_,fun n t g=>?_⟩
 ·rw [a]
  cases g:yK c.datas sNo with
  | none=>rfl
  | some d=>exact absurd rfl (q0s h.tab g)
 ·rw [a,uE] at g;exact (b d (mZ g).1).2
 ·rw [k] at g
  obtain ⟨d,a,e,_⟩:=z2q g
  rw [<- e];exact (b d a).1
 ·rw [t3] at g
  obtain ⟨x,i,_,rfl⟩:=xS g
  exact z7v h.tab (h.fp x i).2
 ·rw [t4] at g
  obtain ⟨x,i,_,rfl⟩:=xS g
  have:=h.it x i
  rw [z0d h.tab.dU (fun d a=>(h.tab.dN d a).2.2.1)] at this
  unfold jM at this
  split at this
  ·rename_i e;rw [e];decide
  ·rw [tA _ _ _ _ h.tab.dU] at this
   cases a:kK c.datas x.type with
   | none=>rw [a] at this;simp at this
   | some d=>
    obtain ⟨l,o⟩:=mZ a
    rw [<- o];exact (b d (mcQ _ l)).1
theorem q2f:z4r=qO:=funext x7r
theorem apartR_iff {l:List Bs}:dH l=true↔l.Nodup/\∀n∈l,qO n=true:=by
 unfold dH
 rw [q2f]
 exact ⟨fun h=>⟨(vG h).1,(vG h).2.2⟩,fun h=>y9y h.1 (fun n _ N=>by cases N) h.2⟩
theorem z3p (l:List Bs):dH l=mD qO [] l:=by unfold dH;rw [q2f]
theorem declR {c:Core} (h:kN c=true):Decl c:=by
 simp only [kN,baQ,decide_eq_true_eq,List.all_eq_true,wA] at h
 obtain ⟨⟨⟨⟨⟨⟨⟨⟨h1,u⟩,m⟩,n⟩,j⟩,o⟩,v⟩,w⟩,y⟩:=h
 obtain ⟨d1,d2,d3⟩:=(z5e c.datas).1 h1
 obtain ⟨q,i2⟩:=apartR_iff.1 n
 obtain ⟨k,l⟩:=apartR_iff.1 o
 refine ⟨{ dN:=fun d b=>?_,dU:=d2,cU:=d3,fN:=fun f a=>l _ (List.mem_map_of_mem a),fU:=k,iN:=fun p e=>i2 _ (List.mem_map_of_mem e),iU:=q },fun d b x g f a=>?_,m,fun f a=>⟨fun p e=>(j f a).1.1 p e,(j f a).1.2⟩⟩
 ·obtain ⟨r,i,s,t⟩:=d1 d b
  simp only [List.mem_cons,List.not_mem_nil,or_false,not_or] at i
  refine ⟨r,i.1,i.2,s,fun x g=>?_⟩
  obtain ⟨m1,m2,_⟩:=t x g
  simp only [List.mem_cons,List.not_mem_nil,or_false,not_or] at m2
  exact ⟨m1,m2⟩
 ·exact List.all_eq_true.1 ((d1 d b).2.2.2 x g).2.2 f a
theorem declP {c:Core} (h:qX c=true):Decl c:=by
 simp only [qX,baQ,decide_eq_true_eq,List.all_eq_true,pI,nZ] at h
 obtain ⟨⟨⟨⟨⟨h1,m⟩,j⟩,k⟩,i⟩,n⟩:=h
 have b:=(dZ h1).1
 have J:=q1o b
 refine ⟨b,fun d e x l f a=>J f▸j d e x l f a,fun p g=>?_,fun f a=>⟨fun p g=>J p.type▸(i f a).1.1.1 p g,J f.result▸(i f a).1.1.2⟩⟩
 rw [z0d b.dU (fun d e=>(b.dN d e).2.2.1)]
 exact k p g
theorem y5r {T:Table}:∀{os seen:List Bs},wO T seen os=true↔os.Nodup/\(∀o∈os,o∉seen)/\∀o∈os,∃f,zJ T.funs o=some f/\f.params.length=0
 | [],seen=>by simp [wO]
 | o::os,seen=>by
  simp only [wO]
  cases e:zJ T.funs o with
  | none=>exact ⟨fun g=>(by cases g),fun g=>by obtain ⟨f,h1,_⟩:=g.2.2 o msQ;rw [e] at h1;cases h1⟩
  | some f=>
   simp only [baQ,decide_eq_true_eq,y5r (os:=os),Bool.not_eq_true',List.nodup_cons]
   have O:has seen o=false↔o∉seen:=by rw [<- has_mem (l:=seen)];simp
   rw [O]
   constructor
   ·rintro ⟨⟨h1,d⟩,c,b,i⟩
    refine ⟨⟨fun N=>b o N (by simp),c⟩,fun p a=>?_,fun p a=>?_⟩
    ·rcases List.mem_cons.1 a with rfl | a
     ·exact d
     ·exact fun g=>b p a (by simp [g])
    ·rcases List.mem_cons.1 a with rfl | a
     ·exact ⟨f,e,h1⟩
     ·exact i p a
   ·rintro ⟨⟨h1,d⟩,c,b⟩
    obtain ⟨f',h,j⟩:=b o msQ
    rw [e] at h;cases h
    refine ⟨⟨j,c o msQ⟩,d,fun p a N=>?_,fun p a=>b p (mcQ _ a)⟩
    rcases List.mem_append.1 N with g | g
    ·exact c p (mcQ _ a) g
    ·simp only [List.mem_cons,List.not_mem_nil,or_false] at g;subst g;exact h1 a
theorem y7j:∀(ps:List Param),jT (ps.map Param.name) (ps.map Param.type)=ps
 | []=>rfl
 | p::ps=>by
  have:=y7j ps
  simp only [jT] at this ⊢
  simp only [List.map_cons,List.zip_cons_cons];rw [this]
theorem j5r {c:Core} (h:Tabled c) {ps:List Param} (a:∀p∈ps,xA c.datas p.type=true):Rel (sQ ps) ps:=by
 have b:Rel [] []:=⟨fun n=>rfl,fun p a=>by cases a⟩
 have:=b.putAll (vs:=ps.map Param.name) (fs:=ps.map Param.type) (fun f d=>by
  obtain ⟨p,N,rfl⟩:=List.mem_map.1 d
  exact z7v h (a p N))
 rw [y7j,List.nil_append,<- aZ] at this
 exact this
theorem q1e {c:Core} (h:Decl c) {ps:List Param} {e:Ex} (d:∀p∈ps,xA c.datas p.type=true) (a:(ps.map Param.name++zP e).Nodup):Alk (zG (zE c) e (sQ ps)).1 (zS c e ps):=by
 have ha':=zV a
 refine rt_ok (fit_of h) (e.sz+1) e (by omega) _ _ (j5r h.tab d) ha'.2.1 (fun n b=>?_)
 rw [aZ,vE (fun N=>ha'.2.2 n N b)];rfl
theorem j0r {c:Core} (h:Decl c) {o:Bs}:y2e c.funs o=true↔∃f,zJ (zE c).funs o=some f/\f.params.length=0:=by
 rw [(fit_of h).fs]
 unfold y2e
 cases mM c.funs o with
 | none=>simp
 | some i=>
  cases a:c.funs[i]? with
  | none=>simp [a]
  | some f=>simp [a]
theorem x8m (c:Core):kN c=qX c:=by
 have key:Decl c->(kN c=true↔qX c=true):=fun h=>by
  have w:=uU h.tab
  have J:=q1o h.tab
  have B:z3q c.datas=true:=by
   refine (z5e c.datas).2 ⟨fun d k=>?_,h.tab.dU,h.tab.cU⟩
   obtain ⟨C,D,E,F,y⟩:=h.tab.dN d k
   refine ⟨C,by simp [D,E],F,fun x i=>⟨(y x i).1,by simp [(y x i).2],List.all_eq_true.2 (h.fd d k x i)⟩⟩
  simp only [kN,qX,baQ,decide_eq_true_eq,List.all_eq_true,wA,pI,nZ,w,B,true_and,J,nB,z3p,y5r]
  constructor
  ·rintro ⟨⟨⟨⟨⟨⟨⟨j,s⟩,z⟩,b⟩,t⟩,u⟩,l⟩,A⟩
   refine ⟨⟨⟨⟨fun e=>j (by rw [e];rfl),fun d k x i f a=>h.fd d k x i f a⟩,fun p q=>?_⟩,fun f a=>⟨(b f a),?_⟩⟩,(vG u).1,fun o _ N=>(by cases N),fun o r=>(j0r h).1 (A o r)⟩
   ·rw [<- z0d h.tab.dU (fun d k=>(h.tab.dN d k).2.2.1)];exact s p q
   ·have:=(q1e h (b f a).1.1 (vG (b f a).2).1).1 (l f a).1
    rw [this.1];exact (l f a).2
  ·rintro ⟨⟨⟨⟨j,s⟩,z⟩,b⟩,t,u,l⟩
   refine ⟨⟨⟨⟨⟨⟨⟨fun e=>j (List.eq_nil_of_length_eq_zero e),h.it⟩,?_⟩,fun f a=>(b f a).1⟩,?_⟩,?_⟩,fun f a=>?_⟩,fun o r=>(j0r h).2 (l o r)⟩
   ·rw [<- z3p];exact apartR_iff.2 ⟨h.tab.iU,fun n m=>by obtain ⟨p,q,rfl⟩:=List.mem_map.1 m;exact h.tab.iN p q⟩
   ·rw [<- z3p];exact apartR_iff.2 ⟨h.tab.fU,fun n m=>by obtain ⟨p,q,rfl⟩:=List.mem_map.1 m;exact h.tab.fN p q⟩
   ·rw [<- z3p];refine apartR_iff.2 ⟨t,fun n m=>?_⟩
    obtain ⟨f,a,_⟩:=l n m
    rw [(dZ w).2.2.2.1] at a
    obtain ⟨x,i,e,_⟩:=xS a
    rw [<- e];exact h.tab.fN x i
   ·have v:=q1e h (b f a).1.1.1 (vG (b f a).1.2).1
    have hr:=z7v h.tab (h.fp f a).2
    have e:=(b f a).2
    cases g:(zS c f.body f.params).2 with
    | true=>exact ⟨rfl,by rw [<- (v.1 g).1];exact e⟩
    | false=>rw [v.2 g] at e;exact absurd e.symm hr
 cases h1:kN c with
 | true=>exact ((key (declR h1)).1 h1).symm
 | false=>
  cases j:qX c with
  | true=>rw [(key (declP j)).2 j] at h1;cases h1
  | false=>rfl
theorem gJ (c:Core):jP c=yR c:=by unfold jP yR;rw [j0e,x8m]
theorem y2g {c:Core} (h:yR c=0):Decl c:=by
 refine declP ?_
 unfold yR at h
 split at h
 ·cases h
 ·split at h
  ·cases h
  ·split at h
   ·assumption
   ·cases h
mutual
theorem y5d:∀(v:Val) (most:Nat),most<=4000->(vY v most<=most->xL v (most:Int)=(false,(most:Int) - (vY v most:Int)))/\(¬vY v most<=most->(xL v (most:Int)).1=true)
 | .mk con num args,most,N=>by
  simp only [vY,xL]
  rw [show IntKind.i64.wrap ((most:Int) - 1)=(most:Int) - 1 from yD (by omega)]
  by_cases c:most=0
  ·subst c
   rw [z1a (by omega)]
   exact ⟨fun h=>by omega,fun _=>by rw [if_pos (by omega)]⟩
  ·rw [if_neg (by omega)]
   have:=larges_size args most 1 N (by omega)
   exact this
theorem larges_size:∀(vs:List Val) (most n:Nat),most<=4000->n<=most->(vsizeRs vs most n<=most->larges vs ((most:Int) - (n:Int))=(false,(most:Int) - (vsizeRs vs most n:Int)))/\(¬vsizeRs vs most n<=most->(larges vs ((most:Int) - (n:Int))).1=true)
 | [],most,n,N,h=>⟨fun _=>rfl,fun g=>absurd h g⟩
 | e::es,most,n,N,h=>by
  simp only [vsizeRs,larges,if_pos h]
  have h1:=y5d e (most - n) (by omega)
  have hl:=z4g e (most - n)
  rw [show ((most:Int) - (n:Int))=((most - n:Nat):Int) by omega]
  by_cases O:vY e (most - n)<=most - n
  ·rw [h1.1 O]
   have a:=larges_size es most (n+vY e (most - n)) N (by omega)
   rw [show ((most:Int) - ((n+vY e (most - n):Nat):Int))=((most - n:Nat):Int) - (vY e (most - n):Int) by omega] at a
   exact a
  ·rw [z1a (by omega)]
   refine ⟨fun g=>by omega,fun _=>?_⟩
   have:=h1.2 O
   cases N:xL e ((most - n:Nat):Int) with
   | mk b q=>rw [N] at this;simp only at this;subst this;rfl
end
theorem z2h (v:Val):z0g v=vX v:=by
 unfold z0g vX
 have:=y5d v 4000 (by omega)
 by_cases h:vY v 4000<=4000
 ·rw [show ((4000:Int))=((4000:Nat):Int) from rfl,this.1 h];simp;omega
 ·rw [show ((4000:Int))=((4000:Nat):Int) from rfl,this.2 h];simp;omega
theorem y5h {c:Core} (h:Tabled c) {con name:Bs} {x:Con}:zJ (zE c).cons con=some ⟨name,x⟩↔∃d,yK c.datas name=some d/\vL d.cons con=some x:=by
 obtain ⟨_,o,t2,_⟩:=dZ (uU h)
 have k:((truthsD::c.datas).map Data.name).Nodup:=by
  simp only [List.map_cons,List.nodup_cons]
  exact ⟨fun N=>by obtain ⟨d,a,e⟩:=List.mem_map.1 N;exact (h.dN d a).2.2.1 e,h.dU⟩
 have j:(((truthsD::c.datas).map fun d=>d.cons.map Con.name).flatten).Nodup:=by
  obtain ⟨l,_⟩:=uT (show (tU (fsP c).1 [] c.inputs).1=true from uU h)
  obtain ⟨i,_⟩:=uS (show (tT (dsP c).1 [] c.funs).1=true from l)
  obtain ⟨_,_,_,_,_,f⟩:=z3f (show (tS true [] [] (truthsD::c.datas)).1=true from i)
  exact f
 rw [t2,z2p]
 constructor
 ·intro g
  obtain ⟨d,a,e,b⟩:=z2q g
  exact ⟨d,by rw [uE];simp only at e;rw [<- e];exact q0r k a,b⟩
 ·rintro ⟨d,a,b⟩
  rw [uE] at a
  obtain ⟨m,n⟩:=mZ a
  rw [y5i j m b,n]
mutual
theorem y7h {c:Core} (h:Tabled c):∀(v:Val) (t:Bs),mG c.datas v t=mR (zE c) v t
 | .mk con num args,t=>by
  simp only [mG,mR]
  by_cases b:t=yH
  ·rw [if_pos b,if_pos (.inr b)];simp [b]
  ·rw [if_neg b]
   by_cases i:con=sNo
   ·rw [if_pos (.inl i)]
    have e:∀d,yK c.datas t=some d->vL d.cons con=none:=fun d a=>by
     cases f:vL d.cons con with
     | none=>rfl
     | some x=>
      rw [uE] at a
      obtain ⟨k,_⟩:=mZ a
      obtain ⟨l,n⟩:=z3s f
      rcases List.mem_cons.1 k with rfl | k
      ·simp only [truthsD,List.mem_cons,List.not_mem_nil,or_false] at l
       rcases l with rfl | rfl <;> (rw [i] at n;revert n;decide)
      ·have:=((h.dN d k).2.2.2.2 x l).1
       rw [n,i,uG] at this;cases this
    cases a:yK c.datas t with
    | none=>simp [b]
    | some d=>simp [e d a,b]
   ·rw [if_neg (fun g=>g.elim i b)]
    cases N:zJ (zE c).cons con with
    | none=>
     cases a:yK c.datas t with
     | none=>rfl
     | some d=>
      cases f:vL d.cons con with
      | none=>simp [f]
      | some x=>rw [(y5h h).2 ⟨d,a,f⟩] at N;cases N
    | some m=>
     obtain ⟨dn,x⟩:=m
     obtain ⟨d,a,f⟩:=(y5h h).1 N
     by_cases j:dn=t
     ·subst j
      simp only [a,f,values_eq h args x.fields]
      by_cases o:num=0
      ·simp [o,eq_comm]
      ·simp [o]
     ·simp only [j,decide_false,Bool.false_and]
      cases hd':yK c.datas t with
      | none=>rfl
      | some d'=>
       cases hx':vL d'.cons con with
       | none=>simp [hx']
       | some x'=>
        rw [(y5h h).2 ⟨d',hd',hx'⟩] at N
        cases N;exact absurd rfl j
theorem values_eq {c:Core} (h:Tabled c):∀(vs:List Val) (ts:List Bs),isValsR c.datas vs ts=hasL (zE c) vs ts
 | [],_=>rfl
 | v::vs,ts=>by simp only [isValsR,hasL,y7h h v,values_eq h vs]
end
theorem y4m {c:Core} (h:Tabled c):∀(l:List Named) (ps:List Param),l.length=ps.length->aK c.datas l ps=kL (zE c) l ps
 | [],[],_=>rfl
 | x::l,p::ps,hl=>by simp only [aK,kL,z2h,y7h h,y4m h l ps (by simpa using hl)]
 | [],_::_,hl=>by simp at hl
 | _::_,[],hl=>by simp at hl
theorem q1j {T:Table}:∀{l:List Named} {ps:List Param},kL T l ps=true->l.length=ps.length
 | [],[],_=>rfl
 | _::l,_::ps,h=>by simp only [kL,baQ] at h;simp [q1j h.2]
 | [],_::_,h=>by cases h
 | _::_,[],h=>by cases h
structure WorldD where
 core:Core
 inp:List Named
def RWorld (V:Fz) (cs:List Value) (x:WorldD):Prop:=∃s t u v z,cs=[s,t,u,v,z]/\RCore V [s,t,u,v] x.core/\SliceOf RNamed V 4 z x.inp
theorem RWorld.mono (V Ψ:Fz) (c:List Value) (x:WorldD) (hl:V.Le Ψ) (h:RWorld V c x):RWorld Ψ c x:=let ⟨s,t,u,v,z,h1,a,b⟩:=h;⟨s,t,u,v,z,h1,RCore.mono _ _ _ _ hl a,b.mono RNamed.mono hl⟩
theorem RWorld.up {V Ψ:Fz} {c:List Value} {x:WorldD} (h:RWorld V c x) (l:V.Le Ψ):RWorld Ψ c x:=RWorld.mono _ _ _ _ l h
theorem RWorld.fm {V:Fz} {cs:List Value} {c:Core} {l:List Named} (h:RWorld V cs ⟨c,l⟩):∃e d f c2 a c3 g c4 b c5,cs=[.slice e c.datas.length d,.slice f c.inputs.length c2,.slice a c.funs.length c3,.slice g c.outputs.length c4,.slice b l.length c5] /\
  RCore V [.slice e c.datas.length d,.slice f c.inputs.length c2,.slice a c.funs.length c3,.slice g c.outputs.length c4] c/\SliceOf RFun V 8 (.slice a c.funs.length c3) c.funs/\SliceOf RNamed V 4 (.slice b l.length c5) l /\
  c.funs.length<=9223372036854775807/\(c.funs≠[]->∃q,a=some q)/\l.length<=9223372036854775807/\(l≠[]->∃q,b=some q):=by
 obtain ⟨s,t,u,v,z,rfl,h,j⟩:=h
 obtain ⟨b,c5,rfl,n,p⟩:=j.form (by decide)
 obtain ⟨s',t',u',v',J,h1,k,i,m⟩:=id h
 cases J
 obtain ⟨e,d,rfl,m1,r⟩:=h1.form (by decide)
 obtain ⟨f,c2,rfl,m2,w⟩:=k.form (by decide)
 obtain ⟨a,c3,rfl,m3,o⟩:=i.form (by decide)
 obtain ⟨g,c4,rfl,m4,y⟩:=m.form (by decide)
 exact ⟨e,d,f,c2,a,c3,g,c4,b,c5,rfl,h,i,j,m3,o,n,p⟩
def vM (l:List Named):Env:=(l.map fun x=>(x.name,x.value)).reverse
theorem dO (l:List Named) (x:Named):vM (l++[x])=(x.name,x.value)::vM l:=by simp [vM]
def z4n (l:List Named) (s:Bs):Val:=(zJ (vM l) s).getD v0
theorem y4e (l:List Named) (x:Named) (s:Bs):z4n (l++[x]) s=if s=x.name then x.value else z4n l s:=by
 unfold z4n;rw [dO,zJ];split <;> rfl
def mY (c:Core) (l:List Named):Ctx:=⟨xK Fun.name id c.funs,vM l⟩
def y9u (c:Core):Prop:=∀f∈c.funs,f.params.length<=1000/\pU f.body
abbrev badDone:Value:=.agg #[.string ⟨#[]⟩,.int .i64 ((0:Nat):Int),.slice none 0 0,.int .i64 (-1)]
abbrev RunsR (V:Fz) (K:List Res) (r:Ev Val) (ee:Ending) (w':World):Prop:=Out (evX r)
 (fun x=>∃y:Fz×Value,ee=.returned (.agg #[.string x.1.con,.int .i64 x.1.num,y.2,.int .i64 ((x.2:Nat):Int)])/\(V.Le y.1/\RVal y.1 [.string x.1.con,.int .i64 x.1.num,y.2] x.1)/\Mem y.1 K w')
 (fun _=>ee=.returned badDone/\Mem V K w')
def y9t (P:Program) (c:Core) (l:List Named) (g:Nat):Prop :=
 ∀{V:Fz} {K:List Res} {w:World} {d de:List Value} {a:Value} {vars:List Named} {e:Ex} {fu:Int},RWorld V d ⟨c,l⟩->SliceOf RNamed V 4 a vars->REx V de e->pU e->fu.toNat=g->-1<=fu->fu<=200000->vars.length+6000 * g<=2000000000->yM (mY c l) g e (vM vars)≠.stuck->Mem V K w ->
  Calls P 112 #[.agg d.toArray,a,.agg de.toArray,.int .i64 fu] w (RunsR V K (yM (mY c l) g e (vM vars)))
def ApplyR (P:Program) (c:Core) (l:List Named) (g:Nat):Prop :=
 ∀{V:Fz} {K:List Res} {w:World} {d:List Value} {v2:Value} {args:List Val} {f:Fun} {j:Nat} {fu:Int},RWorld V d ⟨c,l⟩->c.funs[j]? = some f->SliceOf RVal V 3 v2 args->fu.toNat=g->-1<=fu->fu<=200000->xC (yM (mY c l)) f args g≠.stuck->Mem V K w ->
  Calls P 54 #[.agg d.toArray,.int .i64 ((j:Nat):Int),v2,.int .i64 fu] w (RunsR V K (xC (yM (mY c l)) f args g))
section
variable {ev:Nat->Ex->Env->Ev Val} {C:Ctx} {g:Nat} {e:Ex} {env:Env}
theorem x3e (h1:¬e.kind=1) (j:¬e.kind=2) (k:¬e.kind=3) (l:¬e.kind=6) (m:¬e.kind=7) (a:xE ev C g e env≠.stuck):jZ ev env e.args g≠.stuck/\(jZ ev env e.args g=.spent->xE ev C g e env=.spent):=by
 by_cases c:e.kind=4
 ·rw [z3d c] at a ⊢;exact ⟨qJ a,fun h=>xR h⟩
 by_cases b:e.kind=5
 ·cases i:zJ C.funs e.name with
  | none=>exact absurd (z5s b i) a
  | some f=>rw [cA b i] at a ⊢;exact ⟨qJ a,fun h=>xR h⟩
 by_cases d:e.kind=8
 ·rw [z4f d] at a ⊢;exact ⟨qJ a,fun h=>xR h⟩
 exact absurd (z9q h1 j k c b l m d) a
theorem x9i (h1:¬e.kind=1) (c:¬e.kind=2) (d:¬e.kind=3) (i:¬e.kind=6) (j:¬e.kind=7) (h:¬e.kind=4) (k:¬e.kind=8) (a:xE ev C g e env≠.stuck):e.kind=5/\∃f,zJ C.funs e.name=some f:=by
 by_cases b:e.kind=5
 ·refine ⟨b,?_⟩
  cases l:zJ C.funs e.name with
  | none=>exact absurd (z5s b l) a
  | some f=>exact ⟨f,rfl⟩
 exact absurd (z9q h1 c d h b i j k) a
end
theorem aB {V:Fz} {z:Val} {s:Value} (h:RVal V [.string z.con,.int .i64 z.num,s] z):∃p c,s=.slice p z.args.length c/\I64 z.num/\SliceOf RVal V 3 (.slice p z.args.length c) z.args/\z.args.length<=9223372036854775807/\(z.args≠[]->∃q,p=some q):=by
 obtain ⟨s',J,a,h1⟩:=RVal.iff.1 h
 cases J
 obtain ⟨p,c,rfl,b,d⟩:=h1.form (by decide)
 exact ⟨p,c,rfl,a,h1,b,d⟩
theorem j5a {f:Fun} {i:Nat} {p:Param} (h:f.params[i]? = some p):(f.params.map Param.name).drop i=p.name::(f.params.map Param.name).drop (i+1):=zA (by rw [List.getElem?_map,h];rfl)
theorem y4j {l:List Fun} {n:Bs} {f:Fun} (h:zJ (xK Fun.name id l) n=some f):∃j,mM l n=some j/\l[j]? = some f:=by
 rw [<- z9b] at h
 cases a:mM l n with
 | none=>rw [a] at h;cases h
 | some j=>rw [a] at h;exact ⟨j,rfl,h⟩
theorem x4j {op:Bs} (h:opT op≠sNo):op=⟨#[43]⟩∨op=⟨#[45]⟩∨op=⟨#[42]⟩∨op=⟨#[47]⟩∨op=⟨#[37]⟩∨op=⟨#[60]⟩∨op=⟨#[61]⟩:=by
 unfold opT at h
 split at h
 ·rename_i g;rcases g with g | g | g | g | g <;> simp [g]
 ·split at h
  ·rename_i g;rcases g with g | g <;> simp [g]
  ·exact absurd rfl h
def uQ (c:Core) (l:List Named) (fuel:Int):Outcome×Int :=
 if jP c≠0 then (tP,jP c)
 else if (decide (0<=fuel)&&decide (fuel<=200000))=false then (tP,1)
 else if qV c l≠0 then (tP,qV c l)
 else match y1z (jI (mY c l) c.outputs fuel.toNat) with
  | .ok (vs,g)=>(⟨jN c.outputs vs,((fuel.toNat - g:Nat):Int)⟩,0)
  | .error e=>(tP,((e:Nat):Int))
theorem j8i:∀(l:List Named) (s:List (Bs×Val)) (n:Bs),zJ (l.foldl (fun m x=>pD m x.name x.value) s) n=match zJ (vM l) n with | some v=>some v | none=>zJ s n
 | [],s,n=>rfl
 | x::l,s,n=>by
  rw [List.foldl_cons,j8i l]
  have e:vM (x::l)=vM l++[(x.name,x.value)]:=by simp [vM]
  rw [e,z2l,kG]
  cases zJ (vM l) n with
  | some v=>rfl
  | none=>simp only [zJ];split <;> rfl
theorem q8t {c:Core} {l:List Named} (h:yR c=0) (n:Bs):zJ (mY c l).funs n=zJ (zE c).funs n:=by
 have hr:=(vD h).2
 have a:wI c=true:=by simp only [qX,baQ] at hr;exact hr.1.1.1.1.1
 rw [(dZ a).2.2.2.1];rfl
theorem ctx_inp (c:Core) (l:List Named) (n:Bs):zJ (mY c l).inp n=zJ (y2b l) n:=by
 unfold y2b;rw [j8i];show zJ (vM l) n=_
 cases zJ (vM l) n <;> rfl
theorem q8u {c:Core} (h:yR c=0) (l:List Named) (os:List Bs) (g:Nat):jI (mY c l) os g=jI ⟨(zE c).funs,y2b l⟩ os g :=
 y1e (C:=⟨(zE c).funs,y2b l⟩) (D:=mY c l) (q8t h) (ctx_inp c l) os g
theorem q9k {c:Core} (h:yR c=0):y9u c:=fun f a=>by
 obtain ⟨hl,_⟩:=vD h
 exact ⟨by have:=(z2m hl a).1;omega,nF hl a⟩
theorem x2j {α:Type} {C:Ctx} {o:Bs} {os:List Bs} {g:Nat} {k:List Val->Nat->Ev α} (h:(jI C (o::os) g).bind k≠.stuck):∃f,zJ C.funs o=some f/\xC (yM C) f [] g≠.stuck:=by
 cases a:zJ C.funs o with
 | none=>rw [z5n a] at h;exact absurd rfl h
 | some f=>rw [aV a] at h;exact ⟨f,rfl,qJ (qJ h)⟩
theorem j4u {os:List Bs} {xs:List Val} {o:Bs} {z:Val} (h:os[xs.length]? = some o):jN os (xs++[z])=jN os xs++[⟨o,z⟩]:=by
 unfold jN
 induction xs generalizing os with
 | nil=>cases os with
  | nil=>simp at h
  | cons a os=>simp only [lnQ,List.getElem?_cons_zero,Option.some.injEq] at h;subst h;simp
 | cons x xs b=>cases os with
  | nil=>simp at h
  | cons a os=>simp only [lcQ,List.getElem?_cons_succ] at h;simp only [List.cons_append,List.zipWith_cons_cons,b h]
theorem y1b {os:List Bs} {xs:List Val} (h:xs.length<=os.length):(jN os xs).any (fun n=>z0g n.value)=xs.any vX:=by
 unfold jN
 induction xs generalizing os with
 | nil=>cases os <;> rfl
 | cons x xs b=>cases os with
  | nil=>simp at h
  | cons a os=>simp only [List.zipWith_cons_cons,List.any_cons];rw [b (by simpa using h),z2h]
theorem run_eq (c:Core) (l:List Named) (fuel:Int):uQ c l fuel=sV c l fuel:=by
 unfold uQ sV
 rw [gJ]
 by_cases h:yR c=0
 ·have b:=(y2g h).tab
  have e:qV c l=if kL (zE c) l c.inputs=false then 8 else 0:=by
   unfold qV
   rw [gJ,if_neg (not_not_intro h)]
   by_cases hl:l.length=c.inputs.length
   ·rw [if_neg (not_not_intro hl),y4m b l _ hl]
    cases kL (zE c) l c.inputs <;> rfl
   ·rw [if_pos hl]
    cases g:kL (zE c) l c.inputs with
    | true=>exact absurd (q1j g) hl
    | false=>rfl
  rw [if_neg (not_not_intro h),if_neg (not_not_intro h),e,q8u h]
  by_cases a:fuel < 0∨200000 < fuel
  ·rw [if_pos a,if_pos (by rcases a with a | a <;> simp <;> omega)]
  ·rw [if_neg a,if_neg (by simp;omega)]
   cases kL (zE c) l c.inputs <;> rfl
 ·rw [if_pos h,if_pos h]
theorem runR_ns {c:Core} {l:List Named} (h:jP c=0) (a:qV c l=0) (g:Nat):jI (mY c l) c.outputs g≠.stuck:=by
 rw [gJ] at h
 have b:=(y2g h).tab
 rw [q8u h]
 refine run_ns h ?_ g
 unfold qV at a
 rw [gJ,if_neg (not_not_intro h)] at a
 by_cases hl:l.length=c.inputs.length
 ·rw [if_neg (not_not_intro hl),y4m b l _ hl] at a
  cases d:kL (zE c) l c.inputs with
  | true=>rfl
  | false=>rw [d] at a;cases a
 ·rw [if_pos hl] at a;cases a
section
variable {V:Fz} {K:List Res} {w:World}
theorem y9n {l:List Bs} {v:Value} {d1:List Value} {e:Ex} (l1:REx V d1 e) (hb:l.length+(zP e).length<=8796093000000) (ih:∀x:Ex,x.sz < e.sz->∀{V:Fz} {K:List Res} {w:World} {d:List Value} {v:Value} {l:List Bs},l.length+(zP x).length<=8796093000000->REx V d x->Mem V (.gs v 9 1 (strs l)::K) w->Calls prog 147 #[v,.agg d.toArray] w (fun ee w'=>∃v,ee=.returned v/\Mem V (.gs v 9 1 (strs (l++zP x))::K) w')) (N:Mem V (.gs v 9 1 (strs l)::K) w) :
  Calls prog 147 #[v,.agg d1.toArray] w (fun ee w'=>∃v,ee=.returned v/\Mem V (.gs v 9 1 (strs (l++zP e))::K) w'):=by
 obtain ⟨X,c4,p9,t,rfl,N1,h2,h8,G2,j0,T1,G⟩:=REx.fm l1
 refine zK func147 ntmps147 fun Q hQ a J=>?_
 refine Bx fun f w N a J=>?_
 by_cases B2:e.kind=6
 refine qF fun W w N a J=>?_
 refine qQ 2 wT (fun v20 w N a J=>?_) (hb:=by simp [yG];omega)
 first | rw [jS] at N | rw [<- yW] at N
 refine go fun a J=>?_
 refine mO (fun mm a w=>∃(i:Nat) (u:Value) (m:List Bs),mm=e.args.length - i/\EnvR 53 [(0,u),(3,.pointer (some ⟨f,0,none⟩)),(5,.int .i64 ((i:Nat):Int))] [] a/\Mem V (.gs (W) 9 1 [.string e.name]::.blk f (ob [.int .i64 (e.kind),.int .i64 (e.num),.string e.name,.slice X e.args.length c4,.slice p9 e.arms.length t] 66)::.gs (u) 9 1 (strs m)::K) w/\(l++zP e=m++bindPs (e.args.drop i)++bindPa e.arms)) (e.args.length - 0) ⟨0,v20,(l++[e.name]),rfl,J.pk,N,by rw [wX];simp [*]⟩ ?_
 clear N J
 rintro mm a w ⟨i,u,m,q,J,N,z⟩ r2 g0
 by_cases e0:i < e.args.length
 refine go fun a J=>?_
 obtain ⟨N2,rfl,o1,s,z1,Q1,L1,H⟩:=h2.el j0 e0
 obtain ⟨H2,v2,I2,w2,rfl,O1,C2,D2,U1,a2,V1,b2⟩:=REx.fm H
 refine go fun a J=>?_
 replace N:=N.pl 2
 refine st J rfl rfl rfl (pA J rfl call147 (ih _ (by first | exact Ex.lt_args (mgQ s) | exact Ex.lt_arms (mgQ s)) (l:=m) (by have hq:=congrArg List.length z;rw [zA s] at hq;simp only [bindPs,qK,laQ] at hq hb ⊢;omega) H N) fun m1 w N a J=>?_)
 replace N:=N.nf
 refine go fun a J=>?_
 replace N:=N.ar [] [2,2]
 refine g0 _ _ _ (by subst q;omega) ⟨(i+1),(m1),((m++zP o1)),rfl,J.pk,N,?_⟩
 rw [z,zA s];simp [bindPs]
 refine go fun a J=>?_
 refine mO (fun mm a w=>∃(j:Nat) (U:Value) (m2:List Bs),mm=e.arms.length - j/\EnvR 53 [(0,U),(3,.pointer (some ⟨f,0,none⟩)),(6,.int .i64 ((j:Nat):Int))] [] a/\Mem V (.gs (W) 9 1 [.string e.name]::.blk f (ob [.int .i64 (e.kind),.int .i64 (e.num),.string e.name,.slice X e.args.length c4,.slice p9 e.arms.length t] 66)::.gs (U) 9 1 (strs m2)::K) w/\(l++zP e=m2++bindPa (e.arms.drop j))) (e.arms.length - 0) ⟨0,u,m,rfl,J.pk,N,by rw [z,zB e0];simp [bindPs]⟩ ?_
 clear N J
 rintro mm a w ⟨j,U,m2,q,J,N,r⟩ s2 h0
 by_cases L:j < e.arms.length
 refine go fun a J=>?_
 obtain ⟨k1,rfl,p1,I,A1,R1,M1,k0⟩:=h8.el G L
 obtain ⟨O2,t2,rfl,f0,D0⟩:=RArm.iff.1 k0
 obtain ⟨J2,x2,rfl,W1,c2⟩:=f0.fm
 obtain ⟨K2,y2,L2,z2,rfl,P1,E2,F2,X1,d2,Y1,e2⟩:=REx.fm D0
 refine qQ 2 wT (fun n1 w N a J=>?_) (hr:=(SliceOf.strs.1 f0).rowIn N.toSees) (h1:=aN _) (hb:=by have hq:=congrArg List.length r;rw [zA I,qK] at hq;simp only [laQ,yG] at hq hb ⊢;omega)
 first | rw [jS] at N | rw [<- yW] at N
 refine go fun a J=>?_
 obtain ⟨g,h⟩:=qR L
 obtain ⟨B1,S1,i0,l0⟩:=h8.elem h
 obtain ⟨P2,s1,rfl,E0,C⟩:=RArm.iff.1 l0
 obtain ⟨M2,A2,rfl,Z1,f2⟩:=E0.fm
 obtain ⟨m0,Y,n0,Z,rfl,H0,C1,D1,O0,Y0,P0,Z0⟩:=REx.fm C
 refine Qq (fun a J=>?_) (o:=by exact fun J O=>jF 2 (vs:=[.int .i64 (g.body.kind),.int .i64 (g.body.num),.string g.body.name,.slice m0 g.body.args.length Y,.slice n0 g.body.arms.length Z]) J O rfl i0 isAgg66 sizeOf66 rfl rfl)
 replace N:Mem V (.gs (W) 9 1 [.string e.name]::.blk f (ob [.int .i64 (e.kind),.int .i64 (e.num),.string e.name,.slice X e.args.length c4,.slice (some k1) e.arms.length t] 66)::.gs (n1) 9 1 (strs (m2++g.vars))::K) w:=by rw [show g=p1 from Option.some.inj (h.symm.trans I)];exact N
 replace N:=N.pl 2
 refine st J rfl rfl rfl (pA J rfl call147 (ih _ (by first | exact Ex.lt_args (mgQ h) | exact Ex.lt_arms (mgQ h)) (l:=m2++g.vars) (by have hq:=congrArg List.length r;rw [zA h] at hq;simp only [bindPs,qK,laQ] at hq hb ⊢;omega) C N) fun r0 w N a J=>?_)
 replace N:=N.nf
 refine go fun a J=>?_
 replace N:=N.ar [] [2,2]
 refine h0 _ _ _ (by subst q;omega) ⟨(j+1),(r0),((m2++g.vars++zP g.body)),rfl,J.pk,N,?_⟩
 rw [r,zA h,qK];simp
 refine zF ?_
 replace N:=N.dl [1,0]
 refine ⟨_,rfl,?_⟩
 rw [show (strs (l++zP e))=(strs m2) by rw [r,zB L];simp [bindPa]];exact N
 refine go fun a J=>?_
 refine mO (fun mm a w=>∃(i:Nat) (u:Value) (m:List Bs),mm=e.args.length - i/\EnvR 53 [(0,u),(3,.pointer (some ⟨f,0,none⟩)),(5,.int .i64 ((i:Nat):Int))] [] a/\Mem V (.blk f (ob [.int .i64 (e.kind),.int .i64 (e.num),.string e.name,.slice X e.args.length c4,.slice p9 e.arms.length t] 66)::.gs (u) 9 1 (strs m)::K) w/\(l++zP e=m++bindPs (e.args.drop i)++bindPa e.arms)) (e.args.length - 0) ⟨0,v,l,rfl,J.pk,N,by rw [wX];simp [*]⟩ ?_
 clear N J
 rintro mm a w ⟨i,u,m,q,J,N,p⟩ q1 M
 by_cases D:i < e.args.length
 refine go fun a J=>?_
 obtain ⟨o2,rfl,u0,n,A0,L0,F0,A⟩:=h2.el j0 D
 obtain ⟨g2,c135,i2,v1,rfl,I0,E1,F1,Q0,a1,R0,b1⟩:=REx.fm A
 refine go fun a J=>?_
 replace N:=N.pl 1
 refine st J rfl rfl rfl (pA J rfl call147 (ih _ (by first | exact Ex.lt_args (mgQ n) | exact Ex.lt_arms (mgQ n)) (l:=m) (by have hq:=congrArg List.length p;rw [zA n] at hq;simp only [bindPs,qK,laQ] at hq hb ⊢;omega) A N) fun v145 w N a J=>?_)
 replace N:=N.nf
 refine go fun a J=>?_
 replace N:=N.pl 1
 refine M _ _ _ (by subst q;omega) ⟨(i+1),(v145),((m++zP u0)),rfl,J.pk,N,?_⟩
 rw [p,zA n];simp [bindPs]
 refine go fun a J=>?_
 refine mO (fun mm a w=>∃(j:Nat) (U:Value) (m2:List Bs),mm=e.arms.length - j/\EnvR 53 [(0,U),(3,.pointer (some ⟨f,0,none⟩)),(6,.int .i64 ((j:Nat):Int))] [] a/\Mem V (.blk f (ob [.int .i64 (e.kind),.int .i64 (e.num),.string e.name,.slice X e.args.length c4,.slice p9 e.arms.length t] 66)::.gs (U) 9 1 (strs m2)::K) w/\(l++zP e=m2++bindPa (e.arms.drop j))) (e.arms.length - 0) ⟨0,u,m,rfl,J.pk,N,by rw [p,zB D];simp [bindPs]⟩ ?_
 clear N J
 rintro mm a w ⟨j,U,m2,q,J,N,k⟩ r1 P
 by_cases y:j < e.arms.length
 refine go fun a J=>?_
 obtain ⟨q0,rfl,w0,B,B0,M0,G0,S⟩:=h8.el G y
 obtain ⟨p2,t1,rfl,E,c0⟩:=RArm.iff.1 S
 obtain ⟨j2,w1,rfl,S0,c1⟩:=E.fm
 obtain ⟨k2,c173,l2,x1,rfl,J0,G1,H1,T0,e1,U0,f1⟩:=REx.fm c0
 refine qQ 1 wT (fun s0 w N a J=>?_) (hr:=(SliceOf.strs.1 E).rowIn N.toSees) (h1:=aN _) (hb:=by have hq:=congrArg List.length k;rw [zA B,qK] at hq;simp only [laQ,yG] at hq hb ⊢;omega)
 first | rw [jS] at N | rw [<- yW] at N
 refine go fun a J=>?_
 obtain ⟨b,c⟩:=qR y
 obtain ⟨C0,N0,R,T⟩:=h8.elem c
 obtain ⟨q2,u1,rfl,d0,F⟩:=RArm.iff.1 T
 obtain ⟨n2,y1,rfl,V0,g1⟩:=d0.fm
 obtain ⟨o0,a0,p0,b0,rfl,K0,I1,K1,W0,i1,X0,j1⟩:=REx.fm F
 refine Qq (fun a J=>?_) (o:=by exact fun J O=>jF 2 (vs:=[.int .i64 (b.body.kind),.int .i64 (b.body.num),.string b.body.name,.slice o0 b.body.args.length a0,.slice p0 b.body.arms.length b0]) J O rfl R isAgg66 sizeOf66 rfl rfl)
 replace N:Mem V (.blk f (ob [.int .i64 (e.kind),.int .i64 (e.num),.string e.name,.slice X e.args.length c4,.slice (some q0) e.arms.length t] 66)::.gs (s0) 9 1 (strs (m2++b.vars))::K) w:=by rw [show b=w0 from Option.some.inj (c.symm.trans B)];exact N
 replace N:=N.pl 1
 refine st J rfl rfl rfl (pA J rfl call147 (ih _ (by first | exact Ex.lt_args (mgQ c) | exact Ex.lt_arms (mgQ c)) (l:=m2++b.vars) (by have hq:=congrArg List.length k;rw [zA c] at hq;simp only [bindPs,qK,laQ] at hq hb ⊢;omega) F N) fun t0 w N a J=>?_)
 replace N:=N.nf
 refine go fun a J=>?_
 replace N:=N.pl 1
 refine P _ _ _ (by subst q;omega) ⟨(j+1),(t0),((m2++b.vars++zP b.body)),rfl,J.pk,N,?_⟩
 rw [k,zA c,qK];simp
 refine zF ?_
 replace N:=N.dl [0]
 refine ⟨_,rfl,?_⟩
 rw [show (strs (l++zP e))=(strs m2) by rw [k,zB y];simp [bindPa]];exact N
theorem j1c {d:List Value} {e:Ex} {v:Value} {l:List Bs} (hb:l.length+(zP e).length<=8796093000000) (re:REx V d e) (N:Mem V (.gs v 9 1 (strs l)::K) w) :
  Calls prog 147 #[v,.agg d.toArray] w (fun ee w'=>∃v,ee=.returned v/\Mem V (.gs v 9 1 (strs (l++zP e))::K) w'):=by
 suffices H:∀n (e:Ex),e.sz < n->∀{V:Fz} {K:List Res} {w:World} {d:List Value} {v:Value} {l:List Bs},l.length+(zP e).length<=8796093000000->REx V d e->Mem V (.gs v 9 1 (strs l)::K) w->Calls prog 147 #[v,.agg d.toArray] w (fun ee w'=>∃v,ee=.returned v/\Mem V (.gs v 9 1 (strs (l++zP e))::K) w') from H _ e (Nat.lt_succ_self _) hb re N
 intro n
 induction n with
 | zero=>intro e h;omega
 | succ n b=>intro e h V K w d v l hb re N;exact y9n re hb (fun x c _ _ _ _ _ _ a r m=>b x (by omega) a r m) N
theorem y2j {v0:Value} {l:List Bs} {s:Bs} (f:SliceOf RStr V 1 v0 l) (N:Mem V K w) :
  Calls prog 87 #[v0,.string s] w (fun ee w'=>ee=.returned (.bool (sH l s))/\Mem V K w'):=by
 obtain ⟨u,c0,rfl,q,k⟩:=f.fm
 refine zK func87 ntmps87 fun Q hQ a J=>?_
 refine go fun a J=>?_
 refine zU (J.ks [0,1]) N (fun R mm a w=>∃(i:Nat),mm=l.length - i/\R V [(5,.int .i64 ((i:Nat):Int))] [] a w/\(sH l s=sH (l.drop i) s)) (l.length - 0) ⟨0,rfl,⟨J.pk,N⟩,rfl⟩ ?_
 clear N J
 rintro mm a w ⟨i,j,⟨J,N⟩,c⟩ t h
 by_cases m:i < l.length
 refine go fun a J=>?_
 obtain ⟨r,rfl,g,b,d,o,n,e⟩:=f.el k m
 obtain rfl:d=[.string g]:=e
 by_cases p:g=s
 refine zF ?_
 exact zM N (by rw [c,zA b,z9e];simp [*])
 refine go fun a J=>?_
 refine h _ _ _ (by subst j;omega) ⟨(i+1),rfl,⟨J.pk,N⟩,?_⟩
 rw [c,zA b,z9e];simp [*]
 refine zF ?_
 exact zM N (by rw [c,zB m];rfl)
end
theorem x4p {V:Fz} {K:List Res} {w:World} {d0:List Value} {f:Fun} (n:RFun V d0 f) (hb:f.params.length+(zP f.body).length<=8796093000000) (N:Mem V K w) :
  Calls Tryz.prog 88 #[.agg d0.toArray] w (fun ee w'=>∃v,ee=.returned v/\Mem V (.gs v 9 1 (strs (f.params.map Param.name++zP f.body))::K) w'):=by
 obtain ⟨s1,X,rfl,r,s⟩:=id n
 obtain ⟨Y,c4,rfl,M,k⟩:=r.fm
 obtain ⟨P,G,S,H,rfl,y,I,L,A,C,B,D⟩:=REx.fm s
 refine zK Tryz.func88 Tryz.ntmps88 fun Q hQ a J=>?_
 refine Bx fun F w N a J=>?_
 refine go fun a J=>?_
 replace N:=N.nilRow 9 1
 replace N:=N.nf
 refine go fun a J=>?_
 refine zU (J.ks [1]) N (fun R mm a w=>∃(i:Nat) (u:Value) (nl:List Bs),mm=f.params.length - i/\R V [(3,u),(4,.int .i64 ((i:Nat):Int))] [(0,.gs (u) 9 1 (strs nl))] a w/\(f.params.map Param.name=nl++(f.params.drop i).map Param.name)) (f.params.length - 0) ⟨0,.slice none 0 0,[],rfl,⟨J.pk,N⟩,rfl⟩ ?_
 clear N J
 rintro mm a w ⟨i,u,nl,j,⟨J,N⟩,b⟩ E e
 replace N:=N.nf
 by_cases d:i < f.params.length
 refine go fun a J=>?_
 obtain ⟨T,rfl,p,h,q,z,t,g⟩:=r.el k d
 obtain rfl:=id g
 refine qF fun U w N a J=>?_
 refine qQ 1 wT (fun o w N a J=>?_) (hb:=by have m:=congrArg List.length (b);simp only [List.length_map,laQ,yG,lcQ,lnQ] at m ⊢;omega)
 first | rw [jS] at N | rw [<- yW] at N
 refine go fun a J=>?_
 replace N:=N.dl [0]
 refine e _ _ _ (by subst j;omega) ⟨(i+1),(o),(nl++[p.name]),rfl,⟨J.pk,N⟩,?_⟩
 rw [b,zA h];simp
 refine go fun a J=>?_
 have c:=b
 rw [zB d] at c
 simp only [List.map_nil,List.append_nil] at c
 rw [<- c] at N
 refine go fun a J=>?_
 refine st J rfl rfl rfl (pA J rfl Tryz.call147 (j1c (l:=(f.params.map Param.name)) (by simp only [List.length_map];omega) s N) fun W w N a J=>?_)
 replace N:=N.nf
 refine zF ?_
 replace N:=N.dl [1]
 refine ⟨_,rfl,?_⟩
 rw [show (strs (f.params.map Param.name++zP f.body))=(strs ((f.params.map Param.name)++zP f.body)) by rfl];exact N
end Go.Sw
