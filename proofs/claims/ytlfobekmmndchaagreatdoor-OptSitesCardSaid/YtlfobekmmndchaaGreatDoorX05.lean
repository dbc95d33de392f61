import Derived.Laws.IdiomRangeMap
import Derived.Test.YtlfobekmmndchaaGreatDoorX04
set_option linter.unusedVariables false
set_option linter.unusedSimpArgs false
namespace Go.Sw
open Go.Proofs Go.Proofs.Tryz
set_option maxRecDepth 20000
set_option maxHeartbeats 4000000
structure ArI (e:TE):Prop where
 two:e.kind=1->e.args.length=2
 one:e.kind=5∨e.kind=7∨e.kind=8∨e.kind=9->e.args.length=1
 rest:1<=e.kind->e.kind<=6->e.body.length=1
 last:7<=e.kind->e.body=[]
 arms:e.kind≠7->e.arms=[]
 lo:1<=e.kind
 hi:e.kind<=10
mutual
def arT:TE->Prop
 | .mk k nm op num site args arms body=>ArI (.mk k nm op num site args arms body)/\arTa arms/\arTs body
def arTs:List TE->Prop
 | []=>True
 | x::xs=>arT x/\arTs xs
def arTa:List TA->Prop
 | []=>True
 | .mk _ _ b::xs=>arT b/\arTa xs
end
theorem arT_eq (e:TE):arT e↔ArI e/\arTa e.arms/\arTs e.body:=by cases e;exact Iff.rfl
theorem arTs_iff:∀{l:List TE},arTs l↔∀x∈l,arT x
 | []=>by simp [arTs]
 | x::l=>by rw [arTs,arTs_iff (l:=l)];simp
theorem arTa_iff:∀{l:List TA},arTa l↔∀x∈l,arT x.body
 | []=>by simp [arTa]
 | .mk c vs b::l=>by rw [arTa,arTa_iff (l:=l)];simp [TA.body]
mutual
theorem uW:∀e:TE,arT e->okT e
 | .mk k nm op num site args arms body,h=>by
  obtain ⟨a,c,d⟩:=h
  exact ⟨fun q=>a.last (by show 7<=k;omega),a.arms,arTa_ok arms c,arTs_ok body d⟩
theorem arTs_ok:∀l:List TE,arTs l->okTs l
 | [],_=>trivial
 | x::l,h=>⟨uW x h.1,arTs_ok l h.2⟩
theorem arTa_ok:∀l:List TA,arTa l->okTa l
 | [],_=>trivial
 | .mk _ _ b::l,h=>⟨uW b h.1,arTa_ok l h.2⟩
end
theorem wC {e:TE} {a b c d f g r:Bool} (h:zB e a b c d f g r=true):(r=true->e.body.length=1)/\(r=false->e.body=[])/\(g=false->e.arms=[]):=by
 simp only [zB,baQ,decide_eq_true_eq,Bool.or_eq_true] at h
 obtain ⟨⟨⟨_,i⟩,j⟩,k⟩:=h
 refine ⟨fun q=>?_,fun q=>?_,fun q=>?_⟩
 ·rw [q] at j;exact of_decide_eq_true j.symm
 ·rw [q] at j
  have l:¬e.body.length=1:=of_decide_eq_false j.symm
  exact List.eq_nil_of_length_eq_zero (by omega)
 ·rcases i with i | i
  ·rw [q] at i;cases i
  ·exact List.eq_nil_of_length_eq_zero i
theorem xF {s:BS}:∀{l:List Atom} {m:List Bool},s.atomL l m=true->l.length=m.length
 | [],[],_=>rfl
 | _::_,[],h=>by cases h
 | [],_::_,h=>by cases h
 | a::l,b::m,h=>by
  simp only [BS.atomL,baQ] at h
  rw [lcQ,lcQ,xF h.2]
theorem inst_ar {T:Trc} {chg:Bool} {e:TE} {s z:BS} (h:qZ T chg e s=some z):ArI e:=by
 unfold qZ at h
 split at h
 ·rename_i d
  split at h
  ·rename_i q
   simp only [baQ] at q
   obtain ⟨b,c,a⟩:=wC q.1.1
   exact ⟨fun _=>xF q.2,fun _=>by omega,fun _ _=>b rfl,fun _=>by omega,fun _=>a rfl,by omega,by omega⟩
  ·cases h
 split at h
 ·split at h
  ·rename_i q
   obtain ⟨b,c,a⟩:=wC q
   exact ⟨fun _=>by omega,fun _=>by omega,fun _ _=>b rfl,fun _=>by omega,fun _=>a rfl,by omega,by omega⟩
  ·cases h
 split at h
 ·split at h
  ·rename_i q
   simp only [baQ] at q
   obtain ⟨b,c,a⟩:=wC q.1
   exact ⟨fun _=>by omega,fun _=>by omega,fun _ _=>b rfl,fun _=>by omega,fun _=>a rfl,by omega,by omega⟩
  ·cases h
 split at h
 ·split at h
  ·rename_i q
   simp only [baQ] at q
   obtain ⟨b,c,a⟩:=wC q.1
   exact ⟨fun _=>by omega,fun _=>by omega,fun _ _=>b rfl,fun _=>by omega,fun _=>a rfl,by omega,by omega⟩
  ·cases h
 split at h
 ·split at h
  ·rename_i q
   simp only [baQ] at q
   obtain ⟨b,c,a⟩:=wC q.1.1
   exact ⟨fun _=>by omega,fun _=>xF q.2,fun _ _=>b rfl,fun _=>by omega,fun _=>a rfl,by omega,by omega⟩
  ·cases h
 split at h
 ·split at h
  ·rename_i q
   simp only [baQ] at q
   obtain ⟨b,c,a⟩:=wC q.1.1
   exact ⟨fun _=>by omega,fun _=>by omega,fun _ _=>b rfl,fun _=>by omega,fun _=>a rfl,by omega,by omega⟩
  ·cases h
 split at h
 ·split at h
  ·rename_i q
   simp only [baQ] at q
   obtain ⟨b,c,a⟩:=wC q.1.1
   exact ⟨fun _=>by omega,fun _=>xF q.2,fun _ _=>by omega,fun _=>c rfl,fun _=>a rfl,by omega,by omega⟩
  ·cases h
 split at h
 ·split at h
  ·rename_i q
   simp only [baQ] at q
   obtain ⟨b,c,a⟩:=wC q.1.1
   exact ⟨fun _=>by omega,fun _=>xF q.2,fun _ _=>by omega,fun _=>c rfl,fun _=>a rfl,by omega,by omega⟩
  ·cases h
 split at h
 ·split at h
  ·rename_i q
   simp only [baQ] at q
   obtain ⟨b,c,a⟩:=wC q.1
   exact ⟨fun _=>by omega,fun _=>by omega,fun _ _=>by omega,fun _=>c rfl,fun _=>a rfl,by omega,by omega⟩
  ·cases h
 ·cases h
mutual
theorem z6q {T:Trc} {chg:Bool}:∀{e:TE} {s z:BS},jL T chg e s=some z->arT e
 | .mk k nm op num site args arms body,s,z,h=>by
  unfold jL at h
  obtain ⟨s1,d,f⟩:=Option.bind_eq_some_iff.1 h
  have hb:=rest_ar f
  split at d
  ·rename_i g
   subst g
   split at d
   ·rename_i q
    simp only [baQ] at q
    obtain ⟨p,o,t⟩:=wC q.1
    have hl:=xF q.2
    cases args with
    | nil=>cases d
    | cons a l=>
     cases arms with
     | nil=>cases d
     | cons b r=>
      obtain ⟨c,vs,bo⟩:=b
      simp only at d
      split at d
      ·cases d
      ·split at d
       ·obtain ⟨j,m,_⟩:=Option.bind_eq_some_iff.1 d
        exact ⟨⟨fun (h:(7:Int)=1)=>(by cases h),fun _=>hl,fun (_:(1:Int)<=7) (h:(7:Int)<=6)=>by omega,fun _=>o rfl,fun h=>absurd rfl h,by show (1:Int)<=7;decide,by show (7:Int)<=10;decide⟩,arms_ar m,hb⟩
       ·cases d
   ·cases d
  ·have hi:=inst_ar d
   rename_i g
   have n:arms=[]:=hi.arms g
   exact ⟨hi,by rw [n];exact trivial,hb⟩
theorem rest_ar {T:Trc} {chg:Bool} {nm:Bs} {mod:Bool}:∀{l:List TE} {s z:BS},restT T chg nm mod l s=some z->arTs l
 | [],_,_,_=>trivial
 | x::xs,s,z,h=>by
  rw [restT] at h
  obtain ⟨s1,_,h⟩:=Option.bind_eq_some_iff.1 h
  obtain ⟨j,d,f⟩:=Option.bind_eq_some_iff.1 h
  exact ⟨z6q d,rest_ar f⟩
theorem arms_ar {T:Trc} {chg:Bool} {first:Nat} {outer:List (Bs×Int)}:∀{l:List TA} {i:Nat} {s z:BS},armsT T chg first outer i l s=some z->arTa l
 | [],_,_,_,_=>trivial
 | .mk c vs b::xs,i,s,z,h=>by
  rw [armsT] at h
  split at h
  ·obtain ⟨s1,_,h⟩:=Option.bind_eq_some_iff.1 h
   obtain ⟨j,d,f⟩:=Option.bind_eq_some_iff.1 h
   exact ⟨z6q d,arms_ar f⟩
  ·cases h
end
def arP (T:Trc):Prop:=∀f∈T.funs,arT f.body
theorem q9p {T:Trc}:∀{l:List TFn} {m z:List (Int×Int)},mI T l m=some z->∀f∈l,arT f.body
 | [],_,_,_,_,h=>by cases h
 | g::l,m,z,h,f,a=>by
  rw [mI] at h
  obtain ⟨s,b,c⟩:=Option.bind_eq_some_iff.1 h
  rcases List.mem_cons.1 a with rfl | a
  ·unfold dQ at b
   obtain ⟨e,_,d⟩:=Option.bind_eq_some_iff.1 b
   exact z6q d
  ·exact q9p c f a
theorem j6z {T:Trc} (h:zL T=true):arP T:=by
 simp only [zL,baQ] at h
 obtain ⟨z,a⟩:=Option.isSome_iff_exists.1 h.2
 exact q9p a
theorem z8a {T:Trc} (h:zL T=true):okP T:=fun f a=>uW _ (j6z h f a)
theorem Mem.freezeRowT {Φ:Fz} {K:List Res} {w:World} {v:Value} {T:TypeId} {k i:Nat} {cs:List Value} (N:Mem Φ K w) (s:yV K i=some (.gs v T k cs)) :
  ∃Ψ,Φ.Le Ψ/\Mem Ψ (cX K i) w/\Row Ψ v k cs/\∀K' w',Mem Ψ K' w'->Mem Φ (.gs v T k cs::K') w':=by
 have h:=N.pull s
 obtain ⟨m,hl,u⟩:=N.own _ (yS s)
 rcases u with ⟨rfl,rfl⟩ | ⟨b,cap,cur,rfl,t,y,a,g,n,d⟩
 ·refine ⟨Φ,Fz.Le.refl Φ,h.tail,.inl ⟨rfl,List.eq_nil_of_length_eq_zero (by simpa using hl)⟩,fun K' w' h'=>?_⟩
  have:cs=[]:=List.eq_nil_of_length_eq_zero (by simpa using hl)
  subst this
  exact h'.nilRow T k
 ·have f:=h.no (b:=b) rfl
  refine ⟨_,Fz.le_add f _,h.freezeHead (b:=b) rfl y,.inr ⟨_,m,cap,rfl,hl,Nat.le_trans a g,fun _=>⟨rfl,cur,T,(0,0),by simp [Fz.add],fun j v l=>?_⟩⟩,fun K' w' h'=>?_⟩
  ·rw [<- d,List.getElem?_take] at l
   split at l
   ·simpa using l
   ·cases l
  ·have hb:w'.heap[b]? = some (.cells cur T (0,0)):=h'.fz b _ (by simp [Fz.add])
   have hk':∀c∈cL K',c≠b:=fun c a e=>by
    have:=h'.apart c a
    subst e
    simp [Fz.add] at this
   refine { fz:=fun c o a=>h'.fz c o ((Fz.le_add f _).obj c o a),own:=fun r p=>?_,os:=h'.os,out:=h'.out,nodup := ?_,apart:=fun c a=>?_ }
   ·rcases List.mem_cons.1 p with rfl | p
    ·exact ⟨m,hl,.inr ⟨b,cap,cur,rfl,t,hb,a,g,n,d⟩⟩
    ·exact h'.own r p
   ·show (cL (.gs _ _ _ _::K')).Nodup
    simp only [cL,List.filterMap_cons,Res.foot,Value.ownBlock,List.nodup_cons]
    exact ⟨fun a=>hk' _ a rfl,h'.nodup⟩
   ·simp only [cL,List.filterMap_cons,Res.foot,Value.ownBlock,List.mem_cons] at a
    rcases a with rfl | a
    ·exact f
    ·have q:=h'.apart c a
     simp only [Fz.add,if_neg (hk' c a)] at q
     exact q
def Fz.del (Φ:Fz) (b:Nat):Fz:={ Φ with obj:=fun c=>if c=b then none else Φ.obj c }
theorem At.del {Φ:Fz} {p:Addr} {cs:List Value} {b:Nat} (h:At Φ p cs) (hb:p.block≠b):At (Φ.del b) p cs:=by
 obtain ⟨a,cur,T,o,c,d⟩:=h
 exact ⟨a,cur,T,o,by simp only [Fz.del,if_neg hb];exact c,d⟩
section
variable {Φ:Fz} {K:List Res} {w:World}
theorem y3n {b:Bool}  (N:Mem Φ K w) :
  Calls prog 157 #[.bool b] w (fun ee w'=>ee=.returned (.int .i64 ((z5a b)))/\Mem Φ K w'):=by
 refine zJ func157 ntmps157 fun Q hQ a J=>?_
 refine go fun a J=>?_
 cases b
 refine yK ?_
 exact y4i N (by rfl)
 refine yK ?_
 exact y4i N (by rfl)
def dem (b:Bool):Except Unit Unit:=if b=true then .ok () else .error ()
def jB:List PanicEntry:=[{ v:=.iface 137 (.agg #[.int .i64 120,.int .i64 0]),recovered:=false }]
def vB:List PanicEntry:=[{ v:=.iface 189 (.agg #[]),recovered:=false }]
theorem yD {b:Bool} (N:Mem Φ K w) :
  Calls prog 83 #[.bool b] w (fun ee w'=>Out (dem b) (fun _=>ee=.returned (.tuple #[])/\Mem Φ K w') (fun _=>ee=.panicked jB/\Mem Φ K w')):=by
 refine zJ func83 ntmps83 fun Q hQ a J=>?_
 refine go fun a J=>?_
 cases b
 refine yE fun a J=>?_
 refine Qq (fun a J=>?_) (o:=by exact fun J O=>yM J rfl runUnderlying137 (by intro ms h;cases h))
 refine st0 J rfl rfl (jZ J rfl (xC _) (fun a c=>hQ _ _ _ (zS c ?_)))
 rw [show dem false=.error () from rfl];exact ⟨rfl,N⟩
 refine go fun a J=>?_
 refine hQ _ _ _ (yP J results83 ?_)
 rw [show dem true=.ok () from rfl];exact ⟨rfl,N⟩
theorem xU {b:Bool} (N:Mem Φ K w) :
  Calls prog 188 #[.bool b] w (fun ee w'=>Out (dem b) (fun _=>ee=.returned (.tuple #[])/\Mem Φ K w') (fun _=>ee=.panicked vB/\Mem Φ K w')):=by
 refine zJ func188 ntmps188 fun Q hQ a J=>?_
 refine go fun a J=>?_
 cases b
 refine yE fun a J=>?_
 refine Qq (fun a J=>?_) (o:=by exact fun J O=>yM J rfl runUnderlying189 (by intro ms h;cases h))
 refine st0 J rfl rfl (jZ J rfl (xC _) (fun a c=>hQ _ _ _ (zS c ?_)))
 rw [show dem false=.error () from rfl];exact ⟨rfl,N⟩
 refine go fun a J=>?_
 refine hQ _ _ _ (yP J results188 ?_)
 rw [show dem true=.ok () from rfl];exact ⟨rfl,N⟩
def ixL (v:Bs):List Bs->Nat->Int
 | [],_=>-1
 | x::xs,i=>if v=x then (i:Int) else ixL v xs (i+1)
theorem j0b (v:Bs):∀(l:List Bs) (i:Nat),decide (0<=ixL v l i)=l.contains v
 | [],_=>by simp [ixL]
 | x::xs,i=>by
  rw [ixL,List.contains_cons,pH]
  by_cases h:v=x
  rw [if_pos h,decide_eq_true (Int.natCast_nonneg i),decide_eq_true h,Bool.true_or]
  rw [if_neg h,j0b v xs (i+1),decide_eq_false h,Bool.false_or]
theorem ixL_hit {v x:Bs} {l:List Bs} {i:Nat} (h:ixL v l 0=ixL v (l.drop i) i) (a:l[i]? = some x) (e:v=x):ixL v l 0=(i:Int):=by rw [h,yI a,ixL,if_pos e]
theorem x0e {v x:Bs} {l:List Bs} {i:Nat} (h:ixL v l 0=ixL v (l.drop i) i) (a:l[i]? = some x) (e:¬v=x):ixL v l 0=ixL v (l.drop (i+1)) (i+1):=by rw [h,yI a,ixL,if_neg e]
theorem ixL_out {v:Bs} {l:List Bs} {i:Nat} (h:ixL v l 0=ixL v (l.drop i) i) (hi:¬i < l.length):ixL v l 0=-1:=by rw [h,qE hi,ixL]
theorem j5a {v0:Value} {l:List Bs} {v:Bs} (g:SliceOf RStr Φ 1 v0 l) (N:Mem Φ K w) :
  Calls prog 129 #[v0,.string v] w (fun ee w'=>ee=.returned (.int .i64 ((ixL v l 0)))/\Mem Φ K w'):=by
 obtain ⟨t,c0,rfl,q,m⟩:=g.fm
 refine zJ func129 ntmps129 fun Q hQ a J=>?_
 refine go fun a J=>?_
 refine qD (J.ks [0,1,7]) N (fun R mm a w=>∃(i:Nat),mm=l.length - i/\R Φ [(8,.int .i64 i)] [] a w/\(ixL v l 0=ixL v (l.drop i) i)) (l.length - 0) ⟨0,rfl,⟨J.pk,N⟩,rfl⟩ ?_
 clear N J
 rintro mm a w ⟨i,k,⟨J,N⟩,c⟩ s j
 by_cases n:i < l.length
 refine go fun a J=>?_
 obtain ⟨r,rfl,h,b,d,p,o,f⟩:=g.el m n
 obtain rfl:d=[.string h]:=f
 by_cases e:v=h
 refine yK ?_
 exact y4i N (by rw [ixL_hit c b e])
 refine go fun a J=>?_
 refine j _ _ _ (by subst k;omega) ⟨(i+1),rfl,⟨J.pk,N⟩,?_⟩
 exact x0e c b e
 refine yK ?_
 exact y4i N (by rw [ixL_out c n])
theorem oF {v0:Value} {l:List Bs} {v:Bs} (b:SliceOf RStr Φ 1 v0 l) (N:Mem Φ K w) :
  Calls prog 87 #[v0,.string v] w (fun ee w'=>ee=.returned (.bool ((l.contains v)))/\Mem Φ K w'):=by
 obtain ⟨f,c0,rfl,d,e⟩:=b.fm
 refine zJ func87 ntmps87 fun Q hQ a J=>?_
 refine zF call129 (fun w N a J=>?_) (c:=j5a b N)
 refine Qq (fun a J=>?_) (o:=by exact fun J O=>y_geqD J rfl rfl)
 refine yK ?_
 exact mN N (by rw [j0b])
theorem y2d {v:Value} {l:List Bs} {s:Bs} (N:Mem Φ (.gs v 9 1 (strs l)::K) w) :
  Calls prog 87 #[v,.string s] w (fun ee w'=>ee=.returned (.bool (l.contains s))/\Mem Φ (.gs v 9 1 (strs l)::K) w'):=by
 obtain ⟨Ψ,_,a,b,c⟩:=N.freezeRowT (i:=0) rfl
 exact (oF (SliceOf.strs.2 b) a).mono fun ee w' h=>⟨h.1,c _ _ h.2⟩
theorem q9z {s:Bs} (N:Mem Φ K w) :
  Calls prog 183 #[.string s] w (fun ee w'=>ee=.returned (.bool (gF s))/\Mem Φ K w'):=by
 refine zJ func183 ntmps183 fun Q hQ a J=>?_
 refine qG fun v3 w N a J=>?_
 refine zF call87 (fun w N a J=>?_) (c:=y2d (l:=[⟨#[43]⟩,⟨#[45]⟩,⟨#[42]⟩,⟨#[47]⟩,⟨#[37]⟩,⟨#[60]⟩,⟨#[61]⟩]) N)
 refine yK ?_
 replace N:=N.dl [0]
 exact ⟨rfl,N⟩
def z4n (v:Val):List Value:=[.string v.con,.int .i64 v.num,.slice none 0 0]
theorem q4e {b:Bool} (N:Mem Φ K w) :
  Calls prog 212 #[.bool b] w (fun ee w'=>ee=.returned (.agg (z4n (oW b)).toArray)/\Mem Φ K w'):=by
 refine zJ func212 ntmps212 fun Q hQ a J=>?_
 refine Alc fun d w N a J=>?_
 refine go fun a J=>?_
 cases b
 refine yE fun a J=>?_
 refine Sto 0 fun w N a J=>?_
 refine go fun a J=>?_
 have c:=N
 replace N:=N.dl [0]
 refine kE (N:=c) ?_
 exact ⟨rfl,N⟩
 refine yE fun a J=>?_
 refine Sto 0 fun w N a J=>?_
 refine go fun a J=>?_
 have c:=N
 replace N:=N.dl [0]
 refine kE (N:=c) ?_
 exact ⟨rfl,N⟩
theorem x0c {s:Bs} (h:gF s=true):s=⟨#[43]⟩∨s=⟨#[45]⟩∨s=⟨#[42]⟩∨s=⟨#[47]⟩∨s=⟨#[37]⟩∨s=⟨#[60]⟩∨s=⟨#[61]⟩:=by
 simp only [gF,List.contains_cons,pH,Bool.or_eq_true,decide_eq_true_eq,List.contains_nil,Bool.false_eq_true,or_false] at h
 exact h
theorem y2y {s:Bs} {xa xb:Int} (n:gF s=true) (N:Mem Φ K w) :
  Calls prog 185 #[.string s,.int .i64 xa,.int .i64 xb] w (fun ee w'=>ee=.returned (.tuple #[.agg (z4n (zX s xa xb)).toArray,.int .i64 0])/\Mem Φ K w'):=by
 refine zJ func185 ntmps185 fun Q hQ a J=>?_
 refine Alc fun p w N a J=>?_
 by_cases m:s=(⟨#[43]⟩:Bs)
 refine Qq (fun a J=>?_) (o:=by exact fun J O=>tJ _ J rfl rfl rfl)
 refine yE fun a J=>?_
 refine Sto 0 fun w N a J=>?_
 refine go fun a J=>?_
 have b:=N
 replace N:=N.dl [0]
 refine hQ _ _ _ (qO (i:=0) (cs:=[.string ⟨#[]⟩,.int .i64 (IntKind.i64.wrap (xa+xb)),.slice none 0 0]) J b.toSees results185 rfl rfl isAgg209 sizeOf209 rfl rfl ?_)
 refine ⟨?_,N⟩
 rw [m]
 first | rfl | (simp [zX,z4n,z3c,v0,oW,Val.con,Val.num,sNo])
 by_cases h:s=(⟨#[45]⟩:Bs)
 refine Qq (fun a J=>?_) (o:=by exact fun J O=>z5w _ J rfl rfl rfl)
 refine yE fun a J=>?_
 refine Sto 0 fun w N a J=>?_
 refine go fun a J=>?_
 have b:=N
 replace N:=N.dl [0]
 refine hQ _ _ _ (qO (i:=0) (cs:=[.string ⟨#[]⟩,.int .i64 (IntKind.i64.wrap (xa - xb)),.slice none 0 0]) J b.toSees results185 rfl rfl isAgg209 sizeOf209 rfl rfl ?_)
 refine ⟨?_,N⟩
 rw [h]
 first | rfl | (simp [zX,z4n,z3c,v0,oW,Val.con,Val.num,sNo])
 by_cases j:s=(⟨#[42]⟩:Bs)
 refine Qq (fun a J=>?_) (o:=by exact fun J O=>y_mul _ J rfl rfl rfl)
 refine yE fun a J=>?_
 refine Sto 0 fun w N a J=>?_
 refine go fun a J=>?_
 have b:=N
 replace N:=N.dl [0]
 refine hQ _ _ _ (qO (i:=0) (cs:=[.string ⟨#[]⟩,.int .i64 (IntKind.i64.wrap (xa * xb)),.slice none 0 0]) J b.toSees results185 rfl rfl isAgg209 sizeOf209 rfl rfl ?_)
 refine ⟨?_,N⟩
 rw [j]
 first | rfl | (simp [zX,z4n,z3c,v0,oW,Val.con,Val.num,sNo])
 refine go fun a J=>?_
 by_cases f:s=(⟨#[47]⟩:Bs)
 by_cases d:xb=0
 refine yE fun a J=>?_
 refine Sto 0 fun w N a J=>?_
 refine go fun a J=>?_
 have b:=N
 replace N:=N.dl [0]
 refine hQ _ _ _ (qO (i:=0) (cs:=[.string ⟨#[]⟩,.int .i64 ((0:Nat):Int),.slice none 0 0]) J b.toSees results185 rfl rfl isAgg209 sizeOf209 rfl rfl ?_)
 refine ⟨?_,N⟩
 rw [f]
 first | rfl | (simp [zX,z4n,z3c,v0,oW,Val.con,Val.num,sNo,d])
 refine Qq (fun a J=>?_) (o:=by exact fun J O=>y_quo _ J rfl rfl d rfl)
 refine yE fun a J=>?_
 refine Sto 0 fun w N a J=>?_
 refine go fun a J=>?_
 have b:=N
 replace N:=N.dl [0]
 refine hQ _ _ _ (qO (i:=0) (cs:=[.string ⟨#[]⟩,.int .i64 (IntKind.i64.wrap (xa.tdiv xb)),.slice none 0 0]) J b.toSees results185 rfl rfl isAgg209 sizeOf209 rfl rfl ?_)
 refine ⟨?_,N⟩
 rw [f]
 first | rfl | (simp [zX,z4n,z3c,v0,oW,Val.con,Val.num,sNo,d])
 by_cases g:s=(⟨#[37]⟩:Bs)
 by_cases e:xb=0
 refine yE fun a J=>?_
 refine Sto 0 fun w N a J=>?_
 refine go fun a J=>?_
 have b:=N
 replace N:=N.dl [0]
 refine hQ _ _ _ (qO (i:=0) (cs:=[.string ⟨#[]⟩,.int .i64 ((0:Nat):Int),.slice none 0 0]) J b.toSees results185 rfl rfl isAgg209 sizeOf209 rfl rfl ?_)
 refine ⟨?_,N⟩
 rw [g]
 first | rfl | (simp [zX,z4n,z3c,v0,oW,Val.con,Val.num,sNo,e])
 refine Qq (fun a J=>?_) (o:=by exact fun J O=>y_rem _ J rfl rfl e rfl)
 refine yE fun a J=>?_
 refine Sto 0 fun w N a J=>?_
 refine go fun a J=>?_
 have b:=N
 replace N:=N.dl [0]
 refine hQ _ _ _ (qO (i:=0) (cs:=[.string ⟨#[]⟩,.int .i64 (xa.tmod xb),.slice none 0 0]) J b.toSees results185 rfl rfl isAgg209 sizeOf209 rfl rfl ?_)
 refine ⟨?_,N⟩
 rw [g]
 first | rfl | (simp [zX,z4n,z3c,v0,oW,Val.con,Val.num,sNo,e])
 by_cases k:s=(⟨#[60]⟩:Bs)
 refine Qq (fun a J=>?_) (o:=by exact fun J O=>q8j J rfl rfl)
 refine zF call212 (fun w N a J=>?_) (c:=q4e N)
 refine Sto 0 fun w N a J=>?_
 refine go fun a J=>?_
 have b:=N
 replace N:=N.dl [0]
 refine hQ _ _ _ (qO (i:=0) (cs:=[.string (if (decide (xa < xb))=true then sTrue else q7k),.int .i64 ((0:Nat):Int),.slice none 0 0]) J b.toSees results185 rfl rfl isAgg209 sizeOf209 rfl rfl ?_)
 refine ⟨?_,N⟩
 rw [k]
 first | rfl | (simp [zX,z4n,z3c,v0,oW,Val.con,Val.num,sNo])
 by_cases l:s=(⟨#[61]⟩:Bs)
 refine Qq (fun a J=>?_) (o:=by exact fun J O=>vW J rfl rfl)
 refine zF call212 (fun w N a J=>?_) (c:=q4e N)
 refine Sto 0 fun w N a J=>?_
 refine go fun a J=>?_
 have b:=N
 replace N:=N.dl [0]
 refine hQ _ _ _ (qO (i:=0) (cs:=[.string (if (decide (xa=xb))=true then sTrue else q7k),.int .i64 ((0:Nat):Int),.slice none 0 0]) J b.toSees results185 rfl rfl isAgg209 sizeOf209 rfl rfl ?_)
 refine ⟨?_,N⟩
 rw [l]
 first | rfl | (simp [zX,z4n,z3c,v0,oW,Val.con,Val.num,sNo])
 refine yE fun a J=>?_
 refine Sto 0 fun w N a J=>?_
 refine go fun a J=>?_
 have b:=N
 replace N:=N.dl [0]
 refine hQ _ _ _ (qO (i:=0) (cs:=[.string ⟨#[]⟩,.int .i64 ((0:Nat):Int),.slice none 0 0]) J b.toSees results185 rfl rfl isAgg209 sizeOf209 rfl rfl ?_)
 rcases x0c n with h_ | h_ | h_ | h_ | h_ | h_ | h_ <;> exact absurd h_ (by assumption)
theorem zD {b:Bool} {x:Unit} (h:dem b=.ok x):b=true:=by cases b <;> first | rfl | cases h
theorem zP {b:Bool} {x:Unit} (h:dem b=.error x):b=false:=by cases b <;> first | rfl | cases h
theorem zI (N:Mem Φ K w):Calls prog 83 #[.bool false] w (fun ee w'=>ee=.panicked jB/\Mem Φ K w'):=yD (b:=false) N
theorem pL (N:Mem Φ K w):Calls prog 83 #[.bool true] w (fun ee w'=>ee=.returned (.tuple #[])/\Mem Φ K w'):=yD (b:=true) N
theorem y6s {r:Addr} {d:List Value} {e:TE} (H:At Φ r d) (re:RTE Φ d e) (N:Mem Φ K w) :
  Calls prog 194 #[.pointer (some r),.bool true,.bool true,.bool false,.bool false,.bool true,.bool false,.bool true] w (fun ee w'=>Out (dem (zB e true true false false true false true)) (fun _=>ee=.returned (.tuple #[])/\Mem Φ K w') (fun _=>ee=.panicked jB/\Mem Φ K w')):=by
 have D:=re
 obtain ⟨S,c4,T,E,M,F,rfl,u,y,P,R,G,I,L,z,B,A,C⟩:=RTE.fm re
 refine zJ func194 ntmps194 fun Q hQ a J=>?_
 by_cases g:e.num=0
 refine Qq (fun a J=>?_) (o:=by exact fun J O=>vW J rfl rfl)
 refine yG call83 (fun s w k N a J=>?_) (fun s w k N=>?_) (c:=yD (b:=(decide (e.site=0))) N)
 by_cases l:e.arms.length=0
 refine Qq (fun a J=>?_) (o:=by exact fun J O=>kW (i:=e.body.length) (j:=1) J rfl rfl)
 generalize h:(decide (e.body.length=1))=q at J
 cases q
 refine Qq (fun a J=>?_) (o:=by exact fun J O=>jC (v:=.bool false) J rfl rfl rfl (by kernel_rfl))
 refine qC call83 (fun w N=>?_) (c:=zI N)
 have f:=zD k
 first | exact absurd f (by decide) | (rw [show zB e true true false false true false true=false from by simp [zB,sNo,g,l,h,f]];exact ⟨rfl,N⟩) | (rw [show zB e true true false false true false true=false from by simp [zB,sNo,g,l,h,f] <;> omega];exact ⟨rfl,N⟩)
 refine Qq (fun a J=>?_) (o:=by exact fun J O=>jC (v:=.bool true) J rfl rfl rfl (by kernel_rfl))
 refine Qq (fun a J=>?_) (o:=by exact fun J O=>mS (i:=e.body.length) (j:=1) J rfl rfl)
 refine yG call83 (fun t w n N a J=>?_) (fun t w n N=>?_) (c:=yD (b:=(decide (e.body.length<=1))) N)
 refine go fun a J=>?_
 refine hQ _ _ _ (yP J results194 ?_)
 have f:=zD k
 have p:=zD n
 first | exact absurd f (by decide) | exact absurd p (by decide) | (rw [show zB e true true false false true false true=true from by simp [zB,sNo,g,l,h,f,p]];exact ⟨rfl,N⟩) | (rw [show zB e true true false false true false true=true from by simp [zB,sNo,g,l,h,f,p] <;> omega];exact ⟨rfl,N⟩)
 have f:=zD k
 have m:=zP n
 first | exact absurd f (by decide) | exact absurd m (by decide) | (rw [show zB e true true false false true false true=false from by simp [zB,sNo,g,l,h,f,m]];exact ⟨rfl,N⟩) | (rw [show zB e true true false false true false true=false from by simp [zB,sNo,g,l,h,f,m] <;> omega];exact ⟨rfl,N⟩)
 refine qC call83 (fun w N=>?_) (c:=zI N)
 have f:=zD k
 first | exact absurd f (by decide) | (rw [show zB e true true false false true false true=false from by simp [zB,sNo,g,l,f]];exact ⟨rfl,N⟩) | (rw [show zB e true true false false true false true=false from by simp [zB,sNo,g,l,f] <;> omega];exact ⟨rfl,N⟩)
 have m:=zP k
 first | exact absurd m (by decide) | (rw [show zB e true true false false true false true=false from by simp [zB,sNo,g,m]];exact ⟨rfl,N⟩) | (rw [show zB e true true false false true false true=false from by simp [zB,sNo,g,m] <;> omega];exact ⟨rfl,N⟩)
 refine qC call83 (fun w N=>?_) (c:=zI N)
 first | fail | (rw [show zB e true true false false true false true=false from by simp [zB,sNo,g]];exact ⟨rfl,N⟩) | (rw [show zB e true true false false true false true=false from by simp [zB,sNo,g] <;> omega];exact ⟨rfl,N⟩)
theorem x0o {p:Addr} {d:List Value} {e:TE} (E:At Φ p d) (re:RTE Φ d e) (N:Mem Φ K w) :
  Calls prog 194 #[.pointer (some p),.bool true,.bool true,.bool false,.bool true,.bool true,.bool false,.bool true] w (fun ee w'=>Out (dem (zB e true true false true true false true)) (fun _=>ee=.returned (.tuple #[])/\Mem Φ K w') (fun _=>ee=.panicked jB/\Mem Φ K w')):=by
 have A:=re
 obtain ⟨M,c4,P,B,H,C,rfl,r,s,I,L,D,F,G,t,y,u,z⟩:=RTE.fm re
 refine zJ func194 ntmps194 fun Q hQ a J=>?_
 by_cases f:e.num=0
 refine zF call83 (fun w N a J=>?_) (c:=pL N)
 by_cases h:e.arms.length=0
 refine Qq (fun a J=>?_) (o:=by exact fun J O=>kW (i:=e.body.length) (j:=1) J rfl rfl)
 generalize g:(decide (e.body.length=1))=n at J
 cases n
 refine Qq (fun a J=>?_) (o:=by exact fun J O=>jC (v:=.bool false) J rfl rfl rfl (by kernel_rfl))
 refine qC call83 (fun w N=>?_) (c:=zI N)
 first | fail | (rw [show zB e true true false true true false true=false from by simp [zB,sNo,f,h,g]];exact ⟨rfl,N⟩) | (rw [show zB e true true false true true false true=false from by simp [zB,sNo,f,h,g] <;> omega];exact ⟨rfl,N⟩)
 refine Qq (fun a J=>?_) (o:=by exact fun J O=>jC (v:=.bool true) J rfl rfl rfl (by kernel_rfl))
 refine Qq (fun a J=>?_) (o:=by exact fun J O=>mS (i:=e.body.length) (j:=1) J rfl rfl)
 refine yG call83 (fun q w k N a J=>?_) (fun q w k N=>?_) (c:=yD (b:=(decide (e.body.length<=1))) N)
 refine go fun a J=>?_
 refine hQ _ _ _ (yP J results194 ?_)
 have l:=zD k
 first | exact absurd l (by decide) | (rw [show zB e true true false true true false true=true from by simp [zB,sNo,f,h,g,l]];exact ⟨rfl,N⟩) | (rw [show zB e true true false true true false true=true from by simp [zB,sNo,f,h,g,l] <;> omega];exact ⟨rfl,N⟩)
 have m:=zP k
 first | exact absurd m (by decide) | (rw [show zB e true true false true true false true=false from by simp [zB,sNo,f,h,g,m]];exact ⟨rfl,N⟩) | (rw [show zB e true true false true true false true=false from by simp [zB,sNo,f,h,g,m] <;> omega];exact ⟨rfl,N⟩)
 refine qC call83 (fun w N=>?_) (c:=zI N)
 first | fail | (rw [show zB e true true false true true false true=false from by simp [zB,sNo,f,h]];exact ⟨rfl,N⟩) | (rw [show zB e true true false true true false true=false from by simp [zB,sNo,f,h] <;> omega];exact ⟨rfl,N⟩)
 refine qC call83 (fun w N=>?_) (c:=zI N)
 first | fail | (rw [show zB e true true false true true false true=false from by simp [zB,sNo,f]];exact ⟨rfl,N⟩) | (rw [show zB e true true false true true false true=false from by simp [zB,sNo,f] <;> omega];exact ⟨rfl,N⟩)
theorem j4m {q:Addr} {d:List Value} {e:TE} (F:At Φ q d) (re:RTE Φ d e) (N:Mem Φ K w) :
  Calls prog 194 #[.pointer (some q),.bool true,.bool false,.bool false,.bool true,.bool true,.bool false,.bool true] w (fun ee w'=>Out (dem (zB e true false false true true false true)) (fun _=>ee=.returned (.tuple #[])/\Mem Φ K w') (fun _=>ee=.panicked jB/\Mem Φ K w')):=by
 have B:=re
 obtain ⟨P,c4,R,C,I,D,rfl,s,t,L,M,E,G,H,u,z,y,A⟩:=RTE.fm re
 refine zJ func194 ntmps194 fun Q hQ a J=>?_
 by_cases f:e.op=(⟨#[]⟩:Bs)
 by_cases g:e.num=0
 refine zF call83 (fun w N a J=>?_) (c:=pL N)
 by_cases k:e.arms.length=0
 refine Qq (fun a J=>?_) (o:=by exact fun J O=>kW (i:=e.body.length) (j:=1) J rfl rfl)
 generalize h:(decide (e.body.length=1))=p at J
 cases p
 refine Qq (fun a J=>?_) (o:=by exact fun J O=>jC (v:=.bool false) J rfl rfl rfl (by kernel_rfl))
 refine qC call83 (fun w N=>?_) (c:=zI N)
 first | fail | (rw [show zB e true false false true true false true=false from by simp [zB,sNo,f,g,k,h]];exact ⟨rfl,N⟩) | (rw [show zB e true false false true true false true=false from by simp [zB,sNo,f,g,k,h] <;> omega];exact ⟨rfl,N⟩)
 refine Qq (fun a J=>?_) (o:=by exact fun J O=>jC (v:=.bool true) J rfl rfl rfl (by kernel_rfl))
 refine Qq (fun a J=>?_) (o:=by exact fun J O=>mS (i:=e.body.length) (j:=1) J rfl rfl)
 refine yG call83 (fun r w l N a J=>?_) (fun r w l N=>?_) (c:=yD (b:=(decide (e.body.length<=1))) N)
 refine go fun a J=>?_
 refine hQ _ _ _ (yP J results194 ?_)
 have m:=zD l
 first | exact absurd m (by decide) | (rw [show zB e true false false true true false true=true from by simp [zB,sNo,f,g,k,h,m]];exact ⟨rfl,N⟩) | (rw [show zB e true false false true true false true=true from by simp [zB,sNo,f,g,k,h,m] <;> omega];exact ⟨rfl,N⟩)
 have n:=zP l
 first | exact absurd n (by decide) | (rw [show zB e true false false true true false true=false from by simp [zB,sNo,f,g,k,h,n]];exact ⟨rfl,N⟩) | (rw [show zB e true false false true true false true=false from by simp [zB,sNo,f,g,k,h,n] <;> omega];exact ⟨rfl,N⟩)
 refine qC call83 (fun w N=>?_) (c:=zI N)
 first | fail | (rw [show zB e true false false true true false true=false from by simp [zB,sNo,f,g,k]];exact ⟨rfl,N⟩) | (rw [show zB e true false false true true false true=false from by simp [zB,sNo,f,g,k] <;> omega];exact ⟨rfl,N⟩)
 refine qC call83 (fun w N=>?_) (c:=zI N)
 first | fail | (rw [show zB e true false false true true false true=false from by simp [zB,sNo,f,g]];exact ⟨rfl,N⟩) | (rw [show zB e true false false true true false true=false from by simp [zB,sNo,f,g] <;> omega];exact ⟨rfl,N⟩)
 refine qC call83 (fun w N=>?_) (c:=zI N)
 first | fail | (rw [show zB e true false false true true false true=false from by simp [zB,sNo,f]];exact ⟨rfl,N⟩) | (rw [show zB e true false false true true false true=false from by simp [zB,sNo,f] <;> omega];exact ⟨rfl,N⟩)
theorem q6x {s:Addr} {d:List Value} {e:TE} (I:At Φ s d) (re:RTE Φ d e) (N:Mem Φ K w) :
  Calls prog 194 #[.pointer (some s),.bool true,.bool false,.bool true,.bool false,.bool false,.bool false,.bool true] w (fun ee w'=>Out (dem (zB e true false true false false false true)) (fun _=>ee=.returned (.tuple #[])/\Mem Φ K w') (fun _=>ee=.panicked jB/\Mem Φ K w')):=by
 have E:=re
 obtain ⟨T,c4,U,F,P,G,rfl,y,z,R,S,H,L,M,A,C,B,D⟩:=RTE.fm re
 refine zJ func194 ntmps194 fun Q hQ a J=>?_
 by_cases g:e.op=(⟨#[]⟩:Bs)
 refine Qq (fun a J=>?_) (o:=by exact fun J O=>vW J rfl rfl)
 refine yG call83 (fun t w h N a J=>?_) (fun t w h N=>?_) (c:=yD (b:=(decide (e.site=0))) N)
 by_cases k:e.args.length=0
 by_cases m:e.arms.length=0
 refine Qq (fun a J=>?_) (o:=by exact fun J O=>kW (i:=e.body.length) (j:=1) J rfl rfl)
 generalize l:(decide (e.body.length=1))=r at J
 cases r
 refine Qq (fun a J=>?_) (o:=by exact fun J O=>jC (v:=.bool false) J rfl rfl rfl (by kernel_rfl))
 refine qC call83 (fun w N=>?_) (c:=zI N)
 have f:=zD h
 first | exact absurd f (by decide) | (rw [show zB e true false true false false false true=false from by simp [zB,sNo,g,k,m,l,f]];exact ⟨rfl,N⟩) | (rw [show zB e true false true false false false true=false from by simp [zB,sNo,g,k,m,l,f] <;> omega];exact ⟨rfl,N⟩)
 refine Qq (fun a J=>?_) (o:=by exact fun J O=>jC (v:=.bool true) J rfl rfl rfl (by kernel_rfl))
 refine Qq (fun a J=>?_) (o:=by exact fun J O=>mS (i:=e.body.length) (j:=1) J rfl rfl)
 refine yG call83 (fun u w p N a J=>?_) (fun u w p N=>?_) (c:=yD (b:=(decide (e.body.length<=1))) N)
 refine go fun a J=>?_
 refine hQ _ _ _ (yP J results194 ?_)
 have f:=zD h
 have q:=zD p
 first | exact absurd f (by decide) | exact absurd q (by decide) | (rw [show zB e true false true false false false true=true from by simp [zB,sNo,g,k,m,l,f,q]];exact ⟨rfl,N⟩) | (rw [show zB e true false true false false false true=true from by simp [zB,sNo,g,k,m,l,f,q] <;> omega];exact ⟨rfl,N⟩)
 have f:=zD h
 have n:=zP p
 first | exact absurd f (by decide) | exact absurd n (by decide) | (rw [show zB e true false true false false false true=false from by simp [zB,sNo,g,k,m,l,f,n]];exact ⟨rfl,N⟩) | (rw [show zB e true false true false false false true=false from by simp [zB,sNo,g,k,m,l,f,n] <;> omega];exact ⟨rfl,N⟩)
 refine qC call83 (fun w N=>?_) (c:=zI N)
 have f:=zD h
 first | exact absurd f (by decide) | (rw [show zB e true false true false false false true=false from by simp [zB,sNo,g,k,m,f]];exact ⟨rfl,N⟩) | (rw [show zB e true false true false false false true=false from by simp [zB,sNo,g,k,m,f] <;> omega];exact ⟨rfl,N⟩)
 refine qC call83 (fun w N=>?_) (c:=zI N)
 have f:=zD h
 first | exact absurd f (by decide) | (rw [show zB e true false true false false false true=false from by simp [zB,sNo,g,k,f]];exact ⟨rfl,N⟩) | (rw [show zB e true false true false false false true=false from by simp [zB,sNo,g,k,f] <;> omega];exact ⟨rfl,N⟩)
 have n:=zP h
 first | exact absurd n (by decide) | (rw [show zB e true false true false false false true=false from by simp [zB,sNo,g,n]];exact ⟨rfl,N⟩) | (rw [show zB e true false true false false false true=false from by simp [zB,sNo,g,n] <;> omega];exact ⟨rfl,N⟩)
 refine qC call83 (fun w N=>?_) (c:=zI N)
 first | fail | (rw [show zB e true false true false false false true=false from by simp [zB,sNo,g]];exact ⟨rfl,N⟩) | (rw [show zB e true false true false false false true=false from by simp [zB,sNo,g] <;> omega];exact ⟨rfl,N⟩)
theorem q1z {t:Addr} {d:List Value} {e:TE} (L:At Φ t d) (re:RTE Φ d e) (N:Mem Φ K w) :
  Calls prog 194 #[.pointer (some t),.bool false,.bool false,.bool false,.bool false,.bool true,.bool false,.bool false] w (fun ee w'=>Out (dem (zB e false false false false true false false)) (fun _=>ee=.returned (.tuple #[])/\Mem Φ K w') (fun _=>ee=.panicked jB/\Mem Φ K w')):=by
 have F:=re
 obtain ⟨U,c4,V,G,R,H,rfl,z,A,S,T,I,M,P,B,D,C,E⟩:=RTE.fm re
 refine zJ func194 ntmps194 fun Q hQ a J=>?_
 by_cases f:e.name=(⟨#[]⟩:Bs)
 by_cases h:e.op=(⟨#[]⟩:Bs)
 by_cases k:e.num=0
 refine Qq (fun a J=>?_) (o:=by exact fun J O=>vW J rfl rfl)
 refine yG call83 (fun u w m N a J=>?_) (fun u w m N=>?_) (c:=yD (b:=(decide (e.site=0))) N)
 by_cases n:e.arms.length=0
 refine Qq (fun a J=>?_) (o:=by exact fun J O=>kW (i:=e.body.length) (j:=1) J rfl rfl)
 generalize l:(decide (e.body.length=1))=s at J
 cases s
 refine Qq (fun a J=>?_) (o:=by exact fun J O=>jC (v:=.bool true) J rfl rfl rfl (by kernel_rfl))
 refine Qq (fun a J=>?_) (o:=by exact fun J O=>mS (i:=e.body.length) (j:=1) J rfl rfl)
 refine yG call83 (fun y w q N a J=>?_) (fun y w q N=>?_) (c:=yD (b:=(decide (e.body.length<=1))) N)
 refine go fun a J=>?_
 refine hQ _ _ _ (yP J results194 ?_)
 have g:=zD m
 have r:=zD q
 first | exact absurd g (by decide) | exact absurd r (by decide) | (rw [show zB e false false false false true false false=true from by simp [zB,sNo,f,h,k,n,l,g,r]];exact ⟨rfl,N⟩) | (rw [show zB e false false false false true false false=true from by simp [zB,sNo,f,h,k,n,l,g,r] <;> omega];exact ⟨rfl,N⟩)
 have g:=zD m
 have p:=zP q
 first | exact absurd g (by decide) | exact absurd p (by decide) | (rw [show zB e false false false false true false false=false from by simp [zB,sNo,f,h,k,n,l,g,p]];exact ⟨rfl,N⟩) | (rw [show zB e false false false false true false false=false from by simp [zB,sNo,f,h,k,n,l,g,p] <;> omega];exact ⟨rfl,N⟩)
 refine Qq (fun a J=>?_) (o:=by exact fun J O=>jC (v:=.bool false) J rfl rfl rfl (by kernel_rfl))
 refine qC call83 (fun w N=>?_) (c:=zI N)
 have g:=zD m
 first | exact absurd g (by decide) | (rw [show zB e false false false false true false false=false from by simp [zB,sNo,f,h,k,n,l,g]];exact ⟨rfl,N⟩) | (rw [show zB e false false false false true false false=false from by simp [zB,sNo,f,h,k,n,l,g] <;> omega];exact ⟨rfl,N⟩)
 refine qC call83 (fun w N=>?_) (c:=zI N)
 have g:=zD m
 first | exact absurd g (by decide) | (rw [show zB e false false false false true false false=false from by simp [zB,sNo,f,h,k,n,g]];exact ⟨rfl,N⟩) | (rw [show zB e false false false false true false false=false from by simp [zB,sNo,f,h,k,n,g] <;> omega];exact ⟨rfl,N⟩)
 have p:=zP m
 first | exact absurd p (by decide) | (rw [show zB e false false false false true false false=false from by simp [zB,sNo,f,h,k,p]];exact ⟨rfl,N⟩) | (rw [show zB e false false false false true false false=false from by simp [zB,sNo,f,h,k,p] <;> omega];exact ⟨rfl,N⟩)
 refine qC call83 (fun w N=>?_) (c:=zI N)
 first | fail | (rw [show zB e false false false false true false false=false from by simp [zB,sNo,f,h,k]];exact ⟨rfl,N⟩) | (rw [show zB e false false false false true false false=false from by simp [zB,sNo,f,h,k] <;> omega];exact ⟨rfl,N⟩)
 refine qC call83 (fun w N=>?_) (c:=zI N)
 first | fail | (rw [show zB e false false false false true false false=false from by simp [zB,sNo,f,h]];exact ⟨rfl,N⟩) | (rw [show zB e false false false false true false false=false from by simp [zB,sNo,f,h] <;> omega];exact ⟨rfl,N⟩)
 refine qC call83 (fun w N=>?_) (c:=zI N)
 first | fail | (rw [show zB e false false false false true false false=false from by simp [zB,sNo,f]];exact ⟨rfl,N⟩) | (rw [show zB e false false false false true false false=false from by simp [zB,sNo,f] <;> omega];exact ⟨rfl,N⟩)
theorem j4n {s:Addr} {d:List Value} {e:TE} (I:At Φ s d) (re:RTE Φ d e) (N:Mem Φ K w) :
  Calls prog 194 #[.pointer (some s),.bool false,.bool true,.bool false,.bool false,.bool true,.bool false,.bool false] w (fun ee w'=>Out (dem (zB e false true false false true false false)) (fun _=>ee=.returned (.tuple #[])/\Mem Φ K w') (fun _=>ee=.panicked jB/\Mem Φ K w')):=by
 have E:=re
 obtain ⟨T,c4,U,F,P,G,rfl,y,z,R,S,H,L,M,A,C,B,D⟩:=RTE.fm re
 refine zJ func194 ntmps194 fun Q hQ a J=>?_
 by_cases g:e.name=(⟨#[]⟩:Bs)
 by_cases h:e.num=0
 refine Qq (fun a J=>?_) (o:=by exact fun J O=>vW J rfl rfl)
 refine yG call83 (fun t w l N a J=>?_) (fun t w l N=>?_) (c:=yD (b:=(decide (e.site=0))) N)
 by_cases m:e.arms.length=0
 refine Qq (fun a J=>?_) (o:=by exact fun J O=>kW (i:=e.body.length) (j:=1) J rfl rfl)
 generalize k:(decide (e.body.length=1))=r at J
 cases r
 refine Qq (fun a J=>?_) (o:=by exact fun J O=>jC (v:=.bool true) J rfl rfl rfl (by kernel_rfl))
 refine Qq (fun a J=>?_) (o:=by exact fun J O=>mS (i:=e.body.length) (j:=1) J rfl rfl)
 refine yG call83 (fun u w p N a J=>?_) (fun u w p N=>?_) (c:=yD (b:=(decide (e.body.length<=1))) N)
 refine go fun a J=>?_
 refine hQ _ _ _ (yP J results194 ?_)
 have f:=zD l
 have q:=zD p
 first | exact absurd f (by decide) | exact absurd q (by decide) | (rw [show zB e false true false false true false false=true from by simp [zB,sNo,g,h,m,k,f,q]];exact ⟨rfl,N⟩) | (rw [show zB e false true false false true false false=true from by simp [zB,sNo,g,h,m,k,f,q] <;> omega];exact ⟨rfl,N⟩)
 have f:=zD l
 have n:=zP p
 first | exact absurd f (by decide) | exact absurd n (by decide) | (rw [show zB e false true false false true false false=false from by simp [zB,sNo,g,h,m,k,f,n]];exact ⟨rfl,N⟩) | (rw [show zB e false true false false true false false=false from by simp [zB,sNo,g,h,m,k,f,n] <;> omega];exact ⟨rfl,N⟩)
 refine Qq (fun a J=>?_) (o:=by exact fun J O=>jC (v:=.bool false) J rfl rfl rfl (by kernel_rfl))
 refine qC call83 (fun w N=>?_) (c:=zI N)
 have f:=zD l
 first | exact absurd f (by decide) | (rw [show zB e false true false false true false false=false from by simp [zB,sNo,g,h,m,k,f]];exact ⟨rfl,N⟩) | (rw [show zB e false true false false true false false=false from by simp [zB,sNo,g,h,m,k,f] <;> omega];exact ⟨rfl,N⟩)
 refine qC call83 (fun w N=>?_) (c:=zI N)
 have f:=zD l
 first | exact absurd f (by decide) | (rw [show zB e false true false false true false false=false from by simp [zB,sNo,g,h,m,f]];exact ⟨rfl,N⟩) | (rw [show zB e false true false false true false false=false from by simp [zB,sNo,g,h,m,f] <;> omega];exact ⟨rfl,N⟩)
 have n:=zP l
 first | exact absurd n (by decide) | (rw [show zB e false true false false true false false=false from by simp [zB,sNo,g,h,n]];exact ⟨rfl,N⟩) | (rw [show zB e false true false false true false false=false from by simp [zB,sNo,g,h,n] <;> omega];exact ⟨rfl,N⟩)
 refine qC call83 (fun w N=>?_) (c:=zI N)
 first | fail | (rw [show zB e false true false false true false false=false from by simp [zB,sNo,g,h]];exact ⟨rfl,N⟩) | (rw [show zB e false true false false true false false=false from by simp [zB,sNo,g,h] <;> omega];exact ⟨rfl,N⟩)
 refine qC call83 (fun w N=>?_) (c:=zI N)
 first | fail | (rw [show zB e false true false false true false false=false from by simp [zB,sNo,g]];exact ⟨rfl,N⟩) | (rw [show zB e false true false false true false false=false from by simp [zB,sNo,g] <;> omega];exact ⟨rfl,N⟩)
theorem q6w {s:Addr} {d:List Value} {e:TE} (I:At Φ s d) (re:RTE Φ d e) (N:Mem Φ K w) :
  Calls prog 194 #[.pointer (some s),.bool false,.bool false,.bool false,.bool false,.bool true,.bool true,.bool false] w (fun ee w'=>Out (dem (zB e false false false false true true false)) (fun _=>ee=.returned (.tuple #[])/\Mem Φ K w') (fun _=>ee=.panicked jB/\Mem Φ K w')):=by
 have E:=re
 obtain ⟨T,c4,U,F,P,G,rfl,y,z,R,S,H,L,M,A,C,B,D⟩:=RTE.fm re
 refine zJ func194 ntmps194 fun Q hQ a J=>?_
 by_cases f:e.name=(⟨#[]⟩:Bs)
 by_cases g:e.op=(⟨#[]⟩:Bs)
 by_cases k:e.num=0
 refine Qq (fun a J=>?_) (o:=by exact fun J O=>vW J rfl rfl)
 refine yG call83 (fun t w m N a J=>?_) (fun t w m N=>?_) (c:=yD (b:=(decide (e.site=0))) N)
 refine Qq (fun a J=>?_) (o:=by exact fun J O=>kW (i:=e.body.length) (j:=1) J rfl rfl)
 generalize l:(decide (e.body.length=1))=r at J
 cases r
 refine Qq (fun a J=>?_) (o:=by exact fun J O=>jC (v:=.bool true) J rfl rfl rfl (by kernel_rfl))
 refine Qq (fun a J=>?_) (o:=by exact fun J O=>mS (i:=e.body.length) (j:=1) J rfl rfl)
 refine yG call83 (fun u w p N a J=>?_) (fun u w p N=>?_) (c:=yD (b:=(decide (e.body.length<=1))) N)
 refine go fun a J=>?_
 refine hQ _ _ _ (yP J results194 ?_)
 have h:=zD m
 have q:=zD p
 first | exact absurd h (by decide) | exact absurd q (by decide) | (rw [show zB e false false false false true true false=true from by simp [zB,sNo,f,g,k,l,h,q]];exact ⟨rfl,N⟩) | (rw [show zB e false false false false true true false=true from by simp [zB,sNo,f,g,k,l,h,q] <;> omega];exact ⟨rfl,N⟩)
 have h:=zD m
 have n:=zP p
 first | exact absurd h (by decide) | exact absurd n (by decide) | (rw [show zB e false false false false true true false=false from by simp [zB,sNo,f,g,k,l,h,n]];exact ⟨rfl,N⟩) | (rw [show zB e false false false false true true false=false from by simp [zB,sNo,f,g,k,l,h,n] <;> omega];exact ⟨rfl,N⟩)
 refine Qq (fun a J=>?_) (o:=by exact fun J O=>jC (v:=.bool false) J rfl rfl rfl (by kernel_rfl))
 refine qC call83 (fun w N=>?_) (c:=zI N)
 have h:=zD m
 first | exact absurd h (by decide) | (rw [show zB e false false false false true true false=false from by simp [zB,sNo,f,g,k,l,h]];exact ⟨rfl,N⟩) | (rw [show zB e false false false false true true false=false from by simp [zB,sNo,f,g,k,l,h] <;> omega];exact ⟨rfl,N⟩)
 have n:=zP m
 first | exact absurd n (by decide) | (rw [show zB e false false false false true true false=false from by simp [zB,sNo,f,g,k,n]];exact ⟨rfl,N⟩) | (rw [show zB e false false false false true true false=false from by simp [zB,sNo,f,g,k,n] <;> omega];exact ⟨rfl,N⟩)
 refine qC call83 (fun w N=>?_) (c:=zI N)
 first | fail | (rw [show zB e false false false false true true false=false from by simp [zB,sNo,f,g,k]];exact ⟨rfl,N⟩) | (rw [show zB e false false false false true true false=false from by simp [zB,sNo,f,g,k] <;> omega];exact ⟨rfl,N⟩)
 refine qC call83 (fun w N=>?_) (c:=zI N)
 first | fail | (rw [show zB e false false false false true true false=false from by simp [zB,sNo,f,g]];exact ⟨rfl,N⟩) | (rw [show zB e false false false false true true false=false from by simp [zB,sNo,f,g] <;> omega];exact ⟨rfl,N⟩)
 refine qC call83 (fun w N=>?_) (c:=zI N)
 first | fail | (rw [show zB e false false false false true true false=false from by simp [zB,sNo,f]];exact ⟨rfl,N⟩) | (rw [show zB e false false false false true true false=false from by simp [zB,sNo,f] <;> omega];exact ⟨rfl,N⟩)
end
def zN (l:List (Bs×Int)):List (Bs×Value):=l.map fun p=>(p.1,.int .i64 p.2)
theorem z2e:∀(l:List (Bs×Int)) (k:Bs),jJ (zN l) k=(yC l k).map (.int .i64 ·)
 | [],_=>rfl
 | (q,x)::l,k=>by
  simp only [zN,List.map_cons,jJ,yC]
  split
  rfl
  exact z2e l k
theorem vP (l:List (Bs×Int)) (k:Bs):zZ false (.int .i64 0) (jJ (zN l) k)=.int .i64 ((yC l k).getD 0):=by rw [z2e];cases yC l k <;> rfl
theorem wP:∀(l:List (Bs×Int)) (k:Bs) (x:Int),z0p (zN l) k (.int .i64 x)=zN (qJ l k x)
 | [],_,_=>rfl
 | (q,y)::l,k,x=>by
  simp only [zN,List.map_cons,z0p,qJ]
  split
  rfl
  rw [List.map_cons];exact congrArg _ (wP l k x)
theorem q8s {s:BS} {a:Atom} {m:Bool} (h:a.name=sNo):s.atom a m = !m:=by rw [BS.atom,if_pos h]
theorem z7o {s:BS} {a:Atom} {m:Bool} (h:¬a.name=sNo):s.atom a m=(decide (a.num=0)&&decide ((yC s.kinds a.name).getD 0=z5a m)):=by rw [BS.atom,if_neg h]
theorem j6n {Φ:Fz} {K:List Res} {w:World} {bb mb mk:Nat} {pv fv lv:Value} {s:BS} {xa:Atom} {m:Bool} (N:Mem Φ (.blk bb (ob [pv,fv,.map (some mb),.map (some mk),lv] 199)::.mp mk (zN s.kinds)::K) w) :
  Calls prog 218 #[.pointer (some ⟨bb,0,none⟩),.agg #[.string xa.name,.int .i64 xa.num],.bool m] w (fun ee w'=>Out (dem (s.atom xa m)) (fun _=>ee=.returned (.tuple #[])/\Mem Φ (.blk bb (ob [pv,fv,.map (some mb),.map (some mk),lv] 199)::.mp mk (zN s.kinds)::K) w') (fun _=>ee=.panicked jB/\Mem Φ K w')):=by
 refine zJ func218 ntmps218 fun Q hQ a J=>?_
 refine Bx fun j w N a J=>?_
 by_cases f:xa.name=(⟨#[]⟩:Bs)
 refine yG call83 (fun i w e N a J=>?_) (fun i w e N=>?_) (c:=yD (b:=(!m)) N)
 refine go fun a J=>?_
 replace N:=N.dl [0]
 refine hQ _ _ _ (ret0 J results218 ?_)
 rw [q8s f,e];exact ⟨rfl,N⟩
 replace N:=N.dl [2,1,0]
 rw [q8s f,e];exact ⟨rfl,N⟩
 refine Reg [1,2,1,1,1,1,1,2,1,2,2,1,0,1,1,0] [0,1,2] fun w N a J=>?_
 by_cases g:xa.num=0
 refine Qq (fun a J=>?_) (o:=by exact fun J O=>Ok.cast (yZ 2 runUnderlying98 runUnderlying9 zeroValue3 J O rfl rfl rfl) (vP s.kinds xa.name))
 refine zF call157 (fun w N a J=>?_) (c:=y3n N)
 refine Qq (fun a J=>?_) (o:=by exact fun J O=>vW J rfl rfl)
 refine yG call83 (fun h w d N a J=>?_) (fun h w d N=>?_) (c:=yD (b:=(decide (((yC s.kinds xa.name).getD 0)=(z5a m)))) N)
 refine go fun a J=>?_
 replace N:=N.dl [0]
 refine hQ _ _ _ (yP J results218 ?_)
 rw [z7o f,decide_eq_true g,Bool.true_and,d];exact ⟨rfl,N⟩
 replace N:=N.dl [2,1,0]
 rw [z7o f,decide_eq_true g,Bool.true_and,d];exact ⟨rfl,N⟩
 refine qC call83 (fun w N=>?_) (c:=zI N)
 replace N:=N.dl [2,1,0]
 rw [z7o f,decide_eq_false g,Bool.false_and,show dem false=.error () from rfl];exact ⟨rfl,N⟩
theorem q4x {s:BS} {l:List Atom} {m:List Bool} (h:¬l.length=m.length):s.atomL l m=false:=by
 cases hb:s.atomL l m with
 | false=>rfl
 | true=>exact absurd (xF hb) h
theorem y9u {s:BS}:∀{l:List Atom} {m:List Bool} {i:Nat} {x:Atom} {b:Bool},l[i]? = some x->m[i]? = some b->s.atomL (l.drop i) (m.drop i)=(s.atom x b&&s.atomL (l.drop (i+1)) (m.drop (i+1))):=fun a c=>by
 rw [yI a,yI c];rfl
theorem j1z {s:BS} {l:List Atom} {m:List Bool} {i:Nat} (h:¬i < l.length) (e:l.length=m.length):s.atomL (l.drop i) (m.drop i)=true:=by
 rw [qE h,qE (by omega)];rfl
theorem mW {Φ:Fz} {K:List Res} {w:World} {bb mb mk:Nat} {pv fv lv va vm:Value} {s:BS} {l:List Atom} {ms:List Bool} (rl:SliceOf RAtom Φ 2 va l) (rm:SliceOf RBoo Φ 1 vm ms) (N:Mem Φ (.blk bb (ob [pv,fv,.map (some mb),.map (some mk),lv] 199)::.mp mk (zN s.kinds)::K) w) :
  Calls prog 195 #[.pointer (some ⟨bb,0,none⟩),va,vm] w (fun ee w'=>Out (dem (s.atomL l ms)) (fun _=>ee=.returned (.tuple #[])/\Mem Φ (.blk bb (ob [pv,fv,.map (some mb),.map (some mk),lv] 199)::.mp mk (zN s.kinds)::K) w') (fun _=>ee=.panicked jB/\Mem Φ K w')):=by
 obtain ⟨p1,c2,rfl,P,A⟩:=rl.fm
 obtain ⟨Y,X,rfl,S,B⟩:=rm.fm
 refine zJ func195 ntmps195 fun Q hQ a J=>?_
 refine Qq (fun a J=>?_) (o:=by exact fun J O=>kW (i:=l.length) (j:=ms.length) J rfl rfl)
 refine yG call83 (fun C w e N a J=>?_) (fun C w e N=>?_) (c:=yD (b:=(decide (l.length=ms.length))) N)
 have t:=of_decide_eq_true (zD e)
 refine go fun a J=>?_
 refine qD (J.ks [0,2,14,15]) N (fun R mm a w=>∃(k:Nat),mm=l.length - k/\R Φ [(16,.int .i64 k)] [] a w/\(s.atomL l ms=s.atomL (l.drop k) (ms.drop k))) (l.length - 0) ⟨0,rfl,⟨J.pk,N⟩,rfl⟩ ?_
 clear N J
 rintro mm a w ⟨k,z,⟨J,N⟩,d⟩ T q
 by_cases p:k < l.length
 refine go fun a J=>?_
 obtain ⟨V,rfl,E,g,F,L,G,u⟩:=rl.el A p
 obtain ⟨rfl,I⟩:=id u
 refine Alc fun U w N a J=>?_
 refine Sto 0 fun w N a J=>?_
 refine Reg [1,2,1,1,1,2,0] [0,1,2] fun w N a J=>?_
 refine go fun a J=>?_
 have r:k < ms.length:=by omega
 obtain ⟨W,rfl,y,h,n,M,H,v⟩:=rm.el B r
 obtain rfl:n=[.bool y]:=v
 replace N:=N.ar [] [2,2]
 refine yG call218 (fun D w f N a J=>?_) (fun D w f N=>?_) (c:=j6n (s:=s) (xa:=E) (m:=y) N)
 refine go fun a J=>?_
 replace N:=N.dl [2]
 refine q _ _ _ (by subst z;omega) ⟨(k+1),rfl,⟨J.pk,N⟩,?_⟩
 rw [d,y9u g h,zD f,Bool.true_and]
 replace N:=N.dl [0]
 rw [d,y9u g h,zP f,Bool.false_and,show dem false=.error () from rfl];exact ⟨rfl,N⟩
 refine go fun a J=>?_
 refine hQ _ _ _ (yP J results195 ?_)
 rw [d,j1z p t,show dem true=.ok () from rfl];exact ⟨rfl,N⟩
 replace N:=N.dl [1,0]
 rw [q4x (of_decide_eq_false (zP e)),show dem false=.error () from rfl];exact ⟨rfl,N⟩
def ixM {α:Type} (nm:α->Bs):Nat->List α->List (Bs×Int)
 | _,[]=>[]
 | i,x::l=>(nm x,(i:Int))::ixM nm (i+1) l
theorem z9b {α:Type} {nm:α->Bs} {n:Bs}:∀{l:List α} {i:Nat},yC (ixM nm i l) n=(l.findIdx? fun x=>decide (nm x=n)).map fun j=>((i+j:Nat):Int)
 | [],_=>rfl
 | x::l,i=>by
  rw [ixM,yC,List.findIdx?_cons]
  by_cases h:nm x=n
  ·rw [if_pos h.symm,decide_eq_true h];simp
  ·rw [if_neg (fun e=>h e.symm),decide_eq_false h,z9b (l:=l)]
   simp only [Bool.false_eq_true,if_false,Option.map_map]
   congr 1
   funext j
   simp only [Function.comp]
   omega
def mT (T:Trc):List (Bs×Int):=ixM TCon.name 0 T.cons
def nQ (T:Trc):List (Bs×Int):=ixM TFn.name 0 T.funs
theorem pW {l:List (Bs×Int)} {k:Bs} {v:Value} (h:jJ (zN l) k=some v):∃y,yC l k=some y/\v=.int .i64 y:=by
 rw [z2e] at h
 cases hq:yC l k with
 | none=>rw [hq] at h;cases h
 | some y=>rw [hq] at h;exact ⟨y,rfl,(Option.some.inj h).symm⟩
theorem vQ {l:List (Bs×Int)} {k:Bs} (h:jJ (zN l) k=none):yC l k=none:=by
 rw [z2e] at h
 cases hq:yC l k with
 | none=>rfl
 | some y=>rw [hq] at h;cases h
theorem gG {α:Type} {nm:α->Bs} {n:Bs} {l:List α} (h:yC (ixM nm 0 l) n=none):l.findIdx? (fun x=>decide (nm x=n))=none:=by
 rw [z9b] at h
 cases hq:l.findIdx? (fun x=>decide (nm x=n)) with
 | none=>rfl
 | some j=>rw [hq] at h;cases h
theorem gH {α:Type} {nm:α->Bs} {n:Bs} {l:List α} {y:Int} (h:yC (ixM nm 0 l) n=some y):∃j:Nat,y=(j:Int)/\l.findIdx? (fun x=>decide (nm x=n))=some j/\j < l.length:=by
 rw [z9b] at h
 cases hq:l.findIdx? (fun x=>decide (nm x=n)) with
 | none=>rw [hq] at h;cases h
 | some j=>
  rw [hq] at h
  refine ⟨j,?_,rfl,(List.findIdx?_eq_some_iff_getElem.1 hq).1⟩
  have:=Option.some.inj h
  simp only [Nat.zero_add] at this
  exact this.symm
theorem q9g {α:Type} {p:α->Bool} {l:List α} {j:Nat} {x:α} (h:l.findIdx? p=some j) (b:l[j]? = some x):l.find? p=some x:=by
 obtain ⟨a,c,d⟩:=List.findIdx?_eq_some_iff_getElem.1 h
 rw [List.getElem?_eq_getElem a] at b
 have e:=Option.some.inj b
 rw [List.find?_eq_some_iff_getElem]
 refine ⟨e▸c,j,a,e,fun k f=>?_⟩
 have:=d k f
 simpa using this
theorem q9h {α:Type} {p:α->Bool} {l:List α} (h:l.findIdx? p=none):l.find? p=none:=by
 rw [List.findIdx?_eq_none_iff] at h
 rw [List.find?_eq_none]
 intro x a;rw [h x a];decide
def xN (l:List (Int×Int)):List (Int×Value):=l.map fun p=>(p.1,.int .i64 p.2)
theorem y1k:∀(l:List (Int×Int)) (k:Int),z8t (xN l) k=(tI l k).map (.int .i64 ·)
 | [],_=>rfl
 | (q,x)::l,k=>by
  simp only [xN,List.map_cons,z8t,tI]
  by_cases h:q=k
  ·rw [if_pos h,if_pos h.symm];rfl
  ·rw [if_neg h,if_neg (fun e=>h e.symm)];exact y1k l k
theorem q4k:∀{l:List (Int×Int)} {k:Int} (x:Int),tI l k=none->y6l (xN l) k (.int .i64 x)=xN (l++[(k,x)])
 | [],_,_,_=>rfl
 | (q,y)::l,k,x,h=>by
  simp only [tI] at h
  split at h
  ·cases h
  ·rename_i hq
   simp only [xN,List.map_cons,y6l,List.cons_append]
   rw [if_neg (fun e=>hq e.symm)]
   exact congrArg _ (q4k x h)
structure RProg (Φ:Fz) (p:Addr) (T:Trc) (ms:Nat):Prop where
 ok:qL T=true
 ex:∃cs mc mf,At Φ p (cs++[.map (some mc),.map (some mf),.map (some ms)])/\RTrc Φ cs T/\MapAt Φ mc (zN (mT T))/\MapAt Φ mf (zN (nQ T))
theorem RProg.mono {Φ Ψ:Fz} {p:Addr} {T:Trc} {ms:Nat} (h:RProg Φ p T ms) (hl:Φ.Le Ψ):RProg Ψ p T ms :=
 let ⟨cs,mc,mf,a,b,c,d⟩:=h.ex;⟨h.ok,cs,mc,mf,a.mono hl,RTrc.mono _ _ _ _ hl b,c.mono hl,d.mono hl⟩
theorem j3r {T:Trc} (h:qL T=true) {i:Nat} {f:TFn} (b:T.funs[i]? = some f):((T.funs.take i).any fun g=>decide (g.name=f.name))=false/\wY f.name=true/\f.params.length<=16:=by
 simp only [qL,baQ] at h
 have a:=List.all_eq_true.1 h.1.2 i (List.mem_range.2 (List.getElem?_eq_some_iff.1 b).1)
 simp only [b] at a
 simp only [baQ,Bool.not_eq_true',decide_eq_true_eq] at a
 exact ⟨a.1.1,a.1.2,a.2⟩
theorem y3h {T:Trc} (h:qL T=true) {i:Nat} {c:TCon} (b:T.cons[i]? = some c):aJ T.cons i c=true:=by
 simp only [qL,baQ] at h
 have a:=List.all_eq_true.1 h.1.1.1 i (List.mem_range.2 (List.getElem?_eq_some_iff.1 b).1)
 simp only [b] at a
 exact a
theorem z1z {T:Trc} (h:qL T=true) {i:Nat} {c:TCon} (b:T.cons[i]? = some c):c.fields.length<=16:=by
 have a:=y3h h b
 simp only [aJ,baQ,decide_eq_true_eq] at a
 exact a.1.2
def xW (l:List TPar):List (Bs×Int):=l.map fun p=>(p.name,1)
def xX (l:List TPar):List Value:=l.flatMap fun p=>[.string p.name,.bool p.mod]
theorem z4d (l:List TPar) (p:TPar):xX (l++[p])=xX l++[.string p.name,.bool p.mod]:=by simp [xX]
theorem z2k (l:List TPar):(xX l).length=2 * l.length:=by
 induction l with
 | nil=>rfl
 | cons p l a=>simp only [xX,List.flatMap_cons,laQ,lcQ,lnQ] at a ⊢;omega
theorem bnd_none {n:Bs}:∀{l:List TPar},(¬∃p∈l,p.name=n)↔(yC (xW l) n).getD 0=0
 | []=>by simp [xW,yC]
 | p::l=>by
  have b:=bnd_none (n:=n) (l:=l)
  simp only [xW,List.map_cons,yC]
  by_cases h:n=p.name
  ·rw [if_pos h];simp [h]
  ·rw [if_neg h]
   constructor
   ·intro q;exact b.1 fun ⟨x,a,e⟩=>q ⟨x,mcQ _ a,e⟩
   ·rintro q ⟨x,a,e⟩
    rcases List.mem_cons.1 a with rfl | a
    ·exact h e.symm
    ·exact b.2 q ⟨x,a,e⟩
theorem q8u {n:Bs} {m:Bool}:∀{l:List TPar},(¬∃p∈l,p.name=n)->qJ (xW l) n 1=xW (l++[⟨n,m⟩])
 | [],_=>rfl
 | p::l,h=>by
  simp only [xW,List.map_cons,qJ,List.cons_append]
  rw [if_neg (fun e=>h ⟨p,msQ,e.symm⟩)]
  exact congrArg _ (q8u (m:=m) fun ⟨x,a,e⟩=>h ⟨x,mcQ _ a,e⟩)
def xL {α:Type}:Option α->Except Unit α
 | some x=>.ok x
 | none=>.error ()
theorem j6r {s:BS} {n:Bs} {m:Bool} (a:wY n=true) (b:¬∃p∈s.list,p.name=n) (c:s.list.length < 2000):s.bind n m=some ⟨s.list++[⟨n,m⟩],qJ s.kinds n (z5a m),s.sites⟩:=by rw [BS.bind,if_pos ⟨a,b,c⟩]
theorem y5n {s:BS} {n:Bs} {m:Bool} (h:¬(wY n=true/\(¬∃p∈s.list,p.name=n)/\s.list.length < 2000)):s.bind n m=none:=by rw [BS.bind,if_neg h]
structure BS.Eqv (s t:BS):Prop where
 list:s.list=t.list
 sites:s.sites=t.sites
 kinds:∀n,yC s.kinds n=yC t.kinds n
theorem BS.Eqv.refl (s:BS):s.Eqv s:=⟨rfl,rfl,fun _=>rfl⟩
theorem BS.Eqv.symm {s t:BS} (h:s.Eqv t):t.Eqv s:=⟨h.1.symm,h.2.symm,fun n=>(h.3 n).symm⟩
theorem BS.Eqv.trans {s t u:BS} (h:s.Eqv t) (k:t.Eqv u):s.Eqv u:=⟨h.1.trans k.1,h.2.trans k.2,fun n=>(h.3 n).trans (k.3 n)⟩
def OEqv:Option BS->Option BS->Prop
 | some a,some b=>a.Eqv b
 | none,none=>True
 | _,_=>False
theorem OEqv.refl:∀o:Option BS,OEqv o o
 | some a=>BS.Eqv.refl a
 | none=>trivial
theorem OEqv.symm:∀{o p:Option BS},OEqv o p->OEqv p o
 | some _,some _,h=>BS.Eqv.symm h
 | none,none,_=>trivial
 | some _,none,h=>h.elim
 | none,some _,h=>h.elim
theorem OEqv.trans:∀{o p q:Option BS},OEqv o p->OEqv p q->OEqv o q
 | some _,some _,some _,h,k=>BS.Eqv.trans h k
 | none,none,none,_,_=>trivial
 | some _,none,_,h,_=>h.elim
 | none,some _,_,h,_=>h.elim
 | some _,some _,none,_,k=>k.elim
 | none,none,some _,_,k=>k.elim
theorem OEqv.none_iff {o p:Option BS} (h:OEqv o p):o=none↔p=none:=by cases o <;> cases p <;> simp_all [OEqv]
theorem OEqv.bind {o p:Option BS} {f g:BS->Option BS} (h:OEqv o p) (c:∀a b,a.Eqv b->OEqv (f a) (g b)):OEqv (o.bind f) (p.bind g):=by
 cases o <;> cases p
 ·exact trivial
 ·exact h.elim
 ·exact h.elim
 ·exact c _ _ h
theorem OEqv.ite {c:Prop} [Decidable c] {o p q r:Option BS} (h:OEqv o p) (k:OEqv q r):OEqv (if c then o else q) (if c then p else r):=by split <;> assumption
section
variable {s t:BS} (h:s.Eqv t)
include h
theorem BS.Eqv.atom (a:Atom) (m:Bool):s.atom a m=t.atom a m:=by simp only [BS.atom,h.kinds]
theorem BS.Eqv.atomL:∀(l:List Atom) (m:List Bool),s.atomL l m=t.atomL l m
 | [],[]=>rfl
 | _::_,[]=>rfl
 | [],_::_=>rfl
 | a::l,m::ms=>by rw [BS.atomL,BS.atomL,h.atom a m,BS.Eqv.atomL l ms]
theorem BS.Eqv.call (T:Trc) (e:TE) (c:Bool):s.call T e c=t.call T e c:=by simp only [BS.call,h.atomL]
theorem BS.Eqv.bind (n:Bs) (m:Bool):OEqv (s.bind n m) (t.bind n m):=by
 simp only [BS.bind,h.list]
 refine OEqv.ite ⟨rfl,h.sites,fun q=>?_⟩ trivial
 rw [xS,xS,h.kinds]
theorem BS.Eqv.site (e:TE) (n:Int):OEqv (s.site e n) (t.site e n):=by
 simp only [BS.site,h.sites]
 exact OEqv.ite ⟨h.list,rfl,h.kinds⟩ trivial
theorem BS.Eqv.inst (T:Trc) (c:Bool) (e:TE):OEqv (qZ T c e s) (qZ T c e t):=by
 unfold qZ
 simp only [h.atomL,h.call]
 refine .ite (.ite h trivial) (.ite (.ite ?_ trivial) (.ite (.ite h trivial) (.ite (.ite (h.site _ _) trivial) (.ite (.ite (h.site _ _) trivial) (.ite (.ite h trivial) (.ite (.ite h trivial) (.ite (.ite h trivial) (.ite (.ite h trivial) trivial))))))))
 split
 ·exact .ite h trivial
 ·exact trivial
end
theorem BS.Eqv.binds:∀(vs:List Bs) (ms:List Bool) {s t:BS},s.Eqv t->OEqv (s.binds vs ms) (t.binds vs ms)
 | [],_,_,_,h=>h
 | _::_,[],_,_,_=>trivial
 | v::vs,m::ms,_,_,h=>(h.bind v m).bind fun _ _ k=>BS.Eqv.binds vs ms k
def dP (T:Trc) (chg:Bool) (s:BS):Bool->List Atom->List TA->Option BS
 | true,a::_,.mk n vs b::r=>if a.name=sNo then none else (match oT T n with
  | some first=>(armsT T chg first s.kinds 0 (.mk n vs b::r) s).bind fun c=>if xE T first (r.length+1) then some { c with kinds:=s.kinds } else none
  | none=>none)
 | _,_,_=>none
def jH (T:Trc) (chg:Bool) (e:TE) (s:BS):Option BS:=dP T chg s (zB e false false false false true true false&&s.atomL e.args [false]) e.args e.arms
def z8q (T:Trc) (chg:Bool) (e:TE) (s:BS):Option BS:=if e.kind=7 then jH T chg e s else qZ T chg e s
theorem z1r (T:Trc) (chg:Bool) (e:TE) (s:BS):jL T chg e s=(z8q T chg e s).bind (restT T chg e.name (decide (e.kind=4∨e.kind=6)) e.body):=by
 cases e with
 | mk k nm op num site args arms body=>
  unfold jL
  show Option.bind (if k=7 then _ else qZ T chg (.mk k nm op num site args arms body) s) _=Option.bind (if k=7 then dP T chg s (zB (.mk k nm op num site args arms body) false false false false true true false&&s.atomL args [false]) args arms else qZ T chg (.mk k nm op num site args arms body) s) _
  congr 1
  by_cases c:k=7
  ·rw [if_pos c,if_pos c]
   generalize (zB (.mk k nm op num site args arms body) false false false false true true false&&s.atomL args [false])=g
   cases g with
   | false=>cases args <;> cases arms <;> rfl
   | true=>cases args with
    | nil=>cases arms <;> rfl
    | cons a l=>cases arms with
     | nil=>rfl
     | cons b r=>cases b;rfl
  ·rw [if_neg c,if_neg c]
mutual
theorem BS.Eqv.expr (T:Trc) (c:Bool):∀(e:TE) {s t:BS},s.Eqv t->OEqv (jL T c e s) (jL T c e t)
 | .mk k nm op num site args arms body,s,t,h=>by
  rw [z1r,z1r]
  refine OEqv.bind ?_ fun a b q=>BS.Eqv.rest T c nm _ body q
  refine OEqv.ite ?_ (h.inst T c _)
  simp only [jH,h.atomL,TE.args,TE.arms]
  generalize (zB (.mk k nm op num site args arms body) false false false false true true false&&t.atomL args [false])=g
  match g,args,arms with
  | false,_,_=>exact trivial
  | true,[],_=>exact trivial
  | true,_::_,[]=>exact trivial
  | true,a::_,.mk d vs b::r=>
   simp only [dP]
   split
   ·exact trivial
   ·split
    ·exact (BS.Eqv.arms T c _ 0 (.mk d vs b::r) h.kinds h).bind fun _ _ q=>by
      exact OEqv.ite (o:=some _) (p:=some _) (q:=none) (r:=none) ⟨q.1,q.2,h.kinds⟩ trivial
    ·exact trivial
theorem BS.Eqv.rest (T:Trc) (c:Bool) (nm:Bs) (mod:Bool):∀(l:List TE) {s t:BS},s.Eqv t->OEqv (restT T c nm mod l s) (restT T c nm mod l t)
 | [],_,_,h=>h
 | x::xs,s,t,h=>by
  rw [restT,restT]
  exact (h.bind nm mod).bind fun _ _ q=>(BS.Eqv.expr T c x q).bind fun _ _ q=>BS.Eqv.rest T c nm mod xs q
theorem BS.Eqv.arms (T:Trc) (c:Bool) (first:Nat):∀(i:Nat) (l:List TA) {o o':List (Bs×Int)} {s t:BS},(∀n,yC o n=yC o' n)->s.Eqv t->OEqv (armsT T c first o i l s) (armsT T c first o' i l t)
 | _,[],_,_,_,_,_,h=>h
 | i,.mk d vs b::xs,o,o',s,t,f,h=>by
  rw [armsT,armsT]
  refine .ite ?_ trivial
  exact (BS.Eqv.binds vs _ (s:={ s with kinds:=o }) (t:={ t with kinds:=o' }) ⟨h.1,h.2,f⟩).bind fun _ _ q=>(BS.Eqv.expr T c b q).bind fun _ _ q=>BS.Eqv.arms T c first (i+1) xs f q
end
theorem BS.Eqv.fun (T:Trc) (f:TFn) (m:List (Int×Int)):OEqv (dQ T f m) (dQ T f m):=.refl _
def gB (l:List Bool):List Value:=l.map .bool
theorem gX (l:List Bool):(gB l).length=l.length:=by simp [gB]
theorem j2m (l m:List Bool):gB l++gB m=gB (l++m):=by simp [gB]
theorem kO {Φ:Fz}:∀(l:List Bool),Chunks (RBoo Φ) 1 (gB l) l
 | []=>rfl
 | x::l=>⟨[.bool x],gB l,rfl,rfl,rfl,kO l⟩
section
variable {P:Program} {n:Nat} {E:List (Nat×Value)} {D:List Deferred} {a:Act} {Φ Ψ:Fz} {K:List Res} {w:World}
variable {Kn:Value->World->Prop} {Qp:List PanicEntry->World->Prop} {dst:Option Tmp} {ty:TypeId} {pos:String} {aft:Array Edge} {g:Option (Nat×Bool)}
theorem Ok.beq {op:Op} {x y:Bool} {b:Bool} (h:(x==y)=b) (k:Ok P a op ty w (.bool (x==y))):Ok P a op ty w (.bool b):=h▸k
theorem z8g {α β ε:Type} {f:FuncId} {y:Operand} {fs cs:List Value} {xs:Array Operand} {ts:Array TypeId} {vs:List Value} {r:Except ε α} {X:α->β->Value} {C:ε->List PanicEntry} {F1:α->β->Fz} {d:Fz} {KO:α->β->List Res} {KE:List Res} {G:α->β->Prop}
  (J:EnvR n E D a) (p:ev E y=some (.func (.func f) fs.toArray cs.toArray)) (o:evs E xs.toList=some vs) (m:∀args w,(callFunc f args).run P w=.ok (.enter f args) w)
  (l:Calls P f (fs++vs++cs).toArray w (fun e w'=>Out r (fun x=>∃y,e=.returned (X x y)/\G x y/\Mem (F1 x y) (KO x y) w') (fun c=>e=.panicked (C c)/\Mem d KE w')))
  (k:∀x y w',r=.ok x->G x y->Mem (F1 x y) (KO x y) w'->Kn (X x y) w') (kp:∀c w',r=.error c->Mem d KE w'->Qp (C c) w') :
  Oper.eff P ⟨dst,.call { callee:=.value y,args:=xs,argTypes:=ts },ty,pos,aft,g⟩ a w Kn Qp:=by
 refine cB J p o m l (fun v w' h=>?_) (fun c w' h=>?_) (fun w' h=>?_)
 ·cases r with
  | ok x=>obtain ⟨y,b,i,j⟩:=h;cases b;exact k _ _ _ rfl i j
  | error c=>obtain ⟨b,i⟩:=h;cases b
 ·cases r with
  | ok x=>obtain ⟨y,b,_⟩:=h;cases b
  | error c=>obtain ⟨b,i⟩:=h;cases b;exact kp _ _ rfl i
 ·cases r with
  | ok x=>obtain ⟨y,b,_⟩:=h;cases b
  | error c=>obtain ⟨b,_⟩:=h;cases b
theorem vX {β:Type} {f:FuncId} {y:Operand} {fs cs:List Value} {xs:Array Operand} {ts:Array TypeId} {vs:List Value} {X:β->Value} {F1:β->Fz} {KO:β->List Res} {G:β->Prop}
  (J:EnvR n E D a) (o:ev E y=some (.func (.func f) fs.toArray cs.toArray)) (m:evs E xs.toList=some vs) (l:∀args w,(callFunc f args).run P w=.ok (.enter f args) w)
  (j:Calls P f (fs++vs++cs).toArray w (fun e w'=>∃y,e=.returned (X y)/\G y/\Mem (F1 y) (KO y) w'))
  (k:∀y w',G y->Mem (F1 y) (KO y) w'->Kn (X y) w') :
  Oper.eff P ⟨dst,.call { callee:=.value y,args:=xs,argTypes:=ts },ty,pos,aft,g⟩ a w Kn Qp :=
 cB J o m l j (fun v w' h=>by obtain ⟨y,b,d,i⟩:=h;cases b;exact k _ _ d i) (fun c w' h=>by obtain ⟨y,b,_⟩:=h;cases b) (fun w' h=>by obtain ⟨y,b,_⟩:=h;cases b)
theorem kQ {α ε:Type} {f:FuncId} {y:Operand} {fs cs:List Value} {xs:Array Operand} {ts:Array TypeId} {vs:List Value} {r:Except ε α} {X:α->Value} {C:ε->List PanicEntry} {d i:Fz} {KO:α->List Res} {KE:List Res}
  (J:EnvR n E D a) (q:ev E y=some (.func (.func f) fs.toArray cs.toArray)) (p:evs E xs.toList=some vs) (o:∀args w,(callFunc f args).run P w=.ok (.enter f args) w)
  (m:Calls P f (fs++vs++cs).toArray w (fun e w'=>Out r (fun x=>e=.returned (X x)/\Mem d (KO x) w') (fun c=>e=.panicked (C c)/\Mem i KE w')))
  (k:∀x w',r=.ok x->Mem d (KO x) w'->Kn (X x) w') (kp:∀c w',r=.error c->Mem i KE w'->Qp (C c) w') :
  Oper.eff P ⟨dst,.call { callee:=.value y,args:=xs,argTypes:=ts },ty,pos,aft,g⟩ a w Kn Qp:=by
 refine cB J q p o m (fun v w' h=>?_) (fun c w' h=>?_) (fun w' h=>?_)
 ·cases r with
  | ok x=>obtain ⟨b,l⟩:=h;cases b;exact k _ _ rfl l
  | error c=>obtain ⟨b,j⟩:=h;cases b
 ·cases r with
  | ok x=>obtain ⟨b,_⟩:=h;cases b
  | error c=>obtain ⟨b,j⟩:=h;cases b;exact kp _ _ rfl j
 ·cases r with
  | ok x=>obtain ⟨b,_⟩:=h;cases b
  | error c=>obtain ⟨b,_⟩:=h;cases b
theorem q6a {f:FuncId} {y:Operand} {fs cs:List Value} {xs:Array Operand} {ts:Array TypeId} {vs:List Value} {c:List PanicEntry} {b:Fz} {KE:List Res}
  (J:EnvR n E D a) (k:ev E y=some (.func (.func f) fs.toArray cs.toArray)) (j:evs E xs.toList=some vs) (i:∀args w,(callFunc f args).run P w=.ok (.enter f args) w)
  (d:Calls P f (fs++vs++cs).toArray w (fun e w'=>e=.panicked c/\Mem b KE w')) (kp:∀w',Mem b KE w'->Qp c w') :
  Oper.eff P ⟨dst,.call { callee:=.value y,args:=xs,argTypes:=ts },ty,pos,aft,g⟩ a w Kn Qp :=
 cB J k j i d (fun v w' h=>by cases h.1) (fun c w' h=>by cases h.1;exact kp _ h.2) (fun w' h=>by cases h.1)
end
theorem jA {α:Type} {l:List α} {i:Nat} {x:α} (h:l[i]? = some x):l.take (i+1)=l.take i++[x]:=by rw [List.take_add_one,h];rfl
theorem j0m {A:BS->Prop} {B:Unit->Prop} {o:Option BS} {s:BS} (h:OEqv o (some s)) (k:∀z,s.Eqv z->A z):Out (xL o) A B:=by
 cases o with
 | none=>exact h.elim
 | some z=>exact k z (BS.Eqv.symm h)
theorem zR {α:Type} {o:Option α} {x:α} (h:xL o=.ok x):o=some x:=by cases o <;> cases h;rfl
theorem yL {α:Type} {o:Option α} {u:Unit} (h:xL o=.error u):o=none:=by cases o <;> cases h;rfl
theorem y8t {T:Trc} {c:Bool} {nm:Bs} {m:Bool} {l:List TE} {i:Nat} {x:TE} {s:BS} (h:l[i]? = some x):restT T c nm m (l.drop i) s=(s.bind nm m).bind fun s=>(jL T c x s).bind (restT T c nm m (l.drop (i+1))):=by rw [yI h,restT]
theorem x1i {T:Trc} {c:Bool} {nm:Bs} {m:Bool} {l:List TE} {i:Nat} {s:BS} (h:¬i < l.length):restT T c nm m (l.drop i) s=some s:=by rw [qE h,restT]
section
variable {n:Nat} {D:List Deferred} {Φ Φ':Fz} {K K':List Res} {w:World} {A B:Act->World->Prop} {E E':List (Nat×Value)} {d:Nat} {S:World->Prop} {Qp:List PanicEntry->World->Prop} {cs vs:List Value} {R:Ending->World->Prop} {f:FuncId} {xs:Array Operand} {ts:Array TypeId} {T:TypeId} {x y:Operand} {v:Value} {a:Act}
end
def wF (es:Array MapEntry) (seen:Array Nat):List MapEntry:=es.toList.filter fun e=> !seen.contains e.born
theorem leftE_mem {es:Array MapEntry} {seen:Array Nat} {e:MapEntry}:e∈wF es seen↔e∈es.toList/\e.born∉seen:=by simp [wF]
theorem z9a {es:Array MapEntry} {seen:Array Nat} {e:MapEntry} (h:e∈wF es seen):(wF es (seen.push e.born)).length < (wF es seen).length :=
 filter_lt (fun x:MapEntry=> !seen.contains x.born) (fun x:MapEntry=> !(seen.push e.born).contains x.born) (fun x a=>by simp at a ⊢;exact a.1) e (by have:=(leftE_mem.1 h).2;simpa using this) (by simp) es.toList (leftE_mem.1 h).1
section
variable {P:Program} {n:Nat} {E:List (Nat×Value)} {D:List Deferred} {a:Act} {Φ:Fz} {K:List Res} {w:World}
variable {Kn:Value->World->Prop} {Qp:List PanicEntry->World->Prop} {dst:Option Tmp} {ty:TypeId} {pos:String} {aft:Array Edge} {g:Option (Nat×Bool)}
theorem y2v (i:Nat) {t kt et:TypeId} {x:Operand} {b:Nat} {m:List (Bs×Value)} (h:Under P t (.map kt et)) (J:EnvR n E D a) (N:Mem Φ K w) (j:ev E x=some (.map (some b))) (e:yV K i=some (.mp b m))
  (k:∀r es clock w',MapOk es clock m->Mem Φ (.blk r (.mapIter (some b) clock #[] clock)::kS K i (.blk b (.map es clock))) w'->Kn (.pointer (some ⟨r,0,none⟩)) w'):Oper.eff P ⟨dst,.range t x,ty,pos,aft,g⟩ a w Kn Qp:=by
 obtain ⟨es,clock,hb,d⟩:=N.own _ (yS e)
 have f:(getObj b).run P w=.ok (.map es clock) w:=by simp [getObj,Sem.run,hb]
 have c:Mem Φ (kS K i (.blk b (.map es clock))) w:=N.upd e rfl rfl (fun _ _ _=>rfl) hb (.inl rfl)
 unfold Oper.eff
 have:(execOp a.eval ⟨dst,.range t x,ty,pos,aft,g⟩).run P w=.ok (.value (.pointer (some ⟨w.heap.size,0,none⟩))) { w with heap:=w.heap.push (.mapIter (some b) clock #[] clock) }:=by
  simp only [execOp,J.ev j,Instr.range,Sem.run_bind,h w,Result.andThen_ok,f]
  simp [newObj,Sem.run,Sem.run_bind,Result.andThen]
 rw [this]
 exact k _ _ _ _ d (c.push _)
theorem q0q (i j:Nat) {x:Operand} {r b clock:Nat} {es:Array MapEntry} {seen:Array Nat} {m:List (Bs×Value)} (J:EnvR n E D a) (N:Mem Φ K w) (s:ev E x=some (.pointer (some ⟨r,0,none⟩)))
  (F:yV K i=some (.blk r (.mapIter (some b) clock seen clock))) (I:yV K j=some (.blk b (.map es clock))) (u:MapOk es clock m)
  (M:wF es seen=[]->∀w',Mem Φ K w'->Kn (.tuple #[.bool false]) w')
  (Q:∀e w',e∈wF es seen->Mem Φ (kS K i (.blk r (.mapIter (some b) clock (seen.push e.born) clock))) w'->Kn (.tuple #[.bool true,e.key,e.val]) w') :
  Oper.eff P ⟨dst,.next x false,ty,pos,aft,g⟩ a w Kn Qp:=by
 have B:w.heap[r]? = some (.mapIter (some b) clock seen clock):=N.own _ (yS F)
 have hb:w.heap[b]? = some (.map es clock):=N.own _ (yS I)
 have p:(!seen.isEmpty && !es.isEmpty&&es.all (fun x=>decide (x.born≥clock)))=false:=next_test_false seen es clock clock u.old (Nat.le_refl _)
 have f:∀e∈es.toList,e.born < clock:=u.old
 have H:((es.filter fun e=> !seen.contains e.born).filter (fun x=>decide (x.born < clock)))=es.filter fun e=> !seen.contains e.born :=
  Array.filter_eq_self.2 (fun x s=>by
   have:=f x (by simp at s ⊢;exact s.1)
   simpa using this)
 have e2:((es.filter fun e=> !seen.contains e.born).filter (fun x=>decide (x.born≥clock)))=#[]:=by
  rw [Array.filter_eq_empty_iff]
  intro x s
  have:=f x (by simp at s ⊢;exact s.1)
  simp only [ge_iff_le,decide_eq_true_eq,Nat.not_le];omega
 have d:wF es seen=(es.filter fun e=> !seen.contains e.born).toList:=by simp [wF]
 unfold Oper.eff
 simp only [execOp,J.ev s,Instr.next,getObj,Sem.run_bind,Sem.run,B,hb,Result.andThen,p,Bool.false_eq_true,if_false,H,e2,Array.append_empty]
 generalize R:(es.filter fun e=> !seen.contains e.born)=L at *
 by_cases C:L.size=0
 ·have:L=#[]:=Array.eq_empty_of_size_eq_zero C
  subst this
  simp only [Array.isEmpty,Array.size_empty,decide_true,if_true]
  simp only [choose,Sem.run,Question.forced]
  simp
  exact M (by rw [d]) _ N
 ·have l:L.isEmpty=false:=by simp [Array.isEmpty,C]
  simp only [l,Bool.false_eq_true,if_false,Array.empty_append,Array.size_map]
  have hch:∃(q:Nat) (k:World),q < L.size/\Mem Φ K k/\k.heap=w.heap/\(choose (Question.mapNext L.size)).run P w=.ok q k:=by
   by_cases G:L.size<=1
   ·exact ⟨0,w,by omega,N,rfl,by simp [choose,Sem.run,Question.forced,G]⟩
   ·exact ⟨_,w.drew,Nat.mod_lt _ (by omega),N.drew,rfl,by
     simp only [choose,Sem.run,Question.forced,decide_eq_true_eq,G,if_false,Question.cut]
     rfl⟩
  obtain ⟨q,k,hq,A,y,v⟩:=hch
  have h:∀o,(setObj r o).run P k=.ok () { k with heap:=k.heap.setIfInBounds r o }:=fun o=>by simp only [setObj,Sem.run,y,B]
  have z:r < k.heap.size:=by rw [y];exact (Array.getElem?_eq_some_iff.1 B).1
  have t:L[q]∈wF es seen:=by rw [d];simp
  have hrun':=v
  simp only [hrun',Sem.run_bind,Result.andThen,Array.getElem?_map,Array.getElem?_eq_getElem hq,Option.map_some,h,Sem.run_pure]
  simp [Sem.run_bind,h,Result.andThen,kC]
  refine Q _ _ t (A.upd F rfl rfl (fun c S l=>?_) ?_ (.inl rfl))
  ·simp only;rw [Array.getElem?_setIfInBounds_ne (fun e=>l (by simp [Res.foot,e]))]
  ·simp [Res.sat,z]
theorem j1g {x:Operand} {i j:Nat} {r b clock:Nat} {es:Array MapEntry} {seen:Array Nat} {m:List (Bs×Value)} {e:MapEntry} (J:EnvR n E D a) (N:Sees Φ K w) (k:ev E x=some (.pointer (some ⟨r,0,none⟩)))
  (f:yV K i=some (.blk r (.mapIter (some b) clock (seen.push e.born) clock))) (d:yV K j=some (.blk b (.map es clock))) (c:MapOk es clock m) (hl:e∈wF es seen) :
  Ok P a (.entry x) ty w (.tuple #[e.key,e.val]):=fun _ _ _ _=>by
 have h:w.heap[r]? = some (.mapIter (some b) clock (seen.push e.born) clock):=N.own _ (yS f)
 have hb:w.heap[b]? = some (.map es clock):=N.own _ (yS d)
 have g:es.find? (·.born==e.born)=some e:=by rw [<- Array.find?_toList];exact find_born e es.toList c.nodup (leftE_mem.1 hl).1
 simp only [execOp,J.ev k,Instr.entry,getObj,Sem.run_bind,Sem.run,h,hb,Result.andThen,Array.back?_push,bne_self_eq_false,Bool.false_eq_true,if_false,g]
 rfl
theorem y2w {es:Array MapEntry} {clock:Nat} {m:List (Bs×Value)} {e:MapEntry} (b:MapOk es clock m) (h:e∈es.toList):∃s v,e.key=.string s/\e.val=v/\(s,v)∈m:=by
 have c:(e.key,e.val)∈m.map (fun p=>(Value.string p.1,p.2)):=by rw [<- b.eq];exact List.mem_map.2 ⟨e,h,rfl⟩
 obtain ⟨p,d,a⟩:=List.mem_map.1 c
 simp only [Prod.mk.injEq] at a
 exact ⟨p.1,p.2,a.1.symm,a.2.symm,d⟩
theorem j4a {es:Array MapEntry} {clock:Nat} {m:List (Bs×Value)} {s:Bs} {v:Value} (a:MapOk es clock m) (h:(s,v)∈m):∃e∈es.toList,e.key=.string s:=by
 have c:(Value.string s,v)∈es.toList.map (fun e=>(e.key,e.val)):=by rw [a.eq];exact List.mem_map.2 ⟨(s,v),h,rfl⟩
 obtain ⟨e,J,b⟩:=List.mem_map.1 c
 simp only [Prod.mk.injEq] at b
 exact ⟨e,J,b.1⟩
end
section
variable {P:Program} {n:Nat} {E:List (Nat×Value)} {D:List Deferred} {a:Act} {Φ Ψ:Fz} {K:List Res} {w:World}
variable {Kn:Value->World->Prop} {Qp:List PanicEntry->World->Prop} {dst:Option Tmp} {ty:TypeId} {pos:String} {aft:Array Edge} {g:Option (Nat×Bool)}
theorem y5u {t kt et:TypeId} {x:Operand} {i:Int} (c:Under P t (.map kt et)) (J:EnvR n E D a) (d:ev E x=some (.int .i64 i)) (N:Mem Φ K w) (k:∀b w',Mem Φ (.mp b []::K) w'->Kn (.map (some b)) w'):Oper.eff P ⟨dst,.makeMap t (some x),ty,pos,aft,g⟩ a w Kn Qp:=by
 unfold Oper.eff
 have:(execOp a.eval ⟨dst,.makeMap t (some x),ty,pos,aft,g⟩).run P w=.ok (.value (.map (some w.heap.size))) { w with heap:=w.heap.push (.map #[] 0) }:=by
  simp [execOp,Instr.makeMap,J.ev d,Sem.run_bind,c w,Result.andThen,asInt,asIntOf]
 rw [this]
 refine k _ _ (N.more rfl rfl (fun b hb=>wB hb) ⟨#[],0,by simp,by simp,by simp,by simp⟩ (by simp [Res.foot]))
theorem q6b (i:Nat) {t kt et:TypeId} {x:Operand} {b:Nat} {m:List (Int×Value)} (r:Under P t (.map kt et)) (J:EnvR n E D a) (N:Mem Φ K w) (s:ev E x=some (.map (some b))) (l:yV K i=some (.imp b m))
  (k:∀w',Mem Φ (kS K i (.imp b [])) w'->Kn (.tuple #[]) w'):Oper.eff P ⟨dst,.call { callee:=.builtin .clear,args:=#[x],argTypes:=#[t] },ty,pos,aft,g⟩ a w Kn Qp:=by
 obtain ⟨es,clock,hb,q⟩:=N.own _ (yS l)
 have h:b < w.heap.size:=(Array.getElem?_eq_some_iff.1 hb).1
 have p:(getObj b).run P w=.ok (.map es clock) w:=by simp [getObj,Sem.run,hb]
 have f:∀o,(setObj b o).run P w=.ok () { w with heap:=w.heap.setIfInBounds b o }:=fun o=>by simp only [setObj,Sem.run,hb]
 have d:(Builtin.clear_ #[t] ty #[.map (some b)]).run P w=.ok (.tuple #[]) { w with heap:=w.heap.setIfInBounds b (.map #[] clock) }:=by
  simp [Builtin.clear_,Sem.run_bind,r w,p,f]
 unfold Oper.eff
 have:(execOp a.eval ⟨dst,.call { callee:=.builtin .clear,args:=#[x],argTypes:=#[t] },ty,pos,aft,g⟩).run P w=.ok (.value (.tuple #[])) { w with heap:=w.heap.setIfInBounds b (.map #[] clock) }:=by
  simp only [execOp,resolve,invoke,builtin,Sem.run_bind,Sem.run_pure,Result.andThen_ok,List.map_toArray,List.map_cons,List.map_nil,J.ev s,d]
 rw [this]
 refine k _ (N.upd l rfl rfl (fun c u j=>?_) ⟨#[],clock,?_,by simp,by simp,by simp⟩ (.inl rfl))
 ·simp only;rw [Array.getElem?_setIfInBounds_ne (fun e=>j (by simp [Res.foot,e]))]
 ·simp [h]
theorem x2z (i:Nat) {x:Operand} {t kt et:TypeId} {b:Nat} {m:List (Bs×Value)} (J:EnvR n E D a) (O:Sees Φ K w) (j:ev E x=some (.map (some b))) (g:yV K i=some (.mp b m)) (h:Under P t (.map kt et)) :
  Ok P a (.call { callee:=.builtin .len,args:=#[x],argTypes:=#[t] }) ty w (.int .i64 (m.length:Int)):=fun _ _ _ _=>by
 obtain ⟨es,clock,c,d⟩:=O.own _ (yS g)
 have e:(getObj b).run P w=.ok (.map es clock) w:=by simp [getObj,Sem.run,c]
 have f:es.size=m.length:=by have:=congrArg List.length d.eq;simpa using this
 simp only [execOp,resolve]
 simp [Sem.run_bind,Result.andThen,invoke,builtin,J.ev j,Builtin.len_,h w,goInt,e,f]
end
theorem q1u {Φ:Fz} {K:List Res} {w:World} {i b clock:Nat} {es:Array MapEntry} {m:List (Bs×Value)} (N:Mem Φ K w) (c:yV K i=some (.blk b (.map es clock))) (a:MapOk es clock m):Mem Φ (kS K i (.mp b m)) w :=
 N.upd c rfl rfl (fun _ _ _=>rfl) ⟨es,clock,N.own _ (yS c),a⟩ (.inl rfl)
def NoK {α:Type} (l:List (Bs×α)):Prop:=(l.map Prod.fst).Nodup
theorem z2h {α:Type}:∀{l:List (Bs×α)} {n:Bs} {x:α},yC l n=some x->(n,x)∈l
 | [],_,_,h=>by cases h
 | (k,v)::l,n,x,h=>by
  simp only [yC] at h
  split at h
  ·rename_i e;cases h;subst e;exact msQ
  ·exact mcQ _ (z2h h)
theorem z5b {α:Type}:∀{l:List (Bs×α)} {n:Bs} {x:α},NoK l->(n,x)∈l->yC l n=some x
 | [],_,_,_,h=>by cases h
 | (k,v)::l,n,x,a,h=>by
  simp only [NoK,List.map_cons,List.nodup_cons] at a
  simp only [yC]
  rcases List.mem_cons.1 h with h | h
  ·cases h;rw [if_pos rfl]
  ·rw [if_neg (fun e=>a.1 (List.mem_map.2 ⟨(n,x),h,e⟩))];exact z5b a.2 h
theorem y3u {α:Type}:∀(l:List (Bs×α)) (n:Bs) (x:α),∀k,k∈(qJ l n x).map Prod.fst↔k=n∨k∈l.map Prod.fst
 | [],n,x,k=>by simp [qJ]
 | (q,v)::l,n,x,k=>by
  simp only [qJ]
  split
  ·rename_i e;subst e;simp
  ·simp only [List.map_cons,List.mem_cons,y3u l n x k]
   constructor
   ·rintro (h | h | h)
    ·exact .inr (.inl h)
    ·exact .inl h
    ·exact .inr (.inr h)
   ·rintro (h | h | h)
    ·exact .inr (.inl h)
    ·exact .inl h
    ·exact .inr (.inr h)
theorem NoK.put {α:Type}:∀{l:List (Bs×α)} (n:Bs) (x:α),NoK l->NoK (qJ l n x)
 | [],n,x,_=>by simp [NoK,qJ]
 | (q,v)::l,n,x,h=>by
  simp only [NoK,List.map_cons,List.nodup_cons] at h
  simp only [qJ]
  split
  ·simp only [NoK,List.map_cons,List.nodup_cons];exact h
  ·rename_i e
   simp only [NoK,List.map_cons,List.nodup_cons]
   exact ⟨fun a=>((y3u l n x q).1 a).elim (fun h=>e h.symm) h.1,NoK.put (l:=l) n x h.2⟩
theorem x0g {l:List (Bs×Int)} {s:Bs} {v:Value} (h:(s,v)∈zN l):∃y,v=.int .i64 y/\(s,y)∈l:=by
 obtain ⟨p,a,e⟩:=List.mem_map.1 h
 cases e;exact ⟨p.2,rfl,a⟩
structure Copying (es:Array MapEntry) (seen:Array Nat) (l q:List (Bs×Int)):Prop where
 nok:NoK q
 get:∀n,yC q n=none∨yC q n=yC l n
 all:∀e∈es.toList,e.born∈seen->∀n,e.key=.string n->yC q n=yC l n
theorem Copying.start {es:Array MapEntry} {l:List (Bs×Int)}:Copying es #[] l []:=⟨List.nodup_nil,fun _=>.inl rfl,fun e _ h=>by simp at h⟩
theorem Copying.next {es:Array MapEntry} {seen:Array Nat} {clock:Nat} {l q:List (Bs×Int)} {e:MapEntry} {s:Bs} {y:Int} (h:Copying es seen l q) (hl:NoK l) (c:MapOk es clock (zN l)) (J:e∈wF es seen) (j:e.key=.string s) (k:(s,y)∈l):Copying es (seen.push e.born) l (qJ q s y):=by
 have f:=z5b hl k
 refine ⟨h.nok.put s y,fun n=>?_,fun x g hb n a=>?_⟩
 ·rw [xS]
  split
  ·rename_i e;subst e;exact .inr f.symm
  ·exact h.get n
 ·rw [xS]
  split
  ·rename_i e;subst e;exact f.symm
  ·rename_i b
   rw [Array.mem_push] at hb
   rcases hb with hb | hb
   ·exact h.all x g hb n a
   ·have:x=e:=by
     have d:=c.nodup
     have:=find_born x es.toList d g
     have i:=find_born e es.toList d (leftE_mem.1 J).1
     rw [hb,i] at this;exact (Option.some.inj this).symm
    subst this
    rw [j] at a;cases a;exact absurd rfl b
theorem Copying.done {es:Array MapEntry} {seen:Array Nat} {clock:Nat} {l q:List (Bs×Int)} (h:Copying es seen l q) (b:MapOk es clock (zN l)) (f:wF es seen=[]) (n:Bs):yC q n=yC l n:=by
 rcases h.get n with a | a
 ·cases c:yC l n with
  | none=>exact a
  | some y=>
   obtain ⟨e,J,g⟩:=j4a b (List.mem_map.2 ⟨(n,y),z2h c,rfl⟩)
   have O:e.born∈seen:=by
    refine Decidable.byContradiction fun d=>?_
    have:e∈wF es seen:=leftE_mem.2 ⟨J,d⟩
    rw [f] at this;cases this
   rw [<- c];exact h.all e J O n g
 ·exact a
section
variable {Φ:Fz} {K:List Res} {w:World}
theorem q1n {s:Bs} (G:Glob Φ) (N:Mem Φ K w):Calls prog 156 #[.string s] w (fun ee w'=>ee=.returned (.int .i64 (gI s))/\Mem Φ K w'):=by
 refine zJ func156 ntmps156 fun Q hQ a J=>?_
 by_cases m:24 < s.size
 refine yK ?_
 rw [j4b m];exact ⟨rfl,N⟩
 refine go fun a J=>?_
 refine st J rfl rfl rfl (j3j J rfl call108 (y0h G (by omega) N) (fun n I w c N a J=>?_) (fun n I w c N a J=>?_))
 replace N:=N.nf
 obtain ⟨U,V⟩:=I
 simp only at N J
 have h:=N
 clear N
 obtain ⟨v,e,N,f⟩:=h.freezeRow (i:=0) rfl
 clear h
 replace N:=N.nf
 have b:SliceOf RTok v 4 _ (n):=⟨_,f,z1b n⟩
 obtain ⟨S,P,y,H,q⟩:=b.form (by decide)
 have j:=N
 clear N
 subst y
 have N:=j
 clear j
 refine Alc fun L w N a J=>?_
 refine Sto 0 fun w N a J=>?_
 refine Qq (fun a J=>?_) (o:=by exact fun J O=>jG false J rfl rfl rfl)
 by_cases l:(n).length=1
 refine go fun a J=>?_
 have g:0 < (n).length:=by omega
 obtain ⟨T,rfl,u,d,A,E,C,r⟩:=b.el q g
 obtain rfl:=id r
 by_cases p:u.text=s
 refine go fun a J=>?_
 obtain ⟨z,k⟩:=zW g
 obtain ⟨B,F,D,t⟩:=b.elem k
 obtain rfl:=id t
 refine yK ?_
 replace N:=N.le (e)
 replace N:=N.dl [0]
 rw [kind_ok m c l d p,show u=z from Option.some.inj (d.symm.trans k)];exact ⟨rfl,N⟩
 refine yK ?_
 replace N:=N.le (e)
 replace N:=N.dl [0]
 rw [kind_no m c l d p];exact ⟨rfl,N⟩
 refine yK ?_
 replace N:=N.le (e)
 replace N:=N.dl [0]
 rw [kind_ne m c l];exact ⟨rfl,N⟩
 replace N:=N.nf
 refine Alc fun M w N a J=>?_
 refine Sto 0 fun w N a J=>?_
 by_cases R:n.2=0
 refine Qq (fun a J=>?_) (o:=by exact fun J O=>jG true J rfl rfl rfl)
 refine yK ?_
 replace N:=N.dl [0]
 rw [q1o m c];exact ⟨rfl,N⟩
 refine yK ?_
 replace N:=N.dl [0]
 rw [q1o m c];exact ⟨rfl,N⟩
theorem z0k {s:Bs} (G:Glob Φ) (N:Mem Φ K w):Calls prog 126 #[.string s] w (fun ee w'=>ee=.returned (.bool (wY s))/\Mem Φ K w'):=by
 refine zJ func126 ntmps126 fun Q hQ a J=>?_
 refine zF call156 (fun w N a J=>?_) (c:=q1n G N)
 refine Qq (fun a J=>?_) (o:=by exact fun J O=>vW J rfl rfl)
 refine yK ?_
 exact ⟨rfl,N⟩
theorem y3k {s:Bs} (G:Glob Φ) (N:Mem Φ K w):Calls prog 125 #[.string s] w (fun ee w'=>ee=.returned (.bool (z0j s))/\Mem Φ K w'):=by
 refine zJ func125 ntmps125 fun Q hQ a J=>?_
 refine zF call156 (fun w N a J=>?_) (c:=q1n G N)
 refine Qq (fun a J=>?_) (o:=by exact fun J O=>vW J rfl rfl)
 refine yK ?_
 exact ⟨rfl,N⟩
end
theorem z1j {Φ:Fz} {K:List Res} {w:World} {bb mb mk:Nat} {pv fv lv:Value} {s:BS} {nm:Bs} {m:Bool} (G:Glob Φ) (N:Mem Φ (.blk bb (ob [pv,fv,.map (some mb),.map (some mk),lv] 199)::.mp mb (zN (xW s.list))::.mp mk (zN s.kinds)::.gs lv 125 2 (xX s.list)::K) w) :
  Calls prog 127 #[.pointer (some ⟨bb,0,none⟩),.string nm,.bool m] w (fun ee w'=>Out (xL (s.bind nm m)) (fun z=>∃lv':Value,ee=.returned (.tuple #[])/\True/\Mem Φ (.blk bb (ob [pv,fv,.map (some mb),.map (some mk),lv'] 199)::.mp mb (zN (xW z.list))::.mp mk (zN z.kinds)::.gs lv' 125 2 (xX z.list)::K) w') (fun _=>ee=.panicked jB/\Mem Φ K w')):=by
 refine zJ func127 ntmps127 fun Q hQ a J=>?_
 refine zF call126 (fun w N a J=>?_) (c:=z0k G N)
 refine go fun a J=>?_
 generalize e:(wY nm)=h at J
 cases h
 refine qC call83 (fun w N=>?_) (c:=zI N)
 replace N:=N.dl [3,2,1,0]
 rw [y5n fun f=>absurd (f.1.symm.trans e) (by decide)];exact ⟨rfl,N⟩
 refine Qq (fun a J=>?_) (o:=by exact fun J O=>Ok.cast (yZ 1 runUnderlying98 runUnderlying9 zeroValue3 J O rfl rfl rfl) (vP (xW s.list) nm))
 by_cases g:((yC (xW s.list) nm).getD 0)=0
 refine Qq (fun a J=>?_) (o:=by exact fun J O=>mR 3 (s.list.length) J O rfl rfl (by rw [z2k];omega) (by decide) runUnderlying43)
 refine Qq (fun a J=>?_) (o:=by exact fun J O=>y_lssN (i:=s.list.length) (j:=2000) J rfl rfl)
 refine yG call83 (fun l w d N a J=>?_) (fun l w d N=>?_) (c:=yD (b:=(decide (s.list.length < 2000))) N)
 refine Qq (fun a J=>?_) (o:=by exact fun J O=>Ok.cast (yZ 1 runUnderlying98 runUnderlying9 zeroValue3 J O rfl rfl rfl) (vP (xW s.list) nm))
 refine Qq (fun a J=>?_) (o:=by exact fun J O=>tJ _ J rfl rfl rfl)
 refine uF 1 runUnderlying98 runUnderlying9 fun w N a J=>?_
 replace N:Mem Φ (.blk bb (ob [pv,fv,.map (some mb),.map (some mk),lv] 199)::.mp mb (zN (qJ (xW s.list) nm (IntKind.i64.wrap (((yC (xW s.list) nm).getD 0)+1))))::.mp mk (zN s.kinds)::.gs (lv) 125 2 (xX s.list)::K) w:=by rw [<- wP (xW s.list) nm (IntKind.i64.wrap (((yC (xW s.list) nm).getD 0)+1))];exact N
 refine Reg [1,1,1,2,1,1,0,0] [0,1,2,3] fun w N a J=>?_
 refine zF call157 (fun w N a J=>?_) (c:=y3n N)
 refine uF 2 runUnderlying98 runUnderlying9 fun w N a J=>?_
 replace N:Mem Φ (.blk bb (ob [pv,fv,.map (some mb),.map (some mk),lv] 199)::.mp mb (zN (qJ (xW s.list) nm (IntKind.i64.wrap (((yC (xW s.list) nm).getD 0)+1))))::.mp mk (zN (qJ s.kinds nm (z5a m)))::.gs (lv) 125 2 (xX s.list)::K) w:=by rw [<- wP s.kinds nm (z5a m)];exact N
 refine yE fun a J=>?_
 refine qG fun v9 w N a J=>?_
 refine vL 4 j0t (fun n w N a J=>?_) (hb:=by have k:=of_decide_eq_true (zD d);rw [z2k];simp only [lcQ,lnQ];omega)
 refine Sto 1 fun w N a J=>?_
 refine go fun a J=>?_
 replace N:=N.dl [0]
 refine hQ _ _ _ (yP J results127 ?_)
 rw [j6r e (bnd_none.2 g) (of_decide_eq_true (zD d))]
 rw [g,show IntKind.i64.wrap (0+1)=1 from rfl,q8u (m:=m) (bnd_none.2 g),<- z4d s.list ⟨nm,m⟩] at N
 exact ⟨_,rfl,trivial,N⟩
 replace N:=N.dl [3,2,1,0]
 rw [y5n fun f=>absurd f.2.2 (of_decide_eq_false (zP d))];exact ⟨rfl,N⟩
 refine qC call83 (fun w N=>?_) (c:=zI N)
 replace N:=N.dl [3,2,1,0]
 rw [y5n fun f=>absurd (bnd_none.1 f.2.1) g];exact ⟨rfl,N⟩
theorem call_no {T:Trc} {s:BS} {e:TE} {c:Bool} (h:yC (nQ T) e.op=none):s.call T e c=false:=by rw [BS.call,q9h (gG h)]
theorem z7x {T:Trc} {s:BS} {e:TE} {c:Bool} {j:Nat} {f:TFn} (h:T.funs.findIdx? (fun f=>decide (f.name=e.op))=some j) (a:T.funs[j]? = some f):s.call T e c=((f.chg==c)&&s.atomL e.args (f.params.map TPar.mod)):=by
 rw [BS.call,q9g h a];dsimp only;cases hq:f.chg <;> cases c <;> simp
theorem y_beqG {n:Nat} {E:List (Nat×Value)} {D:List Deferred} {a:Act} {w:World} {x y:Operand} {b c:Bool} {t ty:TypeId} (J:EnvR n E D a) (d:ev E x=some (.bool b)) (e:ev E y=some (.bool c)) :
  Ok prog a (.binOp .eql 4 x y t) ty w (.bool (b==c)):=by
 cases b <;> cases c
 exact jC (v:=.bool true) J d e rfl (by kernel_rfl)
 exact jC (v:=.bool false) J d e rfl (by kernel_rfl)
 exact jC (v:=.bool false) J d e rfl (by kernel_rfl)
 exact jC (v:=.bool true) J d e rfl (by kernel_rfl)
theorem z7r {Φ:Fz} {K:List Res} {w:World} {bb mb mk ms:Nat} {pa fa:Addr} {lv:Value} {T:Trc} {s:BS} {c:Bool} (RP:RProg Φ pa T ms) {fd:List Value} {F:TFn} (S1:At Φ fa fd) (rf:RTFn Φ fd F) {b0:Addr} {d:List Value} {e:TE} (W:At Φ b0 d) (re:RTE Φ d e) (N:Mem Φ (.blk bb (ob [.pointer (some pa),.pointer (some fa),.map (some mb),.map (some mk),lv] 199)::.mp mk (zN s.kinds)::K) w) :
  Calls prog 196 #[.pointer (some ⟨bb,0,none⟩),.pointer (some b0),.bool c] w (fun ee w'=>Out (dem (s.call T e c)) (fun _=>ee=.returned (.tuple #[])/\Mem Φ (.blk bb (ob [.pointer (some pa),.pointer (some fa),.map (some mb),.map (some mk),lv] 199)::.mp mk (zN s.kinds)::K) w') (fun _=>ee=.panicked jB/\Mem Φ K w')):=by
 obtain ⟨J1,D0,E0,m,Z,n1,C⟩:=RP.ex
 obtain ⟨F0,e0,G0,f0,H0,c23,I0,g0,rfl,V0,h9,K1,i0,L1,c1,o1,d1,p1,e1,Y,f1,q1⟩:=RTrc.fm Z
 replace m:At Φ pa [.slice F0 T.cons.length e0,.slice G0 T.inputs.length f0,.slice H0 T.funs.length c23,.slice I0 T.outputs.length g0,.map (some D0),.map (some E0),.map (some ms)]:=m
 obtain ⟨T1,c36,F1,rfl,M1,H,g1,r1⟩:=RTFn.fm rf
 obtain ⟨U1,c44,V1,c50,W1,G1,rfl,X0,Y0,N1,O1,P1,h1,s1,i1,t1,j1,u1⟩:=RTE.fm H
 have E:=re
 obtain ⟨X1,H1,Y1,I1,Z1,c76,rfl,Z0,a1,I,Q1,R1,k1,v1,l1,w1,m1,x1⟩:=RTE.fm re
 refine zJ func196 ntmps196 fun Q hQ a J=>?_
 refine Reg [1,1,1,2,1,1,2,1,1,1,2,2,1,1,1,1,1] [0,1] fun w N a J=>?_
 refine go fun a J=>?_
 rcases n:jJ ((zN (nQ T))) e.op with _ | E1
 have j:=congrArg (zZ true (.int .i64 ((0:Nat):Int))) n
 refine Qq (fun a J=>?_) (o:=by exact fun J O=>Ok.cast (yT runUnderlying98 runUnderlying9 zeroValue3 J O rfl rfl C) (show zZ true (.int .i64 ((0:Nat):Int)) (jJ ((zN (nQ T))) e.op)=.tuple #[.int .i64 ((0:Nat):Int),.bool false] from j))
 refine qC call83 (fun w N=>?_) (c:=zI N)
 replace N:=N.dl [1,0]
 rw [call_no (vQ n),show dem false=.error () from rfl];exact ⟨rfl,N⟩
 obtain ⟨b2,a0,rfl⟩:=pW n
 obtain ⟨C0,rfl,t,X⟩:=gH a0
 have j:=congrArg (zZ true (.int .i64 ((0:Nat):Int))) n
 refine Qq (fun a J=>?_) (o:=by exact fun J O=>Ok.cast (yT runUnderlying98 runUnderlying9 zeroValue3 J O rfl rfl C) (show zZ true (.int .i64 ((0:Nat):Int)) (jJ ((zN (nQ T))) e.op)=.tuple #[.int .i64 C0,.bool true] from j))
 refine go fun a J=>?_
 obtain ⟨a2,rfl,g,q,Q0,b1,A,u⟩:=i0.el Y X
 obtain ⟨y1,L0,K0,rfl,j0,r,p0,M⟩:=RTFn.fm u
 obtain ⟨z1,M0,A1,N0,B1,O0,rfl,m0,n0,R0,S0,U0,q0,w0,r0,x0,s0,y0⟩:=RTE.fm r
 refine Qq (fun a J=>?_) (o:=by exact fun J O=>y_beqG J rfl rfl)
 refine yG call83 (fun c0 w h N a J=>?_) (fun c0 w h N=>?_) (c:=yD (b:=(g.chg==c)) N)
 refine go fun a J=>?_
 have A0:=(j3r RP.ok q).2.2
 replace N:=N.nilRow 4 1
 replace N:=N.nf
 refine qD (J.ks [0,1,55,56]) N (fun R mm a w=>∃(i:Nat) (vr:Value),mm=g.params.length - i/\R Φ [(8,vr),(57,.int .i64 i)] [(0,.gs (vr) 4 1 (gB ((g.params.take i).map TPar.mod)))] a w/\(True)) (g.params.length - 0) ⟨0,.slice none 0 0,rfl,⟨J.pk,N⟩,trivial⟩ ?_
 clear N J
 rintro mm a w ⟨i,vr,u0,⟨J,N⟩,k0⟩ J0 L
 replace N:=N.nf
 by_cases z:i < g.params.length
 refine go fun a J=>?_
 obtain ⟨D1,rfl,y,S,h0,o0,l0,P⟩:=j0.el M z
 obtain rfl:=id P
 refine Alc fun V w N a J=>?_
 refine Sto 0 fun w N a J=>?_
 refine qG fun v146 w N a J=>?_
 refine vL 2 j0v (fun G w N a J=>?_) (hb:=by simp only [gX,List.length_map,List.length_take,lcQ,lnQ];omega)
 refine go fun a J=>?_
 replace N:Mem Φ (.gs (v146) 4 1 [.bool y.mod]::.blk V (ob [.string y.name,.bool y.mod] 125)::.gs (G) 4 1 (gB ((g.params.take (i+1)).map TPar.mod))::.blk bb (ob [.pointer (some pa),.pointer (some fa),.map (some mb),.map (some mk),lv] 199)::.mp mk (zN s.kinds)::K) w:=by rw [jA S,List.map_append,<- j2m];exact N
 replace N:=N.dl [1,0]
 refine L _ _ _ (by subst u0;omega) ⟨(i+1),(G),rfl,⟨J.pk,N⟩,?_⟩
 trivial
 refine go fun a J=>?_
 replace N:Mem Φ (.gs (vr) 4 1 (gB (g.params.map TPar.mod))::.blk bb (ob [.pointer (some pa),.pointer (some fa),.map (some mb),.map (some mk),lv] 199)::.mp mk (zN s.kinds)::K) w:=by rw [<- List.take_of_length_le (l:=g.params) (Nat.le_of_not_lt z)];exact N
 have B:=N
 clear N
 obtain ⟨U,f,N,v⟩:=B.freezeRow (i:=0) rfl
 clear B
 replace m:=m.mono f
 replace H:=RTE.mono _ _ _ _ f H
 replace I:=I.mono RAtom.mono f
 replace W:=W.mono f
 replace E:=RTE.mono _ _ _ _ f E
 replace A:=A.mono f
 replace u:=RTFn.mono _ _ _ _ f u
 replace r:=RTE.mono _ _ _ _ f r
 replace N:=N.nf
 have p:SliceOf RBoo U 1 _ ((g.params.map TPar.mod)):=⟨_,v,(kO (g.params.map TPar.mod))⟩
 obtain ⟨C1,P0,B0,t0,z0⟩:=p.form (by decide)
 have D:=N
 clear N
 subst B0
 have N:=D
 clear D
 replace N:=N.ar [] [1,1]
 refine yG call195 (fun d0 w k N a J=>?_) (fun d0 w k N=>?_) (c:=mW (s:=s) I p N)
 refine go fun a J=>?_
 replace N:=N.le (f)
 refine hQ _ _ _ (yP J results196 ?_)
 rw [z7x t q,zD h,Bool.true_and,zD k,show dem true=.ok () from rfl];exact ⟨rfl,N⟩
 replace N:=N.le (f)
 rw [z7x t q,zD h,Bool.true_and,zP k,show dem false=.error () from rfl];exact ⟨rfl,N⟩
 replace N:=N.dl [1,0]
 rw [z7x t q,zP h,Bool.false_and,show dem false=.error () from rfl];exact ⟨rfl,N⟩
end Go.Sw
