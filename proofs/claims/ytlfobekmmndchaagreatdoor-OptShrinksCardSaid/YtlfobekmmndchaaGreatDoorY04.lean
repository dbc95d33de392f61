import Derived.Laws.IdiomRangeMap
import Derived.Test.YtlfobekmmndchaaGreatDoorY03
set_option linter.unusedVariables false
set_option linter.unusedSimpArgs false
namespace Go.Sw
open Go.Proofs Go.Proofs.Tryz
set_option maxRecDepth 20000
set_option maxHeartbeats 4000000
mutual
def okT:TE->Prop
 | .mk k _ _ _ _ _ arms body=>(k=7->body=[])/\(k≠7->arms=[])/\okTa arms/\okTs body
def okTs:List TE->Prop
 | []=>True
 | x::xs=>okT x/\okTs xs
def okTa:List TA->Prop
 | []=>True
 | .mk _ _ b::xs=>okT b/\okTa xs
end
theorem y0p:∀{l:List TE} {x:TE},okTs l->x∈l->okT x
 | y::l,x,h,a=>by
  rcases List.mem_cons.1 a with rfl | a
  ·exact h.1
  ·exact y0p h.2 a
theorem y0o:∀{l:List TA} {x:TA},okTa l->x∈l->okT x.body
 | .mk _ _ b::l,x,h,a=>by
  rcases List.mem_cons.1 a with rfl | a
  ·exact h.1
  ·exact y0o h.2 a
theorem y9e (e:TE):okT e↔(e.kind=7->e.body=[])/\(e.kind≠7->e.arms=[])/\okTa e.arms/\okTs e.body:=by cases e;simp only [okT,TE.kind,TE.arms,TE.body]
theorem jX (e:TE):zA e=1+weightTa e.arms+weightTs e.body:=by cases e;simp only [zA,TE.arms,TE.body]
theorem z4a:∀{l:List TE} {x:TE},x∈l->zA x<=weightTs l
 | y::l,x,a=>by
  rw [weightTs];rcases List.mem_cons.1 a with rfl | a
  ·omega
  ·have:=z4a a;omega
theorem z3z:∀{l:List TA} {x:TA},x∈l->zA x.body<=weightTa l
 | .mk _ _ b::l,x,a=>by
  rw [weightTa];rcases List.mem_cons.1 a with rfl | a
  ·simp only [TA.body];omega
  ·have:=z3z a;omega
theorem vN {e x:TE} (h:x∈e.body):zA x < zA e:=by have:=z4a h;rw [jX e];omega
theorem kM {e:TE} {a:TA} (h:a∈e.arms):zA a.body < zA e:=by have:=z3z h;rw [jX e];omega
theorem jS (p:List Int) (up:List TE) (e:TE):zF p up e=⟨p,up,e⟩::(belowTa p (up++[e]) 0 e.arms++belowTs p (up++[e]) 0 e.body):=by cases e;rfl
theorem mem_belowTs {p:List Int} {up:List TE} {z:Fnd}:∀{l:List TE} {i:Int},z∈belowTs p up i l↔∃(j:Nat) (x:TE),l[j]? = some x/\z∈zF (p++[i+(j:Int)]) up x
 | [],i=>by simp [belowTs]
 | y::l,i=>by
  rw [belowTs,List.mem_append,mem_belowTs (l:=l)];constructor
  ·rintro (h | ⟨j,x,a,b⟩)
   ·exact ⟨0,y,rfl,by rw [show i+((0:Nat):Int)=i by omega];exact h⟩
   ·exact ⟨j+1,x,a,by rw [show i+((j+1:Nat):Int)=i+1+(j:Int) by omega];exact b⟩
  ·rintro ⟨j,x,a,b⟩
   cases j with
   | zero=>rw [List.getElem?_cons_zero,Option.some.injEq] at a;subst a;rw [show i+((0:Nat):Int)=i by omega] at b;exact .inl b
   | succ j=>rw [List.getElem?_cons_succ] at a;exact .inr ⟨j,x,a,by rw [show i+1+(j:Int)=i+((j+1:Nat):Int) by omega];exact b⟩
theorem mem_belowTa {p:List Int} {up:List TE} {z:Fnd}:∀{l:List TA} {i:Int},z∈belowTa p up i l↔∃(j:Nat) (x:TA),l[j]? = some x/\z∈zF (p++[i+(j:Int)]) up x.body
 | [],i=>by simp [belowTa]
 | .mk c vs b::l,i=>by
  rw [belowTa,List.mem_append,mem_belowTa (l:=l)];constructor
  ·rintro (h | ⟨j,x,a,d⟩)
   ·exact ⟨0,.mk c vs b,rfl,by rw [show i+((0:Nat):Int)=i by omega];exact h⟩
   ·exact ⟨j+1,x,a,by rw [show i+((j+1:Nat):Int)=i+1+(j:Int) by omega];exact d⟩
  ·rintro ⟨j,x,a,d⟩
   cases j with
   | zero=>rw [List.getElem?_cons_zero,Option.some.injEq] at a;subst a;rw [show i+((0:Nat):Int)=i by omega] at d;exact .inl d
   | succ j=>rw [List.getElem?_cons_succ] at a;exact .inr ⟨j,x,a,by rw [show i+1+(j:Int)=i+((j+1:Nat):Int) by omega];exact d⟩
theorem x2k {e:TE} {j:Nat} {a:TA} (b:e.kind=7) (h:e.arms[j]? = some a):cQ e ((j:Nat):Int)=some a.body:=by
 have c:=(List.getElem?_eq_some_iff.1 h).1;rw [cQ,if_neg (by omega),if_pos ⟨b,by omega⟩,Int.toNat_natCast,h];rfl
theorem j6l {e x:TE} {j:Nat} (a:¬e.kind=7) (h:e.body[j]? = some x):cQ e ((j:Nat):Int)=some x:=by
 have b:=(List.getElem?_eq_some_iff.1 h).1;rw [cQ,if_neg (by omega),if_neg (fun q=>a q.1),if_pos (by omega),Int.toNat_natCast,h]
theorem gY {e x:TE} {i:Int} (k:okT e) (h:cQ e i=some x):∃j:Nat,i=(j:Int)/\((e.kind=7/\∃a,e.arms[j]? = some a/\a.body=x)∨(¬e.kind=7/\e.body[j]? = some x)):=by
 have d:=(y9e e).1 k;unfold cQ at h;split at h
 ·cases h
 ·rename_i hi
  refine ⟨i.toNat,by omega,?_⟩;split at h
  ·rename_i c
   obtain ⟨a,f,g⟩:=Option.map_eq_some_iff.1 h;exact .inl ⟨c.1,a,f,g⟩
  ·split at h
   ·rename_i c hb
    by_cases b:e.kind=7
    ·rw [d.1 b] at h;cases h
    ·exact .inr ⟨b,h⟩
   ·cases h
theorem sO:∀(n:Nat) (e:TE),zA e < n->okT e->∀{p:List Int} {up:List TE} {y:Fnd},y∈zF p up e->∃q,y.path=p++q/\yD up e q=some (y.up,y.x)/\okT y.x
 | 0,_,h,_,_,_,_,_=>absurd h (Nat.not_lt_zero _)
 | n+1,e,r,o,p,up,y,b=>by
  have f:=(y9e e).1 o;rw [jS,List.mem_cons,List.mem_append,mem_belowTa,mem_belowTs] at b;rcases b with rfl | ⟨j,a,c,b⟩ | ⟨j,x,d,b⟩
  ·exact ⟨[],by simp,rfl,o⟩
  ·have i:e.kind=7:=Classical.byContradiction fun g=>by rw [f.2.1 g] at c;cases c
   obtain ⟨q,k,l,m⟩:=sO n a.body (by have:=kM (mgQ c);omega) (y0o f.2.2.1 (mgQ c)) b;exact ⟨(j:Int)::q,by rw [k,Int.zero_add,List.append_assoc];rfl,by rw [yD,x2k i c];exact l,m⟩
  ·have i:¬e.kind=7:=fun g=>by rw [f.1 g] at d;cases d
   obtain ⟨q,k,l,m⟩:=sO n x (by have:=vN (mgQ d);omega) (y0p f.2.2.2 (mgQ d)) b;exact ⟨(j:Int)::q,by rw [k,Int.zero_add,List.append_assoc];rfl,by rw [yD,j6l i d];exact l,m⟩
theorem dC:∀(q:List Int) {e:TE},okT e->∀{p:List Int} {up u:List TE} {x:TE},yD up e q=some (u,x)->(⟨p++q,u,x⟩:Fnd)∈zF p up e
 | [],e,_,p,up,u,x,h=>by
  simp only [yD,Option.some.injEq,Prod.mk.injEq] at h;obtain ⟨rfl,rfl⟩:=h;rw [jS,List.append_nil];exact msQ
 | i::q,e,f,p,up,u,x,h=>by
  have b:=(y9e e).1 f;rw [yD] at h;obtain ⟨y,k,c⟩:=Option.bind_eq_some_iff.1 h;obtain ⟨j,rfl,⟨l,a,d,rfl⟩ | ⟨l,g⟩⟩:=gY f k
  ·have:=dC q (y0o b.2.2.1 (mgQ d)) (p:=p++[(j:Int)]) c
   rw [jS];refine mcQ _ (List.mem_append_left _ (mem_belowTa.2 ⟨j,a,d,?_⟩));rw [Int.zero_add]
   rwa [List.append_assoc] at this
  ·have:=dC q (y0p b.2.2.2 (mgQ g)) (p:=p++[(j:Int)]) c
   rw [jS];refine mcQ _ (List.mem_append_right _ (mem_belowTs.2 ⟨j,y,g,?_⟩));rw [Int.zero_add]
   rwa [List.append_assoc] at this
def okP (T:Trc):Prop:=∀f∈T.funs,okT f.body
theorem q8h {T:Trc} (h:okP T) {i:Nat} {s:Rw}:s∈qS T i↔∃f,T.funs[i]? = some f/\s.fn=(i:Int)/\s.num=0/\1<=s.rule/\s.rule<=5/\∃up x,yD [] f.body s.path=some (up,x)/\((⟨T,f⟩:FnS).try5 s.rule x up s.path).isSome=true:=by
 unfold qS z8e;cases j:T.funs[i]? with
 | none=>simp
 | some f=>
  simp only [Option.map_some,List.mem_flatMap,jD,List.mem_map,List.mem_filter];have hb:=h f (mgQ j);constructor
  ·rintro ⟨y,n,r,⟨l,m⟩,rfl⟩
   obtain ⟨q,c,o,_⟩:=sO _ f.body (Nat.lt_succ_self _) hb n;rw [List.nil_append] at c;refine ⟨f,rfl,rfl,rfl,?_,?_,y.up,y.x,by rw [c];exact o,m⟩ <;> (simp only [List.mem_cons,List.not_mem_nil,or_false] at l ⊢;omega)
  ·rintro ⟨g,k,a,b,t,u,up,x,d,e⟩
   cases k;have:=dC s.path hb (p:=[]) d;rw [List.nil_append] at this;refine ⟨_,this,s.rule,⟨?_,e⟩,?_⟩
   ·simp only [List.mem_cons,List.not_mem_nil,or_false];omega
   ·cases s;simp only at a b;subst a;subst b;rfl
theorem y7t {T:Trc} (g:okP T) {i:Nat} {s:Rw} (h:s∈qS T i):∃U,vF T s=.ok U:=by
 obtain ⟨f,a,b,c,k,l,up,x,d,e⟩:=(q8h g).1 h;obtain ⟨y,j⟩:=Option.isSome_iff_exists.1 e;have hi:=(List.getElem?_eq_some_iff.1 a).1;refine ⟨jI T i (zY f.body s.path y),?_⟩;rw [vF,if_neg (by omega),if_neg (by omega),if_neg (by omega),b,Int.toNat_natCast,z8e,a];simp only [Option.map_some,d,c,ne_eq,not_true_eq_false,if_false,j]
theorem q0h {T:Trc} (c:okP T) {s:Rw} (h:s∈jC T):∃U,vF T s=.ok U:=by
 unfold jC at h;rcases List.mem_append.1 h with h | h
 ·obtain ⟨i,_,h⟩:=List.mem_flatMap.1 h
  exact y7t c h
 ·obtain ⟨i,a,rfl⟩:=List.mem_map.1 h
  obtain ⟨a,b⟩:=List.mem_filter.1 a;have hi:=List.mem_range.1 a;refine ⟨{ T with funs:=T.funs.eraseIdx i },?_⟩;rw [vF,if_neg (by simp only;omega),if_neg (by simp only;omega),if_pos rfl,if_neg]
  ·simp only [Int.toNat_natCast]
  simp only [Int.toNat_natCast,b,ne_eq,not_true_eq_false,Bool.true_eq_false,or_false,not_false_eq_true]
section
variable {f:FnS} {x y e:TE} {T U:Trc}
end
structure ArI (e:TE):Prop where
 two:e.kind=1->e.args.length=2
 one:e.kind=5∨e.kind=7∨e.kind=8∨e.kind=9->e.args.length=1
 rest:1<=e.kind->e.kind<=6->e.body.length=1
 last:7<=e.kind->e.body=[]
 arms:e.kind≠7->e.arms=[]
 lo:1<=e.kind
 hi:e.kind<=10
mutual
def arT:TE->Prop
 | .mk k nm op num site args arms body=>ArI (.mk k nm op num site args arms body)/\arTa arms/\arTs body
def arTs:List TE->Prop
 | []=>True
 | x::xs=>arT x/\arTs xs
def arTa:List TA->Prop
 | []=>True
 | .mk _ _ b::xs=>arT b/\arTa xs
end
theorem arT_eq (e:TE):arT e↔ArI e/\arTa e.arms/\arTs e.body:=by cases e;exact Iff.rfl
theorem arTs_iff:∀{l:List TE},arTs l↔∀x∈l,arT x
 | []=>by simp [arTs]
 | x::l=>by rw [arTs,arTs_iff (l:=l)];simp
theorem arTa_iff:∀{l:List TA},arTa l↔∀x∈l,arT x.body
 | []=>by simp [arTa]
 | .mk c vs b::l=>by rw [arTa,arTa_iff (l:=l)];simp [TA.body]
mutual
theorem oC:∀e:TE,arT e->okT e
 | .mk k nm op num site args arms body,h=>by
  obtain ⟨a,c,d⟩:=h;exact ⟨fun q=>a.last (by show 7<=k;omega),a.arms,arTa_ok arms c,arTs_ok body d⟩
theorem arTs_ok:∀l:List TE,arTs l->okTs l
 | [],_=>trivial
 | x::l,h=>⟨oC x h.1,arTs_ok l h.2⟩
theorem arTa_ok:∀l:List TA,arTa l->okTa l
 | [],_=>trivial
 | .mk _ _ b::l,h=>⟨oC b h.1,arTa_ok l h.2⟩
end
theorem kR {e:TE} {a b c d f g r:Bool} (h:zB e a b c d f g r=true):(r=true->e.body.length=1)/\(r=false->e.body=[])/\(g=false->e.arms=[]):=by
 simp only [zB,baQ,decide_eq_true_eq,Bool.or_eq_true] at h;obtain ⟨⟨⟨_,i⟩,j⟩,k⟩:=h;refine ⟨fun q=>?_,fun q=>?_,fun q=>?_⟩
 ·rw [q] at j;exact of_decide_eq_true j.symm
 ·rw [q] at j
  have l:¬e.body.length=1:=of_decide_eq_false j.symm;exact List.eq_nil_of_length_eq_zero (by omega)
 ·rcases i with i | i
  ·rw [q] at i;cases i
  ·exact List.eq_nil_of_length_eq_zero i
theorem xK {s:BS}:∀{l:List Atom} {m:List Bool},s.atomL l m=true->l.length=m.length
 | [],[],_=>rfl
 | _::_,[],h=>by cases h
 | [],_::_,h=>by cases h
 | a::l,b::m,h=>by
  simp only [BS.atomL,baQ] at h;rw [lcQ,lcQ,xK h.2]
theorem oM {T:Trc} {chg:Bool} {e:TE} {s z:BS} (h:yY T chg e s=some z):ArI e:=by
 unfold yY at h;split at h
 ·rename_i d
  split at h
  ·rename_i q
   simp only [baQ] at q;obtain ⟨b,c,a⟩:=kR q.1.1;exact ⟨fun _=>xK q.2,fun _=>by omega,fun _ _=>b rfl,fun _=>by omega,fun _=>a rfl,by omega,by omega⟩
  ·cases h
 split at h
 ·split at h
  ·rename_i q
   obtain ⟨b,c,a⟩:=kR q;exact ⟨fun _=>by omega,fun _=>by omega,fun _ _=>b rfl,fun _=>by omega,fun _=>a rfl,by omega,by omega⟩
  ·cases h
 split at h
 ·split at h
  ·rename_i q
   simp only [baQ] at q;obtain ⟨b,c,a⟩:=kR q.1;exact ⟨fun _=>by omega,fun _=>by omega,fun _ _=>b rfl,fun _=>by omega,fun _=>a rfl,by omega,by omega⟩
  ·cases h
 split at h
 ·split at h
  ·rename_i q
   simp only [baQ] at q;obtain ⟨b,c,a⟩:=kR q.1;exact ⟨fun _=>by omega,fun _=>by omega,fun _ _=>b rfl,fun _=>by omega,fun _=>a rfl,by omega,by omega⟩
  ·cases h
 split at h
 ·split at h
  ·rename_i q
   simp only [baQ] at q;obtain ⟨b,c,a⟩:=kR q.1.1;exact ⟨fun _=>by omega,fun _=>xK q.2,fun _ _=>b rfl,fun _=>by omega,fun _=>a rfl,by omega,by omega⟩
  ·cases h
 split at h
 ·split at h
  ·rename_i q
   simp only [baQ] at q;obtain ⟨b,c,a⟩:=kR q.1.1;exact ⟨fun _=>by omega,fun _=>by omega,fun _ _=>b rfl,fun _=>by omega,fun _=>a rfl,by omega,by omega⟩
  ·cases h
 split at h
 ·split at h
  ·rename_i q
   simp only [baQ] at q;obtain ⟨b,c,a⟩:=kR q.1.1;exact ⟨fun _=>by omega,fun _=>xK q.2,fun _ _=>by omega,fun _=>c rfl,fun _=>a rfl,by omega,by omega⟩
  ·cases h
 split at h
 ·split at h
  ·rename_i q
   simp only [baQ] at q;obtain ⟨b,c,a⟩:=kR q.1.1;exact ⟨fun _=>by omega,fun _=>xK q.2,fun _ _=>by omega,fun _=>c rfl,fun _=>a rfl,by omega,by omega⟩
  ·cases h
 split at h
 ·split at h
  ·rename_i q
   simp only [baQ] at q;obtain ⟨b,c,a⟩:=kR q.1;exact ⟨fun _=>by omega,fun _=>by omega,fun _ _=>by omega,fun _=>c rfl,fun _=>a rfl,by omega,by omega⟩
  ·cases h
 ·cases h
mutual
theorem z2i {T:Trc} {chg:Bool}:∀{e:TE} {s z:BS},jH T chg e s=some z->arT e
 | .mk k nm op num site args arms body,s,z,h=>by
  unfold jH at h;obtain ⟨s1,d,f⟩:=Option.bind_eq_some_iff.1 h;have hb:=rest_ar f;split at d
  ·rename_i g
   subst g;split at d
   ·rename_i q
    simp only [baQ] at q;obtain ⟨p,o,t⟩:=kR q.1;have hl:=xK q.2;cases args with
    | nil=>cases d
    | cons a l=>
     cases arms with
     | nil=>cases d
     | cons b r=>
      obtain ⟨c,vs,bo⟩:=b;simp only at d;split at d
      ·cases d
      ·split at d
       ·obtain ⟨j,m,_⟩:=Option.bind_eq_some_iff.1 d
        exact ⟨⟨fun (h:(7:Int)=1)=>(by cases h),fun _=>hl,fun (_:(1:Int)<=7) (h:(7:Int)<=6)=>by omega,fun _=>o rfl,fun h=>absurd rfl h,by show (1:Int)<=7;decide,by show (7:Int)<=10;decide⟩,arms_ar m,hb⟩
       ·cases d
   ·cases d
  ·have hi:=oM d
   rename_i g;have n:arms=[]:=hi.arms g;exact ⟨hi,by rw [n];exact trivial,hb⟩
theorem rest_ar {T:Trc} {chg:Bool} {nm:Bs} {mod:Bool}:∀{l:List TE} {s z:BS},restT T chg nm mod l s=some z->arTs l
 | [],_,_,_=>trivial
 | x::xs,s,z,h=>by
  rw [restT] at h;obtain ⟨s1,_,h⟩:=Option.bind_eq_some_iff.1 h;obtain ⟨j,d,f⟩:=Option.bind_eq_some_iff.1 h;exact ⟨z2i d,rest_ar f⟩
theorem arms_ar {T:Trc} {chg:Bool} {first:Nat} {outer:List (Bs×Int)}:∀{l:List TA} {i:Nat} {s z:BS},armsT T chg first outer i l s=some z->arTa l
 | [],_,_,_,_=>trivial
 | .mk c vs b::xs,i,s,z,h=>by
  rw [armsT] at h;split at h
  ·obtain ⟨s1,_,h⟩:=Option.bind_eq_some_iff.1 h
   obtain ⟨j,d,f⟩:=Option.bind_eq_some_iff.1 h;exact ⟨z2i d,arms_ar f⟩
  ·cases h
end
def arP (T:Trc):Prop:=∀f∈T.funs,arT f.body
theorem j1n {T:Trc}:∀{l:List TFn} {m z:List (Int×Int)},wY T l m=some z->∀f∈l,arT f.body
 | [],_,_,_,_,h=>by cases h
 | g::l,m,z,h,f,a=>by
  rw [wY] at h;obtain ⟨s,b,c⟩:=Option.bind_eq_some_iff.1 h;rcases List.mem_cons.1 a with rfl | a
  ·unfold aK at b
   obtain ⟨e,_,d⟩:=Option.bind_eq_some_iff.1 b;exact z2i d
  ·exact j1n c f a
theorem j9f {T:Trc} (h:zM T=true):arP T:=by
 simp only [zM,baQ] at h;obtain ⟨z,a⟩:=Option.isSome_iff_exists.1 h.2;exact j1n a
theorem q6v {T:Trc} (h:zM T=true):okP T:=fun f a=>oC _ (j9f h f a)
theorem Mem.freezeRowT {Φ:Fz} {K:List Res} {w:World} {v:Value} {T:TypeId} {k i:Nat} {cs:List Value} (N:Mem Φ K w) (s:yU K i=some (.gs v T k cs)) :
  ∃Ψ,Φ.Le Ψ/\Mem Ψ (cZ K i) w/\Row Ψ v k cs/\∀K' w',Mem Ψ K' w'->Mem Φ (.gs v T k cs::K') w':=by
 have h:=N.pull s;obtain ⟨m,hl,u⟩:=N.own _ (yR s);rcases u with ⟨rfl,rfl⟩ | ⟨b,cap,cur,rfl,t,x,a,g,n,d⟩
 ·refine ⟨Φ,Fz.Le.refl Φ,h.tail,.inl ⟨rfl,List.eq_nil_of_length_eq_zero (by simpa using hl)⟩,fun K' w' h'=>?_⟩
  have:cs=[]:=List.eq_nil_of_length_eq_zero (by simpa using hl);subst this;exact h'.nilRow T k
 ·have f:=h.no (b:=b) rfl
  refine ⟨_,Fz.le_add f _,h.freezeHead (b:=b) rfl x,.inr ⟨_,m,cap,rfl,hl,Nat.le_trans a g,fun _=>⟨rfl,cur,T,(0,0),by simp [Fz.add],fun j v l=>?_⟩⟩,fun K' w' h'=>?_⟩
  ·rw [<- d,List.getElem?_take] at l
   split at l
   ·simpa using l
   ·cases l
  ·have hb:w'.heap[b]? = some (.cells cur T (0,0)):=h'.fz b _ (by simp [Fz.add])
   have hk':∀c∈keys K',c≠b:=fun c a e=>by
    have:=h'.apart c a;subst e
    simp [Fz.add] at this
   refine { fz:=fun c o a=>h'.fz c o ((Fz.le_add f _).obj c o a),own:=fun r p=>?_,os:=h'.os,out:=h'.out,nodup := ?_,apart:=fun c a=>?_ }
   ·rcases List.mem_cons.1 p with rfl | p
    ·exact ⟨m,hl,.inr ⟨b,cap,cur,rfl,t,hb,a,g,n,d⟩⟩
    ·exact h'.own r p
   ·show (keys (.gs _ _ _ _::K')).Nodup
    simp only [keys,List.filterMap_cons,Res.foot,Value.ownBlock,List.nodup_cons];exact ⟨fun a=>hk' _ a rfl,h'.nodup⟩
   ·simp only [keys,List.filterMap_cons,Res.foot,Value.ownBlock,List.mem_cons] at a
    rcases a with rfl | a
    ·exact f
    ·have q:=h'.apart c a
     simp only [Fz.add,if_neg (hk' c a)] at q;exact q
def Fz.del (Φ:Fz) (b:Nat):Fz:={ Φ with obj:=fun c=>if c=b then none else Φ.obj c }
theorem At.del {Φ:Fz} {p:Addr} {cs:List Value} {b:Nat} (h:At Φ p cs) (hb:p.block≠b):At (Φ.del b) p cs:=by
 obtain ⟨a,cur,T,o,c,d⟩:=h;exact ⟨a,cur,T,o,by simp only [Fz.del,if_neg hb];exact c,d⟩
section
variable {Φ:Fz} {K:List Res} {w:World}
theorem y5v {b:Bool}  (N:Mem Φ K w) :
  Calls prog 157 #[.bool b] w (fun ee w'=>ee=.returned (.int .i64 ((vJ b)))/\Mem Φ K w'):=by
 refine zJ func157 ntmps157 fun Q hQ a J=>?_;refine go fun a J=>?_;cases b;refine yG ?_;exact y6q N (by rfl);refine yG ?_;exact y6q N (by rfl)
def dem (b:Bool):Except Unit Unit:=if b=true then .ok () else .error ()
def jK:List PanicEntry:=[{ v:=.iface 137 (.agg #[.int .i64 120,.int .i64 0]),recovered:=false }]
def vB:List PanicEntry:=[{ v:=.iface 189 (.agg #[]),recovered:=false }]
theorem yC {b:Bool} (N:Mem Φ K w) :
  Calls prog 83 #[.bool b] w (fun ee w'=>Out (dem b) (fun _=>ee=.returned (.tuple #[])/\Mem Φ K w') (fun _=>ee=.panicked jK/\Mem Φ K w')):=by
 refine zJ func83 ntmps83 fun Q hQ a J=>?_;refine go fun a J=>?_;cases b;refine yE fun a J=>?_;refine Qq (fun a J=>?_) (o:=by exact fun J O=>yL J rfl runUnderlying137 (by intro ms h;cases h));refine st0 J rfl rfl (xG J rfl (xH _) (fun a c=>hQ _ _ _ (zT c ?_)));rw [show dem false=.error () from rfl];exact ⟨rfl,N⟩;refine go fun a J=>?_;refine hQ _ _ _ (yN J results83 ?_);rw [show dem true=.ok () from rfl];exact ⟨rfl,N⟩
theorem xX {b:Bool} (N:Mem Φ K w) :
  Calls prog 188 #[.bool b] w (fun ee w'=>Out (dem b) (fun _=>ee=.returned (.tuple #[])/\Mem Φ K w') (fun _=>ee=.panicked vB/\Mem Φ K w')):=by
 refine zJ func188 ntmps188 fun Q hQ a J=>?_;refine go fun a J=>?_;cases b;refine yE fun a J=>?_;refine Qq (fun a J=>?_) (o:=by exact fun J O=>yL J rfl runUnderlying189 (by intro ms h;cases h));refine st0 J rfl rfl (xG J rfl (xH _) (fun a c=>hQ _ _ _ (zT c ?_)));rw [show dem false=.error () from rfl];exact ⟨rfl,N⟩;refine go fun a J=>?_;refine hQ _ _ _ (yN J results188 ?_);rw [show dem true=.ok () from rfl];exact ⟨rfl,N⟩
def ixL (v:Bs):List Bs->Nat->Int
 | [],_=>-1
 | x::xs,i=>if v=x then (i:Int) else ixL v xs (i+1)
theorem j1z (v:Bs):∀(l:List Bs) (i:Nat),decide (0<=ixL v l i)=l.contains v
 | [],_=>by simp [ixL]
 | x::xs,i=>by
  rw [ixL,List.contains_cons,wL];by_cases h:v=x;rw [if_pos h,decide_eq_true (Int.natCast_nonneg i),decide_eq_true h,Bool.true_or];rw [if_neg h,j1z v xs (i+1),decide_eq_false h,Bool.false_or]
theorem ixL_hit {v x:Bs} {l:List Bs} {i:Nat} (h:ixL v l 0=ixL v (l.drop i) i) (a:l[i]? = some x) (e:v=x):ixL v l 0=(i:Int):=by rw [h,yM a,ixL,if_pos e]
theorem x2d {v x:Bs} {l:List Bs} {i:Nat} (h:ixL v l 0=ixL v (l.drop i) i) (a:l[i]? = some x) (e:¬v=x):ixL v l 0=ixL v (l.drop (i+1)) (i+1):=by rw [h,yM a,ixL,if_neg e]
theorem ixL_out {v:Bs} {l:List Bs} {i:Nat} (h:ixL v l 0=ixL v (l.drop i) i) (hi:¬i < l.length):ixL v l 0=-1:=by rw [h,qV hi,ixL]
theorem j7c {v0:Value} {l:List Bs} {v:Bs} (g:SliceOf RStr Φ 1 v0 l) (N:Mem Φ K w) :
  Calls prog 129 #[v0,.string v] w (fun ee w'=>ee=.returned (.int .i64 ((ixL v l 0)))/\Mem Φ K w'):=by
 obtain ⟨t,c0,rfl,q,m⟩:=g.fm;refine zJ func129 ntmps129 fun Q hQ a J=>?_;refine go fun a J=>?_;refine yO (J.ks [0,1,7]) N (fun R mm a w=>∃(i:Nat),mm=l.length - i/\R Φ [(8,.int .i64 i)] [] a w/\(ixL v l 0=ixL v (l.drop i) i)) (l.length - 0) ⟨0,rfl,⟨J.pk,N⟩,rfl⟩ ?_;clear N J;rintro mm a w ⟨i,k,⟨J,N⟩,c⟩ s j;by_cases n:i < l.length;refine go fun a J=>?_;obtain ⟨r,rfl,h,b,d,p,o,f⟩:=g.el m n;obtain rfl:d=[.string h]:=f;by_cases e:v=h;refine yG ?_;exact y6q N (by rw [ixL_hit c b e]);refine go fun a J=>?_;refine j _ _ _ (by subst k;omega) ⟨(i+1),rfl,⟨J.pk,N⟩,?_⟩;exact x2d c b e;refine yG ?_;exact y6q N (by rw [ixL_out c n])
theorem oV {v0:Value} {l:List Bs} {v:Bs} (b:SliceOf RStr Φ 1 v0 l) (N:Mem Φ K w) :
  Calls prog 87 #[v0,.string v] w (fun ee w'=>ee=.returned (.bool ((l.contains v)))/\Mem Φ K w'):=by
 obtain ⟨f,c0,rfl,d,e⟩:=b.fm;refine zJ func87 ntmps87 fun Q hQ a J=>?_;refine zE call129 (fun w N a J=>?_) (c:=j7c b N);refine Qq (fun a J=>?_) (o:=by exact fun J O=>y_geqD J rfl rfl);refine yG ?_;exact mV N (by rw [j1z])
theorem y4l {v:Value} {l:List Bs} {s:Bs} (N:Mem Φ (.gs v 9 1 (strs l)::K) w) :
  Calls prog 87 #[v,.string s] w (fun ee w'=>ee=.returned (.bool (l.contains s))/\Mem Φ (.gs v 9 1 (strs l)::K) w'):=by
 obtain ⟨Ψ,_,a,b,c⟩:=N.freezeRowT (i:=0) rfl;exact (oV (SliceOf.strs.2 b) a).mono fun ee w' h=>⟨h.1,c _ _ h.2⟩
theorem j1x {s:Bs} (N:Mem Φ K w) :
  Calls prog 183 #[.string s] w (fun ee w'=>ee=.returned (.bool (gP s))/\Mem Φ K w'):=by
 refine zJ func183 ntmps183 fun Q hQ a J=>?_;refine qR fun v3 w N a J=>?_;refine zE call87 (fun w N a J=>?_) (c:=y4l (l:=[⟨#[43]⟩,⟨#[45]⟩,⟨#[42]⟩,⟨#[47]⟩,⟨#[37]⟩,⟨#[60]⟩,⟨#[61]⟩]) N);refine yG ?_;replace N:=N.dl [0];exact ⟨rfl,N⟩
def z5o (v:Val):List Value:=[.string v.con,.int .i64 v.num,.slice none 0 0]
theorem q5m {b:Bool} (N:Mem Φ K w) :
  Calls prog 212 #[.bool b] w (fun ee w'=>ee=.returned (.agg (z5o (sJ b)).toArray)/\Mem Φ K w'):=by
 refine zJ func212 ntmps212 fun Q hQ a J=>?_;refine Alc fun d w N a J=>?_;refine go fun a J=>?_;cases b;refine yE fun a J=>?_;refine Sto 0 fun w N a J=>?_;refine go fun a J=>?_;have c:=N;replace N:=N.dl [0];refine kN (N:=c) ?_;exact ⟨rfl,N⟩;refine yE fun a J=>?_;refine Sto 0 fun w N a J=>?_;refine go fun a J=>?_;have c:=N;replace N:=N.dl [0];refine kN (N:=c) ?_;exact ⟨rfl,N⟩
theorem x2b {s:Bs} (h:gP s=true):s=⟨#[43]⟩∨s=⟨#[45]⟩∨s=⟨#[42]⟩∨s=⟨#[47]⟩∨s=⟨#[37]⟩∨s=⟨#[60]⟩∨s=⟨#[61]⟩:=by
 simp only [gP,List.contains_cons,wL,Bool.or_eq_true,decide_eq_true_eq,List.contains_nil,Bool.false_eq_true,or_false] at h;exact h
theorem y5j {s:Bs} {xa xb:Int} (n:gP s=true) (N:Mem Φ K w) :
  Calls prog 185 #[.string s,.int .i64 xa,.int .i64 xb] w (fun ee w'=>ee=.returned (.tuple #[.agg (z5o (zX s xa xb)).toArray,.int .i64 0])/\Mem Φ K w'):=by
 refine zJ func185 ntmps185 fun Q hQ a J=>?_;refine Alc fun p w N a J=>?_;by_cases m:s=(⟨#[43]⟩:Bs);refine Qq (fun a J=>?_) (o:=by exact fun J O=>tW _ J rfl rfl rfl);refine yE fun a J=>?_;refine Sto 0 fun w N a J=>?_;refine go fun a J=>?_;have b:=N;replace N:=N.dl [0];refine hQ _ _ _ (qU (i:=0) (cs:=[.string ⟨#[]⟩,.int .i64 (IntKind.i64.wrap (xa+xb)),ZB]) J b.toSees results185 rfl rfl isAgg209 sizeOf209 rfl rfl ?_);refine ⟨?_,N⟩;rw [m]
 first | rfl | (simp [zX,z5o,z3x,v0,sJ,Val.con,Val.num,sNo])
 by_cases h:s=(⟨#[45]⟩:Bs);refine Qq (fun a J=>?_) (o:=by exact fun J O=>z4f _ J rfl rfl rfl);refine yE fun a J=>?_;refine Sto 0 fun w N a J=>?_;refine go fun a J=>?_;have b:=N;replace N:=N.dl [0];refine hQ _ _ _ (qU (i:=0) (cs:=[.string ⟨#[]⟩,.int .i64 (IntKind.i64.wrap (xa - xb)),ZB]) J b.toSees results185 rfl rfl isAgg209 sizeOf209 rfl rfl ?_);refine ⟨?_,N⟩;rw [h]
 first | rfl | (simp [zX,z5o,z3x,v0,sJ,Val.con,Val.num,sNo])
 by_cases j:s=(⟨#[42]⟩:Bs);refine Qq (fun a J=>?_) (o:=by exact fun J O=>y_mul _ J rfl rfl rfl);refine yE fun a J=>?_;refine Sto 0 fun w N a J=>?_;refine go fun a J=>?_;have b:=N;replace N:=N.dl [0];refine hQ _ _ _ (qU (i:=0) (cs:=[.string ⟨#[]⟩,.int .i64 (IntKind.i64.wrap (xa * xb)),ZB]) J b.toSees results185 rfl rfl isAgg209 sizeOf209 rfl rfl ?_);refine ⟨?_,N⟩;rw [j]
 first | rfl | (simp [zX,z5o,z3x,v0,sJ,Val.con,Val.num,sNo])
 refine go fun a J=>?_;by_cases f:s=(⟨#[47]⟩:Bs);by_cases d:xb=0;refine yE fun a J=>?_;refine Sto 0 fun w N a J=>?_;refine go fun a J=>?_;have b:=N;replace N:=N.dl [0];refine hQ _ _ _ (qU (i:=0) (cs:=[.string ⟨#[]⟩,ZA,ZB]) J b.toSees results185 rfl rfl isAgg209 sizeOf209 rfl rfl ?_);refine ⟨?_,N⟩;rw [f]
 first | rfl | (simp [zX,z5o,z3x,v0,sJ,Val.con,Val.num,sNo,d])
 refine Qq (fun a J=>?_) (o:=by exact fun J O=>y_quo _ J rfl rfl d rfl);refine yE fun a J=>?_;refine Sto 0 fun w N a J=>?_;refine go fun a J=>?_;have b:=N;replace N:=N.dl [0];refine hQ _ _ _ (qU (i:=0) (cs:=[.string ⟨#[]⟩,.int .i64 (IntKind.i64.wrap (xa.tdiv xb)),ZB]) J b.toSees results185 rfl rfl isAgg209 sizeOf209 rfl rfl ?_);refine ⟨?_,N⟩;rw [f]
 first | rfl | (simp [zX,z5o,z3x,v0,sJ,Val.con,Val.num,sNo,d])
 by_cases g:s=(⟨#[37]⟩:Bs);by_cases e:xb=0;refine yE fun a J=>?_;refine Sto 0 fun w N a J=>?_;refine go fun a J=>?_;have b:=N;replace N:=N.dl [0];refine hQ _ _ _ (qU (i:=0) (cs:=[.string ⟨#[]⟩,ZA,ZB]) J b.toSees results185 rfl rfl isAgg209 sizeOf209 rfl rfl ?_);refine ⟨?_,N⟩;rw [g]
 first | rfl | (simp [zX,z5o,z3x,v0,sJ,Val.con,Val.num,sNo,e])
 refine Qq (fun a J=>?_) (o:=by exact fun J O=>y_rem _ J rfl rfl e rfl);refine yE fun a J=>?_;refine Sto 0 fun w N a J=>?_;refine go fun a J=>?_;have b:=N;replace N:=N.dl [0];refine hQ _ _ _ (qU (i:=0) (cs:=[.string ⟨#[]⟩,.int .i64 (xa.tmod xb),ZB]) J b.toSees results185 rfl rfl isAgg209 sizeOf209 rfl rfl ?_);refine ⟨?_,N⟩;rw [g]
 first | rfl | (simp [zX,z5o,z3x,v0,sJ,Val.con,Val.num,sNo,e])
 by_cases k:s=(⟨#[60]⟩:Bs);refine Qq (fun a J=>?_) (o:=by exact fun J O=>j0h J rfl rfl);refine zE call212 (fun w N a J=>?_) (c:=q5m N);refine Sto 0 fun w N a J=>?_;refine go fun a J=>?_;have b:=N;replace N:=N.dl [0];refine hQ _ _ _ (qU (i:=0) (cs:=[.string (if (decide (xa < xb))=true then sTrue else q9k),ZA,ZB]) J b.toSees results185 rfl rfl isAgg209 sizeOf209 rfl rfl ?_);refine ⟨?_,N⟩;rw [k]
 first | rfl | (simp [zX,z5o,z3x,v0,sJ,Val.con,Val.num,sNo])
 by_cases l:s=(⟨#[61]⟩:Bs);refine Qq (fun a J=>?_) (o:=by exact fun J O=>vQ J rfl rfl);refine zE call212 (fun w N a J=>?_) (c:=q5m N);refine Sto 0 fun w N a J=>?_;refine go fun a J=>?_;have b:=N;replace N:=N.dl [0];refine hQ _ _ _ (qU (i:=0) (cs:=[.string (if (decide (xa=xb))=true then sTrue else q9k),ZA,ZB]) J b.toSees results185 rfl rfl isAgg209 sizeOf209 rfl rfl ?_);refine ⟨?_,N⟩;rw [l]
 first | rfl | (simp [zX,z5o,z3x,v0,sJ,Val.con,Val.num,sNo])
 refine yE fun a J=>?_;refine Sto 0 fun w N a J=>?_;refine go fun a J=>?_;have b:=N;replace N:=N.dl [0];refine hQ _ _ _ (qU (i:=0) (cs:=[.string ⟨#[]⟩,ZA,ZB]) J b.toSees results185 rfl rfl isAgg209 sizeOf209 rfl rfl ?_);rcases x2b n with h_ | h_ | h_ | h_ | h_ | h_ | h_ <;> exact absurd h_ (by assumption)
theorem zC {b:Bool} {x:Unit} (h:dem b=.ok x):b=true:=by cases b <;> first | rfl | cases h
theorem zP {b:Bool} {x:Unit} (h:dem b=.error x):b=false:=by cases b <;> first | rfl | cases h
theorem zI (N:Mem Φ K w):Calls prog 83 #[.bool false] w (fun ee w'=>ee=.panicked jK/\Mem Φ K w'):=yC (b:=false) N
theorem pV (N:Mem Φ K w):Calls prog 83 #[.bool true] w (fun ee w'=>ee=.returned (.tuple #[])/\Mem Φ K w'):=yC (b:=true) N
theorem y9f {r:Addr} {d:List Value} {e:TE} (G:At Φ r d) (re:RTE Φ d e) (N:Mem Φ K w) :
  Calls prog 194 #[.pointer (some r),.bool true,.bool true,.bool false,.bool false,.bool true,.bool false,.bool true] w (fun ee w'=>Out (dem (zB e true true false false true false true)) (fun _=>ee=.returned (.tuple #[])/\Mem Φ K w') (fun _=>ee=.panicked jK/\Mem Φ K w')):=by
 have C:=re;obtain ⟨R,c4,S,D,L,E,rfl,u,x,M,P,F,H,I,y,A,z,B⟩:=RTE.fm re;refine zJ func194 ntmps194 fun Q hQ a J=>?_;by_cases g:e.num=0;refine Qq (fun a J=>?_) (o:=by exact fun J O=>vQ J rfl rfl);refine yF call83 (fun s w k N a J=>?_) (fun s w k N=>?_) (c:=yC (b:=(decide (e.site=0))) N);by_cases l:e.arms.length=0;refine Qq (fun a J=>?_) (o:=by exact fun J O=>wE (i:=e.body.length) (j:=1) J rfl rfl);generalize h:(decide (e.body.length=1))=q at J;cases q;refine Qq (fun a J=>?_) (o:=by exact fun J O=>jB (v:=.bool false) J rfl rfl rfl (by kernel_rfl));refine qI call83 (fun w N=>?_) (c:=zI N);have f:=zC k
 first | exact absurd f (by decide) | (rw [show zB e true true false false true false true=false from by simp [zB,sNo,g,l,h,f]];exact ⟨rfl,N⟩) | (rw [show zB e true true false false true false true=false from by simp [zB,sNo,g,l,h,f] <;> omega];exact ⟨rfl,N⟩)
 refine Qq (fun a J=>?_) (o:=by exact fun J O=>jB (v:=.bool true) J rfl rfl rfl (by kernel_rfl));refine Qq (fun a J=>?_) (o:=by exact fun J O=>mZ (i:=e.body.length) (j:=1) J rfl rfl);refine yF call83 (fun t w n N a J=>?_) (fun t w n N=>?_) (c:=yC (b:=(decide (e.body.length<=1))) N);refine go fun a J=>?_;refine hQ _ _ _ (yN J results194 ?_);have f:=zC k;have p:=zC n
 first | exact absurd f (by decide) | exact absurd p (by decide) | (rw [show zB e true true false false true false true=true from by simp [zB,sNo,g,l,h,f,p]];exact ⟨rfl,N⟩) | (rw [show zB e true true false false true false true=true from by simp [zB,sNo,g,l,h,f,p] <;> omega];exact ⟨rfl,N⟩)
 have f:=zC k;have m:=zP n
 first | exact absurd f (by decide) | exact absurd m (by decide) | (rw [show zB e true true false false true false true=false from by simp [zB,sNo,g,l,h,f,m]];exact ⟨rfl,N⟩) | (rw [show zB e true true false false true false true=false from by simp [zB,sNo,g,l,h,f,m] <;> omega];exact ⟨rfl,N⟩)
 refine qI call83 (fun w N=>?_) (c:=zI N);have f:=zC k
 first | exact absurd f (by decide) | (rw [show zB e true true false false true false true=false from by simp [zB,sNo,g,l,f]];exact ⟨rfl,N⟩) | (rw [show zB e true true false false true false true=false from by simp [zB,sNo,g,l,f] <;> omega];exact ⟨rfl,N⟩)
 have m:=zP k
 first | exact absurd m (by decide) | (rw [show zB e true true false false true false true=false from by simp [zB,sNo,g,m]];exact ⟨rfl,N⟩) | (rw [show zB e true true false false true false true=false from by simp [zB,sNo,g,m] <;> omega];exact ⟨rfl,N⟩)
 refine qI call83 (fun w N=>?_) (c:=zI N)
 first | fail | (rw [show zB e true true false false true false true=false from by simp [zB,sNo,g]];exact ⟨rfl,N⟩) | (rw [show zB e true true false false true false true=false from by simp [zB,sNo,g] <;> omega];exact ⟨rfl,N⟩)
theorem x2o {p:Addr} {d:List Value} {e:TE} (D:At Φ p d) (re:RTE Φ d e) (N:Mem Φ K w) :
  Calls prog 194 #[.pointer (some p),.bool true,.bool true,.bool false,.bool true,.bool true,.bool false,.bool true] w (fun ee w'=>Out (dem (zB e true true false true true false true)) (fun _=>ee=.returned (.tuple #[])/\Mem Φ K w') (fun _=>ee=.panicked jK/\Mem Φ K w')):=by
 have z:=re;obtain ⟨L,c4,M,A,G,B,rfl,r,s,H,I,C,E,F,t,x,u,y⟩:=RTE.fm re;refine zJ func194 ntmps194 fun Q hQ a J=>?_;by_cases f:e.num=0;refine zE call83 (fun w N a J=>?_) (c:=pV N);by_cases h:e.arms.length=0;refine Qq (fun a J=>?_) (o:=by exact fun J O=>wE (i:=e.body.length) (j:=1) J rfl rfl);generalize g:(decide (e.body.length=1))=n at J;cases n;refine Qq (fun a J=>?_) (o:=by exact fun J O=>jB (v:=.bool false) J rfl rfl rfl (by kernel_rfl));refine qI call83 (fun w N=>?_) (c:=zI N)
 first | fail | (rw [show zB e true true false true true false true=false from by simp [zB,sNo,f,h,g]];exact ⟨rfl,N⟩) | (rw [show zB e true true false true true false true=false from by simp [zB,sNo,f,h,g] <;> omega];exact ⟨rfl,N⟩)
 refine Qq (fun a J=>?_) (o:=by exact fun J O=>jB (v:=.bool true) J rfl rfl rfl (by kernel_rfl));refine Qq (fun a J=>?_) (o:=by exact fun J O=>mZ (i:=e.body.length) (j:=1) J rfl rfl);refine yF call83 (fun q w k N a J=>?_) (fun q w k N=>?_) (c:=yC (b:=(decide (e.body.length<=1))) N);refine go fun a J=>?_;refine hQ _ _ _ (yN J results194 ?_);have l:=zC k
 first | exact absurd l (by decide) | (rw [show zB e true true false true true false true=true from by simp [zB,sNo,f,h,g,l]];exact ⟨rfl,N⟩) | (rw [show zB e true true false true true false true=true from by simp [zB,sNo,f,h,g,l] <;> omega];exact ⟨rfl,N⟩)
 have m:=zP k
 first | exact absurd m (by decide) | (rw [show zB e true true false true true false true=false from by simp [zB,sNo,f,h,g,m]];exact ⟨rfl,N⟩) | (rw [show zB e true true false true true false true=false from by simp [zB,sNo,f,h,g,m] <;> omega];exact ⟨rfl,N⟩)
 refine qI call83 (fun w N=>?_) (c:=zI N)
 first | fail | (rw [show zB e true true false true true false true=false from by simp [zB,sNo,f,h]];exact ⟨rfl,N⟩) | (rw [show zB e true true false true true false true=false from by simp [zB,sNo,f,h] <;> omega];exact ⟨rfl,N⟩)
 refine qI call83 (fun w N=>?_) (c:=zI N)
 first | fail | (rw [show zB e true true false true true false true=false from by simp [zB,sNo,f]];exact ⟨rfl,N⟩) | (rw [show zB e true true false true true false true=false from by simp [zB,sNo,f] <;> omega];exact ⟨rfl,N⟩)
theorem j6o {q:Addr} {d:List Value} {e:TE} (E:At Φ q d) (re:RTE Φ d e) (N:Mem Φ K w) :
  Calls prog 194 #[.pointer (some q),.bool true,.bool false,.bool false,.bool true,.bool true,.bool false,.bool true] w (fun ee w'=>Out (dem (zB e true false false true true false true)) (fun _=>ee=.returned (.tuple #[])/\Mem Φ K w') (fun _=>ee=.panicked jK/\Mem Φ K w')):=by
 have A:=re;obtain ⟨M,c4,P,B,H,C,rfl,s,t,I,L,D,F,G,u,y,x,z⟩:=RTE.fm re;refine zJ func194 ntmps194 fun Q hQ a J=>?_;by_cases f:e.op=(⟨#[]⟩:Bs);by_cases g:e.num=0;refine zE call83 (fun w N a J=>?_) (c:=pV N);by_cases k:e.arms.length=0;refine Qq (fun a J=>?_) (o:=by exact fun J O=>wE (i:=e.body.length) (j:=1) J rfl rfl);generalize h:(decide (e.body.length=1))=p at J;cases p;refine Qq (fun a J=>?_) (o:=by exact fun J O=>jB (v:=.bool false) J rfl rfl rfl (by kernel_rfl));refine qI call83 (fun w N=>?_) (c:=zI N)
 first | fail | (rw [show zB e true false false true true false true=false from by simp [zB,sNo,f,g,k,h]];exact ⟨rfl,N⟩) | (rw [show zB e true false false true true false true=false from by simp [zB,sNo,f,g,k,h] <;> omega];exact ⟨rfl,N⟩)
 refine Qq (fun a J=>?_) (o:=by exact fun J O=>jB (v:=.bool true) J rfl rfl rfl (by kernel_rfl));refine Qq (fun a J=>?_) (o:=by exact fun J O=>mZ (i:=e.body.length) (j:=1) J rfl rfl);refine yF call83 (fun r w l N a J=>?_) (fun r w l N=>?_) (c:=yC (b:=(decide (e.body.length<=1))) N);refine go fun a J=>?_;refine hQ _ _ _ (yN J results194 ?_);have m:=zC l
 first | exact absurd m (by decide) | (rw [show zB e true false false true true false true=true from by simp [zB,sNo,f,g,k,h,m]];exact ⟨rfl,N⟩) | (rw [show zB e true false false true true false true=true from by simp [zB,sNo,f,g,k,h,m] <;> omega];exact ⟨rfl,N⟩)
 have n:=zP l
 first | exact absurd n (by decide) | (rw [show zB e true false false true true false true=false from by simp [zB,sNo,f,g,k,h,n]];exact ⟨rfl,N⟩) | (rw [show zB e true false false true true false true=false from by simp [zB,sNo,f,g,k,h,n] <;> omega];exact ⟨rfl,N⟩)
 refine qI call83 (fun w N=>?_) (c:=zI N)
 first | fail | (rw [show zB e true false false true true false true=false from by simp [zB,sNo,f,g,k]];exact ⟨rfl,N⟩) | (rw [show zB e true false false true true false true=false from by simp [zB,sNo,f,g,k] <;> omega];exact ⟨rfl,N⟩)
 refine qI call83 (fun w N=>?_) (c:=zI N)
 first | fail | (rw [show zB e true false false true true false true=false from by simp [zB,sNo,f,g]];exact ⟨rfl,N⟩) | (rw [show zB e true false false true true false true=false from by simp [zB,sNo,f,g] <;> omega];exact ⟨rfl,N⟩)
 refine qI call83 (fun w N=>?_) (c:=zI N)
 first | fail | (rw [show zB e true false false true true false true=false from by simp [zB,sNo,f]];exact ⟨rfl,N⟩) | (rw [show zB e true false false true true false true=false from by simp [zB,sNo,f] <;> omega];exact ⟨rfl,N⟩)
theorem q8k {s:Addr} {d:List Value} {e:TE} (H:At Φ s d) (re:RTE Φ d e) (N:Mem Φ K w) :
  Calls prog 194 #[.pointer (some s),.bool true,.bool false,.bool true,.bool false,.bool false,.bool false,.bool true] w (fun ee w'=>Out (dem (zB e true false true false false false true)) (fun _=>ee=.returned (.tuple #[])/\Mem Φ K w') (fun _=>ee=.panicked jK/\Mem Φ K w')):=by
 have D:=re;obtain ⟨S,c4,T,E,M,F,rfl,x,y,P,R,G,I,L,z,B,A,C⟩:=RTE.fm re;refine zJ func194 ntmps194 fun Q hQ a J=>?_;by_cases g:e.op=(⟨#[]⟩:Bs);refine Qq (fun a J=>?_) (o:=by exact fun J O=>vQ J rfl rfl);refine yF call83 (fun t w h N a J=>?_) (fun t w h N=>?_) (c:=yC (b:=(decide (e.site=0))) N);by_cases k:e.args.length=0;by_cases m:e.arms.length=0;refine Qq (fun a J=>?_) (o:=by exact fun J O=>wE (i:=e.body.length) (j:=1) J rfl rfl);generalize l:(decide (e.body.length=1))=r at J;cases r;refine Qq (fun a J=>?_) (o:=by exact fun J O=>jB (v:=.bool false) J rfl rfl rfl (by kernel_rfl));refine qI call83 (fun w N=>?_) (c:=zI N);have f:=zC h
 first | exact absurd f (by decide) | (rw [show zB e true false true false false false true=false from by simp [zB,sNo,g,k,m,l,f]];exact ⟨rfl,N⟩) | (rw [show zB e true false true false false false true=false from by simp [zB,sNo,g,k,m,l,f] <;> omega];exact ⟨rfl,N⟩)
 refine Qq (fun a J=>?_) (o:=by exact fun J O=>jB (v:=.bool true) J rfl rfl rfl (by kernel_rfl));refine Qq (fun a J=>?_) (o:=by exact fun J O=>mZ (i:=e.body.length) (j:=1) J rfl rfl);refine yF call83 (fun u w p N a J=>?_) (fun u w p N=>?_) (c:=yC (b:=(decide (e.body.length<=1))) N);refine go fun a J=>?_;refine hQ _ _ _ (yN J results194 ?_);have f:=zC h;have q:=zC p
 first | exact absurd f (by decide) | exact absurd q (by decide) | (rw [show zB e true false true false false false true=true from by simp [zB,sNo,g,k,m,l,f,q]];exact ⟨rfl,N⟩) | (rw [show zB e true false true false false false true=true from by simp [zB,sNo,g,k,m,l,f,q] <;> omega];exact ⟨rfl,N⟩)
 have f:=zC h;have n:=zP p
 first | exact absurd f (by decide) | exact absurd n (by decide) | (rw [show zB e true false true false false false true=false from by simp [zB,sNo,g,k,m,l,f,n]];exact ⟨rfl,N⟩) | (rw [show zB e true false true false false false true=false from by simp [zB,sNo,g,k,m,l,f,n] <;> omega];exact ⟨rfl,N⟩)
 refine qI call83 (fun w N=>?_) (c:=zI N);have f:=zC h
 first | exact absurd f (by decide) | (rw [show zB e true false true false false false true=false from by simp [zB,sNo,g,k,m,f]];exact ⟨rfl,N⟩) | (rw [show zB e true false true false false false true=false from by simp [zB,sNo,g,k,m,f] <;> omega];exact ⟨rfl,N⟩)
 refine qI call83 (fun w N=>?_) (c:=zI N);have f:=zC h
 first | exact absurd f (by decide) | (rw [show zB e true false true false false false true=false from by simp [zB,sNo,g,k,f]];exact ⟨rfl,N⟩) | (rw [show zB e true false true false false false true=false from by simp [zB,sNo,g,k,f] <;> omega];exact ⟨rfl,N⟩)
 have n:=zP h
 first | exact absurd n (by decide) | (rw [show zB e true false true false false false true=false from by simp [zB,sNo,g,n]];exact ⟨rfl,N⟩) | (rw [show zB e true false true false false false true=false from by simp [zB,sNo,g,n] <;> omega];exact ⟨rfl,N⟩)
 refine qI call83 (fun w N=>?_) (c:=zI N)
 first | fail | (rw [show zB e true false true false false false true=false from by simp [zB,sNo,g]];exact ⟨rfl,N⟩) | (rw [show zB e true false true false false false true=false from by simp [zB,sNo,g] <;> omega];exact ⟨rfl,N⟩)
theorem q2y {t:Addr} {d:List Value} {e:TE} (I:At Φ t d) (re:RTE Φ d e) (N:Mem Φ K w) :
  Calls prog 194 #[.pointer (some t),.bool false,.bool false,.bool false,.bool false,.bool true,.bool false,.bool false] w (fun ee w'=>Out (dem (zB e false false false false true false false)) (fun _=>ee=.returned (.tuple #[])/\Mem Φ K w') (fun _=>ee=.panicked jK/\Mem Φ K w')):=by
 have E:=re;obtain ⟨T,c4,U,F,P,G,rfl,y,z,R,S,H,L,M,A,C,B,D⟩:=RTE.fm re;refine zJ func194 ntmps194 fun Q hQ a J=>?_;by_cases f:e.name=(⟨#[]⟩:Bs);by_cases h:e.op=(⟨#[]⟩:Bs);by_cases k:e.num=0;refine Qq (fun a J=>?_) (o:=by exact fun J O=>vQ J rfl rfl);refine yF call83 (fun u w m N a J=>?_) (fun u w m N=>?_) (c:=yC (b:=(decide (e.site=0))) N);by_cases n:e.arms.length=0;refine Qq (fun a J=>?_) (o:=by exact fun J O=>wE (i:=e.body.length) (j:=1) J rfl rfl);generalize l:(decide (e.body.length=1))=s at J;cases s;refine Qq (fun a J=>?_) (o:=by exact fun J O=>jB (v:=.bool true) J rfl rfl rfl (by kernel_rfl));refine Qq (fun a J=>?_) (o:=by exact fun J O=>mZ (i:=e.body.length) (j:=1) J rfl rfl);refine yF call83 (fun x w q N a J=>?_) (fun x w q N=>?_) (c:=yC (b:=(decide (e.body.length<=1))) N);refine go fun a J=>?_;refine hQ _ _ _ (yN J results194 ?_);have g:=zC m;have r:=zC q
 first | exact absurd g (by decide) | exact absurd r (by decide) | (rw [show zB e false false false false true false false=true from by simp [zB,sNo,f,h,k,n,l,g,r]];exact ⟨rfl,N⟩) | (rw [show zB e false false false false true false false=true from by simp [zB,sNo,f,h,k,n,l,g,r] <;> omega];exact ⟨rfl,N⟩)
 have g:=zC m;have p:=zP q
 first | exact absurd g (by decide) | exact absurd p (by decide) | (rw [show zB e false false false false true false false=false from by simp [zB,sNo,f,h,k,n,l,g,p]];exact ⟨rfl,N⟩) | (rw [show zB e false false false false true false false=false from by simp [zB,sNo,f,h,k,n,l,g,p] <;> omega];exact ⟨rfl,N⟩)
 refine Qq (fun a J=>?_) (o:=by exact fun J O=>jB (v:=.bool false) J rfl rfl rfl (by kernel_rfl));refine qI call83 (fun w N=>?_) (c:=zI N);have g:=zC m
 first | exact absurd g (by decide) | (rw [show zB e false false false false true false false=false from by simp [zB,sNo,f,h,k,n,l,g]];exact ⟨rfl,N⟩) | (rw [show zB e false false false false true false false=false from by simp [zB,sNo,f,h,k,n,l,g] <;> omega];exact ⟨rfl,N⟩)
 refine qI call83 (fun w N=>?_) (c:=zI N);have g:=zC m
 first | exact absurd g (by decide) | (rw [show zB e false false false false true false false=false from by simp [zB,sNo,f,h,k,n,g]];exact ⟨rfl,N⟩) | (rw [show zB e false false false false true false false=false from by simp [zB,sNo,f,h,k,n,g] <;> omega];exact ⟨rfl,N⟩)
 have p:=zP m
 first | exact absurd p (by decide) | (rw [show zB e false false false false true false false=false from by simp [zB,sNo,f,h,k,p]];exact ⟨rfl,N⟩) | (rw [show zB e false false false false true false false=false from by simp [zB,sNo,f,h,k,p] <;> omega];exact ⟨rfl,N⟩)
 refine qI call83 (fun w N=>?_) (c:=zI N)
 first | fail | (rw [show zB e false false false false true false false=false from by simp [zB,sNo,f,h,k]];exact ⟨rfl,N⟩) | (rw [show zB e false false false false true false false=false from by simp [zB,sNo,f,h,k] <;> omega];exact ⟨rfl,N⟩)
 refine qI call83 (fun w N=>?_) (c:=zI N)
 first | fail | (rw [show zB e false false false false true false false=false from by simp [zB,sNo,f,h]];exact ⟨rfl,N⟩) | (rw [show zB e false false false false true false false=false from by simp [zB,sNo,f,h] <;> omega];exact ⟨rfl,N⟩)
 refine qI call83 (fun w N=>?_) (c:=zI N)
 first | fail | (rw [show zB e false false false false true false false=false from by simp [zB,sNo,f]];exact ⟨rfl,N⟩) | (rw [show zB e false false false false true false false=false from by simp [zB,sNo,f] <;> omega];exact ⟨rfl,N⟩)
theorem j6p {s:Addr} {d:List Value} {e:TE} (H:At Φ s d) (re:RTE Φ d e) (N:Mem Φ K w) :
  Calls prog 194 #[.pointer (some s),.bool false,.bool true,.bool false,.bool false,.bool true,.bool false,.bool false] w (fun ee w'=>Out (dem (zB e false true false false true false false)) (fun _=>ee=.returned (.tuple #[])/\Mem Φ K w') (fun _=>ee=.panicked jK/\Mem Φ K w')):=by
 have D:=re;obtain ⟨S,c4,T,E,M,F,rfl,x,y,P,R,G,I,L,z,B,A,C⟩:=RTE.fm re;refine zJ func194 ntmps194 fun Q hQ a J=>?_;by_cases g:e.name=(⟨#[]⟩:Bs);by_cases h:e.num=0;refine Qq (fun a J=>?_) (o:=by exact fun J O=>vQ J rfl rfl);refine yF call83 (fun t w l N a J=>?_) (fun t w l N=>?_) (c:=yC (b:=(decide (e.site=0))) N);by_cases m:e.arms.length=0;refine Qq (fun a J=>?_) (o:=by exact fun J O=>wE (i:=e.body.length) (j:=1) J rfl rfl);generalize k:(decide (e.body.length=1))=r at J;cases r;refine Qq (fun a J=>?_) (o:=by exact fun J O=>jB (v:=.bool true) J rfl rfl rfl (by kernel_rfl));refine Qq (fun a J=>?_) (o:=by exact fun J O=>mZ (i:=e.body.length) (j:=1) J rfl rfl);refine yF call83 (fun u w p N a J=>?_) (fun u w p N=>?_) (c:=yC (b:=(decide (e.body.length<=1))) N);refine go fun a J=>?_;refine hQ _ _ _ (yN J results194 ?_);have f:=zC l;have q:=zC p
 first | exact absurd f (by decide) | exact absurd q (by decide) | (rw [show zB e false true false false true false false=true from by simp [zB,sNo,g,h,m,k,f,q]];exact ⟨rfl,N⟩) | (rw [show zB e false true false false true false false=true from by simp [zB,sNo,g,h,m,k,f,q] <;> omega];exact ⟨rfl,N⟩)
 have f:=zC l;have n:=zP p
 first | exact absurd f (by decide) | exact absurd n (by decide) | (rw [show zB e false true false false true false false=false from by simp [zB,sNo,g,h,m,k,f,n]];exact ⟨rfl,N⟩) | (rw [show zB e false true false false true false false=false from by simp [zB,sNo,g,h,m,k,f,n] <;> omega];exact ⟨rfl,N⟩)
 refine Qq (fun a J=>?_) (o:=by exact fun J O=>jB (v:=.bool false) J rfl rfl rfl (by kernel_rfl));refine qI call83 (fun w N=>?_) (c:=zI N);have f:=zC l
 first | exact absurd f (by decide) | (rw [show zB e false true false false true false false=false from by simp [zB,sNo,g,h,m,k,f]];exact ⟨rfl,N⟩) | (rw [show zB e false true false false true false false=false from by simp [zB,sNo,g,h,m,k,f] <;> omega];exact ⟨rfl,N⟩)
 refine qI call83 (fun w N=>?_) (c:=zI N);have f:=zC l
 first | exact absurd f (by decide) | (rw [show zB e false true false false true false false=false from by simp [zB,sNo,g,h,m,f]];exact ⟨rfl,N⟩) | (rw [show zB e false true false false true false false=false from by simp [zB,sNo,g,h,m,f] <;> omega];exact ⟨rfl,N⟩)
 have n:=zP l
 first | exact absurd n (by decide) | (rw [show zB e false true false false true false false=false from by simp [zB,sNo,g,h,n]];exact ⟨rfl,N⟩) | (rw [show zB e false true false false true false false=false from by simp [zB,sNo,g,h,n] <;> omega];exact ⟨rfl,N⟩)
 refine qI call83 (fun w N=>?_) (c:=zI N)
 first | fail | (rw [show zB e false true false false true false false=false from by simp [zB,sNo,g,h]];exact ⟨rfl,N⟩) | (rw [show zB e false true false false true false false=false from by simp [zB,sNo,g,h] <;> omega];exact ⟨rfl,N⟩)
 refine qI call83 (fun w N=>?_) (c:=zI N)
 first | fail | (rw [show zB e false true false false true false false=false from by simp [zB,sNo,g]];exact ⟨rfl,N⟩) | (rw [show zB e false true false false true false false=false from by simp [zB,sNo,g] <;> omega];exact ⟨rfl,N⟩)
theorem q8j {s:Addr} {d:List Value} {e:TE} (H:At Φ s d) (re:RTE Φ d e) (N:Mem Φ K w) :
  Calls prog 194 #[.pointer (some s),.bool false,.bool false,.bool false,.bool false,.bool true,.bool true,.bool false] w (fun ee w'=>Out (dem (zB e false false false false true true false)) (fun _=>ee=.returned (.tuple #[])/\Mem Φ K w') (fun _=>ee=.panicked jK/\Mem Φ K w')):=by
 have D:=re;obtain ⟨S,c4,T,E,M,F,rfl,x,y,P,R,G,I,L,z,B,A,C⟩:=RTE.fm re;refine zJ func194 ntmps194 fun Q hQ a J=>?_;by_cases f:e.name=(⟨#[]⟩:Bs);by_cases g:e.op=(⟨#[]⟩:Bs);by_cases k:e.num=0;refine Qq (fun a J=>?_) (o:=by exact fun J O=>vQ J rfl rfl);refine yF call83 (fun t w m N a J=>?_) (fun t w m N=>?_) (c:=yC (b:=(decide (e.site=0))) N);refine Qq (fun a J=>?_) (o:=by exact fun J O=>wE (i:=e.body.length) (j:=1) J rfl rfl);generalize l:(decide (e.body.length=1))=r at J;cases r;refine Qq (fun a J=>?_) (o:=by exact fun J O=>jB (v:=.bool true) J rfl rfl rfl (by kernel_rfl));refine Qq (fun a J=>?_) (o:=by exact fun J O=>mZ (i:=e.body.length) (j:=1) J rfl rfl);refine yF call83 (fun u w p N a J=>?_) (fun u w p N=>?_) (c:=yC (b:=(decide (e.body.length<=1))) N);refine go fun a J=>?_;refine hQ _ _ _ (yN J results194 ?_);have h:=zC m;have q:=zC p
 first | exact absurd h (by decide) | exact absurd q (by decide) | (rw [show zB e false false false false true true false=true from by simp [zB,sNo,f,g,k,l,h,q]];exact ⟨rfl,N⟩) | (rw [show zB e false false false false true true false=true from by simp [zB,sNo,f,g,k,l,h,q] <;> omega];exact ⟨rfl,N⟩)
 have h:=zC m;have n:=zP p
 first | exact absurd h (by decide) | exact absurd n (by decide) | (rw [show zB e false false false false true true false=false from by simp [zB,sNo,f,g,k,l,h,n]];exact ⟨rfl,N⟩) | (rw [show zB e false false false false true true false=false from by simp [zB,sNo,f,g,k,l,h,n] <;> omega];exact ⟨rfl,N⟩)
 refine Qq (fun a J=>?_) (o:=by exact fun J O=>jB (v:=.bool false) J rfl rfl rfl (by kernel_rfl));refine qI call83 (fun w N=>?_) (c:=zI N);have h:=zC m
 first | exact absurd h (by decide) | (rw [show zB e false false false false true true false=false from by simp [zB,sNo,f,g,k,l,h]];exact ⟨rfl,N⟩) | (rw [show zB e false false false false true true false=false from by simp [zB,sNo,f,g,k,l,h] <;> omega];exact ⟨rfl,N⟩)
 have n:=zP m
 first | exact absurd n (by decide) | (rw [show zB e false false false false true true false=false from by simp [zB,sNo,f,g,k,n]];exact ⟨rfl,N⟩) | (rw [show zB e false false false false true true false=false from by simp [zB,sNo,f,g,k,n] <;> omega];exact ⟨rfl,N⟩)
 refine qI call83 (fun w N=>?_) (c:=zI N)
 first | fail | (rw [show zB e false false false false true true false=false from by simp [zB,sNo,f,g,k]];exact ⟨rfl,N⟩) | (rw [show zB e false false false false true true false=false from by simp [zB,sNo,f,g,k] <;> omega];exact ⟨rfl,N⟩)
 refine qI call83 (fun w N=>?_) (c:=zI N)
 first | fail | (rw [show zB e false false false false true true false=false from by simp [zB,sNo,f,g]];exact ⟨rfl,N⟩) | (rw [show zB e false false false false true true false=false from by simp [zB,sNo,f,g] <;> omega];exact ⟨rfl,N⟩)
 refine qI call83 (fun w N=>?_) (c:=zI N)
 first | fail | (rw [show zB e false false false false true true false=false from by simp [zB,sNo,f]];exact ⟨rfl,N⟩) | (rw [show zB e false false false false true true false=false from by simp [zB,sNo,f] <;> omega];exact ⟨rfl,N⟩)
end
def yB (l:List (Bs×Int)):List (Bs×Value):=l.map fun p=>(p.1,.int .i64 p.2)
theorem z2v:∀(l:List (Bs×Int)) (k:Bs),jR (yB l) k=(zK l k).map (.int .i64 ·)
 | [],_=>rfl
 | (q,x)::l,k=>by
  simp only [yB,List.map_cons,jR,zK];split
  rfl;exact z2v l k
theorem vX (l:List (Bs×Int)) (k:Bs):yA false (.int .i64 0) (jR (yB l) k)=.int .i64 ((zK l k).getD 0):=by rw [z2v];cases zK l k <;> rfl
theorem pB:∀(l:List (Bs×Int)) (k:Bs) (x:Int),z0y (yB l) k (.int .i64 x)=yB (qT l k x)
 | [],_,_=>rfl
 | (q,y)::l,k,x=>by
  simp only [yB,List.map_cons,z0y,qT];split
  rfl;rw [List.map_cons];exact congrArg _ (pB l k x)
theorem j0q {s:BS} {a:Atom} {m:Bool} (h:a.name=sNo):s.atom a m = !m:=by rw [BS.atom,if_pos h]
theorem z8j {s:BS} {a:Atom} {m:Bool} (h:¬a.name=sNo):s.atom a m=(decide (a.num=0)&&decide ((zK s.kinds a.name).getD 0=vJ m)):=by rw [BS.atom,if_neg h]
theorem j8u {Φ:Fz} {K:List Res} {w:World} {bb mb mk:Nat} {pv fv lv:Value} {s:BS} {xa:Atom} {m:Bool} (N:Mem Φ (.blk bb (ob [pv,fv,.map (some mb),.map (some mk),lv] 199)::.mp mk (yB s.kinds)::K) w) :
  Calls prog 218 #[.pointer (some ⟨bb,0,none⟩),.agg #[.string xa.name,.int .i64 xa.num],.bool m] w (fun ee w'=>Out (dem (s.atom xa m)) (fun _=>ee=.returned (.tuple #[])/\Mem Φ (.blk bb (ob [pv,fv,.map (some mb),.map (some mk),lv] 199)::.mp mk (yB s.kinds)::K) w') (fun _=>ee=.panicked jK/\Mem Φ K w')):=by
 refine zJ func218 ntmps218 fun Q hQ a J=>?_;refine Bx fun j w N a J=>?_;by_cases f:xa.name=(⟨#[]⟩:Bs);refine yF call83 (fun i w e N a J=>?_) (fun i w e N=>?_) (c:=yC (b:=(!m)) N);refine go fun a J=>?_;replace N:=N.dl [0];refine hQ _ _ _ (ret0 J results218 ?_);rw [j0q f,e];exact ⟨rfl,N⟩;replace N:=N.dl [2,1,0];rw [j0q f,e];exact ⟨rfl,N⟩;refine Reg [1,2,1,1,1,1,1,2,1,2,2,1,0,1,1,0] [0,1,2] fun w N a J=>?_;by_cases g:xa.num=0;refine Qq (fun a J=>?_) (o:=by exact fun J O=>Ok.cast (qB 2 runUnderlying98 runUnderlying9 zeroValue3 J O rfl rfl rfl) (vX s.kinds xa.name));refine zE call157 (fun w N a J=>?_) (c:=y5v N);refine Qq (fun a J=>?_) (o:=by exact fun J O=>vQ J rfl rfl);refine yF call83 (fun h w d N a J=>?_) (fun h w d N=>?_) (c:=yC (b:=(decide (((zK s.kinds xa.name).getD 0)=(vJ m)))) N);refine go fun a J=>?_;replace N:=N.dl [0];refine hQ _ _ _ (yN J results218 ?_);rw [z8j f,decide_eq_true g,Bool.true_and,d];exact ⟨rfl,N⟩;replace N:=N.dl [2,1,0];rw [z8j f,decide_eq_true g,Bool.true_and,d];exact ⟨rfl,N⟩;refine qI call83 (fun w N=>?_) (c:=zI N);replace N:=N.dl [2,1,0];rw [z8j f,decide_eq_false g,Bool.false_and,show dem false=.error () from rfl];exact ⟨rfl,N⟩
theorem q6g {s:BS} {l:List Atom} {m:List Bool} (h:¬l.length=m.length):s.atomL l m=false:=by
 cases hb:s.atomL l m with
 | false=>rfl
 | true=>exact absurd (xK hb) h
theorem q0o {s:BS}:∀{l:List Atom} {m:List Bool} {i:Nat} {x:Atom} {b:Bool},l[i]? = some x->m[i]? = some b->s.atomL (l.drop i) (m.drop i)=(s.atom x b&&s.atomL (l.drop (i+1)) (m.drop (i+1))):=fun a c=>by
 rw [yM a,yM c];rfl
theorem j4c {s:BS} {l:List Atom} {m:List Bool} {i:Nat} (h:¬i < l.length) (e:l.length=m.length):s.atomL (l.drop i) (m.drop i)=true:=by
 rw [qV h,qV (by omega)];rfl
theorem nE {Φ:Fz} {K:List Res} {w:World} {bb mb mk:Nat} {pv fv lv va vm:Value} {s:BS} {l:List Atom} {ms:List Bool} (rl:SliceOf RAtom Φ 2 va l) (rm:SliceOf RBoo Φ 1 vm ms) (N:Mem Φ (.blk bb (ob [pv,fv,.map (some mb),.map (some mk),lv] 199)::.mp mk (yB s.kinds)::K) w) :
  Calls prog 195 #[.pointer (some ⟨bb,0,none⟩),va,vm] w (fun ee w'=>Out (dem (s.atomL l ms)) (fun _=>ee=.returned (.tuple #[])/\Mem Φ (.blk bb (ob [pv,fv,.map (some mb),.map (some mk),lv] 199)::.mp mk (yB s.kinds)::K) w') (fun _=>ee=.panicked jK/\Mem Φ K w')):=by
 obtain ⟨p1,c2,rfl,M,z⟩:=rl.fm;obtain ⟨X,W,rfl,P,A⟩:=rm.fm;refine zJ func195 ntmps195 fun Q hQ a J=>?_;refine Qq (fun a J=>?_) (o:=by exact fun J O=>wE (i:=l.length) (j:=ms.length) J rfl rfl);refine yF call83 (fun B w e N a J=>?_) (fun B w e N=>?_) (c:=yC (b:=(decide (l.length=ms.length))) N);have t:=of_decide_eq_true (zC e);refine go fun a J=>?_;refine yO (J.ks [0,2,14,15]) N (fun R mm a w=>∃(k:Nat),mm=l.length - k/\R Φ [(16,.int .i64 k)] [] a w/\(s.atomL l ms=s.atomL (l.drop k) (ms.drop k))) (l.length - 0) ⟨0,rfl,⟨J.pk,N⟩,rfl⟩ ?_;clear N J;rintro mm a w ⟨k,y,⟨J,N⟩,d⟩ S q;by_cases p:k < l.length;refine go fun a J=>?_;obtain ⟨U,rfl,D,g,E,I,F,u⟩:=rl.el z p;obtain ⟨rfl,H⟩:=id u;refine Alc fun T w N a J=>?_;refine Sto 0 fun w N a J=>?_;refine Reg [1,2,1,1,1,2,0] [0,1,2] fun w N a J=>?_;refine go fun a J=>?_;have r:k < ms.length:=by omega
 obtain ⟨V,rfl,x,h,n,L,G,v⟩:=rm.el A r;obtain rfl:n=[.bool x]:=v;replace N:=N.ar [] [2,2];refine yF call218 (fun C w f N a J=>?_) (fun C w f N=>?_) (c:=j8u (s:=s) (xa:=D) (m:=x) N);refine go fun a J=>?_;replace N:=N.dl [2];refine q _ _ _ (by subst y;omega) ⟨(k+1),rfl,⟨J.pk,N⟩,?_⟩;rw [d,q0o g h,zC f,Bool.true_and];replace N:=N.dl [0];rw [d,q0o g h,zP f,Bool.false_and,show dem false=.error () from rfl];exact ⟨rfl,N⟩;refine go fun a J=>?_;refine hQ _ _ _ (yN J results195 ?_);rw [d,j4c p t,show dem true=.ok () from rfl];exact ⟨rfl,N⟩;replace N:=N.dl [1,0];rw [q6g (of_decide_eq_false (zP e)),show dem false=.error () from rfl];exact ⟨rfl,N⟩
def ixM {α:Type} (nm:α->Bs):Nat->List α->List (Bs×Int)
 | _,[]=>[]
 | i,x::l=>(nm x,(i:Int))::ixM nm (i+1) l
theorem y0d {α:Type} {nm:α->Bs} {n:Bs}:∀{l:List α} {i:Nat},zK (ixM nm i l) n=(l.findIdx? fun x=>decide (nm x=n)).map fun j=>((i+j:Nat):Int)
 | [],_=>rfl
 | x::l,i=>by
  rw [ixM,zK,List.findIdx?_cons];by_cases h:nm x=n
  ·rw [if_pos h.symm,decide_eq_true h];simp
  ·rw [if_neg (fun e=>h e.symm),decide_eq_false h,y0d (l:=l)]
   simp only [Bool.false_eq_true,if_false,Option.map_map]
   congr 1
   funext j
   simp only [Function.comp];omega
def dF (T:Trc):List (Bs×Int):=ixM TCon.name 0 T.cons
def aP (T:Trc):List (Bs×Int):=ixM TFn.name 0 T.funs
theorem mG {l:List (Bs×Int)} {k:Bs} {v:Value} (h:jR (yB l) k=some v):∃y,zK l k=some y/\v=.int .i64 y:=by
 rw [z2v] at h;cases hq:zK l k with
 | none=>rw [hq] at h;cases h
 | some y=>rw [hq] at h;exact ⟨y,rfl,(Option.some.inj h).symm⟩
theorem vY {l:List (Bs×Int)} {k:Bs} (h:jR (yB l) k=none):zK l k=none:=by
 rw [z2v] at h;cases hq:zK l k with
 | none=>rfl
 | some y=>rw [hq] at h;cases h
theorem gQ {α:Type} {nm:α->Bs} {n:Bs} {l:List α} (h:zK (ixM nm 0 l) n=none):l.findIdx? (fun x=>decide (nm x=n))=none:=by
 rw [y0d] at h;cases hq:l.findIdx? (fun x=>decide (nm x=n)) with
 | none=>rfl
 | some j=>rw [hq] at h;cases h
theorem gR {α:Type} {nm:α->Bs} {n:Bs} {l:List α} {y:Int} (h:zK (ixM nm 0 l) n=some y):∃j:Nat,y=(j:Int)/\l.findIdx? (fun x=>decide (nm x=n))=some j/\j < l.length:=by
 rw [y0d] at h;cases hq:l.findIdx? (fun x=>decide (nm x=n)) with
 | none=>rw [hq] at h;cases h
 | some j=>
  rw [hq] at h;refine ⟨j,?_,rfl,(List.findIdx?_eq_some_iff_getElem.1 hq).1⟩;have:=Option.some.inj h;simp only [Nat.zero_add] at this;exact this.symm
theorem j1e {α:Type} {p:α->Bool} {l:List α} {j:Nat} {x:α} (h:l.findIdx? p=some j) (b:l[j]? = some x):l.find? p=some x:=by
 obtain ⟨a,c,d⟩:=List.findIdx?_eq_some_iff_getElem.1 h;rw [List.getElem?_eq_getElem a] at b;have e:=Option.some.inj b;rw [List.find?_eq_some_iff_getElem];refine ⟨e▸c,j,a,e,fun k f=>?_⟩;have:=d k f
 simpa using this
theorem j1f {α:Type} {p:α->Bool} {l:List α} (h:l.findIdx? p=none):l.find? p=none:=by
 rw [List.findIdx?_eq_none_iff] at h;rw [List.find?_eq_none];intro x a;rw [h x a];decide
def xZ (l:List (Int×Int)):List (Int×Value):=l.map fun p=>(p.1,.int .i64 p.2)
theorem y3k:∀(l:List (Int×Int)) (k:Int),z9u (xZ l) k=(oB l k).map (.int .i64 ·)
 | [],_=>rfl
 | (q,x)::l,k=>by
  simp only [xZ,List.map_cons,z9u,oB];by_cases h:q=k
  ·rw [if_pos h,if_pos h.symm];rfl
  ·rw [if_neg h,if_neg (fun e=>h e.symm)];exact y3k l k
theorem q5t:∀{l:List (Int×Int)} {k:Int} (x:Int),oB l k=none->y8x (xZ l) k (.int .i64 x)=xZ (l++[(k,x)])
 | [],_,_,_=>rfl
 | (q,y)::l,k,x,h=>by
  simp only [oB] at h;split at h
  ·cases h
  ·rename_i hq
   simp only [xZ,List.map_cons,y8x,List.cons_append];rw [if_neg (fun e=>hq e.symm)];exact congrArg _ (q5t x h)
structure RProg (Φ:Fz) (p:Addr) (T:Trc) (ms:Nat):Prop where
 ok:qC T=true
 ex:∃cs mc mf,At Φ p (cs++[.map (some mc),.map (some mf),.map (some ms)])/\RTrc Φ cs T/\MapAt Φ mc (yB (dF T))/\MapAt Φ mf (yB (aP T))
theorem RProg.mono {Φ Ψ:Fz} {p:Addr} {T:Trc} {ms:Nat} (h:RProg Φ p T ms) (hl:Φ.Le Ψ):RProg Ψ p T ms :=
 let ⟨cs,mc,mf,a,b,c,d⟩:=h.ex;⟨h.ok,cs,mc,mf,a.mono hl,RTrc.mono _ _ _ _ hl b,c.mono hl,d.mono hl⟩
theorem j5t {T:Trc} (h:qC T=true) {i:Nat} {f:TFn} (b:T.funs[i]? = some f):((T.funs.take i).any fun g=>decide (g.name=f.name))=false/\vC f.name=true/\f.params.length<=16:=by
 simp only [qC,baQ] at h;have a:=List.all_eq_true.1 h.1.2 i (List.mem_range.2 (List.getElem?_eq_some_iff.1 b).1);simp only [b] at a;simp only [baQ,Bool.not_eq_true',decide_eq_true_eq] at a;exact ⟨a.1.1,a.1.2,a.2⟩
theorem z4s {T:Trc} (h:qC T=true) {i:Nat} {c:TCon} (b:T.cons[i]? = some c):nB T.cons i c=true:=by
 simp only [qC,baQ] at h;have a:=List.all_eq_true.1 h.1.1.1 i (List.mem_range.2 (List.getElem?_eq_some_iff.1 b).1);simp only [b] at a;exact a
theorem z2q {T:Trc} (h:qC T=true) {i:Nat} {c:TCon} (b:T.cons[i]? = some c):c.fields.length<=16:=by
 have a:=z4s h b;simp only [nB,baQ,decide_eq_true_eq] at a;exact a.1.2
def vV (l:List TPar):List (Bs×Int):=l.map fun p=>(p.name,1)
def vL (l:List TPar):List Value:=l.flatMap fun p=>[.string p.name,.bool p.mod]
theorem z5b (l:List TPar) (p:TPar):vL (l++[p])=vL l++[.string p.name,.bool p.mod]:=by simp [vL]
theorem z3g (l:List TPar):(vL l).length=2 * l.length:=by
 induction l with
 | nil=>rfl
 | cons p l a=>simp only [vL,List.flatMap_cons,laQ,lcQ,lnQ] at a ⊢;omega
theorem bnd_none {n:Bs}:∀{l:List TPar},(¬∃p∈l,p.name=n)↔(zK (vV l) n).getD 0=0
 | []=>by simp [vV,zK]
 | p::l=>by
  have b:=bnd_none (n:=n) (l:=l);simp only [vV,List.map_cons,zK];by_cases h:n=p.name
  ·rw [if_pos h];simp [h]
  ·rw [if_neg h]
   constructor
   ·intro q;exact b.1 fun ⟨x,a,e⟩=>q ⟨x,mcQ _ a,e⟩
   ·rintro q ⟨x,a,e⟩
    rcases List.mem_cons.1 a with rfl | a
    ·exact h e.symm
    ·exact b.2 q ⟨x,a,e⟩
theorem j0s {n:Bs} {m:Bool}:∀{l:List TPar},(¬∃p∈l,p.name=n)->qT (vV l) n 1=vV (l++[⟨n,m⟩])
 | [],_=>rfl
 | p::l,h=>by
  simp only [vV,List.map_cons,qT,List.cons_append];rw [if_neg (fun e=>h ⟨p,msQ,e.symm⟩)];exact congrArg _ (j0s (m:=m) fun ⟨x,a,e⟩=>h ⟨x,mcQ _ a,e⟩)
def xQ {α:Type}:Option α->Except Unit α
 | some x=>.ok x
 | none=>.error ()
theorem q0s {s:BS} {n:Bs} {m:Bool} (a:vC n=true) (b:¬∃p∈s.list,p.name=n) (c:s.list.length < 2000):s.bind n m=some ⟨s.list++[⟨n,m⟩],qT s.kinds n (vJ m),s.sites⟩:=by rw [BS.bind,if_pos ⟨a,b,c⟩]
theorem y7w {s:BS} {n:Bs} {m:Bool} (h:¬(vC n=true/\(¬∃p∈s.list,p.name=n)/\s.list.length < 2000)):s.bind n m=none:=by rw [BS.bind,if_neg h]
structure BS.Eqv (s t:BS):Prop where
 list:s.list=t.list
 sites:s.sites=t.sites
 kinds:∀n,zK s.kinds n=zK t.kinds n
theorem BS.Eqv.refl (s:BS):s.Eqv s:=⟨rfl,rfl,fun _=>rfl⟩
theorem BS.Eqv.symm {s t:BS} (h:s.Eqv t):t.Eqv s:=⟨h.1.symm,h.2.symm,fun n=>(h.3 n).symm⟩
theorem BS.Eqv.trans {s t u:BS} (h:s.Eqv t) (k:t.Eqv u):s.Eqv u:=⟨h.1.trans k.1,h.2.trans k.2,fun n=>(h.3 n).trans (k.3 n)⟩
def OEqv:Option BS->Option BS->Prop
 | some a,some b=>a.Eqv b
 | none,none=>True
 | _,_=>False
theorem OEqv.refl:∀o:Option BS,OEqv o o
 | some a=>BS.Eqv.refl a
 | none=>trivial
theorem OEqv.symm:∀{o p:Option BS},OEqv o p->OEqv p o
 | some _,some _,h=>BS.Eqv.symm h
 | none,none,_=>trivial
 | some _,none,h=>h.elim
 | none,some _,h=>h.elim
theorem OEqv.trans:∀{o p q:Option BS},OEqv o p->OEqv p q->OEqv o q
 | some _,some _,some _,h,k=>BS.Eqv.trans h k
 | none,none,none,_,_=>trivial
 | some _,none,_,h,_=>h.elim
 | none,some _,_,h,_=>h.elim
 | some _,some _,none,_,k=>k.elim
 | none,none,some _,_,k=>k.elim
theorem OEqv.none_iff {o p:Option BS} (h:OEqv o p):o=none↔p=none:=by cases o <;> cases p <;> simp_all [OEqv]
theorem OEqv.bind {o p:Option BS} {f g:BS->Option BS} (h:OEqv o p) (c:∀a b,a.Eqv b->OEqv (f a) (g b)):OEqv (o.bind f) (p.bind g):=by
 cases o <;> cases p
 ·exact trivial
 ·exact h.elim
 ·exact h.elim
 ·exact c _ _ h
theorem OEqv.ite {c:Prop} [Decidable c] {o p q r:Option BS} (h:OEqv o p) (k:OEqv q r):OEqv (if c then o else q) (if c then p else r):=by split <;> assumption
section
variable {s t:BS} (h:s.Eqv t)
include h
theorem BS.Eqv.atom (a:Atom) (m:Bool):s.atom a m=t.atom a m:=by simp only [BS.atom,h.kinds]
theorem BS.Eqv.atomL:∀(l:List Atom) (m:List Bool),s.atomL l m=t.atomL l m
 | [],[]=>rfl
 | _::_,[]=>rfl
 | [],_::_=>rfl
 | a::l,m::ms=>by rw [BS.atomL,BS.atomL,h.atom a m,BS.Eqv.atomL l ms]
theorem BS.Eqv.call (T:Trc) (e:TE) (c:Bool):s.call T e c=t.call T e c:=by simp only [BS.call,h.atomL]
theorem BS.Eqv.bind (n:Bs) (m:Bool):OEqv (s.bind n m) (t.bind n m):=by
 simp only [BS.bind,h.list];refine OEqv.ite ⟨rfl,h.sites,fun q=>?_⟩ trivial;rw [yJ,yJ,h.kinds]
theorem BS.Eqv.site (e:TE) (n:Int):OEqv (s.site e n) (t.site e n):=by
 simp only [BS.site,h.sites];exact OEqv.ite ⟨h.list,rfl,h.kinds⟩ trivial
theorem BS.Eqv.inst (T:Trc) (c:Bool) (e:TE):OEqv (yY T c e s) (yY T c e t):=by
 unfold yY;simp only [h.atomL,h.call];refine .ite (.ite h trivial) (.ite (.ite ?_ trivial) (.ite (.ite h trivial) (.ite (.ite (h.site _ _) trivial) (.ite (.ite (h.site _ _) trivial) (.ite (.ite h trivial) (.ite (.ite h trivial) (.ite (.ite h trivial) (.ite (.ite h trivial) trivial))))))));split
 ·exact .ite h trivial
 ·exact trivial
end
theorem BS.Eqv.binds:∀(vs:List Bs) (ms:List Bool) {s t:BS},s.Eqv t->OEqv (s.binds vs ms) (t.binds vs ms)
 | [],_,_,_,h=>h
 | _::_,[],_,_,_=>trivial
 | v::vs,m::ms,_,_,h=>(h.bind v m).bind fun _ _ k=>BS.Eqv.binds vs ms k
def dV (T:Trc) (chg:Bool) (s:BS):Bool->List Atom->List TA->Option BS
 | true,a::_,.mk n vs b::r=>if a.name=sNo then none else (match wH T n with
  | some first=>(armsT T chg first s.kinds 0 (.mk n vs b::r) s).bind fun c=>if jN T first (r.length+1) then some { c with kinds:=s.kinds } else none
  | none=>none)
 | _,_,_=>none
def jO (T:Trc) (chg:Bool) (e:TE) (s:BS):Option BS:=dV T chg s (zB e false false false false true true false&&s.atomL e.args [false]) e.args e.arms
def z9r (T:Trc) (chg:Bool) (e:TE) (s:BS):Option BS:=if e.kind=7 then jO T chg e s else yY T chg e s
theorem z2h (T:Trc) (chg:Bool) (e:TE) (s:BS):jH T chg e s=(z9r T chg e s).bind (restT T chg e.name (decide (e.kind=4∨e.kind=6)) e.body):=by
 cases e with
 | mk k nm op num site args arms body=>
  unfold jH;show Option.bind (if k=7 then _ else yY T chg (.mk k nm op num site args arms body) s) _=Option.bind (if k=7 then dV T chg s (zB (.mk k nm op num site args arms body) false false false false true true false&&s.atomL args [false]) args arms else yY T chg (.mk k nm op num site args arms body) s) _
  congr 1
  by_cases c:k=7
  ·rw [if_pos c,if_pos c]
   generalize (zB (.mk k nm op num site args arms body) false false false false true true false&&s.atomL args [false])=g;cases g with
   | false=>cases args <;> cases arms <;> rfl
   | true=>cases args with
    | nil=>cases arms <;> rfl
    | cons a l=>cases arms with
     | nil=>rfl
     | cons b r=>cases b;rfl
  ·rw [if_neg c,if_neg c]
mutual
theorem BS.Eqv.expr (T:Trc) (c:Bool):∀(e:TE) {s t:BS},s.Eqv t->OEqv (jH T c e s) (jH T c e t)
 | .mk k nm op num site args arms body,s,t,h=>by
  rw [z2h,z2h];refine OEqv.bind ?_ fun a b q=>BS.Eqv.rest T c nm _ body q;refine OEqv.ite ?_ (h.inst T c _);simp only [jO,h.atomL,TE.args,TE.arms];generalize (zB (.mk k nm op num site args arms body) false false false false true true false&&t.atomL args [false])=g
  match g,args,arms with
  | false,_,_=>exact trivial
  | true,[],_=>exact trivial
  | true,_::_,[]=>exact trivial
  | true,a::_,.mk d vs b::r=>
   simp only [dV];split
   ·exact trivial
   ·split
    ·exact (BS.Eqv.arms T c _ 0 (.mk d vs b::r) h.kinds h).bind fun _ _ q=>by
      exact OEqv.ite (o:=some _) (p:=some _) (q:=none) (r:=none) ⟨q.1,q.2,h.kinds⟩ trivial
    ·exact trivial
theorem BS.Eqv.rest (T:Trc) (c:Bool) (nm:Bs) (mod:Bool):∀(l:List TE) {s t:BS},s.Eqv t->OEqv (restT T c nm mod l s) (restT T c nm mod l t)
 | [],_,_,h=>h
 | x::xs,s,t,h=>by
  rw [restT,restT];exact (h.bind nm mod).bind fun _ _ q=>(BS.Eqv.expr T c x q).bind fun _ _ q=>BS.Eqv.rest T c nm mod xs q
theorem BS.Eqv.arms (T:Trc) (c:Bool) (first:Nat):∀(i:Nat) (l:List TA) {o o':List (Bs×Int)} {s t:BS},(∀n,zK o n=zK o' n)->s.Eqv t->OEqv (armsT T c first o i l s) (armsT T c first o' i l t)
 | _,[],_,_,_,_,_,h=>h
 | i,.mk d vs b::xs,o,o',s,t,f,h=>by
  rw [armsT,armsT];refine .ite ?_ trivial;exact (BS.Eqv.binds vs _ (s:={ s with kinds:=o }) (t:={ t with kinds:=o' }) ⟨h.1,h.2,f⟩).bind fun _ _ q=>(BS.Eqv.expr T c b q).bind fun _ _ q=>BS.Eqv.arms T c first (i+1) xs f q
end
theorem BS.Eqv.fun (T:Trc) (f:TFn) (m:List (Int×Int)):OEqv (aK T f m) (aK T f m):=.refl _
def gK (l:List Bool):List Value:=l.map .bool
theorem oF (l:List Bool):(gK l).length=l.length:=by simp [gK]
theorem j4p (l m:List Bool):gK l++gK m=gK (l++m):=by simp [gK]
theorem kX {Φ:Fz}:∀(l:List Bool),Chunks (RBoo Φ) 1 (gK l) l
 | []=>rfl
 | x::l=>⟨[.bool x],gK l,rfl,rfl,rfl,kX l⟩
section
variable {P:Program} {n:Nat} {E:List (Nat×Value)} {D:List Deferred} {a:Act} {Φ Ψ:Fz} {K:List Res} {w:World}
variable {Kn:Value->World->Prop} {Qp:List PanicEntry->World->Prop} {dst:Option Tmp} {ty:TypeId} {pos:String} {aft:Array Edge} {g:Option (Nat×Bool)}
theorem Ok.beq {op:Op} {x y:Bool} {b:Bool} (h:(x==y)=b) (k:Ok P a op ty w (.bool (x==y))):Ok P a op ty w (.bool b):=h▸k
theorem z9d {α β ε:Type} {f:FuncId} {y:Operand} {fs cs:List Value} {xs:Array Operand} {ts:Array TypeId} {vs:List Value} {r:Except ε α} {X:α->β->Value} {C:ε->List PanicEntry} {F1:α->β->Fz} {d:Fz} {KO:α->β->List Res} {KE:List Res} {G:α->β->Prop}
  (J:EnvR n E D a) (p:ev E y=some (.func (.func f) fs.toArray cs.toArray)) (o:evs E xs.toList=some vs) (m:∀args w,(callFunc f args).run P w=.ok (.enter f args) w)
  (l:Calls P f (fs++vs++cs).toArray w (fun e w'=>Out r (fun x=>∃y,e=.returned (X x y)/\G x y/\Mem (F1 x y) (KO x y) w') (fun c=>e=.panicked (C c)/\Mem d KE w')))
  (k:∀x y w',r=.ok x->G x y->Mem (F1 x y) (KO x y) w'->Kn (X x y) w') (kp:∀c w',r=.error c->Mem d KE w'->Qp (C c) w') :
  Oper.eff P ⟨dst,.call { callee:=.value y,args:=xs,argTypes:=ts },ty,pos,aft,g⟩ a w Kn Qp:=by
 refine cF J p o m l (fun v w' h=>?_) (fun c w' h=>?_) (fun w' h=>?_)
 ·cases r with
  | ok x=>obtain ⟨y,b,i,j⟩:=h;cases b;exact k _ _ _ rfl i j
  | error c=>obtain ⟨b,i⟩:=h;cases b
 ·cases r with
  | ok x=>obtain ⟨y,b,_⟩:=h;cases b
  | error c=>obtain ⟨b,i⟩:=h;cases b;exact kp _ _ rfl i
 ·cases r with
  | ok x=>obtain ⟨y,b,_⟩:=h;cases b
  | error c=>obtain ⟨b,_⟩:=h;cases b
theorem kE {β:Type} {f:FuncId} {y:Operand} {fs cs:List Value} {xs:Array Operand} {ts:Array TypeId} {vs:List Value} {X:β->Value} {F1:β->Fz} {KO:β->List Res} {G:β->Prop}
  (J:EnvR n E D a) (o:ev E y=some (.func (.func f) fs.toArray cs.toArray)) (m:evs E xs.toList=some vs) (l:∀args w,(callFunc f args).run P w=.ok (.enter f args) w)
  (j:Calls P f (fs++vs++cs).toArray w (fun e w'=>∃y,e=.returned (X y)/\G y/\Mem (F1 y) (KO y) w'))
  (k:∀y w',G y->Mem (F1 y) (KO y) w'->Kn (X y) w') :
  Oper.eff P ⟨dst,.call { callee:=.value y,args:=xs,argTypes:=ts },ty,pos,aft,g⟩ a w Kn Qp :=
 cF J o m l j (fun v w' h=>by obtain ⟨y,b,d,i⟩:=h;cases b;exact k _ _ d i) (fun c w' h=>by obtain ⟨y,b,_⟩:=h;cases b) (fun w' h=>by obtain ⟨y,b,_⟩:=h;cases b)
theorem kY {α ε:Type} {f:FuncId} {y:Operand} {fs cs:List Value} {xs:Array Operand} {ts:Array TypeId} {vs:List Value} {r:Except ε α} {X:α->Value} {C:ε->List PanicEntry} {d i:Fz} {KO:α->List Res} {KE:List Res}
  (J:EnvR n E D a) (q:ev E y=some (.func (.func f) fs.toArray cs.toArray)) (p:evs E xs.toList=some vs) (o:∀args w,(callFunc f args).run P w=.ok (.enter f args) w)
  (m:Calls P f (fs++vs++cs).toArray w (fun e w'=>Out r (fun x=>e=.returned (X x)/\Mem d (KO x) w') (fun c=>e=.panicked (C c)/\Mem i KE w')))
  (k:∀x w',r=.ok x->Mem d (KO x) w'->Kn (X x) w') (kp:∀c w',r=.error c->Mem i KE w'->Qp (C c) w') :
  Oper.eff P ⟨dst,.call { callee:=.value y,args:=xs,argTypes:=ts },ty,pos,aft,g⟩ a w Kn Qp:=by
 refine cF J q p o m (fun v w' h=>?_) (fun c w' h=>?_) (fun w' h=>?_)
 ·cases r with
  | ok x=>obtain ⟨b,l⟩:=h;cases b;exact k _ _ rfl l
  | error c=>obtain ⟨b,j⟩:=h;cases b
 ·cases r with
  | ok x=>obtain ⟨b,_⟩:=h;cases b
  | error c=>obtain ⟨b,j⟩:=h;cases b;exact kp _ _ rfl j
 ·cases r with
  | ok x=>obtain ⟨b,_⟩:=h;cases b
  | error c=>obtain ⟨b,_⟩:=h;cases b
theorem q7m {f:FuncId} {y:Operand} {fs cs:List Value} {xs:Array Operand} {ts:Array TypeId} {vs:List Value} {c:List PanicEntry} {b:Fz} {KE:List Res}
  (J:EnvR n E D a) (k:ev E y=some (.func (.func f) fs.toArray cs.toArray)) (j:evs E xs.toList=some vs) (i:∀args w,(callFunc f args).run P w=.ok (.enter f args) w)
  (d:Calls P f (fs++vs++cs).toArray w (fun e w'=>e=.panicked c/\Mem b KE w')) (kp:∀w',Mem b KE w'->Qp c w') :
  Oper.eff P ⟨dst,.call { callee:=.value y,args:=xs,argTypes:=ts },ty,pos,aft,g⟩ a w Kn Qp :=
 cF J k j i d (fun v w' h=>by cases h.1) (fun c w' h=>by cases h.1;exact kp _ h.2) (fun w' h=>by cases h.1)
end
theorem jJ {α:Type} {l:List α} {i:Nat} {x:α} (h:l[i]? = some x):l.take (i+1)=l.take i++[x]:=by rw [List.take_add_one,h];rfl
theorem j2m {A:BS->Prop} {B:Unit->Prop} {o:Option BS} {s:BS} (h:OEqv o (some s)) (k:∀z,s.Eqv z->A z):Out (xQ o) A B:=by
 cases o with
 | none=>exact h.elim
 | some z=>exact k z (BS.Eqv.symm h)
theorem zS {α:Type} {o:Option α} {x:α} (h:xQ o=.ok x):o=some x:=by cases o <;> cases h;rfl
theorem yK {α:Type} {o:Option α} {u:Unit} (h:xQ o=.error u):o=none:=by cases o <;> cases h;rfl
theorem y9n {T:Trc} {c:Bool} {nm:Bs} {m:Bool} {l:List TE} {i:Nat} {x:TE} {s:BS} (h:l[i]? = some x):restT T c nm m (l.drop i) s=(s.bind nm m).bind fun s=>(jH T c x s).bind (restT T c nm m (l.drop (i+1))):=by rw [yM h,restT]
theorem x3m {T:Trc} {c:Bool} {nm:Bs} {m:Bool} {l:List TE} {i:Nat} {s:BS} (h:¬i < l.length):restT T c nm m (l.drop i) s=some s:=by rw [qV h,restT]
section
variable {n:Nat} {D:List Deferred} {Φ Φ':Fz} {K K':List Res} {w:World} {A B:Act->World->Prop} {E E':List (Nat×Value)} {d:Nat} {S:World->Prop} {Qp:List PanicEntry->World->Prop} {cs vs:List Value} {R:Ending->World->Prop} {f:FuncId} {xs:Array Operand} {ts:Array TypeId} {T:TypeId} {x y:Operand} {v:Value} {a:Act}
end
def wQ (es:Array MapEntry) (seen:Array Nat):List MapEntry:=es.toList.filter fun e=> !seen.contains e.born
theorem leftE_mem {es:Array MapEntry} {seen:Array Nat} {e:MapEntry}:e∈wQ es seen↔e∈es.toList/\e.born∉seen:=by simp [wQ]
theorem y0c {es:Array MapEntry} {seen:Array Nat} {e:MapEntry} (h:e∈wQ es seen):(wQ es (seen.push e.born)).length < (wQ es seen).length :=
 filter_lt (fun x:MapEntry=> !seen.contains x.born) (fun x:MapEntry=> !(seen.push e.born).contains x.born) (fun x a=>by simp at a ⊢;exact a.1) e (by have:=(leftE_mem.1 h).2;simpa using this) (by simp) es.toList (leftE_mem.1 h).1
section
variable {P:Program} {n:Nat} {E:List (Nat×Value)} {D:List Deferred} {a:Act} {Φ:Fz} {K:List Res} {w:World}
variable {Kn:Value->World->Prop} {Qp:List PanicEntry->World->Prop} {dst:Option Tmp} {ty:TypeId} {pos:String} {aft:Array Edge} {g:Option (Nat×Bool)}
theorem y5g (i:Nat) {t kt et:TypeId} {x:Operand} {b:Nat} {m:List (Bs×Value)} (h:Under P t (.map kt et)) (J:EnvR n E D a) (N:Mem Φ K w) (j:ev E x=some (.map (some b))) (e:yU K i=some (.mp b m))
  (k:∀r es clock w',MapOk es clock m->Mem Φ (.blk r (.mapIter (some b) clock #[] clock)::wA K i (.blk b (.map es clock))) w'->Kn (.pointer (some ⟨r,0,none⟩)) w'):Oper.eff P ⟨dst,.range t x,ty,pos,aft,g⟩ a w Kn Qp:=by
 obtain ⟨es,clock,hb,d⟩:=N.own _ (yR e);have f:(getObj b).run P w=.ok (.map es clock) w:=by simp [getObj,Sem.run,hb]
 have c:Mem Φ (wA K i (.blk b (.map es clock))) w:=N.upd e rfl rfl (fun _ _ _=>rfl) hb (.inl rfl);unfold Oper.eff
 have:(execOp a.eval ⟨dst,.range t x,ty,pos,aft,g⟩).run P w=.ok (.value (.pointer (some ⟨w.heap.size,0,none⟩))) { w with heap:=w.heap.push (.mapIter (some b) clock #[] clock) }:=by
  simp only [execOp,J.ev j,Instr.range,Sem.run_bind,h w,Result.andThen_ok,f]
  simp [newObj,Sem.run,Sem.run_bind,Result.andThen]
 rw [this];exact k _ _ _ _ d (c.push _)
theorem q1l (i j:Nat) {x:Operand} {r b clock:Nat} {es:Array MapEntry} {seen:Array Nat} {m:List (Bs×Value)} (J:EnvR n E D a) (N:Mem Φ K w) (s:ev E x=some (.pointer (some ⟨r,0,none⟩)))
  (F:yU K i=some (.blk r (.mapIter (some b) clock seen clock))) (I:yU K j=some (.blk b (.map es clock))) (u:MapOk es clock m)
  (M:wQ es seen=[]->∀w',Mem Φ K w'->Kn (.tuple #[.bool false]) w')
  (Q:∀e w',e∈wQ es seen->Mem Φ (wA K i (.blk r (.mapIter (some b) clock (seen.push e.born) clock))) w'->Kn (.tuple #[.bool true,e.key,e.val]) w') :
  Oper.eff P ⟨dst,.next x false,ty,pos,aft,g⟩ a w Kn Qp:=by
 have B:w.heap[r]? = some (.mapIter (some b) clock seen clock):=N.own _ (yR F);have hb:w.heap[b]? = some (.map es clock):=N.own _ (yR I);have p:(!seen.isEmpty && !es.isEmpty&&es.all (fun x=>decide (x.born≥clock)))=false:=next_test_false seen es clock clock u.old (Nat.le_refl _);have f:∀e∈es.toList,e.born < clock:=u.old
 have H:((es.filter fun e=> !seen.contains e.born).filter (fun x=>decide (x.born < clock)))=es.filter fun e=> !seen.contains e.born :=
  Array.filter_eq_self.2 (fun x s=>by
   have:=f x (by simp at s ⊢;exact s.1)
   simpa using this)
 have e2:((es.filter fun e=> !seen.contains e.born).filter (fun x=>decide (x.born≥clock)))=#[]:=by
  rw [Array.filter_eq_empty_iff];intro x s;have:=f x (by simp at s ⊢;exact s.1);simp only [ge_iff_le,decide_eq_true_eq,Nat.not_le];omega
 have d:wQ es seen=(es.filter fun e=> !seen.contains e.born).toList:=by simp [wQ]
 unfold Oper.eff;simp only [execOp,J.ev s,Instr.next,getObj,Sem.run_bind,Sem.run,B,hb,Result.andThen,p,Bool.false_eq_true,if_false,H,e2,Array.append_empty];generalize R:(es.filter fun e=> !seen.contains e.born)=L at *;by_cases C:L.size=0
 ·have:L=#[]:=Array.eq_empty_of_size_eq_zero C
  subst this;simp only [Array.isEmpty,Array.size_empty,decide_true,if_true];simp only [choose,Sem.run,Question.forced]
  simp
  exact M (by rw [d]) _ N
 ·have l:L.isEmpty=false:=by simp [Array.isEmpty,C]
  simp only [l,Bool.false_eq_true,if_false,Array.empty_append,Array.size_map]
  have hch:∃(q:Nat) (k:World),q < L.size/\Mem Φ K k/\k.heap=w.heap/\(choose (Question.mapNext L.size)).run P w=.ok q k:=by
   by_cases G:L.size<=1
   ·exact ⟨0,w,by omega,N,rfl,by simp [choose,Sem.run,Question.forced,G]⟩
   ·exact ⟨_,w.drew,Nat.mod_lt _ (by omega),N.drew,rfl,by
     simp only [choose,Sem.run,Question.forced,decide_eq_true_eq,G,if_false,Question.cut]
     rfl⟩
  obtain ⟨q,k,hq,A,y,v⟩:=hch;have h:∀o,(setObj r o).run P k=.ok () { k with heap:=k.heap.setIfInBounds r o }:=fun o=>by simp only [setObj,Sem.run,y,B]
  have z:r < k.heap.size:=by rw [y];exact (Array.getElem?_eq_some_iff.1 B).1
  have t:L[q]∈wQ es seen:=by rw [d];simp
  have hrun':=v;simp only [hrun',Sem.run_bind,Result.andThen,Array.getElem?_map,Array.getElem?_eq_getElem hq,Option.map_some,h,Sem.run_pure]
  simp [Sem.run_bind,h,Result.andThen,kK]
  refine Q _ _ t (A.upd F rfl rfl (fun c S l=>?_) ?_ (.inl rfl))
  ·simp only;rw [Array.getElem?_setIfInBounds_ne (fun e=>l (by simp [Res.foot,e]))]
  ·simp [Res.sat,z]
theorem j3k {x:Operand} {i j:Nat} {r b clock:Nat} {es:Array MapEntry} {seen:Array Nat} {m:List (Bs×Value)} {e:MapEntry} (J:EnvR n E D a) (N:Sees Φ K w) (k:ev E x=some (.pointer (some ⟨r,0,none⟩)))
  (f:yU K i=some (.blk r (.mapIter (some b) clock (seen.push e.born) clock))) (d:yU K j=some (.blk b (.map es clock))) (c:MapOk es clock m) (hl:e∈wQ es seen) :
  Ok P a (.entry x) ty w (.tuple #[e.key,e.val]):=fun _ _ _ _=>by
 have h:w.heap[r]? = some (.mapIter (some b) clock (seen.push e.born) clock):=N.own _ (yR f);have hb:w.heap[b]? = some (.map es clock):=N.own _ (yR d);have g:es.find? (·.born==e.born)=some e:=by rw [<- Array.find?_toList];exact find_born e es.toList c.nodup (leftE_mem.1 hl).1
 simp only [execOp,J.ev k,Instr.entry,getObj,Sem.run_bind,Sem.run,h,hb,Result.andThen,Array.back?_push,bne_self_eq_false,Bool.false_eq_true,if_false,g];rfl
theorem y5h {es:Array MapEntry} {clock:Nat} {m:List (Bs×Value)} {e:MapEntry} (b:MapOk es clock m) (h:e∈es.toList):∃s v,e.key=.string s/\e.val=v/\(s,v)∈m:=by
 have c:(e.key,e.val)∈m.map (fun p=>(Value.string p.1,p.2)):=by rw [<- b.eq];exact List.mem_map.2 ⟨e,h,rfl⟩
 obtain ⟨p,d,a⟩:=List.mem_map.1 c;simp only [Prod.mk.injEq] at a;exact ⟨p.1,p.2,a.1.symm,a.2.symm,d⟩
theorem j6d {es:Array MapEntry} {clock:Nat} {m:List (Bs×Value)} {s:Bs} {v:Value} (a:MapOk es clock m) (h:(s,v)∈m):∃e∈es.toList,e.key=.string s:=by
 have c:(Value.string s,v)∈es.toList.map (fun e=>(e.key,e.val)):=by rw [a.eq];exact List.mem_map.2 ⟨(s,v),h,rfl⟩
 obtain ⟨e,J,b⟩:=List.mem_map.1 c;simp only [Prod.mk.injEq] at b;exact ⟨e,J,b.1⟩
end
section
variable {P:Program} {n:Nat} {E:List (Nat×Value)} {D:List Deferred} {a:Act} {Φ Ψ:Fz} {K:List Res} {w:World}
variable {Kn:Value->World->Prop} {Qp:List PanicEntry->World->Prop} {dst:Option Tmp} {ty:TypeId} {pos:String} {aft:Array Edge} {g:Option (Nat×Bool)}
theorem y8f {t kt et:TypeId} {x:Operand} {i:Int} (c:Under P t (.map kt et)) (J:EnvR n E D a) (d:ev E x=some (.int .i64 i)) (N:Mem Φ K w) (k:∀b w',Mem Φ (.mp b []::K) w'->Kn (.map (some b)) w'):Oper.eff P ⟨dst,.makeMap t (some x),ty,pos,aft,g⟩ a w Kn Qp:=by
 unfold Oper.eff
 have:(execOp a.eval ⟨dst,.makeMap t (some x),ty,pos,aft,g⟩).run P w=.ok (.value (.map (some w.heap.size))) { w with heap:=w.heap.push (.map #[] 0) }:=by
  simp [execOp,Instr.makeMap,J.ev d,Sem.run_bind,c w,Result.andThen,asInt,asIntOf]
 rw [this];refine k _ _ (N.more rfl rfl (fun b hb=>wN hb) ⟨#[],0,by simp,by simp,by simp,by simp⟩ (by simp [Res.foot]))
theorem q7n (i:Nat) {t kt et:TypeId} {x:Operand} {b:Nat} {m:List (Int×Value)} (r:Under P t (.map kt et)) (J:EnvR n E D a) (N:Mem Φ K w) (s:ev E x=some (.map (some b))) (l:yU K i=some (.imp b m))
  (k:∀w',Mem Φ (wA K i (.imp b [])) w'->Kn (.tuple #[]) w'):Oper.eff P ⟨dst,.call { callee:=.builtin .clear,args:=#[x],argTypes:=#[t] },ty,pos,aft,g⟩ a w Kn Qp:=by
 obtain ⟨es,clock,hb,q⟩:=N.own _ (yR l);have h:b < w.heap.size:=(Array.getElem?_eq_some_iff.1 hb).1;have p:(getObj b).run P w=.ok (.map es clock) w:=by simp [getObj,Sem.run,hb]
 have f:∀o,(setObj b o).run P w=.ok () { w with heap:=w.heap.setIfInBounds b o }:=fun o=>by simp only [setObj,Sem.run,hb]
 have d:(Builtin.clear_ #[t] ty #[.map (some b)]).run P w=.ok (.tuple #[]) { w with heap:=w.heap.setIfInBounds b (.map #[] clock) }:=by
  simp [Builtin.clear_,Sem.run_bind,r w,p,f]
 unfold Oper.eff
 have:(execOp a.eval ⟨dst,.call { callee:=.builtin .clear,args:=#[x],argTypes:=#[t] },ty,pos,aft,g⟩).run P w=.ok (.value (.tuple #[])) { w with heap:=w.heap.setIfInBounds b (.map #[] clock) }:=by
  simp only [execOp,resolve,invoke,builtin,Sem.run_bind,Sem.run_pure,Result.andThen_ok,List.map_toArray,List.map_cons,List.map_nil,J.ev s,d]
 rw [this];refine k _ (N.upd l rfl rfl (fun c u j=>?_) ⟨#[],clock,?_,by simp,by simp,by simp⟩ (.inl rfl))
 ·simp only;rw [Array.getElem?_setIfInBounds_ne (fun e=>j (by simp [Res.foot,e]))]
 ·simp [h]
theorem x5d (i:Nat) {x:Operand} {t kt et:TypeId} {b:Nat} {m:List (Bs×Value)} (J:EnvR n E D a) (O:Sees Φ K w) (j:ev E x=some (.map (some b))) (g:yU K i=some (.mp b m)) (h:Under P t (.map kt et)) :
  Ok P a (.call { callee:=.builtin .len,args:=#[x],argTypes:=#[t] }) ty w (.int .i64 (m.length:Int)):=fun _ _ _ _=>by
 obtain ⟨es,clock,c,d⟩:=O.own _ (yR g);have e:(getObj b).run P w=.ok (.map es clock) w:=by simp [getObj,Sem.run,c]
 have f:es.size=m.length:=by have:=congrArg List.length d.eq;simpa using this
 simp only [execOp,resolve]
 simp [Sem.run_bind,Result.andThen,invoke,builtin,J.ev j,Builtin.len_,h w,goInt,e,f]
end
theorem q2t {Φ:Fz} {K:List Res} {w:World} {i b clock:Nat} {es:Array MapEntry} {m:List (Bs×Value)} (N:Mem Φ K w) (c:yU K i=some (.blk b (.map es clock))) (a:MapOk es clock m):Mem Φ (wA K i (.mp b m)) w :=
 N.upd c rfl rfl (fun _ _ _=>rfl) ⟨es,clock,N.own _ (yR c),a⟩ (.inl rfl)
def NoK {α:Type} (l:List (Bs×α)):Prop:=(l.map Prod.fst).Nodup
theorem tD {α:Type}:∀{l:List (Bs×α)} {n:Bs} {x:α},zK l n=some x->(n,x)∈l
 | [],_,_,h=>by cases h
 | (k,v)::l,n,x,h=>by
  simp only [zK] at h;split at h
  ·rename_i e;cases h;subst e;exact msQ
  ·exact mcQ _ (tD h)
theorem z6f {α:Type}:∀{l:List (Bs×α)} {n:Bs} {x:α},NoK l->(n,x)∈l->zK l n=some x
 | [],_,_,_,h=>by cases h
 | (k,v)::l,n,x,a,h=>by
  simp only [NoK,List.map_cons,List.nodup_cons] at a;simp only [zK];rcases List.mem_cons.1 h with h | h
  ·cases h;rw [if_pos rfl]
  ·rw [if_neg (fun e=>a.1 (List.mem_map.2 ⟨(n,x),h,e⟩))];exact z6f a.2 h
theorem y6b {α:Type}:∀(l:List (Bs×α)) (n:Bs) (x:α),∀k,k∈(qT l n x).map Prod.fst↔k=n∨k∈l.map Prod.fst
 | [],n,x,k=>by simp [qT]
 | (q,v)::l,n,x,k=>by
  simp only [qT];split
  ·rename_i e;subst e;simp
  ·simp only [List.map_cons,List.mem_cons,y6b l n x k]
   constructor
   ·rintro (h | h | h)
    ·exact .inr (.inl h)
    ·exact .inl h
    ·exact .inr (.inr h)
   ·rintro (h | h | h)
    ·exact .inr (.inl h)
    ·exact .inl h
    ·exact .inr (.inr h)
theorem NoK.put {α:Type}:∀{l:List (Bs×α)} (n:Bs) (x:α),NoK l->NoK (qT l n x)
 | [],n,x,_=>by simp [NoK,qT]
 | (q,v)::l,n,x,h=>by
  simp only [NoK,List.map_cons,List.nodup_cons] at h;simp only [qT];split
  ·simp only [NoK,List.map_cons,List.nodup_cons];exact h
  ·rename_i e
   simp only [NoK,List.map_cons,List.nodup_cons];exact ⟨fun a=>((y6b l n x q).1 a).elim (fun h=>e h.symm) h.1,NoK.put (l:=l) n x h.2⟩
theorem x2g {l:List (Bs×Int)} {s:Bs} {v:Value} (h:(s,v)∈yB l):∃y,v=.int .i64 y/\(s,y)∈l:=by
 obtain ⟨p,a,e⟩:=List.mem_map.1 h;cases e;exact ⟨p.2,rfl,a⟩
structure Copying (es:Array MapEntry) (seen:Array Nat) (l q:List (Bs×Int)):Prop where
 nok:NoK q
 get:∀n,zK q n=none∨zK q n=zK l n
 all:∀e∈es.toList,e.born∈seen->∀n,e.key=.string n->zK q n=zK l n
theorem Copying.start {es:Array MapEntry} {l:List (Bs×Int)}:Copying es #[] l []:=⟨List.nodup_nil,fun _=>.inl rfl,fun e _ h=>by simp at h⟩
theorem Copying.next {es:Array MapEntry} {seen:Array Nat} {clock:Nat} {l q:List (Bs×Int)} {e:MapEntry} {s:Bs} {y:Int} (h:Copying es seen l q) (hl:NoK l) (c:MapOk es clock (yB l)) (J:e∈wQ es seen) (j:e.key=.string s) (k:(s,y)∈l):Copying es (seen.push e.born) l (qT q s y):=by
 have f:=z6f hl k;refine ⟨h.nok.put s y,fun n=>?_,fun x g hb n a=>?_⟩
 ·rw [yJ]
  split
  ·rename_i e;subst e;exact .inr f.symm
  ·exact h.get n
 ·rw [yJ]
  split
  ·rename_i e;subst e;exact f.symm
  ·rename_i b
   rw [Array.mem_push] at hb;rcases hb with hb | hb
   ·exact h.all x g hb n a
   ·have:x=e:=by
     have d:=c.nodup;have:=find_born x es.toList d g;have i:=find_born e es.toList d (leftE_mem.1 J).1;rw [hb,i] at this;exact (Option.some.inj this).symm
    subst this;rw [j] at a;cases a;exact absurd rfl b
theorem Copying.done {es:Array MapEntry} {seen:Array Nat} {clock:Nat} {l q:List (Bs×Int)} (h:Copying es seen l q) (b:MapOk es clock (yB l)) (f:wQ es seen=[]) (n:Bs):zK q n=zK l n:=by
 rcases h.get n with a | a
 ·cases c:zK l n with
  | none=>exact a
  | some y=>
   obtain ⟨e,J,g⟩:=j6d b (List.mem_map.2 ⟨(n,y),tD c,rfl⟩)
   have O:e.born∈seen:=by
    refine Decidable.byContradiction fun d=>?_;have:e∈wQ es seen:=leftE_mem.2 ⟨J,d⟩;rw [f] at this;cases this
   rw [<- c];exact h.all e J O n g
 ·exact a
section
variable {Φ:Fz} {K:List Res} {w:World}
theorem q2l {s:Bs} (G:Glob Φ) (N:Mem Φ K w):Calls prog 156 #[.string s] w (fun ee w'=>ee=.returned (.int .i64 (gS s))/\Mem Φ K w'):=by
 refine zJ func156 ntmps156 fun Q hQ a J=>?_;by_cases m:24 < s.size;refine yG ?_;rw [j6e m];exact ⟨rfl,N⟩;refine go fun a J=>?_;refine st J rfl rfl rfl (j5m J rfl call108 (y2j G (by omega) N) (fun n H w c N a J=>?_) (fun n H w c N a J=>?_));replace N:=N.nf;obtain ⟨T,U⟩:=H;simp only at N J;have h:=N;clear N;obtain ⟨v,e,N,f⟩:=h.freezeRow (i:=0) rfl;clear h;replace N:=N.nf;have b:SliceOf RTok v 4 _ (n):=⟨_,f,z1k n⟩;obtain ⟨R,M,x,F,q⟩:=b.form (by decide);have j:=N;clear N;subst x;have N:=j;clear j;refine Alc fun I w N a J=>?_;refine Sto 0 fun w N a J=>?_;refine Qq (fun a J=>?_) (o:=by exact fun J O=>xA false J rfl rfl rfl);by_cases l:(n).length=1;refine go fun a J=>?_;have g:0 < (n).length:=by omega
 obtain ⟨S,rfl,u,d,z,D,B,r⟩:=b.el q g;obtain rfl:=id r;by_cases p:u.text=s;refine go fun a J=>?_;obtain ⟨y,k⟩:=zW g;obtain ⟨A,E,C,t⟩:=b.elem k;obtain rfl:=id t;refine yG ?_;replace N:=N.le (e);replace N:=N.dl [0];rw [kind_ok m c l d p,show u=y from Option.some.inj (d.symm.trans k)];exact ⟨rfl,N⟩;refine yG ?_;replace N:=N.le (e);replace N:=N.dl [0];rw [kind_no m c l d p];exact ⟨rfl,N⟩;refine yG ?_;replace N:=N.le (e);replace N:=N.dl [0];rw [kind_ne m c l];exact ⟨rfl,N⟩;replace N:=N.nf;refine Alc fun L w N a J=>?_;refine Sto 0 fun w N a J=>?_;by_cases P:n.2=0;refine Qq (fun a J=>?_) (o:=by exact fun J O=>xA true J rfl rfl rfl);refine yG ?_;replace N:=N.dl [0];rw [q2m m c];exact ⟨rfl,N⟩;refine yG ?_;replace N:=N.dl [0];rw [q2m m c];exact ⟨rfl,N⟩
theorem z0t {s:Bs} (G:Glob Φ) (N:Mem Φ K w):Calls prog 126 #[.string s] w (fun ee w'=>ee=.returned (.bool (vC s))/\Mem Φ K w'):=by
 refine zJ func126 ntmps126 fun Q hQ a J=>?_;refine zE call156 (fun w N a J=>?_) (c:=q2l G N);refine Qq (fun a J=>?_) (o:=by exact fun J O=>vQ J rfl rfl);refine yG ?_;exact ⟨rfl,N⟩
theorem y5s {s:Bs} (G:Glob Φ) (N:Mem Φ K w):Calls prog 125 #[.string s] w (fun ee w'=>ee=.returned (.bool (z0s s))/\Mem Φ K w'):=by
 refine zJ func125 ntmps125 fun Q hQ a J=>?_;refine zE call156 (fun w N a J=>?_) (c:=q2l G N);refine Qq (fun a J=>?_) (o:=by exact fun J O=>vQ J rfl rfl);refine yG ?_;exact ⟨rfl,N⟩
end
theorem z1v {Φ:Fz} {K:List Res} {w:World} {bb mb mk:Nat} {pv fv lv:Value} {s:BS} {nm:Bs} {m:Bool} (G:Glob Φ) (N:Mem Φ (.blk bb (ob [pv,fv,.map (some mb),.map (some mk),lv] 199)::.mp mb (yB (vV s.list))::.mp mk (yB s.kinds)::.gs lv 125 2 (vL s.list)::K) w) :
  Calls prog 127 #[.pointer (some ⟨bb,0,none⟩),.string nm,.bool m] w (fun ee w'=>Out (xQ (s.bind nm m)) (fun z=>∃lv':Value,ee=.returned (.tuple #[])/\True/\Mem Φ (.blk bb (ob [pv,fv,.map (some mb),.map (some mk),lv'] 199)::.mp mb (yB (vV z.list))::.mp mk (yB z.kinds)::.gs lv' 125 2 (vL z.list)::K) w') (fun _=>ee=.panicked jK/\Mem Φ K w')):=by
 refine zJ func127 ntmps127 fun Q hQ a J=>?_;refine zE call126 (fun w N a J=>?_) (c:=z0t G N);refine go fun a J=>?_;generalize e:(vC nm)=h at J;cases h;refine qI call83 (fun w N=>?_) (c:=zI N);replace N:=N.dl [3,2,1,0];rw [y7w fun f=>absurd (f.1.symm.trans e) (by decide)];exact ⟨rfl,N⟩;refine Qq (fun a J=>?_) (o:=by exact fun J O=>Ok.cast (qB 1 runUnderlying98 runUnderlying9 zeroValue3 J O rfl rfl rfl) (vX (vV s.list) nm));by_cases g:((zK (vV s.list) nm).getD 0)=0;refine Qq (fun a J=>?_) (o:=by exact fun J O=>mY 3 (s.list.length) J O rfl rfl (by rw [z3g];omega) (by decide) runUnderlying43);refine Qq (fun a J=>?_) (o:=by exact fun J O=>y_lssN (i:=s.list.length) (j:=2000) J rfl rfl);refine yF call83 (fun l w d N a J=>?_) (fun l w d N=>?_) (c:=yC (b:=(decide (s.list.length < 2000))) N);refine Qq (fun a J=>?_) (o:=by exact fun J O=>Ok.cast (qB 1 runUnderlying98 runUnderlying9 zeroValue3 J O rfl rfl rfl) (vX (vV s.list) nm));refine Qq (fun a J=>?_) (o:=by exact fun J O=>tW _ J rfl rfl rfl);refine uU 1 runUnderlying98 runUnderlying9 fun w N a J=>?_;rw [pB (vV s.list) nm (IntKind.i64.wrap (((zK (vV s.list) nm).getD 0)+1))] at N;refine Reg [1,1,1,2,1,1,0,0] [0,1,2,3] fun w N a J=>?_;refine zE call157 (fun w N a J=>?_) (c:=y5v N);refine uU 2 runUnderlying98 runUnderlying9 fun w N a J=>?_;rw [pB s.kinds nm (vJ m)] at N;refine yE fun a J=>?_;refine qR fun v9 w N a J=>?_;refine vU 4 j2u (fun n w N a J=>?_) (hb:=by have k:=of_decide_eq_true (zC d);rw [z3g];simp only [lcQ,lnQ];omega)
 refine Sto 1 fun w N a J=>?_;refine go fun a J=>?_;replace N:=N.dl [0];refine hQ _ _ _ (yN J results127 ?_);rw [q0s e (bnd_none.2 g) (of_decide_eq_true (zC d))];rw [g,show IntKind.i64.wrap (0+1)=1 from rfl,j0s (m:=m) (bnd_none.2 g),<- z5b s.list ⟨nm,m⟩] at N;exact ⟨_,rfl,trivial,N⟩;replace N:=N.dl [3,2,1,0];rw [y7w fun f=>absurd f.2.2 (of_decide_eq_false (zP d))];exact ⟨rfl,N⟩;refine qI call83 (fun w N=>?_) (c:=zI N);replace N:=N.dl [3,2,1,0];rw [y7w fun f=>absurd (bnd_none.1 f.2.1) g];exact ⟨rfl,N⟩
end Go.Sw
