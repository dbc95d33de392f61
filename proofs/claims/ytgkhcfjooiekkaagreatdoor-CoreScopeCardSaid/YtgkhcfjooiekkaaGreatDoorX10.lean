import Derived.Test.YtgkhcfjooiekkaaGreatDoorProg
import Derived.Test.YtgkhcfjooiekkaaGreatDoorX01
import Derived.Test.YtgkhcfjooiekkaaGreatDoorX02
import Derived.Test.YtgkhcfjooiekkaaGreatDoorX03
import Derived.Test.YtgkhcfjooiekkaaGreatDoorX04
import Derived.Test.YtgkhcfjooiekkaaGreatDoorX09
set_option linter.unusedVariables false
set_option linter.unusedSimpArgs false
namespace Go.Sw
structure QAt (off cap:Nat) (arr:Array Value) (l:List Bs):Prop where
 room:off+cap≤arr.size
 fits:l.length≤cap
 max:cap≤maxLen
 cells:∀(j:Nat) s,l[j]? = some s→arr[off+j]? = some (.string s)
abbrev qblk (b:Nat) (arr:Array Value):Res:=.blk b (.cells arr 9 (0,0))
abbrev qval (b off cap:Nat) (l:List Bs):Value:=.slice (some ⟨b,off,none⟩) l.length cap
def qoff (off cap:Nat):Nat:=if cap=1 then off else off+1
theorem QAt.tail {off cap:Nat} {arr:Array Value} {l:List Bs} (h:QAt off cap arr l) (h0:0 < l.length):QAt (qoff off cap) (cap - 1) arr (l.drop 1):=by
 have:=h.fits;have:=h.room;have:=h.max
 refine ⟨?_,?_,by omega,fun j s hj =>?_⟩
 ·unfold qoff;split <;> omega
 ·rw [List.length_drop];omega
 ·rw [List.getElem?_drop] at hj
  have h1:=h.cells _ _ hj
  have hlt:=(List.getElem?_eq_some_iff.1 hj).1
  unfold qoff
  rw [if_neg (by omega)]
  rw [show off+1+j=off+(1+j) by omega];exact h1
theorem add_off (b off j:Nat):(⟨b,off,none⟩:Addr).add j=⟨b,off+j,none⟩:=by
 unfold Addr.add;split <;> simp_all
section
variable {P:Program} {n:Nat} {E:List (Nat×Value)} {D:List Deferred} {a:Act} {Φ:Fz} {K:List Res} {w:World} {ty:TypeId}
theorem y_load_q (i:Nat) {x:Operand} {b off cap:Nat} {arr:Array Value} {l:List Bs} {T:TypeId} {s:Bs} (he:EnvR n E D a) (hm:Sees Φ K w) (hq:QAt off cap arr l) (hx:ev E x=some (.pointer (some ((⟨b,off,none⟩:Addr).add (0 * 1)))))
  (hk:kget K i=some (qblk b arr)) (hs:l[0]? = some s) (hT:Scalar P T):Ok P a (.load T x) ty w (.string s):=fun _ _ _ _=>by
 have h1:w.heap[b]? = some (.cells arr 9 (0,0)):=hm.own _ (z1a hk)
 have h2:w.cell? ⟨b,off,none⟩=some (.string s):=by simp [World.cell?,h1];exact hq.cells 0 s hs
 have h3:((⟨b,off,none⟩:Addr).add (0 * 1))=⟨b,off,none⟩:=by simp [Addr.add]
 rw [h3] at hx
 simp only [execOp,he.ev hx]
 simp [Instr.loadAt,Instr.sureAddr,loadVar,Sem.run_bind,hT w,Result.andThen,load,Sem.run,h2]
theorem y_slice_q {x lo:Operand} {t e:TypeId} {b off cap:Nat} {arr:Array Value} {l:List Bs} (he:EnvR n E D a) (hq:QAt off cap arr l) (hx:ev E x=some (qval b off cap l)) (hlo:ev E lo=some (.int .i64 ((1:Nat):Int)))
  (ht:Under P t (.slice e)) (hs:SizeT P e 1) (h0:0 < l.length):Ok P a (.slice t x (some lo) none none) ty w (qval b (qoff off cap) (cap - 1) (l.drop 1)):=fun _ _ _ _=>by
 have hf:=hq.fits
 have h1:(1:Nat)≤cap:=by omega
 have h2:(1:Int)≤(l.length:Int):=by omega
 have hv:(if cap=1 then some (⟨b,off,none⟩:Addr) else some (Addr.add ⟨b,off,none⟩ 1))=some ⟨b,qoff off cap,none⟩:=by
  unfold qoff;split <;> simp [Addr.add]
 simp only [execOp,he.ev hx,Option.map_some,Option.map_none,he.ev hlo,Instr.sliceAt]
 simp [Sem.run_bind,ht w,hs w,Instr.slice,Instr.sliceBounds,Instr.sliceBound,asIntOf,h2,hf,h1,Result.andThen,qval,hv]
theorem eff_append_q (i:Nat) {dst:Option Tmp} {pos:String} {aft:Array Edge} {g:Option (Nat×Bool)} {Kn:Value→World→Prop} {Qp:List PanicEntry→World→Prop} {x y:Operand} {t bytes:TypeId} {b off cap:Nat} {arr:Array Value} {l:List Bs} {v:Value} {s:Bs} (hT:RowT P t 9 1 bytes) (he:EnvR n E D a) (hm:Mem Φ K w) (hq:QAt off cap arr l)
  (hx:ev E x=some (qval b off cap l)) (hk:kget K i=some (qblk b arr)) (hy:ev E y=some v) (hr:RowIn w v 1 [.string s]) (hb:(l.length+1) * bytes≤140737488355328)
  (k:∀b' off' cap' arr' w',QAt off' cap' arr' (l++[s])→Mem Φ (kset K i (qblk b' arr')) w'→Kn (qval b' off' cap' (l++[s])) w') :
  Oper.eff P ⟨dst,.call { callee:=.builtin .append,args:=#[x,y],argTypes:=#[t,t] },ty,pos,aft,g⟩ a w Kn Qp:=by
 obtain ⟨inf,z,hi,hz,hsz,hby,hzs⟩:=hT.info
 have hg:w.heap[b]? = some (.cells arr 9 (0,0)):=hm.own _ (z1a hk)
 have hfin:∀v' w',(Builtin.append_ #[t,t] ty #[qval b off cap l,v]).run P w=.ok v' w'→Kn v' w' →
   Oper.eff P ⟨dst,.call { callee:=.builtin .append,args:=#[x,y],argTypes:=#[t,t] },ty,pos,aft,g⟩ a w Kn Qp:=by
  intro v' w' hrun hK
  unfold Oper.eff
  have:(execOp a.eval ⟨dst,.call { callee:=.builtin .append,args:=#[x,y],argTypes:=#[t,t] },ty,pos,aft,g⟩).run P w=.ok (.value v') w':=by
   simp only [execOp,resolve,invoke,builtin,Sem.run_bind,Sem.run_pure,Result.andThen_ok,List.map_toArray,List.map_cons,List.map_nil,he.ev hx,he.ev hy,hrun]
  rw [this]
  exact hK
 rcases hr with ⟨_,h⟩ | ⟨q,m',c,rfl,hl,hat⟩
 ·cases h
 have hm1:m'=1:=by simpa using hl.symm
 subst hm1
 have hbb:l.length+1≤140737488355328:=Nat.le_trans (Nat.le_mul_of_pos_right _ hT.bpos) hb
 have hroom':=hq.room
 have hlen:(l++[s]).length=l.length+1:=by simp
 by_cases hroom:l.length+1≤cap
 ·have hst:=run_storeCells_at P b (off+l.length) 9 [.string s] 0 arr w hg (by simp only [List.length_cons,List.length_nil];omega) (by simp [Value.oneCell'])
  have hf:=run_firstCells_some (P:=P) w 1 1 q 1 c [.string s] (by simp) hat
  have hrun:(Builtin.append_ #[t,t] ty #[qval b off cap l,.slice (some q) 1 c]).run P w=.ok (qval b off cap (l++[s])) (w.setRow b (arr.toList.take (off+l.length)++[Value.string s]++arr.toList.drop (off+l.length+1)).toArray):=by
   simp only [Nat.add_zero,List.length_cons,List.length_nil,Nat.zero_add] at hst
   simp [Builtin.append_,run_underlying hT.under,sizeOf,typeInfo,hi,hsz,Builtin.lenOf,hroom,hf,add_off,qval,hst]
  refine hfin _ _ hrun (k b off cap _ _ ⟨?_,?_,hq.max,?_⟩ (hm.upd hk rfl rfl (fun c hc hne=>setRow_other w b c _ (fun e=>hne (by simp [Res.foot,e]))) (setRow_heap w b _ _ 9 _ hg) (.inl rfl)))
  ·simp;omega
  ·rw [hlen];exact hroom
  ·intro j u hj
   have hjl:j < l.length+1:=by rw [← hlen];exact (List.getElem?_eq_some_iff.1 hj).1
   have harr:off+l.length < arr.size:=by omega
   simp only [List.getElem?_toArray]
   by_cases hjn:j < l.length
   ·rw [List.append_assoc,List.getElem?_append_left (by simp;omega),List.getElem?_take_of_lt (by omega),Array.getElem?_toList]
    rw [List.getElem?_append_left hjn] at hj
    exact hq.cells _ _ hj
   ·have:j=l.length:=by omega
    subst this
    simp at hj
    subst hj
    rw [List.append_assoc,List.getElem?_append_right (by simp;omega)]
    simp [Nat.min_eq_left (Nat.le_of_lt harr)]
 ·have holds:∀j u,(strs l)[j]? = some u→w.cell? ((⟨b,off,none⟩:Addr).add j)=some u:=fun j u hj=>by
   simp only [strs,List.getElem?_map,Option.map_eq_some_iff] at hj
   obtain ⟨s',h1,rfl⟩:=hj
   have h2:=hq.cells _ _ h1
   rw [add_off];simp [World.cell?,hg,h2]
  have hf':=hq.fits
  have hr:=run_append_grow (P:=P) w t ty 9 inf z hT.under hi hz ⟨b,off,none⟩ l.length cap (strs l) (by rw [hsz];simp [strs]) holds q 1 c [.string s] (by rw [hsz];rfl) hat (by omega) (by omega) (by rw [hby];exact growslice_fits (by omega) (by simpa using hb))
  have hge:=grownCap_ge w (l.length+1) cap 9
  rw [show Value.slice (some (Addr.mk w.heap.size 0 none)) (l.length+1) (grownCap w (l.length+1) cap 9)=qval w.heap.size 0 (grownCap w (l.length+1) cap 9) (l++[s]) by simp [qval]] at hr
  refine hfin _ _ hr (k w.heap.size 0 _ ((strs l).toArray++#[Value.string s]++Builtin.zeroCells z.cells (grownCap w (l.length+1) cap 9 - (l.length+1))) _ ⟨?_,?_,?_,?_⟩ (hm.upd hk rfl rfl (fun c hc hne =>?_) ?_ (.inr fun c hc=>by simp [Res.foot] at hc;omega)))
  ·simp [size_zeroCells,hzs,strs];omega
  ·rw [hlen];exact hge
  ·exact grownCap_le_maxLen w _ _ _ (by simp only [maxLen];omega)
  ·intro j u hj
   have hjl:j < l.length+1:=by rw [← hlen];exact (List.getElem?_eq_some_iff.1 hj).1
   rw [Nat.zero_add,Array.getElem?_append_left (by simp [strs];omega)]
   have:((strs l).toArray++[Value.string s].toArray)[j]? = (strs (l++[s]))[j]? := by rw [z1l];simp [strs]
   rw [this]
   simp only [strs,List.getElem?_map,hj];rfl
  ·show (w.heap.push _)[c]? = _
   rw [Array.getElem?_push_lt hc,Array.getElem?_eq_getElem hc]
  ·show (w.heap.push _)[w.heap.size]? = _
   simp
end
end Go.Sw

namespace Go.Sw
def ex0:Ex:=.mk 0 0 ⟨#[]⟩ [] []
def fbody (T:Table) (n:Bs):Ex:=match lget T.funs n with | some f=>f.body | none=>ex0
def z2y (T:Table) (n:Bs):List Bs:=z1r (fbody T n)
theorem z9u {T:Table} {n:Bs} {f:Fun} (h:lget T.funs n=some f):fbody T n=f.body:=by simp [fbody,h]
theorem fbody_none {T:Table} {n:Bs} (h:lget T.funs n=none):fbody T n=ex0:=by simp [fbody,h]
theorem rex0 {Φ:Fz}:REx Φ [.int .i64 0,.int .i64 0,.string ⟨#[]⟩,.slice none 0 0,.slice none 0 0] ex0:=REx.iff.2 ⟨_,_,rfl,⟨by decide,by decide⟩,SliceOf.nil 5,SliceOf.nil 7⟩
theorem mput_keys:∀(m:List (Bs×Value)) (k:Bs) (x:Value) (s:Bs),(∃v,(s,v)∈mput m k x)↔s=k∨∃v,(s,v)∈m
 | [],k,x,s=>by simp [mput]
 | (k',y)::m,k,x,s=>by
  simp only [mput]
  split
  ·rename_i h;subst h
   simp only [List.mem_cons,Prod.mk.injEq]
   constructor
   ·rintro ⟨v,h | h⟩
    ·exact .inl h.1
    ·exact .inr ⟨v,.inr h⟩
   ·rintro (h | ⟨v,h | h⟩)
    ·exact ⟨x,.inl ⟨h,rfl⟩⟩
    ·exact ⟨x,.inl ⟨h.1,rfl⟩⟩
    ·exact ⟨v,.inr h⟩
  ·simp only [List.mem_cons,Prod.mk.injEq]
   have:=mput_keys m k x s
   constructor
   ·rintro ⟨v,h | h⟩
    ·exact .inr ⟨v,.inl h⟩
    ·rcases this.1 ⟨v,h⟩ with h | ⟨v,h⟩
     ·exact .inl h
     ·exact .inr ⟨v,.inr h⟩
   ·rintro (h | ⟨v,h | h⟩)
    ·obtain ⟨v,h⟩:=this.2 (.inl h);exact ⟨v,.inr h⟩
    ·exact ⟨v,.inl h⟩
    ·obtain ⟨v,h⟩:=this.2 (.inr ⟨v,h⟩);exact ⟨v,.inr h⟩
theorem mput_len:∀(m:List (Bs×Value)) (k:Bs) (x:Value),(mput m k x).length≤m.length+1
 | [],k,x=>by simp [mput]
 | (k',y)::m,k,x=>by
  simp only [mput]
  split
  ·simp
  ·have:=mput_len m k x;simp only [List.length_cons];omega
theorem foldT_keys:∀(l:List Bs) (m:List (Bs×Value)) (s:Bs),(∃v,(s,v)∈l.foldl (fun m s=>mput m s (.bool true)) m)↔s∈l∨∃v,(s,v)∈m
 | [],m,s=>by simp
 | x::l,m,s=>by
  rw [List.foldl_cons,foldT_keys l,mput_keys];simp only [List.mem_cons]
  constructor
  ·rintro (h | h | h)
   ·exact .inl (.inr h)
   ·exact .inl (.inl h)
   ·exact .inr h
  ·rintro ((h | h) | h)
   ·exact .inr (.inl h)
   ·exact .inl h
   ·exact .inr (.inr h)
theorem foldT_len:∀(l:List Bs) (m:List (Bs×Value)),(l.foldl (fun m s=>mput m s (.bool true)) m).length≤l.length+m.length
 | [],m=>by simp
 | x::l,m=>by
  have:=foldT_len l (mput m x (.bool true));have:=mput_len m x (.bool true)
  simp only [List.foldl_cons,List.length_cons];omega
theorem seenM_keys (l:List Bs) (s:Bs):(∃v,(s,v)∈z3c l)↔s∈l:=by rw [z3c,foldT_keys];simp
theorem seenM_len (l:List Bs):(z3c l).length≤l.length:=by have:=foldT_len l [];simpa [z3c] using this
theorem has_mem {l:List Bs} {s:Bs}:has l s=true↔s∈l:=by simp [has]
theorem nodup_le {α:Type}:∀{l U:List α},l.Nodup→(∀x∈l,x∈U)→l.length≤U.length
 | [],_,_,_=>Nat.zero_le _
 | x::l,U,hn,hs=>by
  obtain ⟨U1,U2,rfl⟩:=List.append_of_mem (hs x List.mem_cons_self)
  have hn':=List.nodup_cons.1 hn
  have:=nodup_le (l:=l) (U:=U1++U2) hn'.2 (fun y hy=>by
   have:=hs y (List.mem_cons_of_mem _ hy)
   simp only [List.mem_append,List.mem_cons] at this ⊢
   rcases this with h | rfl | h
   ·exact .inl h
   ·exact absurd hy hn'.1
   ·exact .inr h)
  simp only [List.length_append,List.length_cons] at this ⊢;omega
structure RInv (T:Table) (U start ds l:List Bs):Prop where
 nodup:ds.Nodup
 dU:∀x∈ds,x∈U
 lU:∀x∈l,x∈U
 len:l.length≤1000+ds.length * 6000
 starts:∀x∈start,x∈ds∨x∈l
 closed:∀x∈ds,∀y∈z2y T x,y∈ds∨y∈l
 least:∀Q:Bs→Prop,(∀x∈start,Q x)→(∀x,Q x→∀y∈z2y T x,Q y)→(∀x∈ds,Q x)∧∀x∈l,Q x
structure Reached (T:Table) (start ds:List Bs):Prop where
 starts:∀x∈start,x∈ds
 closed:∀x∈ds,∀y∈z2y T x,y∈ds
 least:∀Q:Bs→Prop,(∀x∈start,Q x)→(∀x,Q x→∀y∈z2y T x,Q y)→∀x∈ds,Q x
def muR (U ds l:List Bs):Nat:=(U.length - ds.length) * 6001+l.length
theorem RInv.start {T:Table} {U start:List Bs} (hU:∀x∈start,x∈U) (hl:start.length≤1000):RInv T U start [] start :=
 ⟨List.nodup_nil,by simp,hU,by simpa using hl,fun x h=>.inr h,by simp,fun Q h1 h2=>⟨by simp,h1⟩⟩
theorem RInv.fin {T:Table} {U start ds:List Bs} (h:RInv T U start ds []):Reached T start ds :=
 ⟨fun x hx=>(h.starts x hx).resolve_right (by simp),fun x hx y hy=>(h.closed x hx y hy).resolve_right (by simp),fun Q h1 h2=>(h.least Q h1 h2).1⟩
theorem RInv.skip {T:Table} {U start ds l:List Bs} {n:Bs} (h:RInv T U start ds l) (h0:l[0]? = some n) (hd:n∈ds):RInv T U start ds (l.drop 1)∧muR U ds (l.drop 1) < muR U ds l:=by
 obtain ⟨rest,rfl⟩:∃rest,l=n::rest:=by cases l with | nil=>simp at h0 | cons a r=>simp at h0;exact ⟨r,by rw [h0]⟩
 simp only [List.drop_succ_cons,List.drop_zero]
 refine ⟨⟨h.nodup,h.dU,fun x hx=>h.lU x (List.mem_cons_of_mem _ hx),?_,?_,?_,fun Q h1 h2=>⟨(h.least Q h1 h2).1,fun x hx=>(h.least Q h1 h2).2 x (List.mem_cons_of_mem _ hx)⟩⟩,?_⟩
 ·have:=h.len;simp only [List.length_cons] at this;omega
 ·intro x hx
  rcases h.starts x hx with h | h
  ·exact .inl h
  ·rcases List.mem_cons.1 h with rfl | h
   ·exact .inl hd
   ·exact .inr h
 ·intro x hx y hy
  rcases h.closed x hx y hy with h | h
  ·exact .inl h
  ·rcases List.mem_cons.1 h with rfl | h
   ·exact .inl hd
   ·exact .inr h
 ·simp only [muR,List.length_cons];omega
structure RIn (T:Table) (n:Bs) (rest:List Bs) (es:Array MapEntry) (seen:Array Nat) (l:List Bs):Prop where
 new:∀x∈l,x∈rest∨x∈z2y T n
 old:∀x∈rest,x∈l
 all:∀e∈es.toList,e∈z5j es seen∨∃s,e.key=.string s∧s∈l
 len:l.length+(z5j es seen).length≤rest.length+es.size
theorem RIn.start {T:Table} {n:Bs} {rest:List Bs} {es:Array MapEntry}:RIn T n rest es #[] rest :=
 ⟨fun x h=>.inl h,fun x h=>h,fun e h=>.inl (by rw [leftE_nil];exact h),by rw [leftE_nil];simp⟩
theorem RIn.next {T:Table} {n s:Bs} {v:Value} {rest l:List Bs} {es:Array MapEntry} {seen:Array Nat} {clock:Nat} {e:MapEntry} (h:RIn T n rest es seen l) (hok:MapOk es clock (z3c (z2y T n))) (he:e∈z5j es seen)
  (hk:e.key=.string s) (hm:(s,v)∈z3c (z2y T n)):RIn T n rest es (seen.push e.born) (l++[s]):=by
 refine ⟨?_,fun x hx=>List.mem_append_left _ (h.old x hx),?_,?_⟩
 ·intro x hx
  rcases List.mem_append.1 hx with hx | hx
  ·exact h.new x hx
  ·rw [List.mem_singleton] at hx;subst hx
   exact .inr ((seenM_keys _ _).1 ⟨v,hm⟩)
 ·intro x hx
  rcases h.all x hx with h1 | ⟨s',h1,h2⟩
  ·by_cases hb:x.born=e.born
   ·have h3:x=e:=by
     have a1:=find_born x es.toList hok.nodup hx
     have a2:=find_born e es.toList hok.nodup (leftE_mem.1 he).1
     rw [hb] at a1;rw [a1] at a2;exact Option.some.inj a2
    subst h3
    exact .inr ⟨s,hk,by simp⟩
   ·exact .inl (leftE_push.2 ⟨h1,hb⟩)
  ·exact .inr ⟨s',h1,List.mem_append_left _ h2⟩
 ·have:=leftE_lt he;have:=h.len;simp only [List.length_append,List.length_cons,List.length_nil];omega
theorem RInv.mark {T:Table} {U start ds l l':List Bs} {n:Bs} {es:Array MapEntry} {seen:Array Nat} {clock:Nat} (h:RInv T U start ds l) (h0:l[0]? = some n) (hd:n∉ds) (hM:∀x,(z2y T x).length≤6000) (hC:∀x,∀y∈z2y T x,y∈U)
  (hok:MapOk es clock (z3c (z2y T n))) (hi:RIn T n (l.drop 1) es seen l') (hl:z5j es seen=[]):RInv T U start (ds++[n]) l'∧muR U (ds++[n]) l' < muR U ds l:=by
 obtain ⟨rest,rfl⟩:∃rest,l=n::rest:=by cases l with | nil=>simp at h0 | cons a r=>simp at h0;exact ⟨r,by rw [h0]⟩
 simp only [List.drop_succ_cons,List.drop_zero] at hi
 have hes:es.size≤6000:=by
  have h1:=congrArg List.length hok.eq
  simp only [List.length_map,Array.length_toList] at h1
  have:=seenM_len (z2y T n);have:=hM n;omega
 have hlen:=hi.len
 rw [hl] at hlen
 simp only [List.length_nil,Nat.add_zero] at hlen
 have hall:∀y∈z2y T n,y∈l':=fun y hy=>by
  obtain ⟨v,hv⟩:=(seenM_keys (z2y T n) y).2 hy
  obtain ⟨e,he,hk⟩:=key_entry hok hv
  rcases hi.all e he with h1 | ⟨s,h1,h2⟩
  ·rw [hl] at h1;cases h1
  ·rw [hk] at h1;cases h1;exact h2
 have hn:n∈U:=h.lU n List.mem_cons_self
 have hnd:(ds++[n]).Nodup:=by
  rw [List.nodup_append]
  exact ⟨h.nodup,by simp,fun a ha b hb=>by rw [List.mem_singleton] at hb;subst hb;intro e;subst e;exact hd ha⟩
 have hdU:∀x∈ds++[n],x∈U:=fun x hx=>by
  rcases List.mem_append.1 hx with hx | hx
  ·exact h.dU x hx
  ·rw [List.mem_singleton] at hx;subst hx;exact hn
 have hle:(ds++[n]).length≤U.length:=nodup_le hnd hdU
 simp only [List.length_append,List.length_cons,List.length_nil] at hle
 refine ⟨⟨hnd,hdU,?_,?_,?_,?_,?_⟩,?_⟩
 ·intro x hx
  rcases hi.new x hx with h1 | h1
  ·exact h.lU x (List.mem_cons_of_mem _ h1)
  ·exact hC n x h1
 ·have:=h.len;simp only [List.length_cons,List.length_append,List.length_nil] at this ⊢;omega
 ·intro x hx
  rcases h.starts x hx with h1 | h1
  ·exact .inl (List.mem_append_left _ h1)
  ·rcases List.mem_cons.1 h1 with rfl | h1
   ·exact .inl (by simp)
   ·exact .inr (hi.old x h1)
 ·intro x hx y hy
  rcases List.mem_append.1 hx with hx | hx
  ·rcases h.closed x hx y hy with h1 | h1
   ·exact .inl (List.mem_append_left _ h1)
   ·rcases List.mem_cons.1 h1 with rfl | h1
    ·exact .inl (by simp)
    ·exact .inr (hi.old y h1)
  ·rw [List.mem_singleton] at hx;subst hx
   exact .inr (hall y hy)
 ·intro Q h1 h2
  have h3:=h.least Q h1 h2
  have hQn:Q n:=h3.2 n List.mem_cons_self
  refine ⟨fun x hx =>?_,fun x hx =>?_⟩
  ·rcases List.mem_append.1 hx with hx | hx
   ·exact h3.1 x hx
   ·rw [List.mem_singleton] at hx;subst hx;exact hQn
  ·rcases hi.new x hx with h4 | h4
   ·exact h3.2 x (List.mem_cons_of_mem _ h4)
   ·exact h2 n hQn x h4
 ·simp only [muR,List.length_append,List.length_cons,List.length_nil]
  have:U.length - ds.length=(U.length - (ds.length+1))+1:=by omega
  rw [this,Nat.add_mul];omega
theorem gs_queue {Φ:Fz} {K:List Res} {w:World} {i:Nat} {v:Value} {l:List Bs} (hm:Mem Φ K w) (hk:kget K i=some (.gs v 9 1 (strs l))) (hl:l≠[]):∃b cap arr,v=qval b 0 cap l∧QAt 0 cap arr l∧Mem Φ (kset K i (qblk b arr)) w:=by
 obtain ⟨n,h1,h2⟩:=hm.own _ (z1a hk)
 have hn:l.length=n:=by simpa [strs] using h1
 rcases h2 with ⟨_,h0⟩ | ⟨b,cap,cur,rfl,_,h4,h5,h6,h7,h8⟩
 ·exact absurd (List.eq_nil_of_length_eq_zero (by omega)) hl
 ·subst hn
  refine ⟨b,cap,cur,rfl,⟨by omega,h5,h6,fun j s hj =>?_⟩,hm.upd hk rfl rfl (fun _ _ _=>rfl) h4 (.inl rfl)⟩
  have hlt:=(List.getElem?_eq_some_iff.1 hj).1
  have h9:(cur.toList.take (l.length * 1))[j]? = some (.string s):=by rw [h8];simp only [strs,List.getElem?_map,hj];rfl
  rw [List.getElem?_take_of_lt (by omega),Array.getElem?_toList] at h9
  rw [Nat.zero_add];exact h9
theorem y_fieldA {P:Program} {n:Nat} {E:List (Nat×Value)} {D:List Deferred} {a:Act} {w:World} {ty:TypeId} (off:Nat) {x:Operand} {t:TypeId} {fs:Array Field} {i k:Nat} {fd:Field} {cs vs:List Value} (ht:Under P t (.struct fs)) (hf:fs[i]? = some fd) (hT:AggT P fd.type) (hS:SizeT P fd.type k)
  (he:EnvR n E D a) (hx:ev E x=some (.agg cs.toArray)) (ho:fd.offset=off) (hv:ltake (ldrop cs off) k=vs):Ok P a (.field t x i) ty w (.agg vs.toArray):=fun _ _ _ _=>by
 rw [ltake_eq,ldrop_eq] at hv
 subst ho
 simp only [execOp,he.ev hx]
 simp [Instr.field,Sem.run_bind,ht w,hf,asAgg,part,hT w,hS w,Result.andThen,← hv]
theorem es_size {es:Array MapEntry} {clock:Nat} {l:List Bs} (hok:MapOk es clock (z3c l)) (h:l.length≤6000):es.size≤6000:=by
 have h1:=congrArg List.length hok.eq
 simp only [List.length_map,Array.length_toList] at h1
 have:=seenM_len l;omega
theorem not_has {l:List Bs} {s:Bs} (h:has l s=false):s∉l:=fun hm=>by rw [has_mem.2 hm] at h;cases h
end Go.Sw

namespace Go.Sw
structure Typing where
 vars:List Param
 expr:Ex
def RTyping (Φ:Fz) (cs:List Value) (x:Typing):Prop:=∃s b,cs=s::b∧SliceOf RParam Φ 2 s x.vars∧REx Φ b x.expr
theorem RTyping.mono (Φ Ψ:Fz) (c:List Value) (x:Typing) (hl:Φ.Le Ψ) (h:RTyping Φ c x):RTyping Ψ c x:=let ⟨s,b,h1,h2,h3⟩:=h;⟨s,b,h1,h2.mono RParam.mono hl,REx.mono _ _ _ _ hl h3⟩
def z3i:Bs:=⟨#[117,110,117,115,101,100,39,57]⟩
def hasB (l:List Bs) (s:Bs):Bool:=l.any fun x=>decide (x=s)
theorem hasB_cons (x:Bs) (l:List Bs) (s:Bs):hasB (x::l) s=(decide (x=s) || hasB l s):=by simp [hasB]
theorem hasB_nil (s:Bs):hasB [] s=false:=rfl
def namedV (ps:List Param) (e:Ex):Bool:=hasB (ps.map Param.name++z0n e) z3i
theorem hasB_append (l m:List Bs) (s:Bs):hasB (l++m) s=(hasB l s || hasB m s):=by simp [hasB]
theorem namedV_eq (ps:List Param) (e:Ex):namedV ps e=(hasB (ps.map Param.name) z3i || hasB (z0n e) z3i):=hasB_append _ _ _
theorem meas_bind6 {e:Ex} (h:(meas e 6000).1=false):(z0n e).length≤102000:=by
 have h1:=meas_bind e 6000 h
 have h2:=z4n e 6000 h
 omega
theorem typs_any (T:Table) (ps:List Param):(ps.any fun p => !z2b T p.type) = !(ps.all fun p=>z2b T p.type):=by
 induction ps with
 | nil=>rfl
 | cons p ps ih=>simp only [List.any_cons,List.all_cons,ih,Bool.not_and]
theorem look_tparams {c:Core} (h:z1g c=0):∀n f,lget (z0f c).funs n=some f→f.params.length≤1000:=by
 obtain ⟨hl,hr⟩:=z4h h
 have ht:z4s c=true:=by simp only [z2a,Bool.and_eq_true] at hr;exact hr.1.1.1.1.1
 exact table_params hl ht
section
variable {c:Core} {ps:List Param} {e:Ex}
theorem typ_look (h:¬z1g c=0):z2c c ps e=(⟨#[]⟩,z1g c):=by rw [z2c,if_pos h];rfl
theorem typ_deep (h:z1g c=0) (h1:z5i 250 e=true):z2c c ps e=(⟨#[]⟩,6):=by rw [z2c,if_neg (fun g=>g h),if_pos h1];rfl
theorem typ_meas (h:z1g c=0) (h1:z5i 250 e=false) (h2:(meas e 6000).1=true):z2c c ps e=(⟨#[]⟩,2):=by
 rw [z2c,if_neg (fun g=>g h),if_neg (by rw [h1];decide),if_pos h2];rfl
theorem typ_type (h:z1g c=0) (h1:z5i 250 e=false) (h2:(meas e 6000).1=false) (h3:(ps.all fun p=>z2b (z0f c) p.type)=false):z2c c ps e=(⟨#[]⟩,80):=by
 rw [z2c,if_neg (fun g=>g h),if_neg (by rw [h1];decide),if_neg (by rw [h2];decide),typs_any,h3,if_pos (show (!false)=true from rfl)];rfl
theorem typ_rest (h:z1g c=0) (h1:z5i 250 e=false) (h2:(meas e 6000).1=false) (h3:(ps.all fun p=>z2b (z0f c) p.type)=true) :
  z2c c ps e=if z5v z1s [] (ps.map Param.name++z0n e)=false then (sNo,80) else if (z0c (z0f c) e (z3q ps)).1=sNo then (sNo,80) else ((z0c (z0f c) e (z3q ps)).1,0):=by
 rw [z2c,if_neg (fun g=>g h),if_neg (by rw [h1];decide),if_neg (by rw [h2];decide),typs_any,h3,if_neg (by decide)]
theorem typ_apart (h:z1g c=0) (h1:z5i 250 e=false) (h2:(meas e 6000).1=false) (h3:(ps.all fun p=>z2b (z0f c) p.type)=true) (h4:z5v z1s [] (ps.map Param.name++z0n e)=false) :
  z2c c ps e=(⟨#[]⟩,80):=by rw [typ_rest h h1 h2 h3,if_pos h4];rfl
theorem typ_no (h:z1g c=0) (h1:z5i 250 e=false) (h2:(meas e 6000).1=false) (h3:(ps.all fun p=>z2b (z0f c) p.type)=true) (h4:z5v z1s [] (ps.map Param.name++z0n e)=true)
  (h5:(z0c (z0f c) e (z3q ps)).1=(⟨#[]⟩:ByteArray)):z2c c ps e=(⟨#[]⟩,80):=by rw [typ_rest h h1 h2 h3,if_neg (by rw [h4];decide),if_pos (show _=sNo from h5)];rfl
theorem typ_ok (h:z1g c=0) (h1:z5i 250 e=false) (h2:(meas e 6000).1=false) (h3:(ps.all fun p=>z2b (z0f c) p.type)=true) (h4:z5v z1s [] (ps.map Param.name++z0n e)=true)
  (h5:¬(z0c (z0f c) e (z3q ps)).1=(⟨#[]⟩:ByteArray)):z2c c ps e=((z0c (z0f c) e (z3q ps)).1,0):=by rw [typ_rest h h1 h2 h3,if_neg (by rw [h4];decide),if_neg (show ¬_=sNo from h5)]
end
end Go.Sw

namespace Go.Proofs.YtgkhcfjooiekkaaGreatDoor
open Go.ChangeShapes Go.WideShapes Go.ChangeAt Go.RowKit Go.Sw
set_option maxRecDepth 100000
section
variable {H:Type} {enc:TypeId×Value→H}
theorem c76:Tryz.prog.cellsOf 76=6:=by kernel_rfl
theorem bytes72:Tryz.prog.bytesOf 72=32:=by kernel_rfl
theorem bytes68:Tryz.prog.bytesOf 68=136:=by kernel_rfl
theorem typing_arg {W:World} {base:Nat} {v:Value} {d:DataW H} {p:List MemPlace} (hv:Value.okWide Tryz.prog W .any base 76 v) (h:DataW.Trod enc Tryz.prog W 0 (fun _=>true) true 76 v d p) :
  ∃cs x,v=.agg (List.toArray cs)∧RTyping (Fz.whole W) cs x:=by
 obtain ⟨cs,rfl⟩:=agg_of Tryz.underlying76 hv
 obtain ⟨fuel,hf⟩:=h
 obtain ⟨m,rfl,hl,hf⟩:=z6v (enc:=enc) (W:=W) (cs:=cs) Tryz.underlying76 hf
 rw [c76] at hl
 obtain ⟨a0,r,rfl,hl1⟩:=z1q hl
 obtain ⟨_,f0⟩:=hf 0 23 0 rfl
 obtain ⟨_,f1⟩:=hf 1 66 1 rfl
 simp only [c23,c66,List.drop_succ_cons,List.drop_zero,List.take_succ_cons,List.take_zero] at f0 f1
 rw [List.take_of_length_le (by omega)] at f1
 obtain ⟨v,l,e0,h0⟩:=params_read f0
 obtain ⟨e,h1⟩:=expr_read _ _ _ f1
 simp only [List.cons.injEq,and_true] at e0
 subst e0
 exact ⟨_,⟨l,e⟩,rfl,_,_,rfl,h0,h1⟩
theorem slice_weight {W:World} {t e:TypeId} {n fuel cap:Nat} {p:Option Addr} {x:DataW H×List MemPlace} (ht:Tryz.prog.underlying t=some (.slice e)) (h:trd enc W fuel t [.slice p n cap]=some x)
  (hw:∀q∈DataW.weights Tryz.prog t x.1,q≤reachBytes):n * Tryz.prog.bytesOf e≤reachBytes:=by
 rcases DataW.trod_slice ht h with ⟨h1,_⟩ | ⟨a,len,cap',elems,rest,m,_,h1,rfl,_,_,_,hlen,_⟩
 ·simp only [List.cons.injEq,Value.slice.injEq] at h1
  obtain ⟨⟨_,rfl,_⟩,_⟩:=h1
  simp
 ·simp only [List.cons.injEq,and_true,Value.slice.injEq] at h1
  obtain ⟨_,rfl,_⟩:=h1
  refine Nat.le_trans (Nat.mul_le_mul_right _ ?_) (hw ((elems.length+rest.length) * Tryz.prog.bytesOf e) (by simp [DataW.weights,ht]))
  omega
theorem typing_weight {W:World} {cs:List Value} {x:Typing} {d:DataW H} {p:List MemPlace} (hx:RTyping (Fz.whole W) cs x) (h:DataW.Trod enc Tryz.prog W 0 (fun _=>true) true 76 (.agg (List.toArray cs)) d p)
  (hw:∀q∈DataW.weights Tryz.prog 76 d,q≤reachBytes):x.vars.length≤4398046511000:=by
 obtain ⟨fuel,hf⟩:=h
 obtain ⟨xs,n,_,hxs,hl,hlen,hf⟩:=DataW.trod_struct (cs:=cs) Tryz.underlying76 hf
 obtain ⟨y0,r,rfl,hl1⟩:=z1q hlen
 obtain ⟨s,b,rfl,h1,_⟩:=hx
 obtain ⟨q,c,rfl,_,_⟩:=h1.form (by decide)
 have f0:trd enc W n 23 ((_:List Value).take (Tryz.prog.cellsOf 23))=some y0:=hf 0 _ rfl
 rw [c23] at f0
 have hd:d=_:=congrArg Prod.fst hxs
 have:=slice_weight (enc:=enc) (W:=W) Tryz.underlying23 (x:=y0) f0 (fun z hz=>hw z (by rw [hd];simp [DataW.weights,Tryz.underlying76,DataW.weightsEach,hz]))
 rw [bytes72] at this
 have hr:reachBytes=140737488351232:=rfl
 omega
theorem core_weight {W:World} {cs:List Value} {x:Core} {d:DataW H} {p:List MemPlace} (hx:RCore (Fz.whole W) cs x) (h:DataW.Trod enc Tryz.prog W 0 (fun _=>true) true 27 (.agg (List.toArray cs)) d p)
  (hw:∀q∈DataW.weights Tryz.prog 27 d,q≤reachBytes):x.funs.length≤1034834473180:=by
 obtain ⟨fuel,hf⟩:=h
 obtain ⟨xs,n,_,hxs,hl,hlen,hf⟩:=DataW.trod_struct (cs:=cs) Tryz.underlying27 hf
 obtain ⟨y0,r,rfl,hl1⟩:=z1q hlen
 obtain ⟨y1,r,rfl,hl2⟩:=z1q hl1
 obtain ⟨y2,r,rfl,hl3⟩:=z1q hl2
 obtain ⟨s,t,u,v,rfl,_,_,h1,_⟩:=hx
 obtain ⟨q,c,rfl,_,_⟩:=h1.form (by decide)
 have f0:trd enc W n 24 ((_:List Value).take (Tryz.prog.cellsOf 24))=some y2:=hf 2 _ rfl
 rw [c24] at f0
 have hd:d=_:=congrArg Prod.fst hxs
 have:=slice_weight (enc:=enc) (W:=W) Tryz.underlying24 (x:=y2) f0 (fun z hz=>hw z (by rw [hd];simp [DataW.weights,Tryz.underlying27,DataW.weightsEach,hz]))
 rw [bytes68] at this
 have hr:reachBytes=140737488351232:=rfl
 omega
end
end Go.Proofs.YtgkhcfjooiekkaaGreatDoor

namespace Go.Sw
def Wk (s r:Scope):Prop:=∀n x,lget s n=some x→lget r n=some x
theorem Wk.put {s r:Scope} (h:Wk s r) (k x:Bs):Wk (lput s k x) (lput r k x):=fun n y hy=>by
 rw [z4e] at hy ⊢
 split at hy
 ·rename_i e;rw [if_pos e];exact hy
 ·rename_i e;rw [if_neg e];exact h n y hy
theorem Wk.putAll:∀{vs fs:List Bs} {s r:Scope},Wk s r→Wk (putAll s vs fs) (putAll r vs fs)
 | [],fs,_,_,h=>by rw [z3a,z3a];exact h
 | _::_,[],_,_,h=>h
 | v::vs,f::fs,_,_,h=>by rw [z8i,z8i];exact Wk.putAll (h.put v f)
def Wide (T:Table) (e:Ex):Prop:=∀s r,Wk s r→(z0n e).Nodup→Fresh s (z0n e)→Fresh r (z0n e)→(z0c T e s).1≠sNo→(z0c T e r).1=(z0c T e s).1
theorem allQ_wide {T:Table}:∀{xs:List Ex} {s r:Scope} {ts:List Bs},(∀x∈xs,Keeps T x)→(∀x∈xs,Wide T x)→Wk s r→xs.length=ts.length→(bindPs xs).Nodup→Fresh s (bindPs xs)→Fresh r (bindPs xs)→(allQ T xs s ts).1=true →
  (allQ T xs r ts).1=true
 | [],_,_,[],_,_,_,_,_,_,_,_=>rfl
 | x::xs,s,r,t::ts,hk,hw,hsr,hl,hn,hf,hg,h=>by
  rw [allQ_cons] at h ⊢
  split at h
  ·cases h
  ·rename_i hc
   have hn':=z0p (show (z0n x++bindPs xs).Nodup from hn)
   have h1:(z0c T x s).1≠sNo:=fun e=>hc (.inl e)
   have fs:=hf.sub (m:=z0n x) fun n h=>List.mem_append.2 (.inl h)
   have fr:=hg.sub (m:=z0n x) fun n h=>List.mem_append.2 (.inl h)
   have hx:=hw x List.mem_cons_self s r hsr hn'.1 fs fr h1
   have h3:=hk x List.mem_cons_self s hn'.1 fs h1
   have h4:=hk x List.mem_cons_self r hn'.1 fr (hx▸h1)
   rw [hx,if_neg hc,h4]
   rw [h3] at h
   exact allQ_wide (fun y hy=>hk y (List.mem_cons_of_mem _ hy)) (fun y hy=>hw y (List.mem_cons_of_mem _ hy)) hsr (by simpa using hl) hn'.2.1 (hf.sub fun n h=>List.mem_append.2 (.inr h)) (hg.sub fun n h=>List.mem_append.2 (.inr h)) h
 | [],_,_,_::_,_,_,_,hl,_,_,_,_=>by simp at hl
 | _::_,_,_,[],_,_,_,hl,_,_,_,_=>by simp at hl
theorem allP_wide {T:Table} {xs:List Ex} {s r:Scope} {ts:List Bs} (hk:∀x∈xs,Keeps T x) (hw:∀x∈xs,Wide T x) (hsr:Wk s r) (hn:(bindPs xs).Nodup) (hf:Fresh s (bindPs xs)) (hg:Fresh r (bindPs xs)) (h:(allP T xs s ts).1=true) :
  (allP T xs r ts).1=true:=by
 unfold allP at h ⊢
 split at h
 ·rename_i hl;rw [if_pos hl];exact allQ_wide hk hw hsr hl hn hf hg h
 ·cases h
theorem armT_wide {T:Table} {a:Arm} {c:Con} {s r:Scope} (hw:Wide T a.body) (hsr:Wk s r) (hn:(a.vars++z0n a.body).Nodup) (hf:Fresh s (a.vars++z0n a.body)) (hg:Fresh r (a.vars++z0n a.body))
  (h:(armT T a c s).1≠sNo):(armT T a c r).1=(armT T a c s).1:=by
 have hn':=z0p hn
 have q:∀{z:Scope},Fresh z (a.vars++z0n a.body)→Fresh (Go.Sw.putAll z a.vars c.fields) (z0n a.body):=fun hz n hb=>by
  rw [z3o (fun hm=>hn'.2.2 n hm hb)];exact hz n (List.mem_append.2 (.inr hb))
 exact hw _ _ hsr.putAll hn'.2.1 (q hf) (q hg) h
theorem splitP_wide {T:Table}:∀{az:List Arm} {cs:List Con} {first:Bool} {out:Bs} {s r:Scope},(∀a∈az,Keeps T a.body)→(∀a∈az,Wide T a.body)→Wk s r→cs.length=az.length→(bindPa az).Nodup→Fresh s (bindPa az)→Fresh r (bindPa az) →
  (splitP T az cs first out s).1≠sNo→(splitP T az cs first out r).1=(splitP T az cs first out s).1
 | [],[],_,_,_,_,_,_,_,_,_,_,_,_=>rfl
 | a::az,c::cs,first,out,s,r,hk,hw,hsr,hl,hn,hf,hg,h=>by
  rw [z1j] at hn hf hg
  have hn':=z0p hn
  rw [z2e] at h ⊢
  rw [z2e T a az c cs first out s]
  split at h
  ·exact absurd rfl h
  ·rename_i hc
   rw [if_neg hc,if_neg hc]
   split at h
   ·exact absurd rfl h
   ·rename_i hd
    have hc2:a.vars.length=c.fields.length:=Classical.byContradiction fun e=>hc (.inr e)
    have h1:(armT T a c s).1≠sNo:=fun e=>hd (.inl e)
    have fs:=hf.sub (m:=a.vars++z0n a.body) fun n h=>List.mem_append.2 (.inl h)
    have fr:=hg.sub (m:=a.vars++z0n a.body) fun n h=>List.mem_append.2 (.inl h)
    have hx:=armT_wide (hw a List.mem_cons_self) hsr hn'.1 fs fr h1
    have h3:=arm_keeps (hk a List.mem_cons_self) hc2 hn'.1 fs h1
    have h4:=arm_keeps (hk a List.mem_cons_self) hc2 hn'.1 fr (hx▸h1)
    rw [hx,if_neg hd,if_neg hd,h4]
    rw [h3] at h ⊢
    exact splitP_wide (fun b hb=>hk b (List.mem_cons_of_mem _ hb)) (fun b hb=>hw b (List.mem_cons_of_mem _ hb)) hsr (by simpa using hl) hn'.2.1 (hf.sub fun n h=>List.mem_append.2 (.inr h)) (hg.sub fun n h=>List.mem_append.2 (.inr h)) h
 | [],_::_,_,_,_,_,_,_,_,hl,_,_,_,_=>by simp at hl
 | _::_,[],_,_,_,_,_,_,_,hl,_,_,_,_=>by simp at hl
theorem two_args {l:List Ex} (hl:l.length=2):∃x y,l=[x,y]:=by
 cases l with
 | nil=>simp at hl
 | cons a l =>
  cases l with
  | nil=>simp at hl
  | cons b l =>
   simp only [List.length_cons] at hl
   have:l=[]:=List.eq_nil_of_length_eq_zero (by omega)
   subst this
   exact ⟨a,b,rfl⟩
theorem one_arg {l:List Ex} (hl:l.length=1):∃x,l=[x]:=by
 cases l with
 | nil=>simp at hl
 | cons a l =>
  simp only [List.length_cons] at hl
  have:l=[]:=List.eq_nil_of_length_eq_zero (by omega)
  subst this
  exact ⟨a,rfl⟩
theorem wide_ok (T:Table) (hT0:lget T.datas sNo=none):∀(n:Nat) (e:Ex),e.sz < n→Wide T e
 | 0,_,h=>by omega
 | n+1,e,hsz=>by
  intro s r hsr hn hf hg h
  have hka:∀x∈e.args,Keeps T x:=fun x hx=>y0p T hT0 (n+1) x (by have:=Ex.lt_args hx;omega)
  have hkb:∀a∈e.arms,Keeps T a.body:=fun a ha=>y0p T hT0 (n+1) a.body (by have:=Ex.lt_arms ha;omega)
  have hwa:∀x∈e.args,Wide T x:=fun x hx=>wide_ok T hT0 n x (by have:=Ex.lt_args hx;omega)
  have hwb:∀a∈e.arms,Wide T a.body:=fun a ha=>wide_ok T hT0 n a.body (by have:=Ex.lt_arms ha;omega)
  rw [z6u] at hn hf hg
  have hn1:=z0p hn
  have hn2:=z0p hn1.1
  have sa:∀{z:Scope},Fresh z ((if e.kind=6 then [e.name] else [])++bindPs e.args++bindPa e.arms)→Fresh z (bindPs e.args):=fun hz=>hz.sub fun m hm=>List.mem_append.2 (.inl (List.mem_append.2 (.inr hm)))
  have sb:∀{z:Scope},Fresh z ((if e.kind=6 then [e.name] else [])++bindPs e.args++bindPa e.arms)→Fresh z (bindPa e.arms):=fun hz=>hz.sub fun m hm=>List.mem_append.2 (.inr hm)
  have hal:∀ts,(allP T e.args s ts).1=true→(allP T e.args r ts).1=true:=fun ts h=>allP_wide hka hwa hsr hn2.2.1 (sa hf) (sa hg) h
  by_cases h1:e.kind=1
  ·rw [z7x T e s h1,z7x T e r h1]
  by_cases h2:e.kind=2
  ·rw [z7y T e s h2] at h ⊢
   rw [z7y T e r h2]
   simp only [z5n] at h ⊢
   split at h
   ·rename_i hb
    rw [if_pos hb,if_pos hb]
    cases hv:lget s e.name with
    | none=>rw [hv] at h;exact absurd rfl h
    | some x=>rw [hsr _ _ hv]
   ·exact absurd rfl h
  by_cases h3:e.kind=3
  ·rw [z7v T e s h3,z7v T e r h3]
  by_cases h4:e.kind=4
  ·rw [z7u T e s h4] at h ⊢
   rw [z7u T e r h4]
   unfold conT at h ⊢
   cases hm:lget T.cons e.name with
   | none=>rfl
   | some m =>
    simp only [hm] at h ⊢
    by_cases hb:z2o e false true (-1) 0=true
    ·rw [if_pos hb] at h ⊢
     rw [if_pos hb]
     by_cases ha:(allP T e.args s m.con.fields).1=true
     ·simp only [ha,hal _ ha]
     ·simp [ha] at h
    ·rw [if_neg hb] at h;exact absurd rfl h
  by_cases h5:e.kind=5
  ·rw [z6s T e s h5] at h ⊢
   rw [z6s T e r h5]
   unfold callT at h ⊢
   cases hm:lget T.funs e.name with
   | none=>rfl
   | some m =>
    simp only [hm] at h ⊢
    by_cases hb:z2o e false true (-1) 0=true
    ·rw [if_pos hb] at h ⊢
     rw [if_pos hb]
     by_cases ha:(allP T e.args s (m.params.map Param.type)).1=true
     ·simp only [ha,hal _ ha]
     ·simp [ha] at h
    ·rw [if_neg hb] at h;exact absurd rfl h
  by_cases h6:e.kind=6
  ·rw [z7w T e s h6] at h ⊢
   rw [z7w T e r h6]
   unfold letT at h ⊢
   by_cases hb:z2o e false true 2 0=true
   ·rw [if_pos hb] at h ⊢
    rw [if_pos hb]
    obtain ⟨x,y,hxy⟩:=two_args (z3d (n:=2) hb)
    have hx:e.args[0]? = some x:=by rw [hxy];rfl
    have hy:e.args[1]? = some y:=by rw [hxy];rfl
    by_cases h0:(z0c T x s).1=sNo
    ·rw [letP_no hx h0] at h;exact absurd rfl h
    ·simp only [if_pos h6,hxy,bindPs,List.append_nil] at hn hf hg
     have hm1:=z0p hn
     have hm2:=z0p hm1.1
     have hm3:=z0p hm2.2.1
     have mx:x∈e.args:=by rw [hxy];simp
     have my:y∈e.args:=by rw [hxy];simp
     have ex:=hwa x mx s r hsr hm3.1 (hf.sub fun m hm=>by simp [hm]) (hg.sub fun m hm=>by simp [hm]) h0
     have e1:=hka x mx s hm3.1 (hf.sub fun m hm=>by simp [hm]) h0
     have e1r:=hka x mx r hm3.1 (hg.sub fun m hm=>by simp [hm]) (ex▸h0)
     rw [letP_yes hx hy h0] at h ⊢
     rw [letP_yes hx hy (ex▸h0)]
     simp only [e1] at h ⊢
     simp only [e1r,ex]
     have hkey:∀{z:Scope} {t:Bs},Fresh z ([e.name]++(z0n x++z0n y)++bindPa e.arms)→Fresh (lput z e.name t) (z0n y):=fun hz m hm=>by
      rw [z4e,if_neg]
      ·exact hz m (by simp [hm])
      ·rintro rfl
       exact hm2.2.2 e.name (by simp) (by simp [hm])
     exact hwa y my _ _ (hsr.put _ _) hm3.2.1 (hkey hf) (hkey hg) h
   ·rw [if_neg hb] at h;exact absurd rfl h
  by_cases h7:e.kind=7
  ·rw [z6t T e s h7] at h ⊢
   rw [z6t T e r h7]
   unfold z3r at h ⊢
   by_cases hb:z2o e false false 1 (-1)=true
   ·rw [if_pos hb] at h ⊢
    rw [if_pos hb]
    obtain ⟨x,hxy⟩:=one_arg (z3d (n:=1) hb)
    have hx:e.args[0]? = some x:=by rw [hxy];rfl
    rw [z2h hx] at h ⊢
    rw [z2h hx]
    by_cases h0:(z0c T x s).1=sNo
    ·simp only [h0,hT0] at h;exact absurd rfl h
    ·have fa:=sa hf
     have fb:=sa hg
     have na:=hn2.2.1
     rw [hxy] at fa fb na
     simp only [bindPs,List.append_nil] at fa fb na
     have mx:x∈e.args:=by rw [hxy];simp
     have ex:=hwa x mx s r hsr na fa fb h0
     have e1:=hka x mx s na fa h0
     have e1r:=hka x mx r na fb (ex▸h0)
     rw [ex,e1r]
     rw [e1] at h ⊢
     cases hd:lget T.datas (z0c T x s).1 with
     | none=>rfl
     | some d =>
      simp only [hd] at h ⊢
      by_cases hle:d.cons.length=e.arms.length
      ·rw [if_pos hle] at h ⊢
       rw [if_pos hle]
       exact splitP_wide hkb hwb hsr hle hn1.2.1 (sb hf) (sb hg) h
      ·rw [if_neg hle] at h;exact absurd rfl h
   ·rw [if_neg hb] at h;exact absurd rfl h
  by_cases h8:e.kind=8
  ·rw [y0d T e s h8] at h ⊢
   rw [y0d T e r h8]
   unfold opsT at h ⊢
   by_cases hb:z2o e false true 2 0=true
   ·rw [if_pos hb] at h ⊢
    rw [if_pos hb]
    by_cases ha:(allP T e.args s [sInt,sInt]).1=true
    ·simp only [ha,hal _ ha]
    ·simp [ha] at h
   ·rw [if_neg hb] at h;exact absurd rfl h
  rw [z8q T e s h1 h2 h3 h4 h5 h6 h7 h8] at h
  exact absurd rfl h
end Go.Sw

namespace Go.Sw
theorem apartP_of {nm:Bs→Bool}:∀{l ds:List Bs},l.Nodup→(∀n∈l,n∉ds)→(∀n∈l,nm n=true)→z5v nm ds l=true
 | [],_,_,_,_=>rfl
 | s::l,ds,h1,h2,h3=>by
  have hs:=List.nodup_cons.1 h1
  simp only [z5v,Bool.and_eq_true,Bool.not_eq_true']
  refine ⟨⟨h3 s List.mem_cons_self,?_⟩,apartP_of hs.2 (fun n hn hm =>?_) fun n hn=>h3 n (List.mem_cons_of_mem _ hn)⟩
  ·cases hb:has ds s with
   | false=>rfl
   | true =>
    simp only [has,List.any_eq_true,decide_eq_true_eq] at hb
    obtain ⟨x,hx,he⟩:=hb
    first | exact absurd (he▸hx) (h2 s List.mem_cons_self) | exact absurd (he.symm▸hx) (h2 s List.mem_cons_self)
  ·rcases List.mem_append.1 hm with hm | hm
   ·exact h2 n (List.mem_cons_of_mem _ hn) hm
   ·simp only [List.mem_singleton] at hm;subst hm;exact hs.1 hn
theorem typ_inv {c:Core} {ps:List Param} {e:Ex} (h:(z2c c ps e).2=0):z1g c=0∧z5i 250 e=false∧(meas e 6000).1=false∧(ps.all fun p=>z2b (z0f c) p.type)=true ∧
  z5v z1s [] (ps.map Param.name++z0n e)=true∧(z0c (z0f c) e (z3q ps)).1≠sNo∧(z2c c ps e).1=(z0c (z0f c) e (z3q ps)).1:=by
 by_cases h0:z1g c=0
 ·cases h1:z5i 250 e with
  | true=>rw [typ_deep h0 h1] at h;exact absurd h (by decide)
  | false =>
   cases h2:(meas e 6000).1 with
   | true=>rw [typ_meas h0 h1 h2] at h;exact absurd h (by decide)
   | false =>
    cases h3:ps.all fun p=>z2b (z0f c) p.type with
    | false=>rw [typ_type h0 h1 h2 h3] at h;exact absurd h (by decide)
    | true =>
     cases h4:z5v z1s [] (ps.map Param.name++z0n e) with
     | false=>rw [typ_apart h0 h1 h2 h3 h4] at h;exact absurd h (by decide)
     | true =>
      by_cases h5:(z0c (z0f c) e (z3q ps)).1=sNo
      ·rw [typ_no h0 h1 h2 h3 h4 h5] at h;exact absurd h (by decide)
      ·exact ⟨h0,rfl,rfl,rfl,rfl,h5,by rw [typ_ok h0 h1 h2 h3 h4 h5]⟩
 ·rw [typ_look h0] at h;exact absurd h h0
theorem hasB_mem {l:List Bs} {s:Bs}:hasB l s=true↔s∈l:=by
 simp only [hasB,List.any_eq_true,decide_eq_true_eq]
 exact ⟨fun ⟨x,hx,e⟩=>e▸hx,fun h=>⟨s,h,rfl⟩⟩
theorem scopeP_snoc (ps:List Param) (p:Param):z3q (ps++[p])=lput (z3q ps) p.name p.type:=by simp [z3q]
theorem scopeP_none {ps:List Param} {n:Bs} (h:n∉ps.map Param.name):lget (z3q ps) n=none:=by
 rw [y0b,z3o h];rfl
theorem unused_name:z1s z3i=true:=by decide
theorem perm_mid {l m:List Bs} {u:Bs}:(l++[u]++m).Perm (u::(l++m)):=by
 rw [List.append_assoc];exact List.perm_middle
theorem unused_ok {c:Core} {ps:List Param} {e:Ex} (h:(z2c c ps e).2=0) :
  ((z2c c (ps++[⟨z3i,sInt⟩]) e).2=0→(z2c c (ps++[⟨z3i,sInt⟩]) e).1=(z2c c ps e).1)∧(¬(z2c c (ps++[⟨z3i,sInt⟩]) e).2=0→namedV ps e=true):=by
 obtain ⟨h0,h1,h2,h3,h4,h5,h6⟩:=typ_inv h
 have hR:=z5y h0
 obtain ⟨a1,_,a3⟩:=z5w h4
 have a2:=z0p a1
 have key:z3i∉ps.map Param.name++z0n e→(z0c (z0f c) e (z3q (ps++[⟨z3i,sInt⟩]))).1=(z0c (z0f c) e (z3q ps)).1:=fun hu=>by
  rw [scopeP_snoc]
  refine wide_ok (z0f c) (sound_of hR (inp:=[])).dNo _ e (Nat.lt_succ_self _) _ _ (fun n x hx =>?_) a2.2.1 (fun n hn=>scopeP_none fun hm=>a2.2.2 n hm hn) (fun n hn =>?_) h5
  ·rw [z4e,if_neg]
   ·exact hx
   ·rintro rfl
    rw [scopeP_none (fun hm=>hu (List.mem_append.2 (.inl hm)))] at hx
    cases hx
  ·rw [z4e,if_neg]
   ·exact scopeP_none fun hm=>a2.2.2 n hm hn
   ·rintro rfl;exact hu (List.mem_append.2 (.inr hn))
 constructor
 ·intro h'
  obtain ⟨_,_,_,_,k4,_,k6⟩:=typ_inv h'
  rw [k6,h6]
  refine key fun hm =>?_
  obtain ⟨b1,_,_⟩:=z5w k4
  rw [List.map_append,List.map_cons,List.map_nil] at b1
  exact (List.nodup_cons.1 (perm_mid.nodup_iff.1 b1)).1 hm
 ·intro h'
  refine Classical.byContradiction fun hn=>h' ?_
  have hu:z3i∉ps.map Param.name++z0n e:=fun hm=>hn (hasB_mem.2 hm)
  have k3:((ps++[(⟨z3i,sInt⟩:Param)]).all fun p=>z2b (z0f c) p.type)=true:=by
   rw [List.all_append,h3];simp [z2b]
  have k4:z5v z1s [] ((ps++[(⟨z3i,sInt⟩:Param)]).map Param.name++z0n e)=true:=by
   rw [List.map_append,List.map_cons,List.map_nil]
   refine apartP_of (perm_mid.nodup_iff.2 (List.nodup_cons.2 ⟨hu,a1⟩)) (fun n _ h=>by cases h) fun n hn =>?_
   rcases List.mem_cons.1 (perm_mid.mem_iff.1 hn) with rfl | hn
   ·exact unused_name
   ·exact a3 n hn
  rw [typ_ok h0 h1 h2 k3 k4 (by rw [key hu];exact h5)]
end Go.Sw

namespace Go.Sw
structure Alike (T U:Table):Prop where
 datas:U.datas=T.datas
 cons:U.cons=T.cons
 inputs:U.inputs=T.inputs
 funs:∀n,lget U.funs n=lget T.funs n
mutual
theorem z7c {T U:Table} (h:Alike T U):∀(e:Ex) (s:Scope),z0c U e s=z0c T e s
 | .mk kind num name args arms,s=>by
  simp only [z0c,inputT,h.cons,h.funs,h.datas,h.inputs,allQ_alike h args,letP_alike h name args,firstP_alike h args,splitP_alike h arms]
theorem allQ_alike {T U:Table} (h:Alike T U):∀(xs:List Ex) (s:Scope) (ts:List Bs),allQ U xs s ts=allQ T xs s ts
 | [],_,_=>rfl
 | x::xs,s,ts=>by simp only [allQ,z7c h x,allQ_alike h xs]
theorem firstP_alike {T U:Table} (h:Alike T U):∀(xs:List Ex) (s:Scope),firstP U xs s=firstP T xs s
 | [],_=>rfl
 | a::_,s=>by simp only [firstP,z7c h a]
theorem letP_alike {T U:Table} (h:Alike T U) (name:Bs):∀(xs:List Ex) (s:Scope),letP U name xs s=letP T name xs s
 | [],_=>rfl
 | a::l,s=>by simp only [letP,z7c h a,firstP_alike h l]
theorem splitP_alike {T U:Table} (h:Alike T U):∀(az:List Arm) (cs:List Con) (first:Bool) (out:Bs) (s:Scope),splitP U az cs first out s=splitP T az cs first out s
 | [],_,_,_,_=>rfl
 | .mk con vars body::az,cs,first,out,s=>by simp only [splitP,z7c h body,splitP_alike h az]
end
mutual
theorem hasP_alike {T U:Table} (h:Alike T U):∀(v:Val) (n:Bs),hasP U v n=hasP T v n
 | .mk con num args,n=>by simp only [hasP,h.cons,hasL_alike h args]
theorem hasL_alike {T U:Table} (h:Alike T U):∀(vs:List Val) (fs:List Bs),hasL U vs fs=hasL T vs fs
 | [],_=>rfl
 | v::vs,fs=>by simp only [hasL,hasP_alike h v,hasL_alike h vs]
end
theorem givenP_alike {T U:Table} (h:Alike T U):∀(l:List Named) (ps:List Param),z9b U l ps=z9b T l ps
 | [],[]=>rfl
 | v::vs,p::ps=>by simp only [z9b,hasP_alike h,givenP_alike h vs ps]
 | [],_::_=>rfl
 | _::_,[]=>rfl
theorem isTypeP_alike {T U:Table} (h:Alike T U) (n:Bs):z2b U n=z2b T n:=by simp only [z2b,h.datas]
theorem funOk_alike {T U:Table} (h:Alike T U) (f:Fun):z6k U f=z6k T f:=by simp only [z6k,isTypeP_alike h,z7c h]
theorem fieldsOk_alike {T U:Table} (h:Alike T U) (d:Data):z4x U d=z4x T d:=by simp only [z4x,isTypeP_alike h]
theorem outsOk_alike {T U:Table} (h:Alike T U):∀(os seen:List Bs),z6m U seen os=z6m T seen os
 | [],_=>rfl
 | o::os,seen=>by simp only [z6m,h.funs,outsOk_alike h os]
theorem stepP_alike {C D:Ctx} (hf:∀n,lget D.funs n=lget C.funs n) (hi:D.inp=C.inp) (ev:Nat→Ex→Env→Ev Val) (g:Nat) (e:Ex) (env:Env):z3z ev D g e env=z3z ev C g e env:=by
 simp only [z3z,hf,hi]
theorem evalP_alike {C D:Ctx} (hf:∀n,lget D.funs n=lget C.funs n) (hi:D.inp=C.inp):∀n,evalP D n=evalP C n
 | 0=>by funext g e env;cases g <;> rfl
 | n+1=>by
  funext g e env
  cases g with
  | zero=>rfl
  | succ g=>simp only [evalP,evalP_alike hf hi n,stepP_alike hf hi]
theorem evalF_alike {C D:Ctx} (hf:∀n,lget D.funs n=lget C.funs n) (hi:D.inp=C.inp):z2g D=z2g C:=by
 funext g e env;simp only [z2g,evalP_alike hf hi]
theorem outsP_alike {C D:Ctx} (hf:∀n,lget D.funs n=lget C.funs n) (hi:D.inp=C.inp):∀(os:List Bs) (g:Nat),z3y D os g=z3y C os g
 | [],_=>rfl
 | o::os,g=>by simp only [z3y,hf,evalF_alike hf hi,outsP_alike hf hi os]
mutual
theorem meas_shift:∀(e:Ex) (l k:Int),(meas e l).1=false→0≤(meas e l).2+k→meas e (l+k)=(false,(meas e l).2+k)
 | .mk _ _ _ args arms,l,k=>by
  intro h h2
  simp only [meas] at h h2 ⊢
  by_cases hl:l - 1 < 0
  ·rw [if_pos hl] at h;cases h
  ·rw [if_neg hl] at h h2 ⊢
   have m1:=meass_le args (l - 1)
   have m2:=meass_shift args (l - 1) k
   cases hq:meass args (l - 1) with
   | mk b q =>
    rw [hq] at h h2 m1 m2
    cases b with
    | true=>cases h
    | false =>
     have m1':=m1 rfl (by omega)
     simp only at h h2 m1' ⊢
     have m3:=measa_le arms q h (by omega)
     rw [if_neg (by omega),show l+k - 1=l - 1+k by omega,m2 rfl (show 0≤q+k by omega)]
     exact measa_shift arms q k h h2
theorem meass_shift:∀(es:List Ex) (l k:Int),(meass es l).1=false→0≤(meass es l).2+k→meass es (l+k)=(false,(meass es l).2+k)
 | [],l,k=>fun _ _=>rfl
 | e::es,l,k=>by
  intro h h2
  simp only [meass] at h h2 ⊢
  have m1:=z4n e l
  have m2:=meas_shift e l k
  cases hq:meas e l with
  | mk b q =>
   rw [hq] at h h2 m1 m2
   cases b with
   | true=>cases h
   | false =>
    have m1':=m1 rfl
    simp only at h h2 m1' ⊢
    have m3:=meass_le es q h (by omega)
    rw [m2 rfl (show 0≤q+k by omega)]
    exact meass_shift es q k h h2
theorem measa_shift:∀(es:List Arm) (l k:Int),(measa es l).1=false→0≤(measa es l).2+k→measa es (l+k)=(false,(measa es l).2+k)
 | [],l,k=>fun _ _=>rfl
 | .mk _ vs b::es,l,k=>by
  intro h h2
  simp only [measa] at h h2 ⊢
  by_cases hv:16 < vs.length
  ·rw [if_pos hv] at h;cases h
  ·simp only [if_neg hv] at h h2 ⊢
   have m1:=z4n b l
   have m2:=meas_shift b l k
   cases hq:meas b l with
   | mk c q =>
    rw [hq] at h h2 m1 m2
    cases c with
    | true=>cases h
    | false =>
     have m1':=m1 rfl
     simp only at h h2 m1' ⊢
     have m3:=measa_le es q h (by omega)
     rw [m2 rfl (show 0≤q+k by omega)]
     exact measa_shift es q k h h2
end
def costF (f:Fun):Int:=6000 - (meas f.body 6000).2
def goodF (f:Fun):Prop:=f.params.length≤16∧(meas f.body 6000).1=false
def costs:List Fun→Int
 | []=>0
 | f::fs=>costF f+costs fs
theorem costs_app:∀(l m:List Fun),costs (l++m)=costs l+costs m
 | [],m=>by simp [costs]
 | f::l,m=>by simp only [List.cons_append,costs,costs_app l m];omega
theorem costs_rev:∀l:List Fun,costs l.reverse=costs l
 | []=>rfl
 | f::l=>by rw [List.reverse_cons,costs_app,costs_rev l];simp only [costs];omega
theorem costs_pos:∀{l:List Fun},(∀f∈l,goodF f)→0≤costs l
 | [],_=>by simp [costs]
 | f::l,h=>by
  have h1:=costs_pos fun g hg=>h g (List.mem_cons_of_mem _ hg)
  have h2:=z4n f.body 6000 (h f List.mem_cons_self).2
  simp only [costs,costF];omega
theorem measF_iff:∀(fs:List Fun) (l:Int),0≤l→l≤6000→(measF fs l=false↔(∀f∈fs,goodF f)∧costs fs≤l)
 | [],l,h0,h1=>by simp [measF,costs,h0]
 | f::fs,l,h0,h1=>by
  simp only [measF,Bool.or_eq_false_iff,decide_eq_false_iff_not]
  constructor
  ·rintro ⟨⟨a,b⟩,c⟩
   have m:=z4n f.body l b
   have s:=meas_shift f.body l (6000 - l) b (by omega)
   rw [show l+(6000 - l)=6000 by omega] at s
   obtain ⟨i1,i2⟩:=(measF_iff fs _ m.1 (by omega)).1 c
   refine ⟨fun g hg =>?_,?_⟩
   ·rcases List.mem_cons.1 hg with rfl | hg
    ·exact ⟨by omega,by rw [s]⟩
    ·exact i1 g hg
   ·simp only [costs,costF,s];omega
  ·rintro ⟨a,b⟩
   have ga:=a f List.mem_cons_self
   have gr:=fun g (hg:g∈fs)=>a g (List.mem_cons_of_mem _ hg)
   have p:=costs_pos gr
   simp only [costs,costF] at b
   have s:=meas_shift f.body 6000 (l - 6000) ga.2 (by omega)
   rw [show (6000:Int)+(l - 6000)=l by omega] at s
   have gp:=ga.1
   refine ⟨⟨by omega,by rw [s]⟩,?_⟩
   rw [s]
   have m:=z4n f.body 6000 ga.2
   exact (measF_iff fs _ (by simp only;omega) (by simp only;omega)).2 ⟨gr,by simp only;omega⟩
theorem measF_rev (fs:List Fun):measF fs.reverse 6000=measF fs 6000:=by
 have h1:=measF_iff fs 6000 (by omega) (by omega)
 have h2:=measF_iff fs.reverse 6000 (by omega) (by omega)
 rw [costs_rev] at h2
 simp only [List.mem_reverse] at h2
 cases ha:measF fs 6000 with
 | false=>exact h2.2 (h1.1 ha)
 | true =>
  cases hb:measF fs.reverse 6000 with
  | true=>rfl
  | false=>rw [h1.2 (h2.1 hb)] at ha;cases ha
theorem rev_take {l:List Fun} {i:Nat} {x:Fun} (hi:i < l.length) (h:l[l.length - 1 - i]? = some x):l.reverse.take (i+1)=l.reverse.take i++[x]:=by
 rw [List.take_add_one,List.getElem?_reverse hi,h];rfl
def revC (c:Core):Core:={ c with funs:=c.funs.reverse }
theorem revC_rev (c:Core):revC (revC c)=c:=by simp [revC]
theorem longP_rev (c:Core):z4y (revC c)=z4y c:=by simp only [z4y,revC,measF_rev,List.length_reverse];rfl
theorem tabF_of:∀{l:List Fun} {m:List (Bs×Fun)},(∀f∈l,z1s f.name=true∧lget m f.name=none)→(l.map Fun.name).Nodup→(tabF true m l).1=true
 | [],_,_,_=>rfl
 | x::l,m,h,hn=>by
  simp only [List.map_cons,List.nodup_cons] at hn
  obtain ⟨h1,h2⟩:=h x List.mem_cons_self
  simp only [tabF,h1,Bool.and_self,if_true,h2,Option.isNone_none]
  refine tabF_of (fun f hf =>?_) hn.2
  obtain ⟨g1,g2⟩:=h f (List.mem_cons_of_mem _ hf)
  refine ⟨g1,?_⟩
  rw [onceL_new h2,lget_app g2]
  simp only [lget]
  rw [if_neg]
  intro e
  exact hn.1 (List.mem_map.2 ⟨f,hf,e⟩)
theorem ents_rev {l:List Fun} (hn:(l.map Fun.name).Nodup) (n:Bs):lget (ents Fun.name id l.reverse) n=lget (ents Fun.name id l) n:=by
 have hr:(l.reverse.map Fun.name).Nodup:=by rw [List.map_reverse];exact (List.reverse_perm _).nodup_iff.2 hn
 cases h:lget (ents Fun.name id l) n with
 | some v =>
  obtain ⟨x,hx,rfl,e⟩:=z3l h
  rw [ents_get hr (List.mem_reverse.2 hx),e]
 | none =>
  cases h2:lget (ents Fun.name id l.reverse) n with
  | none=>rfl
  | some v =>
   obtain ⟨x,hx,rfl,e⟩:=z3l h2
   rw [ents_get hn (List.mem_reverse.1 hx)] at h
   cases h
theorem rev_tabled {c:Core} (h:z4s c=true):z4s (revC c)=true∧Alike (z0f c) (z0f (revC c)):=by
 obtain ⟨i1,i2,i3,i4⟩:=tabI_inv (show (tabI (fsP c).1 [] c.inputs).1=true from h)
 obtain ⟨f1,f2,f3,f4⟩:=tabF_inv (show (tabF (dsP c).1 [] c.funs).1=true from i1)
 have hd:dsP (revC c)=dsP c:=rfl
 have hr:(c.funs.reverse.map Fun.name).Nodup:=by rw [List.map_reverse];exact (List.reverse_perm _).nodup_iff.2 f4
 have g1:(tabF (dsP c).1 [] c.funs.reverse).1=true:=by
  rw [f1]
  exact tabF_of (fun f hf=>f3 f (List.mem_reverse.1 hf)) hr
 have e1:(fsP (revC c)).1=(fsP c).1:=by
  show (tabF (dsP (revC c)).1 [] c.funs.reverse).1=_
  rw [hd,g1];exact i1.symm
 have e2:isP (revC c)=isP c:=by
  show tabI (fsP (revC c)).1 [] c.inputs=tabI (fsP c).1 [] c.inputs
  rw [e1]
 refine ⟨by show (isP (revC c)).1=true;rw [e2];exact h,rfl,rfl,?_,fun n =>?_⟩
 ·show (isP (revC c)).2=(isP c).2
  rw [e2]
 ·show lget (tabF (dsP c).1 [] c.funs.reverse).2 n=lget (tabF (dsP c).1 [] c.funs).2 n
  rw [f2,(tabF_inv g1).2.1]
  exact ents_rev f4 n
theorem rightP_rev {c:Core} (h:z2a c=true):z2a (revC c)=true:=by
 have ht:z4s c=true:=by simp only [z2a,Bool.and_eq_true] at h;exact h.1.1.1.1.1
 obtain ⟨t,A⟩:=rev_tabled ht
 have e1:(revC c).datas=c.datas:=rfl
 have e2:(revC c).inputs=c.inputs:=rfl
 have e3:(revC c).outputs=c.outputs:=rfl
 have e4:(revC c).funs=c.funs.reverse:=rfl
 unfold z2a at h ⊢
 rw [e1,e2,e3,e4,t,List.all_reverse,outsOk_alike A,show z6k (z0f (revC c))=z6k (z0f c) from funext (funOk_alike A),show z4x (z0f (revC c))=z4x (z0f c) from funext (fieldsOk_alike A)]
 rw [ht] at h
 exact h
theorem rightP_revE (c:Core):z2a (revC c)=z2a c:=by
 cases h:z2a c with
 | true=>exact rightP_rev h
 | false =>
  cases h2:z2a (revC c) with
  | false=>rfl
  | true=>have:=rightP_rev h2;rw [revC_rev,h] at this;cases this
theorem lookP_rev (c:Core):z1g (revC c)=z1g c:=by
 unfold z1g
 rw [longP_rev,rightP_revE,show (revC c).funs=c.funs.reverse from rfl,List.any_reverse]
theorem runP_rev (c:Core) (l:List Named) (fuel:Int):runP (revC c) l fuel=runP c l fuel:=by
 by_cases h0:z1g c=0
 ·obtain ⟨hl,hr⟩:=z4h h0
  have ht:z4s c=true:=by simp only [z2a,Bool.and_eq_true] at hr;exact hr.1.1.1.1.1
  have A:=(rev_tabled ht).2
  unfold runP
  rw [lookP_rev,show (revC c).inputs=c.inputs from rfl,show (revC c).outputs=c.outputs from rfl,givenP_alike A,outsP_alike (C:=⟨(z0f c).funs,inpP l⟩) (D:=⟨(z0f (revC c)).funs,inpP l⟩) A.funs rfl]
 ·unfold runP
  rw [lookP_rev,if_pos h0,if_pos h0]
end Go.Sw

namespace Go.Sw
mutual
theorem calledP_len:∀(e:Ex) (l:Int),(meas e l).1=false→((z1r e).length:Int)≤l - (meas e l).2
 | .mk k n s args arms,l=>by
  intro h
  simp only [meas] at h ⊢
  split at h
  ·cases h
  ·rename_i hl
   rw [if_neg hl]
   cases hm:meass args (l - 1) with
   | mk b q =>
    rw [hm] at h
    cases b with
    | true=>cases h
    | false =>
     have k1:=calledPs_len args (l - 1) (by rw [hm])
     have k2:=calledPa_len arms q h
     rw [hm] at k1
     simp only [z1r,List.length_append] at k1 ⊢
     have k3:(if k=5 then [s] else []).length≤1:=by split <;> simp
     omega
theorem calledPs_len:∀(es:List Ex) (l:Int),(meass es l).1=false→((calledPs es).length:Int)≤l - (meass es l).2
 | [],l=>by intro _;simp [calledPs,meass]
 | e::es,l=>by
  intro h
  simp only [meass] at h ⊢
  cases hm:meas e l with
  | mk b q =>
   rw [hm] at h
   cases b with
   | true=>cases h
   | false =>
    have k1:=calledP_len e l (by rw [hm])
    have k2:=calledPs_len es q h
    rw [hm] at k1
    simp only [calledPs,List.length_append] at k1 ⊢
    omega
theorem calledPa_len:∀(es:List Arm) (l:Int),(measa es l).1=false→((calledPa es).length:Int)≤l - (measa es l).2
 | [],l=>by intro _;simp [calledPa,measa]
 | .mk c vs b::es,l=>by
  intro h
  simp only [measa] at h ⊢
  split at h
  ·cases h
  ·rename_i hv
   rw [if_neg hv]
   cases hm:meas b l with
   | mk q0 q =>
    rw [hm] at h
    cases q0 with
    | true=>cases h
    | false =>
     have k1:=calledP_len b l (by rw [hm])
     have k2:=calledPa_len es q h
     rw [hm] at k1
     simp only [calledPa,List.length_append] at k1 ⊢
     omega
end
theorem short_called {e:Ex} (h:Short e):(z1r e).length≤6000:=by
 obtain ⟨l,h1,h2⟩:=h
 have:=calledP_len e l h2
 have:=(z4n e l h2).1
 omega
inductive Reach (T:Table) (s:Bs):Bs→Prop
 | refl:Reach T s s
 | step {x y:Bs}:Reach T s x→y∈z2y T x→Reach T s y
def z5p (T:Table) (n:Bs):Prop:=∃x,Reach T n x∧z3u (fbody T x)=true
theorem Reached.mem {T:Table} {n:Bs} {ds:List Bs} (h:Reached T [n] ds) {x:Bs} (hx:Reach T n x):x∈ds:=by
 induction hx with
 | refl=>exact h.starts n (by simp)
 | step _ hy ih=>exact h.closed _ ih _ hy
theorem Reached.reach {T:Table} {n:Bs} {ds:List Bs} (h:Reached T [n] ds) {x:Bs} (hx:x∈ds):Reach T n x :=
 h.least (Reach T n) (by simp;exact .refl) (fun _ h1 _ h2=>.step h1 h2) x hx
def z5d (r:Nat→Ev Val) (fu:Nat):Except Nat (Val×Nat) :=
 if fu < 1 then .error 4 else match r (fu - 1) with
  | .ok v g=>if z6e v then .error 7 else .ok (v,g)
  | _=>.error 4
theorem callEnd_zero {r:Nat→Ev Val} {fu:Nat} (h:fu < 1):z5d r fu=.error 4:=by simp [z5d,h]
theorem callEnd_large {r:Nat→Ev Val} {fu:Nat} (h:¬fu < 1) {v:Val} {g:Nat} (hr:r (fu - 1)=.ok v g) (hl:z6e v=true):z5d r fu=.error 7:=by simp [z5d,h,hr,hl]
theorem callEnd_ok {r:Nat→Ev Val} {fu:Nat} (h:¬fu < 1) {v:Val} {g:Nat} (hr:r (fu - 1)=.ok v g) (hl:z6e v=false):z5d r fu=.ok (v,g):=by simp [z5d,h,hr,hl]
theorem callEnd_spent {r:Nat→Ev Val} {fu:Nat} (h:¬fu < 1) (hr:r (fu - 1)=.spent):z5d r fu=.error 4:=by simp [z5d,h,hr]
theorem callEnd_err {r:Nat→Ev Val} {fu c:Nat} (h:z5d r fu=.error c):c≠0:=by
 unfold z5d at h
 split at h
 ·cases h;decide
 ·split at h
  ·split at h
   ·cases h;decide
   ·cases h
  ·cases h;decide
theorem outE {α ε:Type} {r:Except ε α} {x:α} {A:α→Prop} {B:ε→Prop} (h:r=.ok x) (hA:A x):Out r A B:=by subst h;exact hA
theorem outEE {α ε:Type} {r:Except ε α} {x:ε} {A:α→Prop} {B:ε→Prop} (h:r=.error x) (hB:B x):Out r A B:=by subst h;exact hB
open Classical in
noncomputable def z1f (c:Core) (name:Bs) (args:List Val) (fuel:Int):Val×Int×Int :=
 if z1g c≠0 then (v0,0,z1g c)
 else if fuel < 0∨200000 < fuel then (v0,0,1)
 else match lget (z0f c).funs name with
  | none=>(v0,0,3)
  | some f =>
   if givenA (z0f c) args f.params=false then (v0,0,8)
   else if z5p (z0f c) name then (v0,0,8)
   else match z5d (z5e (z2g ⟨(z0f c).funs,[]⟩) f args) fuel.toNat with
    | .ok (v,g)=>(v,((fuel.toNat - g:Nat):Int),0)
    | .error e=>(v0,0,((e:Nat):Int))
def univ (c:Core) (n:Bs):List Bs:=n::c.funs.flatMap fun f=>z1r f.body
theorem flat_len {α β:Type} {f:α→List β} {M:Nat}:∀{l:List α},(∀x∈l,(f x).length≤M)→(l.flatMap f).length≤l.length * M
 | [],_=>by simp
 | x::l,h=>by
  have h1:=h x List.mem_cons_self
  have h2:=flat_len (l:=l) (fun y hy=>h y (List.mem_cons_of_mem _ hy))
  simp only [List.flatMap_cons,List.length_append,List.length_cons,Nat.add_mul];omega
theorem look_calls {c:Core} (h:z1g c=0):(∀x,(z2y (z0f c) x).length≤6000)∧(∀n x,∀y∈z2y (z0f c) x,y∈univ c n)∧∀n,(univ c n).length≤2000000:=by
 obtain ⟨hl,hr⟩:=z4h h
 have ht:z4s c=true:=by simp only [z2a,Bool.and_eq_true] at hr;exact hr.1.1.1.1.1
 have hn:c.funs.length≤300:=by
  simp only [z4y,Bool.or_eq_false_iff,decide_eq_false_iff_not] at hl
  omega
 refine ⟨fun x =>?_,fun n x y hy =>?_,fun n =>?_⟩
 ·unfold z2y fbody
  cases hf:lget (z0f c).funs x with
  | none=>simp [ex0,z1r,calledPs,calledPa]
  | some f=>exact short_called (z9w hl (z8p ht hf))
 ·unfold z2y fbody at hy
  cases hf:lget (z0f c).funs x with
  | none=>rw [hf] at hy;simp [ex0,z1r,calledPs,calledPa] at hy
  | some f =>
   rw [hf] at hy
   exact List.mem_cons_of_mem _ (List.mem_flatMap.2 ⟨f,z8p ht hf,hy⟩)
 ·have:=flat_len (l:=c.funs) (f:=fun f=>z1r f.body) (M:=6000) (fun f hf=>short_called (z9w hl hf))
  simp only [univ,List.length_cons]
  have:c.funs.length * 6000≤300 * 6000:=Nat.mul_le_mul_right _ hn
  omega
structure RNo (T:Table) (es:Array MapEntry) (seen:Array Nat):Prop where
 no:∀e∈es.toList,e∈z5j es seen∨∃s,e.key=.string s∧z3u (fbody T s)=false
theorem RNo.start {T:Table} {es:Array MapEntry}:RNo T es #[]:=⟨fun e h=>.inl (by rw [leftE_nil];exact h)⟩
theorem RNo.next {T:Table} {es:Array MapEntry} {seen:Array Nat} {clock:Nat} {m:List (Bs×Value)} {e:MapEntry} {s:Bs} (h:RNo T es seen) (hok:MapOk es clock m) (he:e∈z5j es seen) (hk:e.key=.string s) (hr:z3u (fbody T s)=false):RNo T es (seen.push e.born) :=
 ⟨fun x hx=>by
  rcases h.no x hx with h1 | h1
  ·by_cases hb:x.born=e.born
   ·have a1:=find_born x es.toList hok.nodup hx
    have a2:=find_born e es.toList hok.nodup (leftE_mem.1 he).1
    rw [hb] at a1;rw [a1] at a2
    have:=Option.some.inj a2
    subst this
    exact .inr ⟨s,hk,hr⟩
   ·exact .inl (leftE_push.2 ⟨h1,hb⟩)
  ·exact .inr h1⟩
theorem RNo.none {T:Table} {n:Bs} {ds:List Bs} {es:Array MapEntry} {seen:Array Nat} {clock:Nat} (h:RNo T es seen) (hok:MapOk es clock (z3c ds)) (hd:Reached T [n] ds) (hl:z5j es seen=[]):¬z5p T n:=by
 rintro ⟨x,h1,h2⟩
 obtain ⟨v,hv⟩:=(seenM_keys ds x).2 (hd.mem h1)
 obtain ⟨e,he,hk⟩:=key_entry hok hv
 rcases h.no e he with h3 | ⟨s,h3,h4⟩
 ·rw [hl] at h3;cases h3
 ·rw [hk] at h3;cases h3;rw [h2] at h4;cases h4
theorem reads_any {T:Table} {n s:Bs} {v:Value} {ds:List Bs} (hd:Reached T [n] ds) (hm:(s,v)∈z3c ds) (hr:z3u (fbody T s)=true):z5p T n :=
 ⟨s,hd.reach ((seenM_keys ds s).1 ⟨v,hm⟩),hr⟩
end Go.Sw

namespace Go.Sw
open Go.Proofs.Tryz
open Go.Proofs
set_option maxRecDepth 20000
set_option maxHeartbeats 4000000
theorem runAllN_ok {Φ:Fz} {K:List Res} {w:World} {d0:List Value} {v1:Value} {c:Core} {l:List Named} {fuel:Int} (rpc:RCore Φ d0 c) (rl:SliceOf RNamed Φ 4 v1 l) (G:Glob Φ) (hm:Mem Φ K w) :
  Calls Tryz.prog 15 (List.toArray [.agg d0.toArray,v1,.int .i64 fuel]) w (fun ee w'=>∃y:Fz×List Value,ee=.returned (.tuple (List.toArray [.agg y.2.toArray,.int .i64 (runP c l fuel).2]))∧(Φ.Le y.1∧ROutcome y.1 y.2 (runP c l fuel).1∧∀v s,y.2=[v,s]→NewRow Φ v)∧Mem y.1 K w'):=by
 obtain ⟨p3,c4,p9,c10,p15,c16,p21,c22,rfl,h2,h8,h14,h20,hm5,hn6,hm11,hn12,hm17,hn18,hm23,hn24⟩:=RCore.fm rpc
 obtain ⟨p1,c1,rfl,hm1,hn1⟩:=rl.fm
 refine z0l func15 ntmps15 fun Q hQ a he =>?_
 refine Bx he hm fun b26 w hm a he =>?_
 refine Bx he hm fun b27 w hm a he =>?_
 refine Alc he hm fun b28 w hm a he =>?_
 refine z2i call43 he hm (fun y30 w hG31 hm a he =>?_) (c:=look_ok rpc G hm)
 obtain ⟨Ψ32,p33⟩:=y30
 obtain ⟨le34,hT35⟩:=hG31
 simp only at le34 hT35 hm he
 replace rpc:=RCore.mono _ _ _ _ le34 rpc
 replace G:=G.mono le34
 replace rl:=rl.up le34
 replace hm:=hm.nf
 by_cases hlk36:z1g c=0
 obtain ⟨hT37,hlong38⟩:=hT35 hlk36
 rw [if_pos hlk36,hlk36] at he
 refine Alc he hm fun b39 w hm a he =>?_
 refine Sto 0 he hm fun w hm a he =>?_
 refine Qq he hm (fun a he =>?_) (o:=by exact fun _ _ _ he hs=>y_ineq false he rfl rfl rfl)
 refine go he hm fun a he =>?_
 by_cases h43:fuel < 0
 refine z1h he hm fun a he =>?_
 refine Sto 1 he hm fun w hm a he =>?_
 refine go he hm fun a he =>?_
 have hmr:=hm
 replace hm:=hm.dl [3,2,1,0]
 refine hQ _ _ _ (retcA2 (i:=1) (cs:=[.slice none 0 0,.int .i64 ((0:Nat):Int)]) he hmr.toSees results15 rfl rfl isAgg30 sizeOf30 rfl rfl ?_)
 have hr_:runP c l (fuel)=(out0,1):=by
  simp only [runP,if_neg (not_not_intro hlk36)];rw [if_pos (by have h_:=h43;omega)] <;> rfl
 rw [hr_]
 exact ⟨(Ψ32,_),rfl,⟨le34,⟨_,rfl,SliceOf.nil 4⟩,fun _ _ e_=>by cases e_;exact NewRow.nil⟩,hm⟩
 refine go he hm fun a he =>?_
 by_cases h45:200000 < fuel
 refine z1h he hm fun a he =>?_
 refine Sto 1 he hm fun w hm a he =>?_
 refine go he hm fun a he =>?_
 have hmr:=hm
 replace hm:=hm.dl [3,2,1,0]
 refine hQ _ _ _ (retcA2 (i:=1) (cs:=[.slice none 0 0,.int .i64 ((0:Nat):Int)]) he hmr.toSees results15 rfl rfl isAgg30 sizeOf30 rfl rfl ?_)
 have hr_:runP c l (fuel)=(out0,1):=by
  simp only [runP,if_neg (not_not_intro hlk36)];rw [if_pos (by have h_:=h45;omega)] <;> rfl
 rw [hr_]
 exact ⟨(Ψ32,_),rfl,⟨le34,⟨_,rfl,SliceOf.nil 4⟩,fun _ _ e_=>by cases e_;exact NewRow.nil⟩,hm⟩
 refine z1n call44 he hm (fun hB48 w hm a he =>?_) (fun hB48 w hm a he =>?_) (c:=given_ok hT37 rl hm)
 refine go he hm fun a he =>?_
 have hgv_:z9b (z0f c) l c.inputs=true:=hB48
 have hfu_:fuel≤200000:=by have h_:=h45;omega
 have hf0_:0≤fuel:=by have h_:=h43;omega
 have hmk_:=hm
 have hek_:=he
 clear hm he
 obtain ⟨fu,rfl⟩:=Int.eq_ofNat_of_zero_le hf0_
 have hm:=hmk_
 have he:=hek_
 clear hmk_ hek_
 refine Alc he hm fun b50 w hm a he =>?_
 refine Alc he hm fun b52 w hm a he =>?_
 refine Alc he hm fun b54 w hm a he =>?_
 refine MkM he hm fun b56 w hm a he =>?_
 refine Alc he hm fun b57 w hm a he =>?_
 refine Sto 0 he hm fun w hm a he =>?_
 refine go he hm fun a he =>?_
 refine z1i (he.ks [3,5,6,8,10,11,12,13,41,42]) hm (fun R mm a w=>∃(i:Nat) (mv:List (Bs×Value)) (lv:List (Bs×Val)),mm=l.length - i∧R Ψ32 [(43,.int .i64 ((i:Nat):Int))] [(1,.mp b56 mv)] a w∧(inpP l=(l.drop i).foldl (fun m x=>lput m x.name x.value) lv∧MapRel (RVa RVal Ψ32) mv lv)) (l.length - 0) ⟨0,[],[],rfl,⟨he.pk,hm⟩,⟨rfl,MapRel.nil⟩⟩ ?_
 clear hm he
 rintro mm a w ⟨i,mv,lv,hmu,⟨he,hm⟩,hI61⟩ L60 hL60
 replace hm:=hm.nf
 obtain ⟨hI61,rv⟩:=hI61
 refine go he hm fun a he =>?_
 by_cases h63:i < l.length
 refine go he hm fun a he =>?_
 obtain ⟨q67,rfl,x68,hx69,cs70,hl71,ha72,hr73⟩:=rl.el hn1 h63
 obtain ⟨b74,rfl,h75⟩:=id hr73
 obtain ⟨p78,c79,rfl,hi82,h77,hm80,hn81⟩:=RVal.fm h75
 refine Alc he hm fun b83 w hm a he =>?_
 refine Sto 0 he hm fun w hm a he =>?_
 refine MapU 2 runUnderlying94 runUnderlying9 he hm fun w hm a he =>?_
 refine go he hm fun a he =>?_
 replace hm:=hm.dl [0]
 refine hL60 _ _ _ (by subst hmu;omega) ⟨(i+1),((mput mv x68.name (.agg (List.toArray [.string x68.value.con,.int .i64 (x68.value.num),.slice p78 x68.value.args.length c79])))),((lput lv x68.name x68.value)),rfl,⟨he.pk,hm⟩,?_⟩
 refine ⟨?_,(rv.put ⟨_,rfl,h75⟩)⟩
 rw [hI61,z0a hx69];rfl
 refine go he hm fun a he =>?_
 have hm0_:=hm
 clear hm
 obtain ⟨Ψ86,le87,hm,hma88⟩:=hm0_.freezeMap (i:=1) rfl
 clear hm0_
 replace rpc:=RCore.mono _ _ _ _ le87 rpc
 replace G:=G.mono le87
 replace hT37:=hT37.mono le87
 replace rv:=rv.up le87
 replace hm:=hm.nf
 have rG_:RGiven Ψ86 (.map (some b56)) (inpP l):=by
  have e_:inpP l=lv:=by rw [hI61,z0g h63];rfl
  rw [e_];exact .inl ⟨_,_,rfl,hma88,rv⟩
 replace hm:=hm.nf
 refine go he hm fun a he =>?_
 replace hm:=hm.ar [] [3,2,3,6,4,5,7]
 refine st he rfl rfl rfl (eff_callW he rfl call45 (run_within (inp:=inpP l) rpc hT37 rG_ (look_funs hlk36) (look_outs hlk36) (by omega) (run_ns hlk36 hgv_ fu) hm) (fun q89 y90 w hq91 hG92 hm a he =>?_) (fun q89 w hq91 hm a he =>?_))
 obtain ⟨xs93,g94⟩:=q89
 obtain ⟨Ψ95,u96,cl97,vo98⟩:=y90
 obtain ⟨le99,htot100,hcl101,hsl102,hnw103⟩:=hG92
 simp only at le99 htot100 hcl101 hsl102 hnw103 hm he
 replace hnw103:=hnw103.anti ((le34).trans le87)
 obtain ⟨p104,c105,rfl,hmx106,hnx107⟩:=hsl102.fm
 replace rpc:=RCore.mono _ _ _ _ le99 rpc
 replace G:=G.mono le99
 replace rG_:=RGiven.mono le99 rG_
 replace hm:=hm.nf
 refine Qq he hm (fun a he =>?_) (o:=by exact fun _ _ _ he hs=>y_ineq false he rfl rfl rfl)
 replace hm:=hm.pl 1
 refine z0y call47 he hm (fun w hm a he =>?_) (c:=total_ok (l:=cl97) (by have h_:=hcl101;omega) hm)
 refine Sto 2 he hm fun w hm a he =>?_
 refine Sto 3 he hm fun w hm a he =>?_
 refine go he hm fun a he =>?_
 have hmr:=hm
 replace hm:=hm.dl [3,2,1,0]
 refine hQ _ _ _ (retcA2 (i:=3) (cs:=[.slice p104 (z6z c.outputs xs93).length c105,.int .i64 ((totalP cl97))]) he hmr.toSees results15 rfl rfl isAgg30 sizeOf30 rfl rfl ?_)
 have hr_:runP c l (((fu:Nat):Int))=(⟨z6z c.outputs xs93,((fu - g94:Nat):Int)⟩,((0:Nat):Int)):=by
  simp only [runP,if_neg (not_not_intro hlk36)]
  rw [if_neg (by omega),if_neg (by rw [hgv_];decide),Int.toNat_natCast,hq91] <;> rfl
 rw [hr_]
 exact ⟨(Ψ95,_),rfl,⟨((le34).trans le87).trans le99,⟨_,by rw [show (⟨z6z c.outputs xs93,((fu - g94:Nat):Int)⟩:Outcome).steps=totalP cl97 from htot100.symm],hsl102⟩,fun _ _ e_=>by cases e_;exact hnw103⟩,hm⟩
 have hc112:=endP_err hq91
 replace hm:=hm.nf
 refine z1h he hm fun a he =>?_
 refine Sto 0 he hm fun w hm a he =>?_
 refine go he hm fun a he =>?_
 have hmr:=hm
 replace hm:=hm.dl [0]
 refine hQ _ _ _ (retcA2 (i:=0) (cs:=[.slice none 0 0,.int .i64 ((0:Nat):Int)]) he hmr.toSees results15 rfl rfl isAgg30 sizeOf30 rfl rfl ?_)
 have hr_:runP c l (((fu:Nat):Int))=(out0,((q89:Nat):Int)):=by
  simp only [runP,if_neg (not_not_intro hlk36)]
  rw [if_neg (by omega),if_neg (by rw [hgv_];decide),Int.toNat_natCast,hq91] <;> rfl
 rw [hr_]
 exact ⟨(Ψ86,_),rfl,⟨(le34).trans le87,⟨_,rfl,SliceOf.nil 4⟩,fun _ _ e_=>by cases e_;exact NewRow.nil⟩,hm⟩
 refine z1h he hm fun a he =>?_
 refine Sto 1 he hm fun w hm a he =>?_
 refine go he hm fun a he =>?_
 have hmr:=hm
 replace hm:=hm.dl [3,2,1,0]
 refine hQ _ _ _ (retcA2 (i:=1) (cs:=[.slice none 0 0,.int .i64 ((0:Nat):Int)]) he hmr.toSees results15 rfl rfl isAgg30 sizeOf30 rfl rfl ?_)
 have hr_:runP c l (fuel)=(out0,8):=by
  simp only [runP,if_neg (not_not_intro hlk36)];rw [if_neg (by have h1_:=h45;have h2_:=h43;omega),if_pos (show z9b (z0f c) l c.inputs=false from hB48)] <;> rfl
 rw [hr_]
 exact ⟨(Ψ32,_),rfl,⟨le34,⟨_,rfl,SliceOf.nil 4⟩,fun _ _ e_=>by cases e_;exact NewRow.nil⟩,hm⟩
 rw [if_neg hlk36] at he
 refine Alc he hm fun b117 w hm a he =>?_
 refine Sto 0 he hm fun w hm a he =>?_
 refine z1h he hm fun a he =>?_
 refine Sto 1 he hm fun w hm a he =>?_
 refine go he hm fun a he =>?_
 have hmr:=hm
 replace hm:=hm.dl [3,2,1,0]
 refine hQ _ _ _ (retcA2 (i:=1) (cs:=[.slice none 0 0,.int .i64 ((0:Nat):Int)]) he hmr.toSees results15 rfl rfl isAgg30 sizeOf30 rfl rfl ?_)
 have hr_:runP c l (fuel)=(out0,z1g c):=by
  simp only [runP,if_pos hlk36]
 rw [hr_]
 exact ⟨(Ψ32,_),rfl,⟨le34,⟨_,rfl,SliceOf.nil 4⟩,fun _ _ e_=>by cases e_;exact NewRow.nil⟩,hm⟩
theorem runAll_ok {Φ:Fz} {K:List Res} {w:World} {d0:List Value} {v1:Value} {c:Core} {l:List Named} {fuel:Int} (rpc:RCore Φ d0 c) (rl:SliceOf RNamed Φ 4 v1 l) (G:Glob Φ) (hm:Mem Φ K w) :
  Calls Tryz.prog 15 (List.toArray [.agg d0.toArray,v1,.int .i64 fuel]) w (fun ee w'=>∃y:Fz×List Value,ee=.returned (.tuple (List.toArray [.agg y.2.toArray,.int .i64 (runP c l fuel).2]))∧(Φ.Le y.1∧ROutcome y.1 y.2 (runP c l fuel).1)∧Mem y.1 K w'):=by
 refine (runAllN_ok rpc rl G hm).mono fun ee w' h =>?_
 obtain ⟨y,h1,⟨h2,h3,_⟩,h4⟩:=h
 exact ⟨y,h1,⟨h2,h3⟩,h4⟩
end Go.Sw

namespace Go.Sw
open Go.Proofs.Tryz
open Go.Proofs
set_option maxRecDepth 20000
set_option maxHeartbeats 4000000
theorem called_step {Φ:Fz} {K:List Res} {w:World} {d:List Value} {e:Ex} {b:Nat} {ds:List Bs} (re:REx Φ d e) (ih:∀x:Ex,x.sz < e.sz→∀{Φ:Fz} {K:List Res} {w:World} {d:List Value} {b:Nat} {ds:List Bs},REx Φ d x→Mem Φ (.mp b (z3c ds)::K) w→Calls Tryz.prog 93 (List.toArray [.agg d.toArray,.map (some b)]) w (fun ee w'=>ee=.returned (.tuple #[])∧Mem Φ (.mp b (z3c (ds++z1r x))::K) w')) (hm:Mem Φ (.mp b (z3c ds)::K) w) :
  Calls Tryz.prog 93 (List.toArray [.agg d.toArray,.map (some b)]) w (fun ee w'=>ee=.returned (.tuple #[])∧Mem Φ (.mp b (z3c (ds++z1r e))::K) w'):=by
 obtain ⟨p3,c4,p9,c10,rfl,hi13,h2,h8,hm5,hn6,hm11,hn12⟩:=REx.fm re
 refine z0l func93 ntmps93 fun Q hQ a he =>?_
 refine Bx he hm fun b15 w hm a he =>?_
 refine go he hm fun a he =>?_
 by_cases h18:e.kind=5
 refine MapU 1 runUnderlying121 runUnderlying9 he hm fun w hm a he =>?_
 rw [← seenM_snoc] at hm
 refine go he hm fun a he =>?_
 refine z1i (he.ks [1,2,15,16]) hm (fun R mm a w=>∃(i:Nat) (d1:List Bs),mm=e.args.length - i∧R Φ [(17,.int .i64 ((i:Nat):Int))] [(1,.mp b (z3c d1))] a w∧(ds++z1r e=d1++(calledPs (e.args.drop i)++calledPa e.arms))) (e.args.length - 0) ⟨0,(ds++[e.name]),rfl,⟨he.pk,hm⟩,by rw [z9p];simp [*]⟩ ?_
 clear hm he
 rintro mm a w ⟨i,d1,hmu,⟨he,hm⟩,hI22⟩ L21 hL21
 replace hm:=hm.nf
 refine go he hm fun a he =>?_
 by_cases h24:i < e.args.length
 refine go he hm fun a he =>?_
 obtain ⟨q28,rfl,x29,hx30,cs31,hl32,ha33,hr34⟩:=h2.el hn6 h24
 obtain ⟨p37,c38,p43,c44,rfl,hi47,h36,h42,hm39,hn40,hm45,hn46⟩:=REx.fm hr34
 refine Alc he hm fun b48 w hm a he =>?_
 refine Sto 0 he hm fun w hm a he =>?_
 replace hm:=hm.pl 2
 refine z0y call93 he hm (fun w hm a he =>?_) (c:=ih _ (Ex.lt_args (List.mem_of_getElem? hx30)) hr34 hm)
 refine go he hm fun a he =>?_
 replace hm:=hm.ar [1] [1]
 refine hL21 _ _ _ (by subst hmu;omega) ⟨(i+1),((d1++z1r x29)),rfl,⟨he.pk,hm⟩,?_⟩
 rw [hI22,z0a hx30];simp [calledPs]
 refine go he hm fun a he =>?_
 refine z1i (he.ks [1,26,27]) hm (fun R mm a w=>∃(k:Nat) (d2:List Bs),mm=e.arms.length - k∧R Φ [(28,.int .i64 ((k:Nat):Int))] [(1,.mp b (z3c d2))] a w∧(ds++z1r e=d2++calledPa (e.arms.drop k))) (e.arms.length - 0) ⟨0,d1,rfl,⟨he.pk,hm⟩,by rw [hI22,z0g h24];simp [calledPs]⟩ ?_
 clear hm he
 rintro mm a w ⟨k,d2,hmu,⟨he,hm⟩,hI52⟩ L51 hL51
 replace hm:=hm.nf
 refine go he hm fun a he =>?_
 by_cases h54:k < e.arms.length
 refine go he hm fun a he =>?_
 obtain ⟨q58,rfl,x59,hx60,cs61,hl62,ha63,hr64⟩:=h8.el hn12 h54
 obtain ⟨s65,b71,rfl,h66,h72⟩:=RArm.iff.1 hr64
 obtain ⟨p67,c68,rfl,hm69,hn70⟩:=h66.fm
 obtain ⟨p75,c76,p81,c82,rfl,hi85,h74,h80,hm77,hn78,hm83,hn84⟩:=REx.fm h72
 refine Alc he hm fun b86 w hm a he =>?_
 refine Sto 0 he hm fun w hm a he =>?_
 replace hm:=hm.pl 2
 refine z0y call93 he hm (fun w hm a he =>?_) (c:=ih _ (Ex.lt_arms (List.mem_of_getElem? hx60)) h72 hm)
 refine go he hm fun a he =>?_
 replace hm:=hm.ar [1] [1]
 refine hL51 _ _ _ (by subst hmu;omega) ⟨(k+1),((d2++z1r x59.body)),rfl,⟨he.pk,hm⟩,?_⟩
 rw [hI52,z0a hx60,y0l];simp
 refine go he hm fun a he =>?_
 replace hm:=hm.dl [0]
 refine hQ _ _ _ (ret0N he results93 ?_)
 rw [show ds++z1r e=d2 by rw [hI52,z0g h54];simp [calledPa]]
 exact ⟨rfl,hm⟩
 refine go he hm fun a he =>?_
 refine z1i (he.ks [1,2,15,16]) hm (fun R mm a w=>∃(i:Nat) (d1:List Bs),mm=e.args.length - i∧R Φ [(17,.int .i64 ((i:Nat):Int))] [(1,.mp b (z3c d1))] a w∧(ds++z1r e=d1++(calledPs (e.args.drop i)++calledPa e.arms))) (e.args.length - 0) ⟨0,ds,rfl,⟨he.pk,hm⟩,by rw [z9p];simp [*]⟩ ?_
 clear hm he
 rintro mm a w ⟨i,d1,hmu,⟨he,hm⟩,hI91⟩ L90 hL90
 replace hm:=hm.nf
 refine go he hm fun a he =>?_
 by_cases h93:i < e.args.length
 refine go he hm fun a he =>?_
 obtain ⟨q97,rfl,x98,hx99,cs100,hl101,ha102,hr103⟩:=h2.el hn6 h93
 obtain ⟨p106,c107,p112,c113,rfl,hi116,h105,h111,hm108,hn109,hm114,hn115⟩:=REx.fm hr103
 refine Alc he hm fun b117 w hm a he =>?_
 refine Sto 0 he hm fun w hm a he =>?_
 replace hm:=hm.pl 2
 refine z0y call93 he hm (fun w hm a he =>?_) (c:=ih _ (Ex.lt_args (List.mem_of_getElem? hx99)) hr103 hm)
 refine go he hm fun a he =>?_
 replace hm:=hm.ar [1] [1]
 refine hL90 _ _ _ (by subst hmu;omega) ⟨(i+1),((d1++z1r x98)),rfl,⟨he.pk,hm⟩,?_⟩
 rw [hI91,z0a hx99];simp [calledPs]
 refine go he hm fun a he =>?_
 refine z1i (he.ks [1,26,27]) hm (fun R mm a w=>∃(k:Nat) (d2:List Bs),mm=e.arms.length - k∧R Φ [(28,.int .i64 ((k:Nat):Int))] [(1,.mp b (z3c d2))] a w∧(ds++z1r e=d2++calledPa (e.arms.drop k))) (e.arms.length - 0) ⟨0,d1,rfl,⟨he.pk,hm⟩,by rw [hI91,z0g h93];simp [calledPs]⟩ ?_
 clear hm he
 rintro mm a w ⟨k,d2,hmu,⟨he,hm⟩,hI121⟩ L120 hL120
 replace hm:=hm.nf
 refine go he hm fun a he =>?_
 by_cases h123:k < e.arms.length
 refine go he hm fun a he =>?_
 obtain ⟨q127,rfl,x128,hx129,cs130,hl131,ha132,hr133⟩:=h8.el hn12 h123
 obtain ⟨s134,b140,rfl,h135,h141⟩:=RArm.iff.1 hr133
 obtain ⟨p136,c137,rfl,hm138,hn139⟩:=h135.fm
 obtain ⟨p144,c145,p150,c151,rfl,hi154,h143,h149,hm146,hn147,hm152,hn153⟩:=REx.fm h141
 refine Alc he hm fun b155 w hm a he =>?_
 refine Sto 0 he hm fun w hm a he =>?_
 replace hm:=hm.pl 2
 refine z0y call93 he hm (fun w hm a he =>?_) (c:=ih _ (Ex.lt_arms (List.mem_of_getElem? hx129)) h141 hm)
 refine go he hm fun a he =>?_
 replace hm:=hm.ar [1] [1]
 refine hL120 _ _ _ (by subst hmu;omega) ⟨(k+1),((d2++z1r x128.body)),rfl,⟨he.pk,hm⟩,?_⟩
 rw [hI121,z0a hx129,y0l];simp
 refine go he hm fun a he =>?_
 replace hm:=hm.dl [0]
 refine hQ _ _ _ (ret0N he results93 ?_)
 rw [show ds++z1r e=d2 by rw [hI121,z0g h123];simp [calledPa]]
 exact ⟨rfl,hm⟩
theorem called_ok {Φ:Fz} {K:List Res} {w:World} {d:List Value} {e:Ex} {b:Nat} {ds:List Bs} (re:REx Φ d e) (hm:Mem Φ (.mp b (z3c ds)::K) w) :
  Calls Tryz.prog 93 (List.toArray [.agg d.toArray,.map (some b)]) w (fun ee w'=>ee=.returned (.tuple #[])∧Mem Φ (.mp b (z3c (ds++z1r e))::K) w'):=by
 suffices H:∀n (e:Ex),e.sz < n→∀{Φ:Fz} {K:List Res} {w:World} {d:List Value} {b:Nat} {ds:List Bs},REx Φ d e→Mem Φ (.mp b (z3c ds)::K) w →
   Calls Tryz.prog 93 (List.toArray [.agg d.toArray,.map (some b)]) w (fun ee w'=>ee=.returned (.tuple #[])∧Mem Φ (.mp b (z3c (ds++z1r e))::K) w') from H _ e (Nat.lt_succ_self _) re hm
 intro n
 induction n with
 | zero=>intro e h;omega
 | succ n ih=>intro e h Φ K w d b ds re hm;exact called_step re (fun x hx _ _ _ _ _ _ r m=>ih x (by omega) r m) hm
end Go.Sw

namespace Go.Sw
open Go.Proofs.Tryz
open Go.Proofs
set_option maxRecDepth 20000
set_option maxHeartbeats 4000000
theorem reach_ok {Φ:Fz} {K:List Res} {w:World} {p:Addr} {T:Table} {b off cap:Nat} {arr:Array Value} {start U:List Bs} (rT:RTableW Φ p T) (hq:QAt off cap arr start) (hl:start.length≤1000) (hU:∀x∈start,x∈U) (hUl:U.length≤2000000) (hM:∀x,(z2y T x).length≤6000) (hC:∀x,∀y∈z2y T x,y∈U) (hm:Mem Φ (qblk b arr::K) w) :
  Calls Tryz.prog 62 (List.toArray [.pointer (some p),qval b off cap start]) w (fun ee w'=>∃y:Nat×List Bs,ee=.returned (.map (some y.1))∧Reached T start y.2∧Mem Φ (.mp y.1 (z3c y.2)::K) w'):=by
 obtain ⟨z1,z2,z3,z4,m5,m6,m7,m8,d9,hat10,hfs11,ma12,mr13⟩:=rT.ex
 obtain ⟨p14,c15,rfl,hmx16,hn17⟩:=hfs11.fm
 refine z0l func62 ntmps62 fun Q hQ a he =>?_
 refine MkM he hm fun b20 w hm a he =>?_
 replace hm:=hm.nf
 refine go he hm fun a he =>?_
 refine z1i (he.ks [0,5]) hm (fun R mm a w=>∃(qb:Nat) (qo:Nat) (qc:Nat) (qa:Array Value) (l:List Bs) (ds:List Bs),mm=muR U ds l∧R Φ [(1,qval qb qo qc l)] [(0,.mp b20 (z3c ds)),(1,qblk qb qa)] a w∧(QAt qo qc qa l∧RInv T U start ds l)) (muR U [] start) ⟨b,off,cap,arr,start,[],rfl,⟨he.pk,hm⟩,⟨hq,RInv.start hU hl⟩⟩ ?_
 clear hm he
 rintro mm a w ⟨qb,qo,qc,qa,l,ds,hmu,⟨he,hm⟩,hI23⟩ L22 hL22
 replace hm:=hm.nf
 obtain ⟨hq_,hR_⟩:=hI23
 refine go he hm fun a he =>?_
 by_cases h26:0 < l.length
 refine go he hm fun a he =>?_
 obtain ⟨x28,hx29⟩:=z2d h26
 refine Qq he hm (fun a he =>?_) (o:=by exact fun _ _ _ he hs=>y_load_q 1 he hs hq_ rfl rfl hx29 isAgg9)
 refine go he hm fun a he =>?_
 have hq31:=hq_.tail h26
 refine Qq he hm (fun a he =>?_) (o:=by exact fun _ _ _ he hs=>y_slice_q he hq_ rfl rfl runUnderlying25 sizeOf9 h26)
 refine go he hm fun a he =>?_
 rcases hf34:mget ((z3c ds)) x28 with _ | vf35
 have hf34_:=congrArg (z0i false (.bool false)) hf34
 refine Qq he hm (fun a he =>?_) (o:=by exact fun _ _ _ he hs=>Ok.cast (z1c 0 runUnderlying121 runUnderlying9 zeroValue4 he hs rfl rfl rfl) (show z0i false (.bool false) (mget ((z3c ds)) x28)=.bool false from hf34_))
 refine go he hm fun a he =>?_
 have hnd_:=seen_not hf34
 refine MapU 0 runUnderlying121 runUnderlying9 he hm fun w hm a he =>?_
 rw [← seenM_snoc] at hm
 refine MkM he hm fun b38 w hm a he =>?_
 refine go he hm fun a he =>?_
 replace hm:=hm.nf
 refine go he hm fun a he =>?_
 rcases hf40:mget (d9) x28 with _ | vf41
 have hf40_:=congrArg (z0i false (.agg (List.toArray [.string ⟨#[]⟩,.slice none 0 0,.string ⟨#[]⟩,.int .i64 ((0:Nat):Int),.int .i64 ((0:Nat):Int),.string ⟨#[]⟩,.slice none 0 0,.slice none 0 0]))) hf40
 refine Qq he hm (fun a he =>?_) (o:=by exact fun _ _ _ he hs=>Ok.cast (z0o runUnderlying103 runUnderlying9 zeroValue68 he hs rfl rfl ma12) (show z0i false (.agg (List.toArray [.string ⟨#[]⟩,.slice none 0 0,.string ⟨#[]⟩,.int .i64 ((0:Nat):Int),.int .i64 ((0:Nat):Int),.string ⟨#[]⟩,.slice none 0 0,.slice none 0 0])) (mget (d9) x28)=.agg (List.toArray [.string ⟨#[]⟩,.slice none 0 0,.string ⟨#[]⟩,.int .i64 ((0:Nat):Int),.int .i64 ((0:Nat):Int),.string ⟨#[]⟩,.slice none 0 0,.slice none 0 0]) from hf40_))
 refine Qq he hm (fun a he =>?_) (o:=by exact fun _ _ _ he hs=>y_fieldA 3 (vs:=[.int .i64 ((0:Nat):Int),.int .i64 ((0:Nat):Int),.string ⟨#[]⟩,.slice none 0 0,.slice none 0 0]) runUnderlying68 rfl isAgg66 sizeOf66 he rfl rfl rfl)
 refine z0y call93 he hm (fun w hm a he =>?_) (c:=called_ok (ds:=[]) rex0 hm)
 refine go he hm fun a he =>?_
 have hcl_:z2y T x28=([]++z1r ex0):=by unfold z2y;rw [fbody_none (MapRel.none mr13 hf40)];rfl
 rw [← hcl_] at hm
 clear hcl_
 refine go he hm fun a he =>?_
 refine st he rfl rfl rfl (eff_range 0 runUnderlying121 he hm rfl rfl fun r43 es44 ck45 w hok46 hm a he =>?_)
 refine go he hm fun a he =>?_
 refine z1i (he.ks [0,5,34]) hm (fun R mm a w=>∃(seen:Array Nat) (qb2:Nat) (qo2:Nat) (qc2:Nat) (qa2:Array Value) (l2:List Bs),mm=(z5j es44 seen).length∧R Φ [(1,qval qb2 qo2 qc2 l2)] [(0,.blk r43 (.mapIter (some b38) ck45 seen ck45)),(3,qblk qb2 qa2)] a w∧(QAt qo2 qc2 qa2 l2∧RIn T x28 (l.drop 1) es44 seen l2)) ((z5j es44 #[]).length) ⟨#[],qb,(qoff qo qc),(qc - 1),qa,(l.drop 1),rfl,⟨he.pk,hm⟩,⟨hq31,RIn.start⟩⟩ ?_
 clear hm he
 rintro mm a w ⟨seen,qb2,qo2,qc2,qa2,l2,hmu,⟨he,hm⟩,hI48⟩ L47 hL47
 replace hm:=hm.nf
 obtain ⟨hq2_,hRi_⟩:=hI48
 refine go he hm fun a he =>?_
 refine st he rfl rfl rfl (eff_next 0 1 he hm rfl rfl rfl hok46 (fun hl50 w hm a he =>?_) (fun e51 w hl52 hm a he =>?_))
 refine go he hm fun a he =>?_
 replace hm:=hm.dl [1,0]
 refine hL22 (muR U ((ds++[x28])) l2) _ _ (by subst hmu;have h_:=(hR_.mark hx29 (not_has hnd_) hM hC hok46 hRi_ hl50).2;omega) ⟨(qb2),(qo2),(qc2),(qa2),(l2),((ds++[x28])),rfl,⟨he.pk,hm⟩,?_⟩
 exact ⟨hq2_,(hR_.mark hx29 (not_has hnd_) hM hC hok46 hRi_ hl50).1⟩
 refine go he hm fun a he =>?_
 obtain ⟨ky56,vl57,hk58,hv59,hmem60⟩:=entry_key hok46 (leftE_mem.1 hl52).1
 have hk58_:Value.tuple (List.toArray [e51.key,e51.val])=Value.tuple (List.toArray [.string ky56,e51.val]):=by rw [hk58]
 refine Qq he hm (fun a he =>?_) (o:=by exact fun _ _ _ he hs=>Ok.cast (y_entry (i:=0) (j:=1) he hs rfl rfl rfl hok46 hl52) hk58_)
 refine BldS he hm fun v61 w hm a he =>?_
 refine st he rfl rfl rfl (eff_append_q 4 (s:=ky56) z9k he hm hq2_ rfl rfl rfl (hm.toSees.rowIn (i:=0) rfl) (by have h1_:=hRi_.len;have h2_:=hR_.len;have h3_:=nodup_le hR_.nodup hR_.dU;have h4_:=es_size hok46 (hM _);have h5_:(l.drop 1).length≤l.length:=(by rw [List.length_drop];omega);omega) fun b62 off63 cap64 arr65 w hq66 hm a he =>?_)
 replace hm:=hm.nf
 refine go he hm fun a he =>?_
 replace hm:=hm.dl [0]
 refine hL47 ((z5j es44 ((seen.push e51.born))).length) _ _ (by subst hmu;exact leftE_lt hl52) ⟨((seen.push e51.born)),(b62),(off63),(cap64),(arr65),((l2++[ky56])),rfl,⟨he.pk,hm⟩,?_⟩
 exact ⟨hq66,hRi_.next hok46 hl52 hk58 hmem60⟩
 obtain ⟨y67,hy68,cs69,rfl,hr70⟩:=mr13.get hf40
 obtain ⟨s71,b77,rfl,h72,h78⟩:=id hr70
 obtain ⟨p73,c74,rfl,hm75,hn76⟩:=h72.fm
 obtain ⟨p81,c82,p87,c88,rfl,hi91,h80,h86,hm83,hn84,hm89,hn90⟩:=REx.fm h78
 have hf40_:=congrArg (z0i false (.agg (List.toArray [.string ⟨#[]⟩,.slice none 0 0,.string ⟨#[]⟩,.int .i64 ((0:Nat):Int),.int .i64 ((0:Nat):Int),.string ⟨#[]⟩,.slice none 0 0,.slice none 0 0]))) hf40
 refine Qq he hm (fun a he =>?_) (o:=by exact fun _ _ _ he hs=>Ok.cast (z0o runUnderlying103 runUnderlying9 zeroValue68 he hs rfl rfl ma12) (show z0i false (.agg (List.toArray [.string ⟨#[]⟩,.slice none 0 0,.string ⟨#[]⟩,.int .i64 ((0:Nat):Int),.int .i64 ((0:Nat):Int),.string ⟨#[]⟩,.slice none 0 0,.slice none 0 0])) (mget (d9) x28)=.agg (List.toArray [.string y67.name,.slice p73 y67.params.length c74,.string y67.result,.int .i64 (y67.body.kind),.int .i64 (y67.body.num),.string y67.body.name,.slice p81 y67.body.args.length c82,.slice p87 y67.body.arms.length c88]) from hf40_))
 refine Qq he hm (fun a he =>?_) (o:=by exact fun _ _ _ he hs=>y_fieldA 3 (vs:=[.int .i64 (y67.body.kind),.int .i64 (y67.body.num),.string y67.body.name,.slice p81 y67.body.args.length c82,.slice p87 y67.body.arms.length c88]) runUnderlying68 rfl isAgg66 sizeOf66 he rfl rfl rfl)
 refine z0y call93 he hm (fun w hm a he =>?_) (c:=called_ok (ds:=[]) h78 hm)
 refine go he hm fun a he =>?_
 have hcl_:z2y T x28=([]++z1r y67.body):=by unfold z2y;rw [z9u hy68];rfl
 rw [← hcl_] at hm
 clear hcl_
 refine go he hm fun a he =>?_
 refine st he rfl rfl rfl (eff_range 0 runUnderlying121 he hm rfl rfl fun r93 es94 ck95 w hok96 hm a he =>?_)
 refine go he hm fun a he =>?_
 refine z1i (he.ks [0,5,34]) hm (fun R mm a w=>∃(seen:Array Nat) (qb2:Nat) (qo2:Nat) (qc2:Nat) (qa2:Array Value) (l2:List Bs),mm=(z5j es94 seen).length∧R Φ [(1,qval qb2 qo2 qc2 l2)] [(0,.blk r93 (.mapIter (some b38) ck95 seen ck95)),(3,qblk qb2 qa2)] a w∧(QAt qo2 qc2 qa2 l2∧RIn T x28 (l.drop 1) es94 seen l2)) ((z5j es94 #[]).length) ⟨#[],qb,(qoff qo qc),(qc - 1),qa,(l.drop 1),rfl,⟨he.pk,hm⟩,⟨hq31,RIn.start⟩⟩ ?_
 clear hm he
 rintro mm a w ⟨seen,qb2,qo2,qc2,qa2,l2,hmu,⟨he,hm⟩,hI98⟩ L97 hL97
 replace hm:=hm.nf
 obtain ⟨hq2_,hRi_⟩:=hI98
 refine go he hm fun a he =>?_
 refine st he rfl rfl rfl (eff_next 0 1 he hm rfl rfl rfl hok96 (fun hl100 w hm a he =>?_) (fun e101 w hl102 hm a he =>?_))
 refine go he hm fun a he =>?_
 replace hm:=hm.dl [1,0]
 refine hL22 (muR U ((ds++[x28])) l2) _ _ (by subst hmu;have h_:=(hR_.mark hx29 (not_has hnd_) hM hC hok96 hRi_ hl100).2;omega) ⟨(qb2),(qo2),(qc2),(qa2),(l2),((ds++[x28])),rfl,⟨he.pk,hm⟩,?_⟩
 exact ⟨hq2_,(hR_.mark hx29 (not_has hnd_) hM hC hok96 hRi_ hl100).1⟩
 refine go he hm fun a he =>?_
 obtain ⟨ky106,vl107,hk108,hv109,hmem110⟩:=entry_key hok96 (leftE_mem.1 hl102).1
 have hk108_:Value.tuple (List.toArray [e101.key,e101.val])=Value.tuple (List.toArray [.string ky106,e101.val]):=by rw [hk108]
 refine Qq he hm (fun a he =>?_) (o:=by exact fun _ _ _ he hs=>Ok.cast (y_entry (i:=0) (j:=1) he hs rfl rfl rfl hok96 hl102) hk108_)
 refine BldS he hm fun v111 w hm a he =>?_
 refine st he rfl rfl rfl (eff_append_q 4 (s:=ky106) z9k he hm hq2_ rfl rfl rfl (hm.toSees.rowIn (i:=0) rfl) (by have h1_:=hRi_.len;have h2_:=hR_.len;have h3_:=nodup_le hR_.nodup hR_.dU;have h4_:=es_size hok96 (hM _);have h5_:(l.drop 1).length≤l.length:=(by rw [List.length_drop];omega);omega) fun b112 off113 cap114 arr115 w hq116 hm a he =>?_)
 replace hm:=hm.nf
 refine go he hm fun a he =>?_
 replace hm:=hm.dl [0]
 refine hL97 ((z5j es94 ((seen.push e101.born))).length) _ _ (by subst hmu;exact leftE_lt hl102) ⟨((seen.push e101.born)),(b112),(off113),(cap114),(arr115),((l2++[ky106])),rfl,⟨he.pk,hm⟩,?_⟩
 exact ⟨hq116,hRi_.next hok96 hl102 hk108 hmem110⟩
 obtain ⟨rfl,hs117⟩:=seen_val hf34
 have hf34_:=congrArg (z0i false (.bool false)) hf34
 refine Qq he hm (fun a he =>?_) (o:=by exact fun _ _ _ he hs=>Ok.cast (z1c 0 runUnderlying121 runUnderlying9 zeroValue4 he hs rfl rfl rfl) (show z0i false (.bool false) (mget ((z3c ds)) x28)=.bool true from hf34_))
 refine go he hm fun a he =>?_
 refine hL22 (muR U ds ((l.drop 1))) _ _ (by subst hmu;have h_:=(hR_.skip hx29 (has_mem.1 hs117)).2;omega) ⟨(qb),((qoff qo qc)),((qc - 1)),(qa),((l.drop 1)),(ds),rfl,⟨he.pk,hm⟩,?_⟩
 exact ⟨hq31,(hR_.skip hx29 (has_mem.1 hs117)).1⟩
 refine go he hm fun a he =>?_
 replace hm:=hm.dl [1]
 refine Ret1 hQ he hm ?_
 have e_:l=[]:=List.eq_nil_of_length_eq_zero (by omega)
 subst e_
 exact ⟨(b20,ds),rfl,hR_.fin,hm⟩
end Go.Sw

namespace Go.Sw
open Go.Proofs.Tryz
open Go.Proofs
set_option maxRecDepth 20000
set_option maxHeartbeats 4000000
variable {Φ:Fz} {K:List Res} {w:World}
theorem call1_ok {pt:Addr} {T:Table} {d0:List Value} {v:Val} {d1:List Value} {p:Param} {b:Nat} (rpv:RVal Φ d0 v) (rpp:RParam Φ d1 p) (rT:RTable Φ pt T) (hm:Mem Φ (.blk b (ob [.pointer (some pt)] 89)::K) w) :
  Calls Tryz.prog 60 (List.toArray [.agg d0.toArray,.agg d1.toArray,.pointer (some ⟨b,0,none⟩)]) w (fun ee w'=>ee=.returned (.bool ((!z6e v&&hasP T v p.type)))∧Mem Φ (.blk b (ob [.pointer (some pt)] 89)::K) w'):=by
 obtain ⟨p3,c4,rfl,hi7,h2,hm5,hn6⟩:=RVal.fm rpv
 obtain rfl:=id rpp
 refine z0l func60 ntmps60 fun Q hQ a he =>?_
 refine Bx he hm fun b9 w hm a he =>?_
 refine Bx he hm fun b10 w hm a he =>?_
 refine z1n call50 he hm (fun hB12 w hm a he =>?_) (fun hB12 w hm a he =>?_) (c:=large_ok rpv hm)
 refine go he hm fun a he =>?_
 replace hm:=hm.dl [1,0]
 refine Ret1 hQ he hm ?_
 exact z0v hm (by simp [*])
 refine z0y call61 he hm (fun w hm a he =>?_) (c:=has_ok rT rpv hm)
 refine go he hm fun a he =>?_
 replace hm:=hm.dl [1,0]
 refine Ret1 hQ he hm ?_
 exact z0v hm (by simp [*])
theorem call2_ok {p:Addr} {T:Table} {df:List Value} {f:Fun} {va:Value} {args:List Val} {fu b0 b1 b2 b3 b4 b5:Nat} (rpT:RTable Φ p T) (rf:RFun Φ df f) (rs:SliceOf RVal Φ 3 va args) (hF:FunsOk T) (hpl:f.params.length≤1000) (hsb:Short f.body) (hfu:fu≤1000000) (hns:∀g,z5e (z2g ⟨T.funs,[]⟩) f args g≠.stuck) (hm:Mem Φ (.blk b0 (ob [.int .i64 ((1:Nat):Int)] 3)::.blk b1 (ob [.int .i64 ((fu:Nat):Int)] 3)::.blk b2 (ob [.pointer (some p)] 89)::.blk b3 (ob df 68)::.blk b4 (ob [va] 38)::.blk b5 (ob [.string ⟨#[]⟩,.int .i64 ((0:Nat):Int),.slice none 0 0] 42)::K) w) :
  Calls Tryz.prog 64 (List.toArray [.pointer (some ⟨b0,0,none⟩),.pointer (some ⟨b1,0,none⟩),.pointer (some ⟨b2,0,none⟩),.pointer (some ⟨b3,0,none⟩),.pointer (some ⟨b4,0,none⟩),.pointer (some ⟨b5,0,none⟩)]) w (fun e w'=>Out (z5d (z5e (z2g ⟨T.funs,[]⟩) f args) fu)
   (fun x=>∃y:Fz×List Value,e=.returned (.int .i64 ((0:Nat):Int))∧(Φ.Le y.1∧RVal y.1 y.2 x.1)∧Mem y.1 (.blk b0 (ob [.int .i64 ((fu - x.2:Nat):Int)] 3)::.blk b5 (ob y.2 42)::K) w')
   (fun c=>(e=.returned (.int .i64 ((c:Nat):Int))∨c=4∧e=.panicked (spentC ()))∧Mem Φ K w')):=by
 obtain ⟨s1,b7,rfl,h2,h8⟩:=id rf
 obtain ⟨p3,c4,rfl,hm5,hn6⟩:=h2.fm
 obtain ⟨p11,c12,p17,c18,rfl,hi21,h10,h16,hm13,hn14,hm19,hn20⟩:=REx.fm h8
 obtain ⟨pa_,ca_,rfl,hma_,hna_⟩:=rs.fm
 refine z0l func64 ntmps64 fun Q hQ a he =>?_
 refine go he hm fun a he =>?_
 by_cases h25:fu < 1
 refine go he hm fun a he =>?_
 replace hm:=hm.dl [5,4,3,2,1,0]
 refine Ret1 hQ he hm ?_
 exact outEE (callEnd_zero h25) ⟨.inl rfl,hm⟩
 refine go he hm fun a he =>?_
 replace hm:Mem Φ (.blk b0 (ob [.int .i64 ((fu - (fu - 1):Nat):Int)] 3)::.blk b1 (ob [.int .i64 ((fu:Nat):Int)] 3)::.blk b2 (ob [.pointer (some p)] 89)::.blk b3 (ob [.string f.name,.slice p3 f.params.length c4,.string f.result,.int .i64 (f.body.kind),.int .i64 (f.body.num),.string f.body.name,.slice p11 f.body.args.length c12,.slice p17 f.body.arms.length c18] 68)::.blk b4 (ob [.slice pa_ args.length ca_] 38)::.blk b5 (ob [.string ⟨#[]⟩,.int .i64 ((0:Nat):Int),.slice none 0 0] 42)::K) w:=by rw [show fu - (fu - 1)=1 by omega];exact hm
 refine z1h he hm fun a he =>?_
 refine z4u hQ call48 he hm (fun q28 y29 w hq30 hG31 hm a he =>?_) (fun q28 w hq30 hm =>?_) (c:=call_all hF (fu - 1) rpT (.inr ⟨rfl,rfl⟩) rf rs hpl hsb (by omega) (by omega) (hns _) hm)
 obtain ⟨z32,g33⟩:=q28
 obtain ⟨Ψ34,d35⟩:=y29
 obtain ⟨le36,hr37⟩:=hG31
 have hv38:=z6b hq30
 simp only at le36 hr37 hm he hv38
 have hlt39:=z9i hv38
 replace rf:=RFun.mono _ _ _ _ le36 rf
 replace h8:=REx.mono _ _ _ _ le36 h8
 replace hm:=hm.nf
 obtain ⟨p42,c43,rfl,hi46,h41,hm44,hn45⟩:=RVal.fm hr37
 refine Alc he hm fun b47 w hm a he =>?_
 refine Sto 0 he hm fun w hm a he =>?_
 refine z1n call50 he hm (fun hB50 w hm a he =>?_) (fun hB50 w hm a he =>?_) (c:=large_ok hr37 hm)
 refine go he hm fun a he =>?_
 replace hm:=hm.dl [6,5,4,3,2,1,0]
 refine Ret1 hQ he hm ?_
 exact outEE (callEnd_large h25 hv38 hB50) ⟨.inl rfl,hm.le (le36)⟩
 refine go he hm fun a he =>?_
 have hbig_:=hB50
 refine z2i call51 he hm (fun y53 w hG54 hm a he =>?_) (c:=own_ok (small_of hbig_) hr37 hm)
 obtain ⟨Ψ55,d56⟩:=y53
 obtain ⟨le57,hr58⟩:=hG54
 simp only at le57 hr58 hm he
 replace rf:=RFun.mono _ _ _ _ le57 rf
 replace h8:=REx.mono _ _ _ _ le57 h8
 replace hr37:=RVal.mono _ _ _ _ le57 hr37
 replace hm:=hm.nf
 obtain ⟨p61,c62,rfl,hi65,h60,hm63,hn64⟩:=RVal.fm hr58
 refine Sto 6 he hm fun w hm a he =>?_
 refine go he hm fun a he =>?_
 replace hm:=hm.dl [5,4,3,2,0]
 refine Ret1 hQ he hm ?_
 exact outE (callEnd_ok h25 hv38 hbig_) ⟨(Ψ55,_),rfl,⟨(le36).trans le57,hr58⟩,hm⟩
 have hsp67:=z3x hq30 (hns _)
 replace hm:=hm.dl [5,4,3,2,1,0]
 exact outEE (callEnd_spent h25 hsp67) ⟨.inr ⟨rfl,rfl⟩,hm.le (Fz.Le.refl _)⟩
theorem call_within {p:Addr} {T:Table} {df:List Value} {f:Fun} {va:Value} {args:List Val} {fu b0 b1 b2 b3 b4 b5:Nat} (rpT:RTable Φ p T) (rf:RFun Φ df f) (rs:SliceOf RVal Φ 3 va args) (hF:FunsOk T) (hpl:f.params.length≤1000) (hsb:Short f.body) (hfu:fu≤1000000) (hns:∀g,z5e (z2g ⟨T.funs,[]⟩) f args g≠.stuck) (hm:Mem Φ (.blk b0 (ob [.int .i64 ((1:Nat):Int)] 3)::.blk b1 (ob [.int .i64 ((fu:Nat):Int)] 3)::.blk b2 (ob [.pointer (some p)] 89)::.blk b3 (ob df 68)::.blk b4 (ob [va] 38)::.blk b5 (ob [.string ⟨#[]⟩,.int .i64 ((0:Nat):Int),.slice none 0 0] 42)::K) w) :
  Calls Tryz.prog 45 (List.toArray [.func (.func 64) (List.toArray []) (List.toArray [.pointer (some ⟨b0,0,none⟩),.pointer (some ⟨b1,0,none⟩),.pointer (some ⟨b2,0,none⟩),.pointer (some ⟨b3,0,none⟩),.pointer (some ⟨b4,0,none⟩),.pointer (some ⟨b5,0,none⟩)])]) w (fun e w'=>Out (z5d (z5e (z2g ⟨T.funs,[]⟩) f args) fu)
   (fun x=>∃y:Fz×List Value,e=.returned (.int .i64 ((0:Nat):Int))∧(Φ.Le y.1∧RVal y.1 y.2 x.1)∧Mem y.1 (.blk b0 (ob [.int .i64 ((fu - x.2:Nat):Int)] 3)::.blk b5 (ob y.2 42)::K) w')
   (fun c=>e=.returned (.int .i64 ((c:Nat):Int))∧Mem Φ K w')):=by
 refine within_ok (α:=Val×Nat) (β:=Fz×List Value) (F:=fun _ y=>y.1) (KO:=fun x y=>.blk b0 (ob [.int .i64 ((fu - x.2:Nat):Int)] 3)::.blk b5 (ob y.2 42)::K)
  (G:=fun (x:Val×Nat) y=>Φ.Le y.1∧RVal y.1 y.2 x.1) call64 (fun b w hm =>?_) hm
 have hm:=(((((hm.pull (i:=6) rfl).pull (i:=6) rfl).pull (i:=6) rfl).pull (i:=6) rfl).pull (i:=6) rfl).pull (i:=6) rfl
 refine (call2_ok (K:=.blk b (ob [.int .i64 ((0:Nat):Int)] 31)::K) rpT rf rs hF hpl hsb hfu hns hm).mono fun e w' h =>?_
 cases hr:z5d (z5e (z2g ⟨T.funs,[]⟩) f args) fu with
 | ok x =>
  rw [hr] at h
  obtain ⟨y,h1,h2,h3⟩:=h
  exact ⟨y,h1,h2,h3.pull (i:=2) rfl⟩
 | error c' =>
  rw [hr] at h
  exact h
end Go.Sw

namespace Go.Sw
open Go.Proofs
def CallSafe (c:Core) (name:Bs) (args:List Val):Prop:=∀f,lget (z0f c).funs name=some f→givenA (z0f c) args f.params=true→¬z5p (z0f c) name→∀g,z5e (z2g ⟨(z0f c).funs,[]⟩) f args g≠.stuck
section
variable {c:Core} {name:Bs} {args:List Val} {fuel:Int}
theorem callAll_look (h:z1g c≠0):z1f c name args fuel=(v0,0,z1g c):=by simp only [z1f,if_pos h]
theorem z8y (h:z1g c=0) (hf:fuel < 0∨200000 < fuel):z1f c name args fuel=(v0,0,1):=by simp only [z1f,if_neg (not_not_intro h),if_pos hf]
theorem callAll_none (h:z1g c=0) (hf:¬(fuel < 0∨200000 < fuel)) (hn:lget (z0f c).funs name=none):z1f c name args fuel=(v0,0,3):=by
 simp only [z1f,if_neg (not_not_intro h),if_neg hf,hn]
theorem callAll_given {f:Fun} (h:z1g c=0) (hf:¬(fuel < 0∨200000 < fuel)) (hn:lget (z0f c).funs name=some f) (hg:givenA (z0f c) args f.params=false):z1f c name args fuel=(v0,0,8):=by
 simp only [z1f,if_neg (not_not_intro h),if_neg hf,hn,if_pos hg]
theorem callAll_reads {f:Fun} (h:z1g c=0) (hf:¬(fuel < 0∨200000 < fuel)) (hn:lget (z0f c).funs name=some f) (hg:givenA (z0f c) args f.params=true) (hr:z5p (z0f c) name):z1f c name args fuel=(v0,0,8):=by
 simp only [z1f,if_neg (not_not_intro h),if_neg hf,hn,hg,if_pos hr];rfl
theorem callAll_end {f:Fun} (h:z1g c=0) (hf:¬(fuel < 0∨200000 < fuel)) (hn:lget (z0f c).funs name=some f) (hg:givenA (z0f c) args f.params=true) (hr:¬z5p (z0f c) name):z1f c name args fuel=(match z5d (z5e (z2g ⟨(z0f c).funs,[]⟩) f args) fuel.toNat with
    | .ok (v,g)=>(v,((fuel.toNat - g:Nat):Int),0)
    | .error e=>(v0,0,((e:Nat):Int))):=by
 simp only [z1f,if_neg (not_not_intro h),if_neg hf,hn,hg,if_neg hr];rfl
end
end Go.Sw
