import Derived.Laws.IdiomRangeMap
import Derived.Test.YtgkhcfjooiekkaaGreatDoorX09
set_option linter.unusedVariables false
set_option linter.unusedSimpArgs false
namespace Go.Sw
def vF (es:Array MapEntry) (seen:Array Nat):List MapEntry:=es.toList.filter fun e=> !seen.contains e.born
theorem z7p (es:Array MapEntry):vF es #[]=es.toList:=by simp [vF]
theorem leftE_mem {es:Array MapEntry} {seen:Array Nat} {e:MapEntry}:e∈vF es seen↔e∈es.toList/\e.born∉seen:=by simp [vF]
theorem leftE_push {es:Array MapEntry} {seen:Array Nat} {e x:MapEntry}:x∈vF es (seen.push e.born)↔x∈vF es seen/\x.born≠e.born:=by
 simp only [leftE_mem,Array.mem_push,not_or,and_assoc]
theorem z1c {es:Array MapEntry} {seen:Array Nat} {e:MapEntry} (h:e∈vF es seen):(vF es (seen.push e.born)).length < (vF es seen).length :=
 filter_lt (fun x:MapEntry=> !seen.contains x.born) (fun x:MapEntry=> !(seen.push e.born).contains x.born) (fun x a=>by simp at a ⊢;exact a.1) e (by have:=(leftE_mem.1 h).2;simpa using this) (by simp) es.toList (leftE_mem.1 h).1
section
variable {P:Program} {n:Nat} {E:List (Nat×Value)} {D:List Deferred} {a:Act} {V:Fz} {K:List Res} {w:World}
variable {Kn:Value->World->Prop} {Qp:List PanicEntry->World->Prop} {dst:Option Tmp} {ty:TypeId} {pos:String} {aft:Array Edge} {g:Option (Nat×Bool)}
theorem z7c (i:Nat) {t kt et:TypeId} {x:Operand} {b:Nat} {m:List (Bs×Value)} (f:Under P t (.map kt et)) (J:EnvR n E D a) (N:Mem V K w) (h:ev E x=some (.map (some b))) (e:qJ K i=some (.mp b m))
  (k:∀r es clock w',MapOk es clock m->Mem V (.blk r (.mapIter (some b) clock #[] clock)::wD K i (.blk b (.map es clock))) w'->Kn (.pointer (some ⟨r,0,none⟩)) w'):Oper.eff P ⟨dst,.range t x,ty,pos,aft,g⟩ a w Kn Qp:=by
 obtain ⟨es,clock,hb,d⟩:=N.own _ (yN e)
 have h1:(getObj b).run P w=.ok (.map es clock) w:=by simp [getObj,Sem.run,hb]
 have c:Mem V (wD K i (.blk b (.map es clock))) w:=N.upd e rfl rfl (fun _ _ _=>rfl) hb (.inl rfl)
 unfold Oper.eff
 have:(execOp a.eval ⟨dst,.range t x,ty,pos,aft,g⟩).run P w=.ok (.value (.pointer (some ⟨w.heap.size,0,none⟩))) { w with heap:=w.heap.push (.mapIter (some b) clock #[] clock) }:=by
  simp only [execOp,J.ev h,Instr.range,Sem.run_bind,f w,Result.andThen_ok,h1]
  simp [newObj,Sem.run,Sem.run_bind,Result.andThen]
 rw [this]
 exact k _ _ _ _ d (c.push _)
theorem y2d (i j:Nat) {x:Operand} {r b clock:Nat} {es:Array MapEntry} {seen:Array Nat} {m:List (Bs×Value)} (J:EnvR n E D a) (N:Mem V K w) (s:ev E x=some (.pointer (some ⟨r,0,none⟩)))
  (C:qJ K i=some (.blk r (.mapIter (some b) clock seen clock))) (H:qJ K j=some (.blk b (.map es clock))) (u:MapOk es clock m)
  (I:vF es seen=[]->∀w',Mem V K w'->Kn (.tuple #[.bool false]) w')
  (M:∀e w',e∈vF es seen->Mem V (wD K i (.blk r (.mapIter (some b) clock (seen.push e.born) clock))) w'->Kn (.tuple #[.bool true,e.key,e.val]) w') :
  Oper.eff P ⟨dst,.next x false,ty,pos,aft,g⟩ a w Kn Qp:=by
 have hr:w.heap[r]? = some (.mapIter (some b) clock seen clock):=N.own _ (yN C)
 have hb:w.heap[b]? = some (.map es clock):=N.own _ (yN H)
 have p:(!seen.isEmpty && !es.isEmpty&&es.all (fun x=>decide (x.born≥clock)))=false:=next_test_false seen es clock clock u.old (Nat.le_refl _)
 have f:∀e∈es.toList,e.born < clock:=u.old
 have G:((es.filter fun e=> !seen.contains e.born).filter (fun x=>decide (x.born < clock)))=es.filter fun e=> !seen.contains e.born :=
  Array.filter_eq_self.2 (fun x s=>by
   have:=f x (by simp at s ⊢;exact s.1)
   simpa using this)
 have e2:((es.filter fun e=> !seen.contains e.born).filter (fun x=>decide (x.born≥clock)))=#[]:=by
  rw [Array.filter_eq_empty_iff]
  intro x s
  have:=f x (by simp at s ⊢;exact s.1)
  simp only [ge_iff_le,decide_eq_true_eq,Nat.not_le];omega
 have d:vF es seen=(es.filter fun e=> !seen.contains e.born).toList:=by simp [vF]
 unfold Oper.eff
 simp only [execOp,J.ev s,Instr.next,getObj,Sem.run_bind,Sem.run,hr,hb,Result.andThen,p,Bool.false_eq_true,if_false,G,e2,Array.append_empty]
 generalize Q:(es.filter fun e=> !seen.contains e.born)=L at *
 by_cases B:L.size=0
 ·have:L=#[]:=Array.eq_empty_of_size_eq_zero B
  subst this
  simp only [Array.isEmpty,Array.size_empty,decide_true,if_true]
  simp only [choose,Sem.run,Question.forced]
  simp
  exact I (by rw [d]) _ N
 ·have l:L.isEmpty=false:=by simp [Array.isEmpty,B]
  simp only [l,Bool.false_eq_true,if_false,Array.empty_append,Array.size_map]
  have hch:∃(q:Nat) (k:World),q < L.size/\Mem V K k/\k.heap=w.heap/\(choose (Question.mapNext L.size)).run P w=.ok q k:=by
   by_cases F:L.size<=1
   ·exact ⟨0,w,by omega,N,rfl,by simp [choose,Sem.run,Question.forced,F]⟩
   ·exact ⟨_,w.drew,Nat.mod_lt _ (by omega),N.drew,rfl,by
     simp only [choose,Sem.run,Question.forced,decide_eq_true_eq,F,if_false,Question.cut]
     rfl⟩
  obtain ⟨q,k,hq,A,y,v⟩:=hch
  have h:∀o,(setObj r o).run P k=.ok () { k with heap:=k.heap.setIfInBounds r o }:=fun o=>by simp only [setObj,Sem.run,y,hr]
  have z:r < k.heap.size:=by rw [y];exact (Array.getElem?_eq_some_iff.1 hr).1
  have t:L[q]∈vF es seen:=by rw [d];simp
  have hrun':=v
  simp only [hrun',Sem.run_bind,Result.andThen,Array.getElem?_map,Array.getElem?_eq_getElem hq,Option.map_some,h,Sem.run_pure]
  simp [Sem.run_bind,h,Result.andThen,pO]
  refine M _ _ t (A.upd C rfl rfl (fun c R l=>?_) ?_ (.inl rfl))
  ·simp only;rw [Array.getElem?_setIfInBounds_ne (fun e=>l (by simp [Res.foot,e]))]
  ·simp [Res.sat,z]
theorem q3e {x:Operand} {i j:Nat} {r b clock:Nat} {es:Array MapEntry} {seen:Array Nat} {m:List (Bs×Value)} {e:MapEntry} (J:EnvR n E D a) (N:Sees V K w) (h:ev E x=some (.pointer (some ⟨r,0,none⟩)))
  (f:qJ K i=some (.blk r (.mapIter (some b) clock (seen.push e.born) clock))) (d:qJ K j=some (.blk b (.map es clock))) (c:MapOk es clock m) (hl:e∈vF es seen) :
  Ok P a (.entry x) ty w (.tuple #[e.key,e.val]):=fun _ _ _ _=>by
 have hr:w.heap[r]? = some (.mapIter (some b) clock (seen.push e.born) clock):=N.own _ (yN f)
 have hb:w.heap[b]? = some (.map es clock):=N.own _ (yN d)
 have g:es.find? (·.born==e.born)=some e:=by rw [<- Array.find?_toList];exact find_born e es.toList c.nodup (leftE_mem.1 hl).1
 simp only [execOp,J.ev h,Instr.entry,getObj,Sem.run_bind,Sem.run,hr,hb,Result.andThen,Array.back?_push,bne_self_eq_false,Bool.false_eq_true,if_false,g]
 rfl
theorem z7f {es:Array MapEntry} {clock:Nat} {m:List (Bs×Value)} {e:MapEntry} (b:MapOk es clock m) (h:e∈es.toList):∃s v,e.key=.string s/\e.val=v/\(s,v)∈m:=by
 have h1:(e.key,e.val)∈m.map (fun p=>(Value.string p.1,p.2)):=by rw [<- b.eq];exact List.mem_map.2 ⟨e,h,rfl⟩
 obtain ⟨p,c,a⟩:=List.mem_map.1 h1
 simp only [Prod.mk.injEq] at a
 exact ⟨p.1,p.2,a.1.symm,a.2.symm,c⟩
theorem y9m {es:Array MapEntry} {clock:Nat} {m:List (Bs×Value)} {s:Bs} {v:Value} (a:MapOk es clock m) (h:(s,v)∈m):∃e∈es.toList,e.key=.string s:=by
 have h1:(Value.string s,v)∈es.toList.map (fun e=>(e.key,e.val)):=by rw [a.eq];exact List.mem_map.2 ⟨(s,v),h,rfl⟩
 obtain ⟨e,J,b⟩:=List.mem_map.1 h1
 simp only [Prod.mk.injEq] at b
 exact ⟨e,J,b.1⟩
end
end Go.Sw

namespace Go.Sw
structure QAt (off cap:Nat) (arr:Array Value) (l:List Bs):Prop where
 room:off+cap<=arr.size
 fits:l.length<=cap
 max:cap<=maxLen
 cells:∀(j:Nat) s,l[j]? = some s->arr[off+j]? = some (.string s)
abbrev qblk (b:Nat) (arr:Array Value):Res:=.blk b (.cells arr 9 (0,0))
abbrev qval (b off cap:Nat) (l:List Bs):Value:=.slice (some ⟨b,off,none⟩) l.length cap
def y4g (off cap:Nat):Nat:=if cap=1 then off else off+1
theorem QAt.tail {off cap:Nat} {arr:Array Value} {l:List Bs} (h:QAt off cap arr l) (c:0 < l.length):QAt (y4g off cap) (cap - 1) arr (l.drop 1):=by
 have:=h.fits;have:=h.room;have:=h.max
 refine ⟨?_,?_,by omega,fun j s a=>?_⟩
 ·unfold y4g;split <;> omega
 ·rw [List.length_drop];omega
 ·rw [List.getElem?_drop] at a
  have h1:=h.cells _ _ a
  have b:=(List.getElem?_eq_some_iff.1 a).1
  unfold y4g
  rw [if_neg (by omega)]
  rw [show off+1+j=off+(1+j) by omega];exact h1
theorem q1a (b off j:Nat):(⟨b,off,none⟩:Addr).add j=⟨b,off+j,none⟩:=by
 unfold Addr.add;split <;> simp_all
section
variable {P:Program} {n:Nat} {E:List (Nat×Value)} {D:List Deferred} {a:Act} {V:Fz} {K:List Res} {w:World} {ty:TypeId}
theorem x5e (i:Nat) {x:Operand} {b off cap:Nat} {arr:Array Value} {l:List Bs} {T:TypeId} {s:Bs} (J:EnvR n E D a) (N:Sees V K w) (hq:QAt off cap arr l) (c:ev E x=some (.pointer (some ((⟨b,off,none⟩:Addr).add (0 * 1)))))
  (g:qJ K i=some (qblk b arr)) (O:l[0]? = some s) (f:Scalar P T):Ok P a (.load T x) ty w (.string s):=fun _ _ _ _=>by
 have h1:w.heap[b]? = some (.cells arr 9 (0,0)):=N.own _ (yN g)
 have d:w.cell? ⟨b,off,none⟩=some (.string s):=by simp [World.cell?,h1];exact hq.cells 0 s O
 have e:((⟨b,off,none⟩:Addr).add (0 * 1))=⟨b,off,none⟩:=by simp [Addr.add]
 rw [e] at c
 simp only [execOp,J.ev c]
 simp [Instr.loadAt,Instr.sureAddr,loadVar,Sem.run_bind,f w,Result.andThen,load,Sem.run,d]
theorem z8f {x lo:Operand} {t e:TypeId} {b off cap:Nat} {arr:Array Value} {l:List Bs} (J:EnvR n E D a) (hq:QAt off cap arr l) (i:ev E x=some (qval b off cap l)) (c:ev E lo=some (.int .i64 ((1:Nat):Int)))
  (g:Under P t (.slice e)) (O:SizeT P e 1) (j:0 < l.length):Ok P a (.slice t x (some lo) none none) ty w (qval b (y4g off cap) (cap - 1) (l.drop 1)):=fun _ _ _ _=>by
 have f:=hq.fits
 have h1:(1:Nat)<=cap:=by omega
 have d:(1:Int)<=(l.length:Int):=by omega
 have h:(if cap=1 then some (⟨b,off,none⟩:Addr) else some (Addr.add ⟨b,off,none⟩ 1))=some ⟨b,y4g off cap,none⟩:=by
  unfold y4g;split <;> simp [Addr.add]
 simp only [execOp,J.ev i,Option.map_some,Option.map_none,J.ev c,Instr.sliceAt]
 simp [Sem.run_bind,g w,O w,Instr.slice,Instr.sliceBounds,Instr.sliceBound,asIntOf,d,f,h1,Result.andThen,qval,h]
theorem z4t (i:Nat) {dst:Option Tmp} {pos:String} {aft:Array Edge} {g:Option (Nat×Bool)} {Kn:Value->World->Prop} {Qp:List PanicEntry->World->Prop} {x y:Operand} {t bytes:TypeId} {b off cap:Nat} {arr:Array Value} {l:List Bs} {v:Value} {s:Bs} (H:RowT P t 9 1 bytes) (J:EnvR n E D a) (N:Mem V K w) (hq:QAt off cap arr l)
  (hx:ev E x=some (qval b off cap l)) (S:qJ K i=some (qblk b arr)) (hy:ev E y=some v) (hr:y7k w v 1 [.string s]) (hb:(l.length+1) * bytes<=140737488355328)
  (k:∀b' off' cap' arr' w',QAt off' cap' arr' (l++[s])->Mem V (wD K i (qblk b' arr')) w'->Kn (qval b' off' cap' (l++[s])) w') :
  Oper.eff P ⟨dst,.call { callee:=.builtin .append,args:=#[x,y],argTypes:=#[t,t] },ty,pos,aft,g⟩ a w Kn Qp:=by
 obtain ⟨inf,z,W,hz,r,I,U⟩:=H.info
 have L:w.heap[b]? = some (.cells arr 9 (0,0)):=N.own _ (yN S)
 have p:∀v' w',(Builtin.append_ #[t,t] ty #[qval b off cap l,v]).run P w=.ok v' w'->Kn v' w' ->
   Oper.eff P ⟨dst,.call { callee:=.builtin .append,args:=#[x,y],argTypes:=#[t,t] },ty,pos,aft,g⟩ a w Kn Qp:=by
  intro v' w' o Y
  unfold Oper.eff
  have:(execOp a.eval ⟨dst,.call { callee:=.builtin .append,args:=#[x,y],argTypes:=#[t,t] },ty,pos,aft,g⟩).run P w=.ok (.value v') w':=by
   simp only [execOp,resolve,invoke,builtin,Sem.run_bind,Sem.run_pure,Result.andThen_ok,List.map_toArray,List.map_cons,List.map_nil,J.ev hx,J.ev hy,o]
  rw [this]
  exact Y
 rcases hr with ⟨_,h⟩ | ⟨q,m',c,rfl,hl,B⟩
 ·cases h
 have T:m'=1:=by simpa using hl.symm
 subst T
 have Z:l.length+1<=140737488355328:=Nat.le_trans (Nat.le_mul_of_pos_right _ H.bpos) hb
 have hroom':=hq.room
 have d:(l++[s]).length=l.length+1:=by simp
 by_cases m:l.length+1<=cap
 ·have G:=run_storeCells_at P b (off+l.length) 9 [.string s] 0 arr w L (by simp only [lcQ,lnQ];omega) (by simp [Value.oneCell'])
  have hf:=run_firstCells_some (P:=P) w 1 1 q 1 c [.string s] (by simp) B
  have o:(Builtin.append_ #[t,t] ty #[qval b off cap l,.slice (some q) 1 c]).run P w=.ok (qval b off cap (l++[s])) (w.setRow b (arr.toList.take (off+l.length)++[Value.string s]++arr.toList.drop (off+l.length+1)).toArray):=by
   simp only [Nat.add_zero,lcQ,lnQ,Nat.zero_add] at G
   simp [Builtin.append_,run_underlying H.under,sizeOf,typeInfo,W,r,Builtin.lenOf,m,hf,q1a,qval,G]
  refine p _ _ o (k b off cap _ _ ⟨?_,?_,hq.max,?_⟩ (N.upd S rfl rfl (fun c C F=>setRow_other w b c _ (fun e=>F (by simp [Res.foot,e]))) (setRow_heap w b _ _ 9 _ L) (.inl rfl)))
  ·simp;omega
  ·rw [d];exact m
  ·intro j u f
   have Q:j < l.length+1:=by rw [<- d];exact (List.getElem?_eq_some_iff.1 f).1
   have A:off+l.length < arr.size:=by omega
   simp only [List.getElem?_toArray]
   by_cases R:j < l.length
   ·rw [List.append_assoc,List.getElem?_append_left (by simp;omega),List.getElem?_take_of_lt (by omega),Array.getElem?_toList]
    rw [List.getElem?_append_left R] at f
    exact hq.cells _ _ f
   ·have:j=l.length:=by omega
    subst this
    simp at f
    subst f
    rw [List.append_assoc,List.getElem?_append_right (by simp;omega)]
    simp [Nat.min_eq_left (Nat.le_of_lt A)]
 ·have holds:∀j u,(strs l)[j]? = some u->w.cell? ((⟨b,off,none⟩:Addr).add j)=some u:=fun j u f=>by
   simp only [strs,List.getElem?_map,Option.map_eq_some_iff] at f
   obtain ⟨s',h1,rfl⟩:=f
   have X:=hq.cells _ _ h1
   rw [q1a];simp [World.cell?,L,X]
  have hf':=hq.fits
  have hr:=run_append_grow (P:=P) w t ty 9 inf z H.under W hz ⟨b,off,none⟩ l.length cap (strs l) (by rw [r];simp [strs]) holds q 1 c [.string s] (by rw [r];rfl) B (by omega) (by omega) (by rw [I];exact growslice_fits (by omega) (by simpa using hb))
  have M:=grownCap_ge w (l.length+1) cap 9
  rw [show Value.slice (some (Addr.mk w.heap.size 0 none)) (l.length+1) (grownCap w (l.length+1) cap 9)=qval w.heap.size 0 (grownCap w (l.length+1) cap 9) (l++[s]) by simp [qval]] at hr
  refine p _ _ hr (k w.heap.size 0 _ ((strs l).toArray++#[Value.string s]++Builtin.zeroCells z.cells (grownCap w (l.length+1) cap 9 - (l.length+1))) _ ⟨?_,?_,?_,?_⟩ (N.upd S rfl rfl (fun c C F=>?_) ?_ (.inr fun c C=>by simp [Res.foot] at C;omega)))
  ·simp [size_zeroCells,U,strs];omega
  ·rw [d];exact M
  ·exact grownCap_le_maxLen w _ _ _ (by simp only [maxLen];omega)
  ·intro j u f
   have Q:j < l.length+1:=by rw [<- d];exact (List.getElem?_eq_some_iff.1 f).1
   rw [Nat.zero_add,Array.getElem?_append_left (by simp [strs];omega)]
   have:((strs l).toArray++[Value.string s].toArray)[j]? = (strs (l++[s]))[j]? := by rw [yQ];simp [strs]
   rw [this]
   simp only [strs,List.getElem?_map,f];rfl
  ·show (w.heap.push _)[c]? = _
   rw [Array.getElem?_push_lt C,Array.getElem?_eq_getElem C]
  ·show (w.heap.push _)[w.heap.size]? = _
   simp
end
end Go.Sw

namespace Go.Sw
def ex0:Ex:=.mk 0 0 ⟨#[]⟩ [] []
def sY (T:Table) (n:Bs):Ex:=match zN T.funs n with | some f=>f.body | none=>ex0
def jK (T:Table) (n:Bs):List Bs:=qI (sY T n)
theorem oB {T:Table} {n:Bs} {f:Fun} (h:zN T.funs n=some f):sY T n=f.body:=by simp [sY,h]
theorem tS {T:Table} {n:Bs} (h:zN T.funs n=none):sY T n=ex0:=by simp [sY,h]
theorem rex0 {V:Fz}:REx V [.int .i64 0,.int .i64 0,.string ⟨#[]⟩,.slice none 0 0,.slice none 0 0] ex0:=REx.iff.2 ⟨_,_,rfl,⟨by decide,by decide⟩,SliceOf.nil 5,SliceOf.nil 7⟩
theorem y9v:∀(m:List (Bs×Value)) (k:Bs) (x:Value) (s:Bs),(∃v,(s,v)∈aA m k x)↔s=k∨∃v,(s,v)∈m
 | [],k,x,s=>by simp [aA]
 | (k',y)::m,k,x,s=>by
  simp only [aA]
  split
  ·rename_i h;subst h
   simp only [List.mem_cons,Prod.mk.injEq]
   constructor
   ·rintro ⟨v,h | h⟩
    ·exact .inl h.1
    ·exact .inr ⟨v,.inr h⟩
   ·rintro (h | ⟨v,h | h⟩)
    ·exact ⟨x,.inl ⟨h,rfl⟩⟩
    ·exact ⟨x,.inl ⟨h.1,rfl⟩⟩
    ·exact ⟨v,.inr h⟩
  ·simp only [List.mem_cons,Prod.mk.injEq]
   have:=y9v m k x s
   constructor
   ·rintro ⟨v,h | h⟩
    ·exact .inr ⟨v,.inl h⟩
    ·rcases this.1 ⟨v,h⟩ with h | ⟨v,h⟩
     ·exact .inl h
     ·exact .inr ⟨v,.inr h⟩
   ·rintro (h | ⟨v,h | h⟩)
    ·obtain ⟨v,h⟩:=this.2 (.inl h);exact ⟨v,.inr h⟩
    ·exact ⟨v,.inl h⟩
    ·obtain ⟨v,h⟩:=this.2 (.inr ⟨v,h⟩);exact ⟨v,.inr h⟩
theorem q5w:∀(m:List (Bs×Value)) (k:Bs) (x:Value),(aA m k x).length<=m.length+1
 | [],k,x=>by simp [aA]
 | (k',y)::m,k,x=>by
  simp only [aA]
  split
  ·simp
  ·have:=q5w m k x;simp only [lcQ];omega
theorem y2m:∀(l:List Bs) (m:List (Bs×Value)) (s:Bs),(∃v,(s,v)∈l.foldl (fun m s=>aA m s (.bool true)) m)↔s∈l∨∃v,(s,v)∈m
 | [],m,s=>by simp
 | x::l,m,s=>by
  rw [List.foldl_cons,y2m l,y9v];simp only [List.mem_cons]
  constructor
  ·rintro (h | h | h)
   ·exact .inl (.inr h)
   ·exact .inl (.inl h)
   ·exact .inr h
  ·rintro ((h | h) | h)
   ·exact .inr (.inl h)
   ·exact .inl h
   ·exact .inr (.inr h)
theorem y8t:∀(l:List Bs) (m:List (Bs×Value)),(l.foldl (fun m s=>aA m s (.bool true)) m).length<=l.length+m.length
 | [],m=>by simp
 | x::l,m=>by
  have:=y8t l (aA m x (.bool true));have:=q5w m x (.bool true)
  simp only [List.foldl_cons,lcQ];omega
theorem uJ (l:List Bs) (s:Bs):(∃v,(s,v)∈jD l)↔s∈l:=by rw [jD,y2m];simp
theorem q0h (l:List Bs):(jD l).length<=l.length:=by have:=y8t l [];simpa [jD] using this
theorem has_mem {l:List Bs} {s:Bs}:has l s=true↔s∈l:=by simp [has]
theorem z5l {α:Type}:∀{l U:List α},l.Nodup->(∀x∈l,x∈U)->l.length<=U.length
 | [],_,_,_=>Nat.zero_le _
 | x::l,U,d,O=>by
  obtain ⟨b,c,rfl⟩:=List.append_of_mem (O x msQ)
  have hn':=List.nodup_cons.1 d
  have:=z5l (l:=l) (U:=b++c) hn'.2 (fun y a=>by
   have:=O y (mcQ _ a)
   simp only [List.mem_append,List.mem_cons] at this ⊢
   rcases this with h | rfl | h
   ·exact .inl h
   ·exact absurd a hn'.1
   ·exact .inr h)
  simp only [laQ,lcQ] at this ⊢;omega
structure RInv (T:Table) (U start ds l:List Bs):Prop where
 nodup:ds.Nodup
 dU:∀x∈ds,x∈U
 lU:∀x∈l,x∈U
 len:l.length<=1000+ds.length * 6000
 starts:∀x∈start,x∈ds∨x∈l
 closed:∀x∈ds,∀y∈jK T x,y∈ds∨y∈l
 least:∀Q:Bs->Prop,(∀x∈start,Q x)->(∀x,Q x->∀y∈jK T x,Q y)->(∀x∈ds,Q x)/\∀x∈l,Q x
structure Reached (T:Table) (start ds:List Bs):Prop where
 starts:∀x∈start,x∈ds
 closed:∀x∈ds,∀y∈jK T x,y∈ds
 least:∀Q:Bs->Prop,(∀x∈start,Q x)->(∀x,Q x->∀y∈jK T x,Q y)->∀x∈ds,Q x
def muR (U ds l:List Bs):Nat:=(U.length - ds.length) * 6001+l.length
theorem RInv.start {T:Table} {U start:List Bs} (a:∀x∈start,x∈U) (hl:start.length<=1000):RInv T U start [] start :=
 ⟨List.nodup_nil,by simp,a,by simpa using hl,fun x h=>.inr h,by simp,fun Q h1 b=>⟨by simp,h1⟩⟩
theorem RInv.fin {T:Table} {U start ds:List Bs} (h:RInv T U start ds []):Reached T start ds :=
 ⟨fun x a=>(h.starts x a).resolve_right (by simp),fun x a y c=>(h.closed x a y c).resolve_right (by simp),fun Q h1 b=>(h.least Q h1 b).1⟩
theorem RInv.skip {T:Table} {U start ds l:List Bs} {n:Bs} (h:RInv T U start ds l) (c:l[0]? = some n) (e:n∈ds):RInv T U start ds (l.drop 1)/\muR U ds (l.drop 1) < muR U ds l:=by
 obtain ⟨rest,rfl⟩:∃rest,l=n::rest:=by cases l with | nil=>simp at c | cons a r=>simp at c;exact ⟨r,by rw [c]⟩
 simp only [List.drop_succ_cons,List.drop_zero]
 refine ⟨⟨h.nodup,h.dU,fun x b=>h.lU x (mcQ _ b),?_,?_,?_,fun Q h1 d=>⟨(h.least Q h1 d).1,fun x b=>(h.least Q h1 d).2 x (mcQ _ b)⟩⟩,?_⟩
 ·have:=h.len;simp only [lcQ] at this;omega
 ·intro x b
  rcases h.starts x b with h | h
  ·exact .inl h
  ·rcases List.mem_cons.1 h with rfl | h
   ·exact .inl e
   ·exact .inr h
 ·intro x b y f
  rcases h.closed x b y f with h | h
  ·exact .inl h
  ·rcases List.mem_cons.1 h with rfl | h
   ·exact .inl e
   ·exact .inr h
 ·simp only [muR,lcQ];omega
structure RIn (T:Table) (n:Bs) (rest:List Bs) (es:Array MapEntry) (seen:Array Nat) (l:List Bs):Prop where
 new:∀x∈l,x∈rest∨x∈jK T n
 old:∀x∈rest,x∈l
 all:∀e∈es.toList,e∈vF es seen∨∃s,e.key=.string s/\s∈l
 len:l.length+(vF es seen).length<=rest.length+es.size
theorem RIn.start {T:Table} {n:Bs} {rest:List Bs} {es:Array MapEntry}:RIn T n rest es #[] rest :=
 ⟨fun x h=>.inl h,fun x h=>h,fun e h=>.inl (by rw [z7p];exact h),by rw [z7p];simp⟩
theorem RIn.next {T:Table} {n s:Bs} {v:Value} {rest l:List Bs} {es:Array MapEntry} {seen:Array Nat} {clock:Nat} {e:MapEntry} (h:RIn T n rest es seen l) (b:MapOk es clock (jD (jK T n))) (J:e∈vF es seen)
  (g:e.key=.string s) (N:(s,v)∈jD (jK T n)):RIn T n rest es (seen.push e.born) (l++[s]):=by
 refine ⟨?_,fun x a=>List.mem_append_left _ (h.old x a),?_,?_⟩
 ·intro x a
  rcases List.mem_append.1 a with a | a
  ·exact h.new x a
  ·rw [List.mem_singleton] at a;subst a
   exact .inr ((uJ _ _).1 ⟨v,N⟩)
 ·intro x a
  rcases h.all x a with h1 | ⟨s',h1,d⟩
  ·by_cases hb:x.born=e.born
   ·have f:x=e:=by
     have c:=find_born x es.toList b.nodup a
     have a2:=find_born e es.toList b.nodup (leftE_mem.1 J).1
     rw [hb] at c;rw [c] at a2;exact Option.some.inj a2
    subst f
    exact .inr ⟨s,g,by simp⟩
   ·exact .inl (leftE_push.2 ⟨h1,hb⟩)
  ·exact .inr ⟨s',h1,List.mem_append_left _ d⟩
 ·have:=z1c J;have:=h.len;simp only [laQ,lcQ,lnQ];omega
theorem RInv.mark {T:Table} {U start ds l l':List Bs} {n:Bs} {es:Array MapEntry} {seen:Array Nat} {clock:Nat} (h:RInv T U start ds l) (q:l[0]? = some n) (C:n∉ds) (A:∀x,(jK T x).length<=6000) (z:∀x,∀y∈jK T x,y∈U)
  (m:MapOk es clock (jD (jK T n))) (f:RIn T n (l.drop 1) es seen l') (hl:vF es seen=[]):RInv T U start (ds++[n]) l'/\muR U (ds++[n]) l' < muR U ds l:=by
 obtain ⟨rest,rfl⟩:∃rest,l=n::rest:=by cases l with | nil=>simp at q | cons a r=>simp at q;exact ⟨r,by rw [q]⟩
 simp only [List.drop_succ_cons,List.drop_zero] at f
 have D:es.size<=6000:=by
  have h1:=congrArg List.length m.eq
  simp only [List.length_map,Array.length_toList] at h1
  have:=q0h (jK T n);have:=A n;omega
 have d:=f.len
 rw [hl] at d
 simp only [lnQ,Nat.add_zero] at d
 have i:∀y∈jK T n,y∈l':=fun y p=>by
  obtain ⟨v,G⟩:=(uJ (jK T n) y).2 p
  obtain ⟨e,J,E⟩:=y9m m G
  rcases f.all e J with h1 | ⟨s,h1,o⟩
  ·rw [hl] at h1;cases h1
  ·rw [E] at h1;cases h1;exact o
 have F:n∈U:=h.lU n msQ
 have k:(ds++[n]).Nodup:=by
  rw [List.nodup_append]
  exact ⟨h.nodup,by simp,fun a B b hb=>by rw [List.mem_singleton] at hb;subst hb;intro e;subst e;exact C B⟩
 have j:∀x∈ds++[n],x∈U:=fun x c=>by
  rcases List.mem_append.1 c with c | c
  ·exact h.dU x c
  ·rw [List.mem_singleton] at c;subst c;exact F
 have w:(ds++[n]).length<=U.length:=z5l k j
 simp only [laQ,lcQ,lnQ] at w
 refine ⟨⟨k,j,?_,?_,?_,?_,?_⟩,?_⟩
 ·intro x c
  rcases f.new x c with h1 | h1
  ·exact h.lU x (mcQ _ h1)
  ·exact z n x h1
 ·have:=h.len;simp only [lcQ,laQ,lnQ] at this ⊢;omega
 ·intro x c
  rcases h.starts x c with h1 | h1
  ·exact .inl (List.mem_append_left _ h1)
  ·rcases List.mem_cons.1 h1 with rfl | h1
   ·exact .inl (by simp)
   ·exact .inr (f.old x h1)
 ·intro x c y p
  rcases List.mem_append.1 c with c | c
  ·rcases h.closed x c y p with h1 | h1
   ·exact .inl (List.mem_append_left _ h1)
   ·rcases List.mem_cons.1 h1 with rfl | h1
    ·exact .inl (by simp)
    ·exact .inr (f.old y h1)
  ·rw [List.mem_singleton] at c;subst c
   exact .inr (i y p)
 ·intro Q h1 o
  have t:=h.least Q h1 o
  have g:Q n:=t.2 n msQ
  refine ⟨fun x c=>?_,fun x c=>?_⟩
  ·rcases List.mem_append.1 c with c | c
   ·exact t.1 x c
   ·rw [List.mem_singleton] at c;subst c;exact g
  ·rcases f.new x c with u | u
   ·exact t.2 x (mcQ _ u)
   ·exact o n g x u
 ·simp only [muR,laQ,lcQ,lnQ]
  have:U.length - ds.length=(U.length - (ds.length+1))+1:=by omega
  rw [this,Nat.add_mul];omega
theorem y2p {V:Fz} {K:List Res} {w:World} {i:Nat} {v:Value} {l:List Bs} (N:Mem V K w) (d:qJ K i=some (.gs v 9 1 (strs l))) (hl:l≠[]):∃b cap arr,v=qval b 0 cap l/\QAt 0 cap arr l/\Mem V (wD K i (qblk b arr)) w:=by
 obtain ⟨n,h1,e⟩:=N.own _ (yN d)
 have o:l.length=n:=by simpa [strs] using h1
 rcases e with ⟨_,p⟩ | ⟨b,cap,cur,rfl,_,f,g,h,q,k⟩
 ·exact absurd (List.eq_nil_of_length_eq_zero (by omega)) hl
 ·subst o
  refine ⟨b,cap,cur,rfl,⟨by omega,g,h,fun j s c=>?_⟩,N.upd d rfl rfl (fun _ _ _=>rfl) f (.inl rfl)⟩
  have m:=(List.getElem?_eq_some_iff.1 c).1
  have a:(cur.toList.take (l.length * 1))[j]? = some (.string s):=by rw [k];simp only [strs,List.getElem?_map,c];rfl
  rw [List.getElem?_take_of_lt (by omega),Array.getElem?_toList] at a
  rw [Nat.zero_add];exact a
theorem z6i {P:Program} {n:Nat} {E:List (Nat×Value)} {D:List Deferred} {a:Act} {w:World} {ty:TypeId} (off:Nat) {x:Operand} {t:TypeId} {fs:Array Field} {i k:Nat} {fd:Field} {cs vs:List Value} (g:Under P t (.struct fs)) (e:fs[i]? = some fd) (d:AggT P fd.type) (c:SizeT P fd.type k)
  (J:EnvR n E D a) (h:ev E x=some (.agg cs.toArray)) (f:fd.offset=off) (b:z3c (z3b cs off) k=vs):Ok P a (.field t x i) ty w (.agg vs.toArray):=fun _ _ _ _=>by
 rw [z1e,z1b] at b
 subst f
 simp only [execOp,J.ev h]
 simp [Instr.field,Sem.run_bind,g w,e,asAgg,part,d w,c w,Result.andThen,<- b]
theorem j3g {es:Array MapEntry} {clock:Nat} {l:List Bs} (a:MapOk es clock (jD l)) (h:l.length<=6000):es.size<=6000:=by
 have h1:=congrArg List.length a.eq
 simp only [List.length_map,Array.length_toList] at h1
 have:=q0h l;omega
theorem z9z {l:List Bs} {s:Bs} (h:has l s=false):s∉l:=fun N=>by rw [has_mem.2 N] at h;cases h
structure Typing where
 vars:List Param
 expr:Ex
def RTyping (V:Fz) (cs:List Value) (x:Typing):Prop:=∃s b,cs=s::b/\SliceOf RParam V 2 s x.vars/\REx V b x.expr
theorem RTyping.mono (V Ψ:Fz) (c:List Value) (x:Typing) (hl:V.Le Ψ) (h:RTyping V c x):RTyping Ψ c x:=let ⟨s,b,h1,a,d⟩:=h;⟨s,b,h1,a.mono RParam.mono hl,REx.mono _ _ _ _ hl d⟩
def oR (l:List Bs) (s:Bs):Bool:=l.any fun x=>decide (x=s)
theorem z7i (x:Bs) (l:List Bs) (s:Bs):oR (x::l) s=(decide (x=s) || oR l s):=by simp [oR]
section
variable {c:Core} {ps:List Param} {e:Ex}
end
end Go.Sw

namespace Go.Sw
def Wk (s r:Scope):Prop:=∀n x,zN s n=some x->zN r n=some x
theorem Wk.put {s r:Scope} (h:Wk s r) (k x:Bs):Wk (wH s k x) (wH r k x):=fun n y a=>by
 rw [vZ] at a ⊢
 split at a
 ·rename_i e;rw [if_pos e];exact a
 ·rename_i e;rw [if_neg e];exact h n y a
theorem Wk.putAll:∀{vs fs:List Bs} {s r:Scope},Wk s r->Wk (putAll s vs fs) (putAll r vs fs)
 | [],fs,_,_,h=>by rw [xA,xA];exact h
 | _::_,[],_,_,h=>h
 | v::vs,f::fs,_,_,h=>by rw [nU,nU];exact Wk.putAll (h.put v f)
def Wide (T:Table) (e:Ex):Prop:=∀s r,Wk s r->(zP e).Nodup->Fresh s (zP e)->Fresh r (zP e)->(zF T e s).1≠sNo->(zF T e r).1=(zF T e s).1
theorem y7l {T:Table}:∀{xs:List Ex} {s r:Scope} {ts:List Bs},(∀x∈xs,mU T x)->(∀x∈xs,Wide T x)->Wk s r->xs.length=ts.length->(bindPs xs).Nodup->Fresh s (bindPs xs)->Fresh r (bindPs xs)->(allQ T xs s ts).1=true ->
  (allQ T xs r ts).1=true
 | [],_,_,[],_,_,_,_,_,_,_,_=>rfl
 | x::xs,s,r,t::ts,b,i,a,hl,o,f,g,h=>by
  rw [z2a] at h ⊢
  split at h
  ·cases h
  ·rename_i d
   have hn':=zU (show (zP x++bindPs xs).Nodup from o)
   have h1:(zF T x s).1≠sNo:=fun e=>d (.inl e)
   have fs:=f.sub (m:=zP x) fun n h=>List.mem_append.2 (.inl h)
   have fr:=g.sub (m:=zP x) fun n h=>List.mem_append.2 (.inl h)
   have j:=i x msQ s r a hn'.1 fs fr h1
   have k:=b x msQ s hn'.1 fs h1
   have l:=b x msQ r hn'.1 fr (j▸h1)
   rw [j,if_neg d,l]
   rw [k] at h
   exact y7l (fun y c=>b y (mcQ _ c)) (fun y c=>i y (mcQ _ c)) a (by simpa using hl) hn'.2.1 (f.sub fun n h=>List.mem_append.2 (.inr h)) (g.sub fun n h=>List.mem_append.2 (.inr h)) h
 | [],_,_,_::_,_,_,_,hl,_,_,_,_=>by simp at hl
 | _::_,_,_,[],_,_,_,hl,_,_,_,_=>by simp at hl
theorem j4y {T:Table} {xs:List Ex} {s r:Scope} {ts:List Bs} (d:∀x∈xs,mU T x) (f:∀x∈xs,Wide T x) (a:Wk s r) (e:(bindPs xs).Nodup) (b:Fresh s (bindPs xs)) (c:Fresh r (bindPs xs)) (h:(xP T xs s ts).1=true) :
  (xP T xs r ts).1=true:=by
 unfold xP at h ⊢
 split at h
 ·rename_i hl;rw [if_pos hl];exact y7l d f a hl e b c h
 ·cases h
theorem j5b {T:Table} {a:Arm} {c:Con} {s r:Scope} (g:Wide T a.body) (b:Wk s r) (f:(a.vars++zP a.body).Nodup) (d:Fresh s (a.vars++zP a.body)) (e:Fresh r (a.vars++zP a.body))
  (h:(mS T a c s).1≠sNo):(mS T a c r).1=(mS T a c s).1:=by
 have hn':=zU f
 have q:∀{z:Scope},Fresh z (a.vars++zP a.body)->Fresh (Go.Sw.putAll z a.vars c.fields) (zP a.body):=fun i n hb=>by
  rw [xU (fun N=>hn'.2.2 n N hb)];exact i n (List.mem_append.2 (.inr hb))
 exact g _ _ b.putAll hn'.2.1 (q d) (q e) h
theorem z9h {T:Table}:∀{az:List Arm} {cs:List Con} {first:Bool} {out:Bs} {s r:Scope},(∀a∈az,mU T a.body)->(∀a∈az,Wide T a.body)->Wk s r->cs.length=az.length->(bindPa az).Nodup->Fresh s (bindPa az)->Fresh r (bindPa az) ->
  (splitP T az cs first out s).1≠sNo->(splitP T az cs first out r).1=(splitP T az cs first out s).1
 | [],[],_,_,_,_,_,_,_,_,_,_,_,_=>rfl
 | a::az,c::cs,first,out,s,r,l,p,f,hl,o,j,k,h=>by
  rw [qA] at o j k
  have hn':=zU o
  rw [qW] at h ⊢
  rw [qW T a az c cs first out s]
  split at h
  ·exact absurd rfl h
  ·rename_i g
   rw [if_neg g,if_neg g]
   split at h
   ·exact absurd rfl h
   ·rename_i i
    have d:a.vars.length=c.fields.length:=Classical.byContradiction fun e=>g (.inr e)
    have h1:(mS T a c s).1≠sNo:=fun e=>i (.inl e)
    have fs:=j.sub (m:=a.vars++zP a.body) fun n h=>List.mem_append.2 (.inl h)
    have fr:=k.sub (m:=a.vars++zP a.body) fun n h=>List.mem_append.2 (.inl h)
    have q:=j5b (p a msQ) f hn'.1 fs fr h1
    have t:=z2d (l a msQ) d hn'.1 fs h1
    have u:=z2d (l a msQ) d hn'.1 fr (q▸h1)
    rw [q,if_neg i,if_neg i,u]
    rw [t] at h ⊢
    exact z9h (fun b hb=>l b (mcQ _ hb)) (fun b hb=>p b (mcQ _ hb)) f (by simpa using hl) hn'.2.1 (j.sub fun n h=>List.mem_append.2 (.inr h)) (k.sub fun n h=>List.mem_append.2 (.inr h)) h
 | [],_::_,_,_,_,_,_,_,_,hl,_,_,_,_=>by simp at hl
 | _::_,[],_,_,_,_,_,_,_,hl,_,_,_,_=>by simp at hl
theorem q7n {l:List Ex} (hl:l.length=2):∃x y,l=[x,y]:=by
 cases l with
 | nil=>simp at hl
 | cons a l=>
  cases l with
  | nil=>simp at hl
  | cons b l=>
   simp only [lcQ] at hl
   have:l=[]:=List.eq_nil_of_length_eq_zero (by omega)
   subst this
   exact ⟨a,b,rfl⟩
theorem j3r {l:List Ex} (hl:l.length=1):∃x,l=[x]:=by
 cases l with
 | nil=>simp at hl
 | cons a l=>
  simp only [lcQ] at hl
  have:l=[]:=List.eq_nil_of_length_eq_zero (by omega)
  subst this
  exact ⟨a,rfl⟩
theorem j4u (T:Table) (i:zN T.datas sNo=none):∀(n:Nat) (e:Ex),e.sz < n->Wide T e
 | 0,_,h=>by omega
 | n+1,e,Y=>by
  intro s r f G q u h
  have j:∀x∈e.args,mU T x:=fun x k=>aG T i (n+1) x (by have:=Ex.lt_args k;omega)
  have R:∀a∈e.arms,mU T a.body:=fun a c=>aG T i (n+1) a.body (by have:=Ex.lt_arms c;omega)
  have p:∀x∈e.args,Wide T x:=fun x k=>j4u T i n x (by have:=Ex.lt_args k;omega)
  have U:∀a∈e.arms,Wide T a.body:=fun a c=>j4u T i n a.body (by have:=Ex.lt_arms c;omega)
  rw [kY] at G q u
  have C:=zU G
  have D:=zU C.1
  have sa:∀{z:Scope},Fresh z ((if e.kind=6 then [e.name] else [])++bindPs e.args++bindPa e.arms)->Fresh z (bindPs e.args):=fun E=>E.sub fun m N=>List.mem_append.2 (.inl (List.mem_append.2 (.inr N)))
  have sb:∀{z:Scope},Fresh z ((if e.kind=6 then [e.name] else [])++bindPs e.args++bindPa e.arms)->Fresh z (bindPa e.arms):=fun E=>E.sub fun m N=>List.mem_append.2 (.inr N)
  have A:∀ts,(xP T e.args s ts).1=true->(xP T e.args r ts).1=true:=fun ts h=>j4y j p f D.2.1 (sa q) (sa u) h
  by_cases h1:e.kind=1
  ·rw [nN T e s h1,nN T e r h1]
  by_cases I:e.kind=2
  ·rw [mN T e s I] at h ⊢
   rw [mN T e r I]
   simp only [wF] at h ⊢
   split at h
   ·rename_i hb
    rw [if_pos hb,if_pos hb]
    cases V:zN s e.name with
    | none=>rw [V] at h;exact absurd rfl h
    | some x=>rw [f _ _ V]
   ·exact absurd rfl h
  by_cases K:e.kind=3
  ·rw [mK T e s K,mK T e r K]
  by_cases L:e.kind=4
  ·rw [mJ T e s L] at h ⊢
   rw [mJ T e r L]
   unfold sI at h ⊢
   cases N:zN T.cons e.name with
   | none=>rfl
   | some m=>
    simp only [N] at h ⊢
    by_cases hb:qD e false true (-1) 0=true
    ·rw [if_pos hb] at h ⊢
     rw [if_pos hb]
     by_cases c:(xP T e.args s m.con.fields).1=true
     ·simp only [c,A _ c]
     ·simp [c] at h
    ·rw [if_neg hb] at h;exact absurd rfl h
  by_cases M:e.kind=5
  ·rw [wO T e s M] at h ⊢
   rw [wO T e r M]
   unfold mV at h ⊢
   cases N:zN T.funs e.name with
   | none=>rfl
   | some m=>
    simp only [N] at h ⊢
    by_cases hb:qD e false true (-1) 0=true
    ·rw [if_pos hb] at h ⊢
     rw [if_pos hb]
     by_cases c:(xP T e.args s (m.params.map Param.type)).1=true
     ·simp only [c,A _ c]
     ·simp [c] at h
    ·rw [if_neg hb] at h;exact absurd rfl h
  by_cases F:e.kind=6
  ·rw [mL T e s F] at h ⊢
   rw [mL T e r F]
   unfold z0e at h ⊢
   by_cases hb:qD e false true 2 0=true
   ·rw [if_pos hb] at h ⊢
    rw [if_pos hb]
    obtain ⟨x,y,b⟩:=q7n (xI (n:=2) hb)
    have k:e.args[0]? = some x:=by rw [b];rfl
    have W:e.args[1]? = some y:=by rw [b];rfl
    by_cases g:(zF T x s).1=sNo
    ·rw [z2n k g] at h;exact absurd rfl h
    ·simp only [if_pos F,b,bindPs,List.append_nil] at G q u
     have S:=zU G
     have B:=zU S.1
     have o:=zU B.2.1
     have mx:x∈e.args:=by rw [b];simp
     have my:y∈e.args:=by rw [b];simp
     have ex:=p x mx s r f o.1 (q.sub fun m N=>by simp [N]) (u.sub fun m N=>by simp [N]) g
     have H:=j x mx s o.1 (q.sub fun m N=>by simp [N]) g
     have w:=j x mx r o.1 (u.sub fun m N=>by simp [N]) (ex▸g)
     rw [oJ k W g] at h ⊢
     rw [oJ k W (ex▸g)]
     simp only [H] at h ⊢
     simp only [w,ex]
     have v:∀{z:Scope} {t:Bs},Fresh z ([e.name]++(zP x++zP y)++bindPa e.arms)->Fresh (wH z e.name t) (zP y):=fun E m N=>by
      rw [vZ,if_neg]
      ·exact E m (by simp [N])
      ·rintro rfl
       exact B.2.2 e.name (by simp) (by simp [N])
     exact p y my _ _ (f.put _ _) o.2.1 (v q) (v u) h
   ·rw [if_neg hb] at h;exact absurd rfl h
  by_cases P:e.kind=7
  ·rw [mI T e s P] at h ⊢
   rw [mI T e r P]
   unfold jO at h ⊢
   by_cases hb:qD e false false 1 (-1)=true
   ·rw [if_pos hb] at h ⊢
    rw [if_pos hb]
    obtain ⟨x,b⟩:=j3r (xI (n:=1) hb)
    have k:e.args[0]? = some x:=by rw [b];rfl
    rw [qY k] at h ⊢
    rw [qY k]
    by_cases g:(zF T x s).1=sNo
    ·simp only [g,i] at h;exact absurd rfl h
    ·have fa:=sa q
     have fb:=sa u
     have na:=D.2.1
     rw [b] at fa fb na
     simp only [bindPs,List.append_nil] at fa fb na
     have mx:x∈e.args:=by rw [b];simp
     have ex:=p x mx s r f na fa fb g
     have H:=j x mx s na fa g
     have w:=j x mx r na fb (ex▸g)
     rw [ex,w]
     rw [H] at h ⊢
     cases X:zN T.datas (zF T x s).1 with
     | none=>rfl
     | some d=>
      simp only [X] at h ⊢
      by_cases l:d.cons.length=e.arms.length
      ·rw [if_pos l] at h ⊢
       rw [if_pos l]
       exact z9h R U f l C.2.1 (sb q) (sb u) h
      ·rw [if_neg l] at h;exact absurd rfl h
   ·rw [if_neg hb] at h;exact absurd rfl h
  by_cases Q:e.kind=8
  ·rw [nY T e s Q] at h ⊢
   rw [nY T e r Q]
   unfold mT at h ⊢
   by_cases hb:qD e false true 2 0=true
   ·rw [if_pos hb] at h ⊢
    rw [if_pos hb]
    by_cases c:(xP T e.args s [yA,yA]).1=true
    ·simp only [c,A _ c]
    ·simp [c] at h
   ·rw [if_neg hb] at h;exact absurd rfl h
  rw [mM T e s h1 I K L M F P Q] at h
  exact absurd rfl h
theorem y7m {nm:Bs->Bool}:∀{l ds:List Bs},l.Nodup->(∀n∈l,n∉ds)->(∀n∈l,nm n=true)->pH nm ds l=true
 | [],_,_,_,_=>rfl
 | s::l,ds,h1,b,c=>by
  have O:=List.nodup_cons.1 h1
  simp only [pH,baQ,Bool.not_eq_true']
  refine ⟨⟨c s msQ,?_⟩,y7m O.2 (fun n a N=>?_) fun n a=>c n (mcQ _ a)⟩
  ·cases hb:has ds s with
   | false=>rfl
   | true=>
    simp only [has,List.any_eq_true,decide_eq_true_eq] at hb
    obtain ⟨x,d,J⟩:=hb
    first | exact absurd (J▸d) (b s msQ) | exact absurd (J.symm▸d) (b s msQ)
  ·rcases List.mem_append.1 N with N | N
   ·exact b n (mcQ _ a) N
   ·simp only [List.mem_singleton] at N;subst N;exact O.1 a
theorem z4z {l:List Bs} {s:Bs}:oR l s=true↔s∈l:=by
 simp only [oR,List.any_eq_true,decide_eq_true_eq]
 exact ⟨fun ⟨x,a,e⟩=>e▸a,fun h=>⟨s,h,rfl⟩⟩
structure Alike (T U:Table):Prop where
 datas:U.datas=T.datas
 cons:U.cons=T.cons
 inputs:U.inputs=T.inputs
 funs:∀n,zN U.funs n=zN T.funs n
mutual
theorem gR {T U:Table} (h:Alike T U):∀(e:Ex) (s:Scope),zF U e s=zF T e s
 | .mk kind num name args arms,s=>by
  simp only [zF,oD,h.cons,h.funs,h.datas,h.inputs,allQ_alike h args,letP_alike h name args,firstP_alike h args,splitP_alike h arms]
theorem allQ_alike {T U:Table} (h:Alike T U):∀(xs:List Ex) (s:Scope) (ts:List Bs),allQ U xs s ts=allQ T xs s ts
 | [],_,_=>rfl
 | x::xs,s,ts=>by simp only [allQ,gR h x,allQ_alike h xs]
theorem firstP_alike {T U:Table} (h:Alike T U):∀(xs:List Ex) (s:Scope),firstP U xs s=firstP T xs s
 | [],_=>rfl
 | a::_,s=>by simp only [firstP,gR h a]
theorem letP_alike {T U:Table} (h:Alike T U) (name:Bs):∀(xs:List Ex) (s:Scope),letP U name xs s=letP T name xs s
 | [],_=>rfl
 | a::l,s=>by simp only [letP,gR h a,firstP_alike h l]
theorem splitP_alike {T U:Table} (h:Alike T U):∀(az:List Arm) (cs:List Con) (first:Bool) (out:Bs) (s:Scope),splitP U az cs first out s=splitP T az cs first out s
 | [],_,_,_,_=>rfl
 | .mk con vars body::az,cs,first,out,s=>by simp only [splitP,gR h body,splitP_alike h az]
end
mutual
theorem y2s {T U:Table} (h:Alike T U):∀(v:Val) (n:Bs),pJ U v n=pJ T v n
 | .mk con num args,n=>by simp only [pJ,h.cons,hasL_alike h args]
theorem hasL_alike {T U:Table} (h:Alike T U):∀(vs:List Val) (fs:List Bs),hasL U vs fs=hasL T vs fs
 | [],_=>rfl
 | v::vs,fs=>by simp only [hasL,y2s h v,hasL_alike h vs]
end
theorem q1t {T U:Table} (h:Alike T U):∀(l:List Named) (ps:List Param),vP U l ps=vP T l ps
 | [],[]=>rfl
 | v::vs,p::ps=>by simp only [vP,y2s h,q1t h vs ps]
 | [],_::_=>rfl
 | _::_,[]=>rfl
theorem q2l {T U:Table} (h:Alike T U):∀(os seen:List Bs),kQ U seen os=kQ T seen os
 | [],_=>rfl
 | o::os,seen=>by simp only [kQ,h.funs,q2l h os]
theorem q7i {C D:Ctx} (a:∀n,zN D.funs n=zN C.funs n) (b:D.inp=C.inp) (ev:Nat->Ex->Env->Ev Val) (g:Nat) (e:Ex) (env:Env):xB ev D g e env=xB ev C g e env:=by
 simp only [xB,a,b]
theorem z8t {C D:Ctx} (a:∀n,zN D.funs n=zN C.funs n) (b:D.inp=C.inp):∀n,uY D n=uY C n
 | 0=>by funext g e env;cases g <;> rfl
 | n+1=>by
  funext g e env
  cases g with
  | zero=>rfl
  | succ g=>simp only [uY,z8t a b n,q7i a b]
theorem q4o {C D:Ctx} (a:∀n,zN D.funs n=zN C.funs n) (b:D.inp=C.inp):qM D=qM C:=by
 funext g e env;simp only [qM,z8t a b]
theorem q6e {C D:Ctx} (a:∀n,zN D.funs n=zN C.funs n) (b:D.inp=C.inp):∀(os:List Bs) (g:Nat),jZ D os g=jZ C os g
 | [],_=>rfl
 | o::os,g=>by simp only [jZ,a,q4o a b,q6e a b os]
mutual
theorem uB:∀(e:Ex) (l k:Int),(qS e l).1=false->0<=(qS e l).2+k->qS e (l+k)=(false,(qS e l).2+k)
 | .mk _ _ _ args arms,l,k=>by
  intro h a
  simp only [qS] at h a ⊢
  by_cases hl:l - 1 < 0
  ·rw [if_pos hl] at h;cases h
  ·rw [if_neg hl] at h a ⊢
   have m1:=meass_le args (l - 1)
   have m2:=meass_shift args (l - 1) k
   cases hq:meass args (l - 1) with
   | mk b q=>
    rw [hq] at h a m1 m2
    cases b with
    | true=>cases h
    | false=>
     have m1':=m1 rfl (by omega)
     simp only at h a m1' ⊢
     have m3:=measa_le arms q h (by omega)
     rw [if_neg (by omega),show l+k - 1=l - 1+k by omega,m2 rfl (show 0<=q+k by omega)]
     exact measa_shift arms q k h a
theorem meass_shift:∀(es:List Ex) (l k:Int),(meass es l).1=false->0<=(meass es l).2+k->meass es (l+k)=(false,(meass es l).2+k)
 | [],l,k=>fun _ _=>rfl
 | e::es,l,k=>by
  intro h a
  simp only [meass] at h a ⊢
  have m1:=kH e l
  have m2:=uB e l k
  cases hq:qS e l with
  | mk b q=>
   rw [hq] at h a m1 m2
   cases b with
   | true=>cases h
   | false=>
    have m1':=m1 rfl
    simp only at h a m1' ⊢
    have m3:=meass_le es q h (by omega)
    rw [m2 rfl (show 0<=q+k by omega)]
    exact meass_shift es q k h a
theorem measa_shift:∀(es:List Arm) (l k:Int),(measa es l).1=false->0<=(measa es l).2+k->measa es (l+k)=(false,(measa es l).2+k)
 | [],l,k=>fun _ _=>rfl
 | .mk _ vs b::es,l,k=>by
  intro h a
  simp only [measa] at h a ⊢
  by_cases d:16 < vs.length
  ·rw [if_pos d] at h;cases h
  ·simp only [if_neg d] at h a ⊢
   have m1:=kH b l
   have m2:=uB b l k
   cases hq:qS b l with
   | mk c q=>
    rw [hq] at h a m1 m2
    cases c with
    | true=>cases h
    | false=>
     have m1':=m1 rfl
     simp only at h a m1' ⊢
     have m3:=measa_le es q h (by omega)
     rw [m2 rfl (show 0<=q+k by omega)]
     exact measa_shift es q k h a
end
def j3b (f:Fun):Int:=6000 - (qS f.body 6000).2
def goodF (f:Fun):Prop:=f.params.length<=16/\(qS f.body 6000).1=false
def dX:List Fun->Int
 | []=>0
 | f::fs=>j3b f+dX fs
theorem y8f:∀(l m:List Fun),dX (l++m)=dX l+dX m
 | [],m=>by simp [dX]
 | f::l,m=>by simp only [List.cons_append,dX,y8f l m];omega
theorem j5i:∀l:List Fun,dX l.reverse=dX l
 | []=>rfl
 | f::l=>by rw [List.reverse_cons,y8f,j5i l];simp only [dX];omega
theorem y8g:∀{l:List Fun},(∀f∈l,goodF f)->0<=dX l
 | [],_=>by simp [dX]
 | f::l,h=>by
  have h1:=y8g fun g a=>h g (mcQ _ a)
  have b:=kH f.body 6000 (h f msQ).2
  simp only [dX,j3b];omega
theorem y9t:∀(fs:List Fun) (l:Int),0<=l->l<=6000->(aI fs l=false↔(∀f∈fs,goodF f)/\dX fs<=l)
 | [],l,e,h1=>by simp [aI,dX,e]
 | f::fs,l,e,h1=>by
  simp only [aI,Bool.or_eq_false_iff,decide_eq_false_iff_not]
  constructor
  ·rintro ⟨⟨a,b⟩,c⟩
   have m:=kH f.body l b
   have s:=uB f.body l (6000 - l) b (by omega)
   rw [show l+(6000 - l)=6000 by omega] at s
   obtain ⟨h,i2⟩:=(y9t fs _ m.1 (by omega)).1 c
   refine ⟨fun g d=>?_,?_⟩
   ·rcases List.mem_cons.1 d with rfl | d
    ·exact ⟨by omega,by rw [s]⟩
    ·exact h g d
   ·simp only [dX,j3b,s];omega
  ·rintro ⟨a,b⟩
   have ga:=a f msQ
   have gr:=fun g (d:g∈fs)=>a g (mcQ _ d)
   have p:=y8g gr
   simp only [dX,j3b] at b
   have s:=uB f.body 6000 (l - 6000) ga.2 (by omega)
   rw [show (6000:Int)+(l - 6000)=l by omega] at s
   have gp:=ga.1
   refine ⟨⟨by omega,by rw [s]⟩,?_⟩
   rw [s]
   have m:=kH f.body 6000 ga.2
   exact (y9t fs _ (by simp only;omega) (by simp only;omega)).2 ⟨gr,by simp only;omega⟩
theorem j4f:∀{l:List Fun} {m:List (Bs×Fun)},(∀f∈l,qE f.name=true/\zN m f.name=none)->(l.map Fun.name).Nodup->(sN true m l).1=true
 | [],_,_,_=>rfl
 | x::l,m,h,a=>by
  simp only [List.map_cons,List.nodup_cons] at a
  obtain ⟨h1,b⟩:=h x msQ
  simp only [sN,h1,Bool.and_self,if_true,b,Option.isNone_none]
  refine j4f (fun f c=>?_) a.2
  obtain ⟨g1,d⟩:=h f (mcQ _ c)
  refine ⟨g1,?_⟩
  rw [nT b,aH d]
  simp only [zN]
  rw [if_neg]
  intro e
  exact a.1 (List.mem_map.2 ⟨f,c,e⟩)
def xC (s:Bs):Nat:=1+yL yK s s.size 1
def z0c (s:Bs) (lo a:Nat):Bool :=
 if s.size < 1∨24 < s.size∨zG s 0 < lo∨a < zG s 0 then false
 else if xC s=s.size then true
 else if zG s (xC s)≠39∨xC s+1=s.size then false
 else decide (xC s+1+yL zZ s s.size (xC s+1)=s.size)
def z3d (s:Bs):Bool:=z0c s 97 122 && !oR wordsL s
def conR (s:Bs):Bool:=z0c s 65 90
def vO:List Data->Bs->Option Data
 | [],_=>none
 | d::l,n=>if d.name=n then some d else vO l n
def yD (ds:List Data) (name:Bs):Option Data:=if name=vS then some truthsD else vO ds name
def nL:Data:=⟨sNo,[]⟩
def xN:List Con->Bs->Option Con
 | [],_=>none
 | x::l,n=>if x.name=n then some x else xN l n
def wQ:List Data->Bs->Option Maker
 | [],_=>none
 | d::l,n=>match xN d.cons n with
  | some x=>some ⟨d.name,x⟩
  | none=>wQ l n
def nH (ds:List Data) (name:Bs):Option Maker:=wQ (truthsD::ds) name
def z9e:Con:=⟨sNo,[]⟩
def uZ:List Fun->Bs->Nat->Option Nat
 | [],_,_=>none
 | f::l,n,i=>if f.name=n then some i else uZ l n (i+1)
def dZ (fs:List Fun) (name:Bs):Option Nat:=uZ fs name 0
def aF (fs:List Fun) (name:Bs):Int:=match dZ fs name with | some i=>i | none=>-1
def jH (ds:List Data) (name:Bs):Bool:=(yD ds name).isSome || decide (name=yA)
def mO (name:Bs) (l:List Con):Bool:=l.any fun x=>x.fields.any fun s=> !decide (s=yA) && !decide (s=name)
def kX (name:Bs) (l:List Data):Bool:=l.any fun d=>decide (d.name=name)&&mO name d.cons
def kA (name:Bs) (l:List Data):Nat:=(l.filter fun d=>decide (d.name=name)).length
def jY (ds:List Data) (name:Bs):Bool :=
 if name=yA then true else !kX name ds&&(decide (kA name ds=1) && !decide (name=vS))
mutual
def jU:Ex->Nat->Nat
 | .mk _ _ _ args arms,most=>sizeAr arms most (sizeRs args most 1)
def sizeRs:List Ex->Nat->Nat->Nat
 | [],_,n=>n
 | e::es,most,n=>if n<=most then sizeRs es most (n+jU e (most - n)) else n
def sizeAr:List Arm->Nat->Nat->Nat
 | [],_,n=>n
 | .mk _ vs b::es,most,n=>if n<=most then (if 16 < vs.length then most+1 else sizeAr es most (n+jU b (most - n))) else n
end
theorem x4f (e:Ex) (most:Nat):jU e most=sizeAr e.arms most (sizeRs e.args most 1):=by cases e;rfl
theorem q7e (e:Ex) (es:List Ex) (most n:Nat):sizeRs (e::es) most n=if n<=most then sizeRs es most (n+jU e (most - n)) else n:=rfl
theorem z1m (a:Arm) (es:List Arm) (most n:Nat):sizeAr (a::es) most n=if n<=most then (if 16 < a.vars.length then most+1 else sizeAr es most (n+jU a.body (most - n))) else n:=by cases a;rfl
theorem z1n {es:List Ex} {most n:Nat} (h:¬n<=most):sizeRs es most n=n:=by cases es <;> simp [sizeRs,h]
theorem sA {es:List Arm} {most n:Nat} (h:¬n<=most):sizeAr es most n=n:=by
 cases es with
 | nil=>rfl
 | cons a es=>rw [z1m,if_neg h]
theorem y4w {l:List Ex} {i most n:Nat} (h:¬(i < l.length/\n<=most)):sizeRs (l.drop i) most n=n:=by
 by_cases a:i < l.length
 ·exact z1n (fun g=>h ⟨a,g⟩)
 ·rw [List.drop_of_length_le (by omega)];rfl
theorem y4v {l:List Arm} {i most n:Nat} (h:¬(i < l.length/\n<=most)):sizeAr (l.drop i) most n=n:=by
 by_cases a:i < l.length
 ·exact sA (fun g=>h ⟨a,g⟩)
 ·rw [List.drop_of_length_le (by omega)];rfl
mutual
theorem mG:∀(e:Ex) (most:Nat),1<=jU e most/\jU e most<=most+1
 | .mk _ _ _ args arms,most=>by
  have h1:=sizeRs_le args most 1 (by omega) (by omega)
  have a:=sizeAr_le arms most (sizeRs args most 1) h1.1 h1.2
  exact a
theorem sizeRs_le:∀(es:List Ex) (most n:Nat),1<=n->n<=most+1->1<=sizeRs es most n/\sizeRs es most n<=most+1
 | [],most,n,h,h'=>⟨h,h'⟩
 | e::es,most,n,h,h'=>by
  simp only [sizeRs]
  split
  ·have:=mG e (most - n)
   exact sizeRs_le es most _ (by omega) (by omega)
  ·exact ⟨h,h'⟩
theorem sizeAr_le:∀(es:List Arm) (most n:Nat),1<=n->n<=most+1->1<=sizeAr es most n/\sizeAr es most n<=most+1
 | [],most,n,h,h'=>⟨h,h'⟩
 | .mk _ vs b::es,most,n,h,h'=>by
  simp only [sizeAr]
  split
  ·split
   ·omega
   ·have:=mG b (most - n)
    exact sizeAr_le es most _ (by omega) (by omega)
  ·exact ⟨h,h'⟩
end
def dQ (ps:List Param) (n:Bs):Option Bs:=ps.foldl (fun r p=>if p.name=n then some p.type else r) none
theorem z1a (ps:List Param) (p:Param) (n:Bs):dQ (ps++[p]) n=if p.name=n then some p.type else dQ ps n:=by simp [dQ]
def z7j (ps:List Param) (n:Bs):Option Bs:=match ps with
 | []=>none
 | p::l=>if p.name=n then some p.type else z7j l n
def noT:Bs×Bool:=(sNo,false)
def opR (name:Bs):Option Bs :=
 if oR [⟨#[43]⟩,⟨#[45]⟩,⟨#[42]⟩,⟨#[47]⟩,⟨#[37]⟩] name=true then some yA
 else if name=⟨#[60]⟩∨name=⟨#[61]⟩ then some vS else none
def wG (c:Core) (kind:Int) (name:Bs):Option (List Bs×Bs) :=
 if kind=4 then (nH c.datas name).map fun m=>(m.con.fields,m.data)
 else if kind=5 then (match dZ c.funs name with
  | none=>none
  | some i=>(c.funs[i]?).map fun f=>(f.params.map Param.type,f.result))
 else if kind=8 then (opR name).map fun t=>([yA,yA],t)
 else none
def jF (vs fs:List Bs):List Param:=(vs.zip fs).map fun x=>⟨x.1,x.2⟩
mutual
def zQ (c:Core):Ex->List Param->Bs×Bool
 | .mk kind num name args arms,vars=>
  if (kind≠7/\0 < arms.length)∨(kind≠1/\num≠0) then noT
  else if kind=1 then (yA,decide (name=sNo)&&decide (args.length=0))
  else if kind=2 then (match dQ vars name with | some t=>(t,decide (args.length=0)) | none=>noT)
  else if kind=3 then (match z7j c.inputs name with | some t=>(t,decide (args.length=0)) | none=>noT)
  else if kind=6 then letR c name args vars
  else if kind=7 then
   if args.length≠1∨name≠sNo then noT
   else if (firstR c args vars).2=false then noT
   else match yD c.datas (firstR c args vars).1 with
    | none=>noT
    | some d=>if d.cons.length≠arms.length then noT else armsR c arms d.cons true sNo vars
  else if (typesR c args vars).2=false then noT
  else match wG c kind name with
   | none=>noT
   | some w=>if w.1=(typesR c args vars).1 then (w.2,true) else noT
def letR (c:Core) (name:Bs):List Ex->List Param->Bs×Bool
 | [],_=>noT
 | a::l,vars=>if (zQ c a vars).2=false∨l.length≠1 then noT else firstR c l (vars++[⟨name,(zQ c a vars).1⟩])
def firstR (c:Core):List Ex->List Param->Bs×Bool
 | [],_=>noT
 | a::_,vars=>zQ c a vars
def typesR (c:Core):List Ex->List Param->List Bs×Bool
 | [],_=>([],true)
 | e::es,vars=>if (zQ c e vars).2=false then ([],false) else ((zQ c e vars).1::(typesR c es vars).1,(typesR c es vars).2)
def armsR (c:Core):List Arm->List Con->Bool->Bs->List Param->Bs×Bool
 | [],_,_,out,_=>(out,true)
 | .mk con vs body::az,cs,first,out,vars=>
  if con≠(cs.headD z9e).name∨vs.length≠(cs.headD z9e).fields.length then noT
  else if (zQ c body (vars++jF vs (cs.headD z9e).fields)).2=false∨(first=false/\(zQ c body (vars++jF vs (cs.headD z9e).fields)).1≠out) then noT
  else armsR c az cs.tail false (zQ c body (vars++jF vs (cs.headD z9e).fields)).1 vars
end
def uX (ds:List Data):List Con->List Bs->Bool
 | [],_=>true
 | x::xs,seen=>conR x.name && !oR seen x.name&&x.fields.all (jH ds)&&uX ds xs (seen++[x.name])
def cB (ds:List Data):List Data->List Bs->List Bs->Bool
 | [],_,_=>true
 | d::l,names,cons=>conR d.name && !oR names d.name&&decide (d.cons.length≠0)&&uX ds d.cons cons&&cB ds l (names++[d.name]) (cons++d.cons.map Con.name)
def z2c (ds:List Data):Bool:=cB ds ds [yA,vS] [oN,z1l]
def dR:List Fun->Nat->Bool
 | [],n=>decide (6000 < n)
 | f::fs,n=>if 16 < f.params.length then true else dR fs (if n<=6000 then n+jU f.body (6000 - n) else n)
def oX (c:Core):Bool :=
 decide (60 < c.datas.length) || decide (6 < c.inputs.length) || decide (300 < c.funs.length) || decide (6 < c.outputs.length) || c.datas.any gA || dR c.funs 0
def aW (l:List Bs):Bool:=pH z3d [] l
def kG (ds:List Data) (f:Fun):Bool:=f.params.all (fun p=>jH ds p.type)&&jH ds f.result&&aW (f.params.map Param.name++zP f.body)
def pZ (c:Core) (f:Fun):Bool:=(zQ c f.body f.params).2&&decide ((zQ c f.body f.params).1=f.result)
def z9v (fs:List Fun) (o:Bs):Bool:=match dZ fs o with
 | none=>false
 | some i=>match fs[i]? with | some f=>decide (f.params.length=0) | none=>false
def vR (c:Core):Bool :=
 z2c c.datas&&decide (c.outputs.length≠0)&&c.inputs.all (fun p=>jY c.datas p.type)&&aW (c.inputs.map Param.name) &&
 c.funs.all (kG c.datas)&&aW (c.funs.map Fun.name)&&aW c.outputs&&c.funs.all (pZ c)&&c.outputs.all (z9v c.funs)
def nG (c:Core):Int:=if c.funs.any (fun f=>xG 250 f.body) then 6 else if oX c then 2 else if vR c then 0 else 80
mutual
def vE:Val->Nat->Nat
 | .mk _ _ args,most=>vsizeRs args most 1
def vsizeRs:List Val->Nat->Nat->Nat
 | [],_,n=>n
 | e::es,most,n=>if n<=most then vsizeRs es most (n+vE e (most - n)) else n
end
theorem j8k (v:Val) (most:Nat):vE v most=vsizeRs v.args most 1:=by cases v;rfl
theorem q2y (e:Val) (es:List Val) (most n:Nat):vsizeRs (e::es) most n=if n<=most then vsizeRs es most (n+vE e (most - n)) else n:=rfl
theorem uQ {es:List Val} {most n:Nat} (h:¬n<=most):vsizeRs es most n=n:=by cases es <;> simp [vsizeRs,h]
theorem z9l {l:List Val} {i most n:Nat} (h:¬(i < l.length/\n<=most)):vsizeRs (l.drop i) most n=n:=by
 by_cases a:i < l.length
 ·exact uQ (fun g=>h ⟨a,g⟩)
 ·rw [List.drop_of_length_le (by omega)];rfl
mutual
theorem z2s:∀(e:Val) (most:Nat),1<=vE e most/\vE e most<=most+1
 | .mk _ _ args,most=>vsizeRs_le args most 1 (by omega) (by omega)
theorem vsizeRs_le:∀(es:List Val) (most n:Nat),1<=n->n<=most+1->1<=vsizeRs es most n/\vsizeRs es most n<=most+1
 | [],most,n,h,h'=>⟨h,h'⟩
 | e::es,most,n,h,h'=>by
  simp only [vsizeRs]
  split
  ·have:=z2s e (most - n)
   exact vsizeRs_le es most _ (by omega) (by omega)
  ·exact ⟨h,h'⟩
end
def z7n (v:Val):Bool:=decide (4000 < vE v 4000)
mutual
def pK (ds:List Data):Val->Bs->Bool
 | .mk con num args,name=>
  if name=yA then decide (con=sNo)&&decide (args.length=0)
  else match yD ds name with
   | none=>false
   | some d=>if num≠0 then false else match xN d.cons con with
    | none=>false
    | some x=>decide (args.length=x.fields.length)&&isValsR ds args x.fields
def isValsR (ds:List Data):List Val->List Bs->Bool
 | [],_=>true
 | v::vs,fs=>pK ds v (fs.headD sNo)&&isValsR ds vs fs.tail
end
def wJ (c:Core) (name:Bs) (v:Val):Int :=
 if nG c≠0 then nG c else if jH c.datas name=false then 80 else if z7n v then 7 else if pK c.datas v name=false then 8 else 0
def nJ (ds:List Data):List Named->List Param->Bool
 | [],_=>true
 | _::_,[]=>true
 | x::xs,p::ps=>decide (x.name=p.name) && !z7n x.value&&pK ds x.value p.type&&nJ ds xs ps
def vA (c:Core) (l:List Named):Int :=
 if nG c≠0 then nG c else if l.length≠c.inputs.length then 8 else if nJ c.datas l c.inputs then 0 else 8
mutual
theorem z0l:∀(e:Ex) (l:Int),(qS e l).1=false->((qI e).length:Int)<=l - (qS e l).2
 | .mk k n s args arms,l=>by
  intro h
  simp only [qS] at h ⊢
  split at h
  ·cases h
  ·rename_i hl
   rw [if_neg hl]
   cases N:meass args (l - 1) with
   | mk b q=>
    rw [N] at h
    cases b with
    | true=>cases h
    | false=>
     have a:=calledPs_len args (l - 1) (by rw [N])
     have d:=calledPa_len arms q h
     rw [N] at a
     simp only [qI,laQ] at a ⊢
     have i:(if k=5 then [s] else []).length<=1:=by split <;> simp
     omega
theorem calledPs_len:∀(es:List Ex) (l:Int),(meass es l).1=false->((calledPs es).length:Int)<=l - (meass es l).2
 | [],l=>by intro _;simp [calledPs,meass]
 | e::es,l=>by
  intro h
  simp only [meass] at h ⊢
  cases N:qS e l with
  | mk b q=>
   rw [N] at h
   cases b with
   | true=>cases h
   | false=>
    have a:=z0l e l (by rw [N])
    have d:=calledPs_len es q h
    rw [N] at a
    simp only [calledPs,laQ] at a ⊢
    omega
theorem calledPa_len:∀(es:List Arm) (l:Int),(measa es l).1=false->((calledPa es).length:Int)<=l - (measa es l).2
 | [],l=>by intro _;simp [calledPa,measa]
 | .mk c vs b::es,l=>by
  intro h
  simp only [measa] at h ⊢
  split at h
  ·cases h
  ·rename_i f
   rw [if_neg f]
   cases N:qS b l with
   | mk g q=>
    rw [N] at h
    cases g with
    | true=>cases h
    | false=>
     have a:=z0l b l (by rw [N])
     have d:=calledPa_len es q h
     rw [N] at a
     simp only [calledPa,laQ] at a ⊢
     omega
end
theorem uL {e:Ex} (h:pT e):(qI e).length<=6000:=by
 obtain ⟨l,h1,a⟩:=h
 have:=z0l e l a
 have:=(kH e l a).1
 omega
inductive Reach (T:Table) (s:Bs):Bs->Prop
 | refl:Reach T s s
 | step {x y:Bs}:Reach T s x->y∈jK T x->Reach T s y
def wZ (T:Table) (n:Bs):Prop:=∃x,Reach T n x/\xO (sY T x)=true
theorem Reached.mem {T:Table} {n:Bs} {ds:List Bs} (h:Reached T [n] ds) {x:Bs} (a:Reach T n x):x∈ds:=by
 induction a with
 | refl=>exact h.starts n (by simp)
 | step _ b c=>exact h.closed _ c _ b
theorem Reached.reach {T:Table} {n:Bs} {ds:List Bs} (h:Reached T [n] ds) {x:Bs} (b:x∈ds):Reach T n x :=
 h.least (Reach T n) (by simp;exact .refl) (fun _ h1 _ a=>.step h1 a) x b
def kU (r:Nat->Ev Val) (fu:Nat):Except Nat (Val×Nat) :=
 if fu < 1 then .error 4 else match r (fu - 1) with
  | .ok v g=>if vU v then .error 7 else .ok (v,g)
  | _=>.error 4
theorem q1i {r:Nat->Ev Val} {fu:Nat} (h:fu < 1):kU r fu=.error 4:=by simp [kU,h]
theorem y6c {r:Nat->Ev Val} {fu:Nat} (h:¬fu < 1) {v:Val} {g:Nat} (hr:r (fu - 1)=.ok v g) (hl:vU v=true):kU r fu=.error 7:=by simp [kU,h,hr,hl]
theorem y0q {r:Nat->Ev Val} {fu:Nat} (h:¬fu < 1) {v:Val} {g:Nat} (hr:r (fu - 1)=.ok v g) (hl:vU v=false):kU r fu=.ok (v,g):=by simp [kU,h,hr,hl]
theorem y6d {r:Nat->Ev Val} {fu:Nat} (h:¬fu < 1) (hr:r (fu - 1)=.spent):kU r fu=.error 4:=by simp [kU,h,hr]
theorem q3w {r:Nat->Ev Val} {fu c:Nat} (h:kU r fu=.error c):c≠0:=by
 unfold kU at h
 split at h
 ·cases h;decide
 ·split at h
  ·split at h
   ·cases h;decide
   ·cases h
  ·cases h;decide
theorem outE {α ε:Type} {r:Except ε α} {x:α} {A:α->Prop} {B:ε->Prop} (h:r=.ok x) (a:A x):Out r A B:=by subst h;exact a
theorem outEE {α ε:Type} {r:Except ε α} {x:ε} {A:α->Prop} {B:ε->Prop} (h:r=.error x) (a:B x):Out r A B:=by subst h;exact a
open Classical in
noncomputable def qB (c:Core) (name:Bs) (args:List Val) (fuel:Int):Val×Int×Int :=
 if yP c≠0 then (v0,0,yP c)
 else if fuel < 0∨200000 < fuel then (v0,0,1)
 else match zN (zH c).funs name with
  | none=>(v0,0,3)
  | some f=>
   if dO (zH c) args f.params=false then (v0,0,8)
   else if wZ (zH c) name then (v0,0,8)
   else match kU (xY (qM ⟨(zH c).funs,[]⟩) f args) fuel.toNat with
    | .ok (v,g)=>(v,((fuel.toNat - g:Nat):Int),0)
    | .error e=>(v0,0,((e:Nat):Int))
def univ (c:Core) (n:Bs):List Bs:=n::c.funs.flatMap fun f=>qI f.body
theorem y2k {α β:Type} {f:α->List β} {M:Nat}:∀{l:List α},(∀x∈l,(f x).length<=M)->(l.flatMap f).length<=l.length * M
 | [],_=>by simp
 | x::l,h=>by
  have h1:=h x msQ
  have b:=y2k (l:=l) (fun y a=>h y (mcQ _ a))
  simp only [List.flatMap_cons,laQ,lcQ,Nat.add_mul];omega
theorem tZ {c:Core} (h:yP c=0):(∀x,(jK (zH c) x).length<=6000)/\(∀n x,∀y∈jK (zH c) x,y∈univ c n)/\∀n,(univ c n).length<=2000000:=by
 obtain ⟨hl,hr⟩:=mC h
 have d:wV c=true:=by simp only [qR,baQ] at hr;exact hr.1.1.1.1.1
 have e:c.funs.length<=300:=by
  simp only [xS,Bool.or_eq_false_iff,decide_eq_false_iff_not] at hl
  omega
 refine ⟨fun x=>?_,fun n x y b=>?_,fun n=>?_⟩
 ·unfold jK sY
  cases a:zN (zH c).funs x with
  | none=>simp [ex0,qI,calledPs,calledPa]
  | some f=>exact uL (cH hl (dJ d a))
 ·unfold jK sY at b
  cases a:zN (zH c).funs x with
  | none=>rw [a] at b;simp [ex0,qI,calledPs,calledPa] at b
  | some f=>
   rw [a] at b
   exact mcQ _ (List.mem_flatMap.2 ⟨f,dJ d a,b⟩)
 ·have:=y2k (l:=c.funs) (f:=fun f=>qI f.body) (M:=6000) (fun f a=>uL (cH hl a))
  simp only [univ,lcQ]
  have:c.funs.length * 6000<=300 * 6000:=Nat.mul_le_mul_right _ e
  omega
structure RNo (T:Table) (es:Array MapEntry) (seen:Array Nat):Prop where
 no:∀e∈es.toList,e∈vF es seen∨∃s,e.key=.string s/\xO (sY T s)=false
theorem RNo.start {T:Table} {es:Array MapEntry}:RNo T es #[]:=⟨fun e h=>.inl (by rw [z7p];exact h)⟩
theorem RNo.next {T:Table} {es:Array MapEntry} {seen:Array Nat} {clock:Nat} {m:List (Bs×Value)} {e:MapEntry} {s:Bs} (h:RNo T es seen) (a:MapOk es clock m) (J:e∈vF es seen) (d:e.key=.string s) (hr:xO (sY T s)=false):RNo T es (seen.push e.born) :=
 ⟨fun x c=>by
  rcases h.no x c with h1 | h1
  ·by_cases hb:x.born=e.born
   ·have b:=find_born x es.toList a.nodup c
    have a2:=find_born e es.toList a.nodup (leftE_mem.1 J).1
    rw [hb] at b;rw [b] at a2
    have:=Option.some.inj a2
    subst this
    exact .inr ⟨s,d,hr⟩
   ·exact .inl (leftE_push.2 ⟨h1,hb⟩)
  ·exact .inr h1⟩
theorem RNo.none {T:Table} {n:Bs} {ds:List Bs} {es:Array MapEntry} {seen:Array Nat} {clock:Nat} (h:RNo T es seen) (b:MapOk es clock (jD ds)) (f:Reached T [n] ds) (hl:vF es seen=[]):¬wZ T n:=by
 rintro ⟨x,h1,d⟩
 obtain ⟨v,i⟩:=(uJ ds x).2 (f.mem h1)
 obtain ⟨e,J,g⟩:=y9m b i
 rcases h.no e J with a | ⟨s,a,c⟩
 ·rw [hl] at a;cases a
 ·rw [g] at a;cases a;rw [d] at c;cases c
theorem q0c {T:Table} {n s:Bs} {v:Value} {ds:List Bs} (a:Reached T [n] ds) (N:(s,v)∈jD ds) (hr:xO (sY T s)=true):wZ T n :=
 ⟨s,a.reach ((uJ ds s).1 ⟨v,N⟩),hr⟩
end Go.Sw

namespace Go.Sw
open Go.Proofs.Tryz
open Go.Proofs
set_option maxRecDepth 20000
set_option maxHeartbeats 4000000
theorem y4n {V:Fz} {K:List Res} {w:World} {d0:List Value} {v1:Value} {c:Core} {l:List Named} {fuel:Int} (n:RCore V d0 c) (rl:SliceOf RNamed V 4 v1 l) (G:Glob V) (N:Mem V K w) :
  Calls prog 15 #[.agg d0.toArray,v1,.int .i64 fuel] w (fun ee w'=>∃y:Fz×List Value,ee=.returned (.tuple #[.agg y.2.toArray,.int .i64 (z0f c l fuel).2])/\(V.Le y.1/\ROutcome y.1 y.2 (z0f c l fuel).1/\∀v s,y.2=[v,s]->NewRow V v)/\Mem y.1 K w'):=by
 obtain ⟨p3,c4,p9,Z0,k1,a1,l1,c22,rfl,h2,h8,b1,e1,i1,j1,E0,I0,F0,J0,G0,K0⟩:=RCore.fm n
 obtain ⟨p1,c1,rfl,h1,t0⟩:=rl.fm
 refine zM func15 ntmps15 fun Q Y a J=>?_
 refine Bx J N fun P0 w N a J=>?_
 refine Bx J N fun Q0 w N a J=>?_
 refine Alc J N fun R0 w N a J=>?_
 refine qH call43 J N (fun w0 w f0 N a J=>?_) (c:=z5i n G N)
 obtain ⟨j,m1⟩:=w0
 obtain ⟨d,H⟩:=f0
 simp only at d H N J
 replace n:=RCore.mono _ _ _ _ d n
 replace G:=G.mono d
 replace rl:=rl.up d
 replace N:=N.nf
 by_cases b:yP c=0
 obtain ⟨t,j0⟩:=H b
 rw [if_pos b,b] at J
 refine Alc J N fun S0 w N a J=>?_
 refine Sto 0 J N fun w N a J=>?_
 refine Qq J N (fun a J=>?_) (o:=by exact fun _ _ _ J O=>cV false J rfl rfl rfl)
 refine go J N fun a J=>?_
 by_cases S:fuel < 0
 refine yE J N fun a J=>?_
 refine Sto 1 J N fun w N a J=>?_
 refine go J N fun a J=>?_
 have f:=N
 replace N:=N.dl [3,2,1,0]
 refine Y _ _ _ (uI (i:=1) (cs:=[.slice none 0 0,.int .i64 ((0:Nat):Int)]) J f.toSees results15 rfl rfl isAgg30 sizeOf30 rfl rfl ?_)
 have g:z0f c l (fuel)=(y7c,1):=by
  simp only [z0f,if_neg (not_not_intro b)];rw [if_pos (by have h_:=S;omega)] <;> rfl
 rw [g]
 exact ⟨(j,_),rfl,⟨d,⟨_,rfl,SliceOf.nil 4⟩,fun _ _ A=>by cases A;exact NewRow.nil⟩,N⟩
 refine go J N fun a J=>?_
 by_cases T:200000 < fuel
 refine yE J N fun a J=>?_
 refine Sto 1 J N fun w N a J=>?_
 refine go J N fun a J=>?_
 have f:=N
 replace N:=N.dl [3,2,1,0]
 refine Y _ _ _ (uI (i:=1) (cs:=[.slice none 0 0,.int .i64 ((0:Nat):Int)]) J f.toSees results15 rfl rfl isAgg30 sizeOf30 rfl rfl ?_)
 have g:z0f c l (fuel)=(y7c,1):=by
  simp only [z0f,if_neg (not_not_intro b)];rw [if_pos (by have h_:=T;omega)] <;> rfl
 rw [g]
 exact ⟨(j,_),rfl,⟨d,⟨_,rfl,SliceOf.nil 4⟩,fun _ _ A=>by cases A;exact NewRow.nil⟩,N⟩
 refine zW call44 J N (fun D w N a J=>?_) (fun D w N a J=>?_) (c:=q4y t rl N)
 refine go J N fun a J=>?_
 have E:vP (zH c) l c.inputs=true:=D
 have B0:fuel<=200000:=by have h_:=T;omega
 have i0:0<=fuel:=by have h_:=S;omega
 have M:=N
 have I:=J
 clear N J
 obtain ⟨fu,rfl⟩:=Int.eq_ofNat_of_zero_le i0
 have N:=M
 have J:=I
 clear M I
 refine Alc J N fun T0 w N a J=>?_
 refine Alc J N fun U0 w N a J=>?_
 refine Alc J N fun V0 w N a J=>?_
 refine MkM J N fun Z w N a J=>?_
 refine Alc J N fun W0 w N a J=>?_
 refine Sto 0 J N fun w N a J=>?_
 refine go J N fun a J=>?_
 refine zV (J.ks [3,5,6,8,10,11,12,13,41,42]) N (fun R mm a w=>∃(i:Nat) (mv:List (Bs×Value)) (lv:List (Bs×Val)),mm=l.length - i/\R j [(43,.int .i64 ((i:Nat):Int))] [(1,.mp Z mv)] a w/\(inpP l=(l.drop i).foldl (fun m x=>wH m x.name x.value) lv/\MapRel (RVa RVal j) mv lv)) (l.length - 0) ⟨0,[],[],rfl,⟨J.pk,N⟩,⟨rfl,MapRel.nil⟩⟩ ?_
 clear N J
 rintro mm a w ⟨i,mv,lv,s0,⟨J,N⟩,r⟩ O0 h0
 replace N:=N.nf
 obtain ⟨r,rv⟩:=r
 refine go J N fun a J=>?_
 by_cases c0:i < l.length
 refine go J N fun a J=>?_
 obtain ⟨n1,rfl,B,l0,z0,D0,A0,k0⟩:=rl.el t0 c0
 obtain ⟨X0,rfl,e0⟩:=id k0
 obtain ⟨u0,q0,rfl,C0,g1,H0,L0⟩:=RVal.fm e0
 refine Alc J N fun Y0 w N a J=>?_
 refine Sto 0 J N fun w N a J=>?_
 refine z4h 2 runUnderlying94 runUnderlying9 J N fun w N a J=>?_
 refine go J N fun a J=>?_
 replace N:=N.dl [0]
 refine h0 _ _ _ (by subst s0;omega) ⟨(i+1),((aA mv B.name (.agg #[.string B.value.con,.int .i64 (B.value.num),.slice u0 B.value.args.length q0]))),((wH lv B.name B.value)),rfl,⟨J.pk,N⟩,?_⟩
 refine ⟨?_,(rv.put ⟨_,rfl,e0⟩)⟩
 rw [r,zA l0];rfl
 refine go J N fun a J=>?_
 have L:=N
 clear N
 obtain ⟨P,h,N,U⟩:=L.freezeMap (i:=1) rfl
 clear L
 replace n:=RCore.mono _ _ _ _ h n
 replace G:=G.mono h
 replace t:=t.mono h
 replace rv:=rv.up h
 replace N:=N.nf
 have X:RGiven P (.map (some Z)) (inpP l):=by
  have A:inpP l=lv:=by rw [r,zE c0];rfl
  rw [A];exact .inl ⟨_,_,rfl,U,rv⟩
 replace N:=N.nf
 refine go J N fun a J=>?_
 replace N:=N.ar [] [3,2,3,6,4,5,7]
 refine st J rfl rfl rfl (z6z J rfl call45 (j1n (inp:=inpP l) n t X (z2o b) (j6v b) (by omega) (run_ns b E fu) N) (fun W x0 w z g0 N a J=>?_) (fun W w z N a J=>?_))
 obtain ⟨F,b0⟩:=W
 obtain ⟨n0,o1,C,N0⟩:=x0
 obtain ⟨q,p,u,k,e⟩:=g0
 simp only at q p u k e N J
 replace e:=e.anti ((d).trans h)
 obtain ⟨m0,a0,rfl,o0,p0⟩:=k.fm
 replace n:=RCore.mono _ _ _ _ q n
 replace G:=G.mono q
 replace X:=RGiven.mono q X
 replace N:=N.nf
 refine Qq J N (fun a J=>?_) (o:=by exact fun _ _ _ J O=>cV false J rfl rfl rfl)
 replace N:=N.pl 1
 refine zS call47 J N (fun w N a J=>?_) (c:=y5h (l:=C) (by have h_:=u;omega) N)
 refine Sto 2 J N fun w N a J=>?_
 refine Sto 3 J N fun w N a J=>?_
 refine go J N fun a J=>?_
 have f:=N
 replace N:=N.dl [3,2,1,0]
 refine Y _ _ _ (uI (i:=3) (cs:=[.slice m0 (mD c.outputs F).length a0,.int .i64 ((dV C))]) J f.toSees results15 rfl rfl isAgg30 sizeOf30 rfl rfl ?_)
 have g:z0f c l (((fu:Nat):Int))=(⟨mD c.outputs F,((fu - b0:Nat):Int)⟩,((0:Nat):Int)):=by
  simp only [z0f,if_neg (not_not_intro b)]
  rw [if_neg (by omega),if_neg (by rw [E];decide),Int.toNat_natCast,z] <;> rfl
 rw [g]
 exact ⟨(n0,_),rfl,⟨((d).trans h).trans q,⟨_,by rw [show (⟨mD c.outputs F,((fu - b0:Nat):Int)⟩:Outcome).steps=dV C from p.symm],k⟩,fun _ _ A=>by cases A;exact e⟩,N⟩
 have r0:=x0b z
 replace N:=N.nf
 refine yE J N fun a J=>?_
 refine Sto 0 J N fun w N a J=>?_
 refine go J N fun a J=>?_
 have f:=N
 replace N:=N.dl [0]
 refine Y _ _ _ (uI (i:=0) (cs:=[.slice none 0 0,.int .i64 ((0:Nat):Int)]) J f.toSees results15 rfl rfl isAgg30 sizeOf30 rfl rfl ?_)
 have g:z0f c l (((fu:Nat):Int))=(y7c,((W:Nat):Int)):=by
  simp only [z0f,if_neg (not_not_intro b)]
  rw [if_neg (by omega),if_neg (by rw [E];decide),Int.toNat_natCast,z] <;> rfl
 rw [g]
 exact ⟨(P,_),rfl,⟨(d).trans h,⟨_,rfl,SliceOf.nil 4⟩,fun _ _ A=>by cases A;exact NewRow.nil⟩,N⟩
 refine yE J N fun a J=>?_
 refine Sto 1 J N fun w N a J=>?_
 refine go J N fun a J=>?_
 have f:=N
 replace N:=N.dl [3,2,1,0]
 refine Y _ _ _ (uI (i:=1) (cs:=[.slice none 0 0,.int .i64 ((0:Nat):Int)]) J f.toSees results15 rfl rfl isAgg30 sizeOf30 rfl rfl ?_)
 have g:z0f c l (fuel)=(y7c,8):=by
  simp only [z0f,if_neg (not_not_intro b)];rw [if_neg (by have d1:=T;have f1:=S;omega),if_pos (show vP (zH c) l c.inputs=false from D)] <;> rfl
 rw [g]
 exact ⟨(j,_),rfl,⟨d,⟨_,rfl,SliceOf.nil 4⟩,fun _ _ A=>by cases A;exact NewRow.nil⟩,N⟩
 rw [if_neg b] at J
 refine Alc J N fun y0 w N a J=>?_
 refine Sto 0 J N fun w N a J=>?_
 refine yE J N fun a J=>?_
 refine Sto 1 J N fun w N a J=>?_
 refine go J N fun a J=>?_
 have f:=N
 replace N:=N.dl [3,2,1,0]
 refine Y _ _ _ (uI (i:=1) (cs:=[.slice none 0 0,.int .i64 ((0:Nat):Int)]) J f.toSees results15 rfl rfl isAgg30 sizeOf30 rfl rfl ?_)
 have g:z0f c l (fuel)=(y7c,yP c):=by
  simp only [z0f,if_pos b]
 rw [g]
 exact ⟨(j,_),rfl,⟨d,⟨_,rfl,SliceOf.nil 4⟩,fun _ _ A=>by cases A;exact NewRow.nil⟩,N⟩
theorem j7u {V:Fz} {K:List Res} {w:World} {d0:List Value} {b:Value} {c:Core} {l:List Named} {fuel:Int} (a:RCore V d0 c) (rl:SliceOf RNamed V 4 b l) (G:Glob V) (N:Mem V K w) :
  Calls prog 15 #[.agg d0.toArray,b,.int .i64 fuel] w (fun ee w'=>∃y:Fz×List Value,ee=.returned (.tuple #[.agg y.2.toArray,.int .i64 (z0f c l fuel).2])/\(V.Le y.1/\ROutcome y.1 y.2 (z0f c l fuel).1)/\Mem y.1 K w'):=by
 refine (y4n a rl G N).mono fun ee w' h=>?_
 obtain ⟨y,h1,⟨d,e,_⟩,f⟩:=h
 exact ⟨y,h1,⟨d,e⟩,f⟩
theorem q3z {V:Fz} {K:List Res} {w:World} {d:List Value} {e:Ex} {b:Nat} {ds:List Bs} (re:REx V d e) (M:∀x:Ex,x.sz < e.sz->∀{V:Fz} {K:List Res} {w:World} {d:List Value} {b:Nat} {ds:List Bs},REx V d x->Mem V (.mp b (jD ds)::K) w->Calls prog 93 #[.agg d.toArray,.map (some b)] w (fun ee w'=>ee=.returned (.tuple #[])/\Mem V (.mp b (jD (ds++qI x))::K) w')) (N:Mem V (.mp b (jD ds)::K) w) :
  Calls prog 93 #[.agg d.toArray,.map (some b)] w (fun ee w'=>ee=.returned (.tuple #[])/\Mem V (.mp b (jD (ds++qI e))::K) w'):=by
 obtain ⟨p3,c4,p9,n1,rfl,I0,h2,h8,v1,H,N0,q⟩:=REx.fm re
 refine zM func93 ntmps93 fun Q hQ a J=>?_
 refine Bx J N fun j1 w N a J=>?_
 refine go J N fun a J=>?_
 by_cases q1:e.kind=5
 refine z4h 1 runUnderlying121 runUnderlying9 J N fun w N a J=>?_
 rw [<- uK] at N
 refine go J N fun a J=>?_
 refine zV (J.ks [1,2,15,16]) N (fun R mm a w=>∃(i:Nat) (d1:List Bs),mm=e.args.length - i/\R V [(17,.int .i64 ((i:Nat):Int))] [(1,.mp b (jD d1))] a w/\(ds++qI e=d1++(calledPs (e.args.drop i)++calledPa e.arms))) (e.args.length - 0) ⟨0,(ds++[e.name]),rfl,⟨J.pk,N⟩,by rw [gZ];simp [*]⟩ ?_
 clear N J
 rintro mm a w ⟨i,d1,f,⟨J,N⟩,n⟩ g1 E
 replace N:=N.nf
 refine go J N fun a J=>?_
 by_cases A:i < e.args.length
 refine go J N fun a J=>?_
 obtain ⟨B1,rfl,l0,s,x0,L0,G0,r⟩:=h2.el H A
 obtain ⟨w1,c38,x1,o1,rfl,J0,r1,s1,O0,T0,P0,U0⟩:=REx.fm r
 refine Alc J N fun k1 w N a J=>?_
 refine Sto 0 J N fun w N a J=>?_
 replace N:=N.pl 2
 refine zS call93 J N (fun w N a J=>?_) (c:=M _ (Ex.lt_args (mgQ s)) r N)
 refine go J N fun a J=>?_
 replace N:=N.ar [1] [1]
 refine E _ _ _ (by subst f;omega) ⟨(i+1),((d1++qI l0)),rfl,⟨J.pk,N⟩,?_⟩
 rw [n,zA s];simp [calledPs]
 refine go J N fun a J=>?_
 refine zV (J.ks [1,26,27]) N (fun R mm a w=>∃(k:Nat) (d2:List Bs),mm=e.arms.length - k/\R V [(28,.int .i64 ((k:Nat):Int))] [(1,.mp b (jD d2))] a w/\(ds++qI e=d2++calledPa (e.arms.drop k))) (e.arms.length - 0) ⟨0,d1,rfl,⟨J.pk,N⟩,by rw [n,zE A];simp [calledPs]⟩ ?_
 clear N J
 rintro mm a w ⟨k,d2,f,⟨J,N⟩,o⟩ h1 F
 replace N:=N.nf
 refine go J N fun a J=>?_
 by_cases B:k < e.arms.length
 refine go J N fun a J=>?_
 obtain ⟨C1,rfl,m0,t,y0,M0,H0,I⟩:=h8.el q B
 obtain ⟨E1,l1,rfl,T,C⟩:=RArm.iff.1 I
 obtain ⟨y1,c68,rfl,Q0,V0⟩:=T.fm
 obtain ⟨z1,c76,A1,p1,rfl,K0,t1,u1,R0,W0,S0,X0⟩:=REx.fm C
 refine Alc J N fun m1 w N a J=>?_
 refine Sto 0 J N fun w N a J=>?_
 replace N:=N.pl 2
 refine zS call93 J N (fun w N a J=>?_) (c:=M _ (Ex.lt_arms (mgQ t)) C N)
 refine go J N fun a J=>?_
 replace N:=N.ar [1] [1]
 refine F _ _ _ (by subst f;omega) ⟨(k+1),((d2++qI m0.body)),rfl,⟨J.pk,N⟩,?_⟩
 rw [o,zA t,sH];simp
 refine go J N fun a J=>?_
 replace N:=N.dl [0]
 refine hQ _ _ _ (aU J results93 ?_)
 rw [show ds++qI e=d2 by rw [o,zE B];simp [calledPa]]
 exact ⟨rfl,N⟩
 refine go J N fun a J=>?_
 refine zV (J.ks [1,2,15,16]) N (fun R mm a w=>∃(i:Nat) (d1:List Bs),mm=e.args.length - i/\R V [(17,.int .i64 ((i:Nat):Int))] [(1,.mp b (jD d1))] a w/\(ds++qI e=d1++(calledPs (e.args.drop i)++calledPa e.arms))) (e.args.length - 0) ⟨0,ds,rfl,⟨J.pk,N⟩,by rw [gZ];simp [*]⟩ ?_
 clear N J
 rintro mm a w ⟨i,d1,f,⟨J,N⟩,p⟩ i1 G
 replace N:=N.nf
 refine go J N fun a J=>?_
 by_cases D:i < e.args.length
 refine go J N fun a J=>?_
 obtain ⟨D1,rfl,n0,u,P,Z,U,h⟩:=h2.el H D
 obtain ⟨Y0,s0,Z0,t0,rfl,X,z0,A0,b0,g0,c0,h0⟩:=REx.fm h
 refine Alc J N fun p0 w N a J=>?_
 refine Sto 0 J N fun w N a J=>?_
 replace N:=N.pl 2
 refine zS call93 J N (fun w N a J=>?_) (c:=M _ (Ex.lt_args (mgQ u)) h N)
 refine go J N fun a J=>?_
 replace N:=N.ar [1] [1]
 refine G _ _ _ (by subst f;omega) ⟨(i+1),((d1++qI n0)),rfl,⟨J.pk,N⟩,?_⟩
 rw [p,zA u];simp [calledPs]
 refine go J N fun a J=>?_
 refine zV (J.ks [1,26,27]) N (fun R mm a w=>∃(k:Nat) (d2:List Bs),mm=e.arms.length - k/\R V [(28,.int .i64 ((k:Nat):Int))] [(1,.mp b (jD d2))] a w/\(ds++qI e=d2++calledPa (e.arms.drop k))) (e.arms.length - 0) ⟨0,d1,rfl,⟨J.pk,N⟩,by rw [p,zE D];simp [calledPs]⟩ ?_
 clear N J
 rintro mm a w ⟨k,d2,f,⟨J,N⟩,g⟩ o0 v
 replace N:=N.nf
 refine go J N fun a J=>?_
 by_cases l:k < e.arms.length
 refine go J N fun a J=>?_
 obtain ⟨e1,rfl,L,j,S,a0,W,y⟩:=h8.el q l
 obtain ⟨f1,q0,rfl,z,m⟩:=RArm.iff.1 y
 obtain ⟨a1,u0,rfl,d0,i0⟩:=z.fm
 obtain ⟨b1,c145,c1,w0,rfl,Y,B0,C0,e0,j0,f0,k0⟩:=REx.fm m
 refine Alc J N fun r0 w N a J=>?_
 refine Sto 0 J N fun w N a J=>?_
 replace N:=N.pl 2
 refine zS call93 J N (fun w N a J=>?_) (c:=M _ (Ex.lt_arms (mgQ j)) m N)
 refine go J N fun a J=>?_
 replace N:=N.ar [1] [1]
 refine v _ _ _ (by subst f;omega) ⟨(k+1),((d2++qI L.body)),rfl,⟨J.pk,N⟩,?_⟩
 rw [g,zA j,sH];simp
 refine go J N fun a J=>?_
 replace N:=N.dl [0]
 refine hQ _ _ _ (aU J results93 ?_)
 rw [show ds++qI e=d2 by rw [g,zE l];simp [calledPa]]
 exact ⟨rfl,N⟩
theorem y7w {V:Fz} {K:List Res} {w:World} {d:List Value} {e:Ex} {b:Nat} {ds:List Bs} (re:REx V d e) (N:Mem V (.mp b (jD ds)::K) w) :
  Calls prog 93 #[.agg d.toArray,.map (some b)] w (fun ee w'=>ee=.returned (.tuple #[])/\Mem V (.mp b (jD (ds++qI e))::K) w'):=by
 suffices H:∀n (e:Ex),e.sz < n->∀{V:Fz} {K:List Res} {w:World} {d:List Value} {b:Nat} {ds:List Bs},REx V d e->Mem V (.mp b (jD ds)::K) w ->
   Calls prog 93 #[.agg d.toArray,.map (some b)] w (fun ee w'=>ee=.returned (.tuple #[])/\Mem V (.mp b (jD (ds++qI e))::K) w') from H _ e (Nat.lt_succ_self _) re N
 intro n
 induction n with
 | zero=>intro e h;omega
 | succ n a=>intro e h V K w d b ds re N;exact q3z re (fun x c _ _ _ _ _ _ r m=>a x (by omega) r m) N
theorem q6r {V:Fz} {K:List Res} {w:World} {p:Addr} {T:Table} {b off cap:Nat} {arr:Array Value} {start U:List Bs} (rT:RTableW V p T) (hq:QAt off cap arr start) (hl:start.length<=1000) (hU:∀x∈start,x∈U) (E1:U.length<=2000000) (hM:∀x,(jK T x).length<=6000) (hC:∀x,∀y∈jK T x,y∈U) (N:Mem V (qblk b arr::K) w) :
  Calls prog 62 #[.pointer (some p),qval b off cap start] w (fun ee w'=>∃y:Nat×List Bs,ee=.returned (.map (some y.1))/\Reached T start y.2/\Mem V (.mp y.1 (jD y.2)::K) w'):=by
 obtain ⟨z1,z2,z3,z4,m5,m6,m7,m8,d9,Y0,r0,m0,n0⟩:=rT.ex
 obtain ⟨F1,x1,rfl,Z0,k1⟩:=r0.fm
 refine zM func62 ntmps62 fun Q hQ a J=>?_
 refine MkM J N fun z0 w N a J=>?_
 replace N:=N.nf
 refine go J N fun a J=>?_
 refine zV (J.ks [0,5]) N (fun R mm a w=>∃(qb:Nat) (qo:Nat) (qc:Nat) (qa:Array Value) (l:List Bs) (ds:List Bs),mm=muR U ds l/\R V [(1,qval qb qo qc l)] [(0,.mp z0 (jD ds)),(1,qblk qb qa)] a w/\(QAt qo qc qa l/\RInv T U start ds l)) (muR U [] start) ⟨b,off,cap,arr,start,[],rfl,⟨J.pk,N⟩,⟨hq,RInv.start hU hl⟩⟩ ?_
 clear N J
 rintro mm a w ⟨qb,qo,qc,qa,l,ds,D,⟨J,N⟩,E0⟩ t1 W
 replace N:=N.nf
 obtain ⟨u0,k⟩:=E0
 refine go J N fun a J=>?_
 by_cases q0:0 < l.length
 refine go J N fun a J=>?_
 obtain ⟨g,m⟩:=qX q0
 refine Qq J N (fun a J=>?_) (o:=by exact fun _ _ _ J O=>x5e 1 J O u0 rfl rfl m isAgg9)
 refine go J N fun a J=>?_
 have a0:=u0.tail q0
 refine Qq J N (fun a J=>?_) (o:=by exact fun _ _ _ J O=>z8f J u0 rfl rfl runUnderlying25 sizeOf9 q0)
 refine go J N fun a J=>?_
 rcases I:yO ((jD ds)) g with _ | q1
 have B:=congrArg (zK false (.bool false)) I
 refine Qq J N (fun a J=>?_) (o:=by exact fun _ _ _ J O=>Ok.cast (qF 0 runUnderlying121 runUnderlying9 zeroValue4 J O rfl rfl rfl) (show zK false (.bool false) (yO ((jD ds)) g)=.bool false from B))
 refine go J N fun a J=>?_
 have P:=z5w I
 refine z4h 0 runUnderlying121 runUnderlying9 J N fun w N a J=>?_
 rw [<- uK] at N
 refine MkM J N fun A0 w N a J=>?_
 refine go J N fun a J=>?_
 replace N:=N.nf
 refine go J N fun a J=>?_
 rcases L:yO (d9) g with _ | r1
 have C:=congrArg (zK false (.agg #[.string ⟨#[]⟩,.slice none 0 0,.string ⟨#[]⟩,.int .i64 ((0:Nat):Int),.int .i64 ((0:Nat):Int),.string ⟨#[]⟩,.slice none 0 0,.slice none 0 0])) L
 refine Qq J N (fun a J=>?_) (o:=by exact fun _ _ _ J O=>Ok.cast (zY runUnderlying103 runUnderlying9 zeroValue68 J O rfl rfl m0) (show zK false (.agg #[.string ⟨#[]⟩,.slice none 0 0,.string ⟨#[]⟩,.int .i64 ((0:Nat):Int),.int .i64 ((0:Nat):Int),.string ⟨#[]⟩,.slice none 0 0,.slice none 0 0]) (yO (d9) g)=.agg #[.string ⟨#[]⟩,.slice none 0 0,.string ⟨#[]⟩,.int .i64 ((0:Nat):Int),.int .i64 ((0:Nat):Int),.string ⟨#[]⟩,.slice none 0 0,.slice none 0 0] from C))
 refine Qq J N (fun a J=>?_) (o:=by exact fun _ _ _ J O=>z6i 3 (vs:=[.int .i64 ((0:Nat):Int),.int .i64 ((0:Nat):Int),.string ⟨#[]⟩,.slice none 0 0,.slice none 0 0]) runUnderlying68 rfl isAgg66 sizeOf66 J rfl rfl rfl)
 refine zS call93 J N (fun w N a J=>?_) (c:=y7w (ds:=[]) rex0 N)
 refine go J N fun a J=>?_
 have z:jK T g=([]++qI ex0):=by unfold jK;rw [tS (MapRel.none n0 L)];rfl
 rw [<- z] at N
 clear z
 refine go J N fun a J=>?_
 refine st J rfl rfl rfl (z7c 0 runUnderlying121 J N rfl rfl fun c1 G i0 w d N a J=>?_)
 refine go J N fun a J=>?_
 refine zV (J.ks [0,5,34]) N (fun R mm a w=>∃(seen:Array Nat) (r:Nat) (u:Nat) (t:Nat) (q:Array Value) (F:List Bs),mm=(vF G seen).length/\R V [(1,qval r u t F)] [(0,.blk c1 (.mapIter (some A0) i0 seen i0)),(3,qblk r q)] a w/\(QAt u t q F/\RIn T g (l.drop 1) G seen F)) ((vF G #[]).length) ⟨#[],qb,(y4g qo qc),(qc - 1),qa,(l.drop 1),rfl,⟨J.pk,N⟩,⟨a0,RIn.start⟩⟩ ?_
 clear N J
 rintro mm a w ⟨seen,r,u,t,q,F,D,⟨J,N⟩,F0⟩ u1 H0
 replace N:=N.nf
 obtain ⟨A,f⟩:=F0
 refine go J N fun a J=>?_
 refine st J rfl rfl rfl (y2d 0 1 J N rfl rfl rfl d (fun l0 w N a J=>?_) (fun S w M N a J=>?_))
 refine go J N fun a J=>?_
 replace N:=N.dl [1,0]
 refine W (muR U ((ds++[g])) F) _ _ (by subst D;have h_:=(k.mark m (z9z P) hM hC d f l0).2;omega) ⟨(r),(u),(t),(q),(F),((ds++[g])),rfl,⟨J.pk,N⟩,?_⟩
 exact ⟨A,(k.mark m (z9z P) hM hC d f l0).1⟩
 refine go J N fun a J=>?_
 obtain ⟨c0,s1,k0,o1,g0⟩:=z7f d (leftE_mem.1 M).1
 have s0:Value.tuple #[S.key,S.val]=Value.tuple #[.string c0,S.val]:=by rw [k0]
 refine Qq J N (fun a J=>?_) (o:=by exact fun _ _ _ J O=>Ok.cast (q3e (i:=0) (j:=1) J O rfl rfl rfl d M) s0)
 refine qG J N fun H1 w N a J=>?_
 refine st J rfl rfl rfl (z4t 4 (s:=c0) wM J N A rfl rfl rfl (N.toSees.rowIn (i:=0) rfl) (by have S0:=f.len;have T0:=k.len;have U0:=z5l k.nodup k.dU;have V0:=j3g d (hM _);have W0:(l.drop 1).length<=l.length:=(by rw [List.length_drop];omega);omega) fun P0 w0 p0 o0 w J0 N a J=>?_)
 replace N:=N.nf
 refine go J N fun a J=>?_
 replace N:=N.dl [0]
 refine H0 ((vF G ((seen.push S.born))).length) _ _ (by subst D;exact z1c M) ⟨((seen.push S.born)),(P0),(w0),(p0),(o0),((F++[c0])),rfl,⟨J.pk,N⟩,?_⟩
 exact ⟨J0,f.next d M k0 g0⟩
 obtain ⟨h,L0,f1,rfl,K0⟩:=n0.get L
 obtain ⟨G1,w1,rfl,X0,D0⟩:=id K0
 obtain ⟨b1,Q0,rfl,h1,l1⟩:=X0.fm
 obtain ⟨M0,B0,N0,C0,rfl,g1,A1,B1,i1,m1,j1,n1⟩:=REx.fm D0
 have C:=congrArg (zK false (.agg #[.string ⟨#[]⟩,.slice none 0 0,.string ⟨#[]⟩,.int .i64 ((0:Nat):Int),.int .i64 ((0:Nat):Int),.string ⟨#[]⟩,.slice none 0 0,.slice none 0 0])) L
 refine Qq J N (fun a J=>?_) (o:=by exact fun _ _ _ J O=>Ok.cast (zY runUnderlying103 runUnderlying9 zeroValue68 J O rfl rfl m0) (show zK false (.agg #[.string ⟨#[]⟩,.slice none 0 0,.string ⟨#[]⟩,.int .i64 ((0:Nat):Int),.int .i64 ((0:Nat):Int),.string ⟨#[]⟩,.slice none 0 0,.slice none 0 0]) (yO (d9) g)=.agg #[.string h.name,.slice b1 h.params.length Q0,.string h.result,.int .i64 (h.body.kind),.int .i64 (h.body.num),.string h.body.name,.slice M0 h.body.args.length B0,.slice N0 h.body.arms.length C0] from C))
 refine Qq J N (fun a J=>?_) (o:=by exact fun _ _ _ J O=>z6i 3 (vs:=[.int .i64 (h.body.kind),.int .i64 (h.body.num),.string h.body.name,.slice M0 h.body.args.length B0,.slice N0 h.body.arms.length C0]) runUnderlying68 rfl isAgg66 sizeOf66 J rfl rfl rfl)
 refine zS call93 J N (fun w N a J=>?_) (c:=y7w (ds:=[]) D0 N)
 refine go J N fun a J=>?_
 have z:jK T g=([]++qI h.body):=by unfold jK;rw [oB L0];rfl
 rw [<- z] at N
 clear z
 refine go J N fun a J=>?_
 refine st J rfl rfl rfl (z7c 0 runUnderlying121 J N rfl rfl fun d1 H j0 w e N a J=>?_)
 refine go J N fun a J=>?_
 refine zV (J.ks [0,5,34]) N (fun R mm a w=>∃(seen:Array Nat) (r:Nat) (u:Nat) (t:Nat) (q:Array Value) (F:List Bs),mm=(vF H seen).length/\R V [(1,qval r u t F)] [(0,.blk d1 (.mapIter (some A0) j0 seen j0)),(3,qblk r q)] a w/\(QAt u t q F/\RIn T g (l.drop 1) H seen F)) ((vF H #[]).length) ⟨#[],qb,(y4g qo qc),(qc - 1),qa,(l.drop 1),rfl,⟨J.pk,N⟩,⟨a0,RIn.start⟩⟩ ?_
 clear N J
 rintro mm a w ⟨seen,r,u,t,q,F,D,⟨J,N⟩,G0⟩ v1 I0
 replace N:=N.nf
 obtain ⟨A,f⟩:=G0
 refine go J N fun a J=>?_
 refine st J rfl rfl rfl (y2d 0 1 J N rfl rfl rfl e (fun Y w N a J=>?_) (fun v w n N a J=>?_))
 refine go J N fun a J=>?_
 replace N:=N.dl [1,0]
 refine W (muR U ((ds++[g])) F) _ _ (by subst D;have h_:=(k.mark m (z9z P) hM hC e f Y).2;omega) ⟨(r),(u),(t),(q),(F),((ds++[g])),rfl,⟨J.pk,N⟩,?_⟩
 exact ⟨A,(k.mark m (z9z P) hM hC e f Y).1⟩
 refine go J N fun a J=>?_
 obtain ⟨E,e1,X,a1,Z⟩:=z7f e (leftE_mem.1 n).1
 have f0:Value.tuple #[v.key,v.val]=Value.tuple #[.string E,v.val]:=by rw [X]
 refine Qq J N (fun a J=>?_) (o:=by exact fun _ _ _ J O=>Ok.cast (q3e (i:=0) (j:=1) J O rfl rfl rfl e n) f0)
 refine qG J N fun p1 w N a J=>?_
 refine st J rfl rfl rfl (z4t 4 (s:=E) wM J N A rfl rfl rfl (N.toSees.rowIn (i:=0) rfl) (by have S0:=f.len;have T0:=k.len;have U0:=z5l k.nodup k.dU;have V0:=j3g e (hM _);have W0:(l.drop 1).length<=l.length:=(by rw [List.length_drop];omega);omega) fun y0 h0 e0 d0 w t0 N a J=>?_)
 replace N:=N.nf
 refine go J N fun a J=>?_
 replace N:=N.dl [0]
 refine I0 ((vF H ((seen.push v.born))).length) _ _ (by subst D;exact z1c n) ⟨((seen.push v.born)),(y0),(h0),(e0),(d0),((F++[E])),rfl,⟨J.pk,N⟩,?_⟩
 exact ⟨t0,f.next e n X Z⟩
 obtain ⟨rfl,b0⟩:=z5x I
 have B:=congrArg (zK false (.bool false)) I
 refine Qq J N (fun a J=>?_) (o:=by exact fun _ _ _ J O=>Ok.cast (qF 0 runUnderlying121 runUnderlying9 zeroValue4 J O rfl rfl rfl) (show zK false (.bool false) (yO ((jD ds)) g)=.bool true from B))
 refine go J N fun a J=>?_
 refine W (muR U ds ((l.drop 1))) _ _ (by subst D;have h_:=(k.skip m (has_mem.1 b0)).2;omega) ⟨(qb),((y4g qo qc)),((qc - 1)),(qa),((l.drop 1)),(ds),rfl,⟨J.pk,N⟩,?_⟩
 exact ⟨a0,(k.skip m (has_mem.1 b0)).1⟩
 refine go J N fun a J=>?_
 replace N:=N.dl [1]
 refine zD hQ J N ?_
 have e_:l=[]:=List.eq_nil_of_length_eq_zero (by omega)
 subst e_
 exact ⟨(z0,ds),rfl,k.fin,N⟩
end Go.Sw

namespace Go.Sw
open Go.Proofs.Tryz
open Go.Proofs
set_option maxRecDepth 20000
set_option maxHeartbeats 4000000
variable {V:Fz} {K:List Res} {w:World}
theorem j9l {pt:Addr} {T:Table} {d0:List Value} {v:Val} {d1:List Value} {p:Param} {b:Nat} (d:RVal V d0 v) (f:RParam V d1 p) (rT:RTable V pt T) (N:Mem V (.blk b (ob [.pointer (some pt)] 89)::K) w) :
  Calls prog 60 #[.agg d0.toArray,.agg d1.toArray,.pointer (some ⟨b,0,none⟩)] w (fun ee w'=>ee=.returned (.bool ((!vU v&&pJ T v p.type)))/\Mem V (.blk b (ob [.pointer (some pt)] 89)::K) w'):=by
 obtain ⟨n,c4,rfl,i,m,j,k⟩:=RVal.fm d
 obtain rfl:=id f
 refine zM func60 ntmps60 fun Q g a J=>?_
 refine Bx J N fun l w N a J=>?_
 refine Bx J N fun h w N a J=>?_
 refine zW call50 J N (fun e w N a J=>?_) (fun e w N a J=>?_) (c:=z0z d N)
 refine go J N fun a J=>?_
 replace N:=N.dl [1,0]
 refine zD g J N ?_
 exact zL N (by simp [*])
 refine zS call61 J N (fun w N a J=>?_) (c:=q9p rT d N)
 refine go J N fun a J=>?_
 replace N:=N.dl [1,0]
 refine zD g J N ?_
 exact zL N (by simp [*])
theorem j9m {p:Addr} {T:Table} {df:List Value} {f:Fun} {va:Value} {args:List Val} {fu z C D E F A:Nat} (W:RTable V p T) (rf:RFun V df f) (rs:SliceOf RVal V 3 va args) (hF:z0g T) (M:f.params.length<=1000) (P:pT f.body) (A0:fu<=1000000) (t:∀g,xY (qM ⟨T.funs,[]⟩) f args g≠.stuck) (N:Mem V (.blk z (ob [.int .i64 ((1:Nat):Int)] 3)::.blk C (ob [.int .i64 ((fu:Nat):Int)] 3)::.blk D (ob [.pointer (some p)] 89)::.blk E (ob df 68)::.blk F (ob [va] 38)::.blk A (ob [.string ⟨#[]⟩,.int .i64 ((0:Nat):Int),.slice none 0 0] 42)::K) w) :
  Calls prog 64 #[.pointer (some ⟨z,0,none⟩),.pointer (some ⟨C,0,none⟩),.pointer (some ⟨D,0,none⟩),.pointer (some ⟨E,0,none⟩),.pointer (some ⟨F,0,none⟩),.pointer (some ⟨A,0,none⟩)] w (fun e w'=>Out (kU (xY (qM ⟨T.funs,[]⟩) f args) fu)
   (fun x=>∃y:Fz×List Value,e=.returned (.int .i64 ((0:Nat):Int))/\(V.Le y.1/\RVal y.1 y.2 x.1)/\Mem y.1 (.blk z (ob [.int .i64 ((fu - x.2:Nat):Int)] 3)::.blk A (ob y.2 42)::K) w')
   (fun c=>(e=.returned (.int .i64 ((c:Nat):Int))∨c=4/\e=.panicked (sL ()))/\Mem V K w')):=by
 obtain ⟨s1,b7,rfl,h2,q⟩:=id rf
 obtain ⟨p3,c4,rfl,B0,C0⟩:=h2.fm
 obtain ⟨R,G,S,H,rfl,Z,t0,u0,d0,i0,e0,j0⟩:=REx.fm q
 obtain ⟨U,I,rfl,h0,m0⟩:=rs.fm
 refine zM func64 ntmps64 fun Q B a J=>?_
 refine go J N fun a J=>?_
 by_cases n:fu < 1
 refine go J N fun a J=>?_
 replace N:=N.dl [5,4,3,2,1,0]
 refine zD B J N ?_
 exact outEE (q1i n) ⟨.inl rfl,N⟩
 refine go J N fun a J=>?_
 replace N:Mem V (.blk z (ob [.int .i64 ((fu - (fu - 1):Nat):Int)] 3)::.blk C (ob [.int .i64 ((fu:Nat):Int)] 3)::.blk D (ob [.pointer (some p)] 89)::.blk E (ob [.string f.name,.slice p3 f.params.length c4,.string f.result,.int .i64 (f.body.kind),.int .i64 (f.body.num),.string f.body.name,.slice R f.body.args.length G,.slice S f.body.arms.length H] 68)::.blk F (ob [.slice U args.length I] 38)::.blk A (ob [.string ⟨#[]⟩,.int .i64 ((0:Nat):Int),.slice none 0 0] 42)::K) w:=by rw [show fu - (fu - 1)=1 by omega];exact N
 refine yE J N fun a J=>?_
 refine xQ B call48 J N (fun u X w l r N a J=>?_) (fun u w l N=>?_) (c:=z0k hF (fu - 1) W (.inr ⟨rfl,rfl⟩) rf rs M P (by omega) (by omega) (t _) N)
 obtain ⟨G0,s0⟩:=u
 obtain ⟨n0,q0⟩:=X
 obtain ⟨d,b⟩:=r
 have i:=wP l
 simp only at d b N J i
 have L:=cY i
 replace rf:=RFun.mono _ _ _ _ d rf
 replace q:=REx.mono _ _ _ _ d q
 replace N:=N.nf
 obtain ⟨E0,p0,rfl,a0,x0,f0,k0⟩:=RVal.fm b
 refine Alc J N fun o0 w N a J=>?_
 refine Sto 0 J N fun w N a J=>?_
 refine zW call50 J N (fun j w N a J=>?_) (fun j w N a J=>?_) (c:=z0z b N)
 refine go J N fun a J=>?_
 replace N:=N.dl [6,5,4,3,2,1,0]
 refine zD B J N ?_
 exact outEE (y6c n i j) ⟨.inl rfl,N.le (d)⟩
 refine go J N fun a J=>?_
 have k:=j
 refine qH call51 J N (fun Y w s N a J=>?_) (c:=own_ok (q7g k) b N)
 obtain ⟨v,r0⟩:=Y
 obtain ⟨h,m⟩:=s
 simp only at h m N J
 replace rf:=RFun.mono _ _ _ _ h rf
 replace q:=REx.mono _ _ _ _ h q
 replace b:=RVal.mono _ _ _ _ h b
 replace N:=N.nf
 obtain ⟨F0,c62,rfl,c0,y0,g0,l0⟩:=RVal.fm m
 refine Sto 6 J N fun w N a J=>?_
 refine go J N fun a J=>?_
 replace N:=N.dl [5,4,3,2,0]
 refine zD B J N ?_
 exact outE (y0q n i k) ⟨(v,_),rfl,⟨(d).trans h,m⟩,N⟩
 have o:=vC l (t _)
 replace N:=N.dl [5,4,3,2,1,0]
 exact outEE (y6d n o) ⟨.inr ⟨rfl,rfl⟩,N.le (Fz.Le.refl _)⟩
theorem q3y {p:Addr} {T:Table} {df:List Value} {f:Fun} {va:Value} {args:List Val} {fu a o q r s d:Nat} (n:RTable V p T) (rf:RFun V df f) (rs:SliceOf RVal V 3 va args) (v:z0g T) (l:f.params.length<=1000) (m:pT f.body) (j:fu<=1000000) (k:∀g,xY (qM ⟨T.funs,[]⟩) f args g≠.stuck) (N:Mem V (.blk a (ob [.int .i64 ((1:Nat):Int)] 3)::.blk o (ob [.int .i64 ((fu:Nat):Int)] 3)::.blk q (ob [.pointer (some p)] 89)::.blk r (ob df 68)::.blk s (ob [va] 38)::.blk d (ob [.string ⟨#[]⟩,.int .i64 ((0:Nat):Int),.slice none 0 0] 42)::K) w) :
  Calls prog 45 #[.func (.func 64) #[] #[.pointer (some ⟨a,0,none⟩),.pointer (some ⟨o,0,none⟩),.pointer (some ⟨q,0,none⟩),.pointer (some ⟨r,0,none⟩),.pointer (some ⟨s,0,none⟩),.pointer (some ⟨d,0,none⟩)]] w (fun e w'=>Out (kU (xY (qM ⟨T.funs,[]⟩) f args) fu)
   (fun x=>∃y:Fz×List Value,e=.returned (.int .i64 ((0:Nat):Int))/\(V.Le y.1/\RVal y.1 y.2 x.1)/\Mem y.1 (.blk a (ob [.int .i64 ((fu - x.2:Nat):Int)] 3)::.blk d (ob y.2 42)::K) w')
   (fun c=>e=.returned (.int .i64 ((c:Nat):Int))/\Mem V K w')):=by
 refine q0p (α:=Val×Nat) (β:=Fz×List Value) (F:=fun _ y=>y.1) (KO:=fun x y=>.blk a (ob [.int .i64 ((fu - x.2:Nat):Int)] 3)::.blk d (ob y.2 42)::K)
  (G:=fun (x:Val×Nat) y=>V.Le y.1/\RVal y.1 y.2 x.1) call64 (fun b w N=>?_) N
 have N:=(((((N.pull (i:=6) rfl).pull (i:=6) rfl).pull (i:=6) rfl).pull (i:=6) rfl).pull (i:=6) rfl).pull (i:=6) rfl
 refine (j9m (K:=.blk b (ob [.int .i64 ((0:Nat):Int)] 31)::K) n rf rs v l m j k N).mono fun e w' h=>?_
 cases hr:kU (xY (qM ⟨T.funs,[]⟩) f args) fu with
 | ok x=>
  rw [hr] at h
  obtain ⟨y,h1,t,u⟩:=h
  exact ⟨y,h1,t,u.pull (i:=2) rfl⟩
 | error c'=>
  rw [hr] at h
  exact h
end Go.Sw

namespace Go.Sw
open Go.Proofs
def q3l (c:Core) (name:Bs) (args:List Val):Prop:=∀f,zN (zH c).funs name=some f->dO (zH c) args f.params=true->¬wZ (zH c) name->∀g,xY (qM ⟨(zH c).funs,[]⟩) f args g≠.stuck
section
variable {c:Core} {name:Bs} {args:List Val} {fuel:Int}
theorem q1f (h:yP c≠0):qB c name args fuel=(v0,0,yP c):=by simp only [qB,if_pos h]
theorem gF (h:yP c=0) (a:fuel < 0∨200000 < fuel):qB c name args fuel=(v0,0,1):=by simp only [qB,if_neg (not_not_intro h),if_pos a]
theorem q1g (h:yP c=0) (a:¬(fuel < 0∨200000 < fuel)) (b:zN (zH c).funs name=none):qB c name args fuel=(v0,0,3):=by
 simp only [qB,if_neg (not_not_intro h),if_neg a,b]
theorem y6b {f:Fun} (h:yP c=0) (a:¬(fuel < 0∨200000 < fuel)) (d:zN (zH c).funs name=some f) (b:dO (zH c) args f.params=false):qB c name args fuel=(v0,0,8):=by
 simp only [qB,if_neg (not_not_intro h),if_neg a,d,if_pos b]
theorem z2x {f:Fun} (h:yP c=0) (a:¬(fuel < 0∨200000 < fuel)) (d:zN (zH c).funs name=some f) (b:dO (zH c) args f.params=true) (hr:wZ (zH c) name):qB c name args fuel=(v0,0,8):=by
 simp only [qB,if_neg (not_not_intro h),if_neg a,d,b,if_pos hr];rfl
theorem z0j {f:Fun} (h:yP c=0) (a:¬(fuel < 0∨200000 < fuel)) (d:zN (zH c).funs name=some f) (b:dO (zH c) args f.params=true) (hr:¬wZ (zH c) name):qB c name args fuel=(match kU (xY (qM ⟨(zH c).funs,[]⟩) f args) fuel.toNat with
    | .ok (v,g)=>(v,((fuel.toNat - g:Nat):Int),0)
    | .error e=>(v0,0,((e:Nat):Int))):=by
 simp only [qB,if_neg (not_not_intro h),if_neg a,d,b,if_neg hr];rfl
end
end Go.Sw
