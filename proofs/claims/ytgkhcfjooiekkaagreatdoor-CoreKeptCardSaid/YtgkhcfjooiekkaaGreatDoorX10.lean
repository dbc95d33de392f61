import Derived.Laws.IdiomRangeMap
import Derived.Test.YtgkhcfjooiekkaaGreatDoorProg
import Derived.Lib.AppendStr
import Derived.Lib.UnsafeStr
import Derived.Shelf.Strings.Builder1
import Derived.Test.YtgkhcfjooiekkaaGreatDoorX03
import Derived.Test.YtgkhcfjooiekkaaGreatDoorX04
import Derived.Test.YtgkhcfjooiekkaaGreatDoorX09
set_option linter.unusedVariables false
set_option linter.unusedSimpArgs false
namespace Go.Sw
def leftE (es:Array MapEntry) (seen:Array Nat):List MapEntry:=es.toList.filter fun e => !seen.contains e.born
theorem leftE_nil (es:Array MapEntry):leftE es #[]=es.toList:=by simp [leftE]
theorem leftE_mem {es:Array MapEntry} {seen:Array Nat} {e:MapEntry}:e∈leftE es seen↔e∈es.toList∧e.born∉seen:=by simp [leftE]
theorem leftE_push {es:Array MapEntry} {seen:Array Nat} {e x:MapEntry}:x∈leftE es (seen.push e.born)↔x∈leftE es seen∧x.born≠e.born:=by
 simp only [leftE_mem,Array.mem_push,not_or,and_assoc]
theorem leftE_lt {es:Array MapEntry} {seen:Array Nat} {e:MapEntry} (h:e∈leftE es seen):(leftE es (seen.push e.born)).length < (leftE es seen).length :=
 filter_lt (fun x:MapEntry => !seen.contains x.born) (fun x:MapEntry => !(seen.push e.born).contains x.born) (fun x hx=>by simp at hx ⊢;exact hx.1) e (by have:=(leftE_mem.1 h).2;simpa using this) (by simp) es.toList (leftE_mem.1 h).1
section
variable {P:Program} {n:Nat} {E:List (Nat×Value)} {D:List Deferred} {a:Act} {Φ:Fz} {K:List Res} {w:World}
variable {Kn:Value→World→Prop} {Qp:List PanicEntry→World→Prop} {dst:Option Tmp} {ty:TypeId} {pos:String} {aft:Array Edge} {g:Option (Nat×Bool)}
theorem eff_range (i:Nat) {t kt et:TypeId} {x:Operand} {b:Nat} {m:List (Bs×Value)} (ht:Under P t (.map kt et)) (he:EnvR n E D a) (hm:Mem Φ K w) (hx:ev E x=some (.map (some b))) (hK:kget K i=some (.mp b m))
  (k:∀r es clock w',MapOk es clock m→Mem Φ (.blk r (.mapIter (some b) clock #[] clock)::kset K i (.blk b (.map es clock))) w'→Kn (.pointer (some ⟨r,0,none⟩)) w'):Oper.eff P ⟨dst,.range t x,ty,pos,aft,g⟩ a w Kn Qp:=by
 obtain ⟨es,clock,hb,hok⟩:=hm.own _ (kget_mem hK)
 have h1:(getObj b).run P w=.ok (.map es clock) w:=by simp [getObj,Sem.run,hb]
 have hm2:Mem Φ (kset K i (.blk b (.map es clock))) w:=hm.upd hK rfl rfl (fun _ _ _=>rfl) hb (.inl rfl)
 unfold Oper.eff
 have:(execOp a.eval ⟨dst,.range t x,ty,pos,aft,g⟩).run P w=.ok (.value (.pointer (some ⟨w.heap.size,0,none⟩))) { w with heap:=w.heap.push (.mapIter (some b) clock #[] clock) }:=by
  simp only [execOp,he.ev hx,Instr.range,Sem.run_bind,ht w,Result.andThen_ok,h1]
  simp [newObj,Sem.run,Sem.run_bind,Result.andThen]
 rw [this]
 exact k _ _ _ _ hok (hm2.push _)
theorem eff_next (i j:Nat) {x:Operand} {r b clock:Nat} {es:Array MapEntry} {seen:Array Nat} {m:List (Bs×Value)} (he:EnvR n E D a) (hm:Mem Φ K w) (hx:ev E x=some (.pointer (some ⟨r,0,none⟩)))
  (hK:kget K i=some (.blk r (.mapIter (some b) clock seen clock))) (hJ:kget K j=some (.blk b (.map es clock))) (hok:MapOk es clock m)
  (k0:leftE es seen=[]→∀w',Mem Φ K w'→Kn (.tuple (List.toArray [.bool false])) w')
  (k1:∀e w',e∈leftE es seen→Mem Φ (kset K i (.blk r (.mapIter (some b) clock (seen.push e.born) clock))) w'→Kn (.tuple (List.toArray [.bool true,e.key,e.val])) w') :
  Oper.eff P ⟨dst,.next x false,ty,pos,aft,g⟩ a w Kn Qp:=by
 have hr:w.heap[r]? = some (.mapIter (some b) clock seen clock):=hm.own _ (kget_mem hK)
 have hb:w.heap[b]? = some (.map es clock):=hm.own _ (kget_mem hJ)
 have htest:(!seen.isEmpty && !es.isEmpty&&es.all (fun x=>decide (x.born≥clock)))=false:=next_test_false seen es clock clock hok.old (Nat.le_refl _)
 have hold:∀e∈es.toList,e.born < clock:=hok.old
 have e1:((es.filter fun e => !seen.contains e.born).filter (fun x=>decide (x.born < clock)))=es.filter fun e => !seen.contains e.born :=
  Array.filter_eq_self.2 (fun x hx=>by
   have:=hold x (by simp at hx ⊢;exact hx.1)
   simpa using this)
 have e2:((es.filter fun e => !seen.contains e.born).filter (fun x=>decide (x.born≥clock)))=#[]:=by
  rw [Array.filter_eq_empty_iff]
  intro x hx
  have:=hold x (by simp at hx ⊢;exact hx.1)
  simp only [ge_iff_le,decide_eq_true_eq,Nat.not_le];omega
 have hleft:leftE es seen=(es.filter fun e => !seen.contains e.born).toList:=by simp [leftE]
 unfold Oper.eff
 simp only [execOp,he.ev hx,Instr.next,getObj,Sem.run_bind,Sem.run,hr,hb,Result.andThen,htest,Bool.false_eq_true,if_false,e1,e2,Array.append_empty]
 generalize hL:(es.filter fun e => !seen.contains e.born)=L at *
 by_cases h0:L.size=0
 ·have:L=#[]:=Array.eq_empty_of_size_eq_zero h0
  subst this
  simp only [Array.isEmpty,Array.size_empty,decide_true,if_true]
  simp only [choose,Sem.run,Question.forced]
  simp
  exact k0 (by rw [hleft]) _ hm
 ·have hne:L.isEmpty=false:=by simp [Array.isEmpty,h0]
  simp only [hne,Bool.false_eq_true,if_false,Array.empty_append,Array.size_map]
  have hch:∃(q:Nat) (w1:World),q < L.size∧Mem Φ K w1∧w1.heap=w.heap∧(choose (Question.mapNext L.size)).run P w=.ok q w1:=by
   by_cases hf:L.size≤1
   ·exact ⟨0,w,by omega,hm,rfl,by simp [choose,Sem.run,Question.forced,hf]⟩
   ·exact ⟨_,w.drew,Nat.mod_lt _ (by omega),hm.drew,rfl,by
     simp only [choose,Sem.run,Question.forced,decide_eq_true_eq,hf,if_false,Question.cut]
     rfl⟩
  obtain ⟨q,w1,hq,hm1,hw1,hrun⟩:=hch
  have hset:∀o,(setObj r o).run P w1=.ok () { w1 with heap:=w1.heap.setIfInBounds r o }:=fun o=>by simp only [setObj,Sem.run,hw1,hr]
  have hlt:r < w1.heap.size:=by rw [hw1];exact (Array.getElem?_eq_some_iff.1 hr).1
  have hmem:L[q]∈leftE es seen:=by rw [hleft];simp
  have hrun':=hrun
  simp only [hrun',Sem.run_bind,Result.andThen,Array.getElem?_map,Array.getElem?_eq_getElem hq,Option.map_some,hset,Sem.run_pure]
  simp [Sem.run_bind,hset,Result.andThen,effUpon]
  refine k1 _ _ hmem (hm1.upd hK rfl rfl (fun c hc hne =>?_) ?_ (.inl rfl))
  ·simp only;rw [Array.getElem?_setIfInBounds_ne (fun e=>hne (by simp [Res.foot,e]))]
  ·simp [Res.sat,hlt]
theorem y_entry {x:Operand} {i j:Nat} {r b clock:Nat} {es:Array MapEntry} {seen:Array Nat} {m:List (Bs×Value)} {e:MapEntry} (he:EnvR n E D a) (hm:Sees Φ K w) (hx:ev E x=some (.pointer (some ⟨r,0,none⟩)))
  (hK:kget K i=some (.blk r (.mapIter (some b) clock (seen.push e.born) clock))) (hJ:kget K j=some (.blk b (.map es clock))) (hok:MapOk es clock m) (hl:e∈leftE es seen) :
  Ok P a (.entry x) ty w (.tuple (List.toArray [e.key,e.val])):=fun _ _ _ _=>by
 have hr:w.heap[r]? = some (.mapIter (some b) clock (seen.push e.born) clock):=hm.own _ (kget_mem hK)
 have hb:w.heap[b]? = some (.map es clock):=hm.own _ (kget_mem hJ)
 have hf:es.find? (·.born==e.born)=some e:=by rw [← Array.find?_toList];exact find_born e es.toList hok.nodup (leftE_mem.1 hl).1
 simp only [execOp,he.ev hx,Instr.entry,getObj,Sem.run_bind,Sem.run,hr,hb,Result.andThen,Array.back?_push,bne_self_eq_false,Bool.false_eq_true,if_false,hf]
 rfl
theorem entry_key {es:Array MapEntry} {clock:Nat} {m:List (Bs×Value)} {e:MapEntry} (hok:MapOk es clock m) (h:e∈es.toList):∃s v,e.key=.string s∧e.val=v∧(s,v)∈m:=by
 have h1:(e.key,e.val)∈m.map (fun p=>(Value.string p.1,p.2)):=by rw [← hok.eq];exact List.mem_map.2 ⟨e,h,rfl⟩
 obtain ⟨p,hp,h2⟩:=List.mem_map.1 h1
 simp only [Prod.mk.injEq] at h2
 exact ⟨p.1,p.2,h2.1.symm,h2.2.symm,hp⟩
theorem key_entry {es:Array MapEntry} {clock:Nat} {m:List (Bs×Value)} {s:Bs} {v:Value} (hok:MapOk es clock m) (h:(s,v)∈m):∃e∈es.toList,e.key=.string s:=by
 have h1:(Value.string s,v)∈es.toList.map (fun e=>(e.key,e.val)):=by rw [hok.eq];exact List.mem_map.2 ⟨(s,v),h,rfl⟩
 obtain ⟨e,he,h2⟩:=List.mem_map.1 h1
 simp only [Prod.mk.injEq] at h2
 exact ⟨e,he,h2.1⟩
end
end Go.Sw

namespace Go.Sw
structure QAt (off cap:Nat) (arr:Array Value) (l:List Bs):Prop where
 room:off+cap≤arr.size
 fits:l.length≤cap
 max:cap≤maxLen
 cells:∀(j:Nat) s,l[j]? = some s→arr[off+j]? = some (.string s)
abbrev qblk (b:Nat) (arr:Array Value):Res:=.blk b (.cells arr 9 (0,0))
abbrev qval (b off cap:Nat) (l:List Bs):Value:=.slice (some ⟨b,off,none⟩) l.length cap
def qoff (off cap:Nat):Nat:=if cap=1 then off else off+1
theorem QAt.tail {off cap:Nat} {arr:Array Value} {l:List Bs} (h:QAt off cap arr l) (h0:0 < l.length):QAt (qoff off cap) (cap - 1) arr (l.drop 1):=by
 have:=h.fits;have:=h.room;have:=h.max
 refine ⟨?_,?_,by omega,fun j s hj =>?_⟩
 ·unfold qoff;split <;> omega
 ·rw [List.length_drop];omega
 ·rw [List.getElem?_drop] at hj
  have h1:=h.cells _ _ hj
  have hlt:=(List.getElem?_eq_some_iff.1 hj).1
  unfold qoff
  rw [if_neg (by omega)]
  rw [show off+1+j=off+(1+j) by omega];exact h1
theorem add_off (b off j:Nat):(⟨b,off,none⟩:Addr).add j=⟨b,off+j,none⟩:=by
 unfold Addr.add;split <;> simp_all
section
variable {P:Program} {n:Nat} {E:List (Nat×Value)} {D:List Deferred} {a:Act} {Φ:Fz} {K:List Res} {w:World} {ty:TypeId}
theorem y_load_q (i:Nat) {x:Operand} {b off cap:Nat} {arr:Array Value} {l:List Bs} {T:TypeId} {s:Bs} (he:EnvR n E D a) (hm:Sees Φ K w) (hq:QAt off cap arr l) (hx:ev E x=some (.pointer (some ((⟨b,off,none⟩:Addr).add (0 * 1)))))
  (hk:kget K i=some (qblk b arr)) (hs:l[0]? = some s) (hT:Scalar P T):Ok P a (.load T x) ty w (.string s):=fun _ _ _ _=>by
 have h1:w.heap[b]? = some (.cells arr 9 (0,0)):=hm.own _ (kget_mem hk)
 have h2:w.cell? ⟨b,off,none⟩=some (.string s):=by simp [World.cell?,h1];exact hq.cells 0 s hs
 have h3:((⟨b,off,none⟩:Addr).add (0 * 1))=⟨b,off,none⟩:=by simp [Addr.add]
 rw [h3] at hx
 simp only [execOp,he.ev hx]
 simp [Instr.loadAt,Instr.sureAddr,loadVar,Sem.run_bind,hT w,Result.andThen,load,Sem.run,h2]
theorem y_slice_q {x lo:Operand} {t e:TypeId} {b off cap:Nat} {arr:Array Value} {l:List Bs} (he:EnvR n E D a) (hq:QAt off cap arr l) (hx:ev E x=some (qval b off cap l)) (hlo:ev E lo=some (.int .i64 ((1:Nat):Int)))
  (ht:Under P t (.slice e)) (hs:SizeT P e 1) (h0:0 < l.length):Ok P a (.slice t x (some lo) none none) ty w (qval b (qoff off cap) (cap - 1) (l.drop 1)):=fun _ _ _ _=>by
 have hf:=hq.fits
 have h1:(1:Nat)≤cap:=by omega
 have h2:(1:Int)≤(l.length:Int):=by omega
 have hv:(if cap=1 then some (⟨b,off,none⟩:Addr) else some (Addr.add ⟨b,off,none⟩ 1))=some ⟨b,qoff off cap,none⟩:=by
  unfold qoff;split <;> simp [Addr.add]
 simp only [execOp,he.ev hx,Option.map_some,Option.map_none,he.ev hlo,Instr.sliceAt]
 simp [Sem.run_bind,ht w,hs w,Instr.slice,Instr.sliceBounds,Instr.sliceBound,asIntOf,h2,hf,h1,Result.andThen,qval,hv]
theorem eff_append_q (i:Nat) {dst:Option Tmp} {pos:String} {aft:Array Edge} {g:Option (Nat×Bool)} {Kn:Value→World→Prop} {Qp:List PanicEntry→World→Prop} {x y:Operand} {t bytes:TypeId} {b off cap:Nat} {arr:Array Value} {l:List Bs} {v:Value} {s:Bs} (hT:RowT P t 9 1 bytes) (he:EnvR n E D a) (hm:Mem Φ K w) (hq:QAt off cap arr l)
  (hx:ev E x=some (qval b off cap l)) (hk:kget K i=some (qblk b arr)) (hy:ev E y=some v) (hr:RowIn w v 1 [.string s]) (hb:(l.length+1) * bytes≤140737488355328)
  (k:∀b' off' cap' arr' w',QAt off' cap' arr' (l++[s])→Mem Φ (kset K i (qblk b' arr')) w'→Kn (qval b' off' cap' (l++[s])) w') :
  Oper.eff P ⟨dst,.call { callee:=.builtin .append,args:=#[x,y],argTypes:=#[t,t] },ty,pos,aft,g⟩ a w Kn Qp:=by
 obtain ⟨inf,z,hi,hz,hsz,hby,hzs⟩:=hT.info
 have hg:w.heap[b]? = some (.cells arr 9 (0,0)):=hm.own _ (kget_mem hk)
 have hfin:∀v' w',(Builtin.append_ #[t,t] ty #[qval b off cap l,v]).run P w=.ok v' w'→Kn v' w' →
   Oper.eff P ⟨dst,.call { callee:=.builtin .append,args:=#[x,y],argTypes:=#[t,t] },ty,pos,aft,g⟩ a w Kn Qp:=by
  intro v' w' hrun hK
  unfold Oper.eff
  have:(execOp a.eval ⟨dst,.call { callee:=.builtin .append,args:=#[x,y],argTypes:=#[t,t] },ty,pos,aft,g⟩).run P w=.ok (.value v') w':=by
   simp only [execOp,resolve,invoke,builtin,Sem.run_bind,Sem.run_pure,Result.andThen_ok,List.map_toArray,List.map_cons,List.map_nil,he.ev hx,he.ev hy,hrun]
  rw [this]
  exact hK
 rcases hr with ⟨_,h⟩ | ⟨q,m',c,rfl,hl,hat⟩
 ·cases h
 have hm1:m'=1:=by simpa using hl.symm
 subst hm1
 have hbb:l.length+1≤140737488355328:=Nat.le_trans (Nat.le_mul_of_pos_right _ hT.bpos) hb
 have hroom':=hq.room
 have hlen:(l++[s]).length=l.length+1:=by simp
 by_cases hroom:l.length+1≤cap
 ·have hst:=run_storeCells_at P b (off+l.length) 9 [.string s] 0 arr w hg (by simp only [List.length_cons,List.length_nil];omega) (by simp [Value.oneCell'])
  have hf:=run_firstCells_some (P:=P) w 1 1 q 1 c [.string s] (by simp) hat
  have hrun:(Builtin.append_ #[t,t] ty #[qval b off cap l,.slice (some q) 1 c]).run P w=.ok (qval b off cap (l++[s])) (w.setRow b (arr.toList.take (off+l.length)++[Value.string s]++arr.toList.drop (off+l.length+1)).toArray):=by
   simp only [Nat.add_zero,List.length_cons,List.length_nil,Nat.zero_add] at hst
   simp [Builtin.append_,run_underlying hT.under,sizeOf,typeInfo,hi,hsz,Builtin.lenOf,hroom,hf,add_off,qval,hst]
  refine hfin _ _ hrun (k b off cap _ _ ⟨?_,?_,hq.max,?_⟩ (hm.upd hk rfl rfl (fun c hc hne=>setRow_other w b c _ (fun e=>hne (by simp [Res.foot,e]))) (setRow_heap w b _ _ 9 _ hg) (.inl rfl)))
  ·simp;omega
  ·rw [hlen];exact hroom
  ·intro j u hj
   have hjl:j < l.length+1:=by rw [← hlen];exact (List.getElem?_eq_some_iff.1 hj).1
   have harr:off+l.length < arr.size:=by omega
   simp only [List.getElem?_toArray]
   by_cases hjn:j < l.length
   ·rw [List.append_assoc,List.getElem?_append_left (by simp;omega),List.getElem?_take_of_lt (by omega),Array.getElem?_toList]
    rw [List.getElem?_append_left hjn] at hj
    exact hq.cells _ _ hj
   ·have:j=l.length:=by omega
    subst this
    simp at hj
    subst hj
    rw [List.append_assoc,List.getElem?_append_right (by simp;omega)]
    simp [Nat.min_eq_left (Nat.le_of_lt harr)]
 ·have holds:∀j u,(strs l)[j]? = some u→w.cell? ((⟨b,off,none⟩:Addr).add j)=some u:=fun j u hj=>by
   simp only [strs,List.getElem?_map,Option.map_eq_some_iff] at hj
   obtain ⟨s',h1,rfl⟩:=hj
   have h2:=hq.cells _ _ h1
   rw [add_off];simp [World.cell?,hg,h2]
  have hf':=hq.fits
  have hr:=run_append_grow (P:=P) w t ty 9 inf z hT.under hi hz ⟨b,off,none⟩ l.length cap (strs l) (by rw [hsz];simp [strs]) holds q 1 c [.string s] (by rw [hsz];rfl) hat (by omega) (by omega) (by rw [hby];exact growslice_fits (by omega) (by simpa using hb))
  have hge:=grownCap_ge w (l.length+1) cap 9
  rw [show Value.slice (some (Addr.mk w.heap.size 0 none)) (l.length+1) (grownCap w (l.length+1) cap 9)=qval w.heap.size 0 (grownCap w (l.length+1) cap 9) (l++[s]) by simp [qval]] at hr
  refine hfin _ _ hr (k w.heap.size 0 _ ((strs l).toArray++#[Value.string s]++Builtin.zeroCells z.cells (grownCap w (l.length+1) cap 9 - (l.length+1))) _ ⟨?_,?_,?_,?_⟩ (hm.upd hk rfl rfl (fun c hc hne =>?_) ?_ (.inr fun c hc=>by simp [Res.foot] at hc;omega)))
  ·simp [size_zeroCells,hzs,strs];omega
  ·rw [hlen];exact hge
  ·exact grownCap_le_maxLen w _ _ _ (by simp only [maxLen];omega)
  ·intro j u hj
   have hjl:j < l.length+1:=by rw [← hlen];exact (List.getElem?_eq_some_iff.1 hj).1
   rw [Nat.zero_add,Array.getElem?_append_left (by simp [strs];omega)]
   have:((strs l).toArray++[Value.string s].toArray)[j]? = (strs (l++[s]))[j]? := by rw [strs_append];simp [strs]
   rw [this]
   simp only [strs,List.getElem?_map,hj];rfl
  ·show (w.heap.push _)[c]? = _
   rw [Array.getElem?_push_lt hc,Array.getElem?_eq_getElem hc]
  ·show (w.heap.push _)[w.heap.size]? = _
   simp
end
end Go.Sw

namespace Go.Sw
def ex0:Ex:=.mk 0 0 ⟨#[]⟩ [] []
def fbody (T:Table) (n:Bs):Ex:=match lget T.funs n with | some f=>f.body | none=>ex0
def callsT (T:Table) (n:Bs):List Bs:=calledP (fbody T n)
theorem fbody_some {T:Table} {n:Bs} {f:Fun} (h:lget T.funs n=some f):fbody T n=f.body:=by simp [fbody,h]
theorem fbody_none {T:Table} {n:Bs} (h:lget T.funs n=none):fbody T n=ex0:=by simp [fbody,h]
theorem rex0 {Φ:Fz}:REx Φ [.int .i64 0,.int .i64 0,.string ⟨#[]⟩,.slice none 0 0,.slice none 0 0] ex0:=REx.iff.2 ⟨_,_,rfl,⟨by decide,by decide⟩,SliceOf.nil 5,SliceOf.nil 7⟩
theorem mput_keys:∀(m:List (Bs×Value)) (k:Bs) (x:Value) (s:Bs),(∃v,(s,v)∈mput m k x)↔s=k∨∃v,(s,v)∈m
 | [],k,x,s=>by simp [mput]
 | (k',y)::m,k,x,s=>by
  simp only [mput]
  split
  ·rename_i h;subst h
   simp only [List.mem_cons,Prod.mk.injEq]
   constructor
   ·rintro ⟨v,h | h⟩
    ·exact .inl h.1
    ·exact .inr ⟨v,.inr h⟩
   ·rintro (h | ⟨v,h | h⟩)
    ·exact ⟨x,.inl ⟨h,rfl⟩⟩
    ·exact ⟨x,.inl ⟨h.1,rfl⟩⟩
    ·exact ⟨v,.inr h⟩
  ·simp only [List.mem_cons,Prod.mk.injEq]
   have:=mput_keys m k x s
   constructor
   ·rintro ⟨v,h | h⟩
    ·exact .inr ⟨v,.inl h⟩
    ·rcases this.1 ⟨v,h⟩ with h | ⟨v,h⟩
     ·exact .inl h
     ·exact .inr ⟨v,.inr h⟩
   ·rintro (h | ⟨v,h | h⟩)
    ·obtain ⟨v,h⟩:=this.2 (.inl h);exact ⟨v,.inr h⟩
    ·exact ⟨v,.inl h⟩
    ·obtain ⟨v,h⟩:=this.2 (.inr ⟨v,h⟩);exact ⟨v,.inr h⟩
theorem mput_len:∀(m:List (Bs×Value)) (k:Bs) (x:Value),(mput m k x).length≤m.length+1
 | [],k,x=>by simp [mput]
 | (k',y)::m,k,x=>by
  simp only [mput]
  split
  ·simp
  ·have:=mput_len m k x;simp only [List.length_cons];omega
theorem foldT_keys:∀(l:List Bs) (m:List (Bs×Value)) (s:Bs),(∃v,(s,v)∈l.foldl (fun m s=>mput m s (.bool true)) m)↔s∈l∨∃v,(s,v)∈m
 | [],m,s=>by simp
 | x::l,m,s=>by
  rw [List.foldl_cons,foldT_keys l,mput_keys];simp only [List.mem_cons]
  constructor
  ·rintro (h | h | h)
   ·exact .inl (.inr h)
   ·exact .inl (.inl h)
   ·exact .inr h
  ·rintro ((h | h) | h)
   ·exact .inr (.inl h)
   ·exact .inl h
   ·exact .inr (.inr h)
theorem foldT_len:∀(l:List Bs) (m:List (Bs×Value)),(l.foldl (fun m s=>mput m s (.bool true)) m).length≤l.length+m.length
 | [],m=>by simp
 | x::l,m=>by
  have:=foldT_len l (mput m x (.bool true));have:=mput_len m x (.bool true)
  simp only [List.foldl_cons,List.length_cons];omega
theorem seenM_keys (l:List Bs) (s:Bs):(∃v,(s,v)∈seenM l)↔s∈l:=by rw [seenM,foldT_keys];simp
theorem seenM_len (l:List Bs):(seenM l).length≤l.length:=by have:=foldT_len l [];simpa [seenM] using this
theorem has_mem {l:List Bs} {s:Bs}:has l s=true↔s∈l:=by simp [has]
theorem nodup_le {α:Type}:∀{l U:List α},l.Nodup→(∀x∈l,x∈U)→l.length≤U.length
 | [],_,_,_=>Nat.zero_le _
 | x::l,U,hn,hs=>by
  obtain ⟨U1,U2,rfl⟩:=List.append_of_mem (hs x List.mem_cons_self)
  have hn':=List.nodup_cons.1 hn
  have:=nodup_le (l:=l) (U:=U1++U2) hn'.2 (fun y hy=>by
   have:=hs y (List.mem_cons_of_mem _ hy)
   simp only [List.mem_append,List.mem_cons] at this ⊢
   rcases this with h | rfl | h
   ·exact .inl h
   ·exact absurd hy hn'.1
   ·exact .inr h)
  simp only [List.length_append,List.length_cons] at this ⊢;omega
structure RInv (T:Table) (U start ds l:List Bs):Prop where
 nodup:ds.Nodup
 dU:∀x∈ds,x∈U
 lU:∀x∈l,x∈U
 len:l.length≤1000+ds.length * 6000
 starts:∀x∈start,x∈ds∨x∈l
 closed:∀x∈ds,∀y∈callsT T x,y∈ds∨y∈l
 least:∀Q:Bs→Prop,(∀x∈start,Q x)→(∀x,Q x→∀y∈callsT T x,Q y)→(∀x∈ds,Q x)∧∀x∈l,Q x
structure Reached (T:Table) (start ds:List Bs):Prop where
 starts:∀x∈start,x∈ds
 closed:∀x∈ds,∀y∈callsT T x,y∈ds
 least:∀Q:Bs→Prop,(∀x∈start,Q x)→(∀x,Q x→∀y∈callsT T x,Q y)→∀x∈ds,Q x
def muR (U ds l:List Bs):Nat:=(U.length - ds.length) * 6001+l.length
theorem RInv.start {T:Table} {U start:List Bs} (hU:∀x∈start,x∈U) (hl:start.length≤1000):RInv T U start [] start :=
 ⟨List.nodup_nil,by simp,hU,by simpa using hl,fun x h=>.inr h,by simp,fun Q h1 h2=>⟨by simp,h1⟩⟩
theorem RInv.fin {T:Table} {U start ds:List Bs} (h:RInv T U start ds []):Reached T start ds :=
 ⟨fun x hx=>(h.starts x hx).resolve_right (by simp),fun x hx y hy=>(h.closed x hx y hy).resolve_right (by simp),fun Q h1 h2=>(h.least Q h1 h2).1⟩
theorem RInv.skip {T:Table} {U start ds l:List Bs} {n:Bs} (h:RInv T U start ds l) (h0:l[0]? = some n) (hd:n∈ds):RInv T U start ds (l.drop 1)∧muR U ds (l.drop 1) < muR U ds l:=by
 obtain ⟨rest,rfl⟩:∃rest,l=n::rest:=by cases l with | nil=>simp at h0 | cons a r=>simp at h0;exact ⟨r,by rw [h0]⟩
 simp only [List.drop_succ_cons,List.drop_zero]
 refine ⟨⟨h.nodup,h.dU,fun x hx=>h.lU x (List.mem_cons_of_mem _ hx),?_,?_,?_,fun Q h1 h2=>⟨(h.least Q h1 h2).1,fun x hx=>(h.least Q h1 h2).2 x (List.mem_cons_of_mem _ hx)⟩⟩,?_⟩
 ·have:=h.len;simp only [List.length_cons] at this;omega
 ·intro x hx
  rcases h.starts x hx with h | h
  ·exact .inl h
  ·rcases List.mem_cons.1 h with rfl | h
   ·exact .inl hd
   ·exact .inr h
 ·intro x hx y hy
  rcases h.closed x hx y hy with h | h
  ·exact .inl h
  ·rcases List.mem_cons.1 h with rfl | h
   ·exact .inl hd
   ·exact .inr h
 ·simp only [muR,List.length_cons];omega
structure RIn (T:Table) (n:Bs) (rest:List Bs) (es:Array MapEntry) (seen:Array Nat) (l:List Bs):Prop where
 new:∀x∈l,x∈rest∨x∈callsT T n
 old:∀x∈rest,x∈l
 all:∀e∈es.toList,e∈leftE es seen∨∃s,e.key=.string s∧s∈l
 len:l.length+(leftE es seen).length≤rest.length+es.size
theorem RIn.start {T:Table} {n:Bs} {rest:List Bs} {es:Array MapEntry}:RIn T n rest es #[] rest :=
 ⟨fun x h=>.inl h,fun x h=>h,fun e h=>.inl (by rw [leftE_nil];exact h),by rw [leftE_nil];simp⟩
theorem RIn.next {T:Table} {n s:Bs} {v:Value} {rest l:List Bs} {es:Array MapEntry} {seen:Array Nat} {clock:Nat} {e:MapEntry} (h:RIn T n rest es seen l) (hok:MapOk es clock (seenM (callsT T n))) (he:e∈leftE es seen)
  (hk:e.key=.string s) (hm:(s,v)∈seenM (callsT T n)):RIn T n rest es (seen.push e.born) (l++[s]):=by
 refine ⟨?_,fun x hx=>List.mem_append_left _ (h.old x hx),?_,?_⟩
 ·intro x hx
  rcases List.mem_append.1 hx with hx | hx
  ·exact h.new x hx
  ·rw [List.mem_singleton] at hx;subst hx
   exact .inr ((seenM_keys _ _).1 ⟨v,hm⟩)
 ·intro x hx
  rcases h.all x hx with h1 | ⟨s',h1,h2⟩
  ·by_cases hb:x.born=e.born
   ·have h3:x=e:=by
     have a1:=find_born x es.toList hok.nodup hx
     have a2:=find_born e es.toList hok.nodup (leftE_mem.1 he).1
     rw [hb] at a1;rw [a1] at a2;exact Option.some.inj a2
    subst h3
    exact .inr ⟨s,hk,by simp⟩
   ·exact .inl (leftE_push.2 ⟨h1,hb⟩)
  ·exact .inr ⟨s',h1,List.mem_append_left _ h2⟩
 ·have:=leftE_lt he;have:=h.len;simp only [List.length_append,List.length_cons,List.length_nil];omega
theorem RInv.mark {T:Table} {U start ds l l':List Bs} {n:Bs} {es:Array MapEntry} {seen:Array Nat} {clock:Nat} (h:RInv T U start ds l) (h0:l[0]? = some n) (hd:n∉ds) (hM:∀x,(callsT T x).length≤6000) (hC:∀x,∀y∈callsT T x,y∈U)
  (hok:MapOk es clock (seenM (callsT T n))) (hi:RIn T n (l.drop 1) es seen l') (hl:leftE es seen=[]):RInv T U start (ds++[n]) l'∧muR U (ds++[n]) l' < muR U ds l:=by
 obtain ⟨rest,rfl⟩:∃rest,l=n::rest:=by cases l with | nil=>simp at h0 | cons a r=>simp at h0;exact ⟨r,by rw [h0]⟩
 simp only [List.drop_succ_cons,List.drop_zero] at hi
 have hes:es.size≤6000:=by
  have h1:=congrArg List.length hok.eq
  simp only [List.length_map,Array.length_toList] at h1
  have:=seenM_len (callsT T n);have:=hM n;omega
 have hlen:=hi.len
 rw [hl] at hlen
 simp only [List.length_nil,Nat.add_zero] at hlen
 have hall:∀y∈callsT T n,y∈l':=fun y hy=>by
  obtain ⟨v,hv⟩:=(seenM_keys (callsT T n) y).2 hy
  obtain ⟨e,he,hk⟩:=key_entry hok hv
  rcases hi.all e he with h1 | ⟨s,h1,h2⟩
  ·rw [hl] at h1;cases h1
  ·rw [hk] at h1;cases h1;exact h2
 have hn:n∈U:=h.lU n List.mem_cons_self
 have hnd:(ds++[n]).Nodup:=by
  rw [List.nodup_append]
  exact ⟨h.nodup,by simp,fun a ha b hb=>by rw [List.mem_singleton] at hb;subst hb;intro e;subst e;exact hd ha⟩
 have hdU:∀x∈ds++[n],x∈U:=fun x hx=>by
  rcases List.mem_append.1 hx with hx | hx
  ·exact h.dU x hx
  ·rw [List.mem_singleton] at hx;subst hx;exact hn
 have hle:(ds++[n]).length≤U.length:=nodup_le hnd hdU
 simp only [List.length_append,List.length_cons,List.length_nil] at hle
 refine ⟨⟨hnd,hdU,?_,?_,?_,?_,?_⟩,?_⟩
 ·intro x hx
  rcases hi.new x hx with h1 | h1
  ·exact h.lU x (List.mem_cons_of_mem _ h1)
  ·exact hC n x h1
 ·have:=h.len;simp only [List.length_cons,List.length_append,List.length_nil] at this ⊢;omega
 ·intro x hx
  rcases h.starts x hx with h1 | h1
  ·exact .inl (List.mem_append_left _ h1)
  ·rcases List.mem_cons.1 h1 with rfl | h1
   ·exact .inl (by simp)
   ·exact .inr (hi.old x h1)
 ·intro x hx y hy
  rcases List.mem_append.1 hx with hx | hx
  ·rcases h.closed x hx y hy with h1 | h1
   ·exact .inl (List.mem_append_left _ h1)
   ·rcases List.mem_cons.1 h1 with rfl | h1
    ·exact .inl (by simp)
    ·exact .inr (hi.old y h1)
  ·rw [List.mem_singleton] at hx;subst hx
   exact .inr (hall y hy)
 ·intro Q h1 h2
  have h3:=h.least Q h1 h2
  have hQn:Q n:=h3.2 n List.mem_cons_self
  refine ⟨fun x hx =>?_,fun x hx =>?_⟩
  ·rcases List.mem_append.1 hx with hx | hx
   ·exact h3.1 x hx
   ·rw [List.mem_singleton] at hx;subst hx;exact hQn
  ·rcases hi.new x hx with h4 | h4
   ·exact h3.2 x (List.mem_cons_of_mem _ h4)
   ·exact h2 n hQn x h4
 ·simp only [muR,List.length_append,List.length_cons,List.length_nil]
  have:U.length - ds.length=(U.length - (ds.length+1))+1:=by omega
  rw [this,Nat.add_mul];omega
theorem gs_queue {Φ:Fz} {K:List Res} {w:World} {i:Nat} {v:Value} {l:List Bs} (hm:Mem Φ K w) (hk:kget K i=some (.gs v 9 1 (strs l))) (hl:l≠[]):∃b cap arr,v=qval b 0 cap l∧QAt 0 cap arr l∧Mem Φ (kset K i (qblk b arr)) w:=by
 obtain ⟨n,h1,h2⟩:=hm.own _ (kget_mem hk)
 have hn:l.length=n:=by simpa [strs] using h1
 rcases h2 with ⟨_,h0⟩ | ⟨b,cap,cur,rfl,_,h4,h5,h6,h7,h8⟩
 ·exact absurd (List.eq_nil_of_length_eq_zero (by omega)) hl
 ·subst hn
  refine ⟨b,cap,cur,rfl,⟨by omega,h5,h6,fun j s hj =>?_⟩,hm.upd hk rfl rfl (fun _ _ _=>rfl) h4 (.inl rfl)⟩
  have hlt:=(List.getElem?_eq_some_iff.1 hj).1
  have h9:(cur.toList.take (l.length * 1))[j]? = some (.string s):=by rw [h8];simp only [strs,List.getElem?_map,hj];rfl
  rw [List.getElem?_take_of_lt (by omega),Array.getElem?_toList] at h9
  rw [Nat.zero_add];exact h9
theorem y_fieldA {P:Program} {n:Nat} {E:List (Nat×Value)} {D:List Deferred} {a:Act} {w:World} {ty:TypeId} (off:Nat) {x:Operand} {t:TypeId} {fs:Array Field} {i k:Nat} {fd:Field} {cs vs:List Value} (ht:Under P t (.struct fs)) (hf:fs[i]? = some fd) (hT:AggT P fd.type) (hS:SizeT P fd.type k)
  (he:EnvR n E D a) (hx:ev E x=some (.agg cs.toArray)) (ho:fd.offset=off) (hv:ltake (ldrop cs off) k=vs):Ok P a (.field t x i) ty w (.agg vs.toArray):=fun _ _ _ _=>by
 rw [ltake_eq,ldrop_eq] at hv
 subst ho
 simp only [execOp,he.ev hx]
 simp [Instr.field,Sem.run_bind,ht w,hf,asAgg,part,hT w,hS w,Result.andThen,← hv]
theorem es_size {es:Array MapEntry} {clock:Nat} {l:List Bs} (hok:MapOk es clock (seenM l)) (h:l.length≤6000):es.size≤6000:=by
 have h1:=congrArg List.length hok.eq
 simp only [List.length_map,Array.length_toList] at h1
 have:=seenM_len l;omega
theorem not_has {l:List Bs} {s:Bs} (h:has l s=false):s∉l:=fun hm=>by rw [has_mem.2 hm] at h;cases h
end Go.Sw

namespace Go.Sw
mutual
theorem calledP_len:∀(e:Ex) (l:Int),(meas e l).1=false→((calledP e).length:Int)≤l - (meas e l).2
 | .mk k n s args arms,l=>by
  intro h
  simp only [meas] at h ⊢
  split at h
  ·cases h
  ·rename_i hl
   rw [if_neg hl]
   cases hm:meass args (l - 1) with
   | mk b q =>
    rw [hm] at h
    cases b with
    | true=>cases h
    | false =>
     have k1:=calledPs_len args (l - 1) (by rw [hm])
     have k2:=calledPa_len arms q h
     rw [hm] at k1
     simp only [calledP,List.length_append] at k1 ⊢
     have k3:(if k=5 then [s] else []).length≤1:=by split <;> simp
     omega
theorem calledPs_len:∀(es:List Ex) (l:Int),(meass es l).1=false→((calledPs es).length:Int)≤l - (meass es l).2
 | [],l=>by intro _;simp [calledPs,meass]
 | e::es,l=>by
  intro h
  simp only [meass] at h ⊢
  cases hm:meas e l with
  | mk b q =>
   rw [hm] at h
   cases b with
   | true=>cases h
   | false =>
    have k1:=calledP_len e l (by rw [hm])
    have k2:=calledPs_len es q h
    rw [hm] at k1
    simp only [calledPs,List.length_append] at k1 ⊢
    omega
theorem calledPa_len:∀(es:List Arm) (l:Int),(measa es l).1=false→((calledPa es).length:Int)≤l - (measa es l).2
 | [],l=>by intro _;simp [calledPa,measa]
 | .mk c vs b::es,l=>by
  intro h
  simp only [measa] at h ⊢
  split at h
  ·cases h
  ·rename_i hv
   rw [if_neg hv]
   cases hm:meas b l with
   | mk q0 q =>
    rw [hm] at h
    cases q0 with
    | true=>cases h
    | false =>
     have k1:=calledP_len b l (by rw [hm])
     have k2:=calledPa_len es q h
     rw [hm] at k1
     simp only [calledPa,List.length_append] at k1 ⊢
     omega
end
theorem short_called {e:Ex} (h:Short e):(calledP e).length≤6000:=by
 obtain ⟨l,h1,h2⟩:=h
 have:=calledP_len e l h2
 have:=(meas_le e l h2).1
 omega
inductive Reach (T:Table) (s:Bs):Bs→Prop
 | refl:Reach T s s
 | step {x y:Bs}:Reach T s x→y∈callsT T x→Reach T s y
def ReadsAny (T:Table) (n:Bs):Prop:=∃x,Reach T n x∧readsP (fbody T x)=true
theorem Reached.mem {T:Table} {n:Bs} {ds:List Bs} (h:Reached T [n] ds) {x:Bs} (hx:Reach T n x):x∈ds:=by
 induction hx with
 | refl=>exact h.starts n (by simp)
 | step _ hy ih=>exact h.closed _ ih _ hy
theorem Reached.reach {T:Table} {n:Bs} {ds:List Bs} (h:Reached T [n] ds) {x:Bs} (hx:x∈ds):Reach T n x :=
 h.least (Reach T n) (by simp;exact .refl) (fun _ h1 _ h2=>.step h1 h2) x hx
def callEnd (r:Nat→Ev Val) (fu:Nat):Except Nat (Val×Nat) :=
 if fu < 1 then .error 4 else match r (fu - 1) with
  | .ok v g=>if largeP v then .error 7 else .ok (v,g)
  | _=>.error 4
theorem callEnd_zero {r:Nat→Ev Val} {fu:Nat} (h:fu < 1):callEnd r fu=.error 4:=by simp [callEnd,h]
theorem callEnd_large {r:Nat→Ev Val} {fu:Nat} (h:¬fu < 1) {v:Val} {g:Nat} (hr:r (fu - 1)=.ok v g) (hl:largeP v=true):callEnd r fu=.error 7:=by simp [callEnd,h,hr,hl]
theorem callEnd_ok {r:Nat→Ev Val} {fu:Nat} (h:¬fu < 1) {v:Val} {g:Nat} (hr:r (fu - 1)=.ok v g) (hl:largeP v=false):callEnd r fu=.ok (v,g):=by simp [callEnd,h,hr,hl]
theorem callEnd_spent {r:Nat→Ev Val} {fu:Nat} (h:¬fu < 1) (hr:r (fu - 1)=.spent):callEnd r fu=.error 4:=by simp [callEnd,h,hr]
theorem callEnd_err {r:Nat→Ev Val} {fu c:Nat} (h:callEnd r fu=.error c):c≠0:=by
 unfold callEnd at h
 split at h
 ·cases h;decide
 ·split at h
  ·split at h
   ·cases h;decide
   ·cases h
  ·cases h;decide
theorem outE {α ε:Type} {r:Except ε α} {x:α} {A:α→Prop} {B:ε→Prop} (h:r=.ok x) (hA:A x):Out r A B:=by subst h;exact hA
theorem outEE {α ε:Type} {r:Except ε α} {x:ε} {A:α→Prop} {B:ε→Prop} (h:r=.error x) (hB:B x):Out r A B:=by subst h;exact hB
open Classical in
noncomputable def callAllP (c:Core) (name:Bs) (args:List Val) (fuel:Int):Val×Int×Int :=
 if lookP c≠0 then (v0,0,lookP c)
 else if fuel < 0∨200000 < fuel then (v0,0,1)
 else match lget (tableP c).funs name with
  | none=>(v0,0,3)
  | some f =>
   if givenA (tableP c) args f.params=false then (v0,0,8)
   else if ReadsAny (tableP c) name then (v0,0,8)
   else match callEnd (callP (evalF ⟨(tableP c).funs,[]⟩) f args) fuel.toNat with
    | .ok (v,g)=>(v,((fuel.toNat - g:Nat):Int),0)
    | .error e=>(v0,0,((e:Nat):Int))
def univ (c:Core) (n:Bs):List Bs:=n::c.funs.flatMap fun f=>calledP f.body
theorem flat_len {α β:Type} {f:α→List β} {M:Nat}:∀{l:List α},(∀x∈l,(f x).length≤M)→(l.flatMap f).length≤l.length * M
 | [],_=>by simp
 | x::l,h=>by
  have h1:=h x List.mem_cons_self
  have h2:=flat_len (l:=l) (fun y hy=>h y (List.mem_cons_of_mem _ hy))
  simp only [List.flatMap_cons,List.length_append,List.length_cons,Nat.add_mul];omega
theorem look_calls {c:Core} (h:lookP c=0):(∀x,(callsT (tableP c) x).length≤6000)∧(∀n x,∀y∈callsT (tableP c) x,y∈univ c n)∧∀n,(univ c n).length≤2000000:=by
 obtain ⟨hl,hr⟩:=look_parts h
 have ht:tabledP c=true:=by simp only [rightP,Bool.and_eq_true] at hr;exact hr.1.1.1.1.1
 have hn:c.funs.length≤300:=by
  simp only [longP,Bool.or_eq_false_iff,decide_eq_false_iff_not] at hl
  omega
 refine ⟨fun x =>?_,fun n x y hy =>?_,fun n =>?_⟩
 ·unfold callsT fbody
  cases hf:lget (tableP c).funs x with
  | none=>simp [ex0,calledP,calledPs,calledPa]
  | some f=>exact short_called (long_short hl (tabled_funs ht hf))
 ·unfold callsT fbody at hy
  cases hf:lget (tableP c).funs x with
  | none=>rw [hf] at hy;simp [ex0,calledP,calledPs,calledPa] at hy
  | some f =>
   rw [hf] at hy
   exact List.mem_cons_of_mem _ (List.mem_flatMap.2 ⟨f,tabled_funs ht hf,hy⟩)
 ·have:=flat_len (l:=c.funs) (f:=fun f=>calledP f.body) (M:=6000) (fun f hf=>short_called (long_short hl hf))
  simp only [univ,List.length_cons]
  have:c.funs.length * 6000≤300 * 6000:=Nat.mul_le_mul_right _ hn
  omega
structure RNo (T:Table) (es:Array MapEntry) (seen:Array Nat):Prop where
 no:∀e∈es.toList,e∈leftE es seen∨∃s,e.key=.string s∧readsP (fbody T s)=false
theorem RNo.start {T:Table} {es:Array MapEntry}:RNo T es #[]:=⟨fun e h=>.inl (by rw [leftE_nil];exact h)⟩
theorem RNo.next {T:Table} {es:Array MapEntry} {seen:Array Nat} {clock:Nat} {m:List (Bs×Value)} {e:MapEntry} {s:Bs} (h:RNo T es seen) (hok:MapOk es clock m) (he:e∈leftE es seen) (hk:e.key=.string s) (hr:readsP (fbody T s)=false):RNo T es (seen.push e.born) :=
 ⟨fun x hx=>by
  rcases h.no x hx with h1 | h1
  ·by_cases hb:x.born=e.born
   ·have a1:=find_born x es.toList hok.nodup hx
    have a2:=find_born e es.toList hok.nodup (leftE_mem.1 he).1
    rw [hb] at a1;rw [a1] at a2
    have:=Option.some.inj a2
    subst this
    exact .inr ⟨s,hk,hr⟩
   ·exact .inl (leftE_push.2 ⟨h1,hb⟩)
  ·exact .inr h1⟩
theorem RNo.none {T:Table} {n:Bs} {ds:List Bs} {es:Array MapEntry} {seen:Array Nat} {clock:Nat} (h:RNo T es seen) (hok:MapOk es clock (seenM ds)) (hd:Reached T [n] ds) (hl:leftE es seen=[]):¬ReadsAny T n:=by
 rintro ⟨x,h1,h2⟩
 obtain ⟨v,hv⟩:=(seenM_keys ds x).2 (hd.mem h1)
 obtain ⟨e,he,hk⟩:=key_entry hok hv
 rcases h.no e he with h3 | ⟨s,h3,h4⟩
 ·rw [hl] at h3;cases h3
 ·rw [hk] at h3;cases h3;rw [h2] at h4;cases h4
theorem reads_any {T:Table} {n s:Bs} {v:Value} {ds:List Bs} (hd:Reached T [n] ds) (hm:(s,v)∈seenM ds) (hr:readsP (fbody T s)=true):ReadsAny T n :=
 ⟨s,hd.reach ((seenM_keys ds s).1 ⟨v,hm⟩),hr⟩
end Go.Sw

namespace Go.Sw
open Go.Proofs
set_option maxRecDepth 20000
set_option maxHeartbeats 4000000
theorem runAllN_ok {Φ:Fz} {K:List Res} {w:World} {d0:List Value} {v1:Value} {c:Core} {l:List Named} {fuel:Int} (rpc:RCore Φ d0 c) (rl:SliceOf RNamed Φ 4 v1 l) (G:Glob Φ) (hm:Mem Φ K w) :
  Calls Tryz.prog 15 (List.toArray [.agg d0.toArray,v1,.int .i64 fuel]) w (fun ee w'=>∃y:Fz×List Value,ee=.returned (.tuple (List.toArray [.agg y.2.toArray,.int .i64 (runP c l fuel).2]))∧(Φ.Le y.1∧ROutcome y.1 y.2 (runP c l fuel).1∧∀v s,y.2=[v,s]→NewRow Φ v)∧Mem y.1 K w'):=by
 obtain ⟨p3,c4,p9,c10,p15,c16,p21,c22,rfl,h2,h8,h14,h20,hm5,hn6,hm11,hn12,hm17,hn18,hm23,hn24⟩:=RCore.fm rpc
 obtain ⟨p1,c1,rfl,hm1,hn1⟩:=rl.fm
 refine Enter Tryz.func15 Tryz.ntmps15 fun Q hQ a he =>?_
 refine Bx he hm fun b26 w hm a he =>?_
 refine Bx he hm fun b27 w hm a he =>?_
 refine Alc he hm fun b28 w hm a he =>?_
 refine CallY Tryz.call43 he hm (fun y30 w hG31 hm a he =>?_) (c:=look_ok rpc G hm)
 obtain ⟨Ψ32,p33⟩:=y30
 obtain ⟨le34,hT35⟩:=hG31
 simp only at le34 hT35 hm he
 replace rpc:=RCore.mono _ _ _ _ le34 rpc
 replace G:=G.mono le34
 replace rl:=rl.up le34
 replace hm:=hm.nf
 by_cases hlk36:lookP c=0
 obtain ⟨hT37,hlong38⟩:=hT35 hlk36
 rw [if_pos hlk36,hlk36] at he
 refine Alc he hm fun b39 w hm a he =>?_
 refine Sto 0 he hm fun w hm a he =>?_
 refine Qq he hm (fun a he =>?_) (o:=by exact fun _ _ _ he hs=>y_ineq false he rfl rfl rfl)
 refine go he hm fun a he =>?_
 by_cases h43:fuel < 0
 refine BldT1 he hm fun a he =>?_
 refine Sto 1 he hm fun w hm a he =>?_
 refine go he hm fun a he =>?_
 have hmr:=hm
 replace hm:=hm.dl [3,2,1,0]
 refine hQ _ _ _ (retcA2 (i:=1) (cs:=[.slice none 0 0,.int .i64 ((0:Nat):Int)]) he hmr.toSees Tryz.results15 rfl rfl Tryz.isAgg30 Tryz.sizeOf30 rfl rfl ?_)
 have hr_:runP c l (fuel)=(out0,1):=by
  simp only [runP,if_neg (not_not_intro hlk36)];rw [if_pos (by have h_:=h43;omega)] <;> rfl
 rw [hr_]
 exact ⟨(Ψ32,_),rfl,⟨le34,⟨_,rfl,SliceOf.nil 4⟩,fun _ _ e_=>by cases e_;exact NewRow.nil⟩,hm⟩
 refine go he hm fun a he =>?_
 by_cases h45:200000 < fuel
 refine BldT1 he hm fun a he =>?_
 refine Sto 1 he hm fun w hm a he =>?_
 refine go he hm fun a he =>?_
 have hmr:=hm
 replace hm:=hm.dl [3,2,1,0]
 refine hQ _ _ _ (retcA2 (i:=1) (cs:=[.slice none 0 0,.int .i64 ((0:Nat):Int)]) he hmr.toSees Tryz.results15 rfl rfl Tryz.isAgg30 Tryz.sizeOf30 rfl rfl ?_)
 have hr_:runP c l (fuel)=(out0,1):=by
  simp only [runP,if_neg (not_not_intro hlk36)];rw [if_pos (by have h_:=h45;omega)] <;> rfl
 rw [hr_]
 exact ⟨(Ψ32,_),rfl,⟨le34,⟨_,rfl,SliceOf.nil 4⟩,fun _ _ e_=>by cases e_;exact NewRow.nil⟩,hm⟩
 refine CallB Tryz.call44 he hm (fun hB48 w hm a he =>?_) (fun hB48 w hm a he =>?_) (c:=given_ok hT37 rl hm)
 refine go he hm fun a he =>?_
 have hgv_:givenP (tableP c) l c.inputs=true:=hB48
 have hfu_:fuel≤200000:=by have h_:=h45;omega
 have hf0_:0≤fuel:=by have h_:=h43;omega
 have hmk_:=hm
 have hek_:=he
 clear hm he
 obtain ⟨fu,rfl⟩:=Int.eq_ofNat_of_zero_le hf0_
 have hm:=hmk_
 have he:=hek_
 clear hmk_ hek_
 refine Alc he hm fun b50 w hm a he =>?_
 refine Alc he hm fun b52 w hm a he =>?_
 refine Alc he hm fun b54 w hm a he =>?_
 refine MkM he hm fun b56 w hm a he =>?_
 refine Alc he hm fun b57 w hm a he =>?_
 refine Sto 0 he hm fun w hm a he =>?_
 refine go he hm fun a he =>?_
 refine loopK (he.ks [3,5,6,8,10,11,12,13,41,42]) hm (fun R mm a w=>∃(i:Nat) (mv:List (Bs×Value)) (lv:List (Bs×Val)),mm=l.length - i∧R Ψ32 [(43,.int .i64 ((i:Nat):Int))] [(1,.mp b56 mv)] a w∧(inpP l=(l.drop i).foldl (fun m x=>lput m x.name x.value) lv∧MapRel (RVa RVal Ψ32) mv lv)) (l.length - 0) ⟨0,[],[],rfl,⟨he.pk,hm⟩,⟨rfl,MapRel.nil⟩⟩ ?_
 clear hm he
 rintro mm a w ⟨i,mv,lv,hmu,⟨he,hm⟩,hI61⟩ L60 hL60
 replace hm:=hm.nf
 obtain ⟨hI61,rv⟩:=hI61
 refine go he hm fun a he =>?_
 by_cases h63:i < l.length
 refine go he hm fun a he =>?_
 obtain ⟨q67,rfl,x68,hx69,cs70,hl71,ha72,hr73⟩:=rl.el hn1 h63
 obtain ⟨b74,rfl,h75⟩:=id hr73
 obtain ⟨p78,c79,rfl,hi82,h77,hm80,hn81⟩:=RVal.fm h75
 refine Alc he hm fun b83 w hm a he =>?_
 refine Sto 0 he hm fun w hm a he =>?_
 refine MapU 2 Tryz.runUnderlying94 Tryz.runUnderlying9 he hm fun w hm a he =>?_
 refine go he hm fun a he =>?_
 replace hm:=hm.dl [0]
 refine hL60 _ _ _ (by subst hmu;omega) ⟨(i+1),((mput mv x68.name (.agg (List.toArray [.string x68.value.con,.int .i64 (x68.value.num),.slice p78 x68.value.args.length c79])))),((lput lv x68.name x68.value)),rfl,⟨he.pk,hm⟩,?_⟩
 refine ⟨?_,(rv.put ⟨_,rfl,h75⟩)⟩
 rw [hI61,drop_cons hx69];rfl
 refine go he hm fun a he =>?_
 have hm0_:=hm
 clear hm
 obtain ⟨Ψ86,le87,hm,hma88⟩:=hm0_.freezeMap (i:=1) rfl
 clear hm0_
 replace rpc:=RCore.mono _ _ _ _ le87 rpc
 replace G:=G.mono le87
 replace hT37:=hT37.mono le87
 replace rv:=rv.up le87
 replace hm:=hm.nf
 have rG_:RGiven Ψ86 (.map (some b56)) (inpP l):=by
  have e_:inpP l=lv:=by rw [hI61,drop_end h63];rfl
  rw [e_];exact .inl ⟨_,_,rfl,hma88,rv⟩
 replace hm:=hm.nf
 refine go he hm fun a he =>?_
 replace hm:=hm.ar [] [3,2,3,6,4,5,7]
 refine st he rfl rfl rfl (eff_callW he rfl Tryz.call45 (run_within (inp:=inpP l) rpc hT37 rG_ (look_funs hlk36) (look_outs hlk36) (by omega) (run_ns hlk36 hgv_ fu) hm) (fun q89 y90 w hq91 hG92 hm a he =>?_) (fun q89 w hq91 hm a he =>?_))
 obtain ⟨xs93,g94⟩:=q89
 obtain ⟨Ψ95,u96,cl97,vo98⟩:=y90
 obtain ⟨le99,htot100,hcl101,hsl102,hnw103⟩:=hG92
 simp only at le99 htot100 hcl101 hsl102 hnw103 hm he
 replace hnw103:=hnw103.anti ((le34).trans le87)
 obtain ⟨p104,c105,rfl,hmx106,hnx107⟩:=hsl102.fm
 replace rpc:=RCore.mono _ _ _ _ le99 rpc
 replace G:=G.mono le99
 replace rG_:=RGiven.mono le99 rG_
 replace hm:=hm.nf
 refine Qq he hm (fun a he =>?_) (o:=by exact fun _ _ _ he hs=>y_ineq false he rfl rfl rfl)
 replace hm:=hm.pl 1
 refine CallR Tryz.call47 he hm (fun w hm a he =>?_) (c:=total_ok (l:=cl97) (by have h_:=hcl101;omega) hm)
 refine Sto 2 he hm fun w hm a he =>?_
 refine Sto 3 he hm fun w hm a he =>?_
 refine go he hm fun a he =>?_
 have hmr:=hm
 replace hm:=hm.dl [3,2,1,0]
 refine hQ _ _ _ (retcA2 (i:=3) (cs:=[.slice p104 (namesP c.outputs xs93).length c105,.int .i64 ((totalP cl97))]) he hmr.toSees Tryz.results15 rfl rfl Tryz.isAgg30 Tryz.sizeOf30 rfl rfl ?_)
 have hr_:runP c l (((fu:Nat):Int))=(⟨namesP c.outputs xs93,((fu - g94:Nat):Int)⟩,((0:Nat):Int)):=by
  simp only [runP,if_neg (not_not_intro hlk36)]
  rw [if_neg (by omega),if_neg (by rw [hgv_];decide),Int.toNat_natCast,hq91] <;> rfl
 rw [hr_]
 exact ⟨(Ψ95,_),rfl,⟨((le34).trans le87).trans le99,⟨_,by rw [show (⟨namesP c.outputs xs93,((fu - g94:Nat):Int)⟩:Outcome).steps=totalP cl97 from htot100.symm],hsl102⟩,fun _ _ e_=>by cases e_;exact hnw103⟩,hm⟩
 have hc112:=endP_err hq91
 replace hm:=hm.nf
 refine BldT1 he hm fun a he =>?_
 refine Sto 0 he hm fun w hm a he =>?_
 refine go he hm fun a he =>?_
 have hmr:=hm
 replace hm:=hm.dl [0]
 refine hQ _ _ _ (retcA2 (i:=0) (cs:=[.slice none 0 0,.int .i64 ((0:Nat):Int)]) he hmr.toSees Tryz.results15 rfl rfl Tryz.isAgg30 Tryz.sizeOf30 rfl rfl ?_)
 have hr_:runP c l (((fu:Nat):Int))=(out0,((q89:Nat):Int)):=by
  simp only [runP,if_neg (not_not_intro hlk36)]
  rw [if_neg (by omega),if_neg (by rw [hgv_];decide),Int.toNat_natCast,hq91] <;> rfl
 rw [hr_]
 exact ⟨(Ψ86,_),rfl,⟨(le34).trans le87,⟨_,rfl,SliceOf.nil 4⟩,fun _ _ e_=>by cases e_;exact NewRow.nil⟩,hm⟩
 refine BldT1 he hm fun a he =>?_
 refine Sto 1 he hm fun w hm a he =>?_
 refine go he hm fun a he =>?_
 have hmr:=hm
 replace hm:=hm.dl [3,2,1,0]
 refine hQ _ _ _ (retcA2 (i:=1) (cs:=[.slice none 0 0,.int .i64 ((0:Nat):Int)]) he hmr.toSees Tryz.results15 rfl rfl Tryz.isAgg30 Tryz.sizeOf30 rfl rfl ?_)
 have hr_:runP c l (fuel)=(out0,8):=by
  simp only [runP,if_neg (not_not_intro hlk36)];rw [if_neg (by have h1_:=h45;have h2_:=h43;omega),if_pos (show givenP (tableP c) l c.inputs=false from hB48)] <;> rfl
 rw [hr_]
 exact ⟨(Ψ32,_),rfl,⟨le34,⟨_,rfl,SliceOf.nil 4⟩,fun _ _ e_=>by cases e_;exact NewRow.nil⟩,hm⟩
 rw [if_neg hlk36] at he
 refine Alc he hm fun b117 w hm a he =>?_
 refine Sto 0 he hm fun w hm a he =>?_
 refine BldT1 he hm fun a he =>?_
 refine Sto 1 he hm fun w hm a he =>?_
 refine go he hm fun a he =>?_
 have hmr:=hm
 replace hm:=hm.dl [3,2,1,0]
 refine hQ _ _ _ (retcA2 (i:=1) (cs:=[.slice none 0 0,.int .i64 ((0:Nat):Int)]) he hmr.toSees Tryz.results15 rfl rfl Tryz.isAgg30 Tryz.sizeOf30 rfl rfl ?_)
 have hr_:runP c l (fuel)=(out0,lookP c):=by
  simp only [runP,if_pos hlk36]
 rw [hr_]
 exact ⟨(Ψ32,_),rfl,⟨le34,⟨_,rfl,SliceOf.nil 4⟩,fun _ _ e_=>by cases e_;exact NewRow.nil⟩,hm⟩
theorem runAll_ok {Φ:Fz} {K:List Res} {w:World} {d0:List Value} {v1:Value} {c:Core} {l:List Named} {fuel:Int} (rpc:RCore Φ d0 c) (rl:SliceOf RNamed Φ 4 v1 l) (G:Glob Φ) (hm:Mem Φ K w) :
  Calls Tryz.prog 15 (List.toArray [.agg d0.toArray,v1,.int .i64 fuel]) w (fun ee w'=>∃y:Fz×List Value,ee=.returned (.tuple (List.toArray [.agg y.2.toArray,.int .i64 (runP c l fuel).2]))∧(Φ.Le y.1∧ROutcome y.1 y.2 (runP c l fuel).1)∧Mem y.1 K w'):=by
 refine (runAllN_ok rpc rl G hm).mono fun ee w' h =>?_
 obtain ⟨y,h1,⟨h2,h3,_⟩,h4⟩:=h
 exact ⟨y,h1,⟨h2,h3⟩,h4⟩
end Go.Sw

namespace Go.Sw
open Go.Proofs
set_option maxRecDepth 20000
set_option maxHeartbeats 4000000
theorem called_step {Φ:Fz} {K:List Res} {w:World} {d:List Value} {e:Ex} {b:Nat} {ds:List Bs} (re:REx Φ d e) (ih:∀x:Ex,x.sz < e.sz→∀{Φ:Fz} {K:List Res} {w:World} {d:List Value} {b:Nat} {ds:List Bs},REx Φ d x→Mem Φ (.mp b (seenM ds)::K) w→Calls Tryz.prog 93 (List.toArray [.agg d.toArray,.map (some b)]) w (fun ee w'=>ee=.returned (.tuple #[])∧Mem Φ (.mp b (seenM (ds++calledP x))::K) w')) (hm:Mem Φ (.mp b (seenM ds)::K) w) :
  Calls Tryz.prog 93 (List.toArray [.agg d.toArray,.map (some b)]) w (fun ee w'=>ee=.returned (.tuple #[])∧Mem Φ (.mp b (seenM (ds++calledP e))::K) w'):=by
 obtain ⟨p3,c4,p9,c10,rfl,hi13,h2,h8,hm5,hn6,hm11,hn12⟩:=REx.fm re
 refine Enter Tryz.func93 Tryz.ntmps93 fun Q hQ a he =>?_
 refine Bx he hm fun b15 w hm a he =>?_
 refine go he hm fun a he =>?_
 by_cases h18:e.kind=5
 refine MapU 1 Tryz.runUnderlying121 Tryz.runUnderlying9 he hm fun w hm a he =>?_
 rw [← seenM_snoc] at hm
 refine go he hm fun a he =>?_
 refine loopK (he.ks [1,2,15,16]) hm (fun R mm a w=>∃(i:Nat) (d1:List Bs),mm=e.args.length - i∧R Φ [(17,.int .i64 ((i:Nat):Int))] [(1,.mp b (seenM d1))] a w∧(ds++calledP e=d1++(calledPs (e.args.drop i)++calledPa e.arms))) (e.args.length - 0) ⟨0,(ds++[e.name]),rfl,⟨he.pk,hm⟩,by rw [calledP_eq];simp [*]⟩ ?_
 clear hm he
 rintro mm a w ⟨i,d1,hmu,⟨he,hm⟩,hI22⟩ L21 hL21
 replace hm:=hm.nf
 refine go he hm fun a he =>?_
 by_cases h24:i < e.args.length
 refine go he hm fun a he =>?_
 obtain ⟨q28,rfl,x29,hx30,cs31,hl32,ha33,hr34⟩:=h2.el hn6 h24
 obtain ⟨p37,c38,p43,c44,rfl,hi47,h36,h42,hm39,hn40,hm45,hn46⟩:=REx.fm hr34
 refine Alc he hm fun b48 w hm a he =>?_
 refine Sto 0 he hm fun w hm a he =>?_
 replace hm:=hm.pl 2
 refine CallR Tryz.call93 he hm (fun w hm a he =>?_) (c:=ih _ (Ex.lt_args (List.mem_of_getElem? hx30)) hr34 hm)
 refine go he hm fun a he =>?_
 replace hm:=hm.ar [1] [1]
 refine hL21 _ _ _ (by subst hmu;omega) ⟨(i+1),((d1++calledP x29)),rfl,⟨he.pk,hm⟩,?_⟩
 rw [hI22,drop_cons hx30];simp [calledPs]
 refine go he hm fun a he =>?_
 refine loopK (he.ks [1,26,27]) hm (fun R mm a w=>∃(k:Nat) (d2:List Bs),mm=e.arms.length - k∧R Φ [(28,.int .i64 ((k:Nat):Int))] [(1,.mp b (seenM d2))] a w∧(ds++calledP e=d2++calledPa (e.arms.drop k))) (e.arms.length - 0) ⟨0,d1,rfl,⟨he.pk,hm⟩,by rw [hI22,drop_end h24];simp [calledPs]⟩ ?_
 clear hm he
 rintro mm a w ⟨k,d2,hmu,⟨he,hm⟩,hI52⟩ L51 hL51
 replace hm:=hm.nf
 refine go he hm fun a he =>?_
 by_cases h54:k < e.arms.length
 refine go he hm fun a he =>?_
 obtain ⟨q58,rfl,x59,hx60,cs61,hl62,ha63,hr64⟩:=h8.el hn12 h54
 obtain ⟨s65,b71,rfl,h66,h72⟩:=RArm.iff.1 hr64
 obtain ⟨p67,c68,rfl,hm69,hn70⟩:=h66.fm
 obtain ⟨p75,c76,p81,c82,rfl,hi85,h74,h80,hm77,hn78,hm83,hn84⟩:=REx.fm h72
 refine Alc he hm fun b86 w hm a he =>?_
 refine Sto 0 he hm fun w hm a he =>?_
 replace hm:=hm.pl 2
 refine CallR Tryz.call93 he hm (fun w hm a he =>?_) (c:=ih _ (Ex.lt_arms (List.mem_of_getElem? hx60)) h72 hm)
 refine go he hm fun a he =>?_
 replace hm:=hm.ar [1] [1]
 refine hL51 _ _ _ (by subst hmu;omega) ⟨(k+1),((d2++calledP x59.body)),rfl,⟨he.pk,hm⟩,?_⟩
 rw [hI52,drop_cons hx60,calledPa_cons];simp
 refine go he hm fun a he =>?_
 replace hm:=hm.dl [0]
 refine hQ _ _ _ (ret0N he Tryz.results93 ?_)
 rw [show ds++calledP e=d2 by rw [hI52,drop_end h54];simp [calledPa]]
 exact ⟨rfl,hm⟩
 refine go he hm fun a he =>?_
 refine loopK (he.ks [1,2,15,16]) hm (fun R mm a w=>∃(i:Nat) (d1:List Bs),mm=e.args.length - i∧R Φ [(17,.int .i64 ((i:Nat):Int))] [(1,.mp b (seenM d1))] a w∧(ds++calledP e=d1++(calledPs (e.args.drop i)++calledPa e.arms))) (e.args.length - 0) ⟨0,ds,rfl,⟨he.pk,hm⟩,by rw [calledP_eq];simp [*]⟩ ?_
 clear hm he
 rintro mm a w ⟨i,d1,hmu,⟨he,hm⟩,hI91⟩ L90 hL90
 replace hm:=hm.nf
 refine go he hm fun a he =>?_
 by_cases h93:i < e.args.length
 refine go he hm fun a he =>?_
 obtain ⟨q97,rfl,x98,hx99,cs100,hl101,ha102,hr103⟩:=h2.el hn6 h93
 obtain ⟨p106,c107,p112,c113,rfl,hi116,h105,h111,hm108,hn109,hm114,hn115⟩:=REx.fm hr103
 refine Alc he hm fun b117 w hm a he =>?_
 refine Sto 0 he hm fun w hm a he =>?_
 replace hm:=hm.pl 2
 refine CallR Tryz.call93 he hm (fun w hm a he =>?_) (c:=ih _ (Ex.lt_args (List.mem_of_getElem? hx99)) hr103 hm)
 refine go he hm fun a he =>?_
 replace hm:=hm.ar [1] [1]
 refine hL90 _ _ _ (by subst hmu;omega) ⟨(i+1),((d1++calledP x98)),rfl,⟨he.pk,hm⟩,?_⟩
 rw [hI91,drop_cons hx99];simp [calledPs]
 refine go he hm fun a he =>?_
 refine loopK (he.ks [1,26,27]) hm (fun R mm a w=>∃(k:Nat) (d2:List Bs),mm=e.arms.length - k∧R Φ [(28,.int .i64 ((k:Nat):Int))] [(1,.mp b (seenM d2))] a w∧(ds++calledP e=d2++calledPa (e.arms.drop k))) (e.arms.length - 0) ⟨0,d1,rfl,⟨he.pk,hm⟩,by rw [hI91,drop_end h93];simp [calledPs]⟩ ?_
 clear hm he
 rintro mm a w ⟨k,d2,hmu,⟨he,hm⟩,hI121⟩ L120 hL120
 replace hm:=hm.nf
 refine go he hm fun a he =>?_
 by_cases h123:k < e.arms.length
 refine go he hm fun a he =>?_
 obtain ⟨q127,rfl,x128,hx129,cs130,hl131,ha132,hr133⟩:=h8.el hn12 h123
 obtain ⟨s134,b140,rfl,h135,h141⟩:=RArm.iff.1 hr133
 obtain ⟨p136,c137,rfl,hm138,hn139⟩:=h135.fm
 obtain ⟨p144,c145,p150,c151,rfl,hi154,h143,h149,hm146,hn147,hm152,hn153⟩:=REx.fm h141
 refine Alc he hm fun b155 w hm a he =>?_
 refine Sto 0 he hm fun w hm a he =>?_
 replace hm:=hm.pl 2
 refine CallR Tryz.call93 he hm (fun w hm a he =>?_) (c:=ih _ (Ex.lt_arms (List.mem_of_getElem? hx129)) h141 hm)
 refine go he hm fun a he =>?_
 replace hm:=hm.ar [1] [1]
 refine hL120 _ _ _ (by subst hmu;omega) ⟨(k+1),((d2++calledP x128.body)),rfl,⟨he.pk,hm⟩,?_⟩
 rw [hI121,drop_cons hx129,calledPa_cons];simp
 refine go he hm fun a he =>?_
 replace hm:=hm.dl [0]
 refine hQ _ _ _ (ret0N he Tryz.results93 ?_)
 rw [show ds++calledP e=d2 by rw [hI121,drop_end h123];simp [calledPa]]
 exact ⟨rfl,hm⟩
theorem called_ok {Φ:Fz} {K:List Res} {w:World} {d:List Value} {e:Ex} {b:Nat} {ds:List Bs} (re:REx Φ d e) (hm:Mem Φ (.mp b (seenM ds)::K) w) :
  Calls Tryz.prog 93 (List.toArray [.agg d.toArray,.map (some b)]) w (fun ee w'=>ee=.returned (.tuple #[])∧Mem Φ (.mp b (seenM (ds++calledP e))::K) w'):=by
 suffices H:∀n (e:Ex),e.sz < n→∀{Φ:Fz} {K:List Res} {w:World} {d:List Value} {b:Nat} {ds:List Bs},REx Φ d e→Mem Φ (.mp b (seenM ds)::K) w →
   Calls Tryz.prog 93 (List.toArray [.agg d.toArray,.map (some b)]) w (fun ee w'=>ee=.returned (.tuple #[])∧Mem Φ (.mp b (seenM (ds++calledP e))::K) w') from H _ e (Nat.lt_succ_self _) re hm
 intro n
 induction n with
 | zero=>intro e h;omega
 | succ n ih=>intro e h Φ K w d b ds re hm;exact called_step re (fun x hx _ _ _ _ _ _ r m=>ih x (by omega) r m) hm
end Go.Sw

namespace Go.Sw
open Go.Proofs
set_option maxRecDepth 20000
set_option maxHeartbeats 4000000
theorem reach_ok {Φ:Fz} {K:List Res} {w:World} {p:Addr} {T:Table} {b off cap:Nat} {arr:Array Value} {start U:List Bs} (rT:RTableW Φ p T) (hq:QAt off cap arr start) (hl:start.length≤1000) (hU:∀x∈start,x∈U) (hUl:U.length≤2000000) (hM:∀x,(callsT T x).length≤6000) (hC:∀x,∀y∈callsT T x,y∈U) (hm:Mem Φ (qblk b arr::K) w) :
  Calls Tryz.prog 62 (List.toArray [.pointer (some p),qval b off cap start]) w (fun ee w'=>∃y:Nat×List Bs,ee=.returned (.map (some y.1))∧Reached T start y.2∧Mem Φ (.mp y.1 (seenM y.2)::K) w'):=by
 obtain ⟨z1,z2,z3,z4,m5,m6,m7,m8,d9,hat10,hfs11,ma12,mr13⟩:=rT.ex
 obtain ⟨p14,c15,rfl,hmx16,hn17⟩:=hfs11.fm
 refine Enter Tryz.func62 Tryz.ntmps62 fun Q hQ a he =>?_
 refine MkM he hm fun b20 w hm a he =>?_
 replace hm:=hm.nf
 refine go he hm fun a he =>?_
 refine loopK (he.ks [0,5]) hm (fun R mm a w=>∃(qb:Nat) (qo:Nat) (qc:Nat) (qa:Array Value) (l:List Bs) (ds:List Bs),mm=muR U ds l∧R Φ [(1,qval qb qo qc l)] [(0,.mp b20 (seenM ds)),(1,qblk qb qa)] a w∧(QAt qo qc qa l∧RInv T U start ds l)) (muR U [] start) ⟨b,off,cap,arr,start,[],rfl,⟨he.pk,hm⟩,⟨hq,RInv.start hU hl⟩⟩ ?_
 clear hm he
 rintro mm a w ⟨qb,qo,qc,qa,l,ds,hmu,⟨he,hm⟩,hI23⟩ L22 hL22
 replace hm:=hm.nf
 obtain ⟨hq_,hR_⟩:=hI23
 refine go he hm fun a he =>?_
 by_cases h26:0 < l.length
 refine go he hm fun a he =>?_
 obtain ⟨x28,hx29⟩:=at_of_lt h26
 refine Qq he hm (fun a he =>?_) (o:=by exact fun _ _ _ he hs=>y_load_q 1 he hs hq_ rfl rfl hx29 Tryz.isAgg9)
 refine go he hm fun a he =>?_
 have hq31:=hq_.tail h26
 refine Qq he hm (fun a he =>?_) (o:=by exact fun _ _ _ he hs=>y_slice_q he hq_ rfl rfl Tryz.runUnderlying25 Tryz.sizeOf9 h26)
 refine go he hm fun a he =>?_
 rcases hf34:mget ((seenM ds)) x28 with _ | vf35
 have hf34_:=congrArg (gotten false (.bool false)) hf34
 refine Qq he hm (fun a he =>?_) (o:=by exact fun _ _ _ he hs=>Ok.cast (y_lookup_own 0 Tryz.runUnderlying121 Tryz.runUnderlying9 Tryz.zeroValue4 he hs rfl rfl rfl) (show gotten false (.bool false) (mget ((seenM ds)) x28)=.bool false from hf34_))
 refine go he hm fun a he =>?_
 have hnd_:=seen_not hf34
 refine MapU 0 Tryz.runUnderlying121 Tryz.runUnderlying9 he hm fun w hm a he =>?_
 rw [← seenM_snoc] at hm
 refine MkM he hm fun b38 w hm a he =>?_
 refine go he hm fun a he =>?_
 replace hm:=hm.nf
 refine go he hm fun a he =>?_
 rcases hf40:mget (d9) x28 with _ | vf41
 have hf40_:=congrArg (gotten false (.agg (List.toArray [.string ⟨#[]⟩,.slice none 0 0,.string ⟨#[]⟩,.int .i64 ((0:Nat):Int),.int .i64 ((0:Nat):Int),.string ⟨#[]⟩,.slice none 0 0,.slice none 0 0]))) hf40
 refine Qq he hm (fun a he =>?_) (o:=by exact fun _ _ _ he hs=>Ok.cast (y_lookup_at Tryz.runUnderlying103 Tryz.runUnderlying9 Tryz.zeroValue68 he hs rfl rfl ma12) (show gotten false (.agg (List.toArray [.string ⟨#[]⟩,.slice none 0 0,.string ⟨#[]⟩,.int .i64 ((0:Nat):Int),.int .i64 ((0:Nat):Int),.string ⟨#[]⟩,.slice none 0 0,.slice none 0 0])) (mget (d9) x28)=.agg (List.toArray [.string ⟨#[]⟩,.slice none 0 0,.string ⟨#[]⟩,.int .i64 ((0:Nat):Int),.int .i64 ((0:Nat):Int),.string ⟨#[]⟩,.slice none 0 0,.slice none 0 0]) from hf40_))
 refine Qq he hm (fun a he =>?_) (o:=by exact fun _ _ _ he hs=>y_fieldA 3 (vs:=[.int .i64 ((0:Nat):Int),.int .i64 ((0:Nat):Int),.string ⟨#[]⟩,.slice none 0 0,.slice none 0 0]) Tryz.runUnderlying68 rfl Tryz.isAgg66 Tryz.sizeOf66 he rfl rfl rfl)
 refine CallR Tryz.call93 he hm (fun w hm a he =>?_) (c:=called_ok (ds:=[]) rex0 hm)
 refine go he hm fun a he =>?_
 have hcl_:callsT T x28=([]++calledP ex0):=by unfold callsT;rw [fbody_none (MapRel.none mr13 hf40)];rfl
 rw [← hcl_] at hm
 clear hcl_
 refine go he hm fun a he =>?_
 refine st he rfl rfl rfl (eff_range 0 Tryz.runUnderlying121 he hm rfl rfl fun r43 es44 ck45 w hok46 hm a he =>?_)
 refine go he hm fun a he =>?_
 refine loopK (he.ks [0,5,34]) hm (fun R mm a w=>∃(seen:Array Nat) (qb2:Nat) (qo2:Nat) (qc2:Nat) (qa2:Array Value) (l2:List Bs),mm=(leftE es44 seen).length∧R Φ [(1,qval qb2 qo2 qc2 l2)] [(0,.blk r43 (.mapIter (some b38) ck45 seen ck45)),(3,qblk qb2 qa2)] a w∧(QAt qo2 qc2 qa2 l2∧RIn T x28 (l.drop 1) es44 seen l2)) ((leftE es44 #[]).length) ⟨#[],qb,(qoff qo qc),(qc - 1),qa,(l.drop 1),rfl,⟨he.pk,hm⟩,⟨hq31,RIn.start⟩⟩ ?_
 clear hm he
 rintro mm a w ⟨seen,qb2,qo2,qc2,qa2,l2,hmu,⟨he,hm⟩,hI48⟩ L47 hL47
 replace hm:=hm.nf
 obtain ⟨hq2_,hRi_⟩:=hI48
 refine go he hm fun a he =>?_
 refine st he rfl rfl rfl (eff_next 0 1 he hm rfl rfl rfl hok46 (fun hl50 w hm a he =>?_) (fun e51 w hl52 hm a he =>?_))
 refine go he hm fun a he =>?_
 replace hm:=hm.dl [1,0]
 refine hL22 (muR U ((ds++[x28])) l2) _ _ (by subst hmu;have h_:=(hR_.mark hx29 (not_has hnd_) hM hC hok46 hRi_ hl50).2;omega) ⟨(qb2),(qo2),(qc2),(qa2),(l2),((ds++[x28])),rfl,⟨he.pk,hm⟩,?_⟩
 exact ⟨hq2_,(hR_.mark hx29 (not_has hnd_) hM hC hok46 hRi_ hl50).1⟩
 refine go he hm fun a he =>?_
 obtain ⟨ky56,vl57,hk58,hv59,hmem60⟩:=entry_key hok46 (leftE_mem.1 hl52).1
 have hk58_:Value.tuple (List.toArray [e51.key,e51.val])=Value.tuple (List.toArray [.string ky56,e51.val]):=by rw [hk58]
 refine Qq he hm (fun a he =>?_) (o:=by exact fun _ _ _ he hs=>Ok.cast (y_entry (i:=0) (j:=1) he hs rfl rfl rfl hok46 hl52) hk58_)
 refine BldS he hm fun v61 w hm a he =>?_
 refine st he rfl rfl rfl (eff_append_q 4 (s:=ky56) rt_25 he hm hq2_ rfl rfl rfl (hm.toSees.rowIn (i:=0) rfl) (by have h1_:=hRi_.len;have h2_:=hR_.len;have h3_:=nodup_le hR_.nodup hR_.dU;have h4_:=es_size hok46 (hM _);have h5_:(l.drop 1).length≤l.length:=(by rw [List.length_drop];omega);omega) fun b62 off63 cap64 arr65 w hq66 hm a he =>?_)
 replace hm:=hm.nf
 refine go he hm fun a he =>?_
 replace hm:=hm.dl [0]
 refine hL47 ((leftE es44 ((seen.push e51.born))).length) _ _ (by subst hmu;exact leftE_lt hl52) ⟨((seen.push e51.born)),(b62),(off63),(cap64),(arr65),((l2++[ky56])),rfl,⟨he.pk,hm⟩,?_⟩
 exact ⟨hq66,hRi_.next hok46 hl52 hk58 hmem60⟩
 obtain ⟨y67,hy68,cs69,rfl,hr70⟩:=mr13.get hf40
 obtain ⟨s71,b77,rfl,h72,h78⟩:=id hr70
 obtain ⟨p73,c74,rfl,hm75,hn76⟩:=h72.fm
 obtain ⟨p81,c82,p87,c88,rfl,hi91,h80,h86,hm83,hn84,hm89,hn90⟩:=REx.fm h78
 have hf40_:=congrArg (gotten false (.agg (List.toArray [.string ⟨#[]⟩,.slice none 0 0,.string ⟨#[]⟩,.int .i64 ((0:Nat):Int),.int .i64 ((0:Nat):Int),.string ⟨#[]⟩,.slice none 0 0,.slice none 0 0]))) hf40
 refine Qq he hm (fun a he =>?_) (o:=by exact fun _ _ _ he hs=>Ok.cast (y_lookup_at Tryz.runUnderlying103 Tryz.runUnderlying9 Tryz.zeroValue68 he hs rfl rfl ma12) (show gotten false (.agg (List.toArray [.string ⟨#[]⟩,.slice none 0 0,.string ⟨#[]⟩,.int .i64 ((0:Nat):Int),.int .i64 ((0:Nat):Int),.string ⟨#[]⟩,.slice none 0 0,.slice none 0 0])) (mget (d9) x28)=.agg (List.toArray [.string y67.name,.slice p73 y67.params.length c74,.string y67.result,.int .i64 (y67.body.kind),.int .i64 (y67.body.num),.string y67.body.name,.slice p81 y67.body.args.length c82,.slice p87 y67.body.arms.length c88]) from hf40_))
 refine Qq he hm (fun a he =>?_) (o:=by exact fun _ _ _ he hs=>y_fieldA 3 (vs:=[.int .i64 (y67.body.kind),.int .i64 (y67.body.num),.string y67.body.name,.slice p81 y67.body.args.length c82,.slice p87 y67.body.arms.length c88]) Tryz.runUnderlying68 rfl Tryz.isAgg66 Tryz.sizeOf66 he rfl rfl rfl)
 refine CallR Tryz.call93 he hm (fun w hm a he =>?_) (c:=called_ok (ds:=[]) h78 hm)
 refine go he hm fun a he =>?_
 have hcl_:callsT T x28=([]++calledP y67.body):=by unfold callsT;rw [fbody_some hy68];rfl
 rw [← hcl_] at hm
 clear hcl_
 refine go he hm fun a he =>?_
 refine st he rfl rfl rfl (eff_range 0 Tryz.runUnderlying121 he hm rfl rfl fun r93 es94 ck95 w hok96 hm a he =>?_)
 refine go he hm fun a he =>?_
 refine loopK (he.ks [0,5,34]) hm (fun R mm a w=>∃(seen:Array Nat) (qb2:Nat) (qo2:Nat) (qc2:Nat) (qa2:Array Value) (l2:List Bs),mm=(leftE es94 seen).length∧R Φ [(1,qval qb2 qo2 qc2 l2)] [(0,.blk r93 (.mapIter (some b38) ck95 seen ck95)),(3,qblk qb2 qa2)] a w∧(QAt qo2 qc2 qa2 l2∧RIn T x28 (l.drop 1) es94 seen l2)) ((leftE es94 #[]).length) ⟨#[],qb,(qoff qo qc),(qc - 1),qa,(l.drop 1),rfl,⟨he.pk,hm⟩,⟨hq31,RIn.start⟩⟩ ?_
 clear hm he
 rintro mm a w ⟨seen,qb2,qo2,qc2,qa2,l2,hmu,⟨he,hm⟩,hI98⟩ L97 hL97
 replace hm:=hm.nf
 obtain ⟨hq2_,hRi_⟩:=hI98
 refine go he hm fun a he =>?_
 refine st he rfl rfl rfl (eff_next 0 1 he hm rfl rfl rfl hok96 (fun hl100 w hm a he =>?_) (fun e101 w hl102 hm a he =>?_))
 refine go he hm fun a he =>?_
 replace hm:=hm.dl [1,0]
 refine hL22 (muR U ((ds++[x28])) l2) _ _ (by subst hmu;have h_:=(hR_.mark hx29 (not_has hnd_) hM hC hok96 hRi_ hl100).2;omega) ⟨(qb2),(qo2),(qc2),(qa2),(l2),((ds++[x28])),rfl,⟨he.pk,hm⟩,?_⟩
 exact ⟨hq2_,(hR_.mark hx29 (not_has hnd_) hM hC hok96 hRi_ hl100).1⟩
 refine go he hm fun a he =>?_
 obtain ⟨ky106,vl107,hk108,hv109,hmem110⟩:=entry_key hok96 (leftE_mem.1 hl102).1
 have hk108_:Value.tuple (List.toArray [e101.key,e101.val])=Value.tuple (List.toArray [.string ky106,e101.val]):=by rw [hk108]
 refine Qq he hm (fun a he =>?_) (o:=by exact fun _ _ _ he hs=>Ok.cast (y_entry (i:=0) (j:=1) he hs rfl rfl rfl hok96 hl102) hk108_)
 refine BldS he hm fun v111 w hm a he =>?_
 refine st he rfl rfl rfl (eff_append_q 4 (s:=ky106) rt_25 he hm hq2_ rfl rfl rfl (hm.toSees.rowIn (i:=0) rfl) (by have h1_:=hRi_.len;have h2_:=hR_.len;have h3_:=nodup_le hR_.nodup hR_.dU;have h4_:=es_size hok96 (hM _);have h5_:(l.drop 1).length≤l.length:=(by rw [List.length_drop];omega);omega) fun b112 off113 cap114 arr115 w hq116 hm a he =>?_)
 replace hm:=hm.nf
 refine go he hm fun a he =>?_
 replace hm:=hm.dl [0]
 refine hL97 ((leftE es94 ((seen.push e101.born))).length) _ _ (by subst hmu;exact leftE_lt hl102) ⟨((seen.push e101.born)),(b112),(off113),(cap114),(arr115),((l2++[ky106])),rfl,⟨he.pk,hm⟩,?_⟩
 exact ⟨hq116,hRi_.next hok96 hl102 hk108 hmem110⟩
 obtain ⟨rfl,hs117⟩:=seen_val hf34
 have hf34_:=congrArg (gotten false (.bool false)) hf34
 refine Qq he hm (fun a he =>?_) (o:=by exact fun _ _ _ he hs=>Ok.cast (y_lookup_own 0 Tryz.runUnderlying121 Tryz.runUnderlying9 Tryz.zeroValue4 he hs rfl rfl rfl) (show gotten false (.bool false) (mget ((seenM ds)) x28)=.bool true from hf34_))
 refine go he hm fun a he =>?_
 refine hL22 (muR U ds ((l.drop 1))) _ _ (by subst hmu;have h_:=(hR_.skip hx29 (has_mem.1 hs117)).2;omega) ⟨(qb),((qoff qo qc)),((qc - 1)),(qa),((l.drop 1)),(ds),rfl,⟨he.pk,hm⟩,?_⟩
 exact ⟨hq31,(hR_.skip hx29 (has_mem.1 hs117)).1⟩
 refine go he hm fun a he =>?_
 replace hm:=hm.dl [1]
 refine Ret1 hQ he hm ?_
 have e_:l=[]:=List.eq_nil_of_length_eq_zero (by omega)
 subst e_
 exact ⟨(b20,ds),rfl,hR_.fin,hm⟩
end Go.Sw

namespace Go.Sw
open Go.Proofs
set_option maxRecDepth 20000
set_option maxHeartbeats 4000000
theorem call1_ok {Φ:Fz} {K:List Res} {w:World} {pt:Addr} {T:Table} {d0:List Value} {v:Val} {d1:List Value} {p:Param} {b:Nat} (rpv:RVal Φ d0 v) (rpp:RParam Φ d1 p) (rT:RTable Φ pt T) (hm:Mem Φ (.blk b (ob [.pointer (some pt)] 89)::K) w) :
  Calls Tryz.prog 60 (List.toArray [.agg d0.toArray,.agg d1.toArray,.pointer (some ⟨b,0,none⟩)]) w (fun ee w'=>ee=.returned (.bool ((!largeP v&&hasP T v p.type)))∧Mem Φ (.blk b (ob [.pointer (some pt)] 89)::K) w'):=by
 obtain ⟨p3,c4,rfl,hi7,h2,hm5,hn6⟩:=RVal.fm rpv
 obtain rfl:=id rpp
 refine Enter Tryz.func60 Tryz.ntmps60 fun Q hQ a he =>?_
 refine Bx he hm fun b9 w hm a he =>?_
 refine Bx he hm fun b10 w hm a he =>?_
 refine CallB Tryz.call50 he hm (fun hB12 w hm a he =>?_) (fun hB12 w hm a he =>?_) (c:=large_ok rpv hm)
 refine go he hm fun a he =>?_
 replace hm:=hm.dl [1,0]
 refine Ret1 hQ he hm ?_
 exact ret_b hm (by simp [*])
 refine CallR Tryz.call61 he hm (fun w hm a he =>?_) (c:=has_ok rT rpv hm)
 refine go he hm fun a he =>?_
 replace hm:=hm.dl [1,0]
 refine Ret1 hQ he hm ?_
 exact ret_b hm (by simp [*])
theorem call2_ok {Φ:Fz} {K:List Res} {w:World} {p:Addr} {T:Table} {df:List Value} {f:Fun} {va:Value} {args:List Val} {fu b0 b1 b2 b3 b4 b5:Nat} (rpT:RTable Φ p T) (rf:RFun Φ df f) (rs:SliceOf RVal Φ 3 va args) (hF:FunsOk T) (hpl:f.params.length≤1000) (hsb:Short f.body) (hfu:fu≤1000000) (hns:∀g,callP (evalF ⟨T.funs,[]⟩) f args g≠.stuck) (hm:Mem Φ (.blk b0 (ob [.int .i64 ((1:Nat):Int)] 3)::.blk b1 (ob [.int .i64 ((fu:Nat):Int)] 3)::.blk b2 (ob [.pointer (some p)] 89)::.blk b3 (ob df 68)::.blk b4 (ob [va] 38)::.blk b5 (ob [.string ⟨#[]⟩,.int .i64 ((0:Nat):Int),.slice none 0 0] 42)::K) w) :
  Calls Tryz.prog 64 (List.toArray [.pointer (some ⟨b0,0,none⟩),.pointer (some ⟨b1,0,none⟩),.pointer (some ⟨b2,0,none⟩),.pointer (some ⟨b3,0,none⟩),.pointer (some ⟨b4,0,none⟩),.pointer (some ⟨b5,0,none⟩)]) w (fun e w'=>Out (callEnd (callP (evalF ⟨T.funs,[]⟩) f args) fu)
   (fun x=>∃y:Fz×List Value,e=.returned (.int .i64 ((0:Nat):Int))∧(Φ.Le y.1∧RVal y.1 y.2 x.1)∧Mem y.1 (.blk b0 (ob [.int .i64 ((fu - x.2:Nat):Int)] 3)::.blk b5 (ob y.2 42)::K) w')
   (fun c=>(e=.returned (.int .i64 ((c:Nat):Int))∨c=4∧e=.panicked (spentC ()))∧Mem Φ K w')):=by
 obtain ⟨s1,b7,rfl,h2,h8⟩:=id rf
 obtain ⟨p3,c4,rfl,hm5,hn6⟩:=h2.fm
 obtain ⟨p11,c12,p17,c18,rfl,hi21,h10,h16,hm13,hn14,hm19,hn20⟩:=REx.fm h8
 obtain ⟨pa_,ca_,rfl,hma_,hna_⟩:=rs.fm
 refine Enter Tryz.func64 Tryz.ntmps64 fun Q hQ a he =>?_
 refine go he hm fun a he =>?_
 by_cases h25:fu < 1
 refine go he hm fun a he =>?_
 replace hm:=hm.dl [5,4,3,2,1,0]
 refine Ret1 hQ he hm ?_
 exact outEE (callEnd_zero h25) ⟨.inl rfl,hm⟩
 refine go he hm fun a he =>?_
 replace hm:Mem Φ (.blk b0 (ob [.int .i64 ((fu - (fu - 1):Nat):Int)] 3)::.blk b1 (ob [.int .i64 ((fu:Nat):Int)] 3)::.blk b2 (ob [.pointer (some p)] 89)::.blk b3 (ob [.string f.name,.slice p3 f.params.length c4,.string f.result,.int .i64 (f.body.kind),.int .i64 (f.body.num),.string f.body.name,.slice p11 f.body.args.length c12,.slice p17 f.body.arms.length c18] 68)::.blk b4 (ob [.slice pa_ args.length ca_] 38)::.blk b5 (ob [.string ⟨#[]⟩,.int .i64 ((0:Nat):Int),.slice none 0 0] 42)::K) w:=by rw [show fu - (fu - 1)=1 by omega];exact hm
 refine BldT1 he hm fun a he =>?_
 refine CallX hQ Tryz.call48 he hm (fun q28 y29 w hq30 hG31 hm a he =>?_) (fun q28 w hq30 hm =>?_) (c:=call_all hF (fu - 1) rpT (.inr ⟨rfl,rfl⟩) rf rs hpl hsb (by omega) (by omega) (hns _) hm)
 obtain ⟨z32,g33⟩:=q28
 obtain ⟨Ψ34,d35⟩:=y29
 obtain ⟨le36,hr37⟩:=hG31
 have hv38:=evX_ok hq30
 simp only at le36 hr37 hm he hv38
 have hlt39:=call_lt hv38
 replace rf:=RFun.mono _ _ _ _ le36 rf
 replace h8:=REx.mono _ _ _ _ le36 h8
 replace hm:=hm.nf
 obtain ⟨p42,c43,rfl,hi46,h41,hm44,hn45⟩:=RVal.fm hr37
 refine Alc he hm fun b47 w hm a he =>?_
 refine Sto 0 he hm fun w hm a he =>?_
 refine CallB Tryz.call50 he hm (fun hB50 w hm a he =>?_) (fun hB50 w hm a he =>?_) (c:=large_ok hr37 hm)
 refine go he hm fun a he =>?_
 replace hm:=hm.dl [6,5,4,3,2,1,0]
 refine Ret1 hQ he hm ?_
 exact outEE (callEnd_large h25 hv38 hB50) ⟨.inl rfl,hm.le (le36)⟩
 refine go he hm fun a he =>?_
 have hbig_:=hB50
 refine CallY Tryz.call51 he hm (fun y53 w hG54 hm a he =>?_) (c:=own_ok (small_of hbig_) hr37 hm)
 obtain ⟨Ψ55,d56⟩:=y53
 obtain ⟨le57,hr58⟩:=hG54
 simp only at le57 hr58 hm he
 replace rf:=RFun.mono _ _ _ _ le57 rf
 replace h8:=REx.mono _ _ _ _ le57 h8
 replace hr37:=RVal.mono _ _ _ _ le57 hr37
 replace hm:=hm.nf
 obtain ⟨p61,c62,rfl,hi65,h60,hm63,hn64⟩:=RVal.fm hr58
 refine Sto 6 he hm fun w hm a he =>?_
 refine go he hm fun a he =>?_
 replace hm:=hm.dl [5,4,3,2,0]
 refine Ret1 hQ he hm ?_
 exact outE (callEnd_ok h25 hv38 hbig_) ⟨(Ψ55,_),rfl,⟨(le36).trans le57,hr58⟩,hm⟩
 have hsp67:=evX_err hq30 (hns _)
 replace hm:=hm.dl [5,4,3,2,1,0]
 exact outEE (callEnd_spent h25 hsp67) ⟨.inr ⟨rfl,rfl⟩,hm.le (Fz.Le.refl _)⟩
theorem call_within {Φ:Fz} {K:List Res} {w:World} {p:Addr} {T:Table} {df:List Value} {f:Fun} {va:Value} {args:List Val} {fu b0 b1 b2 b3 b4 b5:Nat} (rpT:RTable Φ p T) (rf:RFun Φ df f) (rs:SliceOf RVal Φ 3 va args) (hF:FunsOk T) (hpl:f.params.length≤1000) (hsb:Short f.body) (hfu:fu≤1000000) (hns:∀g,callP (evalF ⟨T.funs,[]⟩) f args g≠.stuck) (hm:Mem Φ (.blk b0 (ob [.int .i64 ((1:Nat):Int)] 3)::.blk b1 (ob [.int .i64 ((fu:Nat):Int)] 3)::.blk b2 (ob [.pointer (some p)] 89)::.blk b3 (ob df 68)::.blk b4 (ob [va] 38)::.blk b5 (ob [.string ⟨#[]⟩,.int .i64 ((0:Nat):Int),.slice none 0 0] 42)::K) w) :
  Calls Tryz.prog 45 (List.toArray [.func (.func 64) (List.toArray []) (List.toArray [.pointer (some ⟨b0,0,none⟩),.pointer (some ⟨b1,0,none⟩),.pointer (some ⟨b2,0,none⟩),.pointer (some ⟨b3,0,none⟩),.pointer (some ⟨b4,0,none⟩),.pointer (some ⟨b5,0,none⟩)])]) w (fun e w'=>Out (callEnd (callP (evalF ⟨T.funs,[]⟩) f args) fu)
   (fun x=>∃y:Fz×List Value,e=.returned (.int .i64 ((0:Nat):Int))∧(Φ.Le y.1∧RVal y.1 y.2 x.1)∧Mem y.1 (.blk b0 (ob [.int .i64 ((fu - x.2:Nat):Int)] 3)::.blk b5 (ob y.2 42)::K) w')
   (fun c=>e=.returned (.int .i64 ((c:Nat):Int))∧Mem Φ K w')):=by
 refine within_ok (α:=Val×Nat) (β:=Fz×List Value) (F:=fun _ y=>y.1) (KO:=fun x y=>.blk b0 (ob [.int .i64 ((fu - x.2:Nat):Int)] 3)::.blk b5 (ob y.2 42)::K)
  (G:=fun (x:Val×Nat) y=>Φ.Le y.1∧RVal y.1 y.2 x.1) Tryz.call64 (fun b w hm =>?_) hm
 have hm:=(((((hm.pull (i:=6) rfl).pull (i:=6) rfl).pull (i:=6) rfl).pull (i:=6) rfl).pull (i:=6) rfl).pull (i:=6) rfl
 refine (call2_ok (K:=.blk b (ob [.int .i64 ((0:Nat):Int)] 31)::K) rpT rf rs hF hpl hsb hfu hns hm).mono fun e w' h =>?_
 cases hr:callEnd (callP (evalF ⟨T.funs,[]⟩) f args) fu with
 | ok x =>
  rw [hr] at h
  obtain ⟨y,h1,h2,h3⟩:=h
  exact ⟨y,h1,h2,h3.pull (i:=2) rfl⟩
 | error c' =>
  rw [hr] at h
  exact h
end Go.Sw

namespace Go.Sw
open Go.Proofs
def CallSafe (c:Core) (name:Bs) (args:List Val):Prop:=∀f,lget (tableP c).funs name=some f→givenA (tableP c) args f.params=true→¬ReadsAny (tableP c) name→∀g,callP (evalF ⟨(tableP c).funs,[]⟩) f args g≠.stuck
section
variable {c:Core} {name:Bs} {args:List Val} {fuel:Int}
theorem callAll_look (h:lookP c≠0):callAllP c name args fuel=(v0,0,lookP c):=by simp only [callAllP,if_pos h]
theorem callAll_fuel (h:lookP c=0) (hf:fuel < 0∨200000 < fuel):callAllP c name args fuel=(v0,0,1):=by simp only [callAllP,if_neg (not_not_intro h),if_pos hf]
theorem callAll_none (h:lookP c=0) (hf:¬(fuel < 0∨200000 < fuel)) (hn:lget (tableP c).funs name=none):callAllP c name args fuel=(v0,0,3):=by
 simp only [callAllP,if_neg (not_not_intro h),if_neg hf,hn]
theorem callAll_given {f:Fun} (h:lookP c=0) (hf:¬(fuel < 0∨200000 < fuel)) (hn:lget (tableP c).funs name=some f) (hg:givenA (tableP c) args f.params=false):callAllP c name args fuel=(v0,0,8):=by
 simp only [callAllP,if_neg (not_not_intro h),if_neg hf,hn,if_pos hg]
theorem callAll_reads {f:Fun} (h:lookP c=0) (hf:¬(fuel < 0∨200000 < fuel)) (hn:lget (tableP c).funs name=some f) (hg:givenA (tableP c) args f.params=true) (hr:ReadsAny (tableP c) name):callAllP c name args fuel=(v0,0,8):=by
 simp only [callAllP,if_neg (not_not_intro h),if_neg hf,hn,hg,if_pos hr];rfl
theorem callAll_end {f:Fun} (h:lookP c=0) (hf:¬(fuel < 0∨200000 < fuel)) (hn:lget (tableP c).funs name=some f) (hg:givenA (tableP c) args f.params=true) (hr:¬ReadsAny (tableP c) name):callAllP c name args fuel=(match callEnd (callP (evalF ⟨(tableP c).funs,[]⟩) f args) fuel.toNat with
    | .ok (v,g)=>(v,((fuel.toNat - g:Nat):Int),0)
    | .error e=>(v0,0,((e:Nat):Int))):=by
 simp only [callAllP,if_neg (not_not_intro h),if_neg hf,hn,hg,if_neg hr];rfl
end
end Go.Sw

namespace Go.Sw
open Go.Proofs
set_option maxRecDepth 20000
set_option maxHeartbeats 4000000
theorem callAll_ok {Φ:Fz} {K:List Res} {w:World} {d0:List Value} {va:Value} {c:Core} {name:Bs} {args:List Val} {fuel:Int} (rpc:RCore Φ d0 c) (rl:SliceOf RVal Φ 3 va args) (hcs:lookP c=0→CallSafe c name args) (G:Glob Φ) (hm:Mem Φ K w) :
  Calls Tryz.prog 20 (List.toArray [.agg d0.toArray,.string name,va,.int .i64 fuel]) w (fun ee w'=>∃y:Fz×List Value,ee=.returned (.tuple (List.toArray [.agg y.2.toArray,.int .i64 (callAllP c name args fuel).2.1,.int .i64 (callAllP c name args fuel).2.2]))∧(Φ.Le y.1∧RVal y.1 y.2 (callAllP c name args fuel).1)∧Mem y.1 K w'):=by
 obtain ⟨p3,c4,p9,c10,p15,c16,p21,c22,rfl,h2,h8,h14,h20,hm5,hn6,hm11,hn12,hm17,hn18,hm23,hn24⟩:=RCore.fm rpc
 obtain ⟨pa_,ca_,rfl,hma_,hna_⟩:=rl.fm
 refine Enter Tryz.func20 Tryz.ntmps20 fun Q hQ a he =>?_
 refine Bx he hm fun b26 w hm a he =>?_
 refine Bx he hm fun b27 w hm a he =>?_
 refine Bx he hm fun b28 w hm a he =>?_
 refine Alc he hm fun b29 w hm a he =>?_
 refine CallY Tryz.call43 he hm (fun y31 w hG32 hm a he =>?_) (c:=look_ok rpc G hm)
 obtain ⟨Ψ33,p34⟩:=y31
 obtain ⟨le35,hT36⟩:=hG32
 simp only at le35 hT36 hm he
 replace rpc:=RCore.mono _ _ _ _ le35 rpc
 replace G:=G.mono le35
 replace rl:=rl.up le35
 replace hm:=hm.nf
 by_cases hlk37:lookP c=0
 obtain ⟨hT38,hlong39⟩:=hT36 hlk37
 rw [if_pos hlk37,hlk37] at he
 obtain ⟨cs56,m40,m41,m42,m43,d44,d45,d46,d47,hat57,hcl58,hcore59,ma48,mr52,ma49,mr53,ma50,mr54,ma51,mr55⟩:=hT38.ex
 obtain ⟨p62,c63,p68,c69,p74,c75,p80,c81,rfl,h61,h67,h73,h79,hm64,hn65,hm70,hn71,hm76,hn77,hm82,hn83⟩:=RCore.fm hcore59
 refine Alc he hm fun b84 w hm a he =>?_
 refine Sto 0 he hm fun w hm a he =>?_
 refine Qq he hm (fun a he =>?_) (o:=by exact fun _ _ _ he hs=>y_ineq false he rfl rfl rfl)
 refine go he hm fun a he =>?_
 rcases hf88:mget (d46) name with _ | vf89
 have hf88_:=congrArg (gotten true (.agg (List.toArray [.string ⟨#[]⟩,.slice none 0 0,.string ⟨#[]⟩,.int .i64 ((0:Nat):Int),.int .i64 ((0:Nat):Int),.string ⟨#[]⟩,.slice none 0 0,.slice none 0 0]))) hf88
 refine Qq he hm (fun a he =>?_) (o:=by exact fun _ _ _ he hs=>Ok.cast (y_lookup_at Tryz.runUnderlying103 Tryz.runUnderlying9 Tryz.zeroValue68 he hs rfl rfl ma50) (show gotten true (.agg (List.toArray [.string ⟨#[]⟩,.slice none 0 0,.string ⟨#[]⟩,.int .i64 ((0:Nat):Int),.int .i64 ((0:Nat):Int),.string ⟨#[]⟩,.slice none 0 0,.slice none 0 0])) (mget (d46) name)=.tuple (List.toArray [.agg (List.toArray [.string ⟨#[]⟩,.slice none 0 0,.string ⟨#[]⟩,.int .i64 ((0:Nat):Int),.int .i64 ((0:Nat):Int),.string ⟨#[]⟩,.slice none 0 0,.slice none 0 0]),.bool false]) from hf88_))
 refine Alc he hm fun b90 w hm a he =>?_
 refine Sto 0 he hm fun w hm a he =>?_
 refine go he hm fun a he =>?_
 by_cases h93:fuel < 0
 refine BldT1 he hm fun a he =>?_
 refine Sto 2 he hm fun w hm a he =>?_
 refine go he hm fun a he =>?_
 have hmr:=hm
 replace hm:=hm.dl [5,4,3,2,1,0]
 refine hQ _ _ _ (retcA3 (i:=2) (cs:=[.string ⟨#[]⟩,.int .i64 ((0:Nat):Int),.slice none 0 0]) he hmr.toSees Tryz.results20 rfl rfl Tryz.isAgg42 Tryz.sizeOf42 rfl rfl rfl ?_)
 have hr_:callAllP c name args fuel=(v0,0,1):=callAll_fuel hlk37 (by have h_:=h93;omega)
 rw [hr_]
 exact ⟨(Ψ33,_),rfl,⟨le35,RVal.iff.2 ⟨_,rfl,(show I64 0 from ⟨by decide,by decide⟩),SliceOf.nil 3⟩⟩,hm⟩
 refine go he hm fun a he =>?_
 by_cases h95:200000 < fuel
 refine BldT1 he hm fun a he =>?_
 refine Sto 2 he hm fun w hm a he =>?_
 refine go he hm fun a he =>?_
 have hmr:=hm
 replace hm:=hm.dl [5,4,3,2,1,0]
 refine hQ _ _ _ (retcA3 (i:=2) (cs:=[.string ⟨#[]⟩,.int .i64 ((0:Nat):Int),.slice none 0 0]) he hmr.toSees Tryz.results20 rfl rfl Tryz.isAgg42 Tryz.sizeOf42 rfl rfl rfl ?_)
 have hr_:callAllP c name args fuel=(v0,0,1):=callAll_fuel hlk37 (by have h_:=h95;omega)
 rw [hr_]
 exact ⟨(Ψ33,_),rfl,⟨le35,RVal.iff.2 ⟨_,rfl,(show I64 0 from ⟨by decide,by decide⟩),SliceOf.nil 3⟩⟩,hm⟩
 refine BldT1 he hm fun a he =>?_
 refine Sto 2 he hm fun w hm a he =>?_
 refine go he hm fun a he =>?_
 have hmr:=hm
 replace hm:=hm.dl [5,4,3,2,1,0]
 refine hQ _ _ _ (retcA3 (i:=2) (cs:=[.string ⟨#[]⟩,.int .i64 ((0:Nat):Int),.slice none 0 0]) he hmr.toSees Tryz.results20 rfl rfl Tryz.isAgg42 Tryz.sizeOf42 rfl rfl rfl ?_)
 have hr_:callAllP c name args fuel=(v0,0,3):=callAll_none hlk37 (by have h1_:=h95;have h2_:=h93;omega) (MapRel.none mr54 hf88)
 rw [hr_]
 exact ⟨(Ψ33,_),rfl,⟨le35,RVal.iff.2 ⟨_,rfl,(show I64 0 from ⟨by decide,by decide⟩),SliceOf.nil 3⟩⟩,hm⟩
 obtain ⟨y99,hy100,cs101,rfl,hr102⟩:=mr54.get hf88
 obtain ⟨s103,b109,rfl,h104,h110⟩:=id hr102
 obtain ⟨p105,c106,rfl,hm107,hn108⟩:=h104.fm
 obtain ⟨p113,c114,p119,c120,rfl,hi123,h112,h118,hm115,hn116,hm121,hn122⟩:=REx.fm h110
 have hf88_:=congrArg (gotten true (.agg (List.toArray [.string ⟨#[]⟩,.slice none 0 0,.string ⟨#[]⟩,.int .i64 ((0:Nat):Int),.int .i64 ((0:Nat):Int),.string ⟨#[]⟩,.slice none 0 0,.slice none 0 0]))) hf88
 refine Qq he hm (fun a he =>?_) (o:=by exact fun _ _ _ he hs=>Ok.cast (y_lookup_at Tryz.runUnderlying103 Tryz.runUnderlying9 Tryz.zeroValue68 he hs rfl rfl ma50) (show gotten true (.agg (List.toArray [.string ⟨#[]⟩,.slice none 0 0,.string ⟨#[]⟩,.int .i64 ((0:Nat):Int),.int .i64 ((0:Nat):Int),.string ⟨#[]⟩,.slice none 0 0,.slice none 0 0])) (mget (d46) name)=.tuple (List.toArray [.agg (List.toArray [.string y99.name,.slice p105 y99.params.length c106,.string y99.result,.int .i64 (y99.body.kind),.int .i64 (y99.body.num),.string y99.body.name,.slice p113 y99.body.args.length c114,.slice p119 y99.body.arms.length c120]),.bool true]) from hf88_))
 refine Alc he hm fun b124 w hm a he =>?_
 refine Sto 0 he hm fun w hm a he =>?_
 refine go he hm fun a he =>?_
 by_cases h127:fuel < 0
 refine BldT1 he hm fun a he =>?_
 refine Sto 2 he hm fun w hm a he =>?_
 refine go he hm fun a he =>?_
 have hmr:=hm
 replace hm:=hm.dl [5,4,3,2,1,0]
 refine hQ _ _ _ (retcA3 (i:=2) (cs:=[.string ⟨#[]⟩,.int .i64 ((0:Nat):Int),.slice none 0 0]) he hmr.toSees Tryz.results20 rfl rfl Tryz.isAgg42 Tryz.sizeOf42 rfl rfl rfl ?_)
 have hr_:callAllP c name args fuel=(v0,0,1):=callAll_fuel hlk37 (by have h_:=h127;omega)
 rw [hr_]
 exact ⟨(Ψ33,_),rfl,⟨le35,RVal.iff.2 ⟨_,rfl,(show I64 0 from ⟨by decide,by decide⟩),SliceOf.nil 3⟩⟩,hm⟩
 refine go he hm fun a he =>?_
 by_cases h129:200000 < fuel
 refine BldT1 he hm fun a he =>?_
 refine Sto 2 he hm fun w hm a he =>?_
 refine go he hm fun a he =>?_
 have hmr:=hm
 replace hm:=hm.dl [5,4,3,2,1,0]
 refine hQ _ _ _ (retcA3 (i:=2) (cs:=[.string ⟨#[]⟩,.int .i64 ((0:Nat):Int),.slice none 0 0]) he hmr.toSees Tryz.results20 rfl rfl Tryz.isAgg42 Tryz.sizeOf42 rfl rfl rfl ?_)
 have hr_:callAllP c name args fuel=(v0,0,1):=callAll_fuel hlk37 (by have h_:=h129;omega)
 rw [hr_]
 exact ⟨(Ψ33,_),rfl,⟨le35,RVal.iff.2 ⟨_,rfl,(show I64 0 from ⟨by decide,by decide⟩),SliceOf.nil 3⟩⟩,hm⟩
 replace hm:=hm.pl 1
 refine CallB Tryz.call59 he hm (fun hB133 w hm a he =>?_) (fun hB133 w hm a he =>?_) (c:=eqFunc_Val (Φ:=Ψ33) (K:=.blk b84 (ob [.pointer (some p34)] 89)::.blk b124 (ob [.string y99.name,.slice p105 y99.params.length c106,.string y99.result,.int .i64 (y99.body.kind),.int .i64 (y99.body.num),.string y99.body.name,.slice p113 y99.body.args.length c114,.slice p119 y99.body.arms.length c120] 68)::.blk b29 (ob [.string ⟨#[]⟩,.int .i64 ((0:Nat):Int),.slice none 0 0] 42)::.blk b28 (ob [.int .i64 (fuel)] 3)::.blk b27 (ob [.slice pa_ args.length ca_] 38)::.blk b26 (ob [.slice p3 c.datas.length c4,.slice p9 c.inputs.length c10,.slice p15 c.funs.length c16,.slice p21 c.outputs.length c22] 27)::K) (p:=fun v p => !largeP v&&hasP (tableP c) v p.type) (fs:=[]) (cs:=[.pointer (some ⟨b84,0,none⟩)]) rl h104 Tryz.call60 (fun x c y d w hx hy hc hd hm=>call1_ok hc hd hT38 hm) hm)
 refine go he hm fun a he =>?_
 have hgv_:givenA (tableP c) args y99.params=true:=(givenA_eq _ _ _).trans hB133
 refine BldS he hm fun v136 w hm a he =>?_
 have hm0_:=hm
 clear hm
 obtain ⟨bq137,cap138,arr139,hv_,hq140,hm⟩:=gs_queue (l:=[name]) (i:=0) hm0_ rfl (by simp)
 clear hm0_
 have hmk_:=hm
 clear hm
 subst hv_
 have hm:=hmk_
 clear hmk_
 replace hm:=hm.nf
 refine CallY Tryz.call62 he hm (fun y141 w hG142 hm a he =>?_) (c:=reach_ok (U:=univ c name) (hT38).weak hq140 (by simp) (by simp [univ]) ((look_calls hlk37).2.2 _) (look_calls hlk37).1 ((look_calls hlk37).2.1 _) hm)
 obtain ⟨bd143,ds144⟩:=y141
 have hR145:=hG142
 simp only at hR145 hm he
 replace hm:=hm.nf
 refine st he rfl rfl rfl (eff_range 0 Tryz.runUnderlying121 he hm rfl rfl fun r146 es147 ck148 w hok149 hm a he =>?_)
 refine go he hm fun a he =>?_
 refine loopK (he.ks [6,7,8,11,13,60]) hm (fun R mm a w=>∃(seen:Array Nat),mm=(leftE es147 seen).length∧R Ψ33 [] [(0,.blk r146 (.mapIter (some bd143) ck148 seen ck148))] a w∧(RNo (tableP c) es147 seen)) ((leftE es147 #[]).length) ⟨#[],rfl,⟨he.pk,hm⟩,RNo.start⟩ ?_
 clear hm he
 rintro mm a w ⟨seen,hmu,⟨he,hm⟩,hI151⟩ L150 hL150
 replace hm:=hm.nf
 have hNo_:=hI151
 refine go he hm fun a he =>?_
 refine st he rfl rfl rfl (eff_next 0 1 he hm rfl rfl rfl hok149 (fun hl153 w hm a he =>?_) (fun e154 w hl155 hm a he =>?_))
 refine go he hm fun a he =>?_
 have hno_:¬ReadsAny (tableP c) name:=hNo_.none hok149 hR145 hl153
 have hfu_:fuel≤200000:=by have h_:=h129;omega
 have hf0_:0≤fuel:=by have h_:=h127;omega
 have hmk_:=hm
 have hek_:=he
 clear hm he
 obtain ⟨fu,rfl⟩:=Int.eq_ofNat_of_zero_le hf0_
 have hm:=hmk_
 have he:=hek_
 clear hmk_ hek_
 refine Alc he hm fun b158 w hm a he =>?_
 refine Sto 0 he hm fun w hm a he =>?_
 refine Alc he hm fun b160 w hm a he =>?_
 refine go he hm fun a he =>?_
 replace hm:=hm.ar [] [8,6,6,8,5]
 refine st he rfl rfl rfl (eff_callW he rfl Tryz.call45 (call_within hT38 hr102 rl (look_funs hlk37) (look_funs hlk37 _ _ hy100).1 (look_funs hlk37 _ _ hy100).2 (by omega) (hcs hlk37 _ hy100 hgv_ hno_) hm) (fun q162 y163 w hq164 hG165 hm a he =>?_) (fun q162 w hq164 hm a he =>?_))
 obtain ⟨v166,g167⟩:=q162
 obtain ⟨Ψ168,d169⟩:=y163
 obtain ⟨le170,hr171⟩:=hG165
 simp only at le170 hr171 hm he
 replace rpc:=RCore.mono _ _ _ _ le170 rpc
 replace G:=G.mono le170
 replace ma50:=ma50.mono le170
 replace mr54:=mr54.up le170
 replace hr102:=RFun.mono _ _ _ _ le170 hr102
 replace h110:=REx.mono _ _ _ _ le170 h110
 obtain ⟨p174,c175,rfl,hi178,h173,hm176,hn177⟩:=RVal.fm hr171
 replace hm:=hm.nf
 refine Qq he hm (fun a he =>?_) (o:=by exact fun _ _ _ he hs=>y_ineq false he rfl rfl rfl)
 refine Reg [2,2,0,1,1] [0,1,2,3,5] he hm fun w hm a he =>?_
 refine Sto 4 he hm fun w hm a he =>?_
 refine go he hm fun a he =>?_
 have hmr:=hm
 replace hm:=hm.dl [5,4,3,2,1,0]
 refine hQ _ _ _ (retcA3 (i:=4) (cs:=[.string v166.con,.int .i64 (v166.num),.slice p174 v166.args.length c175]) he hmr.toSees Tryz.results20 rfl rfl Tryz.isAgg42 Tryz.sizeOf42 rfl rfl rfl ?_)
 have hr_:callAllP c name args ((fu:Nat):Int)=(v166,((fu - g167:Nat):Int),0):=by rw [callAll_end hlk37 (by omega) hy100 hgv_ hno_,Int.toNat_natCast,hq164]
 rw [hr_]
 exact ⟨(Ψ168,_),rfl,⟨(le35).trans le170,hr171⟩,hm⟩
 have hc182:=callEnd_err hq164
 replace hm:=hm.nf
 refine BldT1 he hm fun a he =>?_
 refine Sto 2 he hm fun w hm a he =>?_
 refine go he hm fun a he =>?_
 have hmr:=hm
 replace hm:=hm.dl [3,2,1,0]
 refine hQ _ _ _ (retcA3 (i:=2) (cs:=[.string ⟨#[]⟩,.int .i64 ((0:Nat):Int),.slice none 0 0]) he hmr.toSees Tryz.results20 rfl rfl Tryz.isAgg42 Tryz.sizeOf42 rfl rfl rfl ?_)
 have hr_:callAllP c name args ((fu:Nat):Int)=(v0,0,((q162:Nat):Int)):=by rw [callAll_end hlk37 (by omega) hy100 hgv_ hno_,Int.toNat_natCast,hq164]
 rw [hr_]
 exact ⟨(Ψ33,_),rfl,⟨le35,RVal.iff.2 ⟨_,rfl,(show I64 0 from ⟨by decide,by decide⟩),SliceOf.nil 3⟩⟩,hm⟩
 refine go he hm fun a he =>?_
 obtain ⟨ky188,vl189,hk190,hv191,hmem192⟩:=entry_key hok149 (leftE_mem.1 hl155).1
 have hk190_:Value.tuple (List.toArray [e154.key,e154.val])=Value.tuple (List.toArray [.string ky188,e154.val]):=by rw [hk190]
 refine Qq he hm (fun a he =>?_) (o:=by exact fun _ _ _ he hs=>Ok.cast (y_entry (i:=0) (j:=1) he hs rfl rfl rfl hok149 hl155) hk190_)
 refine go he hm fun a he =>?_
 rcases hf194:mget (d46) ky188 with _ | vf195
 have hf194_:=congrArg (gotten false (.agg (List.toArray [.string ⟨#[]⟩,.slice none 0 0,.string ⟨#[]⟩,.int .i64 ((0:Nat):Int),.int .i64 ((0:Nat):Int),.string ⟨#[]⟩,.slice none 0 0,.slice none 0 0]))) hf194
 refine Qq he hm (fun a he =>?_) (o:=by exact fun _ _ _ he hs=>Ok.cast (y_lookup_at Tryz.runUnderlying103 Tryz.runUnderlying9 Tryz.zeroValue68 he hs rfl rfl ma50) (show gotten false (.agg (List.toArray [.string ⟨#[]⟩,.slice none 0 0,.string ⟨#[]⟩,.int .i64 ((0:Nat):Int),.int .i64 ((0:Nat):Int),.string ⟨#[]⟩,.slice none 0 0,.slice none 0 0])) (mget (d46) ky188)=.agg (List.toArray [.string ⟨#[]⟩,.slice none 0 0,.string ⟨#[]⟩,.int .i64 ((0:Nat):Int),.int .i64 ((0:Nat):Int),.string ⟨#[]⟩,.slice none 0 0,.slice none 0 0]) from hf194_))
 refine Qq he hm (fun a he =>?_) (o:=by exact fun _ _ _ he hs=>y_fieldA 3 (vs:=[.int .i64 ((0:Nat):Int),.int .i64 ((0:Nat):Int),.string ⟨#[]⟩,.slice none 0 0,.slice none 0 0]) Tryz.runUnderlying68 rfl Tryz.isAgg66 Tryz.sizeOf66 he rfl rfl rfl)
 refine CallB Tryz.call63 he hm (fun hB196 w hm a he =>?_) (fun hB196 w hm a he =>?_) (c:=reads_ok rex0 hm)
 refine BldT1 he hm fun a he =>?_
 refine Sto 4 he hm fun w hm a he =>?_
 refine go he hm fun a he =>?_
 have hmr:=hm
 replace hm:=hm.dl [7,6,5,4,3,2,1,0]
 refine hQ _ _ _ (retcA3 (i:=4) (cs:=[.string ⟨#[]⟩,.int .i64 ((0:Nat):Int),.slice none 0 0]) he hmr.toSees Tryz.results20 rfl rfl Tryz.isAgg42 Tryz.sizeOf42 rfl rfl rfl ?_)
 have hr_:callAllP c name args fuel=(v0,0,8):=callAll_reads hlk37 (by have h1_:=h129;have h2_:=h127;omega) hy100 hgv_ (reads_any hR145 hmem192 (by rw [fbody_none (MapRel.none mr54 hf194)];exact hB196))
 rw [hr_]
 exact ⟨(Ψ33,_),rfl,⟨le35,RVal.iff.2 ⟨_,rfl,(show I64 0 from ⟨by decide,by decide⟩),SliceOf.nil 3⟩⟩,hm⟩
 refine go he hm fun a he =>?_
 refine hL150 ((leftE es147 ((seen.push e154.born))).length) _ _ (by subst hmu;have h_:=leftE_lt hl155;omega) ⟨((seen.push e154.born)),rfl,⟨he.pk,hm⟩,?_⟩
 exact hNo_.next hok149 hl155 hk190 (by rw [fbody_none (MapRel.none mr54 hf194)];exact hB196)
 obtain ⟨y198,hy199,cs200,rfl,hr201⟩:=mr54.get hf194
 obtain ⟨s202,b208,rfl,h203,h209⟩:=id hr201
 obtain ⟨p204,c205,rfl,hm206,hn207⟩:=h203.fm
 obtain ⟨p212,c213,p218,c219,rfl,hi222,h211,h217,hm214,hn215,hm220,hn221⟩:=REx.fm h209
 have hf194_:=congrArg (gotten false (.agg (List.toArray [.string ⟨#[]⟩,.slice none 0 0,.string ⟨#[]⟩,.int .i64 ((0:Nat):Int),.int .i64 ((0:Nat):Int),.string ⟨#[]⟩,.slice none 0 0,.slice none 0 0]))) hf194
 refine Qq he hm (fun a he =>?_) (o:=by exact fun _ _ _ he hs=>Ok.cast (y_lookup_at Tryz.runUnderlying103 Tryz.runUnderlying9 Tryz.zeroValue68 he hs rfl rfl ma50) (show gotten false (.agg (List.toArray [.string ⟨#[]⟩,.slice none 0 0,.string ⟨#[]⟩,.int .i64 ((0:Nat):Int),.int .i64 ((0:Nat):Int),.string ⟨#[]⟩,.slice none 0 0,.slice none 0 0])) (mget (d46) ky188)=.agg (List.toArray [.string y198.name,.slice p204 y198.params.length c205,.string y198.result,.int .i64 (y198.body.kind),.int .i64 (y198.body.num),.string y198.body.name,.slice p212 y198.body.args.length c213,.slice p218 y198.body.arms.length c219]) from hf194_))
 refine Qq he hm (fun a he =>?_) (o:=by exact fun _ _ _ he hs=>y_fieldA 3 (vs:=[.int .i64 (y198.body.kind),.int .i64 (y198.body.num),.string y198.body.name,.slice p212 y198.body.args.length c213,.slice p218 y198.body.arms.length c219]) Tryz.runUnderlying68 rfl Tryz.isAgg66 Tryz.sizeOf66 he rfl rfl rfl)
 refine CallB Tryz.call63 he hm (fun hB223 w hm a he =>?_) (fun hB223 w hm a he =>?_) (c:=reads_ok h209 hm)
 refine BldT1 he hm fun a he =>?_
 refine Sto 4 he hm fun w hm a he =>?_
 refine go he hm fun a he =>?_
 have hmr:=hm
 replace hm:=hm.dl [7,6,5,4,3,2,1,0]
 refine hQ _ _ _ (retcA3 (i:=4) (cs:=[.string ⟨#[]⟩,.int .i64 ((0:Nat):Int),.slice none 0 0]) he hmr.toSees Tryz.results20 rfl rfl Tryz.isAgg42 Tryz.sizeOf42 rfl rfl rfl ?_)
 have hr_:callAllP c name args fuel=(v0,0,8):=callAll_reads hlk37 (by have h1_:=h129;have h2_:=h127;omega) hy100 hgv_ (reads_any hR145 hmem192 (by rw [fbody_some hy199];exact hB223))
 rw [hr_]
 exact ⟨(Ψ33,_),rfl,⟨le35,RVal.iff.2 ⟨_,rfl,(show I64 0 from ⟨by decide,by decide⟩),SliceOf.nil 3⟩⟩,hm⟩
 refine go he hm fun a he =>?_
 refine hL150 ((leftE es147 ((seen.push e154.born))).length) _ _ (by subst hmu;have h_:=leftE_lt hl155;omega) ⟨((seen.push e154.born)),rfl,⟨he.pk,hm⟩,?_⟩
 exact hNo_.next hok149 hl155 hk190 (by rw [fbody_some hy199];exact hB223)
 refine BldT1 he hm fun a he =>?_
 refine Sto 2 he hm fun w hm a he =>?_
 refine go he hm fun a he =>?_
 have hmr:=hm
 replace hm:=hm.dl [5,4,3,2,1,0]
 refine hQ _ _ _ (retcA3 (i:=2) (cs:=[.string ⟨#[]⟩,.int .i64 ((0:Nat):Int),.slice none 0 0]) he hmr.toSees Tryz.results20 rfl rfl Tryz.isAgg42 Tryz.sizeOf42 rfl rfl rfl ?_)
 have hr_:callAllP c name args fuel=(v0,0,8):=callAll_given hlk37 (by have h1_:=h129;have h2_:=h127;omega) hy100 ((givenA_eq _ _ _).trans hB133)
 rw [hr_]
 exact ⟨(Ψ33,_),rfl,⟨le35,RVal.iff.2 ⟨_,rfl,(show I64 0 from ⟨by decide,by decide⟩),SliceOf.nil 3⟩⟩,hm⟩
 rw [if_neg hlk37] at he
 refine Alc he hm fun b226 w hm a he =>?_
 refine Sto 0 he hm fun w hm a he =>?_
 refine BldT1 he hm fun a he =>?_
 refine Sto 1 he hm fun w hm a he =>?_
 refine go he hm fun a he =>?_
 have hmr:=hm
 replace hm:=hm.dl [4,3,2,1,0]
 refine hQ _ _ _ (retcA3 (i:=1) (cs:=[.string ⟨#[]⟩,.int .i64 ((0:Nat):Int),.slice none 0 0]) he hmr.toSees Tryz.results20 rfl rfl Tryz.isAgg42 Tryz.sizeOf42 rfl rfl rfl ?_)
 have hr_:callAllP c name args fuel=(v0,0,lookP c):=callAll_look hlk37
 rw [hr_]
 exact ⟨(Ψ33,_),rfl,⟨le35,RVal.iff.2 ⟨_,rfl,(show I64 0 from ⟨by decide,by decide⟩),SliceOf.nil 3⟩⟩,hm⟩
end Go.Sw

namespace Go.Sw
theorem kdel_kset:∀(K:List Res) (i:Nat) (r:Res),kdel (kset K i r) i=kdel K i
 | [],_,_=>rfl
 | _::K,0,_=>rfl
 | x::K,i+1,r=>by simp only [kset,kdel,kdel_kset K i r]
theorem strCells_append (s t:ByteArray):Lib.strCells (s++t)=Lib.strCells s++Lib.strCells t:=by
 simp only [Lib.strCells,ByteArray.data_append,Array.toList_append,List.map_append]
theorem strCells_len (s:ByteArray):(Lib.strCells s).length=s.size:=by
 simp only [Lib.strCells,List.length_map,Array.length_toList];rfl
theorem strCells_push (t:ByteArray) (c:UInt8):Lib.strCells (t++⟨#[c]⟩)=Lib.strCells t++[.int .u8 ((c.toNat:Nat):Int)]:=by rw [strCells_append];rfl
section
variable {P:Program} {n:Nat} {E:List (Nat×Value)} {D:List Deferred} {a:Act} {Φ:Fz} {K:List Res} {w:World} {ty:TypeId}
variable {Kn:Value→World→Prop} {Qp:List PanicEntry→World→Prop} {dst:Option Tmp} {pos:String} {aft:Array Edge} {g:Option (Nat×Bool)}
theorem y_to_unsafe {x:Operand} {src dst' t:TypeId} {j:TypeInfo} {b T i:Nat} {cs:List Value} (he:EnvR n E D a) (hm:Sees Φ K w) (hx:ev E x=some (.pointer (some ⟨b,0,none⟩))) (hk:kget K i=some (.blk b (ob cs T))) (h0:0 < cs.length)
  (h1:P.underlying src=some (.pointer t)) (h2:P.underlying dst'=some .unsafePointer) (h3:P.info? t=some j) (h4:j.size≠0):Ok P a (.convert src dst' x) ty w (.pointer (some ⟨b,0,none⟩)):=fun _ _ _ _=>by
 have hb:w.heap[b]? = some (ob cs T):=hm.own _ (kget_mem hk)
 have:=Lib.run_to_unsafe (P:=P) w (src:=src) (dst:=dst') (t:=t) (e:=T) (j:=j) (cells:=cs.length) ⟨b,0,none⟩ h1 h2 h3 h4 (by simp [World.shape?,hb,ob]) h0
 simp only [execOp,he.ev hx]
 simp [Sem.run_bind,this,Result.andThen]
theorem y_from_unsafe {x:Operand} {src dst' u:TypeId} {j:TypeInfo} {b T i:Nat} {cs:List Value} (he:EnvR n E D a) (hm:Sees Φ K w) (hx:ev E x=some (.pointer (some ⟨b,0,none⟩))) (hk:kget K i=some (.blk b (ob cs T)))
  (h1:P.underlying src=some .unsafePointer) (h2:P.underlying dst'=some (.pointer u)) (h3:P.info? u=some j) (h4:liesAt P P.depth T (cs.length / P.cellsOf T) 0 u 1=true):Ok P a (.convert src dst' x) ty w (.pointer (some ⟨b,0,none⟩)):=fun _ _ _ _=>by
 have hb:w.heap[b]? = some (ob cs T):=hm.own _ (kget_mem hk)
 have:=Lib.run_from_unsafe (P:=P) w (src:=src) (dst:=dst') (u:=u) (e:=T) (j:=j) (cells:=cs.length) ⟨b,0,none⟩ h1 h2 h3 (by simp [World.shape?,hb,ob]) h4
 simp only [execOp,he.ev hx]
 simp [Sem.run_bind,this,Result.andThen]
theorem eff_append_str (i:Nat) {s x:Operand} {t u e:TypeId} {v:Value} {str t0:ByteArray} {inf:TypeInfo} (ht:P.underlying t=some (.slice e)) (hu:P.underlying u=some .string) (hi:P.info? e=some inf) (hz:inf.zero=some (.int .u8 0)) (h1:inf.size=1) (h2:inf.bytes=1)
  (he:EnvR n E D a) (hm:Mem Φ K w) (hs:ev E s=some v) (hk:kget K i=some (.gs v e 1 (Lib.strCells t0))) (hx:ev E x=some (.string str)) (hb:t0.size+str.size≤140737488355328)
  (k:∀v' w',Mem Φ (kset K i (.gs v' e 1 (Lib.strCells (t0++str)))) w'→Kn v' w') :
  Oper.eff P ⟨dst,.call { callee:=.builtin .append,args:=#[s,x],argTypes:=#[t,u] },ty,pos,aft,g⟩ a w Kn Qp:=by
 obtain ⟨nn,hown⟩:=hm.own _ (kget_mem hk)
 have hnn:nn=t0.size:=by have:=hown.1;rw [strCells_len] at this;omega
 subst hnn
 have hmax:t0.size+str.size≤maxLen:=by simp only [maxLen];omega
 have hfin:∀v' w',(Builtin.append_ #[t,u] ty #[v,.string str]).run P w=.ok v' w'→Kn v' w' →
   Oper.eff P ⟨dst,.call { callee:=.builtin .append,args:=#[s,x],argTypes:=#[t,u] },ty,pos,aft,g⟩ a w Kn Qp:=by
  intro v' w' hrun hK
  unfold Oper.eff
  have:(execOp a.eval ⟨dst,.call { callee:=.builtin .append,args:=#[s,x],argTypes:=#[t,u] },ty,pos,aft,g⟩).run P w=.ok (.value v') w':=by
   simp only [execOp,resolve,invoke,builtin,Sem.run_bind,Sem.run_pure,Result.andThen_ok,List.map_toArray,List.map_cons,List.map_nil,he.ev hs,he.ev hx,hrun]
  rw [this]
  exact hK
 rcases hown.2 with ⟨rfl,h0⟩ | ⟨b,cap,cur,rfl,_,hg,hc,hcm,hcs,htk⟩
 ·obtain ⟨v',w',hrun,ho',hgr,_⟩:=Lib.run_append_own_string (P:=P) w w.heap.size t u ty e inf ht hu hi hz h1 h2 (.slice none 0 0) t0.size _ ⟨hown.1,.inl ⟨rfl,h0⟩⟩ str hmax hb (Nat.le_refl _)
  refine hfin v' w' hrun (k _ _ ?_)
  rw [strCells_append]
  refine hm.upd hk hgr.os hgr.output (fun b hb hne=>hgr.block b hb hne) ⟨t0.size+str.size,?_⟩ (.inr fun b hb=>(ho'.lt b hb).1)
  exact ⟨ho'.1,ho'.2.imp id fun ⟨g,cap,cur,h1,_,h3⟩=>⟨g,cap,cur,h1,Nat.zero_le _,h3⟩⟩
 ·obtain ⟨v',w',hrun,ho',hgr,_⟩:=Lib.run_append_own_string (P:=P) w 0 t u ty e inf ht hu hi hz h1 h2 _ t0.size _ hown str hmax hb (Nat.zero_le _)
  refine hfin v' w' hrun (k _ _ ?_)
  rw [strCells_append]
  refine hm.upd hk hgr.os hgr.output (fun b hb hne=>hgr.block b hb hne) ⟨t0.size+str.size,ho'⟩ ?_
  by_cases hroom:t0.size+str.size≤cap
  ·have hr:=Lib.run_append_room_string (P:=P) w t u ty e inf ht hu hi h1 b t0.size cap cur hg str hroom (by omega)
   rw [hr] at hrun
   cases hrun
   exact .inl rfl
  ·have holds:∀j u,(Lib.strCells t0)[j]? = some u→w.cell? ((⟨b,0,none⟩:Addr).add j)=some u:=hown.cells (g:=b) rfl
   have hr:=Lib.run_append_grow_string (P:=P) w t u ty e inf (.int .u8 0) ht hu hi hz ⟨b,0,none⟩ t0.size cap (Lib.strCells t0) (by rw [h1,strCells_len];omega) holds str (by omega) (by omega) (by rw [h2];exact growslice_fits (by omega) (by omega))
   rw [hr] at hrun
   cases hrun
   exact .inr fun c hc=>by simp [Res.foot,Value.ownBlock] at hc;omega
def DataOf (v:Value) (q:Option Addr) (n:Nat):Prop:=n≠0→∃g cap,v=.slice (some ⟨g,0,none⟩) n cap∧q=some ⟨g,0,none⟩
theorem eff_sliceData (i:Nat) {x:Operand} {ts:Array TypeId} {e:TypeId} {v:Value} {t:ByteArray} (hp:P.underlying ty=some (.pointer e)) (he:EnvR n E D a) (hm:Mem Φ K w) (hx:ev E x=some v) (hk:kget K i=some (.gs v 5 1 (Lib.strCells t)))
  (k:∀q w',DataOf v q t.size→Mem Φ K w'→Kn (.pointer q) w'):Oper.eff P ⟨dst,.call { callee:=.builtin .unsafeSliceData,args:=#[x],argTypes:=ts },ty,pos,aft,g⟩ a w Kn Qp:=by
 obtain ⟨nn,hown⟩:=hm.own _ (kget_mem hk)
 have hnn:nn=t.size:=by have:=hown.1;rw [strCells_len] at this;omega
 subst hnn
 have hfin:∀v' w',(Builtin.unsafeSliceData_ ts ty #[v]).run P w=.ok v' w'→Kn v' w' →
   Oper.eff P ⟨dst,.call { callee:=.builtin .unsafeSliceData,args:=#[x],argTypes:=ts },ty,pos,aft,g⟩ a w Kn Qp:=by
  intro v' w' hrun hK
  unfold Oper.eff
  have:(execOp a.eval ⟨dst,.call { callee:=.builtin .unsafeSliceData,args:=#[x],argTypes:=ts },ty,pos,aft,g⟩).run P w=.ok (.value v') w':=by
   simp only [execOp,resolve,invoke,builtin,Sem.run_bind,Sem.run_pure,Result.andThen_ok,List.map_toArray,List.map_cons,List.map_nil,he.ev hx,hrun]
  rw [this]
  exact hK
 rcases hown.2 with ⟨rfl,h0⟩ | ⟨b,cap,cur,rfl,_,hg,hc,hcm,hcs,htk⟩
 ·exact hfin _ _ (Lib.run_unsafeSliceData_nil _ _ _ _ _) (k _ _ (fun h=>absurd h0 h) hm)
 ·by_cases hcap:cap=0
  ·subst hcap
   exact hfin _ _ (Lib.run_unsafeSliceData_zero w ts ty e hp _ _ (5,cur.size) (by simp [World.shape?,hg])) (k _ _ (fun h=>absurd (Nat.le_zero.1 hc) h) ((hm.push _).del 0))
  ·exact hfin _ _ (Lib.run_unsafeSliceData_row w ts ty _ _ _ hcap) (k _ _ (fun _=>⟨b,cap,rfl,rfl⟩) hm)
theorem eff_unsafeString (i:Nat) {x y:Operand} {pt it:TypeId} {v:Value} {t:ByteArray} {q:Option Addr} (hp:P.underlying pt=some (.pointer 5)) (hc5:P.cellsOf 5=1) (he:EnvR n E D a) (hm:Mem Φ K w) (hq:DataOf v q t.size) (hx:ev E x=some (.pointer q)) (hy:ev E y=some (.int .i64 ((t.size:Nat):Int))) (hk:kget K i=some (.gs v 5 1 (Lib.strCells t)))
  (k:∀w',Mem Φ (kdel K i) w'→Kn (.string t) w'):Oper.eff P ⟨dst,.call { callee:=.builtin .unsafeString,args:=#[x,y],argTypes:=#[pt,it] },ty,pos,aft,g⟩ a w Kn Qp:=by
 obtain ⟨nn,hown⟩:=hm.own _ (kget_mem hk)
 have hnn:nn=t.size:=by have:=hown.1;rw [strCells_len] at this;omega
 subst hnn
 have hfin:∀v' w',(Builtin.unsafeString_ #[pt,it] ty #[.pointer q,.int .i64 ((t.size:Nat):Int)]).run P w=.ok v' w'→Kn v' w' →
   Oper.eff P ⟨dst,.call { callee:=.builtin .unsafeString,args:=#[x,y],argTypes:=#[pt,it] },ty,pos,aft,g⟩ a w Kn Qp:=by
  intro v' w' hrun hK
  unfold Oper.eff
  have:(execOp a.eval ⟨dst,.call { callee:=.builtin .unsafeString,args:=#[x,y],argTypes:=#[pt,it] },ty,pos,aft,g⟩).run P w=.ok (.value v') w':=by
   simp only [execOp,resolve,invoke,builtin,Sem.run_bind,Sem.run_pure,Result.andThen_ok,List.map_toArray,List.map_cons,List.map_nil,he.ev hx,he.ev hy,hrun]
  rw [this]
  exact hK
 have hlt:t.data.toList.length=t.size:=by simp only [Array.length_toList];rfl
 by_cases h0:t.size=0
 ·have ht:t=.empty:=by
   have:t.data=#[]:=Array.eq_empty_of_size_eq_zero h0
   cases t;simp only at this;subst this;rfl
  have hr:=Lib.run_unsafeString_none (P:=P) w pt it ty q
  refine hfin (.string t) w ?_ (k _ (hm.del i))
  rw [h0];rw [ht];exact hr
 ·obtain ⟨b,cap,rfl,rfl⟩:=hq h0
  rcases hown.2 with ⟨hv,_⟩ | ⟨b',cap',cur,hv,_,hg,hc,hcm,hcs,htk⟩
  ·cases hv
  ·simp only [Value.slice.injEq,Option.some.injEq,Addr.mk.injEq,and_true,true_and] at hv
   obtain ⟨rfl,rfl⟩:=hv
   have hr:=Lib.run_unsafeString_row (P:=P) w pt it ty 5 hp hc5 b cur.size (by simp [World.shape?,hg]) t.data.toList (fun e=>h0 (by rw [← hlt,e];rfl)) (by omega) (by simp only [maxLen] at hcm;omega) (fun j x hx=>by
    have:=hown.cells (g:=b) rfl j (.int .u8 x.toNat) (by simp [Lib.strCells,hx])
    exact this)
   rw [hlt] at hr
   refine hfin (.string t) _ (by rw [hr]) (k _ ?_)
   have hw:(w.freeze ⟨b,0,none⟩ t.size).heap[b]? = some (.cells cur 5 (0,0+t.size)):=by
    simp only [World.freeze,h0,if_false,Array.getElem?_modify,if_true,hg,Option.map_some];rfl
   have h2:Mem Φ (kset K i (.blk b (.cells cur 5 (0,0+t.size)))) (w.freeze ⟨b,0,none⟩ t.size):=by
    refine hm.upd hk ?_ ?_ (fun c hc hne =>?_) hw (.inl rfl)
    ·unfold World.freeze;split <;> rfl
    ·unfold World.freeze;split <;> rfl
    ·simp only [World.freeze,h0,if_false,Array.getElem?_modify]
     rw [if_neg (fun e=>hne (by subst e;rfl))]
   have h3:=h2.del i
   rwa [kdel_kset] at h3
end
open Go.Proofs in
theorem y_noEscape171 {n:Nat} {E:List (Nat×Value)} {D:List Deferred} {a:Act} {w:World} {ty:TypeId} {x:Operand} {ts:Array TypeId} {v:Value} (he:EnvR n E D a) (hx:ev E x=some v) :
  Ok Tryz.prog a (.call { callee:=.value (.func 171),args:=#[x],argTypes:=ts }) ty w v:=fun _ _ _ _=>by
 have h:=run_callFunc_extern (P:=Tryz.prog) Tryz.func171 (by kernel_rfl) (by kernel_rfl) (by kernel_rfl) (e:=Extern.AbiNoEscape.same) (by kernel_rfl) #[v] w
 rw [Lib.run_noEscape] at h
 simp only [Result.andThen] at h
 have hf:a.eval (.func 171)=.func (.func 171) #[] #[]:=rfl
 simp only [execOp,resolve,Sem.run_bind,List.map_toArray,List.map_cons,List.map_nil,he.ev hx,hf]
 simp [Deferred.ofValue,invoke,Sem.run_bind,Result.andThen,h]
end Go.Sw
