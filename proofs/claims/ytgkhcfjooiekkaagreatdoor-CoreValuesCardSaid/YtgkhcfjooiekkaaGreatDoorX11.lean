import Derived.Lib.AppendStr
import Derived.Lib.UnsafeStr
import Derived.Lib.MakeNoZero
import Derived.Test.YtgkhcfjooiekkaaGreatDoorX10
set_option linter.unusedVariables false
set_option linter.unusedSimpArgs false
namespace Go.Sw
theorem y9k:∀(K:List Res) (i:Nat) (r:Res),dF (wD K i r) i=dF K i
 | [],_,_=>rfl
 | _::K,0,_=>rfl
 | x::K,i+1,r=>by simp only [wD,dF,y9k K i r]
theorem dT (s t:ByteArray):Lib.strCells (s++t)=Lib.strCells s++Lib.strCells t:=by
 simp only [Lib.strCells,ByteArray.data_append,Array.toList_append,List.map_append]
theorem wU (s:ByteArray):(Lib.strCells s).length=s.size:=by
 simp only [Lib.strCells,List.length_map,Array.length_toList];rfl
theorem y7h (t:ByteArray) (c:UInt8):Lib.strCells (t++⟨#[c]⟩)=Lib.strCells t++[.int .u8 ((c.toNat:Nat):Int)]:=by rw [dT];rfl
section
variable {P:Program} {n:Nat} {E:List (Nat×Value)} {D:List Deferred} {a:Act} {V:Fz} {K:List Res} {w:World} {ty:TypeId}
variable {Kn:Value->World->Prop} {Qp:List PanicEntry->World->Prop} {dst:Option Tmp} {pos:String} {aft:Array Edge} {g:Option (Nat×Bool)}
theorem q8k {x:Operand} {src dst' t:TypeId} {j:TypeInfo} {b T i:Nat} {cs:List Value} (J:EnvR n E D a) (N:Sees V K w) (k:ev E x=some (.pointer (some ⟨b,0,none⟩))) (h:qJ K i=some (.blk b (ob cs T))) (c:0 < cs.length)
  (h1:P.underlying src=some (.pointer t)) (d:P.underlying dst'=some .unsafePointer) (f:P.info? t=some j) (g:j.size≠0):Ok P a (.convert src dst' x) ty w (.pointer (some ⟨b,0,none⟩)):=fun _ _ _ _=>by
 have hb:w.heap[b]? = some (ob cs T):=N.own _ (yN h)
 have:=Lib.run_to_unsafe (P:=P) w (src:=src) (dst:=dst') (t:=t) (e:=T) (j:=j) (cells:=cs.length) ⟨b,0,none⟩ h1 d f g (by simp [World.shape?,hb,ob]) c
 simp only [execOp,J.ev k]
 simp [Sem.run_bind,this,Result.andThen]
theorem y7i {x:Operand} {src dst' u:TypeId} {j:TypeInfo} {b T i:Nat} {cs:List Value} (J:EnvR n E D a) (N:Sees V K w) (h:ev E x=some (.pointer (some ⟨b,0,none⟩))) (g:qJ K i=some (.blk b (ob cs T)))
  (h1:P.underlying src=some .unsafePointer) (c:P.underlying dst'=some (.pointer u)) (d:P.info? u=some j) (f:liesAt P P.depth T (cs.length / P.cellsOf T) 0 u 1=true):Ok P a (.convert src dst' x) ty w (.pointer (some ⟨b,0,none⟩)):=fun _ _ _ _=>by
 have hb:w.heap[b]? = some (ob cs T):=N.own _ (yN g)
 have:=Lib.run_from_unsafe (P:=P) w (src:=src) (dst:=dst') (u:=u) (e:=T) (j:=j) (cells:=cs.length) ⟨b,0,none⟩ h1 c d (by simp [World.shape?,hb,ob]) f
 simp only [execOp,J.ev h]
 simp [Sem.run_bind,this,Result.andThen]
theorem y1y (i:Nat) {s x:Operand} {t u e:TypeId} {v:Value} {str t0:ByteArray} {inf:TypeInfo} (r:P.underlying t=some (.slice e)) (y:P.underlying u=some .string) (q:P.info? e=some inf) (C:inf.zero=some (.int .u8 0)) (h1:inf.size=1) (z:inf.bytes=1)
  (J:EnvR n E D a) (N:Mem V K w) (O:ev E s=some v) (A:qJ K i=some (.gs v e 1 (Lib.strCells t0))) (S:ev E x=some (.string str)) (hb:t0.size+str.size<=140737488355328)
  (k:∀v' w',Mem V (wD K i (.gs v' e 1 (Lib.strCells (t0++str)))) w'->Kn v' w') :
  Oper.eff P ⟨dst,.call { callee:=.builtin .append,args:=#[s,x],argTypes:=#[t,u] },ty,pos,aft,g⟩ a w Kn Qp:=by
 obtain ⟨nn,f⟩:=N.own _ (yN A)
 have B:nn=t0.size:=by have:=f.1;rw [wU] at this;omega
 subst B
 have m:t0.size+str.size<=maxLen:=by simp only [maxLen];omega
 have l:∀v' w',(Builtin.append_ #[t,u] ty #[v,.string str]).run P w=.ok v' w'->Kn v' w' ->
   Oper.eff P ⟨dst,.call { callee:=.builtin .append,args:=#[s,x],argTypes:=#[t,u] },ty,pos,aft,g⟩ a w Kn Qp:=by
  intro v' w' d I
  unfold Oper.eff
  have:(execOp a.eval ⟨dst,.call { callee:=.builtin .append,args:=#[s,x],argTypes:=#[t,u] },ty,pos,aft,g⟩).run P w=.ok (.value v') w':=by
   simp only [execOp,resolve,invoke,builtin,Sem.run_bind,Sem.run_pure,Result.andThen_ok,List.map_toArray,List.map_cons,List.map_nil,J.ev O,J.ev S,d]
  rw [this]
  exact I
 rcases f.2 with ⟨rfl,G⟩ | ⟨b,cap,cur,rfl,_,Q,F,L,M,R⟩
 ·obtain ⟨v',w',d,ho',h,_⟩:=Lib.run_append_own_string (P:=P) w w.heap.size t u ty e inf r y q C h1 z (.slice none 0 0) t0.size _ ⟨f.1,.inl ⟨rfl,G⟩⟩ str m hb (Nat.le_refl _)
  refine l v' w' d (k _ _ ?_)
  rw [dT]
  refine N.upd A h.os h.output (fun b hb o=>h.block b hb o) ⟨t0.size+str.size,?_⟩ (.inr fun b hb=>(ho'.lt b hb).1)
  exact ⟨ho'.1,ho'.2.imp id fun ⟨g,cap,cur,h1,_,H⟩=>⟨g,cap,cur,h1,Nat.zero_le _,H⟩⟩
 ·obtain ⟨v',w',d,ho',h,_⟩:=Lib.run_append_own_string (P:=P) w 0 t u ty e inf r y q C h1 z _ t0.size _ f str m hb (Nat.zero_le _)
  refine l v' w' d (k _ _ ?_)
  rw [dT]
  refine N.upd A h.os h.output (fun b hb o=>h.block b hb o) ⟨t0.size+str.size,ho'⟩ ?_
  by_cases p:t0.size+str.size<=cap
  ·have hr:=Lib.run_append_room_string (P:=P) w t u ty e inf r y q h1 b t0.size cap cur Q str p (by omega)
   rw [hr] at d
   cases d
   exact .inl rfl
  ·have holds:∀j u,(Lib.strCells t0)[j]? = some u->w.cell? ((⟨b,0,none⟩:Addr).add j)=some u:=f.cells (g:=b) rfl
   have hr:=Lib.run_append_grow_string (P:=P) w t u ty e inf (.int .u8 0) r y q C ⟨b,0,none⟩ t0.size cap (Lib.strCells t0) (by rw [h1,wU];omega) holds str (by omega) (by omega) (by rw [z];exact growslice_fits (by omega) (by omega))
   rw [hr] at d
   cases d
   exact .inr fun c F=>by simp [Res.foot,Value.ownBlock] at F;omega
def DataOf (v:Value) (q:Option Addr) (n:Nat):Prop:=n≠0->∃g cap,v=.slice (some ⟨g,0,none⟩) n cap/\q=some ⟨g,0,none⟩
theorem y6t (i:Nat) {x:Operand} {ts:Array TypeId} {e:TypeId} {v:Value} {t:ByteArray} (z:P.underlying ty=some (.pointer e)) (J:EnvR n E D a) (N:Mem V K w) (B:ev E x=some v) (y:qJ K i=some (.gs v 5 1 (Lib.strCells t)))
  (k:∀q w',DataOf v q t.size->Mem V K w'->Kn (.pointer q) w'):Oper.eff P ⟨dst,.call { callee:=.builtin .unsafeSliceData,args:=#[x],argTypes:=ts },ty,pos,aft,g⟩ a w Kn Qp:=by
 obtain ⟨nn,f⟩:=N.own _ (yN y)
 have l:nn=t.size:=by have:=f.1;rw [wU] at this;omega
 subst l
 have c:∀v' w',(Builtin.unsafeSliceData_ ts ty #[v]).run P w=.ok v' w'->Kn v' w' ->
   Oper.eff P ⟨dst,.call { callee:=.builtin .unsafeSliceData,args:=#[x],argTypes:=ts },ty,pos,aft,g⟩ a w Kn Qp:=by
  intro v' w' j o
  unfold Oper.eff
  have:(execOp a.eval ⟨dst,.call { callee:=.builtin .unsafeSliceData,args:=#[x],argTypes:=ts },ty,pos,aft,g⟩).run P w=.ok (.value v') w':=by
   simp only [execOp,resolve,invoke,builtin,Sem.run_bind,Sem.run_pure,Result.andThen_ok,List.map_toArray,List.map_cons,List.map_nil,J.ev B,j]
  rw [this]
  exact o
 rcases f.2 with ⟨rfl,m⟩ | ⟨b,cap,cur,rfl,_,u,p,r,s,A⟩
 ·exact c _ _ (Lib.run_unsafeSliceData_nil _ _ _ _ _) (k _ _ (fun h=>absurd m h) N)
 ·by_cases d:cap=0
  ·subst d
   exact c _ _ (Lib.run_unsafeSliceData_zero w ts ty e z _ _ (5,cur.size) (by simp [World.shape?,u])) (k _ _ (fun h=>absurd (Nat.le_zero.1 p) h) ((N.push _).del 0))
  ·exact c _ _ (Lib.run_unsafeSliceData_row w ts ty _ _ _ d) (k _ _ (fun _=>⟨b,cap,rfl,rfl⟩) N)
theorem z7d (i:Nat) {x y:Operand} {pt it:TypeId} {v:Value} {t:ByteArray} {q:Option Addr} (L:P.underlying pt=some (.pointer 5)) (p:P.cellsOf 5=1) (J:EnvR n E D a) (N:Mem V K w) (hq:DataOf v q t.size) (z:ev E x=some (.pointer q)) (S:ev E y=some (.int .i64 ((t.size:Nat):Int))) (B:qJ K i=some (.gs v 5 1 (Lib.strCells t)))
  (k:∀w',Mem V (dF K i) w'->Kn (.string t) w'):Oper.eff P ⟨dst,.call { callee:=.builtin .unsafeString,args:=#[x,y],argTypes:=#[pt,it] },ty,pos,aft,g⟩ a w Kn Qp:=by
 obtain ⟨nn,d⟩:=N.own _ (yN B)
 have u:nn=t.size:=by have:=d.1;rw [wU] at this;omega
 subst u
 have f:∀v' w',(Builtin.unsafeString_ #[pt,it] ty #[.pointer q,.int .i64 ((t.size:Nat):Int)]).run P w=.ok v' w'->Kn v' w' ->
   Oper.eff P ⟨dst,.call { callee:=.builtin .unsafeString,args:=#[x,y],argTypes:=#[pt,it] },ty,pos,aft,g⟩ a w Kn Qp:=by
  intro v' w' m G
  unfold Oper.eff
  have:(execOp a.eval ⟨dst,.call { callee:=.builtin .unsafeString,args:=#[x,y],argTypes:=#[pt,it] },ty,pos,aft,g⟩).run P w=.ok (.value v') w':=by
   simp only [execOp,resolve,invoke,builtin,Sem.run_bind,Sem.run_pure,Result.andThen_ok,List.map_toArray,List.map_cons,List.map_nil,J.ev z,J.ev S,m]
  rw [this]
  exact G
 have l:t.data.toList.length=t.size:=by simp only [Array.length_toList];rfl
 by_cases h:t.size=0
 ·have M:t=.empty:=by
   have:t.data=#[]:=Array.eq_empty_of_size_eq_zero h
   cases t;simp only at this;subst this;rfl
  have hr:=Lib.run_unsafeString_none (P:=P) w pt it ty q
  refine f (.string t) w ?_ (k _ (N.del i))
  rw [h];rw [M];exact hr
 ·obtain ⟨b,cap,rfl,rfl⟩:=hq h
  rcases d.2 with ⟨o,_⟩ | ⟨b',cap',cur,o,_,A,H,r,I,Q⟩
  ·cases o
  ·simp only [Value.slice.injEq,Option.some.injEq,Addr.mk.injEq,and_true,true_and] at o
   obtain ⟨rfl,rfl⟩:=o
   have hr:=Lib.run_unsafeString_row (P:=P) w pt it ty 5 L p b cur.size (by simp [World.shape?,A]) t.data.toList (fun e=>h (by rw [<- l,e];rfl)) (by omega) (by simp only [maxLen] at r;omega) (fun j x z=>by
    have:=d.cells (g:=b) rfl j (.int .u8 x.toNat) (by simp [Lib.strCells,z])
    exact this)
   rw [l] at hr
   refine f (.string t) _ (by rw [hr]) (k _ ?_)
   have R:(w.freeze ⟨b,0,none⟩ t.size).heap[b]? = some (.cells cur 5 (0,0+t.size)):=by
    simp only [World.freeze,h,if_false,Array.getElem?_modify,if_true,A,Option.map_some];rfl
   have C:Mem V (wD K i (.blk b (.cells cur 5 (0,0+t.size)))) (w.freeze ⟨b,0,none⟩ t.size):=by
    refine N.upd B ?_ ?_ (fun c H s=>?_) R (.inl rfl)
    ·unfold World.freeze;split <;> rfl
    ·unfold World.freeze;split <;> rfl
    ·simp only [World.freeze,h,if_false,Array.getElem?_modify]
     rw [if_neg (fun e=>s (by subst e;rfl))]
   have F:=C.del i
   rwa [y9k] at F
end
open Go.Proofs in
theorem y7j {n:Nat} {E:List (Nat×Value)} {D:List Deferred} {a:Act} {w:World} {ty:TypeId} {x:Operand} {ts:Array TypeId} {v:Value} (J:EnvR n E D a) (c:ev E x=some v) :
  Ok Tryz.prog a (.call { callee:=.value (.func 171),args:=#[x],argTypes:=ts }) ty w v:=fun _ _ _ _=>by
 have h:=run_callFunc_extern (P:=Tryz.prog) Tryz.func171 (by kernel_rfl) (by kernel_rfl) (by kernel_rfl) (e:=Extern.AbiNoEscape.same) (by kernel_rfl) #[v] w
 rw [Lib.run_noEscape] at h
 simp only [Result.andThen] at h
 have b:a.eval (.func 171)=.func (.func 171) #[] #[]:=rfl
 simp only [execOp,resolve,Sem.run_bind,List.map_toArray,List.map_cons,List.map_nil,J.ev c,b]
 simp [Deferred.ofValue,invoke,Sem.run_bind,Result.andThen,h]
end Go.Sw

namespace Go.Sw
open Go.Proofs.Tryz
open Go.Proofs
section
variable {P:Program} {n:Nat} {E:List (Nat×Value)} {D:List Deferred} {a:Act} {V:Fz} {K:List Res} {w:World} {ty:TypeId}
variable {Kn:Value->World->Prop} {Qp:List PanicEntry->World->Prop} {dst:Option Tmp} {pos:String} {aft:Array Edge} {g:Option (Nat×Bool)}
set_option maxRecDepth 20000 in
theorem y2b {x:Operand} {ts:Array TypeId} {m:Nat} (J:EnvR n E D a) (N:Mem V K w) (l:ev E x=some (.int .i64 ((m:Nat):Int))) (j:m<=281474976710656)
  (k:∀b cs w',m<=cs.size->cs.size<=maxLen->Mem V (.blk b (.cells cs 5 (0,0))::K) w'->Kn (.slice (some ⟨b,0,none⟩) m cs.size) w') :
  Oper.eff prog ⟨dst,.call { callee:=.value (.func 198),args:=#[x],argTypes:=ts },ty,pos,aft,g⟩ a w Kn Qp:=by
 obtain ⟨cs,d,f,c⟩:=Lib.run_makeNoZero (P:=prog) w #[3] 128 5 underlying128 m j
 have h:=run_callFunc_extern (P:=prog) func198 (by kernel_rfl) (by kernel_rfl) (by kernel_rfl) (e:=Extern.BytealgMakeNoZero.makeNoZero #[3] #[128]) (by kernel_rfl) #[.int .i64 ((m:Nat):Int)] w
 rw [d] at h
 simp only [Result.andThen] at h
 unfold Oper.eff
 have:(execOp a.eval ⟨dst,.call { callee:=.value (.func 198),args:=#[x],argTypes:=ts },ty,pos,aft,g⟩).run prog w=.ok (.value (.slice (some ⟨w.heap.size,0,none⟩) m cs.size)) (w.drew.drew.alloc (.cells cs 5)):=by
  have i:a.eval (.func 198)=.func (.func 198) #[] #[]:=rfl
  simp only [execOp,resolve,Sem.run_bind,List.map_toArray,List.map_cons,List.map_nil,J.ev l,i]
  simp [Deferred.ofValue,invoke,Sem.run_bind,Result.andThen,h]
 rw [this]
 exact k _ cs _ f (c (by simp only [maxLen];omega)) (N.drew.drew.push (.cells cs 5 (0,0)))
theorem j1i {b:Nat} {cs:Array Value} {i:Nat} (N:Mem V K w) (c:qJ K i=some (.blk b (.cells cs 5 (0,0)))) (a:cs.size<=maxLen):Mem V (wD K i (.gs (.slice (some ⟨b,0,none⟩) 0 cs.size) 5 1 (Lib.strCells ⟨#[]⟩))) w :=
 N.upd c rfl rfl (fun _ _ _=>rfl) ⟨0,rfl,.inr ⟨b,cs.size,cs,rfl,Nat.zero_le _,N.own _ (yN c),Nat.zero_le _,a,by omega,by simp [Lib.strCells]⟩⟩ (.inl rfl)
theorem q3h {x d:Operand} {t e:TypeId} {b m c:Nat} (J:EnvR n E D a) (h:ev E x=some (.slice (some ⟨b,0,none⟩) m c)) (f:ev E d=some (.int .i64 ((0:Nat):Int))) (g:Under P t (.slice e)) (O:SizeT P e 1) :
  Ok P a (.slice t x none (some d) none) ty w (.slice (some ⟨b,0,none⟩) 0 c):=fun _ _ _ _=>by
 simp only [execOp,J.ev h,Option.map_some,Option.map_none,J.ev f,Instr.sliceAt]
 simp [Sem.run_bind,g w,O w,Instr.slice,Instr.sliceBounds,Instr.sliceBound,asIntOf,Result.andThen,Addr.add]
theorem y_cap {x:Operand} {t e:TypeId} {p:Option Addr} {m c:Nat} (J:EnvR n E D a) (d:ev E x=some (.slice p m c)) (b:Under P t (.slice e)):Ok P a (.call { callee:=.builtin .cap,args:=#[x],argTypes:=#[t] }) ty w (.int .i64 ((c:Nat):Int)):=fun _ _ _ _=>by
 simp only [execOp,resolve]
 simp [Sem.run_bind,Result.andThen,invoke,builtin,J.ev d,Builtin.cap_,b w,goInt]
theorem j2k {x y:Operand} {t t2 e:TypeId} {p:Option Addr} {m c:Nat} (J:EnvR n E D a) (d:ev E x=some (.slice p m c)) (f:ev E y=some (.slice none 0 0)) (b:P.underlying t=some (.slice e)) (O:(P.info? e).map (·.size)=some 1) (g:ty=ty) :
  Ok P a (.call { callee:=.builtin .copy,args:=#[x,y],argTypes:=#[t,t2] }) ty w (.int .i64 ((0:Nat):Int)):=fun _ _ _ _=>by
 have h:=run_copy_none (P:=P) w t t2 ty e p none m c 0 0 b O rfl
 simp only [execOp,resolve,invoke,builtin,Sem.run_bind,Sem.run_pure,Result.andThen_ok,List.map_toArray,List.map_cons,List.map_nil,J.ev d,J.ev f,h]
 rfl
theorem cW (i j:Nat) {x:Operand} {b off cap:Nat} {arr:Array Value} {l:List Bs} {T:TypeId} {s:Bs} (J:EnvR n E D a) (N:Sees V K w) (hq:QAt off cap arr l) (c:ev E x=some (.pointer (some ((⟨b,off,none⟩:Addr).add (j * 1)))))
  (f:qJ K i=some (qblk b arr)) (O:l[j]? = some s) (e:Scalar P T):Ok P a (.load T x) ty w (.string s):=fun _ _ _ _=>by
 have h1:w.heap[b]? = some (.cells arr 9 (0,0)):=N.own _ (yN f)
 have d:w.cell? ⟨b,off+j,none⟩=some (.string s):=by simp [World.cell?,h1];exact hq.cells j s O
 rw [q1a,Nat.mul_one] at c
 simp only [execOp,J.ev c]
 simp [Instr.loadAt,Instr.sureAddr,loadVar,Sem.run_bind,e w,Result.andThen,load,Sem.run,d]
end
def mB (sep:Bs):List Bs->Bs
 | []=>⟨#[]⟩
 | x::xs=>xs.foldl (fun a s=>a++sep++s) x
def pS (l:List Bs):Nat:=(l.map ByteArray.size).sum
theorem nS (x:Bs) (l:List Bs):pS (x::l)=x.size+pS l:=by simp [pS]
theorem cE {l:List Bs} {i:Nat} {x:Bs} (h:l[i]? = some x):pS (l.drop i)=x.size+pS (l.drop (i+1)):=by rw [zA h,nS]
theorem cG (l:List Bs) (i:Nat):pS (l.take i)+pS (l.drop i)=pS l:=by
 simp only [pS]
 rw [<- List.sum_append_nat,<- List.map_append,List.take_append_drop]
theorem y9p {l:List Bs} {i:Nat} {x:Bs} (h:l[i]? = some x):pS (l.take (i+1))=pS (l.take i)+x.size:=by rw [xD h];simp [pS]
theorem quo_big {m s:Nat} (N:1<=m) (O:1<=s) (h:s * m<=140737488355328):¬IntKind.i64.wrap ((9223372036854775807:Int).tdiv ((m:Nat):Int))<=((s:Nat):Int):=by
 obtain ⟨q,hq⟩:∃q:Nat,q=9223372036854775807 / m:=⟨_,rfl⟩
 have h1:(9223372036854775807:Int).tdiv ((m:Nat):Int)=(q:Int):=by rw [hq];rfl
 have d:q<=9223372036854775807:=by rw [hq];exact Nat.div_le_self _ _
 rw [h1,yC (by omega)]
 have a:=Nat.div_add_mod 9223372036854775807 m
 have e:=Nat.mod_lt 9223372036854775807 (show 0 < m by omega)
 rw [<- hq] at a
 have f:m<=s * m:=Nat.le_mul_of_pos_left _ (by omega)
 intro g
 have b:q<=s:=by omega
 have c:m * q<=m * s:=Nat.mul_le_mul_left _ b
 rw [Nat.mul_comm m s] at c
 omega
theorem zJ (a b:Bs):(a++b).size=a.size+b.size:=ByteArray.size_append
theorem z7e (x:Bs):(⟨#[]⟩:Bs)++x=x:=by
 apply ByteArray.ext;simp [ByteArray.data_append]
theorem y9i {l:List Bs} {x sep:Bs} (h:l[0]? = some x) (hb:pS l+sep.size * l.length<=70368744177664) :
  mB sep l=((l.drop 1).drop 0).foldl (fun a s=>a++sep++s) (⟨#[]⟩++x)/\((⟨#[]⟩:Bs)++x).size+pS ((l.drop 1).drop 0)+sep.size * ((l.drop 1).length - 0)<=70368744177664:=by
 cases l with
 | nil=>simp at h
 | cons a r=>
  simp only [List.getElem?_cons_zero,Option.some.injEq] at h
  subst h
  rw [z7e]
  refine ⟨rfl,?_⟩
  rw [nS] at hb
  simp only [lcQ,Nat.mul_add,List.drop_succ_cons,List.drop_zero,Nat.sub_zero] at hb ⊢
  omega
theorem y9j {l:List Bs} {i:Nat} {acc sep x:Bs} (b:(l.drop 1)[i]? = some x) (h:mB sep l=((l.drop 1).drop i).foldl (fun a s=>a++sep++s) acc) (hb:acc.size+pS ((l.drop 1).drop i)+sep.size * ((l.drop 1).length - i)<=70368744177664) :
  mB sep l=((l.drop 1).drop (i+1)).foldl (fun a s=>a++sep++s) ((acc++sep)++x)/\((acc++sep)++x).size+pS ((l.drop 1).drop (i+1))+sep.size * ((l.drop 1).length - (i+1))<=70368744177664:=by
 refine ⟨by rw [h,zA b];rfl,?_⟩
 have c:=(List.getElem?_eq_some_iff.1 b).1
 rw [cE b,show (l.drop 1).length - i=((l.drop 1).length - (i+1))+1 by omega,Nat.mul_add,Nat.mul_one] at hb
 rw [zJ,zJ];omega
end Go.Sw

namespace Go.Sw
def Cap (v:Value):Prop:=∀p n c,v=.slice p n c->n<=c
theorem Cap.nil:Cap (.slice none 0 0):=fun p n c h=>by injection h;omega
theorem Cap.own {V:Fz} {K:List Res} {w:World} {v:Value} {T:TypeId} {k i:Nat} {cs:List Value} (N:Mem V K w) (a:qJ K i=some (.gs v T k cs)):Cap v:=by
 obtain ⟨n,_,h⟩:=N.own _ (yN a)
 rcases h with ⟨rfl,_⟩ | ⟨g,cap,cur,rfl,_,_,e,_⟩
 ·exact Cap.nil
 ·intro p m c h
  injection h with h1 b d
  omega
theorem q7f {V:Fz} {l:List Bs} {q:Option Addr} {c i:Nat} (h:SliceOf RStr V 1 (.slice q l.length c) l) (s:i < l.length):SliceOf RStr V 1 (.slice q i i) (l.take i):=by
 rw [SliceOf.strs] at h ⊢
 rcases h with ⟨h,b⟩ | ⟨p,m,c',e,b,g,k⟩
 ·injection h with h1 b g;omega
 ·injection e with f e2 r
  subst f;subst e2
  rw [yF] at b
  refine .inr ⟨p,i,i,rfl,by simp [yF];omega,by omega,fun n=>?_⟩
  have hl:strs l≠[]:=fun e=>by have:=congrArg List.length e;rw [yF] at this;simp only [lnQ] at this;omega
  have d:=(k hl).sub (o:=0) (ds:=strs (l.take i)) (fun j v a=>by
   rw [Nat.zero_add]
   simp only [strs,List.map_take,List.getElem?_take] at a ⊢
   split at a
   ·exact a
   ·cases a)
  rw [show p.add 0=p from rfl] at d
  exact d
theorem q3i {n:Nat} {E:List (Nat×Value)} {D:List Deferred} {a:Act} {x d mx:Operand} {t e ty:TypeId} {q:Option Addr} {m c i:Nat} {w:World} {P:Program} (J:EnvR n E D a) (h:ev E x=some (.slice q m c)) (f:ev E d=some (.int .i64 ((i:Nat):Int)))
  (b:ev E mx=some (.int .i64 ((i:Nat):Int))) (g:Under P t (.slice e)) (O:SizeT P e 1) (h1:i<=c):Ok P a (.slice t x none (some d) (some mx)) ty w (.slice q i i):=fun _ _ _ _=>by
 simp only [execOp,J.ev h,Option.map_some,Option.map_none,J.ev f,J.ev b,Instr.sliceAt]
 simp [Sem.run_bind,g w,O w,Instr.slice,Instr.sliceBounds,Instr.sliceBound,asIntOf,Result.andThen,Addr.add,h1]
end Go.Sw

namespace Go.Proofs.YtgkhcfjooiekkaaGreatDoor
open Go.ChangeShapes Go.WideShapes Go.ChangeAt Go.RowKit Go.Sw
set_option maxRecDepth 100000
section
variable {H:Type} {enc:TypeId×Value->H}
theorem j7g {W:World} {base:Nat} {v:Value} {d:DataW H} {p:List MemPlace} (b:Value.okWide Tryz.prog W .any base 72 v) (h:DataW.Trod enc Tryz.prog W 0 (fun _=>true) true 72 v d p) :
  ∃cs x,v=.agg (List.toArray cs)/\RParam (Fz.whole W) cs x:=by
 obtain ⟨cs,rfl⟩:=agg_of Tryz.underlying72 b
 obtain ⟨fuel,a⟩:=h
 obtain ⟨x,c⟩:=y3x (enc:=enc) (W:=W) (n:=fuel) (cs:=cs) a
 exact ⟨cs,x,rfl,c⟩
theorem j7y {W:World} {t e:TypeId} {fuel:Nat} {v:Value} {x:DataW H×List MemPlace} (d:Tryz.prog.underlying t=some (.slice e)) (h:trd enc W fuel t [v]=some x):Cap v:=by
 rcases DataW.trod_slice d h with ⟨h1,_⟩ | ⟨a,len,cap,elems,rest,m,_,h1,_,_,b,_⟩
 ·simp only [List.cons.injEq,and_true] at h1;subst h1;exact Cap.nil
 ·simp only [List.cons.injEq,and_true] at h1;subst h1
  intro p n c e
  injection e with f e2 g
  omega
theorem j9w {W:World} {cs:List Value} {d:DataW H} {p:List MemPlace} (h:DataW.Trod enc Tryz.prog W 0 (fun _=>true) true 27 (.agg (List.toArray cs)) d p):∀v,cs[3]? = some v->Cap v:=by
 obtain ⟨fuel,a⟩:=h
 obtain ⟨m,rfl,hl,a⟩:=mX (enc:=enc) (W:=W) (cs:=cs) Tryz.underlying27 a
 rw [c27] at hl
 obtain ⟨a0,r,rfl,b⟩:=qP hl
 obtain ⟨j,r,rfl,c⟩:=qP b
 obtain ⟨a2,r,rfl,e⟩:=qP c
 obtain ⟨a3,r,rfl,g⟩:=qP e
 obtain ⟨_,f⟩:=a 3 25 3 rfl
 simp only [c25,List.drop_succ_cons,List.drop_zero,List.take_succ_cons,List.take_zero] at f
 intro v i
 obtain rfl:a3=v:=by simpa using i
 exact j7y Tryz.underlying25 f
end
end Go.Proofs.YtgkhcfjooiekkaaGreatDoor

namespace Go.Sw
section
variable {ws:List Bs} {i:Nat}
theorem y4h {α β:Type} {r:Rd α} {f:α->Nat->Rd β} {y:β×Nat} (h:yS r f=.ok y):∃x j,r=.ok (x,j)/\f x j=.ok y:=by
 unfold yS at h
 split at h
 ·exact ⟨_,_,rfl,h⟩
 ·cases h
theorem zB {α β:Type} {r:Rd α} {f:α->Nat->Rd β} {x:α×Nat} (h:r=.ok x):yS r f=f x.1 x.2:=by subst h;rfl
theorem zO {α β:Type} {r:Rd α} {f:α->Nat->Rd β} {n:Nat} (h:r=.error n):yS r f=.error n:=by subst h;rfl
theorem pQ (h:¬zC ws i=⟨#[]⟩):i < ws.length:=by
 refine Classical.byContradiction fun a=>h ?_
 unfold zC
 rw [List.getD_eq_getElem?_getD,List.getElem?_eq_none (by omega)];rfl
theorem jM {x:Bs} (h:ws[i]? = some x):zC ws i=x:=by unfold zC;rw [List.getD_eq_getElem?_getD,h];rfl
theorem x3i (h:¬i < ws.length):zC ws i=⟨#[]⟩:=by unfold zC;rw [List.getD_eq_getElem?_getD,List.getElem?_eq_none (by omega)];rfl
theorem y5b {p:Bs->Bool} (h:¬zC ws i=⟨#[]⟩) (b:p (zC ws i)=true):nA ws p i=.ok (zC ws i,i+1):=by
 unfold nA;rw [if_neg];rintro (a | a);exact h a;rw [b] at a;cases a
theorem x4l {p:Bs->Bool} (h:zC ws i=⟨#[]⟩):nA ws p i=.error (i+1):=by unfold nA;rw [if_pos (.inl h)]
theorem j8f {p:Bs->Bool} (h:p (zC ws i)=false):nA ws p i=.error (i+1):=by unfold nA;rw [if_pos (.inr h)]
theorem z7x {p:Bs->Bool} {x:Bs×Nat} (h:nA ws p i=.ok x):x.2=i+1/\i < ws.length/\p x.1=true:=by
 unfold nA at h
 split at h
 ·cases h
 ·rename_i a
  simp only [Except.ok.injEq] at h
  subst h
  exact ⟨rfl,pQ fun e=>a (.inl e),by cases b:p (zC ws i) with | true=>rfl | false=>exact absurd (.inr b) a⟩
theorem x2y {w:Bs} {x:Bs×Nat} (h:nA ws (fun s=>decide (s=w)) i=.ok x):wL ws w i=.ok ((),x.2):=by unfold wL;rw [zB h]
theorem j7c {w:Bs} {n:Nat} (h:nA ws (fun s=>decide (s=w)) i=.error n):wL ws w i=.error n:=by unfold wL;rw [zO h]
theorem y9z {w:Bs} {x:Unit×Nat} (h:wL ws w i=.ok x):x.2=i+1/\i < ws.length:=by
 obtain ⟨y,j,h1,a⟩:=y4h h
 have:=z7x h1
 simp only [Except.ok.injEq] at a
 subst a;exact ⟨this.1,this.2.1⟩
def Goes (ws:List Bs) {α:Type} (f:Nat->Rd α):Prop:=∀i x,f i=.ok x->i < x.2/\x.2<=ws.length
def Stays (ws:List Bs) {α:Type} (f:Nat->Rd α):Prop:=∀i x,i<=ws.length->f i=.ok x->i<=x.2/\x.2<=ws.length
theorem Goes.stays {α:Type} {f:Nat->Rd α} (h:Goes ws f):Stays ws f:=fun i x _ a=>⟨Nat.le_of_lt (h i x a).1,(h i x a).2⟩
theorem xT (p:Bs->Bool):Goes ws (nA ws p):=fun i x h=>by have:=z7x h;omega
theorem pE (w:Bs):Goes ws (wL ws w):=fun i x h=>by have:=y9z h;omega
theorem Goes.bind {α β:Type} {f:Nat->Rd α} {g:α->Nat->Rd β} (c:Goes ws f) (d:∀x,Stays ws (g x)):Goes ws (fun i=>yS (f i) g):=fun i y h=>by
 obtain ⟨x,j,h1,b⟩:=y4h h
 have a:=c i _ h1
 have e:=d x j y a.2 b
 simp only at a;omega
theorem Stays.bind {α β:Type} {f:Nat->Rd α} {g:α->Nat->Rd β} (c:Stays ws f) (d:∀x,Stays ws (g x)):Stays ws (fun i=>yS (f i) g):=fun i y e h=>by
 obtain ⟨x,j,h1,b⟩:=y4h h
 have a:=c i _ e h1
 have k:=d x j y a.2 b
 simp only at a;omega
theorem Stays.ok {α:Type} (x:α):Stays ws (fun i=>.ok (x,i)):=fun i y a h=>by simp only [Except.ok.injEq] at h;subst h;exact ⟨Nat.le_refl _,a⟩
theorem Stays.from {α:Type} {f:Nat->Rd α} (h:Stays ws f) {j:Nat} {y:α×Nat} (b:i < j) (hl:j<=ws.length) (a:f j=.ok y):i < y.2/\y.2<=ws.length:=by
 have:=h j y hl a;omega
theorem tY {ex:Nat->Rd Ex} (J:Goes ws ex):∀f least,Stays ws (wE ws ex f least)
 | 0,_=>fun i x _ h=>by cases h
 | f+1,least=>fun i x a h=>by
  simp only [wE] at h
  split at h
  ·exact (J.bind fun e=>(tY J f (least - 1)).bind fun l=>Stays.ok _).stays i x a h
  ·exact Stays.ok _ i x a h
theorem y5i {ex:Nat->Rd Ex} (J:Goes ws ex):Goes ws (z6c ex):=J.bind fun _=>(J.bind fun _=>Stays.ok _).stays
theorem y5n:∀f,Stays ws (gC ws f)
 | 0=>fun i x _ h=>by cases h
 | f+1=>fun i x a h=>by
  simp only [gC] at h
  split at h
  ·exact ((xT qE).bind fun e=>(y5n f).bind fun l=>Stays.ok _).stays i x a h
  ·exact Stays.ok _ i x a h
theorem j9f {ex:Nat->Rd Ex} (J:Goes ws ex):Goes ws (armP ws ex) :=
 (pE _).bind fun _=>(xT qC).stays.bind fun _=>(y5n _).bind fun _=>(pE _).stays.bind fun _=>J.stays.bind fun _=>(pE _).stays.bind fun _=>Stays.ok _
theorem y0i {ex:Nat->Rd Ex} (J:Goes ws ex):∀f b,Stays ws (gY ws ex f b)
 | 0,_=>fun i x _ h=>by cases h
 | f+1,b=>fun i x a h=>by
  simp only [gY] at h
  split at h
  ·exact ((j9f J).bind fun e=>(y0i J f false).bind fun l=>Stays.ok _).stays i x a h
  ·exact Stays.ok _ i x a h
theorem y8u {ex:Nat->Rd Ex} (J:Goes ws ex):Goes ws (yV ws ex):=fun i x h=>by
 have lt:∀{s:Bs},s≠⟨#[]⟩->zC ws i=s->i+1<=ws.length:=fun O e=>pQ (by rw [e];exact O)
 unfold yV at h
 split at h
 ·rename_i a
  have:i+1<=ws.length:=pQ fun e=>by rw [e] at a;exact absurd a (by decide)
  exact Stays.from (i:=i) ((y5i J).stays.bind fun _=>Stays.ok _) (Nat.lt_succ_self _) this h
 split at h
 ·rename_i e
  exact Stays.from (i:=i) ((xT qE).stays.bind fun _=>(y5i J).stays.bind fun _=>Stays.ok _) (Nat.lt_succ_self _) (lt (by decide) e) h
 split at h
 ·rename_i e
  exact Stays.from (i:=i) (J.stays.bind fun _=>(y0i J _ _).bind fun _=>Stays.ok _) (Nat.lt_succ_self _) (lt (by decide) e) h
 split at h
 ·rename_i b
  have:i+1<=ws.length:=pQ fun e=>by rw [e] at b;exact absurd b (by decide)
  exact Stays.from (i:=i) ((tY J _ _).bind fun _=>Stays.ok _) (Nat.lt_succ_self _) this h
 ·exact ((xT qE).bind fun _=>(tY J _ _).bind fun _=>Stays.ok _) i x h
theorem vL:∀d,Goes ws (zT ws d)
 | 0=>fun i x h=>by cases h
 | d+1=>fun i x h=>by
  simp only [zT] at h
  split at h
  ·cases h
  rename_i a
  have hl:i+1<=ws.length:=pQ a
  split at h
  ·simp only [Except.ok.injEq] at h;subst h;exact ⟨Nat.lt_succ_self _,hl⟩
  split at h
  ·exact Stays.from (i:=i) ((y8u (vL d)).stays.bind fun _=>(pE _).stays.bind fun _=>Stays.ok _) (Nat.lt_succ_self _) hl h
  split at h
  ·simp only [Except.ok.injEq] at h;subst h;exact ⟨Nat.lt_succ_self _,hl⟩
  split at h
  ·simp only [Except.ok.injEq] at h;subst h;exact ⟨Nat.lt_succ_self _,hl⟩
  ·exact ((xT qE).bind fun _=>Stays.ok _) i x h
theorem z4w:∀f,Stays ws (kC ws f)
 | 0=>fun i x _ h=>by cases h
 | f+1=>fun i x a h=>by
  simp only [kC] at h
  split at h
  ·exact ((xT qC).bind fun e=>(z4w f).bind fun l=>Stays.ok _).stays i x a h
  ·exact Stays.ok _ i x a h
theorem z5n:∀f,Stays ws (kW ws f)
 | 0=>fun i x _ h=>by cases h
 | f+1=>fun i x a h=>by
  simp only [kW] at h
  split at h
  ·rename_i e
   have hl:i+1<=ws.length:=pQ (by rw [e];decide)
   have:=Stays.from (i:=i) (((xT qE).bind fun n=>((pE j1o).bind fun _=>((xT qC).bind fun t=>Stays.ok (⟨n,t⟩:Param)).stays).stays).stays.bind fun _=>(pE sCls).stays.bind fun _=>(z5n f).bind fun _=>Stays.ok _) (Nat.lt_succ_self _) hl h
   omega
  ·exact Stays.ok _ i x a h
theorem j0p:Goes ws (wR ws):=(xT qE).bind fun _=>(pE _).stays.bind fun _=>(xT qC).stays.bind fun _=>Stays.ok _
theorem y8c:∀f,Goes ws (hH ws f)
 | 0=>fun i x h=>by cases h
 | f+1=>by
  refine (xT qC).bind fun n=>(z4w _).bind fun l=>?_
  intro i x b h
  simp only at h
  split at h
  ·exact Stays.ok _ i x b h
  ·rename_i e
   have e':zC ws i=sBar:=Classical.byContradiction fun a=>e a
   have hl:i+1<=ws.length:=pQ (by rw [e'];decide)
   have:=Stays.from (i:=i) ((y8c f).stays.bind fun _=>Stays.ok _) (Nat.lt_succ_self _) hl h
   omega
theorem j5k:Goes ws (dD ws):=(xT qC).bind fun _=>(pE _).stays.bind fun _=>(y8c _).stays.bind fun _=>Stays.ok _
theorem x1m:Goes ws (oC ws):=(xT qE).bind fun _=>(z5n _).bind fun _=>(pE _).stays.bind fun _=>(xT qC).stays.bind fun _=>(pE _).stays.bind fun _=>(vL _).stays.bind fun _=>Stays.ok _
end
end Go.Sw

namespace Go.Sw
open Go.Proofs
def nO (n:Nat):List PanicEntry:=[{ v:=.iface 204 (.agg #[.int .i64 ((n:Nat):Int)]),recovered:=false }]
section
variable {P:Program} {n:Nat} {E:List (Nat×Value)} {D:List Deferred} {a:Act} {V Ψ:Fz} {K:List Res} {w:World}
variable {Kn:Value->World->Prop} {Qp:List PanicEntry->World->Prop} {dst:Option Tmp} {ty:TypeId} {pos:String} {aft:Array Edge} {g:Option (Nat×Bool)}
theorem gU {f:FuncId} {xs:Array Operand} {ts:Array TypeId} {vs:List Value} {c:List PanicEntry} {b:Fz} {KE:List Res}
  (J:EnvR n E D a) (j:evs E xs.toList=some vs) (i:∀args w,(callFunc f args).run P w=.ok (.enter f args) w)
  (d:Calls P f vs.toArray w (fun e w'=>e=.panicked c/\Mem b KE w')) (kp:∀w',Mem b KE w'->Qp c w') :
  Oper.eff P ⟨dst,.call { callee:=.value (.func f),args:=xs,argTypes:=ts },ty,pos,aft,g⟩ a w Kn Qp :=
 aE J j i d (fun v w' h=>by cases h.1) (fun c w' h=>by cases h.1;exact kp _ h.2) (fun w' h=>by cases h.1)
end
theorem j6j {s:Bs} {v:Int} (h:uU s=.ok v) (a:z0x v=s):tU s=some v:=by simp [tU,h,a]
theorem intP_ne {s:Bs} {v:Int} (h:uU s=.ok v) (a:¬z0x v=s):tU s=none:=by simp [tU,h,a]
theorem x2f {s:Bs} {u:Unit} (h:uU s=.error u):tU s=none:=by simp [tU,h]
theorem x2g {s:Bs} {v:Int} (h:tU s=some v):I64 v:=by
 unfold tU at h
 split at h
 ·rename_i v' a
  split at h
  ·simp only [Option.some.injEq] at h;subst h;exact y0j a
  ·cases h
 ·cases h
theorem jP {ws:List Bs} {i:Nat} {p:Bs->Bool} {x:Bs×Nat} (h:nA ws p i=.ok x):x.2=i+1/\x.2<=ws.length:=by have:=z7x h;omega
theorem pB {ws:List Bs} {i:Nat} {w:Bs} {x:Unit×Nat} (h:wL ws w i=.ok x):x.2=i+1/\x.2<=ws.length:=by have:=y9z h;omega
end Go.Sw

namespace Go.Sw
open Go.Proofs
def tN (ws:List Bs) (d:Nat):Prop:=∀{V:Fz} {K:List Res} {w:World} {r i:Nat} {rs:Value},Glob V->SliceOf RStr V 1 rs ws->i<=ws.length ->
  Mem V (.blk r (ob [rs,.int .i64 ((i:Nat):Int)] 208)::K) w ->
  Calls Tryz.prog 180 #[.pointer (some ⟨r,0,none⟩),.int .i64 ((d:Nat):Int)] w (fun ee w'=>Out (zT ws d i)
   (fun x=>∃y:Fz×List Value,ee=.returned (.agg y.2.toArray)/\(V.Le y.1/\REx y.1 y.2 x.1)/\Mem y.1 (.blk r (ob [rs,.int .i64 ((x.2:Nat):Int)] 208)::K) w')
   (fun c=>ee=.panicked (nO c)/\Mem V K w'))
theorem y9d:I64 0:=⟨by decide,by decide⟩
theorem REx.leaf {V:Fz} {k n:Int} {s:Bs} (h:I64 n):REx V [.int .i64 k,.int .i64 n,.string s,.slice none 0 0,.slice none 0 0] (.mk k n s [] []) :=
 REx.iff.2 ⟨_,_,rfl,h,SliceOf.nil 5,SliceOf.nil 7⟩
theorem REx.node {V:Fz} {k:Int} {s:Bs} {v:Value} {l:List Ex} (h:SliceOf REx V 5 v l):REx V [.int .i64 k,.int .i64 0,.string s,v,.slice none 0 0] (.mk k 0 s l []) :=
 REx.iff.2 ⟨_,_,rfl,y9d,h,SliceOf.nil 7⟩
theorem REx.full {V:Fz} {k:Int} {s:Bs} {v u:Value} {l:List Ex} {m:List Arm} (h:SliceOf REx V 5 v l) (a:SliceOf RArm V 7 u m):REx V [.int .i64 k,.int .i64 0,.string s,v,u] (.mk k 0 s l m) :=
 REx.iff.2 ⟨_,_,rfl,y9d,h,a⟩
theorem Chunks.one {α:Type} {R:List Value->α->Prop} {k:Nat} {a:List Value} {x:α} (la:a.length=k) (b:R a x):Chunks R k a [x]:=⟨a,[],by simp,la,b,rfl⟩
theorem Chunks.two {α:Type} {R:List Value->α->Prop} {k:Nat} {a b:List Value} {x y:α} (la:a.length=k) (c:R a x) (lb:b.length=k) (hb:R b y):Chunks R k (a++b) [x,y]:=⟨a,b,rfl,la,c,Chunks.one lb hb⟩
section
variable {P:Program} {n:Nat} {E:List (Nat×Value)} {D:List Deferred} {a:Act} {V:Fz} {K:List Res} {w:World} {ty:TypeId}
theorem y5x (i m:Nat) {x:Operand} {t e T:TypeId} {k:Nat} {v:Value} {cs:List Value} (J:EnvR n E D a) (O:Sees V K w) (g:ev E x=some v) (d:qJ K i=some (.gs v T k cs)) (hl:cs.length=m * k) (b:0 < k) (f:Under P t (.slice e)) :
  Ok P a (.call { callee:=.builtin .len,args:=#[x],argTypes:=#[t] }) ty w (.int .i64 ((m:Nat):Int)):=by
 obtain ⟨p,m',c,rfl,h1,_⟩:=O.gsForm d
 have:m'=m:=Nat.eq_of_mul_eq_mul_right b (h1.symm.trans hl)
 subst this
 exact z9n J g f
end
section
variable {ws:List Bs} {i d:Nat}
theorem y8s:zT ws 0 i=.error (i+1):=rfl
theorem expr_no (h:zC ws i=⟨#[]⟩):zT ws (d+1) i=.error (i+1):=by rw [zT,if_pos (show zC ws i=sNo from h)]
theorem x0g {n:Int} (h:¬zC ws i=⟨#[]⟩) (a:tU (zC ws i)=some n):zT ws (d+1) i=.ok (.mk 1 n sNo [] [],i+1):=by
 rw [zT,if_neg (show ¬zC ws i=sNo from h),a]
theorem expr_fe {c:Nat} (h:¬zC ws i=⟨#[]⟩) (b:tU (zC ws i)=none) (e:zC ws i=⟨#[40]⟩) (a:yV ws (zT ws d) (i+1)=.error c):zT ws (d+1) i=.error c:=by
 rw [zT,if_neg (show ¬zC ws i=sNo from h),b];show (if zC ws i=gP then _ else _)=_;rw [if_pos (show zC ws i=gP from e),zO a]
theorem expr_fc {c:Nat} {x:Ex×Nat} (h:¬zC ws i=⟨#[]⟩) (e:tU (zC ws i)=none) (f:zC ws i=⟨#[40]⟩) (b:yV ws (zT ws d) (i+1)=.ok x) (a:wL ws ⟨#[41]⟩ x.2=.error c):zT ws (d+1) i=.error c:=by
 rw [zT,if_neg (show ¬zC ws i=sNo from h),e];show (if zC ws i=gP then _ else _)=_;rw [if_pos (show zC ws i=gP from f),zB b];exact zO a
theorem j6a {x:Ex×Nat} {y:Unit×Nat} (h:¬zC ws i=⟨#[]⟩) (c:tU (zC ws i)=none) (e:zC ws i=⟨#[40]⟩) (b:yV ws (zT ws d) (i+1)=.ok x) (a:wL ws ⟨#[41]⟩ x.2=.ok y):zT ws (d+1) i=.ok (x.1,y.2):=by
 rw [zT,if_neg (show ¬zC ws i=sNo from h),c];show (if zC ws i=gP then _ else _)=_;rw [if_pos (show zC ws i=gP from e),zB b];exact zB a
theorem x0f {x:Bs×Nat} (h:¬zC ws i=⟨#[]⟩) (b:tU (zC ws i)=none) (c:¬zC ws i=⟨#[40]⟩) (a:qC (zC ws i)=true) (e:uH ws i=.ok x):zT ws (d+1) i=.ok (.mk 4 0 x.1 [] [],x.2):=by
 have hx':=(y5b h a).symm.trans e
 simp only [Except.ok.injEq] at hx';subst hx'
 rw [zT,if_neg (show ¬zC ws i=sNo from h),b];show (if zC ws i=gP then _ else _)=_;rw [if_neg (show ¬zC ws i=gP from c),if_pos a]
theorem j5z {c:Nat} {Q:Prop} (h:¬zC ws i=⟨#[]⟩) (a:qC (zC ws i)=true) (b:uH ws i=.error c):Q:=by cases (y5b h a).symm.trans b
theorem q9g (h:¬zC ws i=⟨#[]⟩) (c:tU (zC ws i)=none) (e:¬zC ws i=⟨#[40]⟩) (a:qC (zC ws i)=false) (hb:zG (zC ws i) 0=33) (b:qE ((zC ws i).extract 1 (zC ws i).size)=true) :
  zT ws (d+1) i=.ok (.mk 3 0 ((zC ws i).extract 1 (zC ws i).size) [] [],i+1):=by
 rw [zT,if_neg (show ¬zC ws i=sNo from h),c];show (if zC ws i=gP then _ else _)=_;rw [if_neg (show ¬zC ws i=gP from e),if_neg (by rw [a];decide),if_pos ⟨hb,b⟩]
theorem z2j (h:¬zC ws i=⟨#[]⟩) (b:tU (zC ws i)=none) (c:¬zC ws i=⟨#[40]⟩) (a:qC (zC ws i)=false) (hb:¬(zG (zC ws i) 0=33/\qE ((zC ws i).extract 1 (zC ws i).size)=true)) :
  zT ws (d+1) i=yS (aL ws i) fun x j=>.ok (.mk 2 0 x [] [],j):=by
 rw [zT,if_neg (show ¬zC ws i=sNo from h),b];show (if zC ws i=gP then _ else _)=_;rw [if_neg (show ¬zC ws i=gP from c),if_neg (by rw [a];decide),if_neg hb]
theorem x4g {s:Bs} (h:¬s=⟨#[]⟩):0 < s.size:=by
 refine Nat.pos_of_ne_zero fun e=>h ?_
 apply ByteArray.ext
 exact Array.eq_empty_of_size_eq_zero e
variable {ex:Nat->Rd Ex} {f least:Nat}
theorem x2o (h:¬0 < least) (b:zC ws i=⟨#[41]⟩):wE ws ex (f+1) least i=.ok ([],i):=by
 rw [wE,if_neg];rintro (a | a);exact h a;exact a b
theorem j3o (h:0 < least∨¬zC ws i=⟨#[41]⟩):wE ws ex (f+1) least i=yS (ex i) fun e i=>yS (wE ws ex f (least - 1) i) fun l i=>.ok (e::l,i):=by
 rw [wE,if_pos];exact h.imp_right fun h=>h
end
def kR {α:Type} (xs:List α) (r:Rd (List α)):Rd (List α):=yS r fun l k=>.ok (xs++l,k)
theorem oL {α:Type} (r:Rd (List α)):r=kR [] r:=by
 unfold kR;cases r with
 | ok x=>rfl
 | error c=>rfl
theorem pre1_ok {α:Type} (xs:List α) (l:List α) (k:Nat):kR xs (.ok (l,k))=.ok (xs++l,k):=rfl
theorem gV {α:Type} (xs:List α) (x:α) (r:Rd (List α)):kR xs (yS r fun l k=>.ok (x::l,k))=kR (xs++[x]) r:=by
 unfold kR;cases r with
 | ok y=>simp [yS]
 | error c=>rfl
section
variable {ws:List Bs} {ex:Nat->Rd Ex} {f m j:Nat} {r:Rd (List Ex)} {xs:List Ex}
theorem x2p (b:r=kR xs (wE ws ex f (m - xs.length) j)) (c:0 < f) (h:¬xs.length < m) (a:zC ws j=⟨#[41]⟩):r=.ok (xs,j):=by
 obtain ⟨f,rfl⟩:∃k,f=k+1:=⟨f - 1,by omega⟩
 rw [b,x2o (by omega) a,pre1_ok,List.append_nil]
theorem y9q {c:Nat} (a:r=kR xs (wE ws ex f (m - xs.length) j)) (b:0 < f) (h:xs.length < m∨¬zC ws j=⟨#[41]⟩) (J:ex j=.error c):r=.error c:=by
 obtain ⟨f,rfl⟩:∃k,f=k+1:=⟨f - 1,by omega⟩
 rw [a,j3o (h.imp_left fun h=>by omega),zO J];rfl
theorem y9r {x:Ex×Nat} (a:r=kR xs (wE ws ex f (m - xs.length) j)) (b:0 < f) (h:xs.length < m∨¬zC ws j=⟨#[41]⟩) (J:ex j=.ok x) :
  r=kR (xs++[x.1]) (wE ws ex (f - 1) (m - (xs++[x.1]).length) x.2):=by
 obtain ⟨f,rfl⟩:∃k,f=k+1:=⟨f - 1,by omega⟩
 rw [a,j3o (h.imp_left fun h=>by omega),zB J,gV,Nat.add_sub_cancel,laQ,Nat.sub_sub];rfl
end
section
variable {ws:List Bs} {ex:Nat->Rd Ex} {f j:Nat} {r:Rd (List Arm)} {xs:List Arm}
theorem j9g (c:r=kR xs (gY ws ex f (decide (xs.length=0)) j)) (d:0 < f) (h:¬xs.length=0) (b:¬zC ws j=⟨#[40]⟩):r=.ok (xs,j):=by
 obtain ⟨f,rfl⟩:∃k,f=k+1:=⟨f - 1,by omega⟩
 rw [c,gY,if_neg (by rintro (a | a);exact h (of_decide_eq_true a);exact b a)];simp [kR,yS]
theorem vX {c:Nat} (a:r=kR xs (gY ws ex f (decide (xs.length=0)) j)) (b:0 < f) (h:xs.length=0∨zC ws j=⟨#[40]⟩) (J:armP ws ex j=.error c):r=.error c:=by
 obtain ⟨f,rfl⟩:∃k,f=k+1:=⟨f - 1,by omega⟩
 rw [a,gY,if_pos (show decide (xs.length=0)=true∨zC ws j=gP from h.imp_left fun h=>decide_eq_true h),zO J];rfl
theorem y7p {x:Arm×Nat} (a:r=kR xs (gY ws ex f (decide (xs.length=0)) j)) (b:0 < f) (h:xs.length=0∨zC ws j=⟨#[40]⟩) (J:armP ws ex j=.ok x):r=kR (xs++[x.1]) (gY ws ex (f - 1) (decide ((xs++[x.1]).length=0)) x.2):=by
 obtain ⟨f,rfl⟩:∃k,f=k+1:=⟨f - 1,by omega⟩
 rw [a,gY,if_pos (show decide (xs.length=0)=true∨zC ws j=gP from h.imp_left fun h=>decide_eq_true h),zB J,gV,Nat.add_sub_cancel];simp
end
section
variable {ws:List Bs} {f j:Nat} {r:Rd (List Bs)} {xs:List Bs}
theorem q7q (b:r=kR xs (gC ws f j)) (c:0 < f) (h:zC ws j=⟨#[45,62]⟩):r=.ok (xs,j):=by
 obtain ⟨f,rfl⟩:∃k,f=k+1:=⟨f - 1,by omega⟩
 rw [b,gC,if_neg (fun a=>a h)];simp [kR,yS]
theorem q0n {c:Nat} (a:r=kR xs (gC ws f j)) (b:0 < f) (h:¬zC ws j=⟨#[45,62]⟩) (J:aL ws j=.error c):r=.error c:=by
 obtain ⟨f,rfl⟩:∃k,f=k+1:=⟨f - 1,by omega⟩
 rw [a,gC,if_pos (show zC ws j≠y4q from h),zO J];rfl
theorem q0o {x:Bs×Nat} (a:r=kR xs (gC ws f j)) (b:0 < f) (h:¬zC ws j=⟨#[45,62]⟩) (J:aL ws j=.ok x):r=kR (xs++[x.1]) (gC ws (f - 1) x.2):=by
 obtain ⟨f,rfl⟩:∃k,f=k+1:=⟨f - 1,by omega⟩
 rw [a,gC,if_pos (show zC ws j≠y4q from h),zB J,gV,Nat.add_sub_cancel]
end
section
variable {ws:List Bs} {f j:Nat} {r:Rd (List Bs)} {xs:List Bs}
theorem q9h (a:r=kR xs (kC ws f j)) (b:0 < f) (h:qC (zC ws j)=false):r=.ok (xs,j):=by
 obtain ⟨f,rfl⟩:∃k,f=k+1:=⟨f - 1,by omega⟩
 rw [a,kC,if_neg (by rw [h];decide)];simp [kR,yS]
theorem q4r {c:Nat} (a:r=kR xs (kC ws f j)) (b:0 < f) (h:qC (zC ws j)=true) (J:uH ws j=.error c):r=.error c:=by
 obtain ⟨f,rfl⟩:∃k,f=k+1:=⟨f - 1,by omega⟩
 rw [a,kC,if_pos h,zO J];rfl
theorem q4s {x:Bs×Nat} (a:r=kR xs (kC ws f j)) (b:0 < f) (h:qC (zC ws j)=true) (J:uH ws j=.ok x):r=kR (xs++[x.1]) (kC ws (f - 1) x.2):=by
 obtain ⟨f,rfl⟩:∃k,f=k+1:=⟨f - 1,by omega⟩
 rw [a,kC,if_pos h,zB J,gV,Nat.add_sub_cancel]
end
section
variable {ws:List Bs} {ex:Nat->Rd Ex} {i:Nat}
theorem j3h (h:z0a (zC ws i)=true):yV ws ex i=yS (z6c ex (i+1)) fun l j=>.ok (.mk 8 0 (zC ws i) l [],j):=by rw [yV,if_pos h]
theorem y2n (h:z0a (zC ws i)=false) (a:zC ws i=⟨#[108,101,116]⟩):yV ws ex i=yS (aL ws (i+1)) fun x j=>yS (z6c ex j) fun l j=>.ok (.mk 6 0 x l [],j):=by
 rw [yV,if_neg (by rw [h];decide)];exact if_pos a
theorem xR (h:z0a (zC ws i)=false) (b:¬zC ws i=⟨#[108,101,116]⟩) (c:zC ws i=⟨#[99,97,115,101]⟩) :
  yV ws ex i=yS (ex (i+1)) fun a j=>yS (gY ws ex (ws.length+1) true j) fun l j=>.ok (.mk 7 0 sNo [a] l,j):=by
 rw [yV,if_neg (by rw [h];decide)];exact (if_neg b).trans (if_pos c)
theorem q4u (h:z0a (zC ws i)=false) (a:¬zC ws i=⟨#[108,101,116]⟩) (b:¬zC ws i=⟨#[99,97,115,101]⟩) (c:qC (zC ws i)=true) :
  yV ws ex i=yS (wE ws ex (ws.length+1) 1 (i+1)) fun l j=>.ok (.mk 4 0 (zC ws i) l [],j):=by
 rw [yV,if_neg (by rw [h];decide)];exact (if_neg a).trans ((if_neg b).trans (if_pos c))
theorem z7g (h:z0a (zC ws i)=false) (a:¬zC ws i=⟨#[108,101,116]⟩) (b:¬zC ws i=⟨#[99,97,115,101]⟩) (c:qC (zC ws i)=false) :
  yV ws ex i=yS (aL ws i) fun x j=>yS (wE ws ex (ws.length+1) 0 j) fun l j=>.ok (.mk 5 0 x l [],j):=by
 rw [yV,if_neg (by rw [h];decide)];exact (if_neg a).trans ((if_neg b).trans (if_neg (by rw [c];decide)))
theorem isOp_no {s:Bs} (h1:¬s=⟨#[43]⟩) (a:¬s=⟨#[45]⟩) (b:¬s=⟨#[42]⟩) (c:¬s=⟨#[47]⟩) (d:¬s=⟨#[37]⟩) (e:¬s=⟨#[60]⟩) (f:¬s=⟨#[61]⟩):z0a s=false:=by
 simp [z0a,h1,a,b,c,d,e,f]
theorem oG {s:Bs} (h:s=⟨#[43]⟩∨s=⟨#[45]⟩∨s=⟨#[42]⟩∨s=⟨#[47]⟩∨s=⟨#[37]⟩∨s=⟨#[60]⟩∨s=⟨#[61]⟩):z0a s=true:=by
 rcases h with h | h | h | h | h | h | h <;> subst h <;> rfl
end
theorem RArm.of {V:Fz} {c:Bs} {v:Value} {b:List Value} {vs:List Bs} {e:Ex} (h:SliceOf RStr V 1 v vs) (hb:REx V b e):RArm V (.string c::v::b) (.mk c vs e):=RArm.iff.2 ⟨_,_,rfl,h,hb⟩
theorem uF {ws:List Bs} {i:Nat} {s:Bs} (h:zC ws i=s) (O:s≠⟨#[]⟩):i < ws.length:=pQ fun e=>O (h.symm.trans e)
theorem isOp_lt {ws:List Bs} {i:Nat} (h:z0a (zC ws i)=true):i < ws.length:=pQ fun e=>by rw [e] at h;revert h;decide
theorem x2i {ws:List Bs} {i:Nat} (h:qC (zC ws i)=true):i < ws.length:=pQ fun e=>by rw [e] at h;revert h;decide
theorem two_le {ws:List Bs} {d i:Nat} {x:List Ex×Nat} (h:z6c (zT ws d) i=.ok x):i < x.2/\x.2<=ws.length:=y5i (vL d) i x h
theorem j3n {ws:List Bs} {d i f m:Nat} {x:List Ex×Nat} (a:i<=ws.length) (h:wE ws (zT ws d) f m i=.ok x):i<=x.2/\x.2<=ws.length:=tY (vL d) f m i x a h
theorem form_le {ws:List Bs} {d i:Nat} {x:Ex×Nat} (h:yV ws (zT ws d) i=.ok x):i < x.2/\x.2<=ws.length:=y8u (vL d) i x h
section
variable {ws:List Bs} {f j:Nat} {xs:List Con} {r:Rd (List Con)} {n:Bs×Nat} {l:List Bs} {k c:Nat}
theorem q8w (a:r=kR xs (hH ws f j)) (b:0 < f) (J:uH ws j=.error c):r=.error c:=by
 obtain ⟨f,rfl⟩:∃k,f=k+1:=⟨f - 1,by omega⟩
 rw [a,hH,zO J];rfl
theorem q8x (a:r=kR xs (hH ws f j)) (b:0 < f) (h1:uH ws j=.ok n) (J:kC ws (ws.length+1) n.2=.error c):r=.error c:=by
 obtain ⟨f,rfl⟩:∃k,f=k+1:=⟨f - 1,by omega⟩
 rw [a,hH,zB h1,zO J];rfl
theorem j9u (b:r=kR xs (hH ws f j)) (c:0 < f) (h1:uH ws j=.ok n) (a:kC ws (ws.length+1) n.2=.ok (l,k)) (hb:¬zC ws k=⟨#[124]⟩):r=.ok (xs++[⟨n.1,l⟩],k):=by
 obtain ⟨f,rfl⟩:∃k,f=k+1:=⟨f - 1,by omega⟩
 rw [b,hH,zB h1,zB a,if_pos (show zC ws k≠sBar from hb)];rfl
theorem j5g (b:r=kR xs (hH ws f j)) (c:0 < f) (h1:uH ws j=.ok n) (a:kC ws (ws.length+1) n.2=.ok (l,k)) (hb:zC ws k=⟨#[124]⟩):r=kR (xs++[⟨n.1,l⟩]) (hH ws (f - 1) (k+1)):=by
 obtain ⟨f,rfl⟩:∃k,f=k+1:=⟨f - 1,by omega⟩
 rw [b,hH,zB h1,zB a,if_neg (show ¬zC ws k≠sBar from fun h=>h hb),gV,Nat.add_sub_cancel]
end
section
variable {ws:List Bs} {f j:Nat} {xs:List Param} {r:Rd (List Param)} {p:Param×Nat} {y:Unit×Nat} {c:Nat}
theorem j0q (a:r=kR xs (kW ws f j)) (b:0 < f) (h:¬zC ws j=⟨#[40]⟩):r=.ok (xs,j):=by
 obtain ⟨f,rfl⟩:∃k,f=k+1:=⟨f - 1,by omega⟩
 rw [a,kW,if_neg (show ¬zC ws j=gP from h)];simp [kR,yS]
theorem q2m (a:r=kR xs (kW ws f j)) (b:0 < f) (h:zC ws j=⟨#[40]⟩) (J:wR ws (j+1)=.error c):r=.error c:=by
 obtain ⟨f,rfl⟩:∃k,f=k+1:=⟨f - 1,by omega⟩
 rw [a,kW,if_pos (show zC ws j=gP from h),zO J];rfl
theorem q2n (a:r=kR xs (kW ws f j)) (b:0 < f) (h:zC ws j=⟨#[40]⟩) (h1:wR ws (j+1)=.ok p) (J:wL ws ⟨#[41]⟩ p.2=.error c):r=.error c:=by
 obtain ⟨f,rfl⟩:∃k,f=k+1:=⟨f - 1,by omega⟩
 rw [a,kW,if_pos (show zC ws j=gP from h),zB h1,zO (show wL ws sCls p.2=_ from J)];rfl
theorem q6h (b:r=kR xs (kW ws f j)) (c:0 < f) (h:zC ws j=⟨#[40]⟩) (h1:wR ws (j+1)=.ok p) (a:wL ws ⟨#[41]⟩ p.2=.ok y):r=kR (xs++[p.1]) (kW ws (f - 1) y.2):=by
 obtain ⟨f,rfl⟩:∃k,f=k+1:=⟨f - 1,by omega⟩
 rw [b,kW,if_pos (show zC ws j=gP from h),zB h1,zB (show wL ws sCls p.2=_ from a),gV,Nat.add_sub_cancel]
end
theorem q6g {ws:List Bs} {i:Nat} {x:Param×Nat} (h:wR ws i=.ok x):i < x.2/\x.2<=ws.length:=j0p i x h
theorem data_le {ws:List Bs} {i:Nat} {x:Data×Nat} (h:dD ws i=.ok x):i < x.2/\x.2<=ws.length:=j5k i x h
theorem fun_le {ws:List Bs} {i:Nat} {x:Fun×Nat} (h:oC ws i=.ok x):i < x.2/\x.2<=ws.length:=x1m i x h
end Go.Sw

namespace Go.Sw
open Go.Proofs
theorem oM (p:Nat->Bool) (t:Bs):∀(f i j:Nat),j < yL p t f i->i+j < t.size/\p (zG t (i+j))=true
 | 0,i,j,h=>by simp [yL] at h
 | f+1,i,j,h=>by
  simp only [yL] at h
  split at h
  ·rename_i h1
   cases j with
   | zero=>exact h1
   | succ j=>
    have:=oM p t f (i+1) j (by omega)
    rw [show i+(j+1)=i+1+j by omega];exact this
  ·omega
theorem y4o (p:Nat->Bool) (t:Bs):∀(f i:Nat),t.size<=i+f->i+yL p t f i < t.size->p (zG t (i+yL p t f i))=false
 | 0,i,h,a=>by simp only [yL] at a ⊢;omega
 | f+1,i,h,a=>by
  by_cases h1:i < t.size/\p (zG t i)=true
  ·have e:yL p t (f+1) i=yL p t f (i+1)+1:=by simp only [yL];rw [if_pos h1]
   rw [e] at a ⊢
   have:=y4o p t f (i+1) (by omega) (by omega)
   rw [show i+(yL p t f (i+1)+1)=i+1+yL p t f (i+1) by omega];exact this
  ·have e:yL p t (f+1) i=0:=by simp only [yL];rw [if_neg h1]
   rw [e] at a ⊢
   cases b:p (zG t (i+0)) with
   | false=>rfl
   | true=>exact absurd ⟨by omega,b⟩ h1
theorem byte_eq (b k:UInt8):(b==k)=decide (b.toNat=k.toNat):=by
 rw [Bool.eq_iff_iff];simp [UInt8.toNat_inj]
theorem z5y (b:UInt8):([32,10,40,41]:List UInt8).contains b=y4t b.toNat:=by
 simp only [List.contains_cons,List.contains_nil,y4t,byte_eq,Bool.or_false]
 simp [Bool.or_assoc]
theorem y2g {t:Bs} {i j:Nat} (c:i+j < t.size):(t.extract i t.size).data.toList[j]? = some t[i+j]:=by
 rw [Array.getElem?_toList]
 have h:=ByteArray.data_extract (a:=t) (b:=i) (e:=t.size)
 rw [h,Array.getElem?_extract]
 have:t.data.size=t.size:=rfl
 rw [if_pos (by omega),Array.getElem?_eq_getElem (by omega)]
 rfl
theorem cA {t:Bs} {i:Nat} (h:i < t.size):zG t i=t[i].toNat:=by simp [zG,h]
theorem q4q {t:Bs} {i:Nat} {x:UInt8} {j:Nat} (h:(t.extract i t.size).data.toList[j]? = some x):i+j < t.size:=by
 have h1:=(List.getElem?_eq_some_iff.1 h).1
 have c:(t.extract i t.size).data.toList.length=(t.extract i t.size).size:=by rw [Array.length_toList];rfl
 have d:=ByteArray.size_extract (a:=t) (b:=i) (e:=t.size)
 omega
theorem uR {t:Bs} {i:Nat} (h:i<=t.size):i+yR t i<=t.size:=kL _ t t.size i h
theorem j4z {t:Bs} {i:Nat} (g:i<=t.size):Lib.indexAny (t.extract i t.size).data.toList [32,10,40,41]=if i+yR t i < t.size then ((yR t i:Nat):Int) else -1:=by
 have f:∀n,n<=yR t i->Lib.NoAny (t.extract i t.size).data.toList [32,10,40,41] n:=fun n k j b m hb=>by
  have h1:=q4q hb
  rw [y2g h1] at hb
  simp only [Option.some.injEq] at hb
  have d:=(oM (fun c=> !y4t c) t t.size i j (by unfold yR at k;omega)).2
  rw [z5y,<- hb,<- cA h1]
  simpa using d
 split
 ·rename_i h
  have d:=y4o (fun c=> !y4t c) t t.size i (by omega) h
  refine Lib.indexAny_hit (x:=t[i+yR t i]) (f _ (Nat.le_refl _)) (y2g h) ?_
  rw [z5y,<- cA h]
  simpa [yR] using d
 ·rename_i h
  refine Lib.indexAny_none ?_
  have h1:=uR g
  have d:(t.extract i t.size).data.toList.length=(t.extract i t.size).size:=by rw [Array.length_toList];rfl
  have l:=ByteArray.size_extract (a:=t) (b:=i) (e:=t.size)
  exact f _ (by omega)
def AscB (t:Bs):Prop:=∀(j:Nat) b,t.data.toList[j]? = some b->b.toNat < 128
theorem j9c {V:Fz} {K:List Res} {w:World} {t:Bs} {i:Nat} (c:AscB t) (f:t.size<=1000000) (d:i<=t.size) (N:Mem V K w) :
  Calls Tryz.prog 175 #[.string (t.extract i t.size),.string ⟨#[32,10,40,41]⟩] w (fun ee w'=>ee=.returned (.int .i64 (if i+yR t i < t.size then ((yR t i:Nat):Int) else -1))/\Mem V K w'):=by
 have g:=ByteArray.size_extract (a:=t) (b:=i) (e:=t.size)
 refine (Tryz.strings_IndexAny_laid (t.extract i t.size) ⟨#[32,10,40,41]⟩ w (by omega) (by decide) (fun j b hb=>?_) (by
  intro j b hb
  have hl:(⟨#[32,10,40,41]⟩:Bs).data.toList=[32,10,40,41]:=rfl
  rw [hl] at hb
  have:=mgQ hb
  simp only [List.mem_cons,List.not_mem_nil,or_false] at this
  rcases this with rfl | rfl | rfl | rfl <;> decide)).mono fun e w' J=>?_
 ·have h1:=q4q hb
  rw [y2g h1] at hb
  refine c (i+j) b ?_
  rw [<- hb,Array.getElem?_toList]
  exact Array.getElem?_eq_getElem h1
 ·obtain ⟨rfl,hb⟩:=J
  refine ⟨?_,N.below hb⟩
  rw [<- j4z d]
theorem x5a {t:Bs} {i:Nat} (a:i<=t.size) (h:(if i+yR t i < t.size then ((yR t i:Nat):Int) else -1) < 0):i+yR t i=t.size:=by
 have:=uR a
 split at h <;> omega
theorem x5b {t:Bs} {i:Nat} (h:¬(if i+yR t i < t.size then ((yR t i:Nat):Int) else -1) < 0):(if i+yR t i < t.size then ((yR t i:Nat):Int) else -1)=((yR t i:Nat):Int):=by
 split at h
 ·rename_i h1;rw [if_pos h1]
 ·omega
theorem q0s {t:Bs} {f i:Nat} (h:¬i < t.size):vV t f i=[]:=by cases f with
 | zero=>rfl
 | succ f=>rw [vV,if_neg h]
theorem q7z {t:Bs} {f i:Nat} (h:i < t.size) (a:t.size<=i+f) (hb:zG t i=32∨zG t i=10):vV t f i=vV t (f - 1) (i+1):=by
 obtain ⟨f,rfl⟩:∃k,f=k+1:=⟨f - 1,by omega⟩
 rw [vV,if_pos h,if_pos hb];rfl
theorem q0u {t:Bs} {f i:Nat} (h:i < t.size) (b:t.size<=i+f) (a:¬(zG t i=32∨zG t i=10)) (hb:zG t i=40∨zG t i=41):vV t f i=t.extract i (i+1)::vV t (f - 1) (i+1):=by
 obtain ⟨f,rfl⟩:∃k,f=k+1:=⟨f - 1,by omega⟩
 rw [vV,if_pos h,if_neg a,if_pos hb];rfl
theorem y5r {t:Bs} {f i:Nat} (h:i < t.size) (b:t.size<=i+f) (a:¬(zG t i=32∨zG t i=10)) (hb:¬(zG t i=40∨zG t i=41)):vV t f i=t.extract i (i+yR t i)::vV t (f - 1) (i+yR t i):=by
 obtain ⟨f,rfl⟩:∃k,f=k+1:=⟨f - 1,by omega⟩
 rw [vV,if_pos h,if_neg a,if_neg hb];rfl
theorem z9m {t:Bs} {i:Nat} (h:i < t.size) (a:¬(zG t i=32∨zG t i=10)) (hb:¬(zG t i=40∨zG t i=41)):0 < yR t i:=by
 unfold yR
 rw [xJ,if_pos]
 ·omega
 ·refine ⟨h,?_⟩
  simp only [y4t]
  simp only [not_or] at a hb
  simp [a.1,a.2,hb.1,hb.2]
theorem sE {t:Bs}:∀f i s,s∈vV t f i->s.size<=t.size
 | 0,i,s,h=>by cases h
 | f+1,i,s,h=>by
  have c:∀a b,(t.extract a b).size<=t.size:=fun a b=>by have:=ByteArray.size_extract (a:=t) (b:=a) (e:=b);omega
  simp only [vV] at h
  split at h
  ·split at h
   ·exact sE f _ s h
   ·split at h
    ·rcases List.mem_cons.1 h with rfl | h
     ·exact c _ _
     ·exact sE f _ s h
    ·rcases List.mem_cons.1 h with rfl | h
     ·exact c _ _
     ·exact sE f _ s h
  ·cases h
theorem sD {t:Bs}:∀f i,(vV t f i).length<=f
 | 0,i=>by simp [vV]
 | f+1,i=>by
  simp only [vV]
  split
  ·split
   ·exact Nat.le_succ_of_le (sD f _)
   ·split
    ·simpa using sD f _
    ·simpa using sD f _
  ·simp
theorem j7i {ws:List Bs} {n:Nat} (h:∀s∈ws,s.size<=n) (j:Nat):(zC ws j).size<=n:=by
 unfold zC
 rw [List.getD_eq_getElem?_getD]
 cases a:ws[j]? with
 | none=>exact Nat.zero_le _
 | some x=>exact h _ (mgQ a)
end Go.Sw

namespace Go.Sw
open Go.Proofs.Tryz
open Go.Proofs
set_option maxRecDepth 20000
set_option maxHeartbeats 4000000
theorem q8q {V:Fz} {K:List Res} {w:World} {d0:List Value} {va:Value} {c:Core} {name:Bs} {args:List Val} {fuel:Int} (g0:RCore V d0 c) (rl:SliceOf RVal V 3 va args) (w1:yP c=0->q3l c name args) (G:Glob V) (N:Mem V K w) :
  Calls prog 20 #[.agg d0.toArray,.string name,va,.int .i64 fuel] w (fun ee w'=>∃y:Fz×List Value,ee=.returned (.tuple #[.agg y.2.toArray,.int .i64 (qB c name args fuel).2.1,.int .i64 (qB c name args fuel).2.2])/\(V.Le y.1/\RVal y.1 y.2 (qB c name args fuel).1)/\Mem y.1 K w'):=by
 obtain ⟨p3,c4,p9,o1,Q1,p1,R1,c22,rfl,h2,h8,S2,T2,a3,b3,m2,u2,n2,v2,o2,w2⟩:=RCore.fm g0
 obtain ⟨T1,q1,rfl,t2,B2⟩:=rl.fm
 refine zM func20 ntmps20 fun Q hQ a J=>?_
 refine Bx J N fun j1 w N a J=>?_
 refine Bx J N fun k1 w N a J=>?_
 refine Bx J N fun l1 w N a J=>?_
 refine Alc J N fun m1 w N a J=>?_
 refine qH call43 J N (fun W1 w Y0 N a J=>?_) (c:=z5i g0 G N)
 obtain ⟨m,S1⟩:=W1
 obtain ⟨e,z0⟩:=Y0
 simp only at e z0 N J
 replace g0:=RCore.mono _ _ _ _ e g0
 replace G:=G.mono e
 replace rl:=rl.up e
 replace N:=N.nf
 by_cases b:yP c=0
 obtain ⟨b0,a1⟩:=z0 b
 rw [if_pos b,b] at J
 obtain ⟨d2,d3,e3,f3,g3,P2,Q2,f0,R2,m0,v1,n0,C2,F2,D2,G2,B,A,E2,H2⟩:=b0.ex
 obtain ⟨i3,c63,j3,N2,k3,c75,l3,O2,rfl,U2,V2,W2,X2,p2,x2,q2,y2,r2,z2,s2,A2⟩:=RCore.fm n0
 refine Alc J N fun S0 w N a J=>?_
 refine Sto 0 J N fun w N a J=>?_
 refine Qq J N (fun a J=>?_) (o:=by exact fun _ _ _ J O=>cV false J rfl rfl rfl)
 refine go J N fun a J=>?_
 rcases c0:yO (f0) name with _ | L2
 have Y:=congrArg (zK true (.agg #[.string ⟨#[]⟩,.slice none 0 0,.string ⟨#[]⟩,.int .i64 ((0:Nat):Int),.int .i64 ((0:Nat):Int),.string ⟨#[]⟩,.slice none 0 0,.slice none 0 0])) c0
 refine Qq J N (fun a J=>?_) (o:=by exact fun _ _ _ J O=>Ok.cast (zY runUnderlying103 runUnderlying9 zeroValue68 J O rfl rfl B) (show zK true (.agg #[.string ⟨#[]⟩,.slice none 0 0,.string ⟨#[]⟩,.int .i64 ((0:Nat):Int),.int .i64 ((0:Nat):Int),.string ⟨#[]⟩,.slice none 0 0,.slice none 0 0]) (yO (f0) name)=.tuple #[.agg #[.string ⟨#[]⟩,.slice none 0 0,.string ⟨#[]⟩,.int .i64 ((0:Nat):Int),.int .i64 ((0:Nat):Int),.string ⟨#[]⟩,.slice none 0 0,.slice none 0 0],.bool false] from Y))
 refine Alc J N fun M2 w N a J=>?_
 refine Sto 0 J N fun w N a J=>?_
 refine go J N fun a J=>?_
 by_cases W0:fuel < 0
 refine yE J N fun a J=>?_
 refine Sto 2 J N fun w N a J=>?_
 refine go J N fun a J=>?_
 have f:=N
 replace N:=N.dl [5,4,3,2,1,0]
 refine hQ _ _ _ (mE (i:=2) (cs:=[.string ⟨#[]⟩,.int .i64 ((0:Nat):Int),.slice none 0 0]) J f.toSees results20 rfl rfl isAgg42 sizeOf42 rfl rfl rfl ?_)
 have g:qB c name args fuel=(v0,0,1):=gF b (by have h_:=W0;omega)
 rw [g]
 exact ⟨(m,_),rfl,⟨e,RVal.iff.2 ⟨_,rfl,(show I64 0 from ⟨by decide,by decide⟩),SliceOf.nil 3⟩⟩,N⟩
 refine go J N fun a J=>?_
 by_cases X0:200000 < fuel
 refine yE J N fun a J=>?_
 refine Sto 2 J N fun w N a J=>?_
 refine go J N fun a J=>?_
 have f:=N
 replace N:=N.dl [5,4,3,2,1,0]
 refine hQ _ _ _ (mE (i:=2) (cs:=[.string ⟨#[]⟩,.int .i64 ((0:Nat):Int),.slice none 0 0]) J f.toSees results20 rfl rfl isAgg42 sizeOf42 rfl rfl rfl ?_)
 have g:qB c name args fuel=(v0,0,1):=gF b (by have h_:=X0;omega)
 rw [g]
 exact ⟨(m,_),rfl,⟨e,RVal.iff.2 ⟨_,rfl,(show I64 0 from ⟨by decide,by decide⟩),SliceOf.nil 3⟩⟩,N⟩
 refine yE J N fun a J=>?_
 refine Sto 2 J N fun w N a J=>?_
 refine go J N fun a J=>?_
 have f:=N
 replace N:=N.dl [5,4,3,2,1,0]
 refine hQ _ _ _ (mE (i:=2) (cs:=[.string ⟨#[]⟩,.int .i64 ((0:Nat):Int),.slice none 0 0]) J f.toSees results20 rfl rfl isAgg42 sizeOf42 rfl rfl rfl ?_)
 have g:qB c name args fuel=(v0,0,3):=q1g b (by have I0:=X0;have J0:=W0;omega) (MapRel.none A c0)
 rw [g]
 exact ⟨(m,_),rfl,⟨e,RVal.iff.2 ⟨_,rfl,(show I64 0 from ⟨by decide,by decide⟩),SliceOf.nil 3⟩⟩,N⟩
 obtain ⟨q,n,r1,rfl,F⟩:=A.get c0
 obtain ⟨I2,Y1,rfl,x0,i0⟩:=id F
 obtain ⟨C0,s0,rfl,A1,H1⟩:=x0.fm
 obtain ⟨D0,t0,E0,u0,rfl,x1,f2,g2,B1,I1,C1,J1⟩:=REx.fm i0
 have Y:=congrArg (zK true (.agg #[.string ⟨#[]⟩,.slice none 0 0,.string ⟨#[]⟩,.int .i64 ((0:Nat):Int),.int .i64 ((0:Nat):Int),.string ⟨#[]⟩,.slice none 0 0,.slice none 0 0])) c0
 refine Qq J N (fun a J=>?_) (o:=by exact fun _ _ _ J O=>Ok.cast (zY runUnderlying103 runUnderlying9 zeroValue68 J O rfl rfl B) (show zK true (.agg #[.string ⟨#[]⟩,.slice none 0 0,.string ⟨#[]⟩,.int .i64 ((0:Nat):Int),.int .i64 ((0:Nat):Int),.string ⟨#[]⟩,.slice none 0 0,.slice none 0 0]) (yO (f0) name)=.tuple #[.agg #[.string q.name,.slice C0 q.params.length s0,.string q.result,.int .i64 (q.body.kind),.int .i64 (q.body.num),.string q.body.name,.slice D0 q.body.args.length t0,.slice E0 q.body.arms.length u0],.bool true] from Y))
 refine Alc J N fun R0 w N a J=>?_
 refine Sto 0 J N fun w N a J=>?_
 refine go J N fun a J=>?_
 by_cases I:fuel < 0
 refine yE J N fun a J=>?_
 refine Sto 2 J N fun w N a J=>?_
 refine go J N fun a J=>?_
 have f:=N
 replace N:=N.dl [5,4,3,2,1,0]
 refine hQ _ _ _ (mE (i:=2) (cs:=[.string ⟨#[]⟩,.int .i64 ((0:Nat):Int),.slice none 0 0]) J f.toSees results20 rfl rfl isAgg42 sizeOf42 rfl rfl rfl ?_)
 have g:qB c name args fuel=(v0,0,1):=gF b (by have h_:=I;omega)
 rw [g]
 exact ⟨(m,_),rfl,⟨e,RVal.iff.2 ⟨_,rfl,(show I64 0 from ⟨by decide,by decide⟩),SliceOf.nil 3⟩⟩,N⟩
 refine go J N fun a J=>?_
 by_cases L:200000 < fuel
 refine yE J N fun a J=>?_
 refine Sto 2 J N fun w N a J=>?_
 refine go J N fun a J=>?_
 have f:=N
 replace N:=N.dl [5,4,3,2,1,0]
 refine hQ _ _ _ (mE (i:=2) (cs:=[.string ⟨#[]⟩,.int .i64 ((0:Nat):Int),.slice none 0 0]) J f.toSees results20 rfl rfl isAgg42 sizeOf42 rfl rfl rfl ?_)
 have g:qB c name args fuel=(v0,0,1):=gF b (by have h_:=L;omega)
 rw [g]
 exact ⟨(m,_),rfl,⟨e,RVal.iff.2 ⟨_,rfl,(show I64 0 from ⟨by decide,by decide⟩),SliceOf.nil 3⟩⟩,N⟩
 replace N:=N.pl 1
 refine zW call59 J N (fun T w N a J=>?_) (fun T w N a J=>?_) (c:=q9f (V:=m) (K:=.blk S0 (ob [.pointer (some S1)] 89)::.blk R0 (ob [.string q.name,.slice C0 q.params.length s0,.string q.result,.int .i64 (q.body.kind),.int .i64 (q.body.num),.string q.body.name,.slice D0 q.body.args.length t0,.slice E0 q.body.arms.length u0] 68)::.blk m1 (ob [.string ⟨#[]⟩,.int .i64 ((0:Nat):Int),.slice none 0 0] 42)::.blk l1 (ob [.int .i64 (fuel)] 3)::.blk k1 (ob [.slice T1 args.length q1] 38)::.blk j1 (ob [.slice p3 c.datas.length c4,.slice p9 c.inputs.length o1,.slice Q1 c.funs.length p1,.slice R1 c.outputs.length c22] 27)::K) (p:=fun v p=> !vU v&&pJ (zH c) v p.type) (fs:=[]) (cs:=[.pointer (some ⟨S0,0,none⟩)]) rl x0 call60 (fun x c y d w hx hy hc hd N=>j9l hc hd b0 N) N)
 refine go J N fun a J=>?_
 have M:dO (zH c) args q.params=true:=(z7h _ _ _).trans T
 refine qG J N fun K2 w N a J=>?_
 have B0:=N
 clear N
 obtain ⟨n1,i1,h1,P1,O0,N⟩:=y2p (l:=[name]) (i:=0) B0 rfl (by simp)
 clear B0
 have S:=N
 clear N
 subst P1
 have N:=S
 clear S
 replace N:=N.nf
 refine qH call62 J N (fun f1 w K0 N a J=>?_) (c:=q6r (U:=univ c name) (b0).weak O0 (by simp) (by simp [univ]) ((tZ b).2.2 _) (tZ b).1 ((tZ b).2.1 _) N)
 obtain ⟨H0,t1⟩:=f1
 have C:=K0
 simp only at C N J
 replace N:=N.nf
 refine st J rfl rfl rfl (z7c 0 runUnderlying121 J N rfl rfl fun e1 u h0 w r N a J=>?_)
 refine go J N fun a J=>?_
 refine zV (J.ks [6,7,8,11,13,60]) N (fun R mm a w=>∃(seen:Array Nat),mm=(vF u seen).length/\R m [] [(0,.blk e1 (.mapIter (some H0) h0 seen h0))] a w/\(RNo (zH c) u seen)) ((vF u #[]).length) ⟨#[],rfl,⟨J.pk,N⟩,RNo.start⟩ ?_
 clear N J
 rintro mm a w ⟨seen,b1,⟨J,N⟩,M0⟩ X1 j0
 replace N:=N.nf
 have k0:=M0
 refine go J N fun a J=>?_
 refine st J rfl rfl rfl (y2d 0 1 J N rfl rfl rfl r (fun N0 w N a J=>?_) (fun t w s N a J=>?_))
 refine go J N fun a J=>?_
 have o0:¬wZ (zH c) name:=k0.none r C N0
 have l2:fuel<=200000:=by have h_:=L;omega
 have Z0:0<=fuel:=by have h_:=I;omega
 have S:=N
 have A0:=J
 clear N J
 obtain ⟨fu,rfl⟩:=Int.eq_ofNat_of_zero_le Z0
 have N:=S
 have J:=A0
 clear S A0
 refine Alc J N fun Z1 w N a J=>?_
 refine Sto 0 J N fun w N a J=>?_
 refine Alc J N fun a2 w N a J=>?_
 refine go J N fun a J=>?_
 replace N:=N.ar [] [8,6,6,8,5]
 refine st J rfl rfl rfl (z6z J rfl call45 (q3y b0 F rl (z2o b) (z2o b _ _ n).1 (z2o b _ _ n).2 (by omega) (w1 b _ n M o0) N) (fun q0 g1 w E L0 N a J=>?_) (fun q0 w E N a J=>?_))
 obtain ⟨e0,U0⟩:=q0
 obtain ⟨Q0,e2⟩:=g1
 obtain ⟨k,a0⟩:=L0
 simp only at k a0 N J
 replace g0:=RCore.mono _ _ _ _ k g0
 replace G:=G.mono k
 replace m0:=m0.mono k
 replace B:=B.mono k
 replace A:=A.up k
 replace F:=RFun.mono _ _ _ _ k F
 replace i0:=REx.mono _ _ _ _ k i0
 obtain ⟨c1,c175,rfl,y1,i2,D1,K1⟩:=RVal.fm a0
 replace N:=N.nf
 refine Qq J N (fun a J=>?_) (o:=by exact fun _ _ _ J O=>cV false J rfl rfl rfl)
 refine Reg [2,2,0,1,1] [0,1,2,3,5] J N fun w N a J=>?_
 refine Sto 4 J N fun w N a J=>?_
 refine go J N fun a J=>?_
 have f:=N
 replace N:=N.dl [5,4,3,2,1,0]
 refine hQ _ _ _ (mE (i:=4) (cs:=[.string e0.con,.int .i64 (e0.num),.slice c1 e0.args.length c175]) J f.toSees results20 rfl rfl isAgg42 sizeOf42 rfl rfl rfl ?_)
 have g:qB c name args ((fu:Nat):Int)=(e0,((fu - U0:Nat):Int),0):=by rw [z0j b (by omega) n M o0,Int.toNat_natCast,E]
 rw [g]
 exact ⟨(Q0,_),rfl,⟨(e).trans k,a0⟩,N⟩
 have u1:=q3w E
 replace N:=N.nf
 refine yE J N fun a J=>?_
 refine Sto 2 J N fun w N a J=>?_
 refine go J N fun a J=>?_
 have f:=N
 replace N:=N.dl [3,2,1,0]
 refine hQ _ _ _ (mE (i:=2) (cs:=[.string ⟨#[]⟩,.int .i64 ((0:Nat):Int),.slice none 0 0]) J f.toSees results20 rfl rfl isAgg42 sizeOf42 rfl rfl rfl ?_)
 have g:qB c name args ((fu:Nat):Int)=(v0,0,((q0:Nat):Int)):=by rw [z0j b (by omega) n M o0,Int.toNat_natCast,E]
 rw [g]
 exact ⟨(m,_),rfl,⟨e,RVal.iff.2 ⟨_,rfl,(show I64 0 from ⟨by decide,by decide⟩),SliceOf.nil 3⟩⟩,N⟩
 refine go J N fun a J=>?_
 obtain ⟨H,V1,Z,O1,P⟩:=z7f r (leftE_mem.1 s).1
 have r0:Value.tuple #[t.key,t.val]=Value.tuple #[.string H,t.val]:=by rw [Z]
 refine Qq J N (fun a J=>?_) (o:=by exact fun _ _ _ J O=>Ok.cast (q3e (i:=0) (j:=1) J O rfl rfl rfl r s) r0)
 refine go J N fun a J=>?_
 rcases z:yO (f0) H with _ | U1
 have D:=congrArg (zK false (.agg #[.string ⟨#[]⟩,.slice none 0 0,.string ⟨#[]⟩,.int .i64 ((0:Nat):Int),.int .i64 ((0:Nat):Int),.string ⟨#[]⟩,.slice none 0 0,.slice none 0 0])) z
 refine Qq J N (fun a J=>?_) (o:=by exact fun _ _ _ J O=>Ok.cast (zY runUnderlying103 runUnderlying9 zeroValue68 J O rfl rfl B) (show zK false (.agg #[.string ⟨#[]⟩,.slice none 0 0,.string ⟨#[]⟩,.int .i64 ((0:Nat):Int),.int .i64 ((0:Nat):Int),.string ⟨#[]⟩,.slice none 0 0,.slice none 0 0]) (yO (f0) H)=.agg #[.string ⟨#[]⟩,.slice none 0 0,.string ⟨#[]⟩,.int .i64 ((0:Nat):Int),.int .i64 ((0:Nat):Int),.string ⟨#[]⟩,.slice none 0 0,.slice none 0 0] from D))
 refine Qq J N (fun a J=>?_) (o:=by exact fun _ _ _ J O=>z6i 3 (vs:=[.int .i64 ((0:Nat):Int),.int .i64 ((0:Nat):Int),.string ⟨#[]⟩,.slice none 0 0,.slice none 0 0]) runUnderlying68 rfl isAgg66 sizeOf66 J rfl rfl rfl)
 refine zW call63 J N (fun W w N a J=>?_) (fun W w N a J=>?_) (c:=q6s rex0 N)
 refine yE J N fun a J=>?_
 refine Sto 4 J N fun w N a J=>?_
 refine go J N fun a J=>?_
 have f:=N
 replace N:=N.dl [7,6,5,4,3,2,1,0]
 refine hQ _ _ _ (mE (i:=4) (cs:=[.string ⟨#[]⟩,.int .i64 ((0:Nat):Int),.slice none 0 0]) J f.toSees results20 rfl rfl isAgg42 sizeOf42 rfl rfl rfl ?_)
 have g:qB c name args fuel=(v0,0,8):=z2x b (by have I0:=L;have J0:=I;omega) n M (q0c C P (by rw [tS (MapRel.none A z)];exact W))
 rw [g]
 exact ⟨(m,_),rfl,⟨e,RVal.iff.2 ⟨_,rfl,(show I64 0 from ⟨by decide,by decide⟩),SliceOf.nil 3⟩⟩,N⟩
 refine go J N fun a J=>?_
 refine j0 ((vF u ((seen.push t.born))).length) _ _ (by subst b1;have h_:=z1c s;omega) ⟨((seen.push t.born)),rfl,⟨J.pk,N⟩,?_⟩
 exact k0.next r s Z (by rw [tS (MapRel.none A z)];exact W)
 obtain ⟨h,p0,s1,rfl,P0⟩:=A.get z
 obtain ⟨J2,b2,rfl,V0,y0⟩:=id P0
 obtain ⟨d1,T0,rfl,E1,L1⟩:=V0.fm
 obtain ⟨F0,c213,G0,w0,rfl,z1,j2,k2,F1,M1,G1,N1⟩:=REx.fm y0
 have D:=congrArg (zK false (.agg #[.string ⟨#[]⟩,.slice none 0 0,.string ⟨#[]⟩,.int .i64 ((0:Nat):Int),.int .i64 ((0:Nat):Int),.string ⟨#[]⟩,.slice none 0 0,.slice none 0 0])) z
 refine Qq J N (fun a J=>?_) (o:=by exact fun _ _ _ J O=>Ok.cast (zY runUnderlying103 runUnderlying9 zeroValue68 J O rfl rfl B) (show zK false (.agg #[.string ⟨#[]⟩,.slice none 0 0,.string ⟨#[]⟩,.int .i64 ((0:Nat):Int),.int .i64 ((0:Nat):Int),.string ⟨#[]⟩,.slice none 0 0,.slice none 0 0]) (yO (f0) H)=.agg #[.string h.name,.slice d1 h.params.length T0,.string h.result,.int .i64 (h.body.kind),.int .i64 (h.body.num),.string h.body.name,.slice F0 h.body.args.length c213,.slice G0 h.body.arms.length w0] from D))
 refine Qq J N (fun a J=>?_) (o:=by exact fun _ _ _ J O=>z6i 3 (vs:=[.int .i64 (h.body.kind),.int .i64 (h.body.num),.string h.body.name,.slice F0 h.body.args.length c213,.slice G0 h.body.arms.length w0]) runUnderlying68 rfl isAgg66 sizeOf66 J rfl rfl rfl)
 refine zW call63 J N (fun X w N a J=>?_) (fun X w N a J=>?_) (c:=q6s y0 N)
 refine yE J N fun a J=>?_
 refine Sto 4 J N fun w N a J=>?_
 refine go J N fun a J=>?_
 have f:=N
 replace N:=N.dl [7,6,5,4,3,2,1,0]
 refine hQ _ _ _ (mE (i:=4) (cs:=[.string ⟨#[]⟩,.int .i64 ((0:Nat):Int),.slice none 0 0]) J f.toSees results20 rfl rfl isAgg42 sizeOf42 rfl rfl rfl ?_)
 have g:qB c name args fuel=(v0,0,8):=z2x b (by have I0:=L;have J0:=I;omega) n M (q0c C P (by rw [oB p0];exact X))
 rw [g]
 exact ⟨(m,_),rfl,⟨e,RVal.iff.2 ⟨_,rfl,(show I64 0 from ⟨by decide,by decide⟩),SliceOf.nil 3⟩⟩,N⟩
 refine go J N fun a J=>?_
 refine j0 ((vF u ((seen.push t.born))).length) _ _ (by subst b1;have h_:=z1c s;omega) ⟨((seen.push t.born)),rfl,⟨J.pk,N⟩,?_⟩
 exact k0.next r s Z (by rw [oB p0];exact X)
 refine yE J N fun a J=>?_
 refine Sto 2 J N fun w N a J=>?_
 refine go J N fun a J=>?_
 have f:=N
 replace N:=N.dl [5,4,3,2,1,0]
 refine hQ _ _ _ (mE (i:=2) (cs:=[.string ⟨#[]⟩,.int .i64 ((0:Nat):Int),.slice none 0 0]) J f.toSees results20 rfl rfl isAgg42 sizeOf42 rfl rfl rfl ?_)
 have g:qB c name args fuel=(v0,0,8):=y6b b (by have I0:=L;have J0:=I;omega) n ((z7h _ _ _).trans T)
 rw [g]
 exact ⟨(m,_),rfl,⟨e,RVal.iff.2 ⟨_,rfl,(show I64 0 from ⟨by decide,by decide⟩),SliceOf.nil 3⟩⟩,N⟩
 rw [if_neg b] at J
 refine Alc J N fun c2 w N a J=>?_
 refine Sto 0 J N fun w N a J=>?_
 refine yE J N fun a J=>?_
 refine Sto 1 J N fun w N a J=>?_
 refine go J N fun a J=>?_
 have f:=N
 replace N:=N.dl [4,3,2,1,0]
 refine hQ _ _ _ (mE (i:=1) (cs:=[.string ⟨#[]⟩,.int .i64 ((0:Nat):Int),.slice none 0 0]) J f.toSees results20 rfl rfl isAgg42 sizeOf42 rfl rfl rfl ?_)
 have g:qB c name args fuel=(v0,0,yP c):=q1f b
 rw [g]
 exact ⟨(m,_),rfl,⟨e,RVal.iff.2 ⟨_,rfl,(show I64 0 from ⟨by decide,by decide⟩),SliceOf.nil 3⟩⟩,N⟩
end Go.Sw

namespace Go.Sw
open Go.Proofs.Tryz
open Go.Proofs
set_option maxRecDepth 20000
set_option maxHeartbeats 4000000
variable {V:Fz} {K:List Res} {w:World}
theorem y6f {b:Nat} {v:Value} (d:v.cells.toList=[v]) (h1:[v].all Value.oneCell'=true) (N:Mem V (.blk b (ob [.pointer none,v] 130)::K) w) :
  Calls prog 120 #[.pointer (some ⟨b,0,none⟩)] w (fun ee w'=>ee=.returned (.tuple #[])/\Mem V (.blk b (ob [.pointer (some ⟨b,0,none⟩),v] 130)::K) w'):=by
 refine zM func120 ntmps120 fun Q c a J=>?_
 refine Qq J N (fun a J=>?_) (o:=by exact fun _ _ _ J O=>aO (v:=.bool true) J rfl rfl rfl (by kernel_rfl))
 refine Qq J N (fun a J=>?_) (o:=by exact fun _ _ _ J O=>q8k (i:=0) J O rfl rfl (Nat.zero_lt_succ _) underlying127 underlying238 Tryz.type130 (by decide))
 refine Qq J N (fun a J=>?_) (o:=by exact fun _ _ _ J O=>y7j J rfl)
 refine Qq J N (fun a J=>?_) (o:=by exact fun _ _ _ J O=>y7i (i:=0) J O rfl rfl underlying238 underlying127 Tryz.type130 (by kernel_rfl))
 refine Sto 0 J N fun w N a J=>?_
 refine go J N fun a J=>?_
 refine c _ _ _ (aU J results120 ?_)
 exact ⟨rfl,N⟩
theorem y0y {b:Nat} {v:Value} (d:v.cells.toList=[v]) (h1:[v].all Value.oneCell'=true) (N:Mem V (.blk b (ob [.pointer (some ⟨b,0,none⟩),v] 130)::K) w) :
  Calls prog 120 #[.pointer (some ⟨b,0,none⟩)] w (fun ee w'=>ee=.returned (.tuple #[])/\Mem V (.blk b (ob [.pointer (some ⟨b,0,none⟩),v] 130)::K) w'):=by
 refine zM func120 ntmps120 fun Q c a J=>?_
 refine Qq J N (fun a J=>?_) (o:=by exact fun _ _ _ J O=>aO (v:=.bool false) J rfl rfl rfl (by kernel_rfl))
 refine Qq J N (fun a J=>?_) (o:=by exact fun _ _ _ J O=>aO (v:=.bool false) J rfl rfl rfl (Lib.run_neq_ptr_same _ _ underlying127 Tryz.type130))
 refine go J N fun a J=>?_
 refine c _ _ _ (aU J results120 ?_)
 exact ⟨rfl,N⟩
theorem tQ {b:Nat} {v:Value} {bp:Option Addr} (c:bp=none∨bp=some ⟨b,0,none⟩) (a:v.cells.toList=[v]) (h1:[v].all Value.oneCell'=true) (N:Mem V (.blk b (ob [.pointer bp,v] 130)::K) w) :
  Calls prog 120 #[.pointer (some ⟨b,0,none⟩)] w (fun ee w'=>ee=.returned (.tuple #[])/\Mem V (.blk b (ob [.pointer (some ⟨b,0,none⟩),v] 130)::K) w'):=by
 rcases c with rfl | rfl
 exact y6f a h1 N
 exact y0y a h1 N
theorem yJ {b:Nat} {v:Value} {bp:Option Addr} {t s:Bs} (e:bp=none∨bp=some ⟨b,0,none⟩) (hl:t.size+s.size<=140737488355328) (N:Mem V (.blk b (ob [.pointer bp,v] 130)::.gs v 5 1 (Lib.strCells t)::K) w) :
  Calls prog 68 #[.pointer (some ⟨b,0,none⟩),.string s] w (fun ee w'=>∃v2,ee=.returned (.tuple #[.int .i64 ((s.size:Nat):Int),.nilIface])/\True/\Mem V (.blk b (ob [.pointer (some ⟨b,0,none⟩),v2] 130)::.gs v2 5 1 (Lib.strCells (t++s))::K) w'):=by
 refine zM func68 ntmps68 fun Q d a J=>?_
 refine zS call120 J N (fun w N a J=>?_) (c:=tQ e (N.toSees.gsCells (i:=1) rfl) (N.toSees.gsOne (i:=1) rfl) N)
 replace N:=N.nf
 refine go J N fun a J=>?_
 refine st J rfl rfl rfl (y1y 1 underlying128 underlying9 Tryz.type5 rfl rfl rfl J N rfl rfl rfl (by omega) fun v4 w N a J=>?_)
 replace N:=N.nf
 refine Sto 0 J N fun w N a J=>?_
 refine jV d J N ?_
 exact ⟨_,rfl,trivial,N⟩
theorem aN {b:Nat} {v:Value} {bp:Option Addr} {t:Bs} {c:UInt8} (e:bp=none∨bp=some ⟨b,0,none⟩) (hl:t.size+1<=140737488355328) (N:Mem V (.blk b (ob [.pointer bp,v] 130)::.gs v 5 1 (Lib.strCells t)::K) w) :
  Calls prog 70 #[.pointer (some ⟨b,0,none⟩),.int .u8 ((c.toNat:Nat):Int)] w (fun ee w'=>∃v2,ee=.returned .nilIface/\True/\Mem V (.blk b (ob [.pointer (some ⟨b,0,none⟩),v2] 130)::.gs v2 5 1 (Lib.strCells (t++⟨#[c]⟩))::K) w'):=by
 refine zM func70 ntmps70 fun Q d a J=>?_
 refine zS call120 J N (fun w N a J=>?_) (c:=tQ e (N.toSees.gsCells (i:=1) rfl) (N.toSees.gsOne (i:=1) rfl) N)
 replace N:=N.nf
 refine qG J N fun v4 w N a J=>?_
 refine qN 2 rt_128 J N (fun v5 w N a J=>?_) (hb:=by rw [wU];simp only [lcQ,lnQ];omega)
 rw [<- y7h] at N
 refine Sto 1 J N fun w N a J=>?_
 refine go J N fun a J=>?_
 replace N:=N.dl [0]
 refine zD d J N ?_
 exact ⟨_,rfl,trivial,N⟩
theorem y6a {b:Nat} {v:Value} {bp:Option Addr} {t:Bs} (N:Mem V (.blk b (ob [.pointer bp,v] 130)::.gs v 5 1 (Lib.strCells t)::K) w) :
  Calls prog 71 #[.pointer (some ⟨b,0,none⟩)] w (fun ee w'=>ee=.returned (.int .i64 ((t.size:Nat):Int))/\Mem V (.blk b (ob [.pointer bp,v] 130)::.gs v 5 1 (Lib.strCells t)::K) w'):=by
 obtain ⟨h,g,c0,rfl,d,e⟩:=N.toSees.gsForm (i:=1) rfl
 have c:g=t.size:=by simpa [wU] using d.symm
 subst c
 refine zM func71 ntmps71 fun Q f a J=>?_
 refine zD f J N ?_
 exact ⟨rfl,N⟩
theorem aZ {b:Nat} {v:Value} {bp:Option Addr} {t:Bs} (N:Mem V (.blk b (ob [.pointer bp,v] 130)::.gs v 5 1 (Lib.strCells t)::K) w) :
  Calls prog 72 #[.pointer (some ⟨b,0,none⟩)] w (fun ee w'=>ee=.returned (.string t)/\Mem V K w'):=by
 obtain ⟨k,j,c0,rfl,d,g⟩:=N.toSees.gsForm (i:=1) rfl
 have c:j=t.size:=by simpa [wU] using d.symm
 subst c
 refine zM func72 ntmps72 fun Q h a J=>?_
 refine go J N fun a J=>?_
 refine yZ [1,1,1,2,0,1,1,1,2,1,0,1] (.q 0 (.q 1 (.q 2 (.q 3 (.q 5 (.q 6 (.q 7 (.q 8 (.q 9 (.e 4 (.e 10 (.q 11 (.done))))))))))))) [0] J N fun w N=>?_
 refine go J N fun a J=>?_
 refine d_e J rfl rfl rfl (y6t 1 underlying202 J N rfl rfl fun l w f N=>⟨fun _=>N.sn (Fz.Le.refl _),fun a J=>?_⟩)
 refine d_e J rfl rfl rfl (z7d 1 (t:=t) underlying202 (by kernel_rfl) J N f rfl rfl rfl fun w N=>⟨fun _=>N.sn (Fz.Le.refl _),fun a J=>?_⟩)
 replace N:=N.nf
 refine go J N fun a J=>?_
 replace N:=N.dl [0]
 refine zD h J N ?_
 exact ⟨rfl,N⟩
end Go.Sw

namespace Go.Sw
open Go.Proofs.Tryz
open Go.Proofs
set_option maxRecDepth 20000
set_option maxHeartbeats 4000000
theorem grow_ok {V:Fz} {K:List Res} {w:World} {b n:Nat} (j:n<=140737488355328) (N:Mem V (.blk b (ob [.pointer (some ⟨b,0,none⟩),.slice none 0 0] 130)::K) w) :
  Calls prog 170 #[.pointer (some ⟨b,0,none⟩),.int .i64 ((n:Nat):Int)] w (fun ee w'=>∃v2,ee=.returned (.tuple #[])/\True/\Mem V (.blk b (ob [.pointer (some ⟨b,0,none⟩),v2] 130)::.gs v2 5 1 (Lib.strCells ⟨#[]⟩)::K) w'):=by
 refine zM func170 ntmps170 fun Q g a J=>?_
 refine go J N fun a J=>?_
 refine yZ [1,1,1,2,1,1,1,1,0,1,1,1,2,1,1,1] (.q 0 (.q 1 (.q 2 (.q 3 (.q 4 (.q 5 (.q 6 (.q 7 (.q 9 (.q 10 (.q 11 (.q 12 (.q 13 (.e 8 (.q 14 (.q 15 (.done))))))))))))))))) [0] J N fun w N=>?_
 refine Qq J N (fun a J=>?_) (o:=by exact fun _ _ _ J O=>y_cap J rfl runUnderlying128)
 refine Qq J N (fun a J=>?_) (o:=by exact fun _ _ _ J O=>y_mul ((0:Nat):Int) J rfl rfl (by decide))
 refine Qq J N (fun a J=>?_) (o:=by exact fun _ _ _ J O=>z1w ((n:Nat):Int) J rfl rfl (by rw [yC (by omega)];omega))
 refine go J N fun a J=>?_
 refine d_e J rfl rfl rfl (y2b (m:=n) J N rfl (by omega) fun h f w d c N=>⟨fun _=>N.sn (Fz.Le.refl _),fun a J=>?_⟩)
 refine Qq J N (fun a J=>?_) (o:=by exact fun _ _ _ J O=>q3h J rfl rfl runUnderlying128 sizeOf5)
 refine Qq J N (fun a J=>?_) (o:=by exact fun _ _ _ J O=>j2k J rfl rfl underlying128 (by kernel_rfl) rfl)
 refine Sto 1 J N fun w N a J=>?_
 replace N:=j1i (i:=0) N rfl c
 replace N:=N.nf
 refine go J N fun a J=>?_
 replace N:=N.pl 1
 refine g _ _ _ (aU J results170 ?_)
 exact ⟨_,rfl,trivial,N⟩
theorem q5a {V:Fz} {K:List Res} {w:World} {b n:Nat} (h:n<=140737488355328) (N:Mem V (.blk b (ob [.pointer none,.slice none 0 0] 130)::K) w) :
  Calls prog 119 #[.pointer (some ⟨b,0,none⟩),.int .i64 ((n:Nat):Int)] w (fun ee w'=>∃v2,ee=.returned (.tuple #[])/\True/\Mem V (.blk b (ob [.pointer (some ⟨b,0,none⟩),v2] 130)::.gs v2 5 1 (Lib.strCells ⟨#[]⟩)::K) w'):=by
 refine zM func119 ntmps119 fun Q d a J=>?_
 refine zS call120 J N (fun w N a J=>?_) (c:=tQ (.inl rfl) rfl rfl N)
 replace N:=N.nf
 refine go J N fun a J=>?_
 have e:¬n < 0:=by omega
 refine Reg [1,1,1,2,1,1,1,1,2,1,1,1,1] [0] J N fun w N a J=>?_
 refine Qq J N (fun a J=>?_) (o:=by exact fun _ _ _ J O=>y_cap J rfl runUnderlying128)
 refine Qq J N (fun a J=>?_) (o:=by exact fun _ _ _ J O=>vT ((0:Nat):Int) J rfl rfl (by decide))
 refine go J N fun a J=>?_
 by_cases g:0 < n
 refine qH call170 J N (fun i w f N a J=>?_) (c:=grow_ok (by omega) N)
 replace N:=N.nf
 refine go J N fun a J=>?_
 refine d _ _ _ (aU J results119 ?_)
 exact ⟨_,rfl,trivial,N⟩
 refine go J N fun a J=>?_
 replace N:=N.nilRow 5 1
 replace N:=N.pl 1
 refine d _ _ _ (aU J results119 ?_)
 exact ⟨_,rfl,trivial,N⟩
end Go.Sw

namespace Go.Sw
open Go.Proofs.Tryz
open Go.Proofs
set_option maxRecDepth 20000
set_option maxHeartbeats 4000000
variable {V:Fz} {K:List Res} {w:World}
theorem x2k {b off cap:Nat} {arr:Array Value} {l:List Bs} {sep:Bs} (hq:QAt off cap arr l) (hb:pS l+sep.size * l.length<=70368744177664) (N:Mem V (qblk b arr::K) w) :
  Calls prog 67 #[qval b off cap l,.string sep] w (fun ee w'=>ee=.returned (.string (mB sep l))/\Mem V (qblk b arr::K) w'):=by
 have A0:l.length<=9223372036854775807:=Nat.le_trans hq.fits (by have h_:=hq.max;simpa [maxLen] using h_)
 have z0:(l.drop 1).length<=l.length:=by rw [List.length_drop];omega
 refine zM func67 ntmps67 fun Q hQ a J=>?_
 refine go J N fun a J=>?_
 by_cases h5:l.length=0
 refine zD hQ J N ?_
 have e_:l=[]:=List.eq_nil_of_length_eq_zero h5
 subst e_
 exact ⟨rfl,N⟩
 refine go J N fun a J=>?_
 by_cases h8:l.length=1
 refine go J N fun a J=>?_
 have H:=h8
 refine go J N fun a J=>?_
 have Y:0 < l.length:=by omega
 obtain ⟨K0,G⟩:=qX Y
 refine Qq J N (fun a J=>?_) (o:=by exact fun _ _ _ J O=>cW 0 0 J O hq rfl rfl G isAgg9)
 refine zD hQ J N ?_
 obtain ⟨y_,e_⟩:∃y_,l=[y_]:=by
  cases l with
  | nil=>simp at H
  | cons a r=>cases r with
   | nil=>exact ⟨a,rfl⟩
   | cons b r=>simp at H
 subst e_
 have P:=G
 simp at P
 subst P
 exact ⟨rfl,N⟩
 refine go J N fun a J=>?_
 by_cases H0:0 < sep.size
 refine Qq J N (fun a J=>?_) (o:=by exact fun _ _ _ J O=>vT (((l.length - 1):Nat):Int) J rfl rfl (by rw [yC (by omega)];omega))
 refine Qq J N (fun a J=>?_) (o:=by exact fun _ _ _ J O=>y_quo _ J rfl rfl (by omega) rfl)
 have o0:¬IntKind.i64.wrap ((9223372036854775807:Int).tdiv (((l.length - 1):Nat):Int))<=((sep.size:Nat):Int):=quo_big (by omega) (by omega) (by have h_:=Nat.mul_le_mul_left sep.size (show l.length - 1<=l.length by omega);omega)
 refine Qq J N (fun a J=>?_) (o:=by exact fun _ _ _ J O=>vT (((l.length - 1):Nat):Int) J rfl rfl (by rw [yC (by omega)];omega))
 refine Qq J N (fun a J=>?_) (o:=by exact fun _ _ _ J O=>y_mul (((sep.size * (l.length - 1)):Nat):Int) J rfl rfl (by rw [<- Int.natCast_mul];exact yC (by have h_:=Nat.mul_le_mul_left sep.size (show l.length - 1<=l.length by omega);omega)))
 refine Qq J N (fun a J=>?_) (o:=by exact fun _ _ _ J O=>pD (i:=0) (j:=(sep.size * (l.length - 1))) J rfl rfl (by have h_:=Nat.mul_le_mul_left sep.size (show l.length - 1<=l.length by omega);omega))
 refine go J N fun a J=>?_
 have p:(0+(sep.size * (l.length - 1)))<=sep.size * l.length+pS (l.take 0):=by have h_:=Nat.mul_le_mul_left sep.size (show l.length - 1<=l.length by omega);omega
 refine go J N fun a J=>?_
 refine mR (fun mm a w=>∃(i:Nat) (n:Nat),mm=l.length - i/\EnvR 75 [(0,qval b off cap l),(1,.string sep),(5,.int .i64 ((n:Nat):Int)),(39,qval b off cap l),(40,.int .i64 ((l.length:Nat):Int)),(41,.int .i64 ((i:Nat):Int))] [] a/\Mem V (qblk b arr::K) w/\(n<=sep.size * l.length+pS (l.take i))) (l.length - 0) ⟨0,(0+(sep.size * (l.length - 1))),rfl,J.pk,N,p⟩ ?_
 clear N J
 rintro mm a w ⟨i,n,f,J,N,E⟩ D0 T
 refine go J N fun a J=>?_
 by_cases k0:i < l.length
 refine go J N fun a J=>?_
 obtain ⟨C,u⟩:=qX k0
 refine Qq J N (fun a J=>?_) (o:=by exact fun _ _ _ J O=>cW 0 i J O hq rfl rfl u isAgg9)
 refine go J N fun a J=>?_
 have Z:n+C.size<=140737488355328:=by have M:=E;have d:=cG l i;have e:=cE u;omega
 refine Qq J N (fun a J=>?_) (o:=by exact fun _ _ _ J O=>vT (((9223372036854775807 - n):Nat):Int) J rfl rfl (by rw [yC (by omega)];omega))
 have a0:¬(9223372036854775807 - n) < C.size:=by omega
 refine Qq J N (fun a J=>?_) (o:=by exact fun _ _ _ J O=>pD (i:=n) (j:=C.size) J rfl rfl (by omega))
 refine go J N fun a J=>?_
 refine T _ _ _ (by subst f;omega) ⟨(i+1),((n+C.size)),rfl,J.pk,N,?_⟩
 rw [y9p u];omega
 refine Alc J N fun I w N a J=>?_
 refine qH call119 J N (fun L0 w s0 N a J=>?_) (c:=q5a (n:=n) (by have d:=E;have e:=cG l i;omega) N)
 replace N:=N.nf
 refine go J N fun a J=>?_
 have k:0 < l.length:=by omega
 obtain ⟨d0,v⟩:=qX k
 refine Qq J N (fun a J=>?_) (o:=by exact fun _ _ _ J O=>cW 2 0 J O hq rfl rfl v isAgg9)
 replace N:=N.ar [] [1,1]
 refine qH call68 J N (fun p0 w t0 N a J=>?_) (c:=yJ (t:=⟨#[]⟩) (s:=d0) (.inr rfl) (by have M:(⟨#[]⟩:Bs).size=0:=rfl;have d:=cG l 0;have e:=cE v;omega) N)
 replace N:=N.nf
 refine go J N fun a J=>?_
 have b0:=hq.tail k
 refine Qq J N (fun a J=>?_) (o:=by exact fun _ _ _ J O=>z8f J hq rfl rfl runUnderlying25 sizeOf9 k)
 refine go J N fun a J=>?_
 refine mR (fun mm a w=>∃(i:Nat) (bv:Value) (acc:Bs),mm=(l.drop 1).length - i/\EnvR 75 [(1,.string sep),(8,.pointer (some ⟨I,0,none⟩)),(63,qval b (y4g off cap) (cap - 1) (l.drop 1)),(64,.int .i64 (((l.drop 1).length:Nat):Int)),(65,.int .i64 ((i:Nat):Int))] [] a/\Mem V (.blk I (ob [.pointer (some ⟨I,0,none⟩),bv] 130)::.gs (bv) 5 1 (Lib.strCells acc)::qblk b arr::K) w/\(mB sep l=((l.drop 1).drop i).foldl (fun a s=>a++sep++s) acc/\acc.size+pS ((l.drop 1).drop i)+sep.size * ((l.drop 1).length - i)<=70368744177664)) ((l.drop 1).length - 0) ⟨0,p0,(⟨#[]⟩++d0),rfl,J.pk,N,(y9i v hb)⟩ ?_
 clear N J
 rintro mm a w ⟨i,bv,acc,f,J,N,g⟩ E0 U
 obtain ⟨g,q⟩:=g
 refine go J N fun a J=>?_
 by_cases R:i < (l.drop 1).length
 refine go J N fun a J=>?_
 obtain ⟨e0,y⟩:=qX R
 refine Qq J N (fun a J=>?_) (o:=by exact fun _ _ _ J O=>cW 2 i J O b0 rfl rfl y isAgg9)
 replace N:=N.ar [] [1,1]
 refine qH call68 J N (fun M0 w u0 N a J=>?_) (c:=yJ (t:=acc) (s:=sep) (.inr rfl) (by have d:sep.size<=sep.size * ((l.drop 1).length - i):=Nat.le_mul_of_pos_right _ (by omega);omega) N)
 replace N:=N.nf
 replace N:=N.ar [] [1,1]
 refine qH call68 J N (fun q0 w w0 N a J=>?_) (c:=yJ (t:=(acc++sep)) (s:=e0) (.inr rfl) (by have d:sep.size<=sep.size * ((l.drop 1).length - i):=Nat.le_mul_of_pos_right _ (by omega);have e:=cE y;rw [zJ];omega) N)
 replace N:=N.nf
 refine go J N fun a J=>?_
 refine U _ _ _ (by subst f;omega) ⟨(i+1),(q0),(((acc++sep)++e0)),rfl,J.pk,N,?_⟩
 exact y9j y g q
 replace N:=N.ar [] [1,1]
 refine zS call72 J N (fun w N a J=>?_) (c:=aZ (t:=acc) N)
 replace N:=N.nf
 refine zD hQ J N ?_
 rw [g,zE R]
 exact ⟨rfl,N⟩
 refine go J N fun a J=>?_
 have p:0<=sep.size * l.length+pS (l.take 0):=by have h_:=Nat.mul_le_mul_left sep.size (show l.length - 1<=l.length by omega);omega
 refine go J N fun a J=>?_
 refine mR (fun mm a w=>∃(i:Nat) (n:Nat),mm=l.length - i/\EnvR 75 [(0,qval b off cap l),(1,.string sep),(5,.int .i64 ((n:Nat):Int)),(39,qval b off cap l),(40,.int .i64 ((l.length:Nat):Int)),(41,.int .i64 ((i:Nat):Int))] [] a/\Mem V (qblk b arr::K) w/\(n<=sep.size * l.length+pS (l.take i))) (l.length - 0) ⟨0,0,rfl,J.pk,N,p⟩ ?_
 clear N J
 rintro mm a w ⟨i,n,f,J,N,F⟩ F0 W
 refine go J N fun a J=>?_
 by_cases l0:i < l.length
 refine go J N fun a J=>?_
 obtain ⟨D,z⟩:=qX l0
 refine Qq J N (fun a J=>?_) (o:=by exact fun _ _ _ J O=>cW 0 i J O hq rfl rfl z isAgg9)
 refine go J N fun a J=>?_
 have Z:n+D.size<=140737488355328:=by have M:=F;have d:=cG l i;have e:=cE z;omega
 refine Qq J N (fun a J=>?_) (o:=by exact fun _ _ _ J O=>vT (((9223372036854775807 - n):Nat):Int) J rfl rfl (by rw [yC (by omega)];omega))
 have a0:¬(9223372036854775807 - n) < D.size:=by omega
 refine Qq J N (fun a J=>?_) (o:=by exact fun _ _ _ J O=>pD (i:=n) (j:=D.size) J rfl rfl (by omega))
 refine go J N fun a J=>?_
 refine W _ _ _ (by subst f;omega) ⟨(i+1),((n+D.size)),rfl,J.pk,N,?_⟩
 rw [y9p z];omega
 refine Alc J N fun L w N a J=>?_
 refine qH call119 J N (fun N0 w x0 N a J=>?_) (c:=q5a (n:=n) (by have d:=F;have e:=cG l i;omega) N)
 replace N:=N.nf
 refine go J N fun a J=>?_
 have m:0 < l.length:=by omega
 obtain ⟨f0,A⟩:=qX m
 refine Qq J N (fun a J=>?_) (o:=by exact fun _ _ _ J O=>cW 2 0 J O hq rfl rfl A isAgg9)
 replace N:=N.ar [] [1,1]
 refine qH call68 J N (fun r0 w y0 N a J=>?_) (c:=yJ (t:=⟨#[]⟩) (s:=f0) (.inr rfl) (by have M:(⟨#[]⟩:Bs).size=0:=rfl;have d:=cG l 0;have e:=cE A;omega) N)
 replace N:=N.nf
 refine go J N fun a J=>?_
 have c0:=hq.tail m
 refine Qq J N (fun a J=>?_) (o:=by exact fun _ _ _ J O=>z8f J hq rfl rfl runUnderlying25 sizeOf9 m)
 refine go J N fun a J=>?_
 refine mR (fun mm a w=>∃(i:Nat) (bv:Value) (acc:Bs),mm=(l.drop 1).length - i/\EnvR 75 [(1,.string sep),(8,.pointer (some ⟨L,0,none⟩)),(63,qval b (y4g off cap) (cap - 1) (l.drop 1)),(64,.int .i64 (((l.drop 1).length:Nat):Int)),(65,.int .i64 ((i:Nat):Int))] [] a/\Mem V (.blk L (ob [.pointer (some ⟨L,0,none⟩),bv] 130)::.gs (bv) 5 1 (Lib.strCells acc)::qblk b arr::K) w/\(mB sep l=((l.drop 1).drop i).foldl (fun a s=>a++sep++s) acc/\acc.size+pS ((l.drop 1).drop i)+sep.size * ((l.drop 1).length - i)<=70368744177664)) ((l.drop 1).length - 0) ⟨0,r0,(⟨#[]⟩++f0),rfl,J.pk,N,(y9i A hb)⟩ ?_
 clear N J
 rintro mm a w ⟨i,bv,acc,f,J,N,h⟩ G0 X
 obtain ⟨h,q⟩:=h
 refine go J N fun a J=>?_
 by_cases S:i < (l.drop 1).length
 refine go J N fun a J=>?_
 obtain ⟨g0,B⟩:=qX S
 refine Qq J N (fun a J=>?_) (o:=by exact fun _ _ _ J O=>cW 2 i J O c0 rfl rfl B isAgg9)
 replace N:=N.ar [] [1,1]
 refine qH call68 J N (fun B0 w m0 N a J=>?_) (c:=yJ (t:=acc) (s:=sep) (.inr rfl) (by have d:sep.size<=sep.size * ((l.drop 1).length - i):=Nat.le_mul_of_pos_right _ (by omega);omega) N)
 replace N:=N.nf
 replace N:=N.ar [] [1,1]
 refine qH call68 J N (fun h0 w n0 N a J=>?_) (c:=yJ (t:=(acc++sep)) (s:=g0) (.inr rfl) (by have d:sep.size<=sep.size * ((l.drop 1).length - i):=Nat.le_mul_of_pos_right _ (by omega);have e:=cE B;rw [zJ];omega) N)
 replace N:=N.nf
 refine go J N fun a J=>?_
 refine X _ _ _ (by subst f;omega) ⟨(i+1),(h0),(((acc++sep)++g0)),rfl,J.pk,N,?_⟩
 exact y9j B h q
 replace N:=N.ar [] [1,1]
 refine zS call72 J N (fun w N a J=>?_) (c:=aZ (t:=acc) N)
 replace N:=N.nf
 refine zD hQ J N ?_
 rw [h,zE S]
 exact ⟨rfl,N⟩
theorem q9y {p:Option Addr} {c:Nat} {sep:Bs} (N:Mem V K w) :
  Calls prog 67 #[.slice p 0 c,.string sep] w (fun ee w'=>ee=.returned (.string ⟨#[]⟩)/\Mem V K w'):=by
 refine zM func67 ntmps67 fun Q b a J=>?_
 refine Qq J N (fun a J=>?_) (o:=by exact fun _ _ _ J O=>xK true J rfl rfl rfl)
 refine zD b J N ?_
 exact ⟨rfl,N⟩
theorem y3d {v:Value} {l:List Bs} {sep:Bs} (hb:pS l+sep.size * l.length<=70368744177664) (N:Mem V (.gs v 9 1 (strs l)::K) w) :
  Calls prog 67 #[v,.string sep] w (fun ee w'=>ee=.returned (.string (mB sep l))/\Mem V K w'):=by
 by_cases hl:l=[]
 subst hl
 obtain ⟨f,d,c0,rfl,c,_⟩:=N.toSees.gsForm (i:=0) rfl
 have a:d=0:=by simpa [strs] using c.symm
 subst a
 exact q9y N.tail
 obtain ⟨b,cap,arr,rfl,hq,N⟩:=y2p (i:=0) N rfl hl
 exact (x2k hq hb N).mono fun e w' h=>⟨h.1,h.2.tail⟩
end Go.Sw
