import Derived.Laws.IdiomStrings
import Derived.Scope
import Derived.Laws.RangeAny
import Derived.Laws.Runes
import Derived.Laws.StructEq
import Derived.Test.YtgkhcfjooiekkaaGreatDoorX10
set_option linter.unusedVariables false
set_option linter.unusedSimpArgs false
namespace Go.Sw
open Go.Proofs Go.Proofs.Tryz
set_option maxRecDepth 20000
set_option maxHeartbeats 4000000
def aZ (e:Ex):Prop:=(e.kind≠7/\0 < e.arms.length)∨(e.kind≠1/\e.num≠0)
def tyR (c:Core) (e:Ex) (vars:List Param):Option (List Bs×Bs)->Bs×Bool
 | none=>noT
 | some w=>if w.1=(typesR c e.args vars).1 then (w.2,true) else noT
theorem dQ (c:Core) (e:Ex) (vars:List Param):zQ c e vars =
  if (e.kind≠7/\0 < e.arms.length)∨(e.kind≠1/\e.num≠0) then noT
  else if e.kind=1 then (yL,decide (e.name=sNo)&&decide (e.args.length=0))
  else if e.kind=2 then (match gA vars e.name with | some t=>(t,decide (e.args.length=0)) | none=>noT)
  else if e.kind=3 then (match z8k c.inputs e.name with | some t=>(t,decide (e.args.length=0)) | none=>noT)
  else if e.kind=6 then letR c e.name e.args vars
  else if e.kind=7 then (if e.args.length≠1∨e.name≠sNo then noT
   else if (firstR c e.args vars).2=false then noT
   else match qV c.datas (firstR c e.args vars).1 with
    | none=>noT
    | some d=>if d.cons.length≠e.arms.length then noT else armsR c e.arms d.cons true sNo vars)
  else if (typesR c e.args vars).2=false then noT
  else tyR c e vars (wP c e.kind e.name):=by cases e;rfl
def mR (c:Core) (e:Ex) (vars:List Param):Bs×Bool :=
 if e.args.length≠1∨e.name≠sNo then noT
 else if (firstR c e.args vars).2=false then noT
 else match qV c.datas (firstR c e.args vars).1 with
  | none=>noT
  | some d=>if d.cons.length≠e.arms.length then noT else armsR c e.arms d.cons true sNo vars
section
variable {c:Core} {e:Ex} {vars:List Param}
theorem y7o (h:aZ e):zQ c e vars=noT:=by rw [dQ];exact if_pos h
theorem j7t (O:¬aZ e) (h:e.kind=1):zQ c e vars=(yL,decide (e.name=sNo)&&decide (e.args.length=0)):=by rw [dQ,if_neg (show ¬((e.kind≠7/\0 < e.arms.length)∨(e.kind≠1/\e.num≠0)) from O),if_pos h]
theorem j7u (O:¬aZ e) (h:e.kind=2):zQ c e vars=(match gA vars e.name with | some t=>(t,decide (e.args.length=0)) | none=>noT):=by
 rw [dQ,if_neg (show ¬((e.kind≠7/\0 < e.arms.length)∨(e.kind≠1/\e.num≠0)) from O),if_neg (by omega),if_pos h]
theorem j7v (O:¬aZ e) (h:e.kind=3):zQ c e vars=(match z8k c.inputs e.name with | some t=>(t,decide (e.args.length=0)) | none=>noT):=by
 rw [dQ,if_neg (show ¬((e.kind≠7/\0 < e.arms.length)∨(e.kind≠1/\e.num≠0)) from O),if_neg (by omega),if_neg (by omega),if_pos h]
theorem z7c (O:¬aZ e) (h:e.kind=6):zQ c e vars=letR c e.name e.args vars:=by
 rw [dQ,if_neg (show ¬((e.kind≠7/\0 < e.arms.length)∨(e.kind≠1/\e.num≠0)) from O),if_neg (by omega),if_neg (by omega),if_neg (by omega),if_pos h]
theorem typeR_7 (O:¬aZ e) (h:e.kind=7):zQ c e vars=mR c e vars:=by
 rw [dQ,if_neg (show ¬((e.kind≠7/\0 < e.arms.length)∨(e.kind≠1/\e.num≠0)) from O),if_neg (by omega),if_neg (by omega),if_neg (by omega),if_neg (by omega),if_pos h];rfl
theorem q5j (O:¬aZ e) (h1:¬e.kind=1) (h2:¬e.kind=2) (a:¬e.kind=3) (b:¬e.kind=6) (d:¬e.kind=7) :
  zQ c e vars=if (typesR c e.args vars).2=false then noT else tyR c e vars (wP c e.kind e.name):=by
 rw [dQ,if_neg (show ¬((e.kind≠7/\0 < e.arms.length)∨(e.kind≠1/\e.num≠0)) from O),if_neg h1,if_neg h2,if_neg a,if_neg b,if_neg d]
theorem x1v (O:¬aZ e) (h1:¬e.kind=1) (h2:¬e.kind=2) (a:¬e.kind=3) (b:¬e.kind=6) (d:¬e.kind=7) (h:(typesR c e.args vars).2=false):zQ c e vars=noT:=by
 rw [q5j O h1 h2 a b d,if_pos h]
theorem z0c (O:¬aZ e) (h1:¬e.kind=1) (h2:¬e.kind=2) (a:¬e.kind=3) (b:¬e.kind=6) (d:¬e.kind=7) (h:wP c e.kind e.name=none):zQ c e vars=noT:=by
 rw [q5j O h1 h2 a b d,h];split <;> rfl
theorem z4z (O:¬aZ e) (h1:¬e.kind=1) (h2:¬e.kind=2) (b:¬e.kind=3) (d:¬e.kind=6) (f:¬e.kind=7) {wl ts:List Bs} {o:Bs} (h:wP c e.kind e.name=some (wl,o)) (a:typesR c e.args vars=(ts,true)):zQ c e vars=if wl=ts then (o,true) else noT:=by
 rw [q5j O h1 h2 b d f,h,a,if_neg (by simp)];simp only [tyR,a]
theorem want_4 (h:e.kind=4):wP c e.kind e.name=(nC c.datas e.name).map fun m=>(m.con.fields,m.data):=by rw [wP,if_pos h]
theorem want_5 (h:e.kind=5):wP c e.kind e.name=(match gK c.funs e.name with | none=>none | some i=>(c.funs[i]?).map fun f=>(f.params.map Param.type,f.result)):=by rw [wP,if_neg (by omega),if_pos h];rfl
theorem q5l (h:e.kind=8):wP c e.kind e.name=(opR e.name).map fun t=>([yL,yL],t):=by rw [wP,if_neg (by omega),if_neg (by omega),if_pos h]
theorem want_no (a:¬e.kind=4) (b:¬e.kind=5) (d:¬e.kind=8):wP c e.kind e.name=none:=by rw [wP,if_neg a,if_neg b,if_neg d]
theorem letR_no {n:Bs} {l:List Ex} (h:¬l.length=2):letR c n l vars=noT:=by
 cases l with
 | nil=>rfl
 | cons a l=>simp only [letR];rw [if_pos (.inr (by simp only [lcQ] at h;omega))]
theorem pair_of {α:Type} {l:List α} (h:l.length=2) {x y:α} (b:l[0]? = some x) (c:l[1]? = some y):l=[x,y]:=by
 have a:l=x::l.drop 1:=zA b
 have h1:l.drop 1=y::l.drop 2:=zA c
 exact a.trans (by rw [h1,List.drop_of_length_le (by omega)])
theorem q4g {α:Type} {l:List α} {x:α} (a:l[0]? = some x):l=x::l.drop 1:=zA a
theorem j2n {n:Bs} {l:List Ex} {x:Ex} (a:l[0]? = some x) (h:(zQ c x vars).2=false):letR c n l vars=noT:=by
 rw [q4g a];simp only [letR];rw [if_pos (.inl h)]
theorem y5k {n:Bs} {l:List Ex} {x y:Ex} (h:l.length=2) (a:l[0]? = some x) (b:l[1]? = some y) (h1:(zQ c x vars).2=true):letR c n l vars=zQ c y (vars++[⟨n,(zQ c x vars).1⟩]):=by
 rw [pair_of h a b];simp only [letR,firstR];rw [if_neg (by simp [h1])]
theorem y0v (x:Ex) (xs:List Ex):typesR c (x::xs) vars=if (zQ c x vars).2=false then ([],false) else ((zQ c x vars).1::(typesR c xs vars).1,(typesR c xs vars).2):=rfl
theorem nA (a:Arm) (az:List Arm) (x:Con) (cs:List Con) (first:Bool) (out:Bs):armsR c (a::az) (x::cs) first out vars =
  if a.con≠x.name∨a.vars.length≠x.fields.length then noT
  else if (zQ c a.body (vars++jI a.vars x.fields)).2=false∨(first=false/\(zQ c a.body (vars++jI a.vars x.fields)).1≠out) then noT
  else armsR c az cs false (zQ c a.body (vars++jI a.vars x.fields)).1 vars:=by cases a;rfl
theorem q6k (h:e.args.length≠1∨e.name≠sNo):mR c e vars=noT:=if_pos h
theorem z7o {x:Ex} (h:¬(e.args.length≠1∨e.name≠sNo)) (f:e.args[0]? = some x) (h1:(zQ c x vars).2=false∨(qV c.datas (zQ c x vars).1).isSome=false∨((qV c.datas (zQ c x vars).1).getD z4m).cons.length≠e.arms.length):mR c e vars=noT:=by
 have b:firstR c e.args vars=zQ c x vars:=by rw [q4g f];rfl
 unfold mR
 rw [if_neg h,b]
 by_cases g:(zQ c x vars).2=false
 ·rw [if_pos g]
 ·rw [if_neg g]
  have g:=h1.resolve_left g
  cases a:qV c.datas (zQ c x vars).1 with
  | none=>rfl
  | some d=>
   rw [a] at g
   exact if_pos (g.resolve_left (by simp))
theorem x2s {x:Ex} (h:¬(e.args.length≠1∨e.name≠sNo)) (i:e.args[0]? = some x) (h1:(zQ c x vars).2=true) (h2:(qV c.datas (zQ c x vars).1).isSome=true) (a:((qV c.datas (zQ c x vars).1).getD z4m).cons.length=e.arms.length) :
  mR c e vars=armsR c e.arms ((qV c.datas (zQ c x vars).1).getD z4m).cons true sNo vars:=by
 have f:firstR c e.args vars=zQ c x vars:=by rw [q4g i];rfl
 unfold mR
 rw [if_neg h,f,if_neg (by simp [h1])]
 cases b:qV c.datas (zQ c x vars).1 with
 | none=>rw [b] at h2;cases h2
 | some d=>
  rw [b] at a
  exact if_neg (fun g=>g a)
end
theorem j0b {vs fs:List Bs} {k:Nat} {v f:Bs} (b:vs[k]? = some v) (a:fs[k]? = some f):jI (vs.take (k+1)) (fs.take (k+1))=jI (vs.take k) (fs.take k)++[⟨v,f⟩]:=by
 have h1:=(List.getElem?_eq_some_iff.1 b).1
 have h2:=(List.getElem?_eq_some_iff.1 a).1
 rw [xK b,xK a]
 unfold jI
 rw [List.zip_append (by simp only [List.length_take];omega)]
 simp
theorem q7m {l:List Fun} {n:Bs} {j:Nat} (h:gK l n=some j):j < l.length:=by
 have:∀(l:List Fun) (k:Nat),z0m l n k=some j->k<=j/\j < k+l.length:=by
  intro l
  induction l with
  | nil=>intro k h;cases h
  | cons f l a=>
   intro k h
   simp only [z0m] at h
   split at h
   ·cases h;simp
   ·have:=a _ h;simp only [lcQ];omega
 have:=this l 0 h
 omega
theorem z9w {fs:List Fun} {n:Bs} (h:¬aE fs n < 0):∃j,gK fs n=some j:=by
 unfold aE at h
 cases a:gK fs n with
 | none=>rw [a] at h;exact absurd (by decide) h
 | some j=>exact ⟨j,rfl⟩
theorem y2f:∀{es:List Ex} {x:Ex},x∈es->(yH x).length<=(bindPs es).length
 | e::es,x,h=>by
  simp only [bindPs,laQ]
  rcases List.mem_cons.1 h with rfl | h
  ·omega
  ·have:=y2f h;omega
theorem y2e:∀{es:List Arm} {a:Arm},a∈es->a.vars.length+(yH a.body).length<=(bindPa es).length
 | e::es,x,h=>by
  rw [qO]
  simp only [laQ]
  rcases List.mem_cons.1 h with rfl | h
  ·omega
  ·have:=y2e h;omega
theorem sX {e x:Ex} (h:x∈e.args):(yH x).length+(if e.kind=6 then 1 else 0)<=(yH e).length:=by
 have:=y2f h
 rw [dC e]
 simp only [laQ]
 split <;> simp only [lcQ,lnQ] <;> omega
theorem q6g {e:Ex} {a:Arm} (h:a∈e.arms):a.vars.length+(yH a.body).length<=(yH e).length:=by
 have:=y2e h
 rw [dC e]
 simp only [laQ];omega
def Lim (c:Core):Prop:=c.datas.length<=1000/\∀f∈c.funs,f.params.length<=1000
section
variable {P:Program} {n:Nat} {E:List (Nat×Value)} {D:List Deferred} {a:Act} {V:Fz} {K:List Res} {w:World} {ty:TypeId}
theorem cT {x:Operand} {src dst:TypeId} {k b:IntKind} {i:Int} (z:Int) (J:EnvR n E D a) (e:ev E x=some (.int k i)) (O:P.underlying src=some (.int k)) (c:P.underlying dst=some (.int b)) (f:b.wrap i=z):Ok P a (.convert src dst x) ty w (.int b z):=fun _ _ _ _=>by
 have d:P.intKind dst=b:=by simp [Program.intKind,c]
 have:=run_convert_int (P:=P) w src dst k i (by rw [O];rfl) (by rw [d];exact c)
 rw [d,f] at this
 simp only [execOp,J.ev e]
 simp [Sem.run_bind,this,Result.andThen]
theorem j0s (i:Nat) {x:Operand} {src dst e:TypeId} {v:Value} {b:UInt8} (J:EnvR n E D a) (N:Sees V K w) (l:ev E x=some v) (k:qH K i=some (.gs v e 1 [.int .u8 b.toNat])) (O:P.underlying src=some (.slice e)) (he':P.underlying e=some (.int .u8)) (g:P.underlying dst=some .string) :
  Ok P a (.convert src dst x) ty w (.string (xO [b])):=fun _ _ _ _=>by
 rcases N.rowIn (i:=i) k with ⟨_,h⟩ | ⟨q,m,c,rfl,h2,f⟩
 ·cases h
 ·obtain rfl:m=1:=by simpa using h2.symm
  have:=run_convert_bytes_back (P:=P) w src dst e q c [b] O he' g (fun j d=>by
   have:j=0:=by simp at d;exact d
   subst this
   exact f 0 _ rfl)
  simp only [execOp,J.ev l]
  simp only [lcQ,lnQ] at this
  simp [Sem.run_bind,this,Result.andThen,xO]
end
theorem y3v:∀(f g n:Nat),n < f->n < g->gJ f n=gJ g n
 | 0,_,_,h,_=>by omega
 | _+1,0,_,_,h=>by omega
 | f+1,g+1,n,h,h'=>by
  simp only [gJ]
  by_cases a:n < 10
  ·rw [if_pos a,if_pos a]
  ·rw [if_neg a,if_neg a,y3v f g (n / 10) (by omega) (by omega)]
theorem z2l {n:Nat} (h:n < 10):vP n=[(48+n).toUInt8]:=by unfold vP;simp only [gJ,if_pos h];rfl
theorem y3u {n:Nat} (h:¬n < 10):vP n=vP (n / 10)++vP (n % 10):=by
 rw [z2l (n:=n % 10) (by omega)]
 have h1:gJ (n+1) n=(48+n % 10).toUInt8::gJ n (n / 10):=by simp only [gJ,if_neg h]
 unfold vP
 rw [h1,List.reverse_cons,y3v n (n / 10+1) (n / 10) (by omega) (by omega)]
section
variable {P:Program} {n:Nat} {E:List (Nat×Value)} {D:List Deferred} {a:Act} {V:Fz} {K:List Res} {w:World}
variable {Kn:Value->World->Prop} {Qp:List PanicEntry->World->Prop} {dst:Option Tmp} {ty:TypeId} {pos:String} {aft:Array Edge} {g:Option (Nat×Bool)}
theorem y4d {t:TypeId} {x:Operand} {s:Bs} (b:Under P t .string) (J:EnvR n E D a) (N:Mem V K w) (c:ev E x=some (.string s))
  (k:∀r w',Mem V (.blk r (.stringIter s 0)::K) w'->Kn (.pointer (some ⟨r,0,none⟩)) w'):Oper.eff P ⟨dst,.range t x,ty,pos,aft,g⟩ a w Kn Qp:=by
 unfold Oper.eff
 have:(execOp a.eval ⟨dst,.range t x,ty,pos,aft,g⟩).run P w=.ok (.value (.pointer (some ⟨w.heap.size,0,none⟩))) { w with heap:=w.heap.push (.stringIter s 0) }:=by
  simp only [execOp,J.ev c,Instr.range,Sem.run_bind,b w,Result.andThen_ok]
  simp [newObj,Sem.run,Sem.run_bind,Result.andThen]
 rw [this]
 exact k _ _ (N.push _)
theorem q0q (i:Nat) {x:Operand} {r q:Nat} {s:Bs} (J:EnvR n E D a) (N:Mem V K w) (j:ev E x=some (.pointer (some ⟨r,0,none⟩)))
  (h:qH K i=some (.blk r (.stringIter s q)))
  (k:¬q < s.size->∀w',Mem V K w'->Kn (.tuple #[.bool false]) w')
  (l:q < s.size->∀w',Mem V (wI K i (.blk r (.stringIter s (q+(Utf8.decode s q).2)))) w'->Kn (.tuple #[.bool true,.int .i64 q,.int .i32 (((Utf8.decode s q).1:Nat):Int)]) w') :
  Oper.eff P ⟨dst,.next x true,ty,pos,aft,g⟩ a w Kn Qp:=by
 have hr:w.heap[r]? = some (.stringIter s q):=N.own _ (yQ h)
 have d:r < w.heap.size:=(Array.getElem?_eq_some_iff.1 hr).1
 have b:∀o,(setObj r o).run P w=.ok () { w with heap:=w.heap.setIfInBounds r o }:=fun o=>by simp only [setObj,Sem.run,hr]
 unfold Oper.eff
 by_cases hq:q < s.size
 ·have:(execOp a.eval ⟨dst,.next x true,ty,pos,aft,g⟩).run P w=.ok (.value (.tuple #[.bool true,.int .i64 q,.int .i32 (((Utf8.decode s q).1:Nat):Int)])) { w with heap:=w.heap.setIfInBounds r (.stringIter s (q+(Utf8.decode s q).2)) }:=by
   simp only [execOp,J.ev j,Instr.next,getObj,Sem.run_bind,Sem.run,hr,Result.andThen,hq,if_true,b]
   simp [goInt]
  rw [this]
  refine l hq _ (N.upd h rfl rfl (fun c m f=>?_) ?_ (.inl rfl))
  ·simp only;rw [Array.getElem?_setIfInBounds_ne (fun e=>f (by simp [Res.foot,e]))]
  ·simp [Res.sat,d]
 ·have:(execOp a.eval ⟨dst,.next x true,ty,pos,aft,g⟩).run P w=.ok (.value (.tuple #[.bool false])) w:=by
   simp only [execOp,J.ev j,Instr.next,getObj,Sem.run_bind,Sem.run,hr,Result.andThen,hq,if_false]
   simp [Sem.run_pure]
  rw [this]
  exact k hq _ N
theorem j0t {x:Operand} {src d:TypeId} {k:IntKind} {i:Int} (J:EnvR n E D a) (c:ev E x=some (.int k i)) (O:P.underlying src=some (.int k)) (b:P.underlying d=some .string):Ok P a (.convert src d x) ty w (.string (Utf8.encode i)):=fun _ _ _ _=>by
 have:=run_convert_int_string (P:=P) w src d k i (by rw [O];rfl) b
 simp only [execOp,J.ev c]
 simp [Sem.run_bind,this,Result.andThen]
end
theorem z4h (s:Bs) {i:Nat} (h:i < s.size):(s.get! i).toNat=zC s i:=by
 rw [pI h];congr 1;exact get_at s i h
theorem oG {s:Bs} {q:Nat} (h:q < s.size) (hb:zC s q < 128):Utf8.decode s q=(zC s q,1):=by
 have a:(s.get! (q+0)).toNat=zC s q:=z4h s h
 simp only [Utf8.decode,a]
 rw [if_pos hb]
theorem z0z {s:Bs} {q:Nat} (h:q < s.size) (hb:128<=zC s q):128<=(Utf8.decode s q).1/\(Utf8.decode s q).1<=2147483647/\1<=(Utf8.decode s q).2/\∀j,j < (Utf8.decode s q).2->q+j < s.size/\128<=zC s (q+j):=by
 have d:=decode_high s q h (by rw [<- pI h];exact hb)
 refine ⟨d.1,decode_le s q,d.2,?_⟩
 have e:(s.get! (q+0)).toNat=zC s q:=z4h s h
 have a:∀k,(decide (q+k < s.size)&&((s.get! (q+k)).toNat / 64==2))=true->q+k < s.size/\128<=zC s (q+k):=fun k c=>by
  simp only [baQ,decide_eq_true_eq,beq_iff_eq] at c
  have:=z4h s c.1
  exact ⟨c.1,by omega⟩
 have h1:q+0 < s.size/\128<=zC s (q+0):=⟨h,hb⟩
 simp only [Utf8.decode,e]
 rw [if_neg (by omega)]
 have one:∀j,j < 1->q+j < s.size/\128<=zC s (q+j):=fun j b=>(show 0=j by omega)▸h1
 split
 ·rename_i g
  simp only [baQ] at g
  split
  ·intro j b
   rcases (by omega:j=0∨j=1) with rfl | rfl
   ·exact h1
   ·exact a 1 (by simpa using g.2)
  ·exact one
 ·split
  ·rename_i g
   simp only [baQ] at g
   split
   ·intro j b
    rcases (by omega:j=0∨j=1∨j=2) with rfl | rfl | rfl
    ·exact h1
    ·exact a 1 (by simpa using g.1.2)
    ·exact a 2 (by simpa using g.2)
   ·exact one
  ·split
   ·rename_i g
    simp only [baQ] at g
    split
    ·intro j b
     rcases (by omega:j=0∨j=1∨j=2∨j=3) with rfl | rfl | rfl | rfl
     ·exact h1
     ·exact a 1 (by simpa using g.1.1.2)
     ·exact a 2 (by simpa using g.1.2)
     ·exact a 3 (by simpa using g.2)
    ·exact one
   ·exact one
theorem q6y {r:Int} (h:128<=r):1<=(Utf8.encode r).size/\(Utf8.encode r).size<=4/\128<=zC (Utf8.encode r) ((Utf8.encode r).size - 1):=by
 have a:¬(if Utf8.valid r=true then r.toNat else Utf8.runeError) < 128:=by
  split
  ·omega
  ·simp [Utf8.runeError]
 unfold Utf8.encode
 generalize (if Utf8.valid r=true then r.toNat else Utf8.runeError)=c at a
 simp only
 rw [if_neg a]
 split
 ·refine ⟨(by show 1<=2;omega),(by show 2<=4;omega),?_⟩
  show 128<=(UInt8.ofNat (128+c % 64)).toNat
  simp;omega
 ·split
  ·refine ⟨(by show 1<=3;omega),(by show 3<=4;omega),?_⟩
   show 128<=(UInt8.ofNat (128+c % 64)).toNat
   simp;omega
  ·refine ⟨(by show 1<=4;omega),(by show 4<=4;omega),?_⟩
   show 128<=(UInt8.ofNat (128+c % 64)).toNat
   simp;omega
def z2d (r:Nat):Bool:=decide (r < 55296) || (decide (57343 < r)&&decide (r<=1114111))
theorem x5t {s:Bs} {i:Nat} {c:UInt8} (h:∀j,j < s.size->zC s j < 128) (a:s[i]? = some c):c.toNat < 128:=by
 rw [<- zT a]
 refine h i ?_
 by_cases hl:i < s.size
 exact hl
 have:s[i]? = none:=by simp;omega
 rw [this] at a;cases a
theorem ix_none {s:Bs} {i c:Nat} (h:∀j,j < s.size->zC s j < 128) (h1:128<=c) (h2:c < 256):Lib.indexByte (s.extract i s.size).data.toList ((c:Nat):Int).toNat.toUInt8=-1:=by
 have N:¬((c:Nat):Int).toNat.toUInt8∈(s.extract i s.size).data.toList:=fun f=>by
  obtain ⟨j,a⟩:=List.mem_iff_getElem?.1 f
  have b:=q7h a
  rw [y4j b] at a
  injection a with a
  have d:=h (i+j) b
  rw [pI b,a] at d
  simp at d
  omega
 have e:=Lib.contains_iff_indexByte (s.extract i s.size).data.toList ((c:Nat):Int).toNat.toUInt8
 rw [show (s.extract i s.size).data.toList.contains (((c:Nat):Int).toNat.toUInt8)=false by simpa using N] at e
 have g:=of_decide_eq_false e.symm
 have k:=Lib.indexByte_ge (s.extract i s.size).data.toList ((c:Nat):Int).toNat.toUInt8
 omega
theorem q5k {V:Fz} {K:List Res} {w:World} {r:Nat} (N:Mem V K w) :
  Calls prog 214 #[.int .i32 r] w (fun ee w'=>ee=.returned (.bool (z2d r))/\Mem V K w'):=by
 refine zI func214 ntmps214 fun Q hQ a J=>?_
 by_cases d:0<=r
 by_cases e:r < 55296
 rotate_left
 by_cases f:57343 < r
 refine go fun a J=>?_
 by_cases g:r<=1114111
 rotate_left
 rotate_left
 rotate_left
 by_cases b:57343 < r
 by_cases c:r<=1114111
 rotate_left
 rotate_left
 rotate_left
 all_goals (refine zF ?_;exact zJ N (by simp [z2d];omega))
theorem y4y {V:Fz} {K:List Res} {w:World} {s:Bs} {r:Nat} (hr:128<=r) (M:r<=2147483647) (O:∀j,j < s.size->zC s j < 128) (h2:s.size<=1000000) (N:Mem V K w) :
  Calls prog 200 #[.string s,.int .i32 r] w (fun ee w'=>ee=.returned (.int .i64 (-1))/\Mem V K w'):=by
 refine zI func200 ntmps200 fun Q hQ a J=>?_
 refine Qq (fun a J=>?_) (o:=by exact fun J O=>q2y true J rfl rfl (decide_eq_true (Int.ofNat_le.2 (Nat.zero_le r))))
 by_cases S:r < 128
 refine go fun a J=>?_
 exfalso
 omega
 by_cases T:r=65533
 refine go fun a J=>?_
 refine st J rfl rfl rfl (y4d runUnderlying9 J N rfl fun P w N a J=>?_)
 refine go fun a J=>?_
 refine zR (J.ks [175]) N (fun R mm a w=>∃(q:Nat),mm=s.size - q/\R V [] [(0,.blk P (.stringIter s q))] a w/\(True)) (s.size - 0) ⟨0,rfl,⟨J.pk,N⟩,trivial⟩ ?_
 clear N J
 rintro mm a w ⟨q,A,⟨J,N⟩,D⟩ H u
 replace N:=N.nf
 refine go fun a J=>?_
 refine st J rfl rfl rfl (q0q 0 J N rfl rfl (fun G w N a J=>?_) (fun b w N a J=>?_))
 refine zF ?_
 replace N:=N.dl [0]
 exact ⟨rfl,N⟩
 by_cases m:(Utf8.decode s q).1=65533
 refine go fun a J=>?_
 exfalso
 rw [oG b (O _ b)] at m;have h_:=O _ b;have n:=m;simp only at n;omega
 refine go fun a J=>?_
 refine u (s.size - (q+(Utf8.decode s q).2)) _ _ (by subst A;rw [oG b (O _ b)];have h_:=b;omega) ⟨(q+(Utf8.decode s q).2),rfl,⟨J.pk,N⟩,?_⟩
 trivial
 refine zX call214 (fun t w N a J=>?_) (fun t w N a J=>?_) (c:=q5k N)
 refine go fun a J=>?_
 refine wp_scope_straight ?_
 refine Qq (fun a J=>?_) (o:=by exact fun J O=>j0t J rfl underlying21 underlying9)
 refine go fun a J=>?_
 obtain ⟨y,z,h⟩:=q6y (r:=((r:Nat):Int)) (by omega)
 obtain ⟨rs,B⟩:∃rs,rs=Utf8.encode ((r:Nat):Int):=⟨_,rfl⟩
 rw [<- B] at J y z h
 refine Qq (fun a J=>?_) (o:=by exact fun J O=>jT ((rs.size - 1:Nat):Int) J rfl rfl (by rw [yB (by omega)];omega))
 refine go fun a J=>?_
 refine zR (J.ks [0,7,8]) N (fun R mm a w=>∃(i:Nat),mm=s.size - i/\R V [(9,.int .i64 i)] [] a w/\(True)) (s.size - (rs.size - 1)) ⟨rs.size - 1,rfl,⟨J.pk,N⟩,trivial⟩ ?_
 clear N J
 rintro mm a w ⟨i,A,⟨J,N⟩,E⟩ I F
 by_cases C:i < s.size
 refine go fun a J=>?_
 refine wp_scope_straight ?_
 refine Reg [1,1,1,1,1,1,1] [] fun w N a J=>?_
 obtain ⟨k,v⟩:=qJ C
 refine Qq (fun a J=>?_) (o:=by exact fun J O=>yZ i k J rfl rfl runUnderlying9 v)
 have e:rs.size - 1 < rs.size:=by omega
 obtain ⟨l,f⟩:=qJ e
 refine Qq (fun a J=>?_) (o:=by exact fun J O=>yZ (rs.size - 1) l J rfl rfl runUnderlying9 f)
 by_cases L:k.toNat=l.toNat
 refine go fun a J=>?_
 exfalso
 have h_:=x5t O (show s[i]? = some k by assumption)
 have n:=zT f
 omega
 refine Reg [1,1,1,1,1,1,1,0,1] [] fun w N a J=>?_
 refine Qq (fun a J=>?_) (o:=by exact fun J O=>qS (i+1) (s.size) J rfl runUnderlying9 ⟨_,rfl⟩ rfl (by omega) (by exact Nat.le_refl _))
 obtain ⟨d,g⟩:=qJ e
 refine Qq (fun a J=>?_) (o:=by exact fun J O=>yZ (rs.size - 1) d J rfl rfl runUnderlying9 g)
 refine zO call213 (fun w N a J=>?_) (c:=uC (s:=(s.extract (i+1) s.size)) (c:=d.toNat) N)
 by_cases p:Lib.indexByte (s.extract (i+1) s.size).data.toList (((d.toNat:Nat):Int)).toNat.toUInt8 < 0
 refine zF ?_
 exact ⟨rfl,N⟩
 refine go fun a J=>?_
 exfalso
 have h_:=ix_none (i:=i+1) O (show 128<=d.toNat by rw [<- zT g];exact h) (UInt8.toNat_lt _)
 rw [h_] at p
 exact p (by decide)
 refine zF ?_
 exact ⟨rfl,N⟩
 refine zF ?_
 exact ⟨rfl,N⟩
section
variable {V:Fz} {K:List Res} {w:World}
def ixR (s:Bs) (q:Nat):Int:=if zC s q < 128 then Lib.indexByte [32,10,40,41] ((zC s q:Nat):Int).toNat.toUInt8 else -1
theorem j6v {s:Bs} {q:Nat} (h:q < s.size):decide (0<=ixR s q)=oY (zC s q):=by
 unfold ixR
 split
 rw [<- Lib.contains_iff_indexByte,pI h]
 have e:(((s[q].toNat:Nat):Int)).toNat.toUInt8=s[q]:=by simp
 rw [e]
 exact aP _
 have:zC s q≠32/\zC s q≠10/\zC s q≠40/\zC s q≠41:=by omega
 simp [oY,this]
theorem x7d {b:Nat} (h:128<=b):oY b=false:=by
 have:b≠32/\b≠10/\b≠40/\b≠41:=by omega
 simp [oY,this]
theorem j2w {s:Bs} {q:Nat} (h:Lib.NoAny s.data.toList [32,10,40,41] q) (hq:q < s.size) (k:¬0<=ixR s q):Lib.NoAny s.data.toList [32,10,40,41] (q+(Utf8.decode s q).2):=by
 have g:oY (zC s q)=false:=(j6v hq).symm.trans (decide_eq_false k)
 have hb:∀j,j < s.size->∀b,s.data.toList[j]? = some b->b.toNat=zC s j:=fun j d b hb=>by
  rw [Array.getElem?_toList] at hb
  exact (zT (t:=s) (i:=j) (c:=b) hb).symm
 have hl:∀(j:Nat) b,s.data.toList[j]? = some b->j < s.size:=fun j b hb=>by
  have:=(List.getElem?_eq_some_iff.1 hb).1
  rwa [Array.length_toList] at this
 intro j b d f
 by_cases e:j < q
 exact h j b e f
 rw [aP,hb j (hl j b f) b f]
 by_cases a:zC s q < 128
 rw [oG hq a] at d
 simp only at d
 obtain rfl:j=q:=by omega
 exact g
 have h2:=(z0z hq (by omega)).2.2.2 (j - q) (by omega)
 rw [show q+(j - q)=j by omega] at h2
 exact x7d h2.2
theorem x3a {s:Bs} {q:Nat} (h:q < s.size):s.size - (q+(Utf8.decode s q).2) < s.size - q:=by
 by_cases hl:zC s q < 128
 rw [oG h hl];simp only;omega
 have h2:=(z0z h (by omega)).2.2.1
 omega
theorem x0q {s:Bs} {q:Nat} (a:Lib.NoAny s.data.toList [32,10,40,41] q) (hq:¬q < s.size):Lib.indexAny s.data.toList [32,10,40,41]=-1 :=
 Lib.indexAny_none fun j b c d=>a j b (by rw [Array.length_toList] at c;have:s.data.size=s.size:=rfl;omega) d
theorem x0r {s:Bs} {q:Nat} (a:Lib.NoAny s.data.toList [32,10,40,41] q) (hq:q < s.size) (b:0<=ixR s q):Lib.indexAny s.data.toList [32,10,40,41]=((q:Nat):Int) :=
 Lib.indexAny_hit (x:=s[q]) a (by rw [Array.getElem?_toList];exact Array.getElem?_eq_getElem hq) (by rw [aP,<- pI hq,<- j6v hq];exact decide_eq_true b)
theorem y9c {s:Bs} {q:Nat} (hq:q < s.size) (N:Mem V K w) :
  Calls prog 200 #[.string ⟨#[32,10,40,41]⟩,.int .i32 (((Utf8.decode s q).1:Nat):Int)] w (fun ee w'=>ee=.returned (.int .i64 (ixR s q))/\Mem V K w'):=by
 unfold ixR
 by_cases h:zC s q < 128
 rw [oG hq h,if_pos h]
 have L:=Tryz.lays153
 exact (Any.strings_IndexRune_ascii { L with } ⟨#[32,10,40,41]⟩ ((zC s q:Nat):Int) w (by omega) (by omega)).mono fun e w' J=>by obtain ⟨h1,rfl⟩:=J;exact ⟨h1,N⟩
 rw [if_neg h]
 have a:=z0z hq (by omega)
 exact y4y a.1 a.2.1 (by decide) (by decide) N
theorem q5g {n:Nat}  (N:Mem V K w) :
  Calls prog 201 #[.int .i64 (n:Int)] w (fun ee w'=>ee=.returned (.bool (decide (8 < n)))/\Mem V K w'):=by
 refine zI func201 ntmps201 fun Q hQ a J=>?_
 refine Qq (fun a J=>?_) (o:=by exact fun J O=>j5c (i:=n) (j:=8) J rfl rfl)
 refine zF ?_
 exact zJ N (by simp [*])
theorem y4x {s:Bs} (m:s.size<=8) (N:Mem V K w) :
  Calls prog 175 #[.string s,.string ⟨#[32,10,40,41]⟩] w (fun ee w'=>ee=.returned (.int .i64 (Lib.indexAny s.data.toList [32,10,40,41]))/\Mem V K w'):=by
 obtain ⟨ch,b⟩:∃ch:ByteArray,ch=⟨#[32,10,40,41]⟩:=⟨_,rfl⟩
 rw [<- b]
 refine zI func175 ntmps175 fun Q hQ a J=>?_
 by_cases o:ch=(⟨#[]⟩:Bs)
 refine go fun a J=>?_
 exfalso
 have h_:=o;rw [b] at h_;revert h_;decide
 by_cases m:ch.size=1
 refine go fun a J=>?_
 exfalso
 have h_:=m;rw [b] at h_;revert h_;decide
 refine zX call201 (fun e w N a J=>?_) (fun e w N a J=>?_) (c:=q5g N)
 refine go fun a J=>?_
 exfalso
 have h_:=of_decide_eq_true e;omega
 refine go fun a J=>?_
 refine st J rfl rfl rfl (y4d runUnderlying9 J N rfl fun l w N a J=>?_)
 refine go fun a J=>?_
 refine zR (J.ks [1,45]) N (fun R mm a w=>∃(q:Nat),mm=s.size - q/\R V [] [(0,.blk l (.stringIter s q))] a w/\(Lib.NoAny s.data.toList [32,10,40,41] q)) (s.size - 0) ⟨0,rfl,⟨J.pk,N⟩,Lib.NoAny.zero _ _⟩ ?_
 clear N J
 rintro mm a w ⟨q,k,⟨J,N⟩,h⟩ n i
 replace N:=N.nf
 have f:=h
 refine go fun a J=>?_
 refine st J rfl rfl rfl (q0q 0 J N rfl rfl (fun j w N a J=>?_) (fun d w N a J=>?_))
 refine zF ?_
 replace N:=N.dl [0]
 exact ⟨by rw [x0q f j],N⟩
 refine zO call200 (fun w N a J=>?_) (c:=(b▸y9c (s:=s) (q:=q) d N))
 by_cases g:0<=ixR s q
 refine zF ?_
 replace N:=N.dl [0]
 exact ⟨by rw [x0r f d g],N⟩
 refine go fun a J=>?_
 refine i (s.size - (q+(Utf8.decode s q).2)) _ _ (by subst k;exact x3a d) ⟨(q+(Utf8.decode s q).2),rfl,⟨J.pk,N⟩,?_⟩
 exact j2w f d g
theorem j8d {t:Bs} {i:Nat} (h2:t.size<=1000000) (f:i<=t.size) (N:Mem V K w) :
  Calls prog 175 #[.string (t.extract i t.size),.string ⟨#[32,10,40,41]⟩] w (fun ee w'=>ee=.returned (.int .i64 (if i+qD t i < t.size then ((qD t i:Nat):Int) else -1))/\Mem V K w'):=by
 have g:=ByteArray.size_extract (a:=t) (b:=i) (e:=t.size)
 rw [<- j8e f]
 by_cases d:(t.extract i t.size).size<=8
 exact y4x d N
 have L:=Tryz.lays153
 have c:(prog.info? (Tryz.lays153_ren.t 116)).map (fun i=>(i.zero,i.size))=some (some (.agg (Array.replicate 256 (.bool false))),256):=by kernel_rfl
 refine (Any.strings_IndexAny_long L (zero_of_info c).1 (zero_of_info c).2 (t.extract i t.size) ⟨#[32,10,40,41]⟩ w (by decide) (by omega) (by omega) (by decide) ?_).mono fun e w' J=>?_
 intro j b hb
 have hl:(⟨#[32,10,40,41]⟩:Bs).data.toList=[32,10,40,41]:=rfl
 rw [hl] at hb
 have:=mgQ hb
 simp only [List.mem_cons,List.not_mem_nil,or_false] at this
 rcases this with rfl | rfl | rfl | rfl <;> decide
 obtain ⟨rfl,rfl⟩:=J
 exact ⟨rfl,N.below (((Go.RowKit.Below.refl _ _).alloc (Nat.le_refl _) _).alloc (by simp) _)⟩
end
theorem x8l {V:Fz} {K:List Res} {w:World} {t:Bs} (N:Mem V K w) :
  Calls prog 125 #[.string t] w (fun ee w'=>∃y:Nat,ee=.returned (.func (.func 174) #[] #[.pointer (some ⟨y,0,none⟩)])/\True/\Mem V (.blk y (ob [.string t] 9)::K) w'):=by
 refine zI func125 ntmps125 fun Q hQ a J=>?_
 refine Bx fun b w N a J=>?_
 refine zF ?_
 exact ⟨_,rfl,trivial,N⟩
theorem x1x {β:Type} {V:Fz} {w:World} {t:Bs} {bx l:Nat} {KY:List Bs->β->List Res} {z:β} (h2:t.size<=1000000)
  (hy:∀pre z Y (k:Bs) w,pre.length < t.size->Mem V (Y++KY pre z) w->YieldAt Fence.wide 2 prog l #[.string k] w (fun e w'=>e=.returned (.bool true)/\∃z',Mem V (Y++KY (pre++[k]) z') w'))
  (N:Mem V (.blk bx (ob [.string t] 9)::KY [] z) w) :
  Calls prog 174 #[.func (.yield l) #[] #[],.pointer (some ⟨bx,0,none⟩)] w (fun ee w'=>∃y:β,ee=.returned (.tuple #[])/\Mem V (KY (vE t) y) w'):=by
 refine zI func174 ntmps174 fun Q hQ a J=>?_
 refine go fun a J=>?_
 refine mN (fun mm a w=>∃(i:Nat) (f:Nat) (pre:List Bs) (z0:β),mm=t.size - i/\EnvR 52 [(0,.func (.yield l) #[] #[]),(1,.pointer (some ⟨bx,0,none⟩)),(3,.int .i64 i)] [] a/\Mem V (.blk bx (ob [.string t] 9)::KY pre z0) w/\(i<=t.size/\pre.length<=i/\t.size<=i+f/\vE t=pre++vW t f i)) (t.size - 0) ⟨0,t.size,[],z,rfl,J.pk,N,⟨Nat.zero_le _,Nat.zero_le _,by omega,rfl⟩⟩ ?_
 clear N J
 rintro mm a w ⟨i,f,pre,z0,u,J,N,T⟩ L2 s
 obtain ⟨c0,d0,f0,p⟩:=T
 by_cases B:i < t.size
 obtain ⟨A,b⟩:=qJ B
 refine Qq (fun a J=>?_) (o:=by exact fun J O=>yZ i A J rfl rfl runUnderlying9 b)
 refine goJ 10 fun a J=>?_
 refine sq fun P K=>?_
 have g:∀a w,(EnvR 52 [(0,.func (.yield l) #[] #[]),(1,.pointer (some ⟨bx,0,none⟩)),(3,.int .i64 i),(11,.int .u8 A.toNat),(34,.bool (decide (zC t i=32∨zC t i=10)))] [] a/\Mem V (.blk bx (ob [.string t] 9)::KY pre z0) w/\(True))->P a w:=by
  clear N J
  rintro a w ⟨J,N,Z⟩
  apply K
  generalize d:(decide (zC t i=32∨zC t i=10))=C at J
  cases C
  refine goJ 13 fun a J=>?_
  refine sq fun R L=>?_
  have m:∀a w,(EnvR 52 [(0,.func (.yield l) #[] #[]),(1,.pointer (some ⟨bx,0,none⟩)),(3,.int .i64 i),(39,.bool (decide (zC t i=40∨zC t i=41)))] [] a/\Mem V (.blk bx (ob [.string t] 9)::KY pre z0) w/\(True))->R a w:=by
   clear N J
   rintro a w ⟨J,N,a0⟩
   apply L
   generalize n:(decide (zC t i=40∨zC t i=41))=D at J
   cases D
   have g0:=z0i (t:=t) (i:=i) (by omega)
   have i0:=j0j B (of_decide_eq_false d) (of_decide_eq_false n)
   refine Qq (fun a J=>?_) (o:=by exact fun J O=>qS i (t.size) J rfl runUnderlying9 ⟨_,rfl⟩ rfl (by omega) (by exact Nat.le_refl _))
   refine zO call175 (fun w N a J=>?_) (c:=j8d (i:=i) (by omega) (by omega) N)
   refine goJ 6 fun a J=>?_
   refine sq fun S M=>?_
   have q:∀a w,(EnvR 52 [(0,.func (.yield l) #[] #[]),(1,.pointer (some ⟨bx,0,none⟩)),(3,.int .i64 i),(4,.int .i64 ((qD t i:Nat):Int))] [] a/\Mem V (.blk bx (ob [.string t] 9)::KY pre z0) w/\(True))->S a w:=by
    clear N J
    rintro a w ⟨J,N,b0⟩
    apply M
    refine go1 fun a J=>?_
    refine z0j ?_
    refine mS J (by intro c h;cases h) (xZ J rfl) rfl fun a J=>?_
    refine mS J (by intro c h;cases h) (pC 0 J N.toSees rfl rfl rfl isAgg9) rfl fun a J=>?_
    refine mS J (by intro c h;cases h) (xZ J rfl) rfl fun a J=>?_
    refine mS J (by intro c h;cases h) (xZ J rfl) rfl fun a J=>?_
    refine mS J (by intro c h;cases h) (xZ J rfl) rfl fun a J=>?_
    refine mS J (by intro c h;cases h) (pH (i:=i) (j:=qD t i) J rfl rfl (by omega)) rfl fun a J=>?_
    refine mS J (by intro c h;cases h) (qS i (i+qD t i) J rfl runUnderlying9 ⟨_,rfl⟩ ⟨_,rfl⟩ (by omega) (by omega)) rfl fun a J=>?_
    refine y4w (v:=.string (t.extract i (i+qD t i))) J rfl rfl rfl (hy pre z0 [.blk bx (ob [.string t] 9)] (t.extract i (i+qD t i)) w (by omega) N) fun w r a J=>?_
    obtain ⟨W,N⟩:=r
    replace N:=N.nf
    refine mS J (by intro c h;cases h) (q3a J rfl) rfl fun a J=>?_
    refine wpListIn_nil ?_
    refine Qq (fun a J=>?_) (o:=by exact fun J O=>pH (i:=i) (j:=(qD t i)) J rfl rfl (by omega))
    refine go fun a J=>?_
    refine s _ _ _ (by subst u;omega) ⟨((i+(qD t i))),(f - 1),(pre++[(t.extract i (i+qD t i))]),(W),rfl,J.pk,N,?_⟩
    exact ⟨by omega,by simp only [laQ,lcQ,lnQ];omega,by omega,by rw [p,y7s B (by omega) (of_decide_eq_false d) (of_decide_eq_false n),List.append_assoc];rfl⟩
   by_cases E:(if i+qD t i < t.size then ((qD t i:Nat):Int) else -1) < 0
   have h0:=x8j (by omega) E
   refine Qq (fun a J=>?_) (o:=by exact fun J O=>jT ((qD t i:Nat):Int) J rfl rfl (by rw [yB (by omega)];omega))
   refine go fun a J=>?_
   exact q _ _ ⟨J.pk,N,trivial⟩
   refine go fun a J=>?_
   rw [x8k E] at J
   exact q _ _ ⟨J.pk,N,trivial⟩
   refine go1 fun a J=>?_
   refine z0j ?_
   refine mS J (by intro c h;cases h) (xZ J rfl) rfl fun a J=>?_
   refine mS J (by intro c h;cases h) (pC 0 J N.toSees rfl rfl rfl isAgg9) rfl fun a J=>?_
   refine mS J (by intro c h;cases h) (xZ J rfl) rfl fun a J=>?_
   refine mS J (by intro c h;cases h) (xZ J rfl) rfl fun a J=>?_
   refine mS J (by intro c h;cases h) (pH (i:=i) (j:=1) J rfl rfl (by omega)) rfl fun a J=>?_
   refine mS J (by intro c h;cases h) (qS i (i+1) J rfl runUnderlying9 ⟨_,rfl⟩ ⟨_,rfl⟩ (by omega) (by omega)) rfl fun a J=>?_
   refine y4w (v:=.string (t.extract i (i+1))) J rfl rfl rfl (hy pre z0 [.blk bx (ob [.string t] 9)] (t.extract i (i+1)) w (by omega) N) fun w r a J=>?_
   obtain ⟨X,N⟩:=r
   replace N:=N.nf
   refine mS J (by intro c h;cases h) (q3a J rfl) rfl fun a J=>?_
   refine wpListIn_nil ?_
   refine go fun a J=>?_
   refine s _ _ _ (by subst u;omega) ⟨((i+1)),(f - 1),(pre++[(t.extract i (i+1))]),(X),rfl,J.pk,N,?_⟩
   exact ⟨by omega,by simp only [laQ,lcQ,lnQ];omega,by omega,by rw [p,q2w B (by omega) (of_decide_eq_false d) (of_decide_eq_true n),List.append_assoc];rfl⟩
  by_cases F:A.toNat=40
  refine go fun a J=>?_
  exact m _ _ (by rw [show decide (zC t i=40∨zC t i=41)=true from decide_eq_true (.inl ((zT b).trans F))];exact ⟨J.pk,N,trivial⟩)
  by_cases G:A.toNat=41
  refine go fun a J=>?_
  exact m _ _ (by rw [show decide (zC t i=40∨zC t i=41)=true from decide_eq_true (.inr ((zT b).trans G))];exact ⟨J.pk,N,trivial⟩)
  refine go fun a J=>?_
  exact m _ _ (by rw [show decide (zC t i=40∨zC t i=41)=false from decide_eq_false (by rw [zT b];exact fun U=>U.elim F G)];exact ⟨J.pk,N,trivial⟩)
  refine go fun a J=>?_
  refine s _ _ _ (by subst u;omega) ⟨(i+1),(f - 1),(pre),(z0),rfl,J.pk,N,?_⟩
  exact ⟨by omega,by omega,by omega,by rw [p,j0m B (by omega) (of_decide_eq_true d)]⟩
 by_cases H:A.toNat=32
 refine go fun a J=>?_
 exact g _ _ (by rw [show decide (zC t i=32∨zC t i=10)=true from decide_eq_true (.inl ((zT b).trans H))];exact ⟨J.pk,N,trivial⟩)
 by_cases I:A.toNat=10
 refine go fun a J=>?_
 exact g _ _ (by rw [show decide (zC t i=32∨zC t i=10)=true from decide_eq_true (.inr ((zT b).trans I))];exact ⟨J.pk,N,trivial⟩)
 refine go fun a J=>?_
 exact g _ _ (by rw [show decide (zC t i=32∨zC t i=10)=false from decide_eq_false (by rw [zT b];exact fun U=>U.elim H I)];exact ⟨J.pk,N,trivial⟩)
 refine go fun a J=>?_
 replace N:=N.dl [0]
 refine hQ _ _ _ (aM J results174 ?_)
 rw [p,z3d B,List.append_nil];exact ⟨z0,rfl,N⟩
theorem x1d {V:Fz} {K:List Res} {w:World} {a:Act} {D:List Deferred} {Q:Exit->Act->World->Prop} {rs:Value} {ws:List Bs} {c0 wd rp r:Nat} (G:Glob V) (hE:tU ws 250) (rl:SliceOf RStr V 1 rs ws) (k0:ws.length<=1000000)
  (hR:∀{Ψ:Fz} {a:Act} {w:World} {C:Core} {E F H I:Value},qW ws (ws.length+1) ⟨[],[],[],[]⟩ 0=.ok C->V.Le Ψ->SliceOf RData Ψ 2 E C.datas->SliceOf RParam Ψ 2 F C.inputs->SliceOf RFun Ψ 8 H C.funs->EnvR 96 [(3,.pointer (some ⟨wd,0,none⟩)),(2,.pointer (some ⟨c0,0,none⟩))] D a->Mem Ψ (.blk c0 (ob [E,F,H,I] 27)::.blk wd (ob [.int .i64 ((0:Nat):Int)] 3)::.gs I 9 1 (strs C.outputs)::K) w->Q .ret a w)
  (hP:∀{Ψ:Fz} {a:Act} {w:World} {n:Nat} {E F H I x:Value},qW ws (ws.length+1) ⟨[],[],[],[]⟩ 0=.error n->V.Le Ψ->EnvR 96 [(3,.pointer (some ⟨wd,0,none⟩)),(2,.pointer (some ⟨c0,0,none⟩))] D a->Mem Ψ (.blk c0 (ob [E,F,H,I] 27)::.blk wd (ob [x] 3)::K) w->Q (.panic (nI n)) a w)
  (J:EnvR 96 [(2,.pointer (some ⟨c0,0,none⟩)),(3,.pointer (some ⟨wd,0,none⟩)),(4,.pointer (some ⟨rp,0,none⟩))] D a) (N:Mem V (.blk r (ob [rs,.int .i64 ((0:Nat):Int)] 208)::.blk rp (ob [.pointer (some ⟨r,0,none⟩)] 206)::.blk c0 (ob [.slice none 0 0,.slice none 0 0,.slice none 0 0,.slice none 0 0] 27)::.blk wd (ob [.int .i64 ((0:Nat):Int)] 3)::K) w) :
  (seqR (seqR (seqR (seqR (Tryz.f74.body.getD .skip))))).wp prog Q a w:=by
 obtain ⟨pw,cw,rfl,H1,V0⟩:=rl.fm
 change (Code.seq _ _).wp _ _ _ _
 refine go fun a J=>?_
 replace N:=N.nilRow 133 2
 replace N:=N.nf
 replace N:=N.nilRow 72 2
 replace N:=N.nf
 replace N:=N.nilRow 68 8
 replace N:=N.nf
 replace N:=N.nilRow 9 1
 replace N:=N.nf
 refine zR (J.ks [2,3,4]) N (fun R mm a w=>∃(Ψ2:Fz) (j:Nat) (f:Nat) (E:Value) (F:Value) (H:Value) (I:Value) (d0:List Value) (d1:List Value) (d2:List Value) (C:Core),mm=ws.length - j/\R Ψ2 [] [(0,.gs (I) 9 1 (strs C.outputs)),(1,.gs (H) 68 8 d2),(2,.gs (F) 72 2 d1),(3,.gs (E) 133 2 d0),(4,.blk r (ob [.slice pw ws.length cw,.int .i64 j] 208)),(6,.blk c0 (ob [E,F,H,I] 27))] a w/\(V.Le Ψ2/\(Chunks (RData Ψ2) 2 d0 C.datas/\Chunks (RParam Ψ2) 2 d1 C.inputs/\Chunks (RFun Ψ2) 8 d2 C.funs/\(C.datas.length<=j/\C.inputs.length<=j/\C.funs.length<=j/\C.outputs.length<=j)/\j<=ws.length/\ws.length+1<=j+f/\qW ws (ws.length+1) ⟨[],[],[],[]⟩ 0=qW ws f C j))) (ws.length - 0) ⟨V,0,ws.length+1,.slice none 0 0,.slice none 0 0,.slice none 0 0,.slice none 0 0,[],[],[],⟨[],[],[],[]⟩,rfl,⟨J.pk,N⟩,⟨Fz.Le.refl _,⟨rfl,rfl,rfl,⟨Nat.le_refl _,Nat.le_refl _,Nat.le_refl _,Nat.le_refl _⟩,Nat.zero_le _,by omega,rfl⟩⟩⟩ ?_
 clear N J
 rintro mm a w ⟨Ψ2,j,f,E,F,H,I,d0,d1,d2,C,n0,⟨J,N⟩,w0⟩ L4 m0
 replace N:=N.nf
 obtain ⟨v,w0⟩:=w0
 replace rl:=rl.up v
 replace G:=G.mono v
 obtain ⟨g,d,c,j1,hj,G1,z⟩:=w0
 refine Reg [2,1,1,2,2,1,1,2,1,1] [0,1,2,3,4,5,6,7] fun w N a J=>?_
 by_cases h8:j < ws.length
 refine Sto 4 fun w N a J=>?_
 refine Reg [2,1,1,2,2,1,1,2,1,1,2] [0,1,2,3,4,5,6,7] fun w N a J=>?_
 refine Qq (fun a J=>?_) (o:=by exact fun J O=>jT ((j:Nat):Int) J rfl rfl (by rw [yB (by omega)];omega))
 obtain ⟨K1,rfl,l0,b,y0,i1,U,A0⟩:=rl.el V0 h8
 obtain rfl:y0=[.string l0]:=A0
 by_cases A:l0=(⟨#[100,97,116,97]⟩:Bs)
 refine go fun a J=>?_
 refine gZ (E0:=[(3,.pointer (some ⟨wd,0,none⟩)),(2,.pointer (some ⟨c0,0,none⟩))]) [1,2,2,0,0,0,1,0] (.q 0 (.q 1 (.q 2 (.e 3 (.e 4 (.e 5 (.q 6 (.e 7 (.done))))))))) [.gs (I) 9 1 (strs C.outputs),.gs (H) 68 8 d2,.gs (F) 72 2 d1,.blk rp (ob [.pointer (some ⟨r,0,none⟩)] 206),.blk c0 (ob [E,F,H,I] 27),.blk wd (ob [.int .i64 ((0:Nat):Int)] 3)] (J.pk) N mixed (by kernel_rfl) (by simp) (by kernel_rfl) fun w N=>?_
 refine go fun a J=>?_
 replace N:=N.pl 4
 refine d_e J rfl rfl rfl (z8b J rfl call126 (x6k G (i:=(j+1)) rl k0 (by omega) N) (fun S e1 w W r0 N=>⟨fun _=>N.sn ((Fz.Le.refl _).trans (r0.1)),fun a J=>?_⟩) (fun S w W N=>fun a J=>?_))
 obtain ⟨C0,A1⟩:=e1
 obtain ⟨t,g0⟩:=r0
 simp only at t g0 N J
 have Q0:=data_le W
 replace rl:=rl.up t
 replace G:=G.mono t
 replace g:=g.mono fun _ _ h=>h.up t
 replace d:=d.mono fun _ _ h=>RParam.mono _ _ _ _ t h
 replace c:=c.mono fun _ _ h=>h.up t
 replace U:=U.mono t
 replace N:=N.nf
 obtain ⟨L1,rfl,N0⟩:=id g0
 obtain ⟨W0,J0,rfl,k1,q1⟩:=N0.fm
 refine yK fun N1 w N a J=>?_
 refine yU 5 q9l (fun a1 w N a J=>?_) (hb:=by have h_:=g.length;rw [h_];simp only [lcQ,lnQ];omega)
 refine Sto 7 fun w N a J=>?_
 refine go fun a J=>?_
 replace N:=N.ar [0] [7,7,7,3,7,7,7,7]
 refine m0 _ _ _ (by subst n0;omega) ⟨(C0),(S.2),(f - 1),(a1),(F),(H),(I),((d0++[.string S.1.name,.slice W0 S.1.cons.length J0])),(d1),(d2),({ C with datas:=C.datas++[S.1] }),rfl,⟨J.pk,by exact N⟩,?_⟩
 refine ⟨(v).trans t,?_⟩
 exact ⟨(g.snoc (k:=2) (x:=S.1) rfl g0),d,c,⟨by show (C.datas++[S.1]).length<=_;simp only [laQ,lcQ,lnQ];omega,by show C.inputs.length<=_;omega,by show C.funs.length<=_;omega,by show C.outputs.length<=_;omega⟩,by omega,by omega,z.trans (j1o h8 (by omega) ((jL b).trans A) W)⟩
 replace N:=N.dl [4,3,2,1,0]
 exact hP (z.trans (q6u h8 (by omega) ((jL b).trans A) W)) (v) (J.pk) N
 by_cases P:l0=(⟨#[105,110,112,117,116]⟩:Bs)
 refine go fun a J=>?_
 refine gZ (E0:=[(3,.pointer (some ⟨wd,0,none⟩)),(2,.pointer (some ⟨c0,0,none⟩))]) [1,2,2,0,0,0,1,0] (.q 0 (.q 1 (.q 2 (.e 3 (.e 4 (.e 5 (.q 6 (.e 7 (.done))))))))) [.gs (I) 9 1 (strs C.outputs),.gs (H) 68 8 d2,.gs (E) 133 2 d0,.blk rp (ob [.pointer (some ⟨r,0,none⟩)] 206),.blk c0 (ob [E,F,H,I] 27),.blk wd (ob [.int .i64 ((0:Nat):Int)] 3)] (J.pk) N mixed (by kernel_rfl) (by simp) (by kernel_rfl) fun w N=>?_
 refine go fun a J=>?_
 replace N:=N.pl 4
 refine d_e J rfl rfl rfl (z7z J rfl call127 (q2d G (i:=(j+1)) rl k0 (by omega) N) (fun T w X N=>⟨fun _=>N.sn (Fz.Le.refl _),fun a J=>?_⟩) (fun T w X N=>fun a J=>?_))
 have H0:=q8q X
 refine yK fun O1 w N a J=>?_
 refine yU 4 z0o (fun b1 w N a J=>?_) (hb:=by have h_:=d.length;rw [h_];simp only [lcQ,lnQ];omega)
 refine Sto 7 fun w N a J=>?_
 refine go fun a J=>?_
 replace N:=N.ar [0] [7,7,7,3,7,7,7,7]
 refine m0 _ _ _ (by subst n0;omega) ⟨(Ψ2),(T.2),(f - 1),(E),(b1),(H),(I),(d0),((d1++[.string T.1.name,.string T.1.type])),(d2),({ C with inputs:=C.inputs++[T.1] }),rfl,⟨J.pk,by exact N⟩,?_⟩
 refine ⟨v,?_⟩
 exact ⟨g,(d.snoc (k:=2) (x:=T.1) rfl rfl),c,⟨by show C.datas.length<=_;omega,by show (C.inputs++[T.1]).length<=_;simp only [laQ,lcQ,lnQ];omega,by show C.funs.length<=_;omega,by show C.outputs.length<=_;omega⟩,by omega,by omega,z.trans (q6v h8 (by omega) (fun h_=>A ((jL b).symm.trans h_)) ((jL b).trans P) X)⟩
 replace N:=N.dl [4,3,2,1,0]
 exact hP (z.trans (q3o h8 (by omega) (fun h_=>A ((jL b).symm.trans h_)) ((jL b).trans P) X)) (v) (J.pk) N
 by_cases b0:l0=(⟨#[102,117,110]⟩:Bs)
 refine go fun a J=>?_
 refine gZ (E0:=[(3,.pointer (some ⟨wd,0,none⟩)),(2,.pointer (some ⟨c0,0,none⟩))]) [1,2,2,0,0,0,1,0] (.q 0 (.q 1 (.q 2 (.e 3 (.e 4 (.e 5 (.q 6 (.e 7 (.done))))))))) [.gs (I) 9 1 (strs C.outputs),.gs (F) 72 2 d1,.gs (E) 133 2 d0,.blk rp (ob [.pointer (some ⟨r,0,none⟩)] 206),.blk c0 (ob [E,F,H,I] 27),.blk wd (ob [.int .i64 ((0:Nat):Int)] 3)] (J.pk) N mixed (by kernel_rfl) (by simp) (by kernel_rfl) fun w N=>?_
 refine go fun a J=>?_
 replace N:=N.pl 4
 refine d_e J rfl rfl rfl (z8b J rfl call128 (rfun_ok hE G (i:=(j+1)) rl k0 (by omega) N) (fun p f1 w Y s0 N=>⟨fun _=>N.sn ((Fz.Le.refl _).trans (s0.1)),fun a J=>?_⟩) (fun p w Y N=>fun a J=>?_))
 obtain ⟨D0,B1⟩:=f1
 obtain ⟨u,h0⟩:=s0
 simp only at u h0 N J
 have R0:=fun_le Y
 replace rl:=rl.up u
 replace G:=G.mono u
 replace g:=g.mono fun _ _ h=>h.up u
 replace d:=d.mono fun _ _ h=>RParam.mono _ _ _ _ u h
 replace c:=c.mono fun _ _ h=>h.up u
 replace U:=U.mono u
 replace N:=N.nf
 obtain ⟨M1,x1,rfl,O0,P0⟩:=id h0
 obtain ⟨X0,K0,rfl,l1,r1⟩:=O0.fm
 obtain ⟨Y0,L0,Z0,M0,rfl,h1,C1,D1,m1,s1,n1,t1⟩:=REx.fm P0
 refine yK fun v75 w N a J=>?_
 refine yU 3 rt_24 (fun v76 w N a J=>?_) (hb:=by have h_:=c.length;rw [h_];simp only [lcQ,lnQ];omega)
 refine Sto 7 fun w N a J=>?_
 refine go fun a J=>?_
 replace N:=N.ar [0] [7,7,7,3,7,7,7,7]
 refine m0 _ _ _ (by subst n0;omega) ⟨(D0),(p.2),(f - 1),(E),(F),(v76),(I),(d0),(d1),((d2++[.string p.1.name,.slice X0 p.1.params.length K0,.string p.1.result,.int .i64 (p.1.body.kind),.int .i64 (p.1.body.num),.string p.1.body.name,.slice Y0 p.1.body.args.length L0,.slice Z0 p.1.body.arms.length M0])),({ C with funs:=C.funs++[p.1] }),rfl,⟨J.pk,by exact N⟩,?_⟩
 refine ⟨(v).trans u,?_⟩
 exact ⟨g,d,(c.snoc (k:=8) (x:=p.1) rfl h0),⟨by show C.datas.length<=_;omega,by show C.inputs.length<=_;omega,by show (C.funs++[p.1]).length<=_;simp only [laQ,lcQ,lnQ];omega,by show C.outputs.length<=_;omega⟩,by omega,by omega,z.trans (j8v h8 (by omega) (fun h_=>A ((jL b).symm.trans h_)) (fun h_=>P ((jL b).symm.trans h_)) ((jL b).trans b0) Y)⟩
 replace N:=N.dl [4,3,2,1,0]
 exact hP (z.trans (j1p h8 (by omega) (fun h_=>A ((jL b).symm.trans h_)) (fun h_=>P ((jL b).symm.trans h_)) ((jL b).trans b0) Y)) (v) (J.pk) N
 refine go fun a J=>?_
 by_cases t0:l0=(⟨#[111,117,116,112,117,116]⟩:Bs)
 refine go fun a J=>?_
 refine gZ (E0:=[(3,.pointer (some ⟨wd,0,none⟩)),(2,.pointer (some ⟨c0,0,none⟩))]) [1,2,2,0,0,0,1,0] (.q 0 (.q 1 (.q 2 (.e 3 (.e 4 (.e 5 (.q 6 (.e 7 (.done))))))))) [.gs (H) 68 8 d2,.gs (F) 72 2 d1,.gs (E) 133 2 d0,.blk rp (ob [.pointer (some ⟨r,0,none⟩)] 206),.blk c0 (ob [E,F,H,I] 27),.blk wd (ob [.int .i64 ((0:Nat):Int)] 3)] (J.pk) N mixed (by kernel_rfl) (by simp) (by kernel_rfl) fun w N=>?_
 refine go fun a J=>?_
 replace N:=N.pl 4
 refine d_e J rfl rfl rfl (z7z J rfl call129 (aN G (i:=(j+1)) rl k0 (by omega) N) (fun q0 w Z N=>⟨fun _=>N.sn (Fz.Le.refl _),fun a J=>?_⟩) (fun q0 w Z N=>fun a J=>?_))
 have I0:=jW Z
 refine yK fun P1 w N a J=>?_
 refine yU 2 vA (fun c1 w N a J=>?_) (hb:=by simp [zZ];omega)
 refine Sto 7 fun w N a J=>?_
 refine go fun a J=>?_
 first | rw [qM] at N | rw [<- yE] at N
 replace N:=N.ar [0] [7,7,7,3,7,7,7,7]
 refine m0 _ _ _ (by subst n0;omega) ⟨(Ψ2),(q0.2),(f - 1),(E),(F),(H),(c1),(d0),(d1),(d2),({ C with outputs:=C.outputs++[q0.1] }),rfl,⟨J.pk,by exact N⟩,?_⟩
 refine ⟨v,?_⟩
 exact ⟨g,d,c,⟨by show C.datas.length<=_;omega,by show C.inputs.length<=_;omega,by show C.funs.length<=_;omega,by show (C.outputs++[q0.1]).length<=_;simp only [laQ,lcQ,lnQ];omega⟩,by omega,by omega,z.trans (j8w h8 (by omega) (fun h_=>A ((jL b).symm.trans h_)) (fun h_=>P ((jL b).symm.trans h_)) (fun h_=>b0 ((jL b).symm.trans h_)) ((jL b).trans t0) Z)⟩
 replace N:=N.dl [4,3,2,1,0]
 exact hP (z.trans (j1q h8 (by omega) (fun h_=>A ((jL b).symm.trans h_)) (fun h_=>P ((jL b).symm.trans h_)) (fun h_=>b0 ((jL b).symm.trans h_)) ((jL b).trans t0) Z)) (v) (J.pk) N
 refine Qq (fun a J=>?_) (o:=by exact fun J O=>jT ((j:Nat):Int) J rfl rfl (by rw [yB (by omega)];omega))
 refine Sto 4 fun w N a J=>?_
 refine go fun a J=>?_
 replace N:=N.pl 4
 refine stP J rfl rfl rfl (hO J rfl call130 (tP (i:=j) rl k0 (by omega) N) (fun w N=>fun a J=>?_))
 replace N:=N.dl [4,3,2,1,0]
 exact hP (z.trans (j8t h8 (by omega) (fun h_=>A ((jL b).symm.trans h_)) (fun h_=>P ((jL b).symm.trans h_)) (fun h_=>b0 ((jL b).symm.trans h_)) (fun h_=>t0 ((jL b).symm.trans h_)))) (v) (J.pk) N
 refine go fun a J=>?_
 have s:=N
 clear N
 obtain ⟨F0,L,N,o0⟩:=s.freezeRow (i:=3) rfl
 clear s
 replace G:=G.mono L
 replace g:=g.mono fun _ _ h=>h.up L
 replace d:=d.mono fun _ _ h=>RParam.mono _ _ _ _ L h
 replace c:=c.mono fun _ _ h=>h.up L
 replace N:=N.nf
 have m:SliceOf RData F0 2 _ (C.datas):=⟨_,o0,g⟩
 obtain ⟨I1,y1,j0,o1,v1⟩:=m.form (by decide)
 have l:=N
 clear N
 subst j0
 have N:=l
 clear l
 have s:=N
 clear N
 obtain ⟨G0,M,N,p0⟩:=s.freezeRow (i:=2) rfl
 clear s
 replace G:=G.mono M
 replace d:=d.mono fun _ _ h=>RParam.mono _ _ _ _ M h
 replace c:=c.mono fun _ _ h=>h.up M
 replace m:=m.up M
 replace N:=N.nf
 have B:SliceOf RParam G0 2 _ (C.inputs):=⟨_,p0,d⟩
 obtain ⟨J1,z1,j0,p1,T0⟩:=B.form (by decide)
 have l:=N
 clear N
 subst j0
 have N:=l
 clear l
 have s:=N
 clear N
 obtain ⟨x0,y,N,i0⟩:=s.freezeRow (i:=1) rfl
 clear s
 replace G:=G.mono y
 replace c:=c.mono fun _ _ h=>h.up y
 replace m:=m.up y
 replace B:=B.up y
 replace N:=N.nf
 have a0:SliceOf RFun x0 8 _ (C.funs):=⟨_,i0,c⟩
 obtain ⟨w1,g1,j0,S0,U0⟩:=a0.form (by decide)
 have l:=N
 clear N
 subst j0
 have N:=l
 clear l
 obtain ⟨p3,m3,q3,B0,_,_⟩:=N.toSees.gsForm (i:=0) rfl
 have l:=N
 clear N
 subst B0
 have N:=l
 clear l
 refine Sto 3 fun w N a J=>?_
 refine Sto 4 fun w N a J=>?_
 refine go fun a J=>?_
 replace N:=N.ar [2,1] [2,2]
 exact hR (z.trans (j8u h8 (by omega))) ((((v).trans L).trans M).trans y) m B a0 (J.pk) N
abbrev wrongRE (n:Nat) (r:Bool):PanicEntry:={ v:=.iface 204 (.agg #[.int .i64 n]),recovered:=r }
theorem x4k:zM prog 204 0 0:=zG runUnderlying204 rfl sizeOf3 (by decide) rfl
set_option maxRecDepth 20000 in
set_option maxHeartbeats 4000000 in
theorem q3m {V:Fz} {K:List Res} {w:World} {bc bw n:Nat} {s t u v x:Value} (N:Mem V (.blk bc (ob [s,t,u,v] 27)::.blk bw (ob [x] 3)::K) w) :
  CallsD prog 124 #[.pointer (some ⟨bc,0,none⟩),.pointer (some ⟨bw,0,none⟩)] (.panicking (nI n)) w fun e u' w'=>
   e=.returned (.tuple #[])/\u'=.panicking [wrongRE n true]/\Mem V (.blk bc (ob [.slice none 0 0,.slice none 0 0,.slice none 0 0,.slice none 0 0] 27)::.blk bw (ob [.int .i64 n] 3)::K) w':=by
 generalize j:(fun (e:Ending) (u':FrameMode) (w':World)=>e=.returned (.tuple #[])/\u'=.panicking [wrongRE n true]/\Mem V (.blk bc (ob [.slice none 0 0,.slice none 0 0,.slice none 0 0,.slice none 0 0] 27)::.blk bw (ob [.int .i64 n] 3)::K) w')=R
 refine callsD_of_wpS func124 rfl fun c₀ cs m=>?_
 apply wpS_seq
 apply wpS_region
 show wpOpsS prog _ _ [0,1] _ _ _
 simp [wpOpsS,go_sem,recoverD,m,ntmps124,Exit.thenS,nI]
 refine wpS_of_wp ?_
 generalize k:(_::cs:List Frame)=cs'
 have hQ:∀(a:Act) (w':World),a.defers=[]->Mem V (.blk bc (ob [.slice none 0 0,.slice none 0 0,.slice none 0 0,.slice none 0 0] 27)::.blk bw (ob [.int .i64 n] 3)::K) w'->bodyPostS prog Tryz.f124 c₀ cs R .normal a cs' w':=fun a w' l N=>
  ⟨l,.panicking [wrongRE n true],k.symm,.tuple #[],results_none rfl _ _ _,by subst j;exact ⟨rfl,rfl,N⟩⟩
 generalize b:(Act.mk _ [])=a
 have J:EnvR 19 [(2,.iface 204 (.agg #[.int .i64 n])),(1,.pointer (some ⟨bw,0,none⟩)),(0,.pointer (some ⟨bc,0,none⟩))] [] a:=by
  subst b
  refine ⟨by simp,fun t v h=>?_,rfl⟩
  obtain ⟨rfl,rfl⟩ | ⟨_,h⟩:=wK h
  ·simp
  ·obtain ⟨rfl,rfl⟩ | ⟨_,h⟩:=wK h
   ·simp
   ·obtain ⟨rfl,rfl⟩ | ⟨_,h⟩:=wK h
    ·simp
    ·cases h
 clear b
 refine sq fun o c=>?_
 refine wp_region_lit ?_
 refine jS J (xZ J rfl) rfl fun a J=>?_
 refine jS J (nT (v:=.bool true) J rfl rfl rfl (by kernel_rfl)) rfl fun a J=>?_
 refine wpList_nil ?_
 apply c
 refine if_t J rfl ?_
 refine sq fun p d=>?_
 refine wp_region_lit ?_
 refine jS J (xZ J rfl) rfl fun a J=>?_
 refine jS J (y7w J rfl runUnderlying204 (by intro ms h;cases h)) rfl fun a J=>?_
 refine jS J (xZ J rfl) rfl fun a J=>jS J (cV J rfl rfl) rfl fun a J=>jS J (cV J rfl rfl) rfl fun a J=>?_
 refine st J rfl rfl rfl (wN (cs:=[.int .i64 ((0:Nat):Int)]) N zeroValue204 rfl fun i w N a J=>?_)
 refine st0 J rfl rfl (qF 0 (cs:=[.int .i64 ((0:Nat):Int)]) (vs:=[.int .i64 n]) J N rfl rfl rfl rfl sizeOf204 rfl rfl rfl fun w N a J=>?_)
 refine jS J (dV J rfl) rfl fun a J=>?_
 refine wpList_nil ?_
 apply d
 replace N:Mem V (.blk i (ob [.int .i64 n] 204)::.blk bc (ob [s,t,u,v] 27)::.blk bw (ob [x] 3)::K) w:=N
 refine sq fun r f=>?_
 refine sq fun y g=>?_
 refine wp_region_lit ?_
 refine jS J (xZ J rfl) rfl fun a J=>jS J (q3a J rfl) rfl fun a J=>?_
 refine wpList_nil ?_
 apply g
 refine if_f J rfl ?_
 refine wp_skip ?_
 apply f
 refine dL [1,1,2,0,0] (.q 0 (.q 1 (.q 2 (.e 3 (.e 4 (.done)))))) [.blk i (ob [.int .i64 n] 204)] J N mixed (by kernel_rfl) (by simp) fun w N=>?_
 refine y3n J rfl rfl (fun w=>z3e (vs:=[]) (cs:=[.slice none 0 0,.slice none 0 0,.slice none 0 0,.slice none 0 0]) J rfl (by kernel_rfl)) rfl fun a J=>?_
 refine y3n J rfl rfl (fun w=>mZ J rfl x4k rfl) rfl fun a J=>?_
 refine d_q J rfl rfl (fun w O=>pC 0 J O rfl rfl rfl isAgg3) rfl fun a J=>?_
 refine y8u J rfl rfl (qF 1 (cs:=[s,t,u,v]) (vs:=[.slice none 0 0,.slice none 0 0,.slice none 0 0,.slice none 0 0]) J N rfl rfl rfl rfl sizeOf27 rfl rfl rfl fun w N=>⟨fun _=>N.seesIn (Fz.Le.refl _) (by simp [wI]),fun a J=>?_⟩)
 refine y8u J rfl rfl (qF 2 (cs:=[x]) (vs:=[.int .i64 n]) J N rfl rfl rfl rfl sizeOf3 rfl rfl rfl fun w N=>⟨dK (by kernel_rfl),fun a J=>?_⟩)
 refine q3n ?_
 replace N:Mem V (.blk bc (ob [.slice none 0 0,.slice none 0 0,.slice none 0 0,.slice none 0 0] 27)::.blk bw (ob [.int .i64 n] 3)::K) w:=N.del 0
 exact hQ _ _ J.defs N
set_option maxRecDepth 20000 in
theorem catchR_none {w:World} {bc bw:Nat} :
  CallsD prog 124 #[.pointer (some ⟨bc,0,none⟩),.pointer (some ⟨bw,0,none⟩)] .returning w fun e u' w'=>e=.returned (.tuple #[])/\u'=.returning/\w'=w:=by
 generalize f:(fun (e:Ending) (u':FrameMode) (w':World)=>e=.returned (.tuple #[])/\u'=.returning/\w'=w)=R
 refine callsD_of_wpS func124 rfl fun c₀ cs d=>?_
 apply wpS_seq
 apply wpS_region
 show wpOpsS prog _ _ [0,1] _ _ _
 simp [wpOpsS,go_sem,recoverD,d,ntmps124,Exit.thenS]
 refine wpS_of_wp ?_
 have hQ:∀(a:Act),a.defers=[]->bodyPostS prog Tryz.f124 c₀ cs R .normal a (c₀::cs) w:=fun a g=>
  ⟨g,.returning,by cases c₀;simp only at d;subst d;rfl,.tuple #[],results_none rfl _ _ _,by subst f;exact ⟨rfl,rfl,rfl⟩⟩
 generalize b:(Act.mk _ [])=a
 have J:EnvR 19 [(2,.nilIface)] [] a:=by
  subst b
  refine ⟨by simp,fun t v h=>?_,rfl⟩
  obtain ⟨rfl,rfl⟩ | ⟨_,h⟩:=wK h
  ·simp
  ·cases h
 clear b
 refine sq fun i c=>?_
 refine wp_region_lit ?_
 refine jS J (xZ J rfl) rfl fun a J=>?_
 refine jS J (nT (v:=.bool false) J rfl rfl rfl (by kernel_rfl)) rfl fun a J=>?_
 refine wpList_nil ?_
 apply c
 refine if_f J rfl ?_
 refine wp_skip ?_
 exact hQ _ J.defs
abbrev readKY (K:List Res) (l Dk rr rp:Nat) (r:Loop) (pre:List Bs) (z:Value):List Res :=
 .blk l (.loop r)::.blk Dk (.deferred (some []))::.blk rr (ob [z,.int .i64 ((0:Nat):Int)] 208)::.gs z 9 1 (strs pre)::.blk rp (ob [.pointer (some ⟨rr,0,none⟩)] 206)::K
set_option maxRecDepth 20000 in
set_option maxHeartbeats 4000000 in
theorem j3l {Ψ:Fz} {K c:List Res} {w:World} {l Dk rr rp n:Nat} {r:Loop} {pre:List Bs} {z:Value} {k:Bs} (q:pre.length < n) (A:n<=800000)
  (f:r.params=#[11]) (m:r.state=.ready) (j:r.pending=none)
  (u:∀(a:Act) (w:World),EnvR 96 [(11,.string k),(4,.pointer (some ⟨rp,0,none⟩))] [] a ->
   r.assign.wpIn (FO (some l)) 2 prog (Exit.then (fun p s=>EnvR 96 [(5,.string k),(4,.pointer (some ⟨rp,0,none⟩))] [] p/\s=w) (fun _ _ _=>False)) a w)
  (hb:∀(a:Act) (w:World) (K:List Res) (o:Obj),EnvR 96 [(5,.string k),(4,.pointer (some ⟨rp,0,none⟩))] [] a->Mem Ψ (.blk l o::.blk rr (ob [z,.int .i64 ((0:Nat):Int)] 208)::.gs z 9 1 (strs pre)::.blk rp (ob [.pointer (some ⟨rr,0,none⟩)] 206)::K) w ->
   r.body.wpIn (FO (some l)) 2 prog (fun e _ w=>e=.normal/\∃v,Mem Ψ (.blk l o::.blk rr (ob [v,.int .i64 ((0:Nat):Int)] 208)::.gs v 9 1 (strs (pre++[k]))::.blk rp (ob [.pointer (some ⟨rr,0,none⟩)] 206)::K) w) a w)
  (J:EnvR 96 [(4,.pointer (some ⟨rp,0,none⟩))] [] ⟨r.tmps,[]⟩) (N:Mem Ψ (c++readKY K l Dk rr rp r pre z) w) :
  YieldAt Fence.wide 2 prog l #[.string k] w (fun e w'=>e=.returned (.bool true)/\∃z',Mem Ψ (c++readKY K l Dk rr rp r (pre++[k]) z') w'):=by
 have b:Mem Ψ (readKY K l Dk rr rp r pre z++c) w:=N.perm List.perm_append_comm
 replace b:Mem Ψ (.blk l (.loop r)::.blk rr (ob [z,.int .i64 ((0:Nat):Int)] 208)::.gs z 9 1 (strs pre)::.blk rp (ob [.pointer (some ⟨rr,0,none⟩)] 206)::.blk Dk (.deferred (some []))::(K++c)) w :=
  ((((b.pull (i:=4) rfl).pull (i:=4) rfl).pull (i:=4) rfl).pull (i:=3) rfl)
 have hl:w.heap[l]? = some (.loop r):=b.own _ msQ
 refine ⟨r.fn,r.tmps.setIfInBounds 11 (.string k),r.assign,r.body,?_,?_⟩
 ·rw [run_yield hl (by rw [f];rfl),f,zip1];simp
 ·have g:EnvR 96 [(11,.string k),(4,.pointer (some ⟨rp,0,none⟩))] [] ⟨r.tmps.setIfInBounds 11 (.string k),[]⟩:=J.put (d:=11) rfl
  have h:=q9k (P:=prog) (E1:=fun (_:Unit)=>[(5,.string k),(4,.pointer (some ⟨rp,0,none⟩))]) (K1:=fun _=>.blk rr (ob [z,.int .i64 ((0:Nat):Int)] 208)::.gs z 9 1 (strs pre)::.blk rp (ob [.pointer (some ⟨rr,0,none⟩)] 206)::.blk Dk (.deferred (some []))::(K++c))
   (KO:=fun v=>.blk rr (ob [v,.int .i64 ((0:Nat):Int)] 208)::.gs v 9 1 (strs (pre++[k]))::.blk rp (ob [.pointer (some ⟨rr,0,none⟩)] 206)::.blk Dk (.deferred (some []))::(K++c)) b m j g
   (fun a J=>Code.wpIn_mono (fun e p s h=>by
    cases e with
    | normal=>exact ⟨(),h.1,h.2▸b⟩
    | _=>exact h) (u a w J)) (fun _ a w J N=>hb a w _ _ J N)
  refine h.mono fun e w' y=>?_
  obtain ⟨h1,v,h2⟩:=y
  refine ⟨h1,v,?_⟩
  have t:Mem Ψ (readKY K l Dk rr rp r (pre++[k]) v++c) w':=(((((h2.pull (i:=3) rfl).pull (i:=3) rfl).pull (i:=3) rfl).pull (i:=4) rfl).pull (i:=4) rfl)
  exact t.perm List.perm_append_comm
theorem q9g {P:Program} {fn:Func} {n:Nat} {E:List (Nat×Value)} {D:List Deferred} {a:Act} {V:Fz} {K:List Res} {w:World} {t u T U k i j b c:Nat} {v:Value} {cs:List Value} {g h:TypeId} (J:EnvR n E D a) (N:Sees V K w) (hr:fn.results=#[.cell u U,.cell t T]) (q:get E t=some (.pointer (some ⟨b,0,none⟩)))
  (p:qH K i=some (.blk b (ob [v] g))) (o:Scalar P T) (f:get E u=some (.pointer (some ⟨c,0,none⟩))) (e:qH K j=some (.blk c (ob cs h))) (d:AggT P U) (m:SizeT P U k) (hl:cs.length=k) :
  (results fn a.tmps).run P w=.ok (.tuple #[.agg cs.toArray,v]) w:=by
 have h1:w.cell? ⟨b,0,none⟩=some v:=N.cell p 0
 have h2:=j5v (P:=P) J N f e d m hl
 have l:(loadVar T ⟨b,0,none⟩).run P w=.ok v w:=by simp [loadVar,Sem.run_bind,o w,Result.andThen,load,Sem.run,h1]
 simp [results,hr,Array.getD_eq_getD_getElem?,J.env t _ q,J.env u _ f,asAddr,h2,l,Sem.run_bind,Result.andThen]
set_option maxRecDepth 20000 in
set_option maxHeartbeats 4000000 in
theorem read_ok {V:Fz} {K:List Res} {w:World} {t:Bs} (G:Glob V) (h2:t.size<=800000) (N:Mem V K w) :
  Calls prog 74 #[.string t] w (fun ee w'=>Out (tN t)
   (fun C=>∃y:Fz×Value×Value×Value×Value,ee=.returned (.tuple #[.agg #[y.2.1,y.2.2.1,y.2.2.2.1,y.2.2.2.2],.int .i64 ((0:Nat):Int)])/\(V.Le y.1/\SliceOf RData y.1 2 y.2.1 C.datas/\SliceOf RParam y.1 2 y.2.2.1 C.inputs/\SliceOf RFun y.1 8 y.2.2.2.1 C.funs)/\Mem y.1 (.gs y.2.2.2.2 9 1 (strs C.outputs)::K) w')
   (fun n=>ee=.returned (.tuple #[.agg #[.slice none 0 0,.slice none 0 0,.slice none 0 0,.slice none 0 0],.int .i64 ((n:Nat):Int)])/\Mem V K w')):=by
 refine enterX func74 rfl ntmps74 rfl (fun Q hQ a J=>?_)
 refine sq fun L1 F=>?_
 refine wp_region_lit ?_
 refine st J rfl rfl rfl (wN (cs:=[.slice none 0 0,.slice none 0 0,.slice none 0 0,.slice none 0 0]) N zeroValue27 rfl fun c0 w N a J=>?_)
 refine st J rfl rfl rfl (wN (cs:=[.int .i64 ((0:Nat):Int)]) N zeroValue3 rfl fun wd w N a J=>?_)
 refine wpList_nil ?_
 apply F
 refine sq fun L2 H=>?_
 refine wp_region_lit ?_
 refine jS J (z0k (vfs:=[]) (vcs:=[.pointer (some ⟨c0,0,none⟩),.pointer (some ⟨wd,0,none⟩)]) J rfl rfl) rfl fun a J=>?_
 refine z1z (fs:=[]) (cs:=[.pointer (some ⟨c0,0,none⟩),.pointer (some ⟨wd,0,none⟩)]) (vs:=[]) J rfl rfl fun a J=>?_
 refine wpList_nil ?_
 apply H
 refine sq fun L3 I=>?_
 refine wp_region_lit ?_
 refine jS J (z3e (vs:=[]) (cs:=[.slice none 0 0,.int .i64 ((0:Nat):Int)]) J rfl (by kernel_rfl)) rfl fun a J=>?_
 refine st J rfl rfl rfl (j6a (cs:=[.slice none 0 0,.int .i64 ((0:Nat):Int)]) J N rfl rfl fun rr w N a J=>?_)
 refine st J rfl rfl rfl (wN (cs:=[.pointer none]) N zeroValue206 rfl fun rp w N a J=>?_)
 refine st0 J rfl rfl (qF 0 (cs:=[.pointer none]) (vs:=[.pointer (some ⟨rr,0,none⟩)]) J N rfl rfl rfl rfl sizeOf206 rfl rfl rfl fun w N a J=>?_)
 refine wpList_nil ?_
 apply I
 replace N:Mem V (.blk rp (ob [.pointer (some ⟨rr,0,none⟩)] 206)::.blk rr (ob [.slice none 0 0,.int .i64 ((0:Nat):Int)] 208)::.blk wd (ob [.int .i64 ((0:Nat):Int)] 3)::.blk c0 (ob [.slice none 0 0,.slice none 0 0,.slice none 0 0,.slice none 0 0] 27)::K) w:=N
 refine sq fun L4 L=>?_
 refine sq fun L5 M=>?_
 refine wp_region_lit ?_
 refine jS J (xZ J rfl) rfl fun a J=>?_
 refine st J rfl rfl rfl (z2p J rfl call125 (x8l N) (fun bx w _ N a J=>?_))
 refine wpList_nil ?_
 apply M
 refine wp_block ?_
 refine j0o (P:=prog) (β:=Value) (δ:=Unit) (gf:=174) (fs:=[]) (cs:=[.pointer (some ⟨bx,0,none⟩)]) (F1:=fun _=>V)
  (KO:=fun z=>.blk rr (ob [z,.int .i64 ((0:Nat):Int)] 208)::.gs z 9 1 (strs (vE t))::.blk rp (ob [.pointer (some ⟨rr,0,none⟩)] 206)::.blk wd (ob [.int .i64 ((0:Nat):Int)] 3)::.blk c0 (ob [.slice none 0 0,.slice none 0 0,.slice none 0 0,.slice none 0 0] 27)::K)
  (KE:=fun _=>K)
  (G:=fun _=>True) (B:=fun _ _=>False) J N rfl call174 ?_ ?_ ?_
 ·intro Dk l r w U has R W T S N
  have d:=N.nilRow 9 1
  replace d:Mem V (.blk bx (ob [.string t] 9)::readKY (.blk wd (ob [.int .i64 ((0:Nat):Int)] 3)::.blk c0 (ob [.slice none 0 0,.slice none 0 0,.slice none 0 0,.slice none 0 0] 27)::K) l Dk rr rp r [] (.slice none 0 0)) w :=
   ((((((d.pull (i:=4) rfl).pull (i:=1) rfl).pull (i:=5) rfl).pull (i:=4) rfl).pull (i:=4) rfl).pull (i:=5) rfl)
  have h:=x1x (l:=l) (KY:=readKY (.blk wd (ob [.int .i64 ((0:Nat):Int)] 3)::.blk c0 (ob [.slice none 0 0,.slice none 0 0,.slice none 0 0,.slice none 0 0] 27)::K) l Dk rr rp r) (by omega) (fun pre z K0 k w m N=>?_) d
  ·refine h.mono fun e w' hh=>?_
   obtain ⟨z,rfl,b⟩:=hh
   exact .inl ⟨_,z,rfl,trivial,b⟩
  ·refine j3l (n:=t.size) m h2 U W T (fun a w J=>?_) (fun a w K o J N=>?_) (S.of_sub ⟨rfl,trivial⟩) N
   ·rw [has]
    refine wpIn_region_lit ?_
    refine mS J (by intro c h;cases h) (dV J rfl) rfl fun a J=>?_
    refine wpListIn_nil ?_
    exact ⟨J.of_sub ⟨rfl,rfl,trivial⟩,rfl⟩
   ·rw [R]
    refine wpIn_block ?_
    refine y9j [2,2,1,1,2,1,0,0,1,1,0] (.q 0 (.q 1 (.q 2 (.q 3 (.q 4 (.q 5 (.e 6 (.e 7 (.q 8 (.q 9 (.e 10 (.done)))))))))))) [.blk rr (ob [z,.int .i64 ((0:Nat):Int)] 208),.blk rp (ob [.pointer (some ⟨rr,0,none⟩)] 206)] J N mixed (by kernel_rfl) (by simp) (by kernel_rfl) fun w N=>?_
    refine d_q J rfl rfl (fun w O=>pC 1 J O rfl rfl rfl isAgg206) rfl fun a J=>?_
    refine d_q J rfl rfl (fun w O=>pC 1 J O rfl rfl rfl isAgg206) rfl fun a J=>?_
    refine y3n J rfl rfl (fun w=>z5e J rfl) rfl fun a J=>?_
    refine y3n J rfl rfl (fun w=>mZ J rfl y4n rfl) rfl fun a J=>?_
    refine d_q J rfl rfl (fun w O=>pC 0 J O rfl rfl rfl isAgg25) rfl fun a J=>?_
    refine y3n J rfl rfl (fun w=>xZ J rfl) rfl fun a J=>?_
    refine d_e J rfl rfl rfl (mK (sz:=1) (cs:=[.string k]) J N rfl (y2h runUnderlying25 sizeOf9 zeroValue9 rfl (by decide) rfl) rfl (by decide) fun v w N _=>⟨fun _=>N.seesIn (Fz.Le.refl _) (by simp),fun a J=>?_⟩)
    refine d_e J rfl rfl rfl (z4c 3 (xs:=strs pre) (news:=[.string k]) vA J N rfl rfl rfl (N.toSees.rowIn (i:=0) rfl) rfl (by simp [zZ];omega) fun v2 w N=>⟨fun _=>N.seesIn (Fz.Le.refl _) (by simp [wI]),fun a J=>?_⟩)
    replace N:Mem V (.gs v 9 1 [.string k]::.blk l o::.blk rr (ob [z,.int .i64 ((0:Nat):Int)] 208)::.gs v2 9 1 (strs (pre++[k]))::.blk rp (ob [.pointer (some ⟨rr,0,none⟩)] 206)::K) w:=by rw [yE];exact N
    refine y3n J rfl rfl (fun w=>z5e J rfl) rfl fun a J=>?_
    refine y3n J rfl rfl (fun w=>mZ J rfl y4n rfl) rfl fun a J=>?_
    refine y8u J rfl rfl (qF 2 (cs:=[z,.int .i64 ((0:Nat):Int)]) (vs:=[v2]) J N rfl rfl rfl (N.toSees.gsCells (i:=3) rfl) sizeOf25 rfl (N.toSees.gsOne (i:=3) rfl) rfl fun w N=>⟨dK (by kernel_rfl),fun a J=>?_⟩)
    refine q3n ?_
    exact ⟨rfl,v2,N.del 0⟩
 ·intro Dk z a w _ J N
  apply L
  obtain ⟨Ψ,le,N,u⟩:=N.freezeRow (i:=2) rfl
  have rl:SliceOf RStr Ψ 1 z (vE t):=SliceOf.strs.2 u
  have A:(vE t).length<=1000000:=Nat.le_trans (dS t.size 0) (by omega)
  have X:∀j,(zB (vE t) j).size<=1000000:=fun j=>q2b (fun s O=>Nat.le_trans (dT t.size 0 s O) (by omega)) j
  replace N:Mem Ψ (.blk rr (ob [z,.int .i64 ((0:Nat):Int)] 208)::.blk rp (ob [.pointer (some ⟨rr,0,none⟩)] 206)::.blk c0 (ob [.slice none 0 0,.slice none 0 0,.slice none 0 0,.slice none 0 0] 27)::.blk wd (ob [.int .i64 ((0:Nat):Int)] 3)::.blk Dk (.deferred (some []))::K) w:=((((N.pull (i:=3) rfl).pull (i:=4) rfl).pull (i:=4) rfl).pull (i:=4) rfl)
  refine x1d (ws:=vE t) (c0:=c0) (wd:=wd) (rp:=rp) (r:=rr) (G.mono le) (q9i A X 250 (by decide)) rl A ?_ ?_ (J.of_sub ⟨rfl,rfl,rfl,trivial⟩) N
  ·intro Ψ2 a w C Y Z u2 u3 D g r0 r1 r2 J N
   refine hQ _ _ _ ?_
   show gN _ _ _ _ a.defers _ _
   rw [J.defs]
   replace N:=N.pull (i:=3) rfl
   have E:w.heap[Dk]? = some (.deferred (some [])):=N.own _ msQ
   have b:=N.putObj (i:=0) (o':=.deferred none) rfl
   refine gV (by simp) E (uF ?_)
   refine leaves_cons (f:=124) (args:=#[.pointer (some ⟨c0,0,none⟩),.pointer (some ⟨wd,0,none⟩)]) (by simp) (call124 _ _) ?_
   refine catchR_none.mono ?_
   rintro e u' w'' ⟨rfl,rfl,rfl⟩
   refine ⟨_,q9g (i:=2) (j:=1) J b.toSees results74 rfl rfl isAgg3 rfl rfl isAgg27 sizeOf27 rfl,?_⟩
   show Out (tN t) _ _
   rw [show tN t=.ok C from D]
   exact ⟨(Ψ2,Y,Z,u2,u3),rfl,⟨le.trans g,r0,r1,r2⟩,((b.del 0).del 0).del 0⟩
  ·intro Ψ2 a w n Y Z u2 u3 x D g J N
   refine hQ _ _ _ ?_
   show gN _ _ _ _ a.defers _ _
   rw [J.defs]
   replace N:=N.pull (i:=2) rfl
   have E:w.heap[Dk]? = some (.deferred (some [])):=N.own _ msQ
   have b:=(N.putObj (i:=0) (o':=.deferred none) rfl)
   replace b:Mem Ψ2 (.blk c0 (ob [Y,Z,u2,u3] 27)::.blk wd (ob [x] 3)::.blk Dk (.deferred none)::K) (w.putObj Dk (.deferred none)):=(b.pull (i:=2) rfl).pull (i:=2) rfl
   refine gV (by simp) E (uF ?_)
   refine leaves_cons (f:=124) (args:=#[.pointer (some ⟨c0,0,none⟩),.pointer (some ⟨wd,0,none⟩)]) (by simp) (call124 _ _) ?_
   refine (q3m b).mono ?_
   rintro e' u' w'' ⟨rfl,rfl,p⟩
   refine ⟨_,q9g (i:=1) (j:=0) J p.toSees results74 rfl rfl isAgg3 rfl rfl isAgg27 sizeOf27 rfl,?_⟩
   show Out (tN t) _ _
   rw [show tN t=.error n from D]
   exact ⟨rfl,(((p.del 0).del 0).del 0).le (le.trans g)⟩
 ·intro Dk y c a w hB J N
  exact hB.elim
def Pos {α:Type} (f:Nat->Rd α):Prop:=∀i n,f i=.error n->0 < n
section
variable {ws:List Bs}
theorem Pos.bind {α β:Type} {f:Nat->Rd α} {g:α->Nat->Rd β} (a:Pos f) (b:∀x,Pos (g x)):Pos (fun i=>yA (f i) g):=fun i n h=>by
 cases hr:f i with
 | error m=>
  simp only [yA,hr] at h
  cases h;exact a i _ hr
 | ok y=>
  simp only [yA,hr] at h
  exact b _ _ n h
theorem Pos.ok {α:Type} (f:Nat->α×Nat):Pos (fun i=>(.ok (f i):Rd α)):=fun i n h=>by cases h
theorem Pos.ite {α:Type} {p:Nat->Prop} [∀i,Decidable (p i)] {f g:Nat->Rd α} (a:Pos f) (b:Pos g):Pos (fun i=>if p i then f i else g i):=fun i n h=>by
 simp only at h
 split at h
 ·exact a i n h
 ·exact b i n h
theorem Pos.next {α:Type} {f:Nat->Rd α} (a:Pos f):Pos (fun i=>f (i+1)):=fun i n h=>a (i+1) n h
theorem Pos.err {α:Type}:Pos (fun i=>(.error (i+1):Rd α)):=fun i n h=>by cases h;exact Nat.succ_pos _
theorem kX (p:Bs->Bool):Pos (kW ws p):=fun i n h=>by
 unfold kW at h
 split at h
 ·cases h;exact Nat.succ_pos _
 ·cases h
theorem aK (w:Bs):Pos (vH ws w):=(kX _).bind fun _=>Pos.ok fun i=>((),i)
theorem y5l {ex:Nat->Rd Ex} (J:Pos ex):∀f least,Pos (kB ws ex f least)
 | 0,_=>Pos.err
 | f+1,least=>Pos.ite (p:=fun i=>0 < least∨zB ws i≠jQ) (J.bind fun e=>(y5l J f _).bind fun l=>Pos.ok fun i=>(e::l,i)) (Pos.ok fun i=>([],i))
theorem j7s {ex:Nat->Rd Ex} (J:Pos ex):Pos (z3k ex):=J.bind fun a=>J.bind fun b=>Pos.ok fun i=>([a,b],i)
theorem j0e:∀f,Pos (cA ws f)
 | 0=>Pos.err
 | f+1=>Pos.ite (p:=fun i=>zB ws i≠wY) ((kX _).bind fun s=>(j0e f).bind fun l=>Pos.ok fun i=>(s::l,i)) (Pos.ok fun i=>([],i))
theorem arm_pos {ex:Nat->Rd Ex} (J:Pos ex):Pos (armP ws ex) :=
 (aK _).bind fun _=>(kX _).bind fun c=>(j0e _).bind fun vs=>(aK _).bind fun _=>J.bind fun b=>(aK _).bind fun _=>Pos.ok fun i=>(Arm.mk c vs b,i)
theorem q6f {ex:Nat->Rd Ex} (J:Pos ex):∀f b,Pos (dB ws ex f b)
 | 0,_=>Pos.err
 | f+1,b=>Pos.ite (p:=fun i=>b=true∨zB ws i=kD) ((arm_pos J).bind fun a=>(q6f J f false).bind fun l=>Pos.ok fun i=>(a::l,i)) (Pos.ok fun i=>([],i))
theorem x4x {ex:Nat->Rd Ex} (J:Pos ex):Pos (yX ws ex):=fun i n h=>by
 unfold yX at h
 split at h
 ·exact (j7s J).bind (fun l=>Pos.ok fun j=>(Ex.mk 8 0 (zB ws i) l [],j)) (i+1) n h
 ·split at h
  ·exact (kX _).bind (fun x=>(j7s J).bind fun l=>Pos.ok fun j=>(Ex.mk 6 0 x l [],j)) (i+1) n h
  ·split at h
   ·exact J.bind (fun a=>(q6f J _ true).bind fun l=>Pos.ok fun j=>(Ex.mk 7 0 sNo [a] l,j)) (i+1) n h
   ·split at h
    ·exact (y5l J _ 1).bind (fun l=>Pos.ok fun j=>(Ex.mk 4 0 (zB ws i) l [],j)) (i+1) n h
    ·exact (kX _).bind (fun x=>(y5l J _ 0).bind fun l=>Pos.ok fun j=>(Ex.mk 5 0 x l [],j)) i n h
theorem q7f:∀d,Pos (zS ws d)
 | 0=>Pos.err
 | d+1=>fun i n h=>by
  simp only [zS] at h
  split at h
  ·cases h;exact Nat.succ_pos _
  ·split at h
   ·cases h
   ·split at h
    ·exact (x4x (q7f d)).bind (fun e=>(aK _).bind fun _=>Pos.ok fun j=>(e,j)) (i+1) n h
    ·split at h
     ·cases h
     ·split at h
      ·cases h
      ·exact (kX _).bind (fun x=>Pos.ok fun j=>(Ex.mk 2 0 x [] [],j)) i n h
theorem y4l:∀f,Pos (xC ws f)
 | 0=>Pos.err
 | f+1=>Pos.ite (p:=fun i=>yO (zB ws i)=true) ((kX _).bind fun s=>(y4l f).bind fun l=>Pos.ok fun i=>(s::l,i)) (Pos.ok fun i=>([],i))
theorem q6r:∀f,Pos (aW ws f)
 | 0=>Pos.err
 | f+1=>(kX _).bind fun n=>(y4l _).bind fun l=>Pos.ite (p:=fun i=>zB ws i≠y1h) (Pos.ok fun i=>([(⟨n,l⟩:Con)],i)) ((q6r f).bind (fun cs=>Pos.ok fun i=>((⟨n,l⟩:Con)::cs,i))).next
theorem x2z:Pos (nK ws):=(kX _).bind fun n=>(aK _).bind fun _=>(q6r _).bind fun l=>Pos.ok fun i=>((⟨n,l⟩:Data),i)
theorem q1z:Pos (xX ws):=(kX _).bind fun n=>(aK _).bind fun _=>(kX _).bind fun t=>Pos.ok fun i=>((⟨n,t⟩:Param),i)
theorem y5y:∀f,Pos (vZ ws f)
 | 0=>Pos.err
 | f+1=>Pos.ite (p:=fun i=>zB ws i=kD) ((q1z).bind (fun p=>(aK _).bind fun _=>(y5y f).bind fun l=>Pos.ok fun i=>(p::l,i))).next (Pos.ok fun i=>([],i))
theorem fun_pos:Pos (dH ws):=(kX _).bind fun n=>(y5y _).bind fun ps=>(aK _).bind fun _=>(kX _).bind fun r=>(aK _).bind fun _=>(q7f _).bind fun b=>Pos.ok fun i=>((⟨n,ps,r,b⟩:Fun),i)
theorem tA:∀f c i n,qW ws f c i=.error n->0 < n
 | 0,_,_,_,h=>by cases h;exact Nat.succ_pos _
 | f+1,c,i,n,h=>by
  simp only [qW] at h
  split at h
  ·split at h
   ·split at h
    ·exact tA f _ _ n h
    ·rename_i a;cases h;exact x2z _ _ a
   ·split at h
    ·split at h
     ·exact tA f _ _ n h
     ·rename_i a;cases h;exact q1z _ _ a
    ·split at h
     ·split at h
      ·exact tA f _ _ n h
      ·rename_i a;cases h;exact fun_pos _ _ a
     ·split at h
      ·split at h
       ·exact tA f _ _ n h
       ·rename_i a;cases h;exact kX _ _ _ a
      ·cases h;exact Nat.succ_pos _
  ·cases h
end
theorem x6m {t:Bs} {n:Nat} (h:tN t=.error n):0 < n:=tA _ _ _ _ h
def nG (t:Bs):Except (Nat×Int) Core:=if 60000 < t.size then .error (0,2) else match tN t with
 | .error n=>.error (n,5)
 | .ok c=>if qL c=0 then .ok c else .error (0,qL c)
theorem y6b {t:Bs} (h:60000 < t.size):nG t=.error (0,2):=if_pos h
theorem y6c {t:Bs} {n:Nat} (h:¬60000 < t.size) (h2:tN t=.error n):nG t=.error (n,5):=by unfold nG;rw [if_neg h,h2]
theorem y0j {t:Bs} {c:Core} (h:¬60000 < t.size) (h2:tN t=.ok c) (a:¬qL c=0):nG t=.error (0,qL c):=by unfold nG;rw [if_neg h,h2];exact if_neg a
theorem z4p {t:Bs} {c:Core} (h:¬60000 < t.size) (h2:tN t=.ok c) (a:qL c=0):nG t=.ok c:=by unfold nG;rw [if_neg h,h2];exact if_pos a
end Go.Sw
namespace Go.Sw
open Go.Proofs.Tryz
open Go.Proofs
set_option maxRecDepth 100000
set_option maxRecDepth 100000
def z4v:List Bs->List Bs->Bool
 | [],_=>true
 | _::_,[]=>true
 | x::xs,y::ys=>decide (x=y)&&z4v xs ys
def tQ (l m:List Bs):Bool:=decide (l.length=m.length)&&z4v l m
def j4f (x y:Param):Bool:=decide (x.name=y.name)&&decide (x.type=y.type)
def z4t:List Param->List Param->Bool
 | [],_=>true
 | _::_,[]=>true
 | x::xs,y::ys=>j4f x y&&z4t xs ys
def z6t (l m:List Param):Bool:=decide (l.length=m.length)&&z4t l m
def z4s:List Con->List Con->Bool
 | [],_=>true
 | _::_,[]=>true
 | x::xs,y::ys=>(decide (x.name=y.name)&&tQ x.fields y.fields)&&z4s xs ys
def y6v (v u:Data):Bool:=(decide (v.name=u.name)&&decide (v.cons.length=u.cons.length))&&z4s v.cons u.cons
mutual
def aO:Ex->Ex->Bool
 | .mk k n s a r,e=>((((decide (k=e.kind)&&decide (n=e.num))&&decide (s=e.name))&&decide (a.length=e.args.length))&&decide (r.length=e.arms.length))&&(sameXs a e.args&&sameAs r e.arms)
def sameXs:List Ex->List Ex->Bool
 | [],_=>true
 | _::_,[]=>true
 | x::xs,y::ys=>aO x y&&sameXs xs ys
def sameAs:List Arm->List Arm->Bool
 | [],_=>true
 | _::_,[]=>true
 | .mk c vs b::xs,y::ys=>((decide (c=y.con)&&tQ vs y.vars)&&aO b y.body)&&sameAs xs ys
end
def z4q:List Data->List Data->Bool
 | [],_=>true
 | _::_,[]=>true
 | x::xs,y::ys=>y6v x y&&z4q xs ys
def z4r (x y:Fun):Bool:=((decide (x.name=y.name)&&decide (x.result=y.result))&&z6t x.params y.params)&&aO x.body y.body
def uR:List Fun->List Fun->Bool
 | [],_=>true
 | _::_,[]=>true
 | x::xs,y::ys=>z4r x y&&uR xs ys
def q2g (v u:Core):Bool:=(((decide (v.datas.length=u.datas.length)&&z6t v.inputs u.inputs)&&decide (v.funs.length=u.funs.length))&&tQ v.outputs u.outputs)&&(z4q v.datas u.datas&&uR v.funs u.funs)
theorem x7c (v u:Ex):aO v u=(((((decide (v.kind=u.kind)&&decide (v.num=u.num))&&decide (v.name=u.name))&&decide (v.args.length=u.args.length))&&decide (v.arms.length=u.arms.length))&&(sameXs v.args u.args&&sameAs v.arms u.arms)):=by
 cases v;cases u;rw [aO];rfl
theorem z1u (x y:Bs) (xs ys:List Bs):z4v (x::xs) (y::ys)=(decide (x=y)&&z4v xs ys):=rfl
theorem j4h (ys:List Bs):z4v [] ys=true:=rfl
theorem y0o (x y:Param) (xs ys:List Param):z4t (x::xs) (y::ys)=(j4f x y&&z4t xs ys):=rfl
theorem j4g (ys:List Param):z4t [] ys=true:=rfl
theorem z1t (x y:Con) (xs ys:List Con):z4s (x::xs) (y::ys)=((decide (x.name=y.name)&&tQ x.fields y.fields)&&z4s xs ys):=rfl
theorem j4e (ys:List Con):z4s [] ys=true:=rfl
theorem y0r (x y:Ex) (xs ys:List Ex):sameXs (x::xs) (y::ys)=(aO x y&&sameXs xs ys):=by simp only [sameXs]
theorem j4i (ys:List Ex):sameXs [] ys=true:=by simp only [sameXs]
theorem z1s (x y:Arm) (xs ys:List Arm):sameAs (x::xs) (y::ys)=(((decide (x.con=y.con)&&tQ x.vars y.vars)&&aO x.body y.body)&&sameAs xs ys):=by cases x;rw [sameAs];rfl
theorem j3z (ys:List Arm):sameAs [] ys=true:=by simp only [sameAs]
theorem y0k (x y:Data) (xs ys:List Data):z4q (x::xs) (y::ys)=(y6v x y&&z4q xs ys):=rfl
theorem j4c (ys:List Data):z4q [] ys=true:=rfl
theorem dM (x y:Fun) (xs ys:List Fun):uR (x::xs) (y::ys)=(z4r x y&&uR xs ys):=rfl
theorem j4d (ys:List Fun):uR [] ys=true:=rfl
theorem y0q:∀l:List Bs,z4v l l=true
 | []=>rfl
 | x::xs=>by rw [z1u,y0q xs];simp
theorem z4u (l:List Bs):tQ l l=true:=by simp [tQ,y0q]
theorem y0p:∀l:List Param,z4t l l=true
 | []=>rfl
 | x::xs=>by rw [y0o,y0p xs];simp [j4f]
theorem y6w (l:List Param):z6t l l=true:=by simp [z6t,y0p]
theorem y0n:∀l:List Con,z4s l l=true
 | []=>rfl
 | x::xs=>by rw [z1t,y0n xs,z4u];simp
theorem j4b (d:Data):y6v d d=true:=by simp [y6v,y0n]
mutual
theorem z4w:∀v:Ex,aO v v=true
 | .mk k n s a r=>by simp only [aO,Ex.kind,Ex.num,Ex.name,Ex.args,Ex.arms,decide_true,Bool.true_and,sameXs_refl a,sameAs_refl r]
theorem sameXs_refl:∀l:List Ex,sameXs l l=true
 | []=>by simp only [sameXs]
 | x::xs=>by rw [y0r,z4w x,sameXs_refl xs];rfl
theorem sameAs_refl:∀l:List Arm,sameAs l l=true
 | []=>by simp only [sameAs]
 | .mk c vs b::xs=>by simp only [sameAs,Arm.con,Arm.vars,Arm.body,decide_true,Bool.true_and,z4u vs,z4w b,sameAs_refl xs]
end
theorem y0l:∀l:List Data,z4q l l=true
 | []=>rfl
 | x::xs=>by rw [y0k,j4b,y0l xs];rfl
theorem y0m:∀l:List Fun,uR l l=true
 | []=>rfl
 | x::xs=>by rw [dM,y0m xs];simp [z4r,y6w,z4w]
theorem j4a (c:Core):q2g c c=true:=by simp [q2g,y6w,z4u,y0l,y0m]
theorem y_parEq {n:Nat} {E:List (Nat×Value)} {D:List Deferred} {a:Act} {w:World} {ty t':TypeId} {x y:Operand} {s u s' u':Bs} (J:EnvR n E D a) (k:ev E x=some (.agg #[.string s,.string u])) (m:ev E y=some (.agg #[.string s',.string u'])) :
  Ok prog a (.binOp .eql 72 x y t') ty w (.bool (decide (s=s')&&decide (u=u'))):=by
 refine nT J k m (run_eqGuard_agg _ _ _ _ _ _ _ (by kernel_rfl)) ?_
 have j:prog.underlying 72=some (.struct (prog.fieldsOf 72)):=by kernel_rfl
 have e:prog.underlying 9=some .string:=by kernel_rfl
 obtain ⟨c,d,g,h1,h2⟩:∃c d,(prog.fieldsOf 72).toList=[c,d]/\(c.name ≠ "_" /\ c.type=9/\c.offset=0)/\(d.name ≠ "_" /\ d.type=9/\d.offset=1) :=
  ⟨_,_,rfl,⟨by decide,rfl,rfl⟩,by decide,rfl,rfl⟩
 rw [run_eql_struct,run_equalIn_agg _ _ _ _ _ j (by kernel_rfl),g]
 have b:∀(l:List Value) (i:Nat) (v:Value),l[i]? = some v->(part 9 (List.toArray l) i).run prog w=.ok v w:=fun l i v h=>by
  simp [part,isAgg,run_underlying e,h]
 simp only [Op.eqFields,h1.1,h2.1,h1.2.1,h1.2.2,h2.2.1,h2.2.2,ne_eq,not_false_eq_true,if_true,Sem.run_bind,b [.string s,.string u] 0 _ rfl,b [.string s',.string u'] 0 _ rfl,b [.string s,.string u] 1 _ rfl,b [.string s',.string u'] 1 _ rfl,Result.andThen_ok,run_equalIn_string _ _ _ _ _ e,z0a]
 by_cases f:s=s'
 ·have o:=b [.string s',.string u] 1 _ rfl
  have p:=b [.string s',.string u'] 1 _ rfl
  by_cases e2:u=u' <;> simp [f,e2,Sem.run_ite,Sem.run_bind,o,p,run_equalIn_string _ _ _ _ _ e,z0a,Result.andThen]
 ·simp [f]
end Go.Sw
namespace Go.Sw
open Go.Proofs Go.Proofs.Tryz
set_option maxRecDepth 20000
set_option maxHeartbeats 4000000
def cP (fs:List Fun) (ds:List Bs):List Bs:=(fs.filter fun f=>has ds f.name).map Fun.name
theorem z8t {f:Fun} {fs:List Fun} {ds:List Bs} (h:has ds f.name=true):cP (f::fs) ds=f.name::cP fs ds:=by simp [cP,h]
theorem q8i {f:Fun} {fs:List Fun} {ds:List Bs} (h:has ds f.name=false):cP (f::fs) ds=cP fs ds:=by simp [cP,h]
theorem q1u {ds:List Bs}:cP [] ds=[]:=rfl
theorem q8u {V:Fz} {K:List Res} {w:World} {t:Bs} (G:Glob V) (N:Mem V K w) :
  Calls prog 25 #[.string t] w (fun ee w'=>Out (nG t)
   (fun C=>∃y:Fz×Value×Value×Value×Value,ee=.returned (.tuple #[.agg #[y.2.1,y.2.2.1,y.2.2.2.1,y.2.2.2.2],.int .i64 ((0:Nat):Int),.int .i64 ((0:Nat):Int)])/\(V.Le y.1/\SliceOf RData y.1 2 y.2.1 C.datas/\SliceOf RParam y.1 2 y.2.2.1 C.inputs/\SliceOf RFun y.1 8 y.2.2.2.1 C.funs)/\Mem y.1 (.gs y.2.2.2.2 9 1 (strs C.outputs)::K) w')
   (fun c=>ee=.returned (.tuple #[.agg #[.slice none 0 0,.slice none 0 0,.slice none 0 0,.slice none 0 0],.int .i64 ((c.1:Nat):Int),.int .i64 c.2])/\Mem V K w')):=by
 refine zI func25 ntmps25 fun Q hQ a J=>?_
 refine Alc fun S w N a J=>?_
 by_cases q:60000 < t.size
 refine zU fun a J=>?_
 refine Sto 0 fun w N a J=>?_
 refine go fun a J=>?_
 have d:=N
 replace N:=N.dl [0]
 refine hQ _ _ _ (kC (i:=0) (cs:=[.slice none 0 0,.slice none 0 0,.slice none 0 0,.slice none 0 0]) J d.toSees results25 rfl rfl isAgg27 sizeOf27 rfl rfl rfl ?_)
 show Out (nG t) _ _
 rw [y6b q]
 exact ⟨rfl,N⟩
 refine go fun a J=>?_
 refine st J rfl rfl rfl (z8a J rfl call74 (read_ok G (by omega) N) (fun g R w b m N a J=>?_) (fun g w b N a J=>?_))
 obtain ⟨z,T,U,W,X⟩:=R
 obtain ⟨e,r,s,u⟩:=m
 simp only at e r s u N J
 replace G:=G.mono e
 replace N:=N.nf
 obtain ⟨A,F,rfl,_,_⟩:=r.fm
 obtain ⟨B,H,rfl,_,_⟩:=s.fm
 obtain ⟨D,I,rfl,_,_⟩:=u.fm
 obtain ⟨E,m3,L,n,_,_⟩:=N.toSees.gsForm (i:=0) rfl
 subst n
 replace N:=N.nf
 refine Alc fun M w N a J=>?_
 refine Sto 0 fun w N a J=>?_
 refine Qq (fun a J=>?_) (o:=by exact fun J O=>q2x false J rfl rfl rfl)
 refine go fun a J=>?_
 have h:=N
 clear N
 obtain ⟨Ψ2,f,N,k,j⟩:=h.freezeRowT (i:=1) rfl
 clear h
 replace G:=G.mono f
 replace N:=N.nf
 have p:RCore Ψ2 [.slice A (g.datas).length F,.slice B (g.inputs).length H,.slice D (g.funs).length I,.slice E m3 L] g:=⟨_,_,_,_,rfl,r.mono RData.mono f,s.mono RParam.mono f,u.mono RFun.mono f,SliceOf.strs.2 k⟩
 refine zO call36 (fun w N a J=>?_) (c:=q6o p G N)
 refine go fun a J=>?_
 replace N:=j _ _ N
 replace N:=N.nf
 by_cases l:qL g=0
 refine Sto 2 fun w N a J=>?_
 refine go fun a J=>?_
 have d:=N
 replace N:=N.dl [2,1]
 refine hQ _ _ _ (kC (i:=2) (cs:=[.slice A (g.datas).length F,.slice B (g.inputs).length H,.slice D (g.funs).length I,.slice E m3 L]) J d.toSees results25 rfl rfl isAgg27 sizeOf27 rfl rfl rfl ?_)
 show Out (nG t) _ _
 rw [z4p q b l]
 exact ⟨(z,_,_,_,_),rfl,⟨e,r,s,u⟩,N⟩
 refine zU fun a J=>?_
 refine Sto 2 fun w N a J=>?_
 refine go fun a J=>?_
 have d:=N
 replace N:=N.dl [2,1,0]
 refine hQ _ _ _ (kC (i:=2) (cs:=[.slice none 0 0,.slice none 0 0,.slice none 0 0,.slice none 0 0]) J d.toSees results25 rfl rfl isAgg27 sizeOf27 rfl rfl rfl ?_)
 show Out (nG t) _ _
 rw [y0j q b l]
 exact ⟨rfl,N.le (e)⟩
 replace N:=N.nf
 have v:=x6m b
 refine Alc fun P w N a J=>?_
 refine Sto 0 fun w N a J=>?_
 refine zU fun a J=>?_
 refine Sto 1 fun w N a J=>?_
 refine go fun a J=>?_
 have d:=N
 replace N:=N.dl [1,0]
 refine hQ _ _ _ (kC (i:=1) (cs:=[.slice none 0 0,.slice none 0 0,.slice none 0 0,.slice none 0 0]) J d.toSees results25 rfl rfl isAgg27 sizeOf27 rfl rfl rfl ?_)
 show Out (nG t) _ _
 rw [y6c q b]
 exact ⟨rfl,N⟩
def y0u:Bs:=⟨#[100,97,116,97,32,76,105,115,116,32,61,32,78,105,108,32,124,32,67,111,110,115,32,73,110,116,32,76,105,115,116,10,105,110,112,117,116,32,120,115,32,58,32,76,105,115,116,10,102,117,110,32,115,117,109,32,40,108,32,58,32,76,105,115,116,41,32,58,32,73,110,116,32,61,32,40,99,97,115,101,32,108,32,40,78,105,108,32,45,62,32,48,41,32,40,67,111,110,115,32,104,32,116,32,45,62,32,40,43,32,104,32,40,115,117,109,32,116,41,41,41,41,10,102,117,110,32,116,111,116,97,108,32,58,32,73,110,116,32,61,32,40,115,117,109,32,33,120,115,41,10,102,117,110,32,108,101,115,115,32,40,97,32,58,32,73,110,116,41,32,40,98,32,58,32,73,110,116,41,32,58,32,73,110,116,32,61,32,40,99,97,115,101,32,40,60,32,97,32,98,41,32,40,70,97,108,115,101,32,45,62,32,48,41,32,40,84,114,117,101,32,45,62,32,49,41,41,10,111,117,116,112,117,116,32,116,111,116,97,108,10]⟩
theorem j7q {V:Fz} {K:List Res} {w:World} (N:Mem V K w):Calls prog 57 #[] w (fun ee w'=>ee=.returned (.string y0u)/\Mem V K w'):=by
 refine zI func57 ntmps57 fun Q hQ a J=>?_
 refine zF ?_
 exact ⟨rfl,N⟩
theorem z1f {V:Fz} {K:List Res} {w:World} {d g h i:Value} {ds:List Data} {name:Bs} (b:SliceOf RData V 2 d ds) (N:Mem V K w) :
  Calls prog 58 #[.agg #[d,g,h,i],.string name] w (fun ee w'=>ee=.returned (.bool (xD ds name))/\Mem V K w'):=by
 obtain ⟨k,l,rfl,e,f⟩:=b.fm
 refine zI func58 ntmps58 fun Q hQ a J=>?_
 refine Bx fun j w N a J=>?_
 refine zO call114 (fun w N a J=>?_) (c:=z5z b N)
 refine zF ?_
 replace N:=N.dl [0]
 exact ⟨rfl,N⟩
theorem uS {V:Fz} {K:List Res} {w:World} {v0:Value} {v:List Bs} {M:Value} {u:List Bs} (z:SliceOf RStr V 1 v0 v) (y:SliceOf RStr V 1 M u) (N:Mem V K w) :
  Calls prog 42 #[v0,M] w (fun ee w'=>ee=.returned (.bool (tQ v u))/\Mem V K w'):=by
 obtain ⟨W,c0,rfl,T,E⟩:=z.fm
 obtain ⟨X,S,rfl,U,F⟩:=y.fm
 refine zI func42 ntmps42 fun Q hQ a J=>?_
 refine goJ 2 fun a J=>?_
 refine sq fun P D=>?_
 have p:∀a w,(∃(o:Bool),EnvR 31 [(0,.slice W v.length c0),(1,.slice X u.length S),(5,.bool o)] [] a/\Mem V (K) w/\(o=decide (v.length=u.length)))->P a w:=by
  clear N J
  rintro a w ⟨o,J,N,n⟩
  apply D
  refine go fun a J=>?_
  refine zR (J.ks [0,1]) N (fun R mm a w=>∃(i:Nat) (o:Bool),mm=v.length - i/\R V [(5,.bool o),(6,.int .i64 i)] [] a w/\(tQ v u=(o&&z4v (v.drop i) (u.drop i))/\(o=true->v.length=u.length))) (v.length - 0) ⟨0,o,rfl,⟨J.pk,N⟩,⟨by rw [n];rfl,fun h=>by rw [n] at h;simp only [decide_eq_true_eq] at h;exact h⟩⟩ ?_
  clear N J
  rintro mm a w ⟨i,o,r,⟨J,N⟩,C⟩ L7 q
  obtain ⟨c,b⟩:=C
  by_cases f:i < v.length
  refine go fun a J=>?_
  cases o
  refine zF ?_
  exact zJ N (by rw [c,Bool.false_and])
  refine Reg [1,1,1,2,1,1,1,2,1,1] [] fun w N a J=>?_
  have g:i < u.length:=by rw [<- b rfl];exact f
  refine go fun a J=>?_
  obtain ⟨Y,rfl,A,d,j,I,G,s⟩:=z.el E f
  obtain rfl:j=[.string A]:=s
  refine go fun a J=>?_
  obtain ⟨Z,rfl,B,e,k,L,H,t⟩:=y.el F g
  obtain rfl:k=[.string B]:=t
  by_cases l:A=B
  refine go fun a J=>?_
  refine q _ _ _ (by subst r;omega) ⟨(i+1),(true),rfl,⟨J.pk,N⟩,?_⟩
  rotate_left
  refine go fun a J=>?_
  refine q _ _ _ (by subst r;omega) ⟨(i+1),(false),rfl,⟨J.pk,N⟩,?_⟩
  rotate_left
  refine zF ?_
  exact zJ N (by rw [c,zE f,j4h,Bool.and_true])
  all_goals (exact ⟨by rw [c,zA d,zA e,z1u,Bool.true_and];simp [l],fun _=>b rfl⟩)
 by_cases m:v.length=u.length
 refine go fun a J=>?_
 exact p _ _ ⟨true,J.pk,N,by simp [m]⟩
 refine go fun a J=>?_
 exact p _ _ ⟨false,J.pk,N,by simp [m]⟩
theorem z3t {V:Fz} {K:List Res} {w:World} {v0:Value} {v:List Param} {L:Value} {u:List Param} (q:SliceOf RParam V 2 v0 v) (p:SliceOf RParam V 2 L u) (N:Mem V K w) :
  Calls prog 77 #[v0,L] w (fun ee w'=>ee=.returned (.bool (z6t v u))/\Mem V K w'):=by
 obtain ⟨U,c0,rfl,S,B⟩:=q.fm
 obtain ⟨W,P,rfl,T,C⟩:=p.fm
 refine zI func77 ntmps77 fun Q hQ a J=>?_
 refine goJ 2 fun a J=>?_
 refine sq fun M y=>?_
 have j:∀a w,(∃(o:Bool),EnvR 31 [(0,.slice U v.length c0),(1,.slice W u.length P),(5,.bool o)] [] a/\Mem V (K) w/\(o=decide (v.length=u.length)))->M a w:=by
  clear N J
  rintro a w ⟨o,J,N,g⟩
  apply y
  refine go fun a J=>?_
  refine zR (J.ks [0,1]) N (fun R mm a w=>∃(i:Nat) (o:Bool),mm=v.length - i/\R V [(5,.bool o),(6,.int .i64 i)] [] a w/\(z6t v u=(o&&z4t (v.drop i) (u.drop i))/\(o=true->v.length=u.length))) (v.length - 0) ⟨0,o,rfl,⟨J.pk,N⟩,⟨by rw [g];rfl,fun h=>by rw [g] at h;simp only [decide_eq_true_eq] at h;exact h⟩⟩ ?_
  clear N J
  rintro mm a w ⟨i,o,A,⟨J,N⟩,t⟩ Z z
  obtain ⟨d,b⟩:=t
  by_cases c:i < v.length
  refine go fun a J=>?_
  cases o
  refine zF ?_
  exact zJ N (by rw [d,Bool.false_and])
  refine Reg [1,1,1,2,1,1,1,2,1,1] [] fun w N a J=>?_
  have e:i < u.length:=by rw [<- b rfl];exact c
  refine go fun a J=>?_
  obtain ⟨X,rfl,r,m,D,H,F,k⟩:=q.el B c
  obtain rfl:=id k
  refine go fun a J=>?_
  obtain ⟨Y,rfl,s,n,E,I,G,l⟩:=p.el C e
  obtain rfl:=id l
  refine Qq (fun a J=>?_) (o:=by exact fun J O=>y_parEq J rfl rfl)
  refine go fun a J=>?_
  refine z _ _ _ (by subst A;omega) ⟨(i+1),((decide (r.name=s.name)&&decide (r.type=s.type))),rfl,⟨J.pk,N⟩,?_⟩
  exact ⟨by rw [d,zA m,zA n,y0o,Bool.true_and];rfl,fun _=>b rfl⟩
  refine zF ?_
  exact zJ N (by rw [d,zE c,j4g,Bool.and_true])
 by_cases f:v.length=u.length
 refine go fun a J=>?_
 exact j _ _ ⟨true,J.pk,N,by simp [f]⟩
 refine go fun a J=>?_
 exact j _ _ ⟨false,J.pk,N,by simp [f]⟩
end Go.Sw
