import Derived.Laws.IdiomRangeMap
import Derived.Test.YtghdfphedgcpdaaGreatDoorProg
import Derived.Lib.AppendStr
import Derived.Lib.UnsafeStr
import Derived.Shelf.Strings.Builder1
import Derived.Lib.MakeNoZero
import Derived.Laws.IdiomStrings
import Derived.Scope
import Derived.Laws.RangeAny
import Derived.Laws.Runes
import Derived.OrdersIn
import GoSem.Instr.MapUpdate
import Derived.Laws.StructEq
import Derived.Test.YtghdfphedgcpdaaGreatDoorX01
import Derived.Test.YtghdfphedgcpdaaGreatDoorX02
import Derived.Test.YtghdfphedgcpdaaGreatDoorX03
import Derived.Test.YtghdfphedgcpdaaGreatDoorX05
import Derived.Test.YtghdfphedgcpdaaGreatDoorX06
import Derived.Test.YtghdfphedgcpdaaGreatDoorX07
set_option linter.unusedVariables false
set_option linter.unusedSimpArgs false
namespace Go.Sw
open Go.Proofs
theorem q9s {c:Core} (h:zP c=0):xF c=false∧jA c=true:=by
 unfold zP at h
 split at h
 ·cases h
 split at h
 ·cases h
 split at h
 ·rename_i h2 hr;exact ⟨by simpa using h2,hr⟩
 ·cases h
section
variable {P:Program} {n:Nat} {E:List (Nat×Value)} {D:List Deferred} {a:Act} {Φ:Fz} {K:List Res} {w:World}
variable {Kn:Value→World→Prop} {Qp:List PanicEntry→World→Prop} {dst:Option Tmp} {ty:TypeId} {pos:String} {aft:Array Edge} {g:Option (Nat×Bool)}
theorem qA {α β ε:Type} {f:FuncId} {xs:Array Operand} {ts:Array TypeId} {vs:List Value} {r:Except ε α} {X:α→β→Value} {Z:ε→Value} {F1:α→β→Fz} {Φ2:Fz} {KO:α→β→List Res} {KE:List Res} {G:α→β→Prop}
  (he:EnvR n E D a) (hx:evs E xs.toList=some vs) (hf:∀args w,(callFunc f args).run P w=.ok (.enter f args) w)
  (hc:Calls P f vs.toArray w (fun e w'=>Out r (fun x=>∃y,e=.returned (X x y)∧G x y∧Mem (F1 x y) (KO x y) w') (fun c=>e=.returned (Z c)∧Mem Φ2 KE w')))
  (k:∀x y w',r=.ok x→G x y→Mem (F1 x y) (KO x y) w'→Kn (X x y) w') (kp:∀c w',r=.error c→Mem Φ2 KE w'→Kn (Z c) w') :
  Oper.eff P ⟨dst,.call { callee:=.value (.func f),args:=xs,argTypes:=ts },ty,pos,aft,g⟩ a w Kn Qp:=by
 refine mB he hx hf hc (fun v w' h =>?_) (fun c w' h =>?_) (fun w' h =>?_)
 ·cases r with
  | ok x=>obtain ⟨y,h1,h2,h3⟩:=h;cases h1;exact k _ _ _ rfl h2 h3
  | error c=>obtain ⟨h1,h2⟩:=h;cases h1;exact kp _ _ rfl h2
 ·cases r with
  | ok x=>obtain ⟨y,h1,_⟩:=h;cases h1
  | error c=>obtain ⟨h1,h2⟩:=h;cases h1
 ·cases r with
  | ok x=>obtain ⟨y,h1,_⟩:=h;cases h1
  | error c=>obtain ⟨h1,_⟩:=h;cases h1
theorem q3g {fn:Func} {R:Ending→World→Prop} {t u u2 T b k i:Nat} {cs:List Value} {T0:TypeId} {x x2:Value} (he:EnvR n E [] a) (hm:Sees Φ K w) (hr:fn.results=#[.cell t T,.tmp u,.tmp u2]) (hv:get E t=some (.pointer (some ⟨b,0,none⟩)))
  (hk:qI K i=some (.blk b (ob cs T0))) (hT:AggT P T) (hS:SizeT P T k) (hl:cs.length=k) (hx:get E u=some x) (hx2:get E u2=some x2) (h:R (.returned (.tuple (List.toArray [.agg cs.toArray,x,x2]))) w):bodyPost P fn R .ret a w:=by
 refine ⟨he.defs,_,?_,h⟩
 have h2:=cellA (P:=P) he hm hv hk hT hS hl
 simp [results,hr,Array.getD_eq_getD_getElem?,he.env t _ hv,he.env u _ hx,he.env u2 _ hx2,asAddr,h2,Sem.run_bind,Result.andThen]
end
end Go.Sw

namespace Go.Sw
section
variable {P:Program} {n:Nat} {E:List (Nat×Value)} {D:List Deferred} {a:Act} {Φ:Fz} {K:List Res} {w:World}
variable {Kn:Value→World→Prop} {Qp:List PanicEntry→World→Prop} {dst:Option Tmp} {ty:TypeId} {pos:String} {aft:Array Edge} {g:Option (Nat×Bool)}
end
end Go.Sw

namespace Go.Sw
section
variable {P:Program} {n:Nat} {E:List (Nat×Value)} {D:List Deferred} {a:Act} {Φ:Fz} {K:List Res} {w:World} {ty:TypeId}
end
end Go.Sw

namespace Go.Sw
end Go.Sw

namespace Go.Sw
def tQ (l:List Bs) (s:Bs):Bool:=l.any fun x=>decide (x=s)
theorem z3r (x:Bs) (l:List Bs) (s:Bs):tQ (x::l) s=(decide (x=s) || tQ l s):=by simp [tQ]
section
variable {c:Core} {ps:List Param} {e:Ex}
end
end Go.Sw

namespace Go.Sw
end Go.Sw

namespace Go.Sw
end Go.Sw

namespace Go.Sw
end Go.Sw

namespace Go.Sw
end Go.Sw

namespace Go.Sw
end Go.Sw

namespace Go.Sw
open Go.Proofs
set_option maxRecDepth 20000
set_option maxHeartbeats 4000000
end Go.Sw

namespace Go.Sw
open Go.Proofs
section
variable {c:Core} {name:Bs} {args:List Val} {fuel:Int}
end
end Go.Sw

namespace Go.Sw
section
variable {P:Program} {n:Nat} {E:List (Nat×Value)} {D:List Deferred} {a:Act} {Φ:Fz} {K:List Res} {w:World} {ty:TypeId}
variable {Kn:Value→World→Prop} {Qp:List PanicEntry→World→Prop} {dst:Option Tmp} {pos:String} {aft:Array Edge} {g:Option (Nat×Bool)}
end
end Go.Sw

namespace Go.Sw
open Go.Proofs
section
variable {P:Program} {n:Nat} {E:List (Nat×Value)} {D:List Deferred} {a:Act} {Φ:Fz} {K:List Res} {w:World} {ty:TypeId}
variable {Kn:Value→World→Prop} {Qp:List PanicEntry→World→Prop} {dst:Option Tmp} {pos:String} {aft:Array Edge} {g:Option (Nat×Bool)}
end
end Go.Sw

namespace Go.Sw
end Go.Sw

namespace Go.Sw
open Go.Proofs
set_option maxRecDepth 20000
set_option maxHeartbeats 4000000
end Go.Sw

namespace Go.Sw
open Go.Proofs
set_option maxRecDepth 20000
set_option maxHeartbeats 4000000
end Go.Sw

namespace Go.Sw
open Go.Proofs
set_option maxRecDepth 20000
set_option maxHeartbeats 4000000
end Go.Sw

namespace Go.Sw
def ofTx (l:Tx):Bs:=⟨l.toArray⟩
theorem j2w (s:Bs):ofTx (tx s)=s:=by
 apply ByteArray.ext;simp [ofTx,tx]
theorem tx_size (s:Bs):(tx s).length=s.size:=by
 simp only [tx,Array.length_toList];rfl
section
variable {e:Ex}
end
theorem tE:∀(f n:Nat),n < f→(y9b f n).reverse=Lib.decDigits n
 | 0,_,h=>by omega
 | f+1,n,h=>by
  rw [Lib.decDigits]
  simp only [y9b]
  by_cases hn:n < 10
  ·rw [if_pos hn,dif_pos hn];rfl
  ·rw [if_neg hn,dif_neg hn,List.reverse_cons,tE f (n / 10) (by omega)];try rfl
theorem j2n (n:Int):Lib.itoa n=y0s n:=by
 have h:∀u,j2i u=Lib.decDigits u:=fun u=>tE (u+1) u (Nat.lt_succ_self _)
 unfold Lib.itoa y0s
 split
 ·rw [h,show n.natAbs=(-n).toNat by omega]
 ·rw [h]
theorem y0t (n:Int):nS n=ofTx (y0s n):=by unfold nS ofTx;rw [j2n]
section
variable {e:Ex}
end
end Go.Sw

namespace Go.Sw
section
variable {c:Core} {e:Ex} {vars:List Param}
end
end Go.Sw

namespace Go.Sw
section
variable {P:Program} {n:Nat} {E:List (Nat×Value)} {D:List Deferred} {a:Act} {Φ:Fz} {K:List Res} {w:World} {ty:TypeId}
end
end Go.Sw

namespace Go.Sw
open Go.Proofs
section
variable {P:Program} {n:Nat} {E:List (Nat×Value)} {D:List Deferred} {a:Act} {Φ:Fz} {K:List Res} {w:World}
variable {Kn:Value→World→Prop} {Qp:List PanicEntry→World→Prop} {dst:Option Tmp} {ty:TypeId} {pos:String} {aft:Array Edge} {g:Option (Nat×Bool)}
theorem z9u {t:TypeId} {x:Operand} {s:Bs} (ht:Under P t .string) (he:EnvR n E D a) (hm:Mem Φ K w) (hx:ev E x=some (.string s))
  (k:∀r w',Mem Φ (.blk r (.stringIter s 0)::K) w'→Kn (.pointer (some ⟨r,0,none⟩)) w'):Oper.eff P ⟨dst,.range t x,ty,pos,aft,g⟩ a w Kn Qp:=by
 unfold Oper.eff
 have:(execOp a.eval ⟨dst,.range t x,ty,pos,aft,g⟩).run P w=.ok (.value (.pointer (some ⟨w.heap.size,0,none⟩))) { w with heap:=w.heap.push (.stringIter s 0) }:=by
  simp only [execOp,he.ev hx,Instr.range,Sem.run_bind,ht w,Result.andThen_ok]
  simp [newObj,Sem.run,Sem.run_bind,Result.andThen]
 rw [this]
 exact k _ _ (hm.push _)
theorem y9e (i:Nat) {x:Operand} {r q:Nat} {s:Bs} (he:EnvR n E D a) (hm:Mem Φ K w) (hx:ev E x=some (.pointer (some ⟨r,0,none⟩)))
  (hK:qI K i=some (.blk r (.stringIter s q)))
  (k0:¬q < s.size→∀w',Mem Φ K w'→Kn (.tuple (List.toArray [.bool false])) w')
  (k1:q < s.size→∀w',Mem Φ (kR K i (.blk r (.stringIter s (q+(Utf8.decode s q).2)))) w'→Kn (.tuple (List.toArray [.bool true,.int .i64 ((q:Nat):Int),.int .i32 (((Utf8.decode s q).1:Nat):Int)])) w') :
  Oper.eff P ⟨dst,.next x true,ty,pos,aft,g⟩ a w Kn Qp:=by
 have hr:w.heap[r]? = some (.stringIter s q):=hm.own _ (qJ hK)
 have hlt:r < w.heap.size:=(Array.getElem?_eq_some_iff.1 hr).1
 have hset:∀o,(setObj r o).run P w=.ok () { w with heap:=w.heap.setIfInBounds r o }:=fun o=>by simp only [setObj,Sem.run,hr]
 unfold Oper.eff
 by_cases hq:q < s.size
 ·have:(execOp a.eval ⟨dst,.next x true,ty,pos,aft,g⟩).run P w=.ok (.value (.tuple (List.toArray [.bool true,.int .i64 ((q:Nat):Int),.int .i32 (((Utf8.decode s q).1:Nat):Int)]))) { w with heap:=w.heap.setIfInBounds r (.stringIter s (q+(Utf8.decode s q).2)) }:=by
   simp only [execOp,he.ev hx,Instr.next,getObj,Sem.run_bind,Sem.run,hr,Result.andThen,hq,if_true,hset]
   simp [goInt]
  rw [this]
  refine k1 hq _ (hm.upd hK rfl rfl (fun c hc hne =>?_) ?_ (.inl rfl))
  ·simp only;rw [Array.getElem?_setIfInBounds_ne (fun e=>hne (by simp [Res.foot,e]))]
  ·simp [Res.sat,hlt]
 ·have:(execOp a.eval ⟨dst,.next x true,ty,pos,aft,g⟩).run P w=.ok (.value (.tuple (List.toArray [.bool false]))) w:=by
   simp only [execOp,he.ev hx,Instr.next,getObj,Sem.run_bind,Sem.run,hr,Result.andThen,hq,if_false]
   simp [Sem.run_pure]
  rw [this]
  exact k0 hq _ hm
theorem q7v {x:Operand} {src d:TypeId} {k:IntKind} {i:Int} (he:EnvR n E D a) (hx:ev E x=some (.int k i)) (hs:P.underlying src=some (.int k)) (hd:P.underlying d=some .string):Ok P a (.convert src d x) ty w (.string (Utf8.encode i)):=fun _ _ _ _=>by
 have:=run_convert_int_string (P:=P) w src d k i (by rw [hs];rfl) hd
 simp only [execOp,he.ev hx]
 simp [Sem.run_bind,this,Result.andThen]
end
theorem uE (s:Bs) {i:Nat} (h:i < s.size):(s.get! i).toNat=zJ s i:=by
 rw [pQ h];congr 1;exact get_at s i h
theorem aO {s:Bs} {q:Nat} (h:q < s.size) (hb:zJ s q < 128):Utf8.decode s q=(zJ s q,1):=by
 have h0:(s.get! (q+0)).toNat=zJ s q:=uE s h
 simp only [Utf8.decode,h0]
 rw [if_pos hb]
theorem oR {s:Bs} {q:Nat} (h:q < s.size) (hb:128≤zJ s q):128≤(Utf8.decode s q).1∧(Utf8.decode s q).1≤2147483647∧1≤(Utf8.decode s q).2∧∀j,j < (Utf8.decode s q).2→q+j < s.size∧128≤zJ s (q+j):=by
 have hh:=decode_high s q h (by rw [← pQ h];exact hb)
 refine ⟨hh.1,decode_le s q,hh.2,?_⟩
 have h0:(s.get! (q+0)).toNat=zJ s q:=uE s h
 have hc:∀k,(decide (q+k < s.size)&&((s.get! (q+k)).toNat / 64==2))=true→q+k < s.size∧128≤zJ s (q+k):=fun k hk=>by
  simp only [Bool.and_eq_true,decide_eq_true_eq,beq_iff_eq] at hk
  have:=uE s hk.1
  exact ⟨hk.1,by omega⟩
 have h1:q+0 < s.size∧128≤zJ s (q+0):=⟨h,hb⟩
 simp only [Utf8.decode,h0]
 rw [if_neg (by omega)]
 have one:∀j,j < 1→q+j < s.size∧128≤zJ s (q+j):=fun j hj=>(show 0=j by omega)▸h1
 split
 ·rename_i g
  simp only [Bool.and_eq_true] at g
  split
  ·intro j hj
   rcases (by omega:j=0∨j=1) with rfl | rfl
   ·exact h1
   ·exact hc 1 (by simpa using g.2)
  ·exact one
 ·split
  ·rename_i g
   simp only [Bool.and_eq_true] at g
   split
   ·intro j hj
    rcases (by omega:j=0∨j=1∨j=2) with rfl | rfl | rfl
    ·exact h1
    ·exact hc 1 (by simpa using g.1.2)
    ·exact hc 2 (by simpa using g.2)
   ·exact one
  ·split
   ·rename_i g
    simp only [Bool.and_eq_true] at g
    split
    ·intro j hj
     rcases (by omega:j=0∨j=1∨j=2∨j=3) with rfl | rfl | rfl | rfl
     ·exact h1
     ·exact hc 1 (by simpa using g.1.1.2)
     ·exact hc 2 (by simpa using g.1.2)
     ·exact hc 3 (by simpa using g.2)
    ·exact one
   ·exact one
theorem q4t {r:Int} (h:128≤r):1≤(Utf8.encode r).size∧(Utf8.encode r).size≤4∧128≤zJ (Utf8.encode r) ((Utf8.encode r).size - 1):=by
 have hn:¬(if Utf8.valid r=true then r.toNat else Utf8.runeError) < 128:=by
  split
  ·omega
  ·simp [Utf8.runeError]
 unfold Utf8.encode
 generalize (if Utf8.valid r=true then r.toNat else Utf8.runeError)=c at hn
 simp only
 rw [if_neg hn]
 split
 ·refine ⟨(by show 1≤2;omega),(by show 2≤4;omega),?_⟩
  show 128≤(UInt8.ofNat (128+c % 64)).toNat
  simp;omega
 ·split
  ·refine ⟨(by show 1≤3;omega),(by show 3≤4;omega),?_⟩
   show 128≤(UInt8.ofNat (128+c % 64)).toNat
   simp;omega
  ·refine ⟨(by show 1≤4;omega),(by show 4≤4;omega),?_⟩
   show 128≤(UInt8.ofNat (128+c % 64)).toNat
   simp;omega
end Go.Sw

namespace Go.Sw
open Go.Proofs.Tryz
open Go.Proofs
set_option maxRecDepth 20000
set_option maxHeartbeats 4000000
def sV (r:Nat):Bool:=decide (r < 55296) || (decide (57343 < r)&&decide (r≤1114111))
theorem x1s {s:Bs} {i:Nat} {c:UInt8} (h:∀j,j < s.size→zJ s j < 128) (hc:s[i]? = some c):c.toNat < 128:=by
 rw [← qR hc]
 refine h i ?_
 by_cases hl:i < s.size
 exact hl
 have:s[i]? = none:=by simp;omega
 rw [this] at hc;cases hc
theorem ix_none {s:Bs} {i c:Nat} (h:∀j,j < s.size→zJ s j < 128) (h1:128≤c) (h2:c < 256):Lib.indexByte (s.extract i s.size).data.toList ((c:Nat):Int).toNat.toUInt8=-1:=by
 have hm:¬((c:Nat):Int).toNat.toUInt8∈(s.extract i s.size).data.toList:=fun hx=>by
  obtain ⟨j,hj⟩:=List.mem_iff_getElem?.1 hx
  have h3:=q4x hj
  rw [z9v h3] at hj
  injection hj with hj
  have h4:=h (i+j) h3
  rw [pQ h3,hj] at h4
  simp at h4
  omega
 have h5:=Lib.contains_iff_indexByte (s.extract i s.size).data.toList ((c:Nat):Int).toNat.toUInt8
 rw [show (s.extract i s.size).data.toList.contains (((c:Nat):Int).toNat.toUInt8)=false by simpa using hm] at h5
 have h6:=of_decide_eq_false h5.symm
 have h7:=Lib.indexByte_ge (s.extract i s.size).data.toList ((c:Nat):Int).toNat.toUInt8
 omega
theorem q3s {Φ:Fz} {K:List Res} {w:World} {r:Nat} (hm:Mem Φ K w) :
  Calls prog 200 (List.toArray [.int .i32 ((r:Nat):Int)]) w (fun ee w'=>ee=.returned (.bool (sV r))∧Mem Φ K w'):=by
 refine zN func200 ntmps200 fun Q hQ a he =>?_
 by_cases h4:0≤r
 by_cases h5:r < 55296
 refine zF ?_
 exact yE hm (by simp [sV];omega)
 by_cases h8:57343 < r
 refine go fun a he =>?_
 by_cases h9:r≤1114111
 refine zF ?_
 exact yE hm (by simp [sV];omega)
 refine zF ?_
 exact yE hm (by simp [sV];omega)
 refine zF ?_
 exact yE hm (by simp [sV];omega)
 by_cases h14:57343 < r
 by_cases h15:r≤1114111
 refine zF ?_
 exact yE hm (by simp [sV];omega)
 refine zF ?_
 exact yE hm (by simp [sV];omega)
 refine zF ?_
 exact yE hm (by simp [sV];omega)
theorem y0p {Φ:Fz} {K:List Res} {w:World} {s:Bs} {r:Nat} (hr:128≤r) (hr2:r≤2147483647) (hs:∀j,j < s.size→zJ s j < 128) (h2:s.size≤1000000) (hm:Mem Φ K w) :
  Calls prog 187 (List.toArray [.string s,.int .i32 ((r:Nat):Int)]) w (fun ee w'=>ee=.returned (.int .i64 (-1))∧Mem Φ K w'):=by
 refine zN func187 ntmps187 fun Q hQ a he =>?_
 refine Qq (fun a he =>?_) (o:=by exact fun he hs=>q1p true he rfl rfl (decide_eq_true (Int.ofNat_le.2 (Nat.zero_le r))))
 by_cases h3:r < 128
 refine go fun a he =>?_
 exfalso
 omega
 by_cases h6:r=65533
 refine go fun a he =>?_
 refine st he rfl rfl rfl (z9u runUnderlying9 he hm rfl fun r9 w hm a he =>?_)
 refine go fun a he =>?_
 refine yG (he.ks [175]) hm (fun R mm a w=>∃(q:Nat),mm=s.size - q∧R Φ [] [(0,.blk r9 (.stringIter s q))] a w∧(True)) (s.size - 0) ⟨0,rfl,⟨he.pk,hm⟩,trivial⟩ ?_
 clear hm he
 rintro mm a w ⟨q,hmu,⟨he,hm⟩,hI11⟩ L10 hL10
 replace hm:=hm.nf
 refine go fun a he =>?_
 refine st he rfl rfl rfl (y9e 0 he hm rfl rfl (fun hq13 w hm a he =>?_) (fun hq14 w hm a he =>?_))
 refine zF ?_
 replace hm:=hm.dl [0]
 exact ⟨rfl,hm⟩
 by_cases h20:(Utf8.decode s q).1=65533
 refine go fun a he =>?_
 exfalso
 rw [aO hq14 (hs _ hq14)] at h20;have h_:=hs _ hq14;have h2_:=h20;simp only at h2_;omega
 refine go fun a he =>?_
 refine hL10 (s.size - (q+(Utf8.decode s q).2)) _ _ (by subst hmu;rw [aO hq14 (hs _ hq14)];have h_:=hq14;omega) ⟨(q+(Utf8.decode s q).2),rfl,⟨he.pk,hm⟩,?_⟩
 trivial
 refine yH call200 (fun hB23 w hm a he =>?_) (fun hB23 w hm a he =>?_) (c:=q3s hm)
 refine go fun a he =>?_
 refine wp_scope_straight ?_
 refine Qq (fun a he =>?_) (o:=by exact fun he hs=>q7v he rfl underlying21 underlying9)
 refine go fun a he =>?_
 obtain ⟨he1_,he2_,he3_⟩:=q4t (r:=((r:Nat):Int)) (by omega)
 obtain ⟨rs,hrs_⟩:∃rs,rs=Utf8.encode ((r:Nat):Int):=⟨_,rfl⟩
 rw [← hrs_] at he he1_ he2_ he3_
 refine Qq (fun a he =>?_) (o:=by exact fun he hs=>pE ((rs.size - 1:Nat):Int) he rfl rfl (by rw [xH (by omega)];omega))
 refine go fun a he =>?_
 refine yG (he.ks [0,7,8]) hm (fun R mm a w=>∃(i:Nat),mm=s.size - i∧R Φ [(9,.int .i64 ((i:Nat):Int))] [] a w∧(True)) (s.size - (rs.size - 1)) ⟨rs.size - 1,rfl,⟨he.pk,hm⟩,trivial⟩ ?_
 clear hm he
 rintro mm a w ⟨i,hmu,⟨he,hm⟩,hI30⟩ L29 hL29
 by_cases h33:i < s.size
 refine go fun a he =>?_
 refine wp_scope_straight ?_
 refine Reg [1,1,1,1,1,1,1] [] fun w hm a he =>?_
 obtain ⟨c36,hc37⟩:=pI h33
 refine Qq (fun a he =>?_) (o:=by exact fun he hs=>wK i c36 he rfl rfl runUnderlying9 hc37)
 have hb38:rs.size - 1 < rs.size:=by omega
 obtain ⟨c39,hc40⟩:=pI hb38
 refine Qq (fun a he =>?_) (o:=by exact fun he hs=>wK (rs.size - 1) c39 he rfl rfl runUnderlying9 hc40)
 by_cases h41:c36.toNat=c39.toNat
 refine go fun a he =>?_
 exfalso
 have h_:=x1s hs (show s[i]? = some c36 by assumption)
 have h2_:=qR hc40
 omega
 refine Reg [1,1,1,1,1,1,1,0,1] [] fun w hm a he =>?_
 refine Qq (fun a he =>?_) (o:=by exact fun he hs=>jU (i+1) (s.size) he rfl runUnderlying9 ⟨_,rfl⟩ rfl (by omega) (by exact Nat.le_refl _))
 obtain ⟨c45,hc46⟩:=pI hb38
 refine Qq (fun a he =>?_) (o:=by exact fun he hs=>wK (rs.size - 1) c45 he rfl rfl runUnderlying9 hc46)
 refine zT call199 (fun w hm a he =>?_) (c:=gQ (s:=(s.extract (i+1) s.size)) (c:=c45.toNat) hm)
 by_cases h49:Lib.indexByte (s.extract (i+1) s.size).data.toList (((c45.toNat:Nat):Int)).toNat.toUInt8 < 0
 refine zF ?_
 exact ⟨rfl,hm⟩
 refine go fun a he =>?_
 exfalso
 have h_:=ix_none (i:=i+1) hs (show 128≤c45.toNat by rw [← qR hc46];exact he3_) (UInt8.toNat_lt _)
 rw [h_] at h49
 exact h49 (by decide)
 refine zF ?_
 exact ⟨rfl,hm⟩
 refine zF ?_
 exact ⟨rfl,hm⟩
end Go.Sw

namespace Go.Sw
open Go.Proofs.Tryz
open Go.Proofs
set_option maxRecDepth 20000
set_option maxHeartbeats 4000000
variable {Φ:Fz} {K:List Res} {w:World}
def ixR (s:Bs) (q:Nat):Int:=if zJ s q < 128 then Lib.indexByte [32,10,40,41] ((zJ s q:Nat):Int).toNat.toUInt8 else -1
theorem j2o {s:Bs} {q:Nat} (h:q < s.size):decide (0≤ixR s q)=y5p (zJ s q):=by
 unfold ixR
 split
 rw [← Lib.contains_iff_indexByte,pQ h]
 have e:(((s[q].toNat:Nat):Int)).toNat.toUInt8=s[q]:=by simp
 rw [e]
 exact mK _
 have:zJ s q≠32∧zJ s q≠10∧zJ s q≠40∧zJ s q≠41:=by omega
 simp [y5p,this]
theorem x2z {b:Nat} (h:128≤b):y5p b=false:=by
 have:b≠32∧b≠10∧b≠40∧b≠41:=by omega
 simp [y5p,this]
theorem q9x {s:Bs} {q:Nat} (hN:Lib.NoAny s.data.toList [32,10,40,41] q) (hq:q < s.size) (hn:¬0≤ixR s q):Lib.NoAny s.data.toList [32,10,40,41] (q+(Utf8.decode s q).2):=by
 have h0:y5p (zJ s q)=false:=(j2o hq).symm.trans (decide_eq_false hn)
 have hb:∀j,j < s.size→∀b,s.data.toList[j]? = some b→b.toNat=zJ s j:=fun j hj b hb=>by
  rw [Array.getElem?_toList] at hb
  exact (qR (t:=s) (i:=j) (c:=b) hb).symm
 have hl:∀(j:Nat) b,s.data.toList[j]? = some b→j < s.size:=fun j b hb=>by
  have:=(List.getElem?_eq_some_iff.1 hb).1
  rwa [Array.length_toList] at this
 intro j b hj hx
 by_cases hjq:j < q
 exact hN j b hjq hx
 rw [mK,hb j (hl j b hx) b hx]
 by_cases hlow:zJ s q < 128
 rw [aO hq hlow] at hj
 simp only at hj
 obtain rfl:j=q:=by omega
 exact h0
 have h2:=(oR hq (by omega)).2.2.2 (j - q) (by omega)
 rw [show q+(j - q)=j by omega] at h2
 exact x2z h2.2
theorem j8i {s:Bs} {q:Nat} (h:q < s.size):s.size - (q+(Utf8.decode s q).2) < s.size - q:=by
 by_cases hl:zJ s q < 128
 rw [aO h hl];simp only;omega
 have h2:=(oR h (by omega)).2.2.1
 omega
theorem j6d {s:Bs} {q:Nat} (hN:Lib.NoAny s.data.toList [32,10,40,41] q) (hq:¬q < s.size):Lib.indexAny s.data.toList [32,10,40,41]=-1 :=
 Lib.indexAny_none fun j b hj hx=>hN j b (by rw [Array.length_toList] at hj;have:s.data.size=s.size:=rfl;omega) hx
theorem j6e {s:Bs} {q:Nat} (hN:Lib.NoAny s.data.toList [32,10,40,41] q) (hq:q < s.size) (hh:0≤ixR s q):Lib.indexAny s.data.toList [32,10,40,41]=((q:Nat):Int) :=
 Lib.indexAny_hit (x:=s[q]) hN (by rw [Array.getElem?_toList];exact Array.getElem?_eq_getElem hq) (by rw [mK,← pQ hq,← j2o hq];exact decide_eq_true hh)
theorem y6z {s:Bs} {q:Nat} (hq:q < s.size) (hm:Mem Φ K w) :
  Calls prog 187 (List.toArray [.string ⟨#[32,10,40,41]⟩,.int .i32 (((Utf8.decode s q).1:Nat):Int)]) w (fun ee w'=>ee=.returned (.int .i64 (ixR s q))∧Mem Φ K w'):=by
 unfold ixR
 by_cases h:zJ s q < 128
 rw [aO hq h,if_pos h]
 have L:=Tryz.lays153
 exact (Any.strings_IndexRune_ascii { L with } ⟨#[32,10,40,41]⟩ ((zJ s q:Nat):Int) w (by omega) (by omega)).mono fun e w' he=>by obtain ⟨h1,rfl⟩:=he;exact ⟨h1,hm⟩
 rw [if_neg h]
 have hd:=oR hq (by omega)
 exact y0p hd.1 hd.2.1 (by decide) (by decide) hm
theorem q3l {n:Nat}  (hm:Mem Φ K w) :
  Calls prog 188 (List.toArray [.int .i64 (n:Int)]) w (fun ee w'=>ee=.returned (.bool (decide (8 < n)))∧Mem Φ K w'):=by
 refine zN func188 ntmps188 fun Q hQ a he =>?_
 refine Qq (fun a he =>?_) (o:=by exact fun he hs=>j1n (i:=n) (j:=8) he rfl rfl)
 refine zF ?_
 exact yE hm (by simp [*])
theorem y0n {s:Bs} (h8:s.size≤8) (hm:Mem Φ K w) :
  Calls prog 176 (List.toArray [.string s,.string ⟨#[32,10,40,41]⟩]) w (fun ee w'=>ee=.returned (.int .i64 (Lib.indexAny s.data.toList [32,10,40,41]))∧Mem Φ K w'):=by
 obtain ⟨ch,hch_⟩:∃ch:ByteArray,ch=⟨#[32,10,40,41]⟩:=⟨_,rfl⟩
 rw [← hch_]
 refine zN func176 ntmps176 fun Q hQ a he =>?_
 by_cases h4:ch=(⟨#[]⟩:ByteArray)
 refine go fun a he =>?_
 exfalso
 have h_:=h4;rw [hch_] at h_;revert h_;decide
 by_cases h8:ch.size=1
 refine go fun a he =>?_
 exfalso
 have h_:=h8;rw [hch_] at h_;revert h_;decide
 refine yH call188 (fun hB12 w hm a he =>?_) (fun hB12 w hm a he =>?_) (c:=q3l hm)
 refine go fun a he =>?_
 exfalso
 have h_:=of_decide_eq_true hB12;omega
 refine go fun a he =>?_
 refine st he rfl rfl rfl (z9u runUnderlying9 he hm rfl fun r16 w hm a he =>?_)
 refine go fun a he =>?_
 refine yG (he.ks [1,45]) hm (fun R mm a w=>∃(q:Nat),mm=s.size - q∧R Φ [] [(0,.blk r16 (.stringIter s q))] a w∧(Lib.NoAny s.data.toList [32,10,40,41] q)) (s.size - 0) ⟨0,rfl,⟨he.pk,hm⟩,Lib.NoAny.zero _ _⟩ ?_
 clear hm he
 rintro mm a w ⟨q,hmu,⟨he,hm⟩,hI18⟩ L17 hL17
 replace hm:=hm.nf
 have hN_:=hI18
 refine go fun a he =>?_
 refine st he rfl rfl rfl (y9e 0 he hm rfl rfl (fun hq20 w hm a he =>?_) (fun hq21 w hm a he =>?_))
 refine zF ?_
 replace hm:=hm.dl [0]
 exact ⟨by rw [j6d hN_ hq20],hm⟩
 refine zT call187 (fun w hm a he =>?_) (c:=(hch_▸y6z (s:=s) (q:=q) hq21 hm))
 by_cases h27:0≤ixR s q
 refine zF ?_
 replace hm:=hm.dl [0]
 exact ⟨by rw [j6e hN_ hq21 h27],hm⟩
 refine go fun a he =>?_
 refine hL17 (s.size - (q+(Utf8.decode s q).2)) _ _ (by subst hmu;exact j8i hq21) ⟨(q+(Utf8.decode s q).2),rfl,⟨he.pk,hm⟩,?_⟩
 exact q9x hN_ hq21 h27
theorem j3s {t:Bs} {i:Nat} (h2:t.size≤1000000) (hi:i≤t.size) (hm:Mem Φ K w) :
  Calls prog 176 (List.toArray [.string (t.extract i t.size),.string ⟨#[32,10,40,41]⟩]) w (fun ee w'=>ee=.returned (.int .i64 (if i+qB t i < t.size then ((qB t i:Nat):Int) else -1))∧Mem Φ K w'):=by
 have h3:=ByteArray.size_extract (a:=t) (b:=i) (e:=t.size)
 rw [← j3t hi]
 by_cases h8:(t.extract i t.size).size≤8
 exact y0n h8 hm
 have L:=Tryz.lays153
 have hz:(prog.info? (Tryz.lays153_ren.t 116)).map (fun i=>(i.zero,i.size))=some (some (.agg (Array.replicate 256 (.bool false))),256):=by kernel_rfl
 refine (Any.strings_IndexAny_long L (zero_of_info hz).1 (zero_of_info hz).2 (t.extract i t.size) ⟨#[32,10,40,41]⟩ w (by decide) (by omega) (by omega) (by decide) ?_).mono fun e w' he =>?_
 intro j b hb
 have hl:(⟨#[32,10,40,41]⟩:ByteArray).data.toList=[32,10,40,41]:=rfl
 rw [hl] at hb
 have:=List.mem_of_getElem? hb
 simp only [List.mem_cons,List.not_mem_nil,or_false] at this
 rcases this with rfl | rfl | rfl | rfl <;> decide
 obtain ⟨rfl,rfl⟩:=he
 exact ⟨rfl,hm.below (((Go.RowKit.Below.refl _ _).alloc (Nat.le_refl _) _).alloc (by simp) _)⟩
end Go.Sw

namespace Go.Sw
open Go.Proofs.Tryz
open Go.Proofs
set_option maxRecDepth 20000
set_option maxHeartbeats 4000000
theorem x3y {Φ:Fz} {K:List Res} {w:World} {t:Bs} (hm:Mem Φ K w) :
  Calls prog 138 (List.toArray [.string t]) w (fun ee w'=>∃y:Nat,ee=.returned (.func (.func 175) (List.toArray []) (List.toArray [.pointer (some ⟨y,0,none⟩)]))∧True∧Mem Φ (.blk y (ob [.string t] 9)::K) w'):=by
 refine zN func138 ntmps138 fun Q hQ a he =>?_
 refine Bx fun b2 w hm a he =>?_
 refine zF ?_
 exact ⟨_,rfl,trivial,hm⟩
theorem j7i {β:Type} {Φ:Fz} {w:World} {t:Bs} {bx l:Nat} {KY:List Bs→β→List Res} {z:β} (h2:t.size≤1000000)
  (hy:∀pre z K0 (k:Bs) w,pre.length < t.size→Mem Φ (K0++KY pre z) w→YieldAt Fence.wide 2 prog l #[.string k] w (fun e w'=>e=.returned (.bool true)∧∃z',Mem Φ (K0++KY (pre++[k]) z') w'))
  (hm:Mem Φ (.blk bx (ob [.string t] 9)::KY [] z) w) :
  Calls prog 175 (List.toArray [.func (.yield l) #[] #[],.pointer (some ⟨bx,0,none⟩)]) w (fun ee w'=>∃y:β,ee=.returned (.tuple #[])∧Mem Φ (KY (dH t) y) w'):=by
 refine zN func175 ntmps175 fun Q hQ a he =>?_
 refine go fun a he =>?_
 refine xB (fun mm a w=>∃(i:Nat) (f:Nat) (pre:List Bs) (z0:β),mm=t.size - i∧EnvR 52 [(0,.func (.yield l) #[] #[]),(1,.pointer (some ⟨bx,0,none⟩)),(3,.int .i64 ((i:Nat):Int))] [] a∧Mem Φ (.blk bx (ob [.string t] 9)::KY pre z0) w∧(i≤t.size∧pre.length≤i∧t.size≤i+f∧dH t=pre++vM t f i)) (t.size - 0) ⟨0,t.size,[],z,rfl,he.pk,hm,⟨Nat.zero_le _,Nat.zero_le _,by omega,rfl⟩⟩ ?_
 clear hm he
 rintro mm a w ⟨i,f,pre,z0,hmu,he,hm,hI3⟩ L2 hL2
 obtain ⟨hi0_,hi1_,hi2_,hI_⟩:=hI3
 by_cases h6:i < t.size
 obtain ⟨c8,hc9⟩:=pI h6
 refine Qq (fun a he =>?_) (o:=by exact fun he hs=>wK i c8 he rfl rfl runUnderlying9 hc9)
 refine goJ 10 fun a he =>?_
 refine sq fun L10 hL10 =>?_
 have hJ11:∀a w,(EnvR 52 [(0,.func (.yield l) #[] #[]),(1,.pointer (some ⟨bx,0,none⟩)),(3,.int .i64 ((i:Nat):Int)),(11,.int .u8 ((c8.toNat:Nat):Int)),(34,.bool (decide (zJ t i=32∨zJ t i=10)))] [] a∧Mem Φ (.blk bx (ob [.string t] 9)::KY pre z0) w∧(True))→L10 a w:=by
  clear hm he
  rintro a w ⟨he,hm,hI12⟩
  refine hL10 _ _ ?_
  generalize hb14:(decide (zJ t i=32∨zJ t i=10))=bb13 at he
  cases bb13
  refine goJ 13 fun a he =>?_
  refine sq fun L15 hL15 =>?_
  have hJ16:∀a w,(EnvR 52 [(0,.func (.yield l) #[] #[]),(1,.pointer (some ⟨bx,0,none⟩)),(3,.int .i64 ((i:Nat):Int)),(39,.bool (decide (zJ t i=40∨zJ t i=41)))] [] a∧Mem Φ (.blk bx (ob [.string t] 9)::KY pre z0) w∧(True))→L15 a w:=by
   clear hm he
   rintro a w ⟨he,hm,hI17⟩
   refine hL15 _ _ ?_
   generalize hb19:(decide (zJ t i=40∨zJ t i=41))=bb18 at he
   cases bb18
   have hwl_:=z0j (t:=t) (i:=i) (by omega)
   have hwp_:=q7t h6 (of_decide_eq_false hb14) (of_decide_eq_false hb19)
   refine Qq (fun a he =>?_) (o:=by exact fun he hs=>jU i (t.size) he rfl runUnderlying9 ⟨_,rfl⟩ rfl (by omega) (by exact Nat.le_refl _))
   refine zT call176 (fun w hm a he =>?_) (c:=j3s (i:=i) (by omega) (by omega) hm)
   refine goJ 6 fun a he =>?_
   refine sq fun L21 hL21 =>?_
   have hJ22:∀a w,(EnvR 52 [(0,.func (.yield l) #[] #[]),(1,.pointer (some ⟨bx,0,none⟩)),(3,.int .i64 ((i:Nat):Int)),(4,.int .i64 ((qB t i:Nat):Int))] [] a∧Mem Φ (.blk bx (ob [.string t] 9)::KY pre z0) w∧(True))→L21 a w:=by
    clear hm he
    rintro a w ⟨he,hm,hI23⟩
    refine hL21 _ _ ?_
    refine go1 fun a he =>?_
    refine jZ ?_
    refine yO he (by intro c h;cases h) (jB he rfl) rfl fun a he =>?_
    refine yO he (by intro c h;cases h) (yR 0 he hm.toSees rfl rfl rfl isAgg9) rfl fun a he =>?_
    refine yO he (by intro c h;cases h) (jB he rfl) rfl fun a he =>?_
    refine yO he (by intro c h;cases h) (jB he rfl) rfl fun a he =>?_
    refine yO he (by intro c h;cases h) (jB he rfl) rfl fun a he =>?_
    refine yO he (by intro c h;cases h) (kV (i:=i) (j:=qB t i) he rfl rfl (by omega)) rfl fun a he =>?_
    refine yO he (by intro c h;cases h) (jU i (i+qB t i) he rfl runUnderlying9 ⟨_,rfl⟩ ⟨_,rfl⟩ (by omega) (by omega)) rfl fun a he =>?_
    refine y0m (v:=.string (t.extract i (i+qB t i))) he rfl rfl rfl (hy pre z0 [.blk bx (ob [.string t] 9)] (t.extract i (i+qB t i)) w (by omega) hm) fun w hJ_ a he =>?_
    obtain ⟨z26,hm⟩:=hJ_
    replace hm:=hm.nf
    refine yO he (by intro c h;cases h) (tY he rfl) rfl fun a he =>?_
    refine wpListIn_nil ?_
    refine Qq (fun a he =>?_) (o:=by exact fun he hs=>kV (i:=i) (j:=(qB t i)) he rfl rfl (by omega))
    refine go fun a he =>?_
    refine hL2 _ _ _ (by subst hmu;omega) ⟨((i+(qB t i))),(f - 1),(pre++[(t.extract i (i+qB t i))]),(z26),rfl,he.pk,hm,?_⟩
    exact ⟨by omega,by simp only [List.length_append,List.length_cons,List.length_nil];omega,by omega,by rw [hI_,j1l h6 (by omega) (of_decide_eq_false hb14) (of_decide_eq_false hb19),List.append_assoc];rfl⟩
   by_cases h28:(if i+qB t i < t.size then ((qB t i:Nat):Int) else -1) < 0
   have hwn_:=x3w (by omega) h28
   refine Qq (fun a he =>?_) (o:=by exact fun he hs=>pE ((qB t i:Nat):Int) he rfl rfl (by rw [xH (by omega)];omega))
   refine go fun a he =>?_
   exact hJ22 _ _ ⟨he.pk,hm,trivial⟩
   refine go fun a he =>?_
   rw [x3x h28] at he
   exact hJ22 _ _ ⟨he.pk,hm,trivial⟩
   refine go1 fun a he =>?_
   refine jZ ?_
   refine yO he (by intro c h;cases h) (jB he rfl) rfl fun a he =>?_
   refine yO he (by intro c h;cases h) (yR 0 he hm.toSees rfl rfl rfl isAgg9) rfl fun a he =>?_
   refine yO he (by intro c h;cases h) (jB he rfl) rfl fun a he =>?_
   refine yO he (by intro c h;cases h) (jB he rfl) rfl fun a he =>?_
   refine yO he (by intro c h;cases h) (kV (i:=i) (j:=1) he rfl rfl (by omega)) rfl fun a he =>?_
   refine yO he (by intro c h;cases h) (jU i (i+1) he rfl runUnderlying9 ⟨_,rfl⟩ ⟨_,rfl⟩ (by omega) (by omega)) rfl fun a he =>?_
   refine y0m (v:=.string (t.extract i (i+1))) he rfl rfl rfl (hy pre z0 [.blk bx (ob [.string t] 9)] (t.extract i (i+1)) w (by omega) hm) fun w hJ_ a he =>?_
   obtain ⟨z31,hm⟩:=hJ_
   replace hm:=hm.nf
   refine yO he (by intro c h;cases h) (tY he rfl) rfl fun a he =>?_
   refine wpListIn_nil ?_
   refine go fun a he =>?_
   refine hL2 _ _ _ (by subst hmu;omega) ⟨((i+1)),(f - 1),(pre++[(t.extract i (i+1))]),(z31),rfl,he.pk,hm,?_⟩
   exact ⟨by omega,by simp only [List.length_append,List.length_cons,List.length_nil];omega,by omega,by rw [hI_,j7k h6 (by omega) (of_decide_eq_false hb14) (of_decide_eq_true hb19),List.append_assoc];rfl⟩
  by_cases h33:c8.toNat=40
  refine go fun a he =>?_
  exact hJ16 _ _ (by rw [show decide (zJ t i=40∨zJ t i=41)=true from decide_eq_true (.inl ((qR hc9).trans h33))];exact ⟨he.pk,hm,trivial⟩)
  by_cases h34:c8.toNat=41
  refine go fun a he =>?_
  exact hJ16 _ _ (by rw [show decide (zJ t i=40∨zJ t i=41)=true from decide_eq_true (.inr ((qR hc9).trans h34))];exact ⟨he.pk,hm,trivial⟩)
  refine go fun a he =>?_
  exact hJ16 _ _ (by rw [show decide (zJ t i=40∨zJ t i=41)=false from decide_eq_false (by rw [qR hc9];exact fun hh=>hh.elim h33 h34)];exact ⟨he.pk,hm,trivial⟩)
  refine go fun a he =>?_
  refine hL2 _ _ _ (by subst hmu;omega) ⟨(i+1),(f - 1),(pre),(z0),rfl,he.pk,hm,?_⟩
  exact ⟨by omega,by omega,by omega,by rw [hI_,x3z h6 (by omega) (of_decide_eq_true hb14)]⟩
 by_cases h36:c8.toNat=32
 refine go fun a he =>?_
 exact hJ11 _ _ (by rw [show decide (zJ t i=32∨zJ t i=10)=true from decide_eq_true (.inl ((qR hc9).trans h36))];exact ⟨he.pk,hm,trivial⟩)
 by_cases h37:c8.toNat=10
 refine go fun a he =>?_
 exact hJ11 _ _ (by rw [show decide (zJ t i=32∨zJ t i=10)=true from decide_eq_true (.inr ((qR hc9).trans h37))];exact ⟨he.pk,hm,trivial⟩)
 refine go fun a he =>?_
 exact hJ11 _ _ (by rw [show decide (zJ t i=32∨zJ t i=10)=false from decide_eq_false (by rw [qR hc9];exact fun hh=>hh.elim h36 h37)];exact ⟨he.pk,hm,trivial⟩)
 refine go fun a he =>?_
 replace hm:=hm.dl [0]
 refine hQ _ _ _ (q0t he results175 ?_)
 rw [hI_,j7j h6,List.append_nil];exact ⟨z0,rfl,hm⟩
end Go.Sw

namespace Go.Sw
open Go.Proofs.Tryz
open Go.Proofs
abbrev wrongRE (n:Nat) (r:Bool):PanicEntry:={ v:=.iface 206 (.agg #[.int .i64 ((n:Nat):Int)]),recovered:=r }
theorem q5g:zL prog 206 0 0:=zE runUnderlying206 rfl sizeOf3 (by decide) rfl
set_option maxRecDepth 20000 in
set_option maxHeartbeats 4000000 in
theorem q1y {Φ:Fz} {K:List Res} {w:World} {bc bw n:Nat} {s t u v x:Value} (hm:Mem Φ (.blk bc (ob [s,t,u,v] 27)::.blk bw (ob [x] 3)::K) w) :
  CallsD prog 137 #[.pointer (some ⟨bc,0,none⟩),.pointer (some ⟨bw,0,none⟩)] (.panicking (pO n)) w fun e u' w' =>
   e=.returned (.tuple #[])∧u'=.panicking [wrongRE n true]∧Mem Φ (.blk bc (ob [.slice none 0 0,.slice none 0 0,.slice none 0 0,.slice none 0 0] 27)::.blk bw (ob [.int .i64 ((n:Nat):Int)] 3)::K) w':=by
 generalize hR:(fun (e:Ending) (u':FrameMode) (w':World)=>e=.returned (.tuple #[])∧u'=.panicking [wrongRE n true]∧Mem Φ (.blk bc (ob [.slice none 0 0,.slice none 0 0,.slice none 0 0,.slice none 0 0] 27)::.blk bw (ob [.int .i64 ((n:Nat):Int)] 3)::K) w')=R
 refine callsD_of_wpS func137 rfl fun c₀ cs hu =>?_
 apply wpS_seq
 apply wpS_region
 show wpOpsS prog _ _ [0,1] _ _ _
 simp [wpOpsS,go_sem,recoverD,hu,ntmps137,Exit.thenS,pO]
 refine wpS_of_wp ?_
 generalize hc:(_::cs:List Frame)=cs'
 have hQ:∀(a:Act) (w':World),a.defers=[]→Mem Φ (.blk bc (ob [.slice none 0 0,.slice none 0 0,.slice none 0 0,.slice none 0 0] 27)::.blk bw (ob [.int .i64 ((n:Nat):Int)] 3)::K) w'→bodyPostS prog Tryz.f137 c₀ cs R .normal a cs' w':=fun a w' hd hm =>
  ⟨hd,.panicking [wrongRE n true],hc.symm,.tuple #[],results_none rfl _ _ _,by subst hR;exact ⟨rfl,rfl,hm⟩⟩
 generalize hact:(Act.mk _ [])=a
 have he:EnvR 19 [(2,.iface 206 (.agg (List.toArray [.int .i64 ((n:Nat):Int)]))),(1,.pointer (some ⟨bw,0,none⟩)),(0,.pointer (some ⟨bc,0,none⟩))] [] a:=by
  subst hact
  refine ⟨by simp,fun t v h =>?_,rfl⟩
  obtain ⟨rfl,rfl⟩ | ⟨_,h⟩:=pG h
  ·simp
  ·obtain ⟨rfl,rfl⟩ | ⟨_,h⟩:=pG h
   ·simp
   ·obtain ⟨rfl,rfl⟩ | ⟨_,h⟩:=pG h
    ·simp
    ·cases h
 clear hact
 refine sq fun L1 hL1 =>?_
 refine wp_region_lit ?_
 refine xW he (jB he rfl) rfl fun a he =>?_
 refine xW he (pX (v:=.bool true) he rfl rfl rfl (by kernel_rfl)) rfl fun a he =>?_
 refine wpList_nil ?_
 refine hL1 _ _ ?_
 refine if_t he rfl ?_
 refine sq fun L2 hL2 =>?_
 refine wp_region_lit ?_
 refine xW he (jB he rfl) rfl fun a he =>?_
 refine xW he (q7u he rfl runUnderlying206 (by intro ms h;cases h)) rfl fun a he =>?_
 refine xW he (jB he rfl) rfl fun a he=>xW he (gG he rfl rfl) rfl fun a he=>xW he (gG he rfl rfl) rfl fun a he =>?_
 refine st he rfl rfl rfl (yI (cs:=[.int .i64 ((0:Nat):Int)]) hm zeroValue206 rfl fun b3 w hm a he =>?_)
 refine st0 he rfl rfl (zS 0 (cs:=[.int .i64 ((0:Nat):Int)]) (vs:=[.int .i64 ((n:Nat):Int)]) he hm rfl rfl rfl rfl sizeOf206 rfl rfl rfl fun w hm a he =>?_)
 refine xW he (vJ he rfl) rfl fun a he =>?_
 refine wpList_nil ?_
 refine hL2 _ _ ?_
 replace hm:Mem Φ (.blk b3 (ob [.int .i64 ((n:Nat):Int)] 206)::.blk bc (ob [s,t,u,v] 27)::.blk bw (ob [x] 3)::K) w:=hm
 refine sq fun L3 hL3 =>?_
 refine sq fun L4 hL4 =>?_
 refine wp_region_lit ?_
 refine xW he (jB he rfl) rfl fun a he=>xW he (tY he rfl) rfl fun a he =>?_
 refine wpList_nil ?_
 refine hL4 _ _ ?_
 refine if_f he rfl ?_
 refine wp_skip ?_
 refine hL3 _ _ ?_
 refine nL [1,1,2,0,0] (.q 0 (.q 1 (.q 2 (.e 3 (.e 4 (.done)))))) [.blk b3 (ob [.int .i64 ((n:Nat):Int)] 206)] he hm mixed (by kernel_rfl) (by simp) fun w hm =>?_
 refine wD he rfl rfl (fun w=>qM (vs:=[]) (cs:=[.slice none 0 0,.slice none 0 0,.slice none 0 0,.slice none 0 0]) he rfl (by kernel_rfl)) rfl fun a he =>?_
 refine wD he rfl rfl (fun w=>qO he rfl q5g rfl) rfl fun a he =>?_
 refine d_q he rfl rfl (fun w hs=>yR 0 he hs rfl rfl rfl isAgg3) rfl fun a he =>?_
 refine vK he rfl rfl (zS 1 (cs:=[s,t,u,v]) (vs:=[.slice none 0 0,.slice none 0 0,.slice none 0 0,.slice none 0 0]) he hm rfl rfl rfl rfl sizeOf27 rfl rfl rfl fun w hm=>⟨fun _=>hm.seesIn (Fz.Le.refl _) (by simp [kR]),fun a he =>?_⟩)
 refine vK he rfl rfl (zS 2 (cs:=[x]) (vs:=[.int .i64 ((n:Nat):Int)]) he hm rfl rfl rfl rfl sizeOf3 rfl rfl rfl fun w hm=>⟨zU (by kernel_rfl),fun a he =>?_⟩)
 refine q2a ?_
 replace hm:Mem Φ (.blk bc (ob [.slice none 0 0,.slice none 0 0,.slice none 0 0,.slice none 0 0] 27)::.blk bw (ob [.int .i64 ((n:Nat):Int)] 3)::K) w:=hm.del 0
 exact hQ _ _ he.defs hm
set_option maxRecDepth 20000 in
theorem catchR_none {w:World} {bc bw:Nat} :
  CallsD prog 137 #[.pointer (some ⟨bc,0,none⟩),.pointer (some ⟨bw,0,none⟩)] .returning w fun e u' w'=>e=.returned (.tuple #[])∧u'=.returning∧w'=w:=by
 generalize hR:(fun (e:Ending) (u':FrameMode) (w':World)=>e=.returned (.tuple #[])∧u'=.returning∧w'=w)=R
 refine callsD_of_wpS func137 rfl fun c₀ cs hu =>?_
 apply wpS_seq
 apply wpS_region
 show wpOpsS prog _ _ [0,1] _ _ _
 simp [wpOpsS,go_sem,recoverD,hu,ntmps137,Exit.thenS]
 refine wpS_of_wp ?_
 have hQ:∀(a:Act),a.defers=[]→bodyPostS prog Tryz.f137 c₀ cs R .normal a (c₀::cs) w:=fun a hd =>
  ⟨hd,.returning,by cases c₀;simp only at hu;subst hu;rfl,.tuple #[],results_none rfl _ _ _,by subst hR;exact ⟨rfl,rfl,rfl⟩⟩
 generalize hact:(Act.mk _ [])=a
 have he:EnvR 19 [(2,.nilIface)] [] a:=by
  subst hact
  refine ⟨by simp,fun t v h =>?_,rfl⟩
  obtain ⟨rfl,rfl⟩ | ⟨_,h⟩:=pG h
  ·simp
  ·cases h
 clear hact
 refine sq fun L1 hL1 =>?_
 refine wp_region_lit ?_
 refine xW he (jB he rfl) rfl fun a he =>?_
 refine xW he (pX (v:=.bool false) he rfl rfl rfl (by kernel_rfl)) rfl fun a he =>?_
 refine wpList_nil ?_
 refine hL1 _ _ ?_
 refine if_f he rfl ?_
 refine wp_skip ?_
 exact hQ _ he.defs
end Go.Sw

namespace Go.Sw
open Go.Proofs.Tryz
open Go.Proofs
theorem fo_75_0:zL prog 75 0 0:=zE runUnderlying75 rfl sizeOf27 (by decide) rfl
theorem fo_75_1:zL prog 75 1 4:=zE runUnderlying75 rfl sizeOf25 (by decide) rfl
theorem fo_75_2:zL prog 75 2 5:=zE runUnderlying75 rfl sizeOf47 (by decide) rfl
theorem fo_75_3:zL prog 75 3 6:=zE runUnderlying75 rfl sizeOf71 (by decide) rfl
theorem fo_75_4:zL prog 75 4 7:=zE runUnderlying75 rfl sizeOf72 (by decide) rfl
theorem fo_75_5:zL prog 75 5 8:=zE runUnderlying75 rfl sizeOf73 (by decide) rfl
theorem fo_78_0:zL prog 78 0 0:=zE runUnderlying78 rfl sizeOf9 (by decide) rfl
theorem fo_86_0:zL prog 86 0 0:=zE runUnderlying86 rfl sizeOf25 (by decide) rfl
theorem fo_86_1:zL prog 86 1 1:=zE runUnderlying86 rfl sizeOf84 (by decide) rfl
theorem fo_86_2:zL prog 86 2 2:=zE runUnderlying86 rfl sizeOf84 (by decide) rfl
theorem fo_95_0:zL prog 95 0 0:=zE runUnderlying95 rfl sizeOf9 (by decide) rfl
theorem fo_95_1:zL prog 95 1 1:=zE runUnderlying95 rfl sizeOf9 (by decide) rfl
theorem q5f:zL prog 131 0 0:=zE runUnderlying131 rfl sizeOf78 (by decide) rfl
theorem j9r:zL prog 131 1 1:=zE runUnderlying131 rfl sizeOf112 (by decide) rfl
theorem x0d:zL prog 261 1 1:=zE runUnderlying261 rfl sizeOf3 (by decide) rfl
theorem x0f:zL prog 261 3 3:=zE runUnderlying261 rfl sizeOf3 (by decide) rfl
set_option maxRecDepth 20000 in
theorem rt_47:RowT prog 47 95 2 32:=⟨underlying47,⟨_,_,Tryz.type95,rfl,rfl,rfl,rfl⟩,by decide,by decide⟩
end Go.Sw

namespace Go.Sw
section
variable {P:Program} {ops:Array Oper} {md:Region.Mode} {B:World→Prop} {kd:List Nat} {Qp:List PanicEntry→World→Prop} {D:List Deferred}
end
theorem EnvR.keep {n:Nat} {E0:List (Nat×Value)} {D:List Deferred} {a:Act} {o:Oper} {v:Value} (he:EnvR n E0 D a) (ho:(match o.dst with | some d=>(get E0 d).isNone | none=>true)=true):EnvR n E0 D (a.put o.dst v):=by
 cases hd:o.dst with
 | none=>exact he
 | some d =>
  rw [hd] at ho
  refine ⟨by simp [Act.put,he.size],fun t u h =>?_,he.defs⟩
  have:t≠d:=fun e=>by subst e;simp only [h] at ho;cases ho
  simp only [Act.put]
  rw [Array.getElem?_setIfInBounds_ne (Ne.symm this)]
  exact he.env t u h
theorem aA {P:Program} {n:Nat} {E0:List (Nat×Value)} {D:List Deferred} {a:Act} {Φ:Fz} {K:List Res} {w:World} {id:Nat} {l:List Oper} {Q:Exit→Act→World→Prop} (kd:List Nat) (p:Plan) (K':List Res) (h0:EnvR n E0 D a) (hm:Mem Φ K w) (hw:P.follows .mixedOrders=true) (hB:z2j l.toArray kd p=true) (hK:∀r∈K',r∈K)
  (ho:l.all (fun o=>match o.dst with | some d=>(get E0 d).isNone | none=>true)=true)
  (h:∀w,Mem Φ K w→zX P .any l.toArray (Sees Φ K') kd (fun c w=>∀a,EnvR n E0 D a→Q (.panic c) a w) (Q .normal) p a w):(Code.region id l.toArray true).wp P Q a w:=by
 have hm':=hm.drew
 have h:=h _ hm'
 simp only [z2j,Bool.and_eq_true,beq_iff_eq] at hB
 obtain ⟨⟨⟨hs,hev⟩,hl⟩,hok⟩:=hB
 refine (wpIn_wide (n:=3)).1 (wpIn_region_any hw (mN (r:=none) (Inv:=EnvR n E0 D) (kd:=kd) (B:=Sees Φ K') (Qp:=fun c w=>∀a,EnvR n E0 D a→Q (.panic c) a w) (Q:=Q .normal) (fun h=>absurd rfl h) (fun i o a v hi he=>he.keep ?_) (fun _ _ h=>h) (fun c a w he h=>h a he) _ _ _ _ h0 (fun _=>⟨hm'.fz,fun r hr=>hm'.own r (hK r hr)⟩) ?_))
 ·have h1:l[i]? = some o:=by simpa using hi
  exact List.all_eq_true.1 ho o (List.mem_of_getElem? h1)
 ·have:=xK hs p _ _ _ hev hok h
  rw [hl] at this
  exact this
theorem nG {P:Program} {n m:Nat} {r:Option Nat} {E:List (Nat×Value)} {a:Act} {Φ:Fz} {K:List Res} {w:World} {id:Nat} {l:List Oper} {Q:Exit→Act→World→Prop} (kd:List Nat) (p:Plan) (K':List Res) (he:EnvR n E [] a) (hm:Mem Φ K w) (hw:P.follows .mixedOrders=true) (hB:z2j l.toArray kd p=true) (hK:∀r∈K',r∈K)
  (ho:l.all (fun o=>match o.op with | .defer _=>false | _=>true)=true)
  (h:∀w,Mem Φ K w→zX P .any l.toArray (Sees Φ K') kd (fun _ _=>False) (Q .normal) p a w):(Code.region id l.toArray true).wpIn (FO r) m P Q a w:=by
 have hm':=hm.drew
 have h:=h _ hm'
 simp only [z2j,Bool.and_eq_true,beq_iff_eq] at hB
 obtain ⟨⟨⟨hs,hev⟩,hl⟩,hok⟩:=hB
 refine wpIn_region_any hw (mN (Inv:=fun _=>True) (kd:=kd) (B:=Sees Φ K') (Qp:=fun _ _=>False) (Q:=Q .normal) (fun _ i o hi c hc =>?_) (fun _ _ _ _ _ h=>h) (fun _ _ h=>h) (fun _ _ _ _ h=>h.elim) _ _ _ _ trivial (fun _=>⟨hm'.fz,fun r hr=>hm'.own r (hK r hr)⟩) ?_)
 ·have h1:l[i]? = some o:=by simpa using hi
  have h2:=List.all_eq_true.1 ho o (List.mem_of_getElem? h1)
  rw [hc] at h2;cases h2
 ·have:=xK hs p _ _ _ hev hok h
  rw [hl] at this
  exact this
end Go.Sw

namespace Go.Sw
section
variable {P:Program} {Φ:Fz}
def Fires (P:Program) (y:Value) (vs:List Value) (w:World) (R:Ending→World→Prop):Prop :=
 (∃f fs cs,y=.func (.func f) (List.toArray fs) (List.toArray cs)∧(∀args w,(callFunc f args).run P w=.ok (.enter f args) w)∧Calls P f (fs++vs++cs).toArray w R) ∨
 (∃l,y=.func (.yield l) #[] #[]∧YieldAt Fence.wide 2 P l vs.toArray w R)
theorem Fires.mono {y:Value} {vs:List Value} {w:World} {R R':Ending→World→Prop} (h:Fires P y vs w R) (hr:∀e w',R e w'→R' e w'):Fires P y vs w R':=by
 rcases h with ⟨f,fs,cs,h1,h2,h3⟩ | ⟨l,h1,fn,tmps,assign,body,h2,h3⟩
 ·exact .inl ⟨f,fs,cs,h1,h2,h3.mono hr⟩
 ·exact .inr ⟨l,h1,fn,tmps,assign,body,h2,h3.mono hr⟩
structure Takes {α β:Type} (P:Program) (Φ:Fz) (y:Value) (arg:α→List Value) (items:List α) (KY:List α→β→List Res):Prop where
 fn:∃f fs cs,y=.func f fs cs
 go:∀pre x post z K0 w,items=pre++x::post→Mem Φ (K0++KY pre z) w→Fires P y (arg x) w (fun e w'=>e=.returned (.bool true)∧∃z',Mem Φ (K0++KY (pre++[x]) z') w')
end
section
variable {P:Program} {n m:Nat} {E:List (Nat×Value)} {D:List Deferred} {a:Act} {w:World} {ops:Array Oper} {rest:List Oper} {Q:Exit→Act→World→Prop} {r:Option Nat} {d:Nat} {v:Value} {op:Op} {ty:TypeId} {pos:String} {aft:Array Edge}
theorem wV (h:Q .normal a w):wpListIn (FO r) m P ops Q [] a w:=wpListIn_nil h
theorem xS {y:Operand} {xs:Array Operand} {vs:List Value} {ts:Array TypeId} {yv u:Value} {J:World→Prop} {Kn:Value→World→Prop} {Qp:List PanicEntry→World→Prop} {dst:Option Tmp} {g:Option (Nat×Bool)} (he:EnvR n E D a) (hy:ev E y=some yv) (hx:evs E xs.toList=some vs)
  (hr:Fires P yv vs w (fun e w'=>e=.returned u∧J w')) (k:∀w',J w'→Kn u w'):Oper.effR P ⟨dst,.call { callee:=.value y,args:=xs,argTypes:=ts },ty,pos,aft,g⟩ a w Kn Qp:=by
 unfold Oper.effR
 rcases hr with ⟨f,fs,cs,rfl,hf,hc⟩ | ⟨l,rfl,fn,tmps,assign,body,h1,h2⟩
 ·have h3:(execOp a.eval ⟨dst,.call { callee:=.value y,args:=xs,argTypes:=ts },ty,pos,aft,g⟩).run P w=.ok (.enter f (fs++vs++cs).toArray) w:=by
   simp only [execOp,resolve,Sem.run_bind,he.evsA hx,he.ev hy,Deferred.ofValue]
   have:=hf (fs++vs++cs).toArray w
   simp only [invoke]
   simpa [Sem.run_bind,Result.andThen] using this
  rw [h3]
  refine hc.mono fun e w' he' =>?_
  obtain ⟨rfl,hJ⟩:=he'
  exact k _ hJ
 ·have h3:(execOp a.eval ⟨dst,.call { callee:=.value y,args:=xs,argTypes:=ts },ty,pos,aft,g⟩).run P w=.ok (.round l fn tmps assign body) w:=by
   simp only [execOp,resolve,Sem.run_bind,he.evsA hx,he.ev hy,Deferred.ofValue]
   simp [invoke,Sem.run_bind,Result.andThen,h1]
  rw [h3]
  refine h2.mono fun e w' he' =>?_
  obtain ⟨rfl,hJ⟩:=he'
  exact k _ hJ
theorem d_fire {kd:List Nat} {B:World→Prop} {Qp:List PanicEntry→World→Prop} {Q:Act→World→Prop} {p:Plan} {i:Nat} {ops:Array Oper} (he:EnvR n E D a) (hi:ops[i]? = some ⟨some d,op,ty,pos,aft,none⟩) (hk:yX kd i=0) (hd:Nat.blt d n=true)
  (h:Oper.effR P ⟨some d,op,ty,pos,aft,none⟩ a w (fun v w'=>(aZ .any kd ⟨some d,op,ty,pos,aft,none⟩=true→B w')∧∀a,EnvR n ((d,v)::E) D a→zX P .any ops B kd Qp Q p a w') Qp):zX P .any ops B kd Qp Q (.e i p) a w:=by
 unfold zX xO
 simp only [hi]
 rw [if_pos (pW rfl _),if_pos hk]
 exact jK h (fun v w' hv=>⟨hv.1,hv.2 _ (he.put hd)⟩) (fun _ _ h=>h)
theorem d_fireg {kd:List Nat} {B:World→Prop} {Qp:List PanicEntry→World→Prop} {Q:Act→World→Prop} {p:Plan} {i:Nat} {ops:Array Oper} {j t:Nat} {b:Bool} (he:EnvR n E D a) (hi:ops[i]? = some ⟨some d,op,ty,pos,aft,some (j,b)⟩) (hj:ops[j]?.bind (·.dst)=some t) (hv:get E t=some (.bool b)) (hk:yX kd i=0) (hd:Nat.blt d n=true)
  (h:Oper.effR P ⟨some d,op,ty,pos,aft,some (j,b)⟩ a w (fun v w'=>(aZ .any kd ⟨some d,op,ty,pos,aft,some (j,b)⟩=true→B w')∧∀a,EnvR n ((d,v)::E) D a→zX P .any ops B kd Qp Q p a w') Qp):zX P .any ops B kd Qp Q (.e i p) a w:=by
 unfold zX xO
 simp only [hi]
 rw [if_pos (pN he rfl hj hv),if_pos hk]
 exact jK h (fun v w' hv=>⟨hv.1,hv.2 _ (he.put hd)⟩) (fun _ _ h=>h)
theorem oZ {o:Oper} (he:EnvR n E D a) (hd:o.dst=some d) (hlt:Nat.blt d n=true) (hg:o.guard=none) (hop:∀c,o.op≠.defer c)
  (h:Oper.effR P o a w (fun v w'=>∀a,EnvR n ((d,v)::E) D a→wpListIn (FO r) m P ops Q rest a w') (fun _ _=>False)):wpListIn (FO r) m P ops Q (o::rest) a w:=by
 refine wpListIn_plain hg fun L hL=>oD (fun _=>hop) (jK h (fun v w' hv=>hL _ _ ?_) (fun c w' hc=>hc.elim))
 rw [hd];exact hv _ (he.put hlt)
theorem oY {o:Oper} {j t:Nat} {b:Bool} (he:EnvR n E D a) (hd:o.dst=some d) (hlt:Nat.blt d n=true) (hg:o.guard=some (j,b)) (hj:ops[j]?.bind (·.dst)=some t) (hv:get E t=some (.bool b)) (hop:∀c,o.op≠.defer c)
  (h:Oper.effR P o a w (fun v w'=>∀a,EnvR n ((d,v)::E) D a→wpListIn (FO r) m P ops Q rest a w') (fun _ _=>False)):wpListIn (FO r) m P ops Q (o::rest) a w:=by
 refine wpListIn_step fun L hL =>?_
 rw [if_pos (pN he hg hj hv)]
 refine oD (fun _=>hop) (jK h (fun v w' hv=>hL _ _ ?_) (fun c w' hc=>hc.elim))
 rw [hd];exact hv _ (he.put hlt)
theorem y0k {o:Oper} {j t:Nat} {b:Bool} {v:Value} (he:EnvR n E D a) (hd:o.dst=some d) (hg:o.guard=some (j,b)) (hlt:Nat.blt d n=true) (hj:ops[j]?.bind (·.dst)=some t) (hv:get E t=some v) (hb:q2w v b=true)
  (k:∀a,EnvR n ((d,undef)::E) D a→wpListIn (FO r) m P ops Q rest a w):wpListIn (FO r) m P ops Q (o::rest) a w:=by
 unfold wpListIn
 rw [if_neg (by rw [tO he hg hj hv hb];simp),hd]
 exact ⟨fun f _=>FO.fn f,k _ (he.put hlt)⟩
theorem z8q {v:Value} {Kn:Value→World→Prop} {Qp:List PanicEntry→World→Prop} {dst:Option Tmp} {g:Option (Nat×Bool)} (ho:Ok P a op ty w v) (k:Kn v w):Oper.effR P ⟨dst,op,ty,pos,aft,g⟩ a w Kn Qp:=(aR ho k).toR
theorem blkI {id:Nat} {c:Code} (h:c.wpIn (FO r) m P (Exit.inBlock id Q) a w):(Code.block id c).wpIn (FO r) m P Q a w:=wpIn_block h
theorem exitI {id:Nat} (h:Q (.exit id) a w):(Code.exit id).wpIn (FO r) m P Q a w:=wpIn_exit h
theorem skipI (h:Q .normal a w):Code.skip.wpIn (FO r) m P Q a w:=wpIn_skip h
theorem regI {id:Nat} {l:List Oper} (h:wpListIn (FO r) m P l.toArray Q l a w):(Code.region id l.toArray false).wpIn (FO r) m P Q a w:=wpIn_region_lit h
theorem sqI {x y:Code} (h:∀L:Act→World→Prop,(∀a w,y.wpIn (FO r) m P Q a w→L a w)→x.wpIn (FO r) m P (Exit.then L Q) a w):(Code.seq x y).wpIn (FO r) m P Q a w:=wpIn_seq_k h
theorem if_tI {c:Operand} {x y:Code} (he:EnvR n E D a) (hc:ev E c=some (.bool true)) (h:x.wpIn (FO r) m P Q a w):(Code.cond c x y).wpIn (FO r) m P Q a w:=wpIn_cond_true (he.ev hc) h
theorem if_fI {c:Operand} {x y:Code} (he:EnvR n E D a) (hc:ev E c=some (.bool false)) (h:y.wpIn (FO r) m P Q a w):(Code.cond c x y).wpIn (FO r) m P Q a w:=wpIn_cond_false (he.ev hc) h
end
section
variable {P:Program} {Φ:Fz} {K:List Res} {w:World}
theorem q0u {β:Type} {l:Nat} {r:Loop} {tmps:Array Value} {KO:β→List Res} (hst:r.state=.ready) (hpd:r.pending=none)
  (hA:r.assign.wpIn (FO (some l)) 2 P (Exit.then (fun a1 w1=>∃K1,Mem Φ (.blk l (.loop r)::K1) w1∧∀w2,Mem Φ (.blk l (.loop { r with state:=.busy })::K1) w2 →
   r.body.wpIn (FO (some l)) 2 P (fun e _ w=>e=.normal∧∃z,Mem Φ (.blk l (.loop { r with state:=.busy })::KO z) w) a1 w2) (fun _ _ _=>False)) ⟨tmps,[]⟩ w) :
  RoundIn Fence.wide 2 P l r.fn tmps r.assign r.body w (fun e w'=>e=.returned (.bool true)∧∃z,Mem Φ (.blk l (.loop r)::KO z) w'):=by
 refine roundIn_of_wpIn trivial (Code.wpIn_mono (fun e a1 w1 h =>?_) hA)
 cases e with
 | normal =>
  obtain ⟨K1,h2,h3⟩:=h
  have hl:w1.heap[l]? = some (.loop r):=h2.own _ List.mem_cons_self
  refine ⟨_,run_beginRound hl hst,?_⟩
  refine Code.wpIn_mono (fun e a2 w2 h =>?_) (h3 _ (h2.putObj (i:=0) (o':=.loop { r with state:=.busy }) rfl))
  obtain ⟨rfl,z,h4⟩:=h
  have hl2:w2.heap[l]? = some (.loop { r with state:=.busy }):=h4.own _ List.mem_cons_self
  refine ⟨_,_,run_endRound none hl2,rfl,z,?_⟩
  have h5:=h4.putObj (i:=0) (o':=.loop { ({ r with state:=.busy }:Loop) with state:=.ready,pending:=none }) rfl
  have h6:({ ({ r with state:=.busy }:Loop) with state:=.ready,pending:=none }:Loop)=r:=by cases r;simp only at hst hpd;subst hst;subst hpd;rfl
  simp only [kR,h6] at h5;simpa [h6] using h5
 | exit id=>exact h.elim
 | goto l=>exact h.elim
 | ret=>exact h.elim
 | panic c=>exact h.elim
 | outgrown=>exact h.elim
theorem z5c {α β:Type} {n gf p:Nat} {E:List (Nat×Value)} {Dd:List Deferred} {a:Act} {g:Operand} {assign body:Code} {Q:Exit→Act→World→Prop} {fs cs:List Value}
  (items:List α) (arg:α→Value) (KX:List Res) (KV:List α→β→List Res) (z0:β)
  (he:EnvR n E Dd a) (hm:Mem Φ (KX++KV [] z0) w) (hg:ev E g=some (.func (.func gf) fs.toArray cs.toArray)) (hf:∀args w,(callFunc gf args).run P w=.ok (.enter gf args) w) (hp:Nat.blt p n=true)
  (hr:∀pre x post z l o1 o2 K' a w,items=pre++x::post→EnvR n ((p,arg x)::E) [] a→Mem Φ (.blk l o1::(KV pre z++K')) w →
   assign.wpIn (FO (some l)) 2 P (Exit.then (fun a1 w1=>∃K1,Mem Φ (.blk l o1::K1) w1∧∀w2,Mem Φ (.blk l o2::K1) w2 →
    body.wpIn (FO (some l)) 2 P (fun e _ w=>e=.normal∧∃z,Mem Φ (.blk l o2::(KV (pre++[x]) z++K')) w) a1 w2) (fun _ _ _=>False)) a w)
  (hc:∀(y:Value) (KY:List α→β→List Res) (w:World),Takes P Φ y (fun x=>[arg x]) items KY→Mem Φ (KX++KY [] z0) w→Calls P gf (fs++[y]++cs).toArray w (fun e w'=>∃v z,e=.returned v∧Mem Φ (KX++KY items z) w'))
  (kn:∀Dk z a w,EnvR n E ({ target:=.collected Dk,args:=#[] }::Dd) a→Mem Φ (.blk Dk (.deferred (some []))::(KX++KV items z)) w→Q .normal a w):(Code.rangeFunc g #[p] assign body).wp P Q a w:=by
 refine z3d (β:=β) (δ:=Unit) (F1:=fun _=>Φ) (KO:=fun z=>KX++KV items z) (KE:=fun _=>[]) (G:=fun _=>True) (B:=fun _ _=>False) he hm hg hf (fun Dk l r w hps has hbo hst hpd hE hm =>?_) (fun Dk z a w _ he hm=>kn Dk z a w he hm) (fun _ _ _ _ _ h=>h.elim)
 subst has;subst hbo
 have key:=hc (.func (.yield l) #[] #[]) (fun pre z=>.blk l (.loop r)::.blk Dk (.deferred (some []))::KV pre z) w ⟨⟨_,_,_,rfl⟩,fun pre x post z K0 w hit hm=>.inr ⟨l,rfl,?_⟩⟩ ?_
 ·refine key.mono fun e w' h =>?_
  obtain ⟨v,z,rfl,h⟩:=h
  refine .inl ⟨v,z,rfl,trivial,h.perm ?_⟩
  exact (List.perm_middle.trans (List.Perm.cons _ List.perm_middle))
 ·have hm1:Mem Φ (.blk l (.loop r)::(KV pre z++(.blk Dk (.deferred (some []))::K0))) w:=hm.perm (List.perm_middle.trans (List.Perm.cons _ (List.perm_middle.trans ((List.Perm.cons _ List.perm_append_comm).trans List.perm_middle.symm))))
  have hl:w.heap[l]? = some (.loop r):=hm1.own _ List.mem_cons_self
  refine ⟨r.fn,r.tmps.setIfInBounds p (arg x),r.assign,r.body,?_,?_⟩
  ·rw [run_yield hl (by rw [hps];rfl),hps]
   simp
  ·have he2:EnvR n ((p,arg x)::E) [] ⟨r.tmps.setIfInBounds p (arg x),[]⟩:=hE.put (d:=p) hp
   have h:=q0u (P:=P) (Φ:=Φ) (tmps:=r.tmps.setIfInBounds p (arg x)) (KO:=fun z=>KV (pre++[x]) z++(.blk Dk (.deferred (some []))::K0)) hst hpd (hr pre x post z l _ _ _ _ _ hit he2 hm1)
   refine h.mono fun e w' hh =>?_
   obtain ⟨h1,z',h2⟩:=hh
   refine ⟨h1,z',h2.perm ?_⟩
   exact ((List.Perm.cons _ ((List.perm_middle.trans (List.Perm.cons _ List.perm_append_comm)).trans List.perm_middle.symm)).trans List.perm_middle.symm)
 ·refine hm.perm ?_
  exact ((List.Perm.cons _ List.perm_middle.symm).trans List.perm_middle.symm)
end
def tW (ds:List Nat):List Deferred:=ds.map fun d=>{ target:=.collected d,args:=#[] }
def xJ (ds:List Nat):List Res:=ds.map fun d=>.blk d (.deferred (some []))
section
variable {P:Program} {Φ:Fz} {K:List Res} {n:Nat} {E:List (Nat×Value)} {a:Act} {fn:Func} {R:Ending→World→Prop}
theorem Mem.rot {A B C D:List Res} {w:World} (h:Mem Φ (A++((B++C)++D)) w):Mem Φ (A++((D++B)++C)) w:=h.perm (List.Perm.append_left A (by
 rw [List.append_assoc D B C];exact List.perm_append_comm))
theorem Mem.unrot {A B C D:List Res} {w:World} (h:Mem Φ (A++((D++B)++C)) w):Mem Φ (A++((B++C)++D)) w:=h.perm (List.Perm.append_left A (by
 rw [List.append_assoc D B C];exact List.perm_append_comm))
theorem Mem.mid {A B C:List Res} {w:World} (h:Mem Φ (A++(B++C)) w):Mem Φ (B++(A++C)) w:=h.perm (by
 rw [← List.append_assoc,← List.append_assoc];exact (List.perm_append_comm).append_right C)
theorem z1j {tmps:Array Value} {u:FrameMode} (hu:u≠.run):∀{ds:List Nat} {w:World},Mem Φ (xJ ds++K) w→(∀w',Mem Φ K w'→pF P fn tmps R [] u w')→pF P fn tmps R (tW ds) u w
 | [],w,hm,h=>h w hm
 | d::ds,w,hm,h=>by
  have h1:w.heap[d]? = some (.deferred (some [])):=hm.own _ List.mem_cons_self
  exact mF hu h1 (z1j hu (hm.putObj (i:=0) (o':=.deferred none) rfl).tail h)
theorem retXr {ds:List Nat} {w:World} (he:EnvR n E (tW ds) a) (hm:Mem Φ (xJ ds++K) w) (h:∀w',Mem Φ K w'→∃x,(results fn a.tmps).run P w'=.ok x w'∧R (.returned x) w'):pF P fn a.tmps R a.defers .returning w:=by
 rw [he.defs]
 refine z1j (by intro h;cases h) hm fun w' hm'=>cA ?_
 exact h w' hm'
theorem retX {ds:List Nat} {w:World} (he:EnvR n E (tW ds) a) (hm:Mem Φ (xJ ds++K) w) (h:∀w',Mem Φ K w'→∃x,(results fn a.tmps).run P w'=.ok x w'∧R (.returned x) w'):pP P fn R .ret a w:=retXr he hm h
theorem retXN {ds:List Nat} {w:World} (he:EnvR n E (tW ds) a) (hm:Mem Φ (xJ ds++K) w) (h:∀w',Mem Φ K w'→∃x,(results fn a.tmps).run P w'=.ok x w'∧R (.returned x) w'):pP P fn R .normal a w:=retXr he hm h
theorem retX0N {ds:List Nat} {w:World} (he:EnvR n E (tW ds) a) (hr:fn.results=#[]) (hm:Mem Φ (xJ ds++K) w) (h:∀w',Mem Φ K w'→R (.returned (.tuple #[])) w'):pP P fn R .normal a w :=
 retXN he hm fun w' hm'=>⟨.tuple #[],by simp [results,hr],h w' hm'⟩
theorem retX1 {ds:List Nat} {w:World} {t:Nat} {v:Value} (he:EnvR n E (tW ds) a) (hr:fn.results=#[.tmp t]) (hv:get E t=some v) (hm:Mem Φ (xJ ds++K) w) (h:∀w',Mem Φ K w'→R (.returned v) w'):pP P fn R .ret a w :=
 retX he hm fun w' hm'=>⟨v,by simp [results,hr,Array.getD_eq_getD_getElem?,he.env t v hv],h w' hm'⟩
theorem retX2 {ds:List Nat} {w:World} {t u:Nat} {v x:Value} (he:EnvR n E (tW ds) a) (hr:fn.results=#[.tmp t,.tmp u]) (hv:get E t=some v) (hx:get E u=some x) (hm:Mem Φ (xJ ds++K) w) (h:∀w',Mem Φ K w'→R (.returned (.tuple #[v,x])) w'):pP P fn R .ret a w :=
 retX he hm fun w' hm'=>⟨.tuple #[v,x],by simp [results,hr,Array.getD_eq_getD_getElem?,he.env t v hv,he.env u x hx],h w' hm'⟩
theorem retXc {ds:List Nat} {w:World} {t T b:Nat} {v:Value} {T0:TypeId} (he:EnvR n E (tW ds) a) (hr:fn.results=#[.cell t T]) (hv:get E t=some (.pointer (some ⟨b,0,none⟩))) (hT:Scalar P T)
  (hm:Mem Φ (xJ ds++.blk b (ob [v] T0)::K) w) (h:∀w',Mem Φ K w'→R (.returned v) w'):pP P fn R .ret a w :=
 retX he hm fun w' hm'=>⟨v,q3e (i:=0) he hm'.toSees hr hv rfl rfl hT,h w' hm'.tail⟩
end
end Go.Sw

namespace Go.Sw
def inN (s:Bs):Bs:=(⟨#[105,110,46]⟩:Bs)++s
def wM (s:Bs) (k:Nat):Bs:=s++⟨#[47]⟩++nS ((k:Nat):Int)
def vrN (f x:Bs):Bs:=f++⟨#[46]⟩++x
def z9y (s:Bs) (n:Nat):List Bs:=(List.range n).map (wM s)
def y6t (d:Data):List Bs:=d.cons.flatMap fun x=>z9y x.name x.fields.length
def uD (f:Fun):List Bs:=f.name::((f.params.map fun p=>vrN f.name p.name)++(yC f.body).map (vrN f.name))
def zD (c:Core):List Bs:=(c.inputs.map fun p=>inN p.name)++c.datas.flatMap y6t++c.funs.flatMap uD
theorem any_mem {α:Type} [DecidableEq α] (x:α) (l:List α):(l.any fun y=>decide (y=x))=true↔x∈l:=by simp
instance (priority:=low) decMem {α:Type} [DecidableEq α] (x:α) (l:List α):Decidable (x∈l):=decidable_of_iff _ (any_mem x l)
def yT {α:Type} [DecidableEq α] (l:List α):List α:=l.foldl (fun a x=>if x∈a then a else a++[x]) []
theorem mY {α:Type} [DecidableEq α] (l:List α) (x:α):yT (l++[x])=if x∈yT l then yT l else yT l++[x]:=by
 unfold yT;rw [List.foldl_append];rfl
theorem q6l {α:Type} [DecidableEq α]:yT ([]:List α)=[]:=rfl
theorem wZ {α:Type} {p:List α→Prop} (h0:p []) (h1:∀l x,p l→p (l++[x])) (l:List α):p l:=by
 have:∀l:List α,p l.reverse:=by
  intro l
  induction l with
  | nil=>exact h0
  | cons x l ih=>rw [List.reverse_cons];exact h1 _ _ ih
 have h:=this l.reverse
 rwa [List.reverse_reverse] at h
theorem y4n {α:Type} [DecidableEq α] (l:List α):∀x,x∈yT l↔x∈l:=by
 refine wZ (p:=fun l=>∀x,x∈yT l↔x∈l) (by simp [q6l]) (fun l y ih x =>?_) l
 rw [mY]
 by_cases hy:y∈yT l
 ·rw [if_pos hy,ih,List.mem_append,List.mem_singleton]
  constructor
  ·exact .inl
  ·rintro (h | rfl)
   ·exact h
   ·exact (ih _).1 hy
 ·rw [if_neg hy,List.mem_append,List.mem_append,ih]
theorem cW {α:Type} [DecidableEq α] (l:List α):(yT l).length≤l.length:=by
 refine wZ (p:=fun l=>(yT l).length≤l.length) (by simp [q6l]) (fun l y ih =>?_) l
 rw [mY]
 by_cases hy:y∈yT l
 ·rw [if_pos hy,List.length_append];omega
 ·rw [if_neg hy,List.length_append,List.length_append];simp only [List.length_cons,List.length_nil];omega
mutual
def xQ (f:Bs):Ex→List Bs
 | .mk k _ s args arms =>
  if k=2 then [vrN f s] else if k=3 then [inN s] else if k=5 then [s]
  else if k=6 then srcS f args
  else if k=8 then srcPs f args
  else if k=7 then srcH f args++srcPa f arms
  else []
def srcPs (f:Bs):List Ex→List Bs
 | []=>[]
 | x::l=>xQ f x++srcPs f l
def srcH (f:Bs):List Ex→List Bs
 | []=>[]
 | x::_=>xQ f x
def srcS (f:Bs):List Ex→List Bs
 | []=>[]
 | _::l=>srcH f l
def srcPa (f:Bs):List Arm→List Bs
 | []=>[]
 | .mk _ _ b::l=>xQ f b++srcPa f l
end
def oG (f:Bs) (e:Ex):List Bs:=yT (xQ f e)
abbrev Flow:=Bs×Bs
def toP (f:Bs) (node:Bs) (e:Ex):List Flow:=(oG f e).map fun s=>(s,node)
def z6g (f s:Bs):Nat→List Ex→List Flow
 | _,[]=>[]
 | k,a::l=>toP f (wM s k) a++z6g f s (k+1) l
def cP (f s:Bs):List Param→List Ex→List Flow
 | p::ps,a::l=>toP f (vrN s p.name) a++cP f s ps l
 | _,_=>[]
def letF (f s:Bs):List Ex→List Flow
 | []=>[]
 | a::_=>toP f (vrN f s) a
def z8m (f s:Bs):Nat→List Bs→List Flow
 | _,[]=>[]
 | k,v::l=>(wM s k,vrN f v)::z8m f s (k+1) l
def z0s (f:Bs) (l:List Arm):List Flow:=l.flatMap fun a=>z8m f a.con 0 a.vars
abbrev Pars:=List (Bs×List Param)
def wT (pm:Pars) (f:Bs) (e:Ex):List Flow :=
 if e.kind=4 then z6g f e.name 0 e.args
 else if e.kind=5 then cP f e.name ((zK pm e.name).getD []) e.args
 else if e.kind=6 then letF f e.name e.args
 else if e.kind=7 then z0s f e.arms
 else []
mutual
def kS (pm:Pars) (f:Bs):Ex→List Flow
 | .mk k n s args arms=>wT pm f (.mk k n s args arms)++flowPs pm f args++flowPa pm f arms
def flowPs (pm:Pars) (f:Bs):List Ex→List Flow
 | []=>[]
 | x::l=>kS pm f x++flowPs pm f l
def flowPa (pm:Pars) (f:Bs):List Arm→List Flow
 | []=>[]
 | .mk _ _ b::l=>kS pm f b++flowPa pm f l
end
mutual
def pJ (pm:Pars):Ex→Prop
 | .mk k _ s args arms=>(k=5→args.length≤((zK pm s).getD []).length)∧(k=6→args≠[])∧flowOks pm args∧flowOka pm arms
def flowOks (pm:Pars):List Ex→Prop
 | []=>True
 | x::l=>pJ pm x∧flowOks pm l
def flowOka (pm:Pars):List Arm→Prop
 | []=>True
 | .mk _ _ b::l=>pJ pm b∧flowOka pm l
end
def cT (i:Param) (x:Bs):Nat→List Bs→List Flow
 | _,[]=>[]
 | k,t::l=>(if t=i.type then [(inN i.name,wM x k)] else [])++cT i x (k+1) l
def z5n (i:Param) (d:Data):List Flow:=if d.name=i.type then d.cons.flatMap fun x=>cT i x.name 0 x.fields else []
def q2k (c:Core) (i:Param):List Flow:=c.datas.flatMap (z5n i)
def wY (c:Core):Pars:=c.funs.foldl (fun m f=>qX m f.name f.params) []
def cS (pm:Pars) (f:Fun):List Flow:=toP f.name f.name f.body++kS pm f.name f.body
def xI (c:Core):List Flow:=c.inputs.flatMap (q2k c)++c.funs.flatMap (cS (wY c))
def zY (c:Core):List Flow:=yT (xI c)
abbrev Next:=List (Bs×List Bs)
def gV (m:Next) (x:Flow):Next:=qX m x.1 ((zK m x.1).getD []++[x.2])
def yY (l:List Flow):Next:=l.foldl gV []
theorem dZ (l:List Flow) (x:Flow):yY (l++[x])=gV (yY l) x:=by simp [yY]
abbrev From:=List (Bs×Bs)
def wJ (x:Bs):List Bs→From→List Bs→From×List Bs
 | [],o,q=>(o,q)
 | n::l,o,q=>if (zK o n).isSome then wJ x l o q else wJ x l (qX o n x) (q++[n])
def cE (nx:Next):Nat→Nat→From→List Bs→From
 | 0,_,o,_=>o
 | g+1,i,o,q=>match q[i]? with
  | none=>o
  | some x=>cE nx g (i+1) (wJ x ((zK nx x).getD []) o q).1 (wJ x ((zK nx x).getD []) o q).2
def jV (l:List Bs):From:=l.foldl (fun m s=>qX m s ⟨#[]⟩) []
theorem z5v (l:List Bs) (s:Bs):jV (l++[s])=qX (jV l) s ⟨#[]⟩:=by simp [jV]
def kB (nx:Next) (l:List Bs):Nat:=l.length+(nx.flatMap (·.2)).length
def yB (nx:Next) (l:List Bs):From:=cE nx (kB nx l+1) 0 (jV l) l
def zO (c:Core):List Bs:=c.inputs.map fun p=>inN p.name
def jO (ns:List Bs) (o:From):List Bs:=ns.filter fun n=>(zK o n).isSome
structure Graph where
 core:Core
 nodes:List Bs
 flows:List Flow
 next:Next
def xX (c:Core):Graph:=⟨c,zD c,zY c,yY (zY c)⟩
end Go.Sw

namespace Go.Sw
open Go.Proofs.Tryz
open Go.Proofs
def sC (x:Flow):Value:=.agg (List.toArray [.string x.1,.string x.2])
def z3n:Nat→List Flow→List MapEntry
 | _,[]=>[]
 | i,x::l=>{ key:=sC x,val:=.bool true,born:=i }::z3n (i+1) l
def mP (l:List Flow):Array MapEntry:=(z3n 0 l).toArray
theorem y9i:∀(l:List Flow) (i:Nat) (x:Flow),z3n i (l++[x])=z3n i l++[{ key:=sC x,val:=.bool true,born:=i+l.length }]
 | [],i,x=>by simp [z3n]
 | y::l,i,x=>by
  rw [List.cons_append,z3n,y9i l (i+1) x,z3n,List.cons_append,List.length_cons,show i+1+l.length=i+(l.length+1) by omega]
set_option maxRecDepth 20000 in
theorem z5l:∃f0 f1,(prog.fieldsOf 95).toList=[f0,f1]∧(f0.name ≠ "_" ∧ f0.type=9∧f0.offset=0)∧(f1.name ≠ "_" ∧ f1.type=9∧f1.offset=1) :=
 ⟨_,_,rfl,⟨by decide,rfl,rfl⟩,by decide,rfl,rfl⟩
theorem uC:prog.underlying 95=some (.struct (prog.fieldsOf 95)):=by kernel_rfl
theorem tM:prog.underlying 9=some .string:=by kernel_rfl
theorem y9l {w:World} (l:List Value) (i:Nat) (v:Value) (h:l[i]? = some v):(part 9 (List.toArray l) i).run prog w=.ok v w:=by
 simp [part,isAgg,run_underlying tM,h]
theorem eqFlow (w:World) (x y:Flow):(Op.equal 95 (sC x) (sC y)).run prog w=.ok (decide (x=y)) w:=by
 obtain ⟨s,u⟩:=x
 obtain ⟨s',u'⟩:=y
 obtain ⟨f0,f1,h0,h1,h2⟩:=z5l
 have hp:=@y9l w
 unfold Op.equal sC
 rw [show Op.maxDepth=9999+1 from rfl,run_equalIn_agg _ _ _ _ _ uC (by kernel_rfl),h0]
 simp only [Op.eqFields,h1.1,h2.1,h1.2.1,h1.2.2,h2.2.1,h2.2.2,ne_eq,not_false_eq_true,if_true,Sem.run_bind,hp [.string s,.string u] 0 _ rfl,hp [.string s',.string u'] 0 _ rfl,hp [.string s,.string u] 1 _ rfl,hp [.string s',.string u'] 1 _ rfl,Result.andThen_ok,run_equalIn_string _ _ _ _ _ tM,oA]
 by_cases e1:s=s'
 ·have q1:=hp [.string s',.string u] 1 _ rfl
  have q2:=hp [.string s',.string u'] 1 _ rfl
  by_cases e2:u=u' <;> simp [e1,e2,Prod.mk.injEq,Sem.run_ite,Sem.run_bind,q1,q2,run_equalIn_string _ _ _ _ _ tM,oA,Result.andThen]
 ·simp [e1]
theorem y8w (w:World) (e:Bool) (x:Flow):(Instr.checkKey e 10000 95 (sC x)).run prog w=.ok () w:=by
 obtain ⟨f0,f1,h0,h1,h2⟩:=z5l
 have hp:=@y9l w
 have hc:∀(n:Nat) (v:Bs),(Instr.checkKey e (n+1) 9 (.string v)).run prog w=.ok () w:=fun n v=>by simp [Instr.checkKey,Sem.run_bind,run_underlying tM]
 have hF:prog.fieldsOf 95=#[f0,f1]:=by apply Array.ext';rw [h0]
 unfold sC
 rw [Instr.checkKey]
 simp only [Sem.run_bind,run_underlying uC,Result.andThen_ok,hF]
 simp [Sem.run_bind,h1,h2,hp [.string x.1,.string x.2] 0 _ rfl,hp [.string x.1,.string x.2] 1 _ rfl,hc 9998,Result.andThen]
theorem y9h (w:World) (x:Flow):∀(l:List Flow) (i j:Nat),∃r,(Instr.findAsking 95 (sC x) (z3n i l) j).run prog w=.ok r w∧(r=none∧x∉l∨(∃q,r=some (q,.bool true))∧x∈l)
 | [],_,_=>⟨none,by simp [z3n,Instr.findAsking],.inl ⟨rfl,by simp⟩⟩
 | y::l,i,j=>by
  simp only [z3n,Instr.findAsking,Sem.run_bind,eqFlow,Result.andThen_ok]
  by_cases h:x=y
  ·exact ⟨some (j,.bool true),by simp [h],.inr ⟨⟨_,rfl⟩,by simp [h]⟩⟩
  ·obtain ⟨r,h1,h2⟩:=y9h w x l (i+1) (j+1)
   refine ⟨r,by simpa [h] using h1,?_⟩
   simpa [h] using h2
theorem j8s (x:Flow) (i:Nat):∀l:List Flow,Instr.findNow (.struct (prog.fieldsOf 95)) (sC x) (z3n i l) 0=if l=[] then some none else none
 | []=>rfl
 | y::l=>by simp [z3n,Instr.findNow,Instr.sameNow]
theorem q5a (w:World) (x:Flow) (l:List Flow):∃r,(Instr.findKey 95 (sC x) (mP l).toList).run prog w=.ok r w∧(r=none∧x∉l∨(∃q,r=some (q,.bool true))∧x∈l):=by
 simp only [Instr.findKey,Sem.run_bind,run_underlying uC,Result.andThen_ok,mP,j8s]
 by_cases h:l=[]
 ·subst h;exact ⟨none,by simp,.inl ⟨rfl,by simp⟩⟩
 ·rw [if_neg h];exact y9h w x l 0 0
section
variable {n:Nat} {E:List (Nat×Value)} {D:List Deferred} {a:Act} {Φ:Fz} {K:List Res} {w:World}
variable {dst:Option Tmp} {ty:TypeId} {pos:String} {aft:Array Edge} {g:Option (Nat×Bool)}
variable {Kn:Value→World→Prop} {Qp:List PanicEntry→World→Prop}
theorem j7n (i:Nat) {x y:Operand} {b:Nat} {l:List Flow} {s:Flow} (he:EnvR n E D a) (hm:Sees Φ K w) (hx:ev E x=some (.map (some b))) (hy:ev E y=some (sC s)) (hK:qI K i=some (.blk b (.map (mP l) l.length))) :
  Ok prog a (.lookup 136 x y false) ty w (.bool (decide (s∈l))):=fun _ _ _ _=>by
 have hb:w.heap[b]? = some (.map (mP l) l.length):=hm.own _ (qJ hK)
 have h1:(getObj b).run prog w=.ok (.map (mP l) l.length) w:=by simp [getObj,Sem.run,hb]
 obtain ⟨r,h2,h3⟩:=q5a w s l
 simp only [execOp,he.ev hx,he.ev hy,Instr.lookup,Sem.run_bind,runUnderlying136,Result.andThen_ok,h1,Sem.run_pure,y8w,h2]
 rcases h3 with ⟨rfl,h3⟩ | ⟨⟨q,rfl⟩,h3⟩
 ·simp [h3,zeroValue4,Sem.run_bind,Result.andThen]
 ·simp [h3,Result.andThen]
theorem q2c {t:TypeId} (hm:Mem Φ K w) (k:∀b w',Mem Φ (.blk b (.map (mP []) ([]:List Flow).length)::K) w'→Kn (.map (some b)) w'):Oper.eff prog ⟨dst,.makeMap t none,ty,pos,aft,g⟩ a w Kn Qp:=by
 unfold Oper.eff
 have:(execOp a.eval ⟨dst,.makeMap t none,ty,pos,aft,g⟩).run prog w=.ok (.value (.map (some w.heap.size))) { w with heap:=w.heap.push (.map #[] 0) }:=by
  simp [execOp,Instr.makeMap]
 rw [this]
 refine k _ _ (hm.more rfl rfl (fun b hb=>wX hb) (by simp [Res.sat,mP,z3n]) (by simp [Res.foot]))
theorem z9s {P:Program} (i:Nat) {t kt et:TypeId} {x y z:Operand} {b:Nat} {l:List Flow} {s:Flow} (ht:(underlying t).run P w=.ok (.map kt et) w) (hc:(Instr.checkKey false 10000 kt (sC s)).run P w=.ok () w) (hf:(Instr.findKey kt (sC s) (mP l).toList).run P w=.ok none w)
  (he:EnvR n E D a) (hm:Mem Φ K w) (hx:ev E x=some (.map (some b))) (hy:ev E y=some (sC s)) (hz:ev E z=some (.bool true)) (hK:qI K i=some (.blk b (.map (mP l) l.length)))
  (k:∀w',Mem Φ (kR K i (.blk b (.map (mP (l++[s])) (l++[s]).length))) w'→Kn undef w'):Oper.eff P ⟨dst,.mapUpdate t x y z,ty,pos,aft,g⟩ a w Kn Qp:=by
 have hb:w.heap[b]? = some (.map (mP l) l.length):=hm.own _ (qJ hK)
 have h1:(getObj b).run P w=.ok (.map (mP l) l.length) w:=by simp [getObj,Sem.run,hb]
 have hset:∀o,(setObj b o).run P w=.ok () { w with heap:=w.heap.setIfInBounds b o }:=fun o=>by simp only [setObj,Sem.run,hb]
 unfold Oper.eff
 simp only [execOp,he.ev hx,he.ev hy,he.ev hz,Instr.mapUpdate,Sem.run_bind,ht,Result.andThen_ok,h1,hc,hf,hset,Sem.run_pure,vO]
 refine k _ ?_
 have hp:=hm.putObj (o':=.map (mP (l++[s])) (l++[s]).length) hK
 have e:(mP l).push { key:=sC s,val:=.bool true,born:=l.length }=mP (l++[s]):=by
  apply Array.ext'
  simp [mP,y9i]
 rw [e]
 simpa [World.putObj] using hp
theorem q5b {w:World} {x:Flow} {l:List Flow} (h:x∉l):(Instr.findKey 95 (sC x) (mP l).toList).run prog w=.ok none w:=by
 obtain ⟨r,h2,h3⟩:=q5a w x l
 rcases h3 with ⟨rfl,h3⟩ | ⟨⟨q,rfl⟩,h3⟩
 ·exact h2
 ·exact absurd h3 h
set_option maxRecDepth 20000 in
theorem z9r (i:Nat) {x y z:Operand} {b:Nat} {l:List Flow} {s:Flow} (he:EnvR n E D a) (hm:Mem Φ K w) (hx:ev E x=some (.map (some b))) (hy:ev E y=some (sC s)) (hz:ev E z=some (.bool true)) (hK:qI K i=some (.blk b (.map (mP l) l.length))) (hs:s∉l)
  (k:∀w',Mem Φ (kR K i (.blk b (.map (mP (l++[s])) (l++[s]).length))) w'→Kn undef w'):Oper.eff prog ⟨dst,.mapUpdate 136 x y z,ty,pos,aft,g⟩ a w Kn Qp :=
 z9s i (runUnderlying136 w) (y8w w false s) (q5b hs) he hm hx hy hz hK k
end
end Go.Sw

namespace Go.Sw
def jW (nx:Next) (x:Bs):List Bs:=(zK nx x).getD []
theorem j6b (m:Next) (x:Flow) (s:Bs):jW (gV m x) s=if s=x.1 then jW m x.1++[x.2] else jW m s:=by
 simp only [jW,gV,jX]
 split <;> rfl
theorem tI (l:List Flow):∀a b,b∈jW (yY l) a↔(a,b)∈l:=by
 refine wZ (p:=fun l=>∀a b,b∈jW (yY l) a↔(a,b)∈l) (fun a b=>by simp [yY,jW,zK]) (fun l x ih a b =>?_) l
 rw [dZ,j6b,List.mem_append,List.mem_singleton]
 obtain ⟨u,v⟩:=x
 by_cases h:a=u
 ·subst h;rw [if_pos rfl,List.mem_append,List.mem_singleton,ih];simp
 ·rw [if_neg h,ih];simp [h]
theorem cI (x:Bs):∀(ns:List Bs) (o:From) (q:List Bs),∃t,(wJ x ns o q).2=q++t∧t.Nodup∧(∀y∈t,y∈ns∧zK o y=none)∧(∀y∈ns,y∈t∨(zK o y).isSome=true) ∧
  ∀s,zK (wJ x ns o q).1 s=if s∈t then some x else zK o s
 | [],o,q=>⟨[],by simp [wJ]⟩
 | n::ns,o,q=>by
  simp only [wJ]
  by_cases h:(zK o n).isSome=true
  ·rw [if_pos h]
   obtain ⟨t,h1,h2,h3,h4,h5⟩:=cI x ns o q
   refine ⟨t,h1,h2,fun y hy=>⟨List.mem_cons_of_mem _ (h3 y hy).1,(h3 y hy).2⟩,fun y hy =>?_,h5⟩
   rcases List.mem_cons.1 hy with rfl | hy
   ·exact .inr h
   ·exact h4 y hy
  ·rw [if_neg h]
   have hn:zK o n=none:=by simpa using h
   obtain ⟨t,h1,h2,h3,h4,h5⟩:=cI x ns (qX o n x) (q++[n])
   have hnt:n∉t:=fun hc=>by have:=(h3 n hc).2;rw [jX,if_pos rfl] at this;cases this
   refine ⟨n::t,by rw [h1,List.append_assoc];rfl,List.nodup_cons.2 ⟨hnt,h2⟩,fun y hy =>?_,fun y hy =>?_,fun s =>?_⟩
   ·rcases List.mem_cons.1 hy with rfl | hy
    ·exact ⟨List.mem_cons_self,hn⟩
    ·obtain ⟨g1,g2⟩:=h3 y hy
     rw [jX] at g2
     by_cases e:y=n
     ·exact absurd (e▸hy) hnt
     ·rw [if_neg e] at g2;exact ⟨List.mem_cons_of_mem _ g1,g2⟩
   ·rcases List.mem_cons.1 hy with rfl | hy
    ·exact .inl List.mem_cons_self
    ·rcases h4 y hy with g | g
     ·exact .inl (List.mem_cons_of_mem _ g)
     ·rw [jX] at g
      by_cases e:y=n
      ·exact .inl (e▸List.mem_cons_self)
      ·rw [if_neg e] at g;exact .inr g
   ·rw [h5,jX]
    by_cases e:s=n
    ·subst e;rw [if_neg hnt,if_pos rfl,if_pos List.mem_cons_self]
    ·by_cases g:s∈t
     ·rw [if_pos g,if_pos (List.mem_cons_of_mem _ g)]
     ·rw [if_neg g,if_neg e,if_neg (fun hc=>(List.mem_cons.1 hc).elim e g)]
def sE:Bs:=⟨#[]⟩
theorem gB:∀(l:List Bs) (s:Bs),zK (jV l) s=if s∈l then some sE else none:=by
 refine wZ (p:=fun l=>∀s,zK (jV l) s=if s∈l then some sE else none) (fun s=>rfl) (fun l x ih s =>?_)
 rw [z5v,jX,ih]
 by_cases e:s=x
 ·rw [if_pos e,if_pos (List.mem_append_right _ (List.mem_singleton.2 e))];rfl
 ·by_cases g:s∈l
  ·rw [if_neg e,if_pos g,if_pos (List.mem_append_left _ g)]
  ·rw [if_neg e,if_neg g,if_neg (fun hc=>(List.mem_append.1 hc).elim g (fun hc=>e (List.mem_singleton.1 hc)))]
structure Bfs (nx:Next) (l:List Bs) (i:Nat) (o:From) (q:List Bs) (d:Bs→Nat):Prop where
 pre:∃t,q=l++t∧t.Nodup∧(∀y∈t,∃a,y∈jW nx a)∧∀y∈t,y∉l
 mem:∀s,(zK o s).isSome=true↔s∈q
 root:∀s∈l,zK o s=some sE∧d s=0
 back:∀s p,zK o s=some p→s∉l→(zK o p).isSome=true∧s∈jW nx p∧d s=d p+1
 up:∀(j k:Nat) x y,j≤k→q[j]? = some x→q[k]? = some y→d x≤d y
 near:∀(j k:Nat) x y,i≤j+1→q[j]? = some x→q[k]? = some y→d y≤d x+1
 out:∀(j:Nat) x,j < i→q[j]? = some x→∀y∈jW nx x,(zK o y).isSome=true∧d y≤d x+1
theorem y8r (nx:Next) (l:List Bs):Bfs nx l 0 (jV l) l (fun _=>0) where
 pre:=⟨[],by simp⟩
 mem s:=by rw [gB];by_cases h:s∈l <;> simp [h]
 root s hs:=by rw [gB,if_pos hs];exact ⟨rfl,rfl⟩
 back s p h hs:=by rw [gB,if_neg hs] at h;cases h
 up _ _ _ _ _ _ _:=Nat.le_refl _
 near _ _ _ _ _ _ _:=Nat.zero_le _
 out j x h:=absurd h (Nat.not_lt_zero _)
theorem z9c {nx:Next} {l:List Bs} {i:Nat} {o:From} {q:List Bs} {d:Bs→Nat} (h:Bfs nx l i o q d) {x:Bs} (hx:q[i]? = some x) :
  ∃d',Bfs nx l (i+1) (wJ x (jW nx x) o q).1 (wJ x (jW nx x) o q).2 d':=by
 obtain ⟨t,h1,h2,h3,h4,h5⟩:=cI x (jW nx x) o q
 generalize (wJ x (jW nx x) o q).1=o' at h5 ⊢
 generalize (wJ x (jW nx x) o q).2=q' at h1 ⊢
 subst h1
 have hil:i < q.length:=(List.getElem?_eq_some_iff.1 hx).1
 have hnt:∀y∈t,y∉q:=fun y hy hc=>by have:=(h.mem y).2 hc;rw [(h3 y hy).2] at this;cases this
 have hxq:x∈q:=List.mem_of_getElem? hx
 have hd:∀y∈q,(if y∈t then d x+1 else d y)=d y:=fun y hy=>if_neg fun hc=>hnt y hc hy
 have hdt:∀y∈t,(if y∈t then d x+1 else d y)=d x+1:=fun y hy=>if_pos hy
 have hat:∀(j:Nat) y,(q++t)[j]? = some y→(j < q.length∧q[j]? = some y∧y∈q)∨(q.length≤j∧y∈t):=fun j y hj=>by
  rcases Nat.lt_or_ge j q.length with g | g
  ·rw [List.getElem?_append_left g] at hj;exact .inl ⟨g,hj,List.mem_of_getElem? hj⟩
  ·rw [List.getElem?_append_right g] at hj;exact .inr ⟨g,List.mem_of_getElem? hj⟩
 have hlq:∀s∈l,s∈q:=fun s hs=>(h.mem s).1 (by rw [(h.root s hs).1];rfl)
 have hsome:∀s,(zK o' s).isSome=true↔s∈q++t:=fun s=>by
  rw [h5,List.mem_append]
  by_cases g:s∈t
  ·rw [if_pos g];simp [g]
  ·rw [if_neg g,h.mem];simp [g]
 have hold:∀s∈q,zK o' s=zK o s:=fun s hs=>by rw [h5,if_neg fun hc=>hnt s hc hs]
 refine ⟨fun y=>if y∈t then d x+1 else d y,?_⟩
 refine { pre := ?_,mem:=hsome,root:=fun s hs =>?_,back:=fun s p hp hs =>?_,up:=fun j k a b hjk ha hb =>?_,near:=fun j k a b hij ha hb =>?_,out:=fun j a hj ha y hy =>?_ }
 ·obtain ⟨u,rfl,g2,g3,g4⟩:=h.pre
  refine ⟨u++t,by rw [List.append_assoc],?_,fun y hy =>?_,fun y hy =>?_⟩
  ·refine List.nodup_append.2 ⟨g2,h2,fun a ha b hb e =>?_⟩
   subst e;exact hnt a hb (List.mem_append_right _ ha)
  ·rcases List.mem_append.1 hy with g | g
   ·exact g3 y g
   ·exact ⟨x,(h3 y g).1⟩
  ·rcases List.mem_append.1 hy with g | g
   ·exact g4 y g
   ·exact fun hc=>hnt y g (List.mem_append_left _ hc)
 ·show zK o' s=some sE∧(if s∈t then d x+1 else d s)=0
  rw [hold s (hlq s hs),hd s (hlq s hs)];exact h.root s hs
 ·show (zK o' p).isSome=true∧s∈jW nx p∧(if s∈t then d x+1 else d s)=(if p∈t then d x+1 else d p)+1
  rw [h5] at hp
  by_cases g:s∈t
  ·rw [if_pos g] at hp;cases hp
   rw [if_pos g,hd x hxq];exact ⟨(hsome x).2 (List.mem_append_left _ hxq),(h3 s g).1,rfl⟩
  ·rw [if_neg g] at hp
   obtain ⟨g1,g2,g3⟩:=h.back s p hp hs
   have hpq:=(h.mem p).1 g1
   rw [if_neg g,hd p hpq];exact ⟨(hsome p).2 (List.mem_append_left _ hpq),g2,g3⟩
 ·show (if a∈t then d x+1 else d a)≤(if b∈t then d x+1 else d b)
  rcases hat j a ha with ⟨g1,g2,g3⟩ | ⟨g1,g2⟩
  ·rw [hd a g3]
   rcases hat k b hb with ⟨k1,k2,k3⟩ | ⟨k1,k2⟩
   ·rw [hd b k3];exact h.up j k a b hjk g2 k2
   ·rw [hdt b k2];exact h.near i j x a (by omega) hx g2
  ·rw [hdt a g2]
   rcases hat k b hb with ⟨k1,k2,k3⟩ | ⟨k1,k2⟩
   ·omega
   ·rw [hdt b k2];exact Nat.le_refl _
 ·show (if b∈t then d x+1 else d b)≤(if a∈t then d x+1 else d a)+1
  have hxa:d x≤(if a∈t then d x+1 else d a):=by
   rcases hat j a ha with ⟨g1,g2,g3⟩ | ⟨g1,g2⟩
   ·rw [hd a g3];exact h.up i j x a (by omega) hx g2
   ·rw [hdt a g2];omega
  rcases hat k b hb with ⟨k1,k2,k3⟩ | ⟨k1,k2⟩
  ·rw [hd b k3];have:=h.near i k x b (by omega) hx k2;omega
  ·rw [hdt b k2];omega
 ·show (zK o' y).isSome=true∧(if y∈t then d x+1 else d y)≤(if a∈t then d x+1 else d a)+1
  have haq:q[j]? = some a∧a∈q:=by
   rcases hat j a ha with ⟨g1,g2,g3⟩ | ⟨g1,g2⟩
   ·exact ⟨g2,g3⟩
   ·omega
  rw [hd a haq.2]
  rcases Nat.lt_or_ge j i with g | g
  ·obtain ⟨k1,k2⟩:=h.out j a g haq.1 y hy
   have hyq:=(h.mem y).1 k1
   rw [hd y hyq];exact ⟨(hsome y).2 (List.mem_append_left _ hyq),k2⟩
  ·have e:j=i:=by omega
   subst e
   have:=haq.1;rw [hx] at this;cases this
   rcases h4 y hy with k | k
   ·rw [hdt y k];exact ⟨(hsome y).2 (List.mem_append_right _ k),Nat.le_refl _⟩
   ·have hyq:=(h.mem y).1 k
    rw [hd y hyq]
    refine ⟨(hsome y).2 (List.mem_append_left _ hyq),?_⟩
    obtain ⟨k,hk⟩:=List.getElem?_of_mem hyq
    exact h.near j k x y (by omega) hx hk
theorem dY {α:Type}:∀{l U:List α},l.Nodup→(∀x∈l,x∈U)→l.length≤U.length
 | [],_,_,_=>Nat.zero_le _
 | x::l,U,hn,hs=>by
  obtain ⟨a,b,rfl⟩:=List.append_of_mem (hs x List.mem_cons_self)
  obtain ⟨h1,h2⟩:=List.nodup_cons.1 hn
  have:=dY (U:=a++b) h2 fun y hy=>by
   have:=hs y (List.mem_cons_of_mem _ hy)
   rw [List.mem_append,List.mem_cons] at this
   rcases this with g | rfl | g
   ·exact List.mem_append_left _ g
   ·exact absurd hy h1
   ·exact List.mem_append_right _ g
  simp only [List.length_append,List.length_cons] at this ⊢;omega
theorem q2v {nx:Next} {a y:Bs} (h:y∈jW nx a):y∈nx.flatMap (·.2):=by
 unfold jW at h
 have:∀(m:Next) v,zK m a=some v→∃p∈m,p.2=v:=by
  intro m
  induction m with
  | nil=>intro v h;cases h
  | cons p m ih =>
   intro v h
   obtain ⟨k,u⟩:=p
   simp only [zK] at h
   split at h
   ·cases h;exact ⟨_,List.mem_cons_self,rfl⟩
   ·obtain ⟨p,h1,h2⟩:=ih v h;exact ⟨p,List.mem_cons_of_mem _ h1,h2⟩
 cases hg:zK nx a with
 | none=>rw [hg] at h;simp at h
 | some v =>
  rw [hg] at h
  obtain ⟨p,h1,h2⟩:=this nx v hg
  exact List.mem_flatMap.2 ⟨p,h1,by rw [h2];exact h⟩
theorem z8n {nx:Next} {l:List Bs} {i:Nat} {o:From} {q:List Bs} {d:Bs→Nat} (h:Bfs nx l i o q d):q.length≤kB nx l:=by
 obtain ⟨t,rfl,h2,h3,h4⟩:=h.pre
 have:=dY (U:=nx.flatMap (·.2)) h2 fun y hy=>let ⟨a,ha⟩:=h3 y hy;q2v ha
 rw [List.length_append];unfold kB;omega
theorem y5h (nx:Next) (g:Nat) {i:Nat} {o:From} {q:List Bs} (h:q[i]? = none):cE nx g i o q=o:=by
 cases g with
 | zero=>rfl
 | succ g=>simp only [cE];rw [h]
theorem z5u (nx:Next) (g:Nat) {i:Nat} {o:From} {q:List Bs} {x:Bs} (h:q[i]? = some x) :
  cE nx (g+1) i o q=cE nx g (i+1) (wJ x (jW nx x) o q).1 (wJ x (jW nx x) o q).2:=by
 simp only [cE];rw [h];rfl
theorem y5g {nx:Next} {l:List Bs}:∀(g i:Nat) (o:From) (q:List Bs) (d:Bs→Nat),Bfs nx l i o q d→i≤q.length→kB nx l+1≤g+i→∃q' d',Bfs nx l q'.length (cE nx g i o q) q' d'
 | 0,i,o,q,d,h,hi,hg=>by have:=z8n h;omega
 | g+1,i,o,q,d,h,hi,hg=>by
  cases hx:q[i]? with
  | none =>
   rw [y5h nx _ hx]
   have:q.length≤i:=List.getElem?_eq_none_iff.1 hx
   have e:i=q.length:=by omega
   exact ⟨q,d,e▸h⟩
  | some x =>
   rw [z5u nx g hx]
   obtain ⟨d',h'⟩:=z9c h hx
   refine y5g g (i+1) _ _ d' h' ?_ (by omega)
   obtain ⟨t,h1,_⟩:=cI x (jW nx x) o q
   have:=(List.getElem?_eq_some_iff.1 hx).1
   rw [h1,List.length_append];omega
theorem q0r (nx:Next) (l:List Bs):∃q d,Bfs nx l q.length (yB nx l) q d:=y5g _ _ _ _ _ (y8r nx l) (Nat.zero_le _) (by omega)
inductive Way (nx:Next) (l:List Bs):Nat→Bs→Prop
 | root {x:Bs}:x∈l→Way nx l 0 x
 | step {k:Nat} {x y:Bs}:Way nx l k x→y∈jW nx x→Way nx l (k+1) y
def z6e (nx:Next) (l:List Bs) (x:Bs):Prop:=∃k,Way nx l k x
section
variable {nx:Next} {l:List Bs} {o:From} {q:List Bs} {d:Bs→Nat}
theorem j1y (h:Bfs nx l q.length o q d):∀(k:Nat) (s:Bs),Way nx l k s→(zK o s).isSome=true∧d s≤k:=by
 intro k s hw
 induction hw with
 | root hx=>rw [(h.root _ hx).1,(h.root _ hx).2];exact ⟨rfl,Nat.le_refl _⟩
 | @step k x y _ hy ih =>
  obtain ⟨j,hj⟩:=List.getElem?_of_mem ((h.mem x).1 ih.1)
  obtain ⟨h1,h2⟩:=h.out j x (List.getElem?_eq_some_iff.1 hj).1 hj y hy
  exact ⟨h1,by omega⟩
theorem j1x (h:Bfs nx l q.length o q d):∀(n:Nat) (s:Bs),d s≤n→(zK o s).isSome=true→Way nx l (d s) s
 | n,s,hn,hs=>by
  by_cases hl:s∈l
  ·rw [(h.root s hl).2];exact .root hl
  ·obtain ⟨p,hp⟩:=Option.isSome_iff_exists.1 hs
   obtain ⟨h1,h2,h3⟩:=h.back s p hp hl
   cases n with
   | zero=>omega
   | succ n=>rw [h3];exact .step (j1x h n p (by omega) h1) h2
end
theorem wQ (nx:Next) (l:List Bs) (s:Bs):(zK (yB nx l) s).isSome=true↔z6e nx l s:=by
 obtain ⟨q,d,h⟩:=q0r nx l
 exact ⟨fun hs=>⟨_,j1x h _ s (Nat.le_refl _) hs⟩,fun ⟨k,hw⟩=>(j1y h k s hw).1⟩
end Go.Sw

namespace Go.Sw
def y8n (nx:Next) (p:List Bs):Prop:=∀(i:Nat) a b,p[i]? = some a→p[i+1]? = some b→b∈jW nx a
theorem j7g (nx:Next) (s:Bs):y8n nx [s]:=fun i a b h1 h2=>by
 simp at h2
section
variable {nx:Next} {l:List Bs} {o:From} {q:List Bs} {d:Bs→Nat}
end
theorem x3v {nx:Next} {l:List Bs}:∀{p:List Bs} {s:Bs},y8n nx (p++[s])→(∀x,(p++[s])[0]? = some x→x∈l)→Way nx l p.length s:=by
 intro p
 refine wZ (p:=fun p=>∀{s:Bs},y8n nx (p++[s])→(∀x,(p++[s])[0]? = some x→x∈l)→Way nx l p.length s) ?_ ?_ p
 ·intro s _ h;exact .root (h s rfl)
 ·intro p x ih s ht hr
  have h1:Way nx l p.length x:=ih (fun i a b ha hb=>ht i a b (by
    rw [List.getElem?_append_left (Nat.lt_trans (Nat.lt_succ_self _) (List.getElem?_eq_some_iff.1 hb).1)];exact ha) (by
    rw [List.getElem?_append_left (List.getElem?_eq_some_iff.1 hb).1];exact hb)) (fun y hy=>hr y (by
    rw [List.getElem?_append_left (by simp)];exact hy))
  have h2:s∈jW nx x:=ht p.length x s (by simp) (by simp)
  rw [List.length_append];exact .step h1 h2
def mS {α:Type} (m:List (Bs×α)):Prop:=(m.map (·.1)).Nodup
theorem q6f {α:Type}:∀{m:List (Bs×α)} {s:Bs},(zK m s).isSome=true↔s∈m.map (·.1)
 | [],s=>by simp [zK]
 | (k,x)::m,s=>by
  simp only [zK,List.map_cons,List.mem_cons]
  by_cases h:s=k
  ·rw [if_pos h];simp [h]
  ·rw [if_neg h,q6f];simp [h]
theorem q0d {α:Type}:∀(m:List (Bs×α)) (k:Bs) (x:α),(qX m k x).map (·.1)=if k∈m.map (·.1) then m.map (·.1) else m.map (·.1)++[k]
 | [],k,x=>by simp [qX]
 | (j,y)::m,k,x=>by
  simp only [qX,List.map_cons,List.mem_cons]
  by_cases h:k=j
  ·subst h;simp
  ·rw [if_neg h,List.map_cons,q0d m k x]
   by_cases g:k∈m.map (·.1)
   ·rw [if_pos g,if_pos (.inr g)]
   ·rw [if_neg g,if_neg (fun hc=>hc.elim h g)];rfl
theorem uR {α:Type} {m:List (Bs×α)} (h:mS m) (k:Bs) (x:α):mS (qX m k x):=by
 unfold mS at *
 rw [q0d]
 split
 ·exact h
 ·rename_i g
  exact List.nodup_append.2 ⟨h,by simp,fun a ha b hb e=>by rw [List.mem_singleton] at hb;subst hb;subst e;exact g ha⟩
theorem sW (x:Bs):∀(ns:List Bs) (o:From) (q:List Bs),mS o→mS (wJ x ns o q).1
 | [],_,_,h=>h
 | n::ns,o,q,h=>by
  simp only [wJ];split
  ·exact sW x ns o q h
  ·exact sW x ns _ _ (uR h n x)
theorem z2l (nx:Next):∀(g i:Nat) (o:From) (q:List Bs),mS o→mS (cE nx g i o q)
 | 0,_,_,_,h=>h
 | g+1,i,o,q,h=>by
  simp only [cE];split
  ·exact h
  ·exact z2l nx g _ _ _ (sW _ _ _ _ h)
theorem q3h:∀l:List Bs,mS (jV l):=by
 refine wZ (by simp [jV,mS]) (fun l x ih =>?_)
 rw [z5v];exact uR ih _ _
theorem q6y (nx:Next) (l:List Bs):mS (yB nx l):=z2l nx _ _ _ _ (q3h l)
structure GOk (ns:List Bs) (fl:List Flow):Prop where
 nd:ns.Nodup
 ends:∀a b,(a,b)∈fl→a∈ns∧b∈ns
 ne:sE∉ns
section
variable {ns:List Bs} {fl:List Flow} {rs:List Bs}
theorem z2n (h:GOk ns fl) (hr:∀r∈rs,r∈ns) {s:Bs} (hs:z6e (yY fl) rs s):s∈ns:=by
 obtain ⟨k,hw⟩:=hs
 induction hw with
 | root hx=>exact hr _ hx
 | step _ hy _=>exact (h.ends _ _ ((tI fl _ _).1 hy)).2
theorem mem_named {o:From} {s:Bs}:s∈jO ns o↔s∈ns∧(zK o s).isSome=true:=by simp [jO]
theorem nK (h:GOk ns fl) (hr:∀r∈rs,r∈ns) (s:Bs):s∈jO ns (yB (yY fl) rs)↔z6e (yY fl) rs s:=by
 rw [mem_named,wQ]
 exact ⟨fun g=>g.2,fun g=>⟨z2n h hr g,g⟩⟩
theorem q3b (h:GOk ns fl) (hr:∀r∈rs,r∈ns):(yB (yY fl) rs).length=(jO ns (yB (yY fl) rs)).length:=by
 have h1:=q6y (yY fl) rs
 have h2:(jO ns (yB (yY fl) rs)).Nodup:=h.nd.filter _
 have e:∀s,s∈(yB (yY fl) rs).map (·.1)↔s∈jO ns (yB (yY fl) rs):=fun s=>by rw [← q6f,wQ,nK h hr]
 have a:=dY h1 fun x hx=>(e x).1 hx
 have b:=dY h2 fun x hx=>(e x).2 hx
 rw [List.length_map] at a b;omega
def gP (ns l:List Bs):List Bs:=ns.filter fun n=>decide (n∈l)
theorem z5r (ns l:List Bs):jO ns (jV l)=gP ns l:=by
 unfold jO gP
 refine List.filter_congr fun x _ =>?_
 rw [gB];by_cases h:x∈l <;> simp [h]
def jP (ns:List Bs) (fl:List Flow) (rs l:List Bs):Bool :=
 decide (gP ns l=l)&&rs.all (fun r=>decide (r∈l))&&fl.all fun f => !decide (f.1∈l) || decide (f.2∈l)
theorem cH (ns:List Bs) (fl:List Flow) (rs l:List Bs):jP ns fl rs l=true↔gP ns l=l∧(∀r∈rs,r∈l)∧∀a b,(a,b)∈fl→a∈l→b∈l:=by
 simp only [jP,Bool.and_eq_true,decide_eq_true_eq,List.all_eq_true,Bool.or_eq_true,Bool.not_eq_true',decide_eq_false_iff_not]
 constructor
 ·rintro ⟨⟨h1,h2⟩,h3⟩
  exact ⟨h1,h2,fun a b hab ha=>(h3 (a,b) hab).resolve_left fun hc=>hc ha⟩
 ·rintro ⟨h1,h2,h3⟩
  refine ⟨⟨h1,h2⟩,fun x hx =>?_⟩
  by_cases g:x.1∈l
  ·exact .inr (h3 x.1 x.2 hx g)
  ·exact .inl g
theorem oX (ns:List Bs) (p:Bs→Bool):gP ns (ns.filter p)=ns.filter p:=by
 unfold gP
 refine List.filter_congr fun x hx =>?_
 simp [List.mem_filter,hx]
theorem q3o (h:GOk ns fl) {l:List Bs} (hr:∀r∈rs,r∈l) (hl:∀r∈l,r∈ns):jP ns fl rs (jO ns (yB (yY fl) l))=true:=by
 rw [cH]
 refine ⟨oX _ _,fun r hx=>(nK h hl r).2 ⟨0,.root (hr r hx)⟩,fun a b hab ha =>?_⟩
 rw [nK h hl] at ha ⊢
 obtain ⟨k,hk⟩:=ha
 exact ⟨k+1,.step hk ((tI fl a b).2 hab)⟩
theorem q3n {l:List Bs} (h:jP ns fl rs l=true) {s:Bs} (hs:z6e (yY fl) rs s):s∈l:=by
 obtain ⟨_,h2,h3⟩:=(cH _ _ _ _).1 h
 obtain ⟨k,hw⟩:=hs
 induction hw with
 | root hx=>exact h2 _ hx
 | step _ hy ih=>exact h3 _ _ ((tI fl _ _).1 hy) ih
end
theorem reached_union {nx:Next} {rs:List Bs} {s:Bs}:z6e nx rs s↔∃r∈rs,z6e nx [r] s:=by
 constructor
 ·rintro ⟨k,hw⟩
  induction hw with
  | @root x hx=>exact ⟨x,hx,0,.root (List.mem_singleton.2 rfl)⟩
  | step _ hy ih=>obtain ⟨r,h1,k,h2⟩:=ih;exact ⟨r,h1,k+1,.step h2 hy⟩
 ·rintro ⟨r,hr,k,hw⟩
  induction hw with
  | root hx=>rw [List.mem_singleton.1 hx];exact ⟨0,.root hr⟩
  | step _ hy ih=>obtain ⟨k,h⟩:=ih;exact ⟨k+1,.step h hy⟩
theorem q3c {nx:Next} {rs ts:List Bs} (h:∀r∈rs,r∈ts) {s:Bs} (hs:z6e nx rs s):z6e nx ts s:=by
 obtain ⟨r,h1,h2⟩:=reached_union.1 hs
 exact reached_union.2 ⟨r,h r h1,h2⟩
end Go.Sw

namespace Go.Sw
def nxM (N:Next) (zf:Bs→Value):List (Bs×Value):=N.map fun p=>(p.1,zf p.1)
def nxK (N:Next) (zf:Bs→Value):List Res:=N.map fun p=>.gs (zf p.1) 9 1 (strs p.2)
def cK (zf:Bs→Value) (s:Bs) (v:Value):Bs→Value:=fun t=>if t=s then v else zf t
def tT:Next→Bs→Next
 | [],_=>[]
 | (k,x)::m,s=>if s=k then m else (k,x)::tT m s
theorem q9n {α:Type} {k:Bs} {x:α} {m:List (Bs×α)} (h:mS ((k,x)::m)):mS m∧k∉m.map (·.1):=by
 unfold mS at *;rw [List.map_cons,List.nodup_cons] at h;exact ⟨h.2,h.1⟩
theorem j2v (zf:Bs→Value) (s:Bs):∀N:Next,yD (nxM N zf) s=if (zK N s).isSome then some (zf s) else none
 | []=>rfl
 | (k,x)::N=>by
  show (if s=k then some (zf k) else yD (nxM N zf) s)=_
  by_cases h:s=k
  ·simp [zK,h]
  ·simp only [zK,if_neg h,j2v zf s N]
theorem q0w {s:Bs}:∀{N:Next},zK N s=none→tT N s=N
 | [],_=>rfl
 | (k,x)::N,h=>by
  simp only [zK] at h
  by_cases hk:s=k
  ·rw [if_pos hk] at h;cases h
  ·rw [if_neg hk] at h;simp only [tT,if_neg hk,q0w h]
theorem q6m (zf:Bs→Value) {s:Bs}:∀{N:Next} {l:List Bs},zK N s=some l→(nxK N zf).Perm (.gs (zf s) 9 1 (strs l)::nxK (tT N s) zf)
 | (k,x)::N,l,h=>by
  simp only [zK] at h
  by_cases hk:s=k
  ·rw [if_pos hk] at h;cases h;subst hk;simp only [tT,if_true];exact List.Perm.refl _
  ·rw [if_neg hk] at h
   simp only [tT,if_neg hk]
   exact (List.Perm.cons _ (q6m zf h)).trans (List.Perm.swap _ _ _)
theorem j2u {zf:Bs→Value} {s:Bs} {v:Value}:∀{N:Next},s∉N.map (·.1)→nxK N (cK zf s v)=nxK N zf∧nxM N (cK zf s v)=nxM N zf
 | [],_=>⟨rfl,rfl⟩
 | (k,x)::N,h=>by
  simp only [List.map_cons,List.mem_cons,not_or] at h
  have:=j2u (zf:=zf) (v:=v) h.2
  have e:cK zf s v k=zf k:=if_neg fun e=>h.1 e.symm
  exact ⟨by show _::nxK N _=_::nxK N _;rw [this.1];simp only [e],by show _::nxM N _=_::nxM N _;rw [this.2];simp only [e]⟩
theorem y4t {zf:Bs→Value} {s:Bs} {v:Value} {l:List Bs}:∀{N:Next},mS N→(Res.gs v 9 1 (strs l)::nxK (tT N s) zf).Perm (nxK (qX N s l) (cK zf s v))∧mQ (nxM N zf) s v=nxM (qX N s l) (cK zf s v)
 | [],_=>⟨by simp [tT,nxK,qX,cK],by simp [nxM,qX,mQ,cK]⟩
 | (k,x)::N,h=>by
  obtain ⟨h1,h2⟩:=q9n h
  by_cases hk:s=k
  ·subst hk
   obtain ⟨e1,e2⟩:=j2u (zf:=zf) (v:=v) h2
   have e:cK zf s v s=v:=if_pos rfl
   constructor
   ·simp only [tT,if_true,qX]
    show List.Perm _ (Res.gs (cK zf s v s) 9 1 (strs l)::nxK N (cK zf s v))
    rw [e,e1]
   ·show mQ ((s,zf s)::nxM N zf) s v=_
    simp only [qX,mQ,if_true]
    show _=(s,cK zf s v s)::nxM N (cK zf s v)
    rw [e,e2]
  ·obtain ⟨i1,i2⟩:=y4t (zf:=zf) (s:=s) (v:=v) (l:=l) h1
   have e:cK zf s v k=zf k:=if_neg fun e=>hk e.symm
   constructor
   ·simp only [tT,if_neg hk,qX]
    show List.Perm (_::Res.gs (zf k) 9 1 (strs x)::nxK (tT N s) zf) (Res.gs (cK zf s v k) 9 1 (strs x)::nxK (qX N s l) (cK zf s v))
    rw [e]
    exact (List.Perm.swap _ _ _).trans (List.Perm.cons _ i1)
   ·show mQ ((k,zf k)::nxM N zf) s v=_
    simp only [qX,mQ,if_neg hk,i2]
    show _=(k,cK zf s v k)::nxM (qX N s l) (cK zf s v)
    rw [e]
theorem q0o:∀l:List Flow,mS (yY l):=by
 refine wZ (by simp [yY,mS]) (fun l x ih =>?_)
 rw [dZ];exact uR ih _ _
theorem nxt_len (s:Bs):∀l:List Flow,((zK (yY l) s).getD []).length≤l.length:=by
 refine wZ (by simp [yY,zK]) (fun l x ih =>?_)
 rw [dZ,gV,jX,List.length_append]
 by_cases h:s=x.1
 ·subst h;simp only [if_true,Option.getD_some,List.length_append,List.length_cons,List.length_nil];omega
 ·rw [if_neg h];omega
section
variable {Φ:Fz} {K:List Res} {w:World} {zf:Bs→Value} {N:Next}
theorem x2c (s:Bs) (hm:Mem Φ (nxK N zf++K) w):Mem Φ (.gs (zG false (.slice none 0 0) (yD (nxM N zf) s)) 9 1 (strs ((zK N s).getD []))::(nxK (tT N s) zf++K)) w:=by
 rw [j2v]
 cases h:zK N s with
 | none=>rw [q0w h];exact hm.nilRow 9 1
 | some l=>exact hm.perm ((q6m zf h).append_right K)
theorem j6l {s:Bs} {v:Value} {l:List Bs} (hD:mS N) (hm:Mem Φ (.gs v 9 1 (strs l)::(nxK (tT N s) zf++K)) w):Mem Φ (nxK (qX N s l) (cK zf s v)++K) w :=
 hm.perm ((y4t hD).1.append_right K)
theorem y9o:∀{N:Next} {Φ:Fz},Mem Φ (nxK N zf++K) w→∃Ψ,Φ.Le Ψ∧Mem Ψ K w∧MapRel (fun v x=>SliceOf RStr Ψ 1 v x) (nxM N zf) N
 | [],Φ,hm=>⟨Φ,Fz.Le.refl _,hm,.nil⟩
 | (k,x)::N,Φ,hm=>by
  obtain ⟨Ψ1,l1,m1,r1⟩:=Mem.freezeRow (i:=0) hm rfl
  obtain ⟨Ψ2,l2,m2,r2⟩:=y9o (N:=N) (Φ:=Ψ1) m1
  exact ⟨Ψ2,l1.trans l2,m2,.cons (SliceOf.strs.2 (r1.mono l2)) r2⟩
end
theorem sP {l:List Bs} {i:Nat} {x:Bs} (h:l[i]? = some x):(strs l)[i * 1]? = some (.string x):=by
 simp [strs,h]
theorem qZ {Φ:Fz} {K:List Res} {w:World} {i:Nat} {v:Value} {l:List Bs} (hm:Mem Φ K w) (hk:qI K i=some (.gs v 9 1 (strs l))):∃p cap,v=.slice p l.length cap:=by
 obtain ⟨m,hl,h2⟩:=hm.own _ (qJ hk)
 rw [yA] at hl
 rcases h2 with ⟨rfl,rfl⟩ | ⟨b,cap,cur,rfl,_⟩
 ·exact ⟨none,0,by rw [show l.length=0 by omega]⟩
 ·exact ⟨_,cap,by rw [show l.length=m by omega]⟩
def qW (l:List Flow):List Value:=l.flatMap fun x=>[.string x.1,.string x.2]
def RFlow (_:Fz) (cs:List Value) (x:Flow):Prop:=cs=[.string x.1,.string x.2]
theorem RFlow.mono (Φ Ψ:Fz) (c:List Value) (x:Flow) (_:Φ.Le Ψ) (h:RFlow Φ c x):RFlow Ψ c x:=h
theorem y0a (l:List Flow) (x:Flow):qW l++[.string x.1,.string x.2]=qW (l++[x]):=by simp [qW]
theorem dM (Φ:Fz):∀l:List Flow,Chunks (RFlow Φ) 2 (qW l) l
 | []=>rfl
 | x::l=>⟨[.string x.1,.string x.2],qW l,rfl,rfl,rfl,dM Φ l⟩
end Go.Sw

namespace Go.Sw
open Go.Proofs.Tryz
open Go.Proofs
instance:ScT 47:=⟨isAgg47⟩
instance:ScT 66:=⟨isAgg66⟩
instance:ScT 71:=⟨isAgg71⟩
instance:ScT 72:=⟨isAgg72⟩
instance:ScT 73:=⟨isAgg73⟩
instance:AgT 78:=⟨isAgg78⟩
instance:AgT 95:=⟨isAgg95⟩
instance:AgT 131:=⟨isAgg131⟩
instance:ScT 136:=⟨isAgg136⟩
instance:ScT 141:=⟨isAgg141⟩
instance:ScT 143:=⟨isAgg143⟩
instance:ScT 198:=⟨isAgg198⟩
instance:SzT 47 1:=⟨sizeOf47⟩
instance:SzT 66 1:=⟨sizeOf66⟩
instance:SzT 71 1:=⟨sizeOf71⟩
instance:SzT 72 1:=⟨sizeOf72⟩
instance:SzT 73 1:=⟨sizeOf73⟩
instance:SzT 78 1:=⟨sizeOf78⟩
instance:SzT 95 2:=⟨sizeOf95⟩
instance:SzT 131 9:=⟨sizeOf131⟩
instance:SzT 136 1:=⟨sizeOf136⟩
instance:SzT 198 1:=⟨sizeOf198⟩
instance:FoT 206 0 0:=⟨q5g⟩
instance:FoT 75 0 0:=⟨fo_75_0⟩
instance:FoT 75 1 4:=⟨fo_75_1⟩
instance:FoT 75 2 5:=⟨fo_75_2⟩
instance:FoT 75 3 6:=⟨fo_75_3⟩
instance:FoT 75 4 7:=⟨fo_75_4⟩
instance:FoT 75 5 8:=⟨fo_75_5⟩
instance:FoT 78 0 0:=⟨fo_78_0⟩
instance:FoT 86 0 0:=⟨fo_86_0⟩
instance:FoT 86 1 1:=⟨fo_86_1⟩
instance:FoT 86 2 2:=⟨fo_86_2⟩
instance:FoT 95 0 0:=⟨fo_95_0⟩
instance:FoT 95 1 1:=⟨fo_95_1⟩
instance:FoT 131 0 0:=⟨q5f⟩
instance:FoT 131 1 1:=⟨j9r⟩
instance:FoT 261 1 1:=⟨x0d⟩
instance:FoT 261 3 3:=⟨x0f⟩
instance:SlT 47 95:=⟨runUnderlying47⟩
instance:ZeT 23 [.slice none 0 0]:=⟨_,zeroValue23,rfl⟩
instance:ZeT 25 [.slice none 0 0]:=⟨_,zeroValue25,rfl⟩
instance:ZeT 66 [.pointer none]:=⟨_,zeroValue66,rfl⟩
instance:ZeT 70 [.map none]:=⟨_,zeroValue70,rfl⟩
instance:ZeT 95 [.string ⟨#[]⟩,.string ⟨#[]⟩]:=⟨_,zeroValue95,rfl⟩
instance:ZeT 131 [.string ⟨#[]⟩,.string ⟨#[]⟩,.slice none 0 0,.string ⟨#[]⟩,.int .i64 ((0:Nat):Int),.int .i64 ((0:Nat):Int),.string ⟨#[]⟩,.slice none 0 0,.slice none 0 0]:=⟨_,zeroValue131,rfl⟩
instance:ZeT 136 [.map none]:=⟨_,zeroValue136,rfl⟩
instance:ZeT 198 [.map none]:=⟨_,zeroValue198,rfl⟩
instance:BzT 75 [.slice none 0 0,.slice none 0 0,.slice none 0 0,.slice none 0 0,.slice none 0 0,.slice none 0 0,.map none,.map none,.nilFunc] [0,4,5,6,7,8]:=⟨trivial⟩
instance:BzT 78 [.string ⟨#[]⟩] [0]:=⟨trivial⟩
instance:BzT 95 [.string ⟨#[]⟩,.string ⟨#[]⟩] [0,1]:=⟨trivial⟩
instance:BzT 131 [.string ⟨#[]⟩,.string ⟨#[]⟩,.slice none 0 0,.string ⟨#[]⟩,.int .i64 ((0:Nat):Int),.int .i64 ((0:Nat):Int),.string ⟨#[]⟩,.slice none 0 0,.slice none 0 0] [0,1]:=⟨trivial⟩
instance:MonoF RFlow:=⟨RFlow.mono⟩
end Go.Sw

namespace Go.Sw
open Go.Proofs.Tryz
open Go.Proofs
set_option maxRecDepth 20000
set_option maxHeartbeats 4000000
variable {Φ:Fz} {K:List Res} {w:World}
theorem q5s (s:Bs):(inN s).size=3+s.size:=by unfold inN;rw [ByteArray.size_append];rfl
theorem y0j {s:Bs} (hs:s.size≤1000000) (hm:Mem Φ K w) :
  Calls prog 40 (List.toArray [.agg (List.toArray [.string s])]) w (fun ee w'=>ee=.returned (.string (inN s))∧Mem Φ K w'):=by
 refine zN func40 ntmps40 fun Q hQ a he =>?_
 refine Bx fun b2 w hm a he =>?_
 refine Qq (fun a he =>?_) (o:=by exact fun he hs=>y6m he rfl rfl (by show 3+s.size≤_;omega))
 refine zF ?_
 replace hm:=hm.dl [0]
 exact ⟨rfl,hm⟩
theorem z5a {s x:Bs} (hs:s.size≤1000000) (hx:x.size≤1000000) (hm:Mem Φ K w) :
  Calls prog 64 (List.toArray [.agg (List.toArray [.string s]),.string x]) w (fun ee w'=>ee=.returned (.string (vrN s x))∧Mem Φ K w'):=by
 refine zN func64 ntmps64 fun Q hQ a he =>?_
 refine Bx fun b2 w hm a he =>?_
 refine Qq (fun a he =>?_) (o:=by exact fun he hs=>y6m he rfl rfl (by show s.size+1≤_;omega))
 refine Qq (fun a he =>?_) (o:=by exact fun he hs=>y6m he rfl rfl (by rw [ByteArray.size_append];show s.size+1+x.size≤_;omega))
 refine zF ?_
 replace hm:=hm.dl [0]
 exact ⟨rfl,hm⟩
theorem z8r {s:Bs} {k:Nat} (G:Glob Φ) (hs:s.size≤1000000) (hk:k≤1000000) (hm:Mem Φ K w) :
  Calls prog 63 (List.toArray [.agg (List.toArray [.string s]),.int .i64 ((k:Nat):Int)]) w (fun ee w'=>ee=.returned (.string (wM s k))∧Mem Φ K w'):=by
 refine zN func63 ntmps63 fun Q hQ a he =>?_
 refine Bx fun b2 w hm a he =>?_
 refine Reg [1,2,1,1,0,1,1] [0] fun w hm a he =>?_
 have hio_:I64 ((k:Nat):Int):=⟨by omega,by omega⟩
 have hil_:=y0u hio_
 refine Qq (fun a he =>?_) (o:=by exact fun he hs=>y6m he rfl rfl (by show s.size+1≤_;omega))
 refine zT call99 (fun w hm a he =>?_) (c:=q2p hio_ G.tabs hm)
 refine Qq (fun a he =>?_) (o:=by exact fun he hs=>y6m he rfl rfl (by rw [ByteArray.size_append];show s.size+1+_≤_;omega))
 refine zF ?_
 replace hm:=hm.dl [0]
 exact ⟨rfl,hm⟩
end Go.Sw
