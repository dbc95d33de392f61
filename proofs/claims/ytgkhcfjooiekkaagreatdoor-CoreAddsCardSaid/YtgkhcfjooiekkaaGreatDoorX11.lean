import Derived.Lib.MakeNoZero
import Derived.Test.YtgkhcfjooiekkaaGreatDoorProg
import Derived.Test.YtgkhcfjooiekkaaGreatDoorX04
import Derived.Test.YtgkhcfjooiekkaaGreatDoorX06
import Derived.Test.YtgkhcfjooiekkaaGreatDoorX08
import Derived.Test.YtgkhcfjooiekkaaGreatDoorX10
set_option linter.unusedVariables false
set_option linter.unusedSimpArgs false
namespace Go.Sw
open Go.Proofs
section
variable {P:Program} {n:Nat} {E:List (Nat×Value)} {D:List Deferred} {a:Act} {Φ:Fz} {K:List Res} {w:World} {ty:TypeId}
variable {Kn:Value→World→Prop} {Qp:List PanicEntry→World→Prop} {dst:Option Tmp} {pos:String} {aft:Array Edge} {g:Option (Nat×Bool)}
set_option maxRecDepth 20000 in
theorem eff_makeNoZero {x:Operand} {ts:Array TypeId} {m:Nat} (he:EnvR n E D a) (hm:Mem Φ K w) (hx:ev E x=some (.int .i64 ((m:Nat):Int))) (hn:m≤281474976710656)
  (k:∀b cs w',m≤cs.size→cs.size≤maxLen→Mem Φ (.blk b (.cells cs 5 (0,0))::K) w'→Kn (.slice (some ⟨b,0,none⟩) m cs.size) w') :
  Oper.eff Tryz.prog ⟨dst,.call { callee:=.value (.func 198),args:=#[x],argTypes:=ts },ty,pos,aft,g⟩ a w Kn Qp:=by
 obtain ⟨cs,hrun,hle,hmax⟩:=Lib.run_makeNoZero (P:=Tryz.prog) w #[3] 128 5 Tryz.underlying128 m hn
 have h:=run_callFunc_extern (P:=Tryz.prog) Tryz.func198 (by kernel_rfl) (by kernel_rfl) (by kernel_rfl) (e:=Extern.BytealgMakeNoZero.makeNoZero #[3] #[128]) (by kernel_rfl) #[.int .i64 ((m:Nat):Int)] w
 rw [hrun] at h
 simp only [Result.andThen] at h
 unfold Oper.eff
 have:(execOp a.eval ⟨dst,.call { callee:=.value (.func 198),args:=#[x],argTypes:=ts },ty,pos,aft,g⟩).run Tryz.prog w=.ok (.value (.slice (some ⟨w.heap.size,0,none⟩) m cs.size)) (w.drew.drew.alloc (.cells cs 5)):=by
  have hf:a.eval (.func 198)=.func (.func 198) #[] #[]:=rfl
  simp only [execOp,resolve,Sem.run_bind,List.map_toArray,List.map_cons,List.map_nil,he.ev hx,hf]
  simp [Deferred.ofValue,invoke,Sem.run_bind,Result.andThen,h]
 rw [this]
 exact k _ cs _ hle (hmax (by simp only [maxLen];omega)) (hm.drew.drew.push (.cells cs 5 (0,0)))
theorem row_of_raw {b:Nat} {cs:Array Value} {i:Nat} (hm:Mem Φ K w) (hk:kget K i=some (.blk b (.cells cs 5 (0,0)))) (hmax:cs.size≤maxLen):Mem Φ (kset K i (.gs (.slice (some ⟨b,0,none⟩) 0 cs.size) 5 1 (Lib.strCells ⟨#[]⟩))) w :=
 hm.upd hk rfl rfl (fun _ _ _=>rfl) ⟨0,rfl,.inr ⟨b,cs.size,cs,rfl,Nat.zero_le _,hm.own _ (kget_mem hk),Nat.zero_le _,hmax,by omega,by simp [Lib.strCells]⟩⟩ (.inl rfl)
theorem y_slice_head {x hi:Operand} {t e:TypeId} {b m c:Nat} (he:EnvR n E D a) (hx:ev E x=some (.slice (some ⟨b,0,none⟩) m c)) (hh:ev E hi=some (.int .i64 ((0:Nat):Int))) (ht:Under P t (.slice e)) (hs:SizeT P e 1) :
  Ok P a (.slice t x none (some hi) none) ty w (.slice (some ⟨b,0,none⟩) 0 c):=fun _ _ _ _=>by
 simp only [execOp,he.ev hx,Option.map_some,Option.map_none,he.ev hh,Instr.sliceAt]
 simp [Sem.run_bind,ht w,hs w,Instr.slice,Instr.sliceBounds,Instr.sliceBound,asIntOf,Result.andThen,Addr.add]
theorem y_cap {x:Operand} {t e:TypeId} {p:Option Addr} {m c:Nat} (he:EnvR n E D a) (hx:ev E x=some (.slice p m c)) (ht:Under P t (.slice e)):Ok P a (.call { callee:=.builtin .cap,args:=#[x],argTypes:=#[t] }) ty w (.int .i64 ((c:Nat):Int)):=fun _ _ _ _=>by
 simp only [execOp,resolve]
 simp [Sem.run_bind,Result.andThen,invoke,builtin,he.ev hx,Builtin.cap_,ht w,goInt]
theorem y_copy_nil {x y:Operand} {t t2 e:TypeId} {p:Option Addr} {m c:Nat} (he:EnvR n E D a) (hx:ev E x=some (.slice p m c)) (hy:ev E y=some (.slice none 0 0)) (ht:P.underlying t=some (.slice e)) (hs:(P.info? e).map (·.size)=some 1) (h0:ty=ty) :
  Ok P a (.call { callee:=.builtin .copy,args:=#[x,y],argTypes:=#[t,t2] }) ty w (.int .i64 ((0:Nat):Int)):=fun _ _ _ _=>by
 have h:=run_copy_none (P:=P) w t t2 ty e p none m c 0 0 ht hs rfl
 simp only [execOp,resolve,invoke,builtin,Sem.run_bind,Sem.run_pure,Result.andThen_ok,List.map_toArray,List.map_cons,List.map_nil,he.ev hx,he.ev hy,h]
 rfl
theorem y_load_qi (i j:Nat) {x:Operand} {b off cap:Nat} {arr:Array Value} {l:List Bs} {T:TypeId} {s:Bs} (he:EnvR n E D a) (hm:Sees Φ K w) (hq:QAt off cap arr l) (hx:ev E x=some (.pointer (some ((⟨b,off,none⟩:Addr).add (j * 1)))))
  (hk:kget K i=some (qblk b arr)) (hs:l[j]? = some s) (hT:Scalar P T):Ok P a (.load T x) ty w (.string s):=fun _ _ _ _=>by
 have h1:w.heap[b]? = some (.cells arr 9 (0,0)):=hm.own _ (kget_mem hk)
 have h2:w.cell? ⟨b,off+j,none⟩=some (.string s):=by simp [World.cell?,h1];exact hq.cells j s hs
 rw [add_off,Nat.mul_one] at hx
 simp only [execOp,he.ev hx]
 simp [Instr.loadAt,Instr.sureAddr,loadVar,Sem.run_bind,hT w,Result.andThen,load,Sem.run,h2]
end
def joinP (sep:Bs):List Bs→Bs
 | []=>⟨#[]⟩
 | x::xs=>xs.foldl (fun a s=>a++sep++s) x
def lens (l:List Bs):Nat:=(l.map ByteArray.size).sum
theorem lens_cons (x:Bs) (l:List Bs):lens (x::l)=x.size+lens l:=by simp [lens]
theorem lens_drop {l:List Bs} {i:Nat} {x:Bs} (h:l[i]? = some x):lens (l.drop i)=x.size+lens (l.drop (i+1)):=by rw [drop_cons h,lens_cons]
theorem lens_split (l:List Bs) (i:Nat):lens (l.take i)+lens (l.drop i)=lens l:=by
 simp only [lens]
 rw [← List.sum_append_nat,← List.map_append,List.take_append_drop]
theorem lens_take {l:List Bs} {i:Nat} {x:Bs} (h:l[i]? = some x):lens (l.take (i+1))=lens (l.take i)+x.size:=by rw [take_snoc h];simp [lens]
theorem quo_big {m s:Nat} (hm:1≤m) (hs:1≤s) (h:s * m≤140737488355328):¬IntKind.i64.wrap ((9223372036854775807:Int).tdiv ((m:Nat):Int))≤((s:Nat):Int):=by
 obtain ⟨q,hq⟩:∃q:Nat,q=9223372036854775807 / m:=⟨_,rfl⟩
 have h1:(9223372036854775807:Int).tdiv ((m:Nat):Int)=(q:Int):=by rw [hq];rfl
 have h2:q≤9223372036854775807:=by rw [hq];exact Nat.div_le_self _ _
 rw [h1,wrap64 (by omega)]
 have h4:=Nat.div_add_mod 9223372036854775807 m
 have h5:=Nat.mod_lt 9223372036854775807 (show 0 < m by omega)
 rw [← hq] at h4
 have h6:m≤s * m:=Nat.le_mul_of_pos_left _ (by omega)
 intro h7
 have h8:q≤s:=by omega
 have h9:m * q≤m * s:=Nat.mul_le_mul_left _ h8
 rw [Nat.mul_comm m s] at h9
 omega
theorem app_size (a b:Bs):(a++b).size=a.size+b.size:=ByteArray.size_append
theorem empty_app (x:Bs):(⟨#[]⟩:Bs)++x=x:=by
 apply ByteArray.ext;simp [ByteArray.data_append]
theorem join_head {l:List Bs} {x sep:Bs} (h:l[0]? = some x) (hb:lens l+sep.size * l.length≤70368744177664) :
  joinP sep l=((l.drop 1).drop 0).foldl (fun a s=>a++sep++s) (⟨#[]⟩++x)∧((⟨#[]⟩:Bs)++x).size+lens ((l.drop 1).drop 0)+sep.size * ((l.drop 1).length - 0)≤70368744177664:=by
 cases l with
 | nil=>simp at h
 | cons a r =>
  simp only [List.getElem?_cons_zero,Option.some.injEq] at h
  subst h
  rw [empty_app]
  refine ⟨rfl,?_⟩
  rw [lens_cons] at hb
  simp only [List.length_cons,Nat.mul_add,List.drop_succ_cons,List.drop_zero,Nat.sub_zero] at hb ⊢
  omega
theorem join_step {l:List Bs} {i:Nat} {acc sep x:Bs} (hx:(l.drop 1)[i]? = some x) (h:joinP sep l=((l.drop 1).drop i).foldl (fun a s=>a++sep++s) acc) (hb:acc.size+lens ((l.drop 1).drop i)+sep.size * ((l.drop 1).length - i)≤70368744177664) :
  joinP sep l=((l.drop 1).drop (i+1)).foldl (fun a s=>a++sep++s) ((acc++sep)++x)∧((acc++sep)++x).size+lens ((l.drop 1).drop (i+1))+sep.size * ((l.drop 1).length - (i+1))≤70368744177664:=by
 refine ⟨by rw [h,drop_cons hx];rfl,?_⟩
 have hlt:=(List.getElem?_eq_some_iff.1 hx).1
 rw [lens_drop hx,show (l.drop 1).length - i=((l.drop 1).length - (i+1))+1 by omega,Nat.mul_add,Nat.mul_one] at hb
 rw [app_size,app_size];omega
end Go.Sw

namespace Go.Sw
open Go.Proofs
set_option maxRecDepth 20000
set_option maxHeartbeats 4000000
theorem copyCheck_new {Φ:Fz} {K:List Res} {w:World} {b:Nat} {v:Value} (hv:v.cells.toList=[v]) (h1:[v].all Value.oneCell'=true) (hm:Mem Φ (.blk b (ob [.pointer none,v] 130)::K) w) :
  Calls Tryz.prog 120 (List.toArray [.pointer (some ⟨b,0,none⟩)]) w (fun ee w'=>ee=.returned (.tuple #[])∧Mem Φ (.blk b (ob [.pointer (some ⟨b,0,none⟩),v] 130)::K) w'):=by
 refine Enter Tryz.func120 Tryz.ntmps120 fun Q hQ a he =>?_
 refine Qq he hm (fun a he =>?_) (o:=by exact fun _ _ _ he hs=>y_bin (v:=.bool true) he rfl rfl rfl (by kernel_rfl))
 refine Qq he hm (fun a he =>?_) (o:=by exact fun _ _ _ he hs=>y_to_unsafe (i:=0) he hs rfl rfl (Nat.zero_lt_succ _) Tryz.underlying127 Tryz.underlying238 Tryz.type130 (by decide))
 refine Qq he hm (fun a he =>?_) (o:=by exact fun _ _ _ he hs=>y_noEscape171 he rfl)
 refine Qq he hm (fun a he =>?_) (o:=by exact fun _ _ _ he hs=>y_from_unsafe (i:=0) he hs rfl rfl Tryz.underlying238 Tryz.underlying127 Tryz.type130 (by kernel_rfl))
 refine Sto 0 he hm fun w hm a he =>?_
 refine go he hm fun a he =>?_
 refine hQ _ _ _ (ret0N he Tryz.results120 ?_)
 exact ⟨rfl,hm⟩
theorem copyCheck_used {Φ:Fz} {K:List Res} {w:World} {b:Nat} {v:Value} (hv:v.cells.toList=[v]) (h1:[v].all Value.oneCell'=true) (hm:Mem Φ (.blk b (ob [.pointer (some ⟨b,0,none⟩),v] 130)::K) w) :
  Calls Tryz.prog 120 (List.toArray [.pointer (some ⟨b,0,none⟩)]) w (fun ee w'=>ee=.returned (.tuple #[])∧Mem Φ (.blk b (ob [.pointer (some ⟨b,0,none⟩),v] 130)::K) w'):=by
 refine Enter Tryz.func120 Tryz.ntmps120 fun Q hQ a he =>?_
 refine Qq he hm (fun a he =>?_) (o:=by exact fun _ _ _ he hs=>y_bin (v:=.bool false) he rfl rfl rfl (by kernel_rfl))
 refine Qq he hm (fun a he =>?_) (o:=by exact fun _ _ _ he hs=>y_bin (v:=.bool false) he rfl rfl rfl (Lib.run_neq_ptr_same _ _ Tryz.underlying127 Tryz.type130))
 refine go he hm fun a he =>?_
 refine hQ _ _ _ (ret0N he Tryz.results120 ?_)
 exact ⟨rfl,hm⟩
theorem copyCheck_ok {Φ:Fz} {K:List Res} {w:World} {b:Nat} {v:Value} {bp:Option Addr} (hp:bp=none∨bp=some ⟨b,0,none⟩) (hv:v.cells.toList=[v]) (h1:[v].all Value.oneCell'=true) (hm:Mem Φ (.blk b (ob [.pointer bp,v] 130)::K) w) :
  Calls Tryz.prog 120 (List.toArray [.pointer (some ⟨b,0,none⟩)]) w (fun ee w'=>ee=.returned (.tuple #[])∧Mem Φ (.blk b (ob [.pointer (some ⟨b,0,none⟩),v] 130)::K) w'):=by
 rcases hp with rfl | rfl
 exact copyCheck_new hv h1 hm
 exact copyCheck_used hv h1 hm
theorem writeString_ok {Φ:Fz} {K:List Res} {w:World} {b:Nat} {v:Value} {bp:Option Addr} {t s:Bs} (hp:bp=none∨bp=some ⟨b,0,none⟩) (hl:t.size+s.size≤140737488355328) (hm:Mem Φ (.blk b (ob [.pointer bp,v] 130)::.gs v 5 1 (Lib.strCells t)::K) w) :
  Calls Tryz.prog 68 (List.toArray [.pointer (some ⟨b,0,none⟩),.string s]) w (fun ee w'=>∃v2,ee=.returned (.tuple (List.toArray [.int .i64 ((s.size:Nat):Int),.nilIface]))∧True∧Mem Φ (.blk b (ob [.pointer (some ⟨b,0,none⟩),v2] 130)::.gs v2 5 1 (Lib.strCells (t++s))::K) w'):=by
 refine Enter Tryz.func68 Tryz.ntmps68 fun Q hQ a he =>?_
 refine CallR Tryz.call120 he hm (fun w hm a he =>?_) (c:=copyCheck_ok hp (hm.toSees.gsCells (i:=1) rfl) (hm.toSees.gsOne (i:=1) rfl) hm)
 replace hm:=hm.nf
 refine go he hm fun a he =>?_
 refine st he rfl rfl rfl (eff_append_str 1 Tryz.underlying128 Tryz.underlying9 Tryz.type5 rfl rfl rfl he hm rfl rfl rfl (by omega) fun v4 w hm a he =>?_)
 replace hm:=hm.nf
 refine Sto 0 he hm fun w hm a he =>?_
 refine Ret2 hQ he hm ?_
 exact ⟨_,rfl,trivial,hm⟩
theorem writeByte_ok {Φ:Fz} {K:List Res} {w:World} {b:Nat} {v:Value} {bp:Option Addr} {t:Bs} {c:UInt8} (hp:bp=none∨bp=some ⟨b,0,none⟩) (hl:t.size+1≤140737488355328) (hm:Mem Φ (.blk b (ob [.pointer bp,v] 130)::.gs v 5 1 (Lib.strCells t)::K) w) :
  Calls Tryz.prog 70 (List.toArray [.pointer (some ⟨b,0,none⟩),.int .u8 ((c.toNat:Nat):Int)]) w (fun ee w'=>∃v2,ee=.returned .nilIface∧True∧Mem Φ (.blk b (ob [.pointer (some ⟨b,0,none⟩),v2] 130)::.gs v2 5 1 (Lib.strCells (t++⟨#[c]⟩))::K) w'):=by
 refine Enter Tryz.func70 Tryz.ntmps70 fun Q hQ a he =>?_
 refine CallR Tryz.call120 he hm (fun w hm a he =>?_) (c:=copyCheck_ok hp (hm.toSees.gsCells (i:=1) rfl) (hm.toSees.gsOne (i:=1) rfl) hm)
 replace hm:=hm.nf
 refine BldS he hm fun v4 w hm a he =>?_
 refine App_ 2 rt_128 he hm (fun v5 w hm a he =>?_) (hb:=by rw [strCells_len];simp only [List.length_cons,List.length_nil];omega)
 rw [← strCells_push] at hm
 refine Sto 1 he hm fun w hm a he =>?_
 refine go he hm fun a he =>?_
 replace hm:=hm.dl [0]
 refine Ret1 hQ he hm ?_
 exact ⟨_,rfl,trivial,hm⟩
theorem builderLen_ok {Φ:Fz} {K:List Res} {w:World} {b:Nat} {v:Value} {bp:Option Addr} {t:Bs} (hm:Mem Φ (.blk b (ob [.pointer bp,v] 130)::.gs v 5 1 (Lib.strCells t)::K) w) :
  Calls Tryz.prog 71 (List.toArray [.pointer (some ⟨b,0,none⟩)]) w (fun ee w'=>ee=.returned (.int .i64 ((t.size:Nat):Int))∧Mem Φ (.blk b (ob [.pointer bp,v] 130)::.gs v 5 1 (Lib.strCells t)::K) w'):=by
 obtain ⟨p0,m0,c0,rfl,hl0,hmx0⟩:=hm.toSees.gsForm (i:=1) rfl
 have e0_:m0=t.size:=by simpa [strCells_len] using hl0.symm
 subst e0_
 refine Enter Tryz.func71 Tryz.ntmps71 fun Q hQ a he =>?_
 refine Ret1 hQ he hm ?_
 exact ⟨rfl,hm⟩
theorem builderString_ok {Φ:Fz} {K:List Res} {w:World} {b:Nat} {v:Value} {bp:Option Addr} {t:Bs} (hm:Mem Φ (.blk b (ob [.pointer bp,v] 130)::.gs v 5 1 (Lib.strCells t)::K) w) :
  Calls Tryz.prog 72 (List.toArray [.pointer (some ⟨b,0,none⟩)]) w (fun ee w'=>ee=.returned (.string t)∧Mem Φ K w'):=by
 obtain ⟨p0,m0,c0,rfl,hl0,hmx0⟩:=hm.toSees.gsForm (i:=1) rfl
 have e0_:m0=t.size:=by simpa [strCells_len] using hl0.symm
 subst e0_
 refine Enter Tryz.func72 Tryz.ntmps72 fun Q hQ a he =>?_
 refine go he hm fun a he =>?_
 refine region_planI [1,1,1,2,0,1,1,1,2,1,0,1] (.q 0 (.q 1 (.q 2 (.q 3 (.q 5 (.q 6 (.q 7 (.q 8 (.q 9 (.e 4 (.e 10 (.q 11 (.done))))))))))))) [0] he hm fun w hm =>?_
 refine go he hm fun a he =>?_
 refine d_e he rfl rfl rfl (eff_sliceData 1 Tryz.underlying202 he hm rfl rfl fun q3 w hq4 hm=>⟨fun _=>hm.sn (Fz.Le.refl _),fun a he =>?_⟩)
 refine d_e he rfl rfl rfl (eff_unsafeString 1 (t:=t) Tryz.underlying202 (by kernel_rfl) he hm hq4 rfl rfl rfl fun w hm=>⟨fun _=>hm.sn (Fz.Le.refl _),fun a he =>?_⟩)
 replace hm:=hm.nf
 refine go he hm fun a he =>?_
 replace hm:=hm.dl [0]
 refine Ret1 hQ he hm ?_
 exact ⟨rfl,hm⟩
end Go.Sw

namespace Go.Sw
open Go.Proofs
set_option maxRecDepth 20000
set_option maxHeartbeats 4000000
theorem grow_ok {Φ:Fz} {K:List Res} {w:World} {b n:Nat} (hn:n≤140737488355328) (hm:Mem Φ (.blk b (ob [.pointer (some ⟨b,0,none⟩),.slice none 0 0] 130)::K) w) :
  Calls Tryz.prog 170 (List.toArray [.pointer (some ⟨b,0,none⟩),.int .i64 ((n:Nat):Int)]) w (fun ee w'=>∃v2,ee=.returned (.tuple #[])∧True∧Mem Φ (.blk b (ob [.pointer (some ⟨b,0,none⟩),v2] 130)::.gs v2 5 1 (Lib.strCells ⟨#[]⟩)::K) w'):=by
 refine Enter Tryz.func170 Tryz.ntmps170 fun Q hQ a he =>?_
 refine go he hm fun a he =>?_
 refine region_planI [1,1,1,2,1,1,1,1,0,1,1,1,2,1,1,1] (.q 0 (.q 1 (.q 2 (.q 3 (.q 4 (.q 5 (.q 6 (.q 7 (.q 9 (.q 10 (.q 11 (.q 12 (.q 13 (.e 8 (.q 14 (.q 15 (.done))))))))))))))))) [0] he hm fun w hm =>?_
 refine Qq he hm (fun a he =>?_) (o:=by exact fun _ _ _ he hs=>y_cap he rfl Tryz.runUnderlying128)
 refine Qq he hm (fun a he =>?_) (o:=by exact fun _ _ _ he hs=>y_mul ((0:Nat):Int) he rfl rfl (by decide))
 refine Qq he hm (fun a he =>?_) (o:=by exact fun _ _ _ he hs=>y_add ((n:Nat):Int) he rfl rfl (by rw [wrap64 (by omega)];omega))
 refine go he hm fun a he =>?_
 refine d_e he rfl rfl rfl (eff_makeNoZero (m:=n) he hm rfl (by omega) fun b2 cs3 w hle4 hmx5 hm=>⟨fun _=>hm.sn (Fz.Le.refl _),fun a he =>?_⟩)
 refine Qq he hm (fun a he =>?_) (o:=by exact fun _ _ _ he hs=>y_slice_head he rfl rfl Tryz.runUnderlying128 Tryz.sizeOf5)
 refine Qq he hm (fun a he =>?_) (o:=by exact fun _ _ _ he hs=>y_copy_nil he rfl rfl Tryz.underlying128 (by kernel_rfl) rfl)
 refine Sto 1 he hm fun w hm a he =>?_
 replace hm:=row_of_raw (i:=0) hm rfl hmx5
 replace hm:=hm.nf
 refine go he hm fun a he =>?_
 replace hm:=hm.pl 1
 refine hQ _ _ _ (ret0N he Tryz.results170 ?_)
 exact ⟨_,rfl,trivial,hm⟩
theorem growB_ok {Φ:Fz} {K:List Res} {w:World} {b n:Nat} (hn:n≤140737488355328) (hm:Mem Φ (.blk b (ob [.pointer none,.slice none 0 0] 130)::K) w) :
  Calls Tryz.prog 119 (List.toArray [.pointer (some ⟨b,0,none⟩),.int .i64 ((n:Nat):Int)]) w (fun ee w'=>∃v2,ee=.returned (.tuple #[])∧True∧Mem Φ (.blk b (ob [.pointer (some ⟨b,0,none⟩),v2] 130)::.gs v2 5 1 (Lib.strCells ⟨#[]⟩)::K) w'):=by
 refine Enter Tryz.func119 Tryz.ntmps119 fun Q hQ a he =>?_
 refine CallR Tryz.call120 he hm (fun w hm a he =>?_) (c:=copyCheck_ok (.inl rfl) rfl rfl hm)
 replace hm:=hm.nf
 refine go he hm fun a he =>?_
 have hn0_:¬n < 0:=by omega
 refine Reg [1,1,1,2,1,1,1,1,2,1,1,1,1] [0] he hm fun w hm a he =>?_
 refine Qq he hm (fun a he =>?_) (o:=by exact fun _ _ _ he hs=>y_cap he rfl Tryz.runUnderlying128)
 refine Qq he hm (fun a he =>?_) (o:=by exact fun _ _ _ he hs=>y_sub ((0:Nat):Int) he rfl rfl (by decide))
 refine go he hm fun a he =>?_
 by_cases h5:0 < n
 refine CallY Tryz.call170 he hm (fun y6 w hG7 hm a he =>?_) (c:=grow_ok (by omega) hm)
 replace hm:=hm.nf
 refine go he hm fun a he =>?_
 refine hQ _ _ _ (ret0N he Tryz.results119 ?_)
 exact ⟨_,rfl,trivial,hm⟩
 refine go he hm fun a he =>?_
 replace hm:=hm.nilRow 5 1
 replace hm:=hm.pl 1
 refine hQ _ _ _ (ret0N he Tryz.results119 ?_)
 exact ⟨_,rfl,trivial,hm⟩
end Go.Sw

namespace Go.Sw
open Go.Proofs
set_option maxRecDepth 20000
set_option maxHeartbeats 4000000
theorem joinQ_ok {Φ:Fz} {K:List Res} {w:World} {b off cap:Nat} {arr:Array Value} {l:List Bs} {sep:Bs} (hq:QAt off cap arr l) (hb:lens l+sep.size * l.length≤70368744177664) (hm:Mem Φ (qblk b arr::K) w) :
  Calls Tryz.prog 67 (List.toArray [qval b off cap l,.string sep]) w (fun ee w'=>ee=.returned (.string (joinP sep l))∧Mem Φ (qblk b arr::K) w'):=by
 have hlm_:l.length≤9223372036854775807:=Nat.le_trans hq.fits (by have h_:=hq.max;simpa [maxLen] using h_)
 have hld_:(l.drop 1).length≤l.length:=by rw [List.length_drop];omega
 refine Enter Tryz.func67 Tryz.ntmps67 fun Q hQ a he =>?_
 refine go he hm fun a he =>?_
 by_cases h5:l.length=0
 refine Ret1 hQ he hm ?_
 have e_:l=[]:=List.eq_nil_of_length_eq_zero h5
 subst e_
 exact ⟨rfl,hm⟩
 refine go he hm fun a he =>?_
 by_cases h8:l.length=1
 refine go he hm fun a he =>?_
 have hx1_:=h8
 refine go he hm fun a he =>?_
 have hb10:0 < l.length:=by omega
 obtain ⟨x11,hx12⟩:=at_of_lt hb10
 refine Qq he hm (fun a he =>?_) (o:=by exact fun _ _ _ he hs=>y_load_qi 0 0 he hs hq rfl rfl hx12 Tryz.isAgg9)
 refine Ret1 hQ he hm ?_
 obtain ⟨y_,e_⟩:∃y_,l=[y_]:=by
  cases l with
  | nil=>simp at hx1_
  | cons a r=>cases r with
   | nil=>exact ⟨a,rfl⟩
   | cons b r=>simp at hx1_
 subst e_
 have e2_:=hx12
 simp at e2_
 subst e2_
 exact ⟨rfl,hm⟩
 refine go he hm fun a he =>?_
 by_cases h16:0 < sep.size
 refine Qq he hm (fun a he =>?_) (o:=by exact fun _ _ _ he hs=>y_sub (((l.length - 1):Nat):Int) he rfl rfl (by rw [wrap64 (by omega)];omega))
 refine Qq he hm (fun a he =>?_) (o:=by exact fun _ _ _ he hs=>y_quo _ he rfl rfl (by omega) rfl)
 have hquo_:¬IntKind.i64.wrap ((9223372036854775807:Int).tdiv (((l.length - 1):Nat):Int))≤((sep.size:Nat):Int):=quo_big (by omega) (by omega) (by have h_:=Nat.mul_le_mul_left sep.size (show l.length - 1≤l.length by omega);omega)
 refine Qq he hm (fun a he =>?_) (o:=by exact fun _ _ _ he hs=>y_sub (((l.length - 1):Nat):Int) he rfl rfl (by rw [wrap64 (by omega)];omega))
 refine Qq he hm (fun a he =>?_) (o:=by exact fun _ _ _ he hs=>y_mul (((sep.size * (l.length - 1)):Nat):Int) he rfl rfl (by rw [← Int.natCast_mul];exact wrap64 (by have h_:=Nat.mul_le_mul_left sep.size (show l.length - 1≤l.length by omega);omega)))
 refine Qq he hm (fun a he =>?_) (o:=by exact fun _ _ _ he hs=>y_inc (i:=0) (j:=(sep.size * (l.length - 1))) he rfl rfl (by have h_:=Nat.mul_le_mul_left sep.size (show l.length - 1≤l.length by omega);omega))
 refine go he hm fun a he =>?_
 have hn0_:(0+(sep.size * (l.length - 1)))≤sep.size * l.length+lens (l.take 0):=by have h_:=Nat.mul_le_mul_left sep.size (show l.length - 1≤l.length by omega);omega
 refine go he hm fun a he =>?_
 refine loopI (fun mm a w=>∃(i:Nat) (n:Nat),mm=l.length - i∧EnvR 75 [(0,qval b off cap l),(1,.string sep),(5,.int .i64 ((n:Nat):Int)),(39,qval b off cap l),(40,.int .i64 ((l.length:Nat):Int)),(41,.int .i64 ((i:Nat):Int))] [] a∧Mem Φ (qblk b arr::K) w∧(n≤sep.size * l.length+lens (l.take i))) (l.length - 0) ⟨0,(0+(sep.size * (l.length - 1))),rfl,he.pk,hm,hn0_⟩ ?_
 clear hm he
 rintro mm a w ⟨i,n,hmu,he,hm,hI22⟩ L21 hL21
 refine go he hm fun a he =>?_
 by_cases h24:i < l.length
 refine go he hm fun a he =>?_
 obtain ⟨x28,hx29⟩:=at_of_lt h24
 refine Qq he hm (fun a he =>?_) (o:=by exact fun _ _ _ he hs=>y_load_qi 0 i he hs hq rfl rfl hx29 Tryz.isAgg9)
 refine go he hm fun a he =>?_
 have hnb_:n+x28.size≤140737488355328:=by have h0_:=hI22;have h1_:=lens_split l i;have h2_:=lens_drop hx29;omega
 refine Qq he hm (fun a he =>?_) (o:=by exact fun _ _ _ he hs=>y_sub (((9223372036854775807 - n):Nat):Int) he rfl rfl (by rw [wrap64 (by omega)];omega))
 have hov_:¬(9223372036854775807 - n) < x28.size:=by omega
 refine Qq he hm (fun a he =>?_) (o:=by exact fun _ _ _ he hs=>y_inc (i:=n) (j:=x28.size) he rfl rfl (by omega))
 refine go he hm fun a he =>?_
 refine hL21 _ _ _ (by subst hmu;omega) ⟨(i+1),((n+x28.size)),rfl,he.pk,hm,?_⟩
 rw [lens_take hx29];omega
 refine Alc he hm fun b34 w hm a he =>?_
 refine CallY Tryz.call119 he hm (fun y36 w hG37 hm a he =>?_) (c:=growB_ok (n:=n) (by have h1_:=hI22;have h2_:=lens_split l i;omega) hm)
 replace hm:=hm.nf
 refine go he hm fun a he =>?_
 have hb39:0 < l.length:=by omega
 obtain ⟨x40,hx41⟩:=at_of_lt hb39
 refine Qq he hm (fun a he =>?_) (o:=by exact fun _ _ _ he hs=>y_load_qi 2 0 he hs hq rfl rfl hx41 Tryz.isAgg9)
 replace hm:=hm.ar [] [1,1]
 refine CallY Tryz.call68 he hm (fun y42 w hG43 hm a he =>?_) (c:=writeString_ok (t:=⟨#[]⟩) (s:=x40) (.inr rfl) (by have h0_:(⟨#[]⟩:Bs).size=0:=rfl;have h1_:=lens_split l 0;have h2_:=lens_drop hx41;omega) hm)
 replace hm:=hm.nf
 refine go he hm fun a he =>?_
 have hq46:=hq.tail hb39
 refine Qq he hm (fun a he =>?_) (o:=by exact fun _ _ _ he hs=>y_slice_q he hq rfl rfl Tryz.runUnderlying25 Tryz.sizeOf9 hb39)
 refine go he hm fun a he =>?_
 refine loopI (fun mm a w=>∃(i:Nat) (bv:Value) (acc:Bs),mm=(l.drop 1).length - i∧EnvR 75 [(1,.string sep),(8,.pointer (some ⟨b34,0,none⟩)),(63,qval b (qoff off cap) (cap - 1) (l.drop 1)),(64,.int .i64 (((l.drop 1).length:Nat):Int)),(65,.int .i64 ((i:Nat):Int))] [] a∧Mem Φ (.blk b34 (ob [.pointer (some ⟨b34,0,none⟩),bv] 130)::.gs (bv) 5 1 (Lib.strCells acc)::qblk b arr::K) w∧(joinP sep l=((l.drop 1).drop i).foldl (fun a s=>a++sep++s) acc∧acc.size+lens ((l.drop 1).drop i)+sep.size * ((l.drop 1).length - i)≤70368744177664)) ((l.drop 1).length - 0) ⟨0,y42,(⟨#[]⟩++x40),rfl,he.pk,hm,(join_head hx41 hb)⟩ ?_
 clear hm he
 rintro mm a w ⟨i,bv,acc,hmu,he,hm,hI48⟩ L47 hL47
 obtain ⟨hI48,hsz_⟩:=hI48
 refine go he hm fun a he =>?_
 by_cases h50:i < (l.drop 1).length
 refine go he hm fun a he =>?_
 obtain ⟨x54,hx55⟩:=at_of_lt h50
 refine Qq he hm (fun a he =>?_) (o:=by exact fun _ _ _ he hs=>y_load_qi 2 i he hs hq46 rfl rfl hx55 Tryz.isAgg9)
 replace hm:=hm.ar [] [1,1]
 refine CallY Tryz.call68 he hm (fun y57 w hG58 hm a he =>?_) (c:=writeString_ok (t:=acc) (s:=sep) (.inr rfl) (by have h1_:sep.size≤sep.size * ((l.drop 1).length - i):=Nat.le_mul_of_pos_right _ (by omega);omega) hm)
 replace hm:=hm.nf
 replace hm:=hm.ar [] [1,1]
 refine CallY Tryz.call68 he hm (fun y59 w hG60 hm a he =>?_) (c:=writeString_ok (t:=(acc++sep)) (s:=x54) (.inr rfl) (by have h1_:sep.size≤sep.size * ((l.drop 1).length - i):=Nat.le_mul_of_pos_right _ (by omega);have h2_:=lens_drop hx55;rw [app_size];omega) hm)
 replace hm:=hm.nf
 refine go he hm fun a he =>?_
 refine hL47 _ _ _ (by subst hmu;omega) ⟨(i+1),(y59),(((acc++sep)++x54)),rfl,he.pk,hm,?_⟩
 exact join_step hx55 hI48 hsz_
 replace hm:=hm.ar [] [1,1]
 refine CallR Tryz.call72 he hm (fun w hm a he =>?_) (c:=builderString_ok (t:=acc) hm)
 replace hm:=hm.nf
 refine Ret1 hQ he hm ?_
 rw [hI48,drop_end h50]
 exact ⟨rfl,hm⟩
 refine go he hm fun a he =>?_
 have hn0_:0≤sep.size * l.length+lens (l.take 0):=by have h_:=Nat.mul_le_mul_left sep.size (show l.length - 1≤l.length by omega);omega
 refine go he hm fun a he =>?_
 refine loopI (fun mm a w=>∃(i:Nat) (n:Nat),mm=l.length - i∧EnvR 75 [(0,qval b off cap l),(1,.string sep),(5,.int .i64 ((n:Nat):Int)),(39,qval b off cap l),(40,.int .i64 ((l.length:Nat):Int)),(41,.int .i64 ((i:Nat):Int))] [] a∧Mem Φ (qblk b arr::K) w∧(n≤sep.size * l.length+lens (l.take i))) (l.length - 0) ⟨0,0,rfl,he.pk,hm,hn0_⟩ ?_
 clear hm he
 rintro mm a w ⟨i,n,hmu,he,hm,hI66⟩ L65 hL65
 refine go he hm fun a he =>?_
 by_cases h68:i < l.length
 refine go he hm fun a he =>?_
 obtain ⟨x72,hx73⟩:=at_of_lt h68
 refine Qq he hm (fun a he =>?_) (o:=by exact fun _ _ _ he hs=>y_load_qi 0 i he hs hq rfl rfl hx73 Tryz.isAgg9)
 refine go he hm fun a he =>?_
 have hnb_:n+x72.size≤140737488355328:=by have h0_:=hI66;have h1_:=lens_split l i;have h2_:=lens_drop hx73;omega
 refine Qq he hm (fun a he =>?_) (o:=by exact fun _ _ _ he hs=>y_sub (((9223372036854775807 - n):Nat):Int) he rfl rfl (by rw [wrap64 (by omega)];omega))
 have hov_:¬(9223372036854775807 - n) < x72.size:=by omega
 refine Qq he hm (fun a he =>?_) (o:=by exact fun _ _ _ he hs=>y_inc (i:=n) (j:=x72.size) he rfl rfl (by omega))
 refine go he hm fun a he =>?_
 refine hL65 _ _ _ (by subst hmu;omega) ⟨(i+1),((n+x72.size)),rfl,he.pk,hm,?_⟩
 rw [lens_take hx73];omega
 refine Alc he hm fun b78 w hm a he =>?_
 refine CallY Tryz.call119 he hm (fun y80 w hG81 hm a he =>?_) (c:=growB_ok (n:=n) (by have h1_:=hI66;have h2_:=lens_split l i;omega) hm)
 replace hm:=hm.nf
 refine go he hm fun a he =>?_
 have hb83:0 < l.length:=by omega
 obtain ⟨x84,hx85⟩:=at_of_lt hb83
 refine Qq he hm (fun a he =>?_) (o:=by exact fun _ _ _ he hs=>y_load_qi 2 0 he hs hq rfl rfl hx85 Tryz.isAgg9)
 replace hm:=hm.ar [] [1,1]
 refine CallY Tryz.call68 he hm (fun y86 w hG87 hm a he =>?_) (c:=writeString_ok (t:=⟨#[]⟩) (s:=x84) (.inr rfl) (by have h0_:(⟨#[]⟩:Bs).size=0:=rfl;have h1_:=lens_split l 0;have h2_:=lens_drop hx85;omega) hm)
 replace hm:=hm.nf
 refine go he hm fun a he =>?_
 have hq90:=hq.tail hb83
 refine Qq he hm (fun a he =>?_) (o:=by exact fun _ _ _ he hs=>y_slice_q he hq rfl rfl Tryz.runUnderlying25 Tryz.sizeOf9 hb83)
 refine go he hm fun a he =>?_
 refine loopI (fun mm a w=>∃(i:Nat) (bv:Value) (acc:Bs),mm=(l.drop 1).length - i∧EnvR 75 [(1,.string sep),(8,.pointer (some ⟨b78,0,none⟩)),(63,qval b (qoff off cap) (cap - 1) (l.drop 1)),(64,.int .i64 (((l.drop 1).length:Nat):Int)),(65,.int .i64 ((i:Nat):Int))] [] a∧Mem Φ (.blk b78 (ob [.pointer (some ⟨b78,0,none⟩),bv] 130)::.gs (bv) 5 1 (Lib.strCells acc)::qblk b arr::K) w∧(joinP sep l=((l.drop 1).drop i).foldl (fun a s=>a++sep++s) acc∧acc.size+lens ((l.drop 1).drop i)+sep.size * ((l.drop 1).length - i)≤70368744177664)) ((l.drop 1).length - 0) ⟨0,y86,(⟨#[]⟩++x84),rfl,he.pk,hm,(join_head hx85 hb)⟩ ?_
 clear hm he
 rintro mm a w ⟨i,bv,acc,hmu,he,hm,hI92⟩ L91 hL91
 obtain ⟨hI92,hsz_⟩:=hI92
 refine go he hm fun a he =>?_
 by_cases h94:i < (l.drop 1).length
 refine go he hm fun a he =>?_
 obtain ⟨x98,hx99⟩:=at_of_lt h94
 refine Qq he hm (fun a he =>?_) (o:=by exact fun _ _ _ he hs=>y_load_qi 2 i he hs hq90 rfl rfl hx99 Tryz.isAgg9)
 replace hm:=hm.ar [] [1,1]
 refine CallY Tryz.call68 he hm (fun y101 w hG102 hm a he =>?_) (c:=writeString_ok (t:=acc) (s:=sep) (.inr rfl) (by have h1_:sep.size≤sep.size * ((l.drop 1).length - i):=Nat.le_mul_of_pos_right _ (by omega);omega) hm)
 replace hm:=hm.nf
 replace hm:=hm.ar [] [1,1]
 refine CallY Tryz.call68 he hm (fun y103 w hG104 hm a he =>?_) (c:=writeString_ok (t:=(acc++sep)) (s:=x98) (.inr rfl) (by have h1_:sep.size≤sep.size * ((l.drop 1).length - i):=Nat.le_mul_of_pos_right _ (by omega);have h2_:=lens_drop hx99;rw [app_size];omega) hm)
 replace hm:=hm.nf
 refine go he hm fun a he =>?_
 refine hL91 _ _ _ (by subst hmu;omega) ⟨(i+1),(y103),(((acc++sep)++x98)),rfl,he.pk,hm,?_⟩
 exact join_step hx99 hI92 hsz_
 replace hm:=hm.ar [] [1,1]
 refine CallR Tryz.call72 he hm (fun w hm a he =>?_) (c:=builderString_ok (t:=acc) hm)
 replace hm:=hm.nf
 refine Ret1 hQ he hm ?_
 rw [hI92,drop_end h94]
 exact ⟨rfl,hm⟩
theorem joinNil_ok {Φ:Fz} {K:List Res} {w:World} {p:Option Addr} {c:Nat} {sep:Bs} (hm:Mem Φ K w) :
  Calls Tryz.prog 67 (List.toArray [.slice p 0 c,.string sep]) w (fun ee w'=>ee=.returned (.string ⟨#[]⟩)∧Mem Φ K w'):=by
 refine Enter Tryz.func67 Tryz.ntmps67 fun Q hQ a he =>?_
 refine Qq he hm (fun a he =>?_) (o:=by exact fun _ _ _ he hs=>y_ieql true he rfl rfl rfl)
 refine Ret1 hQ he hm ?_
 exact ⟨rfl,hm⟩
theorem joinG_ok {Φ:Fz} {K:List Res} {w:World} {v:Value} {l:List Bs} {sep:Bs} (hb:lens l+sep.size * l.length≤70368744177664) (hm:Mem Φ (.gs v 9 1 (strs l)::K) w) :
  Calls Tryz.prog 67 (List.toArray [v,.string sep]) w (fun ee w'=>ee=.returned (.string (joinP sep l))∧Mem Φ K w'):=by
 by_cases hl:l=[]
 subst hl
 obtain ⟨p0,m0,c0,rfl,h0,_⟩:=hm.toSees.gsForm (i:=0) rfl
 have e0_:m0=0:=by simpa [strs] using h0.symm
 subst e0_
 exact joinNil_ok hm.tail
 obtain ⟨b,cap,arr,rfl,hq,hm⟩:=gs_queue (i:=0) hm rfl hl
 exact (joinQ_ok hq hb hm).mono fun e w' h=>⟨h.1,h.2.tail⟩
end Go.Sw

namespace Go.Sw
def ofTx (l:Tx):Bs:=⟨l.toArray⟩
theorem ofTx_append (a b:Tx):ofTx (a++b)=ofTx a++ofTx b:=by
 apply ByteArray.ext
 simp only [ofTx,ByteArray.data_append]
 apply Array.ext';simp
theorem ofTx_tx (s:Bs):ofTx (tx s)=s:=by
 apply ByteArray.ext;simp [ofTx,tx]
theorem ofTx_size (l:Tx):(ofTx l).size=l.length:=by
 show l.toArray.size=_;simp
theorem tx_size (s:Bs):(tx s).length=s.size:=by
 simp only [tx,Array.length_toList];rfl
def wB (e:Ex):Bs:=ofTx (writeP e)
def wsB (l:List Ex):Bs:=ofTx (writePs l)
theorem writePs_drop {l:List Ex} {i:Nat} {x:Ex} (h:l[i]? = some x):writePs (l.drop i)=32::writeP x++writePs (l.drop (i+1)):=by rw [drop_cons h];rfl
theorem writePs_end {l:List Ex} {i:Nat} (h:¬i < l.length):writePs (l.drop i)=[]:=by rw [drop_end h];rfl
theorem writePa_cons (a:Arm) (l:List Arm):writePa (a::l)=[32,40]++(tx a.con++(a.vars.map fun v=>32::tx v).flatten)++[32,45,62,32]++writeP a.body++[41]++writePa l:=by
 cases a;rfl
section
variable {e:Ex}
theorem write_num (h:e.kind=1):writeP e=itoaL e.num:=by cases e;simp only [Ex.kind] at h;subst h;rfl
theorem write_var (h:e.kind=2):writeP e=tx e.name:=by cases e;simp only [Ex.kind] at h;subst h;rfl
theorem write_inp (h:e.kind=3):writeP e=33::tx e.name:=by cases e;simp only [Ex.kind] at h;subst h;rfl
theorem write_con0 (h:e.kind=4) (ha:e.args.length=0):writeP e=tx e.name:=by
 cases e with
 | mk k n s args arms =>
  simp only [Ex.kind] at h;subst h
  have:args=[]:=List.eq_nil_of_length_eq_zero ha
  subst this;rfl
theorem write_con (h:e.kind=4) (ha:¬e.args.length=0):writeP e=40::tx e.name++writePs e.args++[41]:=by
 cases e with
 | mk k n s args arms =>
  simp only [Ex.kind] at h;subst h
  cases args with
  | nil=>exact absurd rfl ha
  | cons a l=>rfl
theorem write_let (h:e.kind=6):writeP e=40::([108,101,116,32]++tx e.name)++writePs e.args++[41]:=by cases e;simp only [Ex.kind] at h;subst h;rfl
theorem write_case (h:e.kind=7):writeP e=[40,99,97,115,101,32]++writeH e.args++writePa e.arms++[41]:=by cases e;simp only [Ex.kind] at h;subst h;rfl
theorem write_other (h1:¬e.kind=1) (h2:¬e.kind=2) (h3:¬e.kind=3) (h4:¬e.kind=4) (h6:¬e.kind=6) (h7:¬e.kind=7):writeP e=40::tx e.name++writePs e.args++[41]:=by
 cases e with
 | mk k n s args arms =>
  simp only [Ex.kind] at *
  simp only [writeP,if_neg h1,if_neg h2,if_neg h3,if_neg h4,if_neg h6,if_neg h7];rfl
end
theorem join_sp:∀(x:Bs) (l:List Bs),tx (joinP ⟨#[32]⟩ (x::l))=tx x++(l.map fun v=>32::tx v).flatten
 | x,l=>by
  have:∀(l:List Bs) (a:Bs),tx (l.foldl (fun a s=>a++⟨#[32]⟩++s) a)=tx a++(l.map fun v=>32::tx v).flatten:=by
   intro l
   induction l with
   | nil=>intro a;simp
   | cons y l ih =>
    intro a
    rw [List.foldl_cons,ih]
    simp [tx,ByteArray.data_append,List.append_assoc]
  exact this l x
theorem digsR_dec:∀(f n:Nat),n < f→(digsR f n).reverse=Lib.decDigits n
 | 0,_,h=>by omega
 | f+1,n,h=>by
  rw [Lib.decDigits]
  simp only [digsR]
  by_cases hn:n < 10
  ·rw [if_pos hn,dif_pos hn];rfl
  ·rw [if_neg hn,dif_neg hn,List.reverse_cons,digsR_dec f (n / 10) (by omega)];try rfl
theorem itoa_eq (n:Int):Lib.itoa n=itoaL n:=by
 have h:∀u,digsL u=Lib.decDigits u:=fun u=>digsR_dec (u+1) u (Nat.lt_succ_self _)
 unfold Lib.itoa itoaL
 split
 ·rw [h,show n.natAbs=(-n).toNat by omega]
 ·rw [h]
theorem itoaP_eq (n:Int):itoaP n=ofTx (itoaL n):=by unfold itoaP ofTx;rw [itoa_eq]
theorem wB_size (e:Ex):(wB e).size=(writeP e).length:=ofTx_size _
def formB (op:Bs) (l:List Ex):Bs:=ofTx (40::tx op++writePs l++[41])
theorem w1_start (t op:Bs) (l:List Ex):(t++(⟨#[40]⟩++op))++ofTx (writePs l++[41])=t++formB op l:=by (apply ByteArray.ext;apply Array.ext';simp [formB,wB,wsB,ofTx,tx,ByteArray.data_append,List.append_assoc])
theorem w1_step {acc F:Bs} {l:List Ex} {i:Nat} {x:Ex} (hx:l[i]? = some x) (h:acc++ofTx (writePs (l.drop i)++[41])=F):((acc++⟨#[32]⟩)++wB x)++ofTx (writePs (l.drop (i+1))++[41])=F:=by
 rw [← h,writePs_drop hx];(apply ByteArray.ext;apply Array.ext';simp [formB,wB,wsB,ofTx,tx,ByteArray.data_append,List.append_assoc])
theorem w1_end {acc F:Bs} {l:List Ex} {i:Nat} (hi:¬i < l.length) (h:acc++ofTx (writePs (l.drop i)++[41])=F):acc++⟨#[41]⟩=F:=by
 rw [← h,writePs_end hi];(apply ByteArray.ext;apply Array.ext';simp [formB,wB,wsB,ofTx,tx,ByteArray.data_append,List.append_assoc])
theorem w1_size {acc F:Bs} {l:Tx} (h:acc++ofTx l=F):acc.size+l.length=F.size:=by rw [← h,app_size,ofTx_size]
mutual
def wfE:Ex→Bool
 | .mk k n s args arms=>(decide (k≠7) || decide (0 < args.length))&&wfEs args&&wfEa arms&&decide (s.size≤24)&&decide ((itoaL n).length≤24)
def wfEs:List Ex→Bool
 | []=>true
 | e::es=>wfE e&&wfEs es
def wfEa:List Arm→Bool
 | []=>true
 | .mk c vs b::es=>wfE b&&wfEa es&&decide (c.size≤24)&&vs.all (fun v=>decide (v.size≤24))
end
theorem wfEs_mem:∀{l:List Ex},wfEs l=true→∀x∈l,wfE x=true
 | [],_,x,h=>by cases h
 | y::l,h,x,hx=>by
  simp only [wfEs,Bool.and_eq_true] at h
  rcases List.mem_cons.1 hx with rfl | hx
  ·exact h.1
  ·exact wfEs_mem h.2 x hx
theorem wfEa_mem:∀{l:List Arm},wfEa l=true→∀a∈l,wfE a.body=true
 | [],_,x,h=>by cases h
 | .mk c v b::l,h,x,hx=>by
  simp only [wfEa,Bool.and_eq_true] at h
  rcases List.mem_cons.1 hx with rfl | hx
  ·exact h.1.1.1
  ·exact wfEa_mem h.1.1.2 x hx
theorem wfE_sub {e:Ex} (h:wfE e=true):(e.kind=7→0 < e.args.length)∧(∀x∈e.args,wfE x=true)∧∀a∈e.arms,wfE a.body=true:=by
 cases e with
 | mk k n s args arms =>
  simp only [wfE,Bool.and_eq_true,Bool.or_eq_true,decide_eq_true_eq] at h
  exact ⟨fun hk=>h.1.1.1.1.resolve_left (fun hn=>hn hk),wfEs_mem h.1.1.1.2,wfEa_mem h.1.1.2⟩
theorem join_len (x:Bs) (l:List Bs):lens (x::l)+(⟨#[32]⟩:Bs).size * (x::l).length=(tx x++(l.map fun v=>32::tx v).flatten).length+1:=by
 have h1:(⟨#[32]⟩:Bs).size=1:=rfl
 rw [h1,lens_cons,List.length_append,tx_size,List.length_cons]
 have:∀l:List Bs,(l.map fun v=>32::tx v).flatten.length=lens l+l.length:=by
  intro l
  induction l with
  | nil=>rfl
  | cons y l ih=>rw [List.map_cons,List.flatten_cons,List.length_append,ih,lens_cons,List.length_cons,List.length_cons,tx_size];omega
 rw [this];omega
def armB (a:Arm):Bs:=((((⟨#[32,40]⟩:Bs)++joinP ⟨#[32]⟩ (a.con::a.vars))++⟨#[32,45,62,32]⟩)++wB a.body)++⟨#[41]⟩
theorem armB_eq (a:Arm) (l:List Arm):armB a++ofTx (writePa l)=ofTx (writePa (a::l)):=by
 rw [writePa_cons]
 have h:=join_sp a.con a.vars
 have h2:ofTx (tx a.con++(a.vars.map fun v=>32::tx v).flatten)=joinP ⟨#[32]⟩ (a.con::a.vars):=by rw [← h,ofTx_tx]
 simp only [ofTx_append,armB,wB]
 rw [← ofTx_append (tx a.con),h2]
 rfl
section
variable {e:Ex}
theorem wB_num (h:e.kind=1):itoaP e.num=wB e:=by unfold wB;rw [write_num h,itoaP_eq]
theorem wB_var (h:e.kind=2):e.name=wB e:=by unfold wB;rw [write_var h,ofTx_tx]
theorem wB_inp (h:e.kind=3):(⟨#[33]⟩:Bs)++e.name=wB e:=by unfold wB;rw [write_inp h];(apply ByteArray.ext;apply Array.ext';simp [formB,wB,wsB,ofTx,tx,ByteArray.data_append,List.append_assoc])
theorem wB_con0 (h:e.kind=4) (ha:e.args.length=0):e.name=wB e:=by unfold wB;rw [write_con0 h ha,ofTx_tx]
theorem wB_con (h:e.kind=4) (ha:¬e.args.length=0):formB e.name e.args=wB e:=by unfold wB formB;rw [write_con h ha]
theorem wB_let (h:e.kind=6):formB ((⟨#[108,101,116,32]⟩:Bs)++e.name) e.args=wB e:=by unfold wB formB;rw [write_let h];(apply ByteArray.ext;apply Array.ext';simp [formB,wB,wsB,ofTx,tx,ByteArray.data_append,List.append_assoc])
theorem wB_other (h1:¬e.kind=1) (h2:¬e.kind=2) (h3:¬e.kind=3) (h4:¬e.kind=4) (h6:¬e.kind=6) (h7:¬e.kind=7):formB e.name e.args=wB e:=by
 unfold wB formB;rw [write_other h1 h2 h3 h4 h6 h7]
theorem wc_start {t:Bs} {a:Ex} (h:e.kind=7) (ha:e.args[0]? = some a):((t++(⟨#[40,99,97,115,101,32]⟩:Bs))++wB a)++ofTx (writePa e.arms++[41])=t++wB e:=by
 have h1:writeH e.args=writeP a:=by
  cases hl:e.args with
  | nil=>rw [hl] at ha;simp at ha
  | cons x l=>rw [hl] at ha;simp only [List.getElem?_cons_zero,Option.some.injEq] at ha;subst ha;rfl
 have h2:wB e=ofTx ([40,99,97,115,101,32]++writeP a++writePa e.arms++[41]):=by unfold wB;rw [write_case h,h1]
 rw [h2];(apply ByteArray.ext;apply Array.ext';simp [formB,wB,wsB,ofTx,tx,ByteArray.data_append,List.append_assoc])
end
theorem wc_step {acc F:Bs} {l:List Arm} {i:Nat} {x:Arm} (hx:l[i]? = some x) (h:acc++ofTx (writePa (l.drop i)++[41])=F) :
  (((acc++(((⟨#[32,40]⟩:Bs)++joinP (⟨#[32]⟩:Bs) (x.con::x.vars))++(⟨#[32,45,62,32]⟩:Bs)))++wB x.body)++⟨#[41]⟩)++ofTx (writePa (l.drop (i+1))++[41])=F:=by
 rw [← h,drop_cons hx,ofTx_append (writePa (x::_)),← armB_eq,ofTx_append]
 unfold armB;simp only [ByteArray.append_assoc]
theorem wc_end {acc F:Bs} {l:List Arm} {i:Nat} (hi:¬i < l.length) (h:acc++ofTx (writePa (l.drop i)++[41])=F):acc++⟨#[41]⟩=F:=by
 rw [← h,drop_end hi];(apply ByteArray.ext;apply Array.ext';simp [formB,wB,wsB,ofTx,tx,ByteArray.data_append,List.append_assoc]);rfl
theorem arm_len {l:List Arm} {i:Nat} {x:Arm} (hx:l[i]? = some x):(writePa (l.drop i)).length=(armB x).size+(writePa (l.drop (i+1))).length:=by
 have:=congrArg ByteArray.size (armB_eq x (l.drop (i+1)))
 rw [drop_cons hx]
 rw [app_size,ofTx_size,ofTx_size] at this
 exact this.symm
theorem armB_size (a:Arm):(armB a).size=2+(joinP ⟨#[32]⟩ (a.con::a.vars)).size+4+(wB a.body).size+1:=by
 simp only [armB,app_size];rfl
theorem joinP_size (x:Bs) (l:List Bs):lens (x::l)+(⟨#[32]⟩:Bs).size * (x::l).length=(joinP ⟨#[32]⟩ (x::l)).size+1:=by
 rw [join_len,← join_sp,tx_size]
theorem formB_size (op:Bs) (l:List Ex):(formB op l).size=2+op.size+(writePs l).length:=by
 unfold formB;rw [ofTx_size];simp only [List.length_append,List.length_cons,List.length_nil,tx_size];omega
theorem vars_len:∀{vs:List Bs},(vs.all fun v=>decide (v.size≤24))=true→(vs.map fun v=>32::tx v).flatten.length≤25 * vs.length
 | [],_=>by simp
 | v::vs,h=>by
  simp only [List.all_cons,Bool.and_eq_true,decide_eq_true_eq] at h
  have:=vars_len h.2
  simp only [List.map_cons,List.flatten_cons,List.length_append,List.length_cons,tx_size];omega
mutual
theorem write_short:∀(e:Ex) (l:Int),wfE e=true→(meas e l).1=false→((writeP e).length:Int)≤500 * (l - (meas e l).2) - 440
 | .mk k n s args arms,l=>by
  intro hw h
  simp only [wfE,Bool.and_eq_true,decide_eq_true_eq] at hw
  obtain ⟨⟨⟨⟨_,ha⟩,hb⟩,hs⟩,hn⟩:=hw
  simp only [meas] at h ⊢
  split at h
  ·cases h
  ·rename_i hl
   rw [if_neg hl]
   cases hm:meass args (l - 1) with
   | mk b q =>
    rw [hm] at h
    cases b with
    | true=>cases h
    | false =>
     have k1:=writes_short args (l - 1) ha (by rw [hm])
     have k2:=writea_short arms q hb h
     rw [hm] at k1
     simp only at k1 ⊢
     have k3:(writeH args).length≤(writePs args).length:=by
      cases args with
      | nil=>simp [writeH,writePs]
      | cons x xs=>simp only [writeH,writePs,List.length_append,List.length_cons];omega
     have k4:=tx_size s
     have k5:=meass_le args (l - 1) (by rw [hm]) (by omega)
     rw [hm] at k5
     have k6:=measa_le arms q h (by simp only at k5;omega)
     simp only at k5
     simp only [writeP]
     split
     ·omega
     split
     ·omega
     split
     ·simp only [List.length_cons];omega
     split
     ·cases args with
      | nil=>simp only;omega
      | cons x xs=>simp only [List.length_append,List.length_cons,List.length_nil];omega
     split
     ·simp only [List.length_append,List.length_cons,List.length_nil];omega
     split
     ·simp only [List.length_append,List.length_cons,List.length_nil];omega
     ·simp only [List.length_append,List.length_cons,List.length_nil];omega
theorem writes_short:∀(es:List Ex) (l:Int),wfEs es=true→(meass es l).1=false→((writePs es).length:Int)≤500 * (l - (meass es l).2)
 | [],l=>by intro _ _;simp [writePs,meass]
 | e::es,l=>by
  intro hw h
  simp only [wfEs,Bool.and_eq_true] at hw
  simp only [meass] at h ⊢
  cases hm:meas e l with
  | mk b q =>
   rw [hm] at h
   cases b with
   | true=>cases h
   | false =>
    have k1:=write_short e l hw.1 (by rw [hm])
    have k2:=writes_short es q hw.2 h
    rw [hm] at k1
    simp only [writePs,List.length_append,List.length_cons] at k1 ⊢
    omega
theorem writea_short:∀(es:List Arm) (l:Int),wfEa es=true→(measa es l).1=false→((writePa es).length:Int)≤500 * (l - (measa es l).2)
 | [],l=>by intro _ _;simp [writePa,measa]
 | .mk c vs b::es,l=>by
  intro hw h
  simp only [wfEa,Bool.and_eq_true,decide_eq_true_eq] at hw
  simp only [measa] at h ⊢
  split at h
  ·cases h
  ·rename_i hv
   rw [if_neg hv]
   cases hm:meas b l with
   | mk q0 q =>
    rw [hm] at h
    cases q0 with
    | true=>cases h
    | false =>
     have k1:=write_short b l hw.1.1.1 (by rw [hm])
     have k2:=writea_short es q hw.1.1.2 h
     have k3:=vars_len hw.2
     rw [hm] at k1
     simp only [writePa,List.length_append,List.length_cons,List.length_nil,tx_size] at k1 ⊢
     omega
end
end Go.Sw

namespace Go.Sw
open Go.Proofs
set_option maxRecDepth 20000
set_option maxHeartbeats 4000000
theorem write1_ok {Φ:Fz} {K:List Res} {w:World} {b bb:Nat} {v va:Value} {bp:Option Addr} {t op:Bs} {l:List Ex} (ih:∀x:Ex,x∈l→∀{Φ:Fz} {K:List Res} {w:World} {d:List Value} {b:Nat} {v:Value} {bp:Option Addr} {t:Bs},REx Φ d x→(bp=none∨bp=some ⟨b,0,none⟩)→Tabs Φ→t.size+(writeP x).length≤8796093022208→Mem Φ (.blk b (ob [.pointer bp,v] 130)::.gs v 5 1 (Lib.strCells t)::K) w→Calls Tryz.prog 69 (List.toArray [.pointer (some ⟨b,0,none⟩),.agg d.toArray]) w (fun ee w'=>∃v2,ee=.returned (.tuple #[])∧True∧Mem Φ (.blk b (ob [.pointer (some ⟨b,0,none⟩),v2] 130)::.gs v2 5 1 (Lib.strCells (t++wB x))::K) w')) (rl:SliceOf REx Φ 5 va l) (hp:bp=none∨bp=some ⟨b,0,none⟩) (G:Tabs Φ) (hb:t.size+(formB op l).size≤8796093022208) (hm:Mem Φ (.blk bb (ob [.pointer (some ⟨b,0,none⟩)] 127)::.blk b (ob [.pointer bp,v] 130)::.gs v 5 1 (Lib.strCells t)::K) w) :
  Calls Tryz.prog 121 (List.toArray [.string op,va,.pointer (some ⟨bb,0,none⟩)]) w (fun ee w'=>∃v2,ee=.returned (.tuple #[])∧True∧Mem Φ (.blk bb (ob [.pointer (some ⟨b,0,none⟩)] 127)::.blk b (ob [.pointer (some ⟨b,0,none⟩),v2] 130)::.gs v2 5 1 (Lib.strCells (t++formB op l))::K) w'):=by
 obtain ⟨p1,c1,rfl,hm1,hn1⟩:=rl.fm
 refine Enter Tryz.func121 Tryz.ntmps121 fun Q hQ a he =>?_
 refine Qq he hm (fun a he =>?_) (o:=by exact fun _ _ _ he hs=>y_sadd he rfl rfl (by have h1_:=w1_size (w1_start t op l);rw [app_size,app_size] at h1_;have h2_:(⟨#[40]⟩:Bs).size=1:=rfl;have hF_:(t++formB op l).size=t.size+(formB op l).size:=app_size _ _;omega))
 replace hm:=hm.ar [] [2,2]
 refine CallY Tryz.call68 he hm (fun y2 w hG3 hm a he =>?_) (c:=writeString_ok (t:=t) (s:=((⟨#[40]⟩:ByteArray)++op)) hp (by have hF_:(t++formB op l).size=t.size+(formB op l).size:=app_size _ _;have h1_:=w1_size (w1_start t op l);rw [app_size,app_size] at h1_;have h2_:(⟨#[40]⟩:Bs).size=1:=rfl;rw [app_size];omega) hm)
 replace hm:=hm.nf
 refine go he hm fun a he =>?_
 refine loopK (he.ks [2,11,12]) hm (fun R mm a w=>∃(i:Nat) (bv:Value) (acc:Bs),mm=l.length - i∧R Φ [(13,.int .i64 ((i:Nat):Int))] [(0,.blk b (ob [.pointer (some ⟨b,0,none⟩),bv] 130)),(1,.gs (bv) 5 1 (Lib.strCells acc))] a w∧(acc++ofTx (writePs (l.drop i)++[41])=t++formB op l)) (l.length - 0) ⟨0,y2,(t++((⟨#[40]⟩:ByteArray)++op)),rfl,⟨he.pk,hm⟩,w1_start t op l⟩ ?_
 clear hm he
 rintro mm a w ⟨i,bv,acc,hmu,⟨he,hm⟩,hI7⟩ L6 hL6
 replace hm:=hm.nf
 refine go he hm fun a he =>?_
 by_cases h9:i < l.length
 refine go he hm fun a he =>?_
 obtain ⟨q13,rfl,x14,hx15,cs16,hl17,ha18,hr19⟩:=rl.el hn1 h9
 obtain ⟨p22,c23,p28,c29,rfl,hi32,h21,h27,hm24,hn25,hm30,hn31⟩:=REx.fm hr19
 refine Alc he hm fun b33 w hm a he =>?_
 refine Sto 0 he hm fun w hm a he =>?_
 replace hm:=hm.ar [] [2,2]
 refine CallY Tryz.call70 he hm (fun y35 w hG36 hm a he =>?_) (c:=writeByte_ok (t:=acc) (c:=32) (.inr rfl) (by have hF_:(t++formB op l).size=t.size+(formB op l).size:=app_size _ _;have h1_:=w1_size hI7;simp only [List.length_append,List.length_cons,List.length_nil] at h1_;omega) hm)
 replace hm:=hm.nf
 replace hm:=hm.ar [] [1,1]
 refine CallY Tryz.call69 he hm (fun y37 w hG38 hm a he =>?_) (c:=ih _ (List.mem_of_getElem? hx15) (t:=(acc++⟨#[32]⟩)) hr19 (.inr rfl) G (by have hF_:(t++formB op l).size=t.size+(formB op l).size:=app_size _ _;have h1_:=w1_size hI7;rw [writePs_drop hx15] at h1_;simp only [List.length_append,List.length_cons,List.length_nil] at h1_;have h2_:(⟨#[32]⟩:Bs).size=1:=rfl;rw [app_size];omega) hm)
 replace hm:=hm.nf
 refine go he hm fun a he =>?_
 replace hm:=hm.dl [2]
 refine hL6 _ _ _ (by subst hmu;omega) ⟨(i+1),(y37),(((acc++⟨#[32]⟩)++wB x14)),rfl,⟨he.pk,by exact hm⟩,?_⟩
 exact w1_step hx15 hI7
 replace hm:=hm.ar [] [1,1]
 refine CallY Tryz.call70 he hm (fun y40 w hG41 hm a he =>?_) (c:=writeByte_ok (t:=acc) (c:=41) (.inr rfl) (by have hF_:(t++formB op l).size=t.size+(formB op l).size:=app_size _ _;have h1_:=w1_size hI7;simp only [List.length_append,List.length_cons,List.length_nil] at h1_;omega) hm)
 replace hm:=hm.nf
 refine go he hm fun a he =>?_
 replace hm:=hm.ar [] [1,1,2]
 refine hQ _ _ _ (ret0N he Tryz.results121 ?_)
 refine ⟨y40,rfl,trivial,?_⟩
 rw [← w1_end h9 hI7];exact hm
end Go.Sw

namespace Go.Sw
open Go.Proofs
set_option maxRecDepth 20000
set_option maxHeartbeats 4000000
theorem write_step {Φ:Fz} {K:List Res} {w:World} {d:List Value} {e:Ex} {b:Nat} {v:Value} {bp:Option Addr} {t:Bs} (ih:∀x:Ex,x.sz < e.sz→wfE x=true→∀{Φ:Fz} {K:List Res} {w:World} {d:List Value} {b:Nat} {v:Value} {bp:Option Addr} {t:Bs},REx Φ d x→(bp=none∨bp=some ⟨b,0,none⟩)→Tabs Φ→t.size+(writeP x).length≤8796093022208→Mem Φ (.blk b (ob [.pointer bp,v] 130)::.gs v 5 1 (Lib.strCells t)::K) w→Calls Tryz.prog 69 (List.toArray [.pointer (some ⟨b,0,none⟩),.agg d.toArray]) w (fun ee w'=>∃v2,ee=.returned (.tuple #[])∧True∧Mem Φ (.blk b (ob [.pointer (some ⟨b,0,none⟩),v2] 130)::.gs v2 5 1 (Lib.strCells (t++wB x))::K) w')) (hwf:wfE e=true) (re:REx Φ d e) (hp:bp=none∨bp=some ⟨b,0,none⟩) (G:Tabs Φ) (hb:t.size+(writeP e).length≤8796093022208) (hm:Mem Φ (.blk b (ob [.pointer bp,v] 130)::.gs v 5 1 (Lib.strCells t)::K) w) :
  Calls Tryz.prog 69 (List.toArray [.pointer (some ⟨b,0,none⟩),.agg d.toArray]) w (fun ee w'=>∃v2,ee=.returned (.tuple #[])∧True∧Mem Φ (.blk b (ob [.pointer (some ⟨b,0,none⟩),v2] 130)::.gs v2 5 1 (Lib.strCells (t++wB e))::K) w'):=by
 obtain ⟨p3,c4,p9,c10,rfl,hi13,h2,h8,hm5,hn6,hm11,hn12⟩:=REx.fm re
 refine Enter Tryz.func69 Tryz.ntmps69 fun Q hQ a he =>?_
 refine Bx he hm fun b15 w hm a he =>?_
 refine Bx he hm fun b16 w hm a he =>?_
 refine go he hm fun a he =>?_
 by_cases h20:e.kind=1
 refine Reg [2,1,2,0,0] [0,1] he hm fun w hm a he =>?_
 have hq_:=congrArg ByteArray.size (wB_num h20)
 have hz_:=wB_size e
 refine CallR Tryz.call122 he hm (fun w hm a he =>?_) (c:=itoa_ok (by obtain ⟨_,_,_,h_,_⟩:=REx.iff.1 re;exact h_) G hm)
 replace hm:=hm.ar [] [3,3]
 refine CallY Tryz.call68 he hm (fun y21 w hG22 hm a he =>?_) (c:=writeString_ok (t:=t) (s:=(itoaP e.num)) hp (by omega) hm)
 replace hm:=hm.nf
 refine go he hm fun a he =>?_
 replace hm:=hm.dl [3,2]
 refine hQ _ _ _ (ret0N he Tryz.results69 ?_)
 refine ⟨y21,rfl,trivial,?_⟩
 rw [← wB_num h20];exact hm
 refine go he hm fun a he =>?_
 by_cases h24:e.kind=2
 refine go he hm fun a he =>?_
 have hq_:=congrArg ByteArray.size (wB_var h24)
 have hz_:=wB_size e
 replace hm:=hm.ar [] [3,3]
 refine CallY Tryz.call68 he hm (fun y25 w hG26 hm a he =>?_) (c:=writeString_ok (t:=t) (s:=e.name) hp (by omega) hm)
 replace hm:=hm.nf
 refine go he hm fun a he =>?_
 replace hm:=hm.dl [3,2]
 refine hQ _ _ _ (ret0N he Tryz.results69 ?_)
 refine ⟨y25,rfl,trivial,?_⟩
 rw [← wB_var h24];exact hm
 refine go he hm fun a he =>?_
 by_cases h28:e.kind=3
 refine go he hm fun a he =>?_
 have hq_:=congrArg ByteArray.size (wB_inp h28)
 have hz_:=wB_size e
 refine Qq he hm (fun a he =>?_) (o:=by exact fun _ _ _ he hs=>y_sadd he rfl rfl (by rw [app_size] at hq_;omega))
 replace hm:=hm.ar [] [3,3]
 refine CallY Tryz.call68 he hm (fun y29 w hG30 hm a he =>?_) (c:=writeString_ok (t:=t) (s:=((⟨#[33]⟩:ByteArray)++e.name)) hp (by omega) hm)
 replace hm:=hm.nf
 refine go he hm fun a he =>?_
 replace hm:=hm.dl [3,2]
 refine hQ _ _ _ (ret0N he Tryz.results69 ?_)
 refine ⟨y29,rfl,trivial,?_⟩
 rw [← wB_inp h28];exact hm
 refine go he hm fun a he =>?_
 by_cases h32:e.kind=4
 refine go he hm fun a he =>?_
 by_cases h35:e.args.length=0
 refine go he hm fun a he =>?_
 have hq_:=congrArg ByteArray.size (wB_con0 h32 h35)
 have hz_:=wB_size e
 replace hm:=hm.ar [] [3,3]
 refine CallY Tryz.call68 he hm (fun y37 w hG38 hm a he =>?_) (c:=writeString_ok (t:=t) (s:=e.name) hp (by omega) hm)
 replace hm:=hm.nf
 refine go he hm fun a he =>?_
 replace hm:=hm.dl [3,2]
 refine hQ _ _ _ (ret0 he Tryz.results69 ?_)
 refine ⟨y37,rfl,trivial,?_⟩
 rw [← wB_con0 h32 h35];exact hm
 refine go he hm fun a he =>?_
 have hq_:=congrArg ByteArray.size (wB_con h32 h35)
 have hz_:=wB_size e
 refine go he hm fun a he =>?_
 replace hm:=hm.ar [] [3,3,3]
 refine st he rfl rfl rfl (eff_callvY he rfl rfl Tryz.call121 (write1_ok (t:=t) (op:=e.name) (fun x hx _ _ _ _ _ _ _ _ r1 r2 r3 r4 r5=>ih x (Ex.lt_args hx) ((wfE_sub hwf).2.1 x hx) r1 r2 r3 r4 r5) h2 hp G (by omega) hm) (fun y39 w hG40 hm a he =>?_))
 replace hm:=hm.nf
 refine go he hm fun a he =>?_
 replace hm:=hm.dl [3,0]
 refine hQ _ _ _ (ret0N he Tryz.results69 ?_)
 refine ⟨y39,rfl,trivial,?_⟩
 rw [← wB_con h32 h35];exact hm
 refine go he hm fun a he =>?_
 by_cases h42:e.kind=6
 refine go he hm fun a he =>?_
 have hq_:=congrArg ByteArray.size (wB_let h42)
 have hz_:=wB_size e
 refine Qq he hm (fun a he =>?_) (o:=by exact fun _ _ _ he hs=>y_sadd he rfl rfl (by rw [formB_size,app_size] at hq_;omega))
 refine go he hm fun a he =>?_
 replace hm:=hm.ar [] [3,3,3]
 refine st he rfl rfl rfl (eff_callvY he rfl rfl Tryz.call121 (write1_ok (t:=t) (op:=((⟨#[108,101,116,32]⟩:ByteArray)++e.name)) (fun x hx _ _ _ _ _ _ _ _ r1 r2 r3 r4 r5=>ih x (Ex.lt_args hx) ((wfE_sub hwf).2.1 x hx) r1 r2 r3 r4 r5) h2 hp G (by omega) hm) (fun y43 w hG44 hm a he =>?_))
 replace hm:=hm.nf
 refine go he hm fun a he =>?_
 replace hm:=hm.dl [3,0]
 refine hQ _ _ _ (ret0N he Tryz.results69 ?_)
 refine ⟨y43,rfl,trivial,?_⟩
 rw [← wB_let h42];exact hm
 refine go he hm fun a he =>?_
 by_cases h46:e.kind=7
 refine go he hm fun a he =>?_
 have hq0_:0 < e.args.length:=(wfE_sub hwf).1 h46
 obtain ⟨aa_,haa_⟩:=at_of_lt hq0_
 have hwc_:=wc_start (t:=t) h46 haa_
 replace hm:=hm.ar [] [3,3]
 refine CallY Tryz.call68 he hm (fun y48 w hG49 hm a he =>?_) (c:=writeString_ok (t:=t) (s:=(⟨#[40,99,97,115,101,32]⟩:ByteArray)) hp (by have h1_:=w1_size hwc_;rw [app_size,app_size,app_size t (wB e),wB_size e] at h1_;omega) hm)
 replace hm:=hm.nf
 refine Reg [2,1,2,1,2,0] [2,3] he hm fun w hm a he =>?_
 refine go he hm fun a he =>?_
 obtain ⟨q51,rfl,x52,hx53,cs54,hl55,ha56,hr57⟩:=h2.el hn6 hq0_
 obtain ⟨p60,c61,p66,c67,rfl,hi70,h59,h65,hm62,hn63,hm68,hn69⟩:=REx.fm hr57
 refine go he hm fun a he =>?_
 obtain rfl:x52=aa_:=Option.some.inj (hx53.symm.trans haa_)
 replace hm:=hm.ar [] [1,1]
 refine CallY Tryz.call69 he hm (fun y71 w hG72 hm a he =>?_) (c:=ih _ (Ex.lt_args (List.mem_of_getElem? hx53)) ((wfE_sub hwf).2.1 _ (List.mem_of_getElem? hx53)) (t:=(t++(⟨#[40,99,97,115,101,32]⟩:ByteArray))) hr57 (.inr rfl) G (by have h1_:=w1_size hwc_;rw [app_size,app_size,app_size t (wB e),wB_size e,wB_size] at h1_;rw [app_size];omega) hm)
 replace hm:=hm.nf
 refine go he hm fun a he =>?_
 refine loopK (he.ks [2,72,73]) hm (fun R mm a w=>∃(i:Nat) (bv:Value) (acc:Bs),mm=e.arms.length - i∧R Φ [(74,.int .i64 ((i:Nat):Int))] [(0,.blk b (ob [.pointer (some ⟨b,0,none⟩),bv] 130)),(1,.gs (bv) 5 1 (Lib.strCells acc))] a w∧(acc++ofTx (writePa (e.arms.drop i)++[41])=t++wB e)) (e.arms.length - 0) ⟨0,y71,((t++(⟨#[40,99,97,115,101,32]⟩:ByteArray))++wB x52),rfl,⟨he.pk,hm⟩,hwc_⟩ ?_
 clear hm he
 rintro mm a w ⟨i,bv,acc,hmu,⟨he,hm⟩,hI76⟩ L75 hL75
 replace hm:=hm.nf
 refine go he hm fun a he =>?_
 by_cases h78:i < e.arms.length
 refine go he hm fun a he =>?_
 obtain ⟨q82,rfl,x83,hx84,cs85,hl86,ha87,hr88⟩:=h8.el hn12 h78
 obtain ⟨s89,b95,rfl,h90,h96⟩:=RArm.iff.1 hr88
 obtain ⟨p91,c92,rfl,hm93,hn94⟩:=h90.fm
 obtain ⟨p99,c100,p105,c106,rfl,hi109,h98,h104,hm101,hn102,hm107,hn108⟩:=REx.fm h96
 refine Alc he hm fun b110 w hm a he =>?_
 refine Sto 0 he hm fun w hm a he =>?_
 refine go he hm fun a he =>?_
 refine region_planI [2,1,2,0,1,2,0,0,1,1,0] (.q 0 (.q 1 (.q 2 (.q 4 (.q 5 (.e 3 (.e 6 (.e 7 (.q 8 (.q 9 (.e 10 (.done)))))))))))) [0,3,4] he hm fun w hm =>?_
 refine BldS he hm fun v112 w hm a he =>?_
 refine App_ 0 rt_25 he hm (fun v113 w hm a he =>?_) (hr:=(SliceOf.strs.1 h90).rowIn hm.toSees) (h1:=strs_cells _) (hb:=by have h1_:=w1_size hI76;rw [List.length_append,app_size t (wB e),wB_size e] at h1_;have h2_:=arm_len hx84;rw [armB_size] at h2_;have h3_:=joinP_size x83.con x83.vars;have h4_:(⟨#[32]⟩:Bs).size=1:=rfl;rw [h4_] at h3_;simp only [List.length_cons,List.length_nil,strs_length] at h3_ ⊢;omega)
 refine CallR Tryz.call67 he hm (fun w hm a he =>?_) (c:=joinG_ok (l:=x83.con::x83.vars) (sep:=⟨#[32]⟩) (by have h1_:=w1_size hI76;rw [List.length_append,app_size t (wB e),wB_size e] at h1_;have h2_:=arm_len hx84;rw [armB_size] at h2_;have h3_:=joinP_size x83.con x83.vars;omega) hm)
 replace hm:=hm.nf
 refine Qq he hm (fun a he =>?_) (o:=by exact fun _ _ _ he hs=>y_sadd he rfl rfl (by have h1_:=w1_size hI76;rw [List.length_append,app_size t (wB e),wB_size e] at h1_;have h2_:=arm_len hx84;rw [armB_size] at h2_;have h3_:=joinP_size x83.con x83.vars;have h4_:(⟨#[32,40]⟩:Bs).size=2:=rfl;omega))
 refine Qq he hm (fun a he =>?_) (o:=by exact fun _ _ _ he hs=>y_sadd he rfl rfl (by have h1_:=w1_size hI76;rw [List.length_append,app_size t (wB e),wB_size e] at h1_;have h2_:=arm_len hx84;rw [armB_size] at h2_;have h3_:=joinP_size x83.con x83.vars;have h4_:(⟨#[32,40]⟩:Bs).size=2:=rfl;have h5_:(⟨#[32,45,62,32]⟩:Bs).size=4:=rfl;rw [app_size];omega))
 replace hm:=hm.ar [] [2,2]
 refine CallY Tryz.call68 he hm (fun y114 w hG115 hm a he =>?_) (c:=writeString_ok (t:=acc) (s:=(((⟨#[32,40]⟩:ByteArray)++(joinP (⟨#[32]⟩:Bs) (x83.con::x83.vars)))++(⟨#[32,45,62,32]⟩:ByteArray))) (.inr rfl) (by have h1_:=w1_size hI76;rw [List.length_append,app_size t (wB e),wB_size e] at h1_;have h2_:=arm_len hx84;rw [armB_size,wB_size] at h2_;have h3_:([41]:List UInt8).length=1:=rfl;have h4_:(⟨#[32,40]⟩:Bs).size=2:=rfl;have h5_:(⟨#[32,45,62,32]⟩:Bs).size=4:=rfl;have h6_:(⟨#[41]⟩:Bs).size=1:=rfl;rw [app_size,app_size];omega) hm)
 replace hm:=hm.nf
 replace hm:=hm.ar [] [1,1]
 refine CallY Tryz.call69 he hm (fun y117 w hG118 hm a he =>?_) (c:=ih _ (Ex.lt_arms (List.mem_of_getElem? hx84)) ((wfE_sub hwf).2.2 _ (List.mem_of_getElem? hx84)) (t:=(acc++(((⟨#[32,40]⟩:ByteArray)++(joinP (⟨#[32]⟩:Bs) (x83.con::x83.vars)))++(⟨#[32,45,62,32]⟩:ByteArray)))) h96 (.inr rfl) G (by have h1_:=w1_size hI76;rw [List.length_append,app_size t (wB e),wB_size e] at h1_;have h2_:=arm_len hx84;rw [armB_size,wB_size] at h2_;have h3_:([41]:List UInt8).length=1:=rfl;have h4_:(⟨#[32,40]⟩:Bs).size=2:=rfl;have h5_:(⟨#[32,45,62,32]⟩:Bs).size=4:=rfl;have h6_:(⟨#[41]⟩:Bs).size=1:=rfl;rw [app_size,app_size,app_size];omega) hm)
 replace hm:=hm.nf
 replace hm:=hm.ar [] [1,1]
 refine CallY Tryz.call70 he hm (fun y119 w hG120 hm a he =>?_) (c:=writeByte_ok (t:=((acc++(((⟨#[32,40]⟩:ByteArray)++(joinP (⟨#[32]⟩:Bs) (x83.con::x83.vars)))++(⟨#[32,45,62,32]⟩:ByteArray)))++wB x83.body)) (c:=41) (.inr rfl) (by have h1_:=w1_size hI76;rw [List.length_append,app_size t (wB e),wB_size e] at h1_;have h2_:=arm_len hx84;rw [armB_size,wB_size] at h2_;have h3_:([41]:List UInt8).length=1:=rfl;have h4_:(⟨#[32,40]⟩:Bs).size=2:=rfl;have h5_:(⟨#[32,45,62,32]⟩:Bs).size=4:=rfl;have h6_:(⟨#[41]⟩:Bs).size=1:=rfl;rw [app_size,app_size,app_size,app_size,wB_size];omega) hm)
 replace hm:=hm.nf
 refine go he hm fun a he =>?_
 replace hm:=hm.dl [2]
 refine hL75 _ _ _ (by subst hmu;omega) ⟨(i+1),(y119),((((acc++(((⟨#[32,40]⟩:ByteArray)++(joinP (⟨#[32]⟩:Bs) (x83.con::x83.vars)))++(⟨#[32,45,62,32]⟩:ByteArray)))++wB x83.body)++⟨#[41]⟩)),rfl,⟨he.pk,by exact hm⟩,?_⟩
 exact wc_step hx84 hI76
 replace hm:=hm.ar [] [1,1]
 refine CallY Tryz.call70 he hm (fun y122 w hG123 hm a he =>?_) (c:=writeByte_ok (t:=acc) (c:=41) (.inr rfl) (by have h1_:=w1_size hI76;rw [List.length_append,app_size t (wB e),wB_size e] at h1_;have h3_:([41]:List UInt8).length=1:=rfl;omega) hm)
 replace hm:=hm.nf
 refine go he hm fun a he =>?_
 replace hm:=hm.dl [3,2]
 refine hQ _ _ _ (ret0N he Tryz.results69 ?_)
 refine ⟨y122,rfl,trivial,?_⟩
 rw [← wc_end h78 hI76];exact hm
 refine go he hm fun a he =>?_
 have hq_:=congrArg ByteArray.size (wB_other h20 h24 h28 h32 h42 h46)
 have hz_:=wB_size e
 refine go he hm fun a he =>?_
 replace hm:=hm.ar [] [3,3,3]
 refine st he rfl rfl rfl (eff_callvY he rfl rfl Tryz.call121 (write1_ok (t:=t) (op:=e.name) (fun x hx _ _ _ _ _ _ _ _ r1 r2 r3 r4 r5=>ih x (Ex.lt_args hx) ((wfE_sub hwf).2.1 x hx) r1 r2 r3 r4 r5) h2 hp G (by omega) hm) (fun y124 w hG125 hm a he =>?_))
 replace hm:=hm.nf
 refine go he hm fun a he =>?_
 replace hm:=hm.dl [3,0]
 refine hQ _ _ _ (ret0N he Tryz.results69 ?_)
 refine ⟨y124,rfl,trivial,?_⟩
 rw [← wB_other h20 h24 h28 h32 h42 h46];exact hm
theorem write_ok {Φ:Fz} {K:List Res} {w:World} {d:List Value} {e:Ex} {b:Nat} {v:Value} {bp:Option Addr} {t:Bs} (hwf:wfE e=true) (re:REx Φ d e) (hp:bp=none∨bp=some ⟨b,0,none⟩) (G:Tabs Φ) (hb:t.size+(writeP e).length≤8796093022208) (hm:Mem Φ (.blk b (ob [.pointer bp,v] 130)::.gs v 5 1 (Lib.strCells t)::K) w) :
  Calls Tryz.prog 69 (List.toArray [.pointer (some ⟨b,0,none⟩),.agg d.toArray]) w (fun ee w'=>∃v2,ee=.returned (.tuple #[])∧True∧Mem Φ (.blk b (ob [.pointer (some ⟨b,0,none⟩),v2] 130)::.gs v2 5 1 (Lib.strCells (t++wB e))::K) w'):=by
 suffices H:∀n (e:Ex),e.sz < n→wfE e=true→∀{Φ:Fz} {K:List Res} {w:World} {d:List Value} {b:Nat} {v:Value} {bp:Option Addr} {t:Bs},REx Φ d e→(bp=none∨bp=some ⟨b,0,none⟩)→Tabs Φ→t.size+(writeP e).length≤8796093022208→Mem Φ (.blk b (ob [.pointer bp,v] 130)::.gs v 5 1 (Lib.strCells t)::K) w →
   Calls Tryz.prog 69 (List.toArray [.pointer (some ⟨b,0,none⟩),.agg d.toArray]) w (fun ee w'=>∃v2,ee=.returned (.tuple #[])∧True∧Mem Φ (.blk b (ob [.pointer (some ⟨b,0,none⟩),v2] 130)::.gs v2 5 1 (Lib.strCells (t++wB e))::K) w') from H _ e (Nat.lt_succ_self _) hwf re hp G hb hm
 intro n
 induction n with
 | zero=>intro e h;omega
 | succ n ih=>intro e h hwf Φ K w d b v bp t re hp G hb hm;exact write_step (fun x hx hw _ _ _ _ _ _ _ _ r1 r2 r3 r4 r5=>ih x (by omega) hw r1 r2 r3 r4 r5) hwf re hp G hb hm
end Go.Sw

namespace Go.Sw
def catB:List Bs→Bs
 | []=>⟨#[]⟩
 | x::l=>x++catB l
def conT_ (c:Con):Bs:=joinP ⟨#[32]⟩ (c.name::c.fields)
def dataB (d:Data):Bs:=((((⟨#[100,97,116,97,32]⟩:Bs)++d.name)++⟨#[32,61,32]⟩)++joinP ⟨#[32,124,32]⟩ (d.cons.map conT_))++⟨#[10]⟩
def inputB (p:Param):Bs:=((((⟨#[105,110,112,117,116,32]⟩:Bs)++p.name)++⟨#[32,58,32]⟩)++p.type)++⟨#[10]⟩
def paramB (p:Param):Bs:=((((⟨#[32,40]⟩:Bs)++p.name)++⟨#[32,58,32]⟩)++p.type)++⟨#[41]⟩
def funB (f:Fun):Bs:=((((⟨#[102,117,110,32]⟩:Bs)++f.name)++catB (f.params.map paramB))++(((⟨#[32,58,32]⟩:Bs)++f.result)++⟨#[32,61,32]⟩))++(wB f.body++⟨#[10]⟩)
def outB (o:Bs):Bs:=((⟨#[111,117,116,112,117,116,32]⟩:Bs)++o)++⟨#[10]⟩
def printB (c:Core):Bs:=catB (c.datas.map dataB)++(catB (c.inputs.map inputB)++(catB (c.funs.map funB)++catB (c.outputs.map outB)))
def printP (c:Core):Bs×Int:=if lookP c≠0 then (sNo,lookP c) else if 60000 < (printB c).size then (sNo,2) else (printB c,0)
theorem app_empty (x:Bs):x++(⟨#[]⟩:Bs)=x:=by apply ByteArray.ext;simp [ByteArray.data_append]
theorem app_assoc (a b c:Bs):(a++b)++c=a++(b++c):=ByteArray.append_assoc
theorem cat_drop {α:Type} {f:α→Bs} {l:List α} {i:Nat} {x:α} (h:l[i]? = some x):catB ((l.drop i).map f)=f x++catB ((l.drop (i+1)).map f):=by
 rw [drop_cons h];rfl
theorem cat_end {α:Type} {f:α→Bs} {l:List α} {i:Nat} (h:¬i < l.length):catB ((l.drop i).map f)=⟨#[]⟩:=by
 rw [drop_end h];rfl
theorem cat_step {α:Type} {f:α→Bs} {l:List α} {i:Nat} {x:α} {acc rest F:Bs} (hx:l[i]? = some x) (h:acc++(catB ((l.drop i).map f)++rest)=F):(acc++f x)++(catB ((l.drop (i+1)).map f)++rest)=F:=by
 rw [← h,cat_drop hx];simp only [app_assoc]
theorem cat_done {α:Type} {f:α→Bs} {l:List α} {i:Nat} {acc rest F:Bs} (hi:¬i < l.length) (h:acc++(catB ((l.drop i).map f)++rest)=F):acc++rest=F:=by
 rw [← h,cat_end hi,empty_app]
theorem catB_size:∀{l:List Bs} {m:Nat},(∀x∈l,x.size≤m)→(catB l).size≤l.length * m
 | [],_,_=>by simp [catB];rfl
 | x::l,m,h=>by
  have h1:=h x List.mem_cons_self
  have h2:=catB_size (l:=l) (m:=m) (fun y hy=>h y (List.mem_cons_of_mem _ hy))
  simp only [catB,app_size,List.length_cons,Nat.add_mul];omega
theorem cat_part {α:Type} {f:α→Bs} {l:List α} {i:Nat} {x:α} {acc rest F:Bs} (hx:l[i]? = some x) (h:acc++(catB ((l.drop i).map f)++rest)=F):acc.size+(f x).size≤F.size:=by
 rw [← h,cat_drop hx];simp only [app_size];omega
theorem map_take_snoc {α β:Type} {f:α→β} {l:List α} {j:Nat} {x:α} (hx:l[j]? = some x):(l.map f).take (j+1)=(l.map f).take j++[f x] :=
 take_snoc (by rw [List.getElem?_map,hx];rfl)
theorem map_take_all {α β:Type} {f:α→β} {l:List α} {j:Nat} (h:¬j < l.length):(l.map f).take j=l.map f:=take_all (by rw [List.length_map];exact h)
theorem fun_start {l:List Fun} {i:Nat} {f:Fun} {acc rest F:Bs} (hx:l[i]? = some f) (h:acc++(catB ((l.drop i).map funB)++rest)=F) :
  (acc++((⟨#[102,117,110,32]⟩:Bs)++f.name))++(catB ((f.params.drop 0).map paramB)++((((⟨#[32,58,32]⟩:Bs)++f.result)++⟨#[32,61,32]⟩)++((wB f.body++⟨#[10]⟩)++(catB ((l.drop (i+1)).map funB)++rest))))=F:=by
 rw [← h,cat_drop hx];simp only [funB,app_assoc,List.drop_zero]
theorem fun_step {acc m w n R F:Bs} (h:acc++(m++((w++n)++R))=F):(((acc++m)++w)++n)++R=F:=by
 rw [← h];simp only [app_assoc]
theorem printP_look {c:Core} (h:¬lookP c=0):printP c=(⟨#[]⟩,lookP c):=by unfold printP;rw [if_pos h];rfl
theorem printP_long {c:Core} (h:lookP c=0) (hl:60000 < (printB c).size):printP c=(⟨#[]⟩,2):=by unfold printP;rw [if_neg (not_not_intro h),if_pos hl];rfl
theorem printP_ok {c:Core} (h:lookP c=0) (hl:¬60000 < (printB c).size):printP c=(printB c,0):=by unfold printP;rw [if_neg (not_not_intro h),if_neg hl]
end Go.Sw

namespace Go.Sw
theorem calledPs_mem:∀{l:List Ex} {x:Ex} {y:Bs},x∈l→y∈calledP x→y∈calledPs l
 | z::l,x,y,h,hy=>by
  simp only [calledPs,List.mem_append]
  rcases List.mem_cons.1 h with rfl | h
  ·exact .inl hy
  ·exact .inr (calledPs_mem h hy)
theorem calledPa_mem:∀{l:List Arm} {a:Arm} {y:Bs},a∈l→y∈calledP a.body→y∈calledPa l
 | z::l,a,y,h,hy=>by
  rw [calledPa_cons,List.mem_append]
  rcases List.mem_cons.1 h with rfl | h
  ·exact .inl hy
  ·exact .inr (calledPa_mem h hy)
theorem reach_from {T:Table} {n y x:Bs} (h1:y∈callsT T n) (h:Reach T y x):Reach T n x:=by
 induction h with
 | refl=>exact .step .refl h1
 | step _ hy ih=>exact .step ih hy
theorem given_all {T:Table}:∀{vs:List Val} {ps:List Param},givenA T vs ps=true→HasAll T vs (ps.map Param.type)
 | [],[],_=>trivial
 | v::vs,p::ps,h=>by
  simp only [givenA,Bool.and_eq_true] at h
  exact ⟨h.1.2,given_all h.2⟩
 | [],_::_,h=>by cases h
 | _::_,[],h=>by cases h
theorem body_quiet {T:Table} {n:Bs} {f:Fun} (hf:lget T.funs n=some f) (hn:¬ReadsAny T n):readsP f.body=false∧∀y∈calledP f.body,¬ReadsAny T y:=by
 have hb:=fbody_some hf
 refine ⟨?_,fun y hy hr=>hn ?_⟩
 ·cases hrd:readsP f.body with
  | false=>rfl
  | true=>exact absurd ⟨_,.refl,by rw [hb];exact hrd⟩ hn
 ·obtain ⟨x,h1,h2⟩:=hr
  exact ⟨x,reach_from (by unfold callsT;rw [hb];exact hy) h1,h2⟩
theorem quiet_closed (T:Table):Closed T ⟨T.funs,[]⟩ (fun e=>readsP e=false∧∀y∈calledP e,¬ReadsAny T y):=by
 refine ⟨fun {e x} hp hx =>?_,fun {e a} hp ha =>?_,fun {e t} hp hk =>?_,fun {e f} hp hk hf =>?_⟩
 ·obtain ⟨h1,h2⟩:=hp
  rw [readsP_eq] at h1
  simp only [Bool.or_eq_false_iff] at h1
  refine ⟨?_,fun y hy=>h2 y ?_⟩
  ·have:=List.any_eq_false.1 h1.1.2 x hx;simpa using this
  ·rw [calledP_eq];simp only [List.mem_append];exact .inl (.inr (calledPs_mem hx hy))
 ·obtain ⟨h1,h2⟩:=hp
  rw [readsP_eq] at h1
  simp only [Bool.or_eq_false_iff] at h1
  refine ⟨?_,fun y hy=>h2 y ?_⟩
  ·have:=List.any_eq_false.1 h1.2 a ha;simpa using this
  ·rw [calledP_eq];simp only [List.mem_append];exact .inr (calledPa_mem ha hy)
 ·have:=hp.1
  rw [readsP_eq] at this;simp [hk] at this
 ·exact body_quiet hf (hp.2 _ (by rw [calledP_eq,if_pos hk];simp))
theorem call_safe {c:Core} (h:lookP c=0) (name:Bs) (args:List Val):CallSafe c name args:=by
 intro f hf hg hr g
 exact (callP_ok (look_right h) (quiet_closed (tableP c)) hf (body_quiet hf hr) (given_all hg) g).1
mutual
def numsE:Ex→Prop
 | .mk _ n _ args arms=>I64 n∧numsEs args∧numsEa arms
def numsEs:List Ex→Prop
 | []=>True
 | e::es=>numsE e∧numsEs es
def numsEa:List Arm→Prop
 | []=>True
 | .mk _ _ b::es=>numsE b∧numsEa es
end
mutual
theorem REx'.nums {Φ:Fz}:∀{x:Ex} {cs:List Value},REx' Φ x cs→numsE x
 | .mk _ _ _ _ _,_,⟨_,_,_,_,_,h2,_,h4,_,h6⟩=>⟨h2,REs'.nums h4,RArms'.nums h6⟩
theorem REs'.nums {Φ:Fz}:∀{xs:List Ex} {cs:List Value},REs' Φ xs cs→numsEs xs
 | [],_,_=>trivial
 | _::_,_,⟨_,_,_,_,h3,h4⟩=>⟨REx'.nums h3,REs'.nums h4⟩
theorem RArm'.nums {Φ:Fz}:∀{x:Arm} {cs:List Value},RArm' Φ x cs→numsE x.body
 | .mk _ _ _,_,⟨_,_,_,_,_,h4⟩=>REx'.nums h4
theorem RArms'.nums {Φ:Fz}:∀{xs:List Arm} {cs:List Value},RArms' Φ xs cs→numsEa xs
 | [],_,_=>trivial
 | .mk _ _ _::_,_,⟨_,_,_,_,h3,h4⟩=>⟨RArm'.nums h3,RArms'.nums h4⟩
end
theorem chunks_mem {α:Type} {R:List Value→α→Prop} {k:Nat}:∀{xs:List α} {cs:List Value},Chunks R k cs xs→∀x∈xs,∃c,R c x
 | y::xs,_,h,x,hx=>by
  obtain ⟨c,rest,_,_,h3,h4⟩:=h
  rcases List.mem_cons.1 hx with rfl | hx
  ·exact ⟨c,h3⟩
  ·exact chunks_mem h4 x hx
theorem core_nums {Φ:Fz} {d:List Value} {c:Core} (h:RCore Φ d c):∀f∈c.funs,numsE f.body:=fun f hf=>by
 obtain ⟨_,_,_,_,_,_,_,h4,_⟩:=h
 obtain ⟨_,_,h4⟩:=h4
 obtain ⟨_,_,_,_,_,hb⟩:=chunks_mem h4 f hf
 exact REx'.nums hb
theorem numsEs_mem:∀{l:List Ex},numsEs l→∀x∈l,numsE x
 | y::l,h,x,hx=>by
  rcases List.mem_cons.1 hx with rfl | hx
  ·exact h.1
  ·exact numsEs_mem h.2 x hx
theorem numsEa_mem:∀{l:List Arm},numsEa l→∀a∈l,numsE a.body
 | .mk _ _ b::l,h,x,hx=>by
  rcases List.mem_cons.1 hx with rfl | hx
  ·exact h.1
  ·exact numsEa_mem h.2 x hx
theorem numsE_eq {e:Ex} (h:numsE e):I64 e.num∧(∀x∈e.args,numsE x)∧∀a∈e.arms,numsE a.body:=by
 cases e;exact ⟨h.1,numsEs_mem h.2.1,numsEa_mem h.2.2⟩
theorem digsR_len:∀(d f n:Nat),n < 10 ^ (d+1)→(digsR f n).length≤d+1
 | _,0,_,_=>by simp [digsR]
 | d,f+1,n,h=>by
  simp only [digsR]
  split
  ·simp
  ·rename_i hn
   cases d with
   | zero=>omega
   | succ d =>
    have:=digsR_len d f (n / 10) (by rw [Nat.pow_succ] at h;omega)
    simp only [List.length_cons];omega
theorem itoaL_len {n:Int} (h:I64 n):(itoaL n).length≤24:=by
 have h1:∀m:Nat,m≤9223372036854775808→(digsL m).length≤19:=fun m hm=>by
  unfold digsL;rw [List.length_reverse];exact digsR_len 18 _ _ (by omega)
 unfold I64 at h
 unfold itoaL
 split
 ·have:=h1 (-n).toNat (by omega);simp only [List.length_cons];omega
 ·have:=h1 n.toNat (by omega);omega
theorem wfEs_of:∀{l:List Ex},(∀x∈l,wfE x=true)→wfEs l=true
 | [],_=>rfl
 | y::l,h=>by
  simp only [wfEs,Bool.and_eq_true]
  exact ⟨h y List.mem_cons_self,wfEs_of fun x hx=>h x (List.mem_cons_of_mem _ hx)⟩
theorem wfEa_of:∀{l:List Arm},(∀a∈l,wfE a.body=true∧a.con.size≤24∧∀v∈a.vars,v.size≤24)→wfEa l=true
 | [],_=>rfl
 | .mk c vs b::l,h=>by
  obtain ⟨h1,h2,h3⟩:=h (.mk c vs b) List.mem_cons_self
  simp only [wfEa,Bool.and_eq_true,decide_eq_true_eq,List.all_eq_true]
  exact ⟨⟨⟨h1,wfEa_of fun x hx=>h x (List.mem_cons_of_mem _ hx)⟩,h2⟩,h3⟩
theorem wfE_of {e:Ex} (h1:e.kind=7→0 < e.args.length) (h2:∀x∈e.args,wfE x=true) (h3:∀a∈e.arms,wfE a.body=true∧a.con.size≤24∧∀v∈a.vars,v.size≤24) (h4:e.name.size≤24) (h5:I64 e.num):wfE e=true:=by
 cases e with
 | mk k n s args arms =>
  simp only [wfE,Bool.and_eq_true,Bool.or_eq_true,decide_eq_true_eq]
  refine ⟨⟨⟨⟨?_,wfEs_of h2⟩,wfEa_of h3⟩,h4⟩,itoaL_len h5⟩
  by_cases hk:k=7
  ·exact .inr (h1 hk)
  ·exact .inl hk
theorem All2.left {α β:Type} {R:α→β→Prop}:∀{xs:List α} {ys:List β},All2 R xs ys→∀x∈xs,∃y∈ys,R x y
 | x::xs,y::ys,h,z,hz=>by
  rcases List.mem_cons.1 hz with rfl | hz
  ·exact ⟨y,List.mem_cons_self,h.1⟩
  ·obtain ⟨u,h1,h2⟩:=All2.left h.2 z hz;exact ⟨u,List.mem_cons_of_mem _ h1,h2⟩
 | [],_,_,z,hz=>by cases hz
 | _::_,[],h,_,_=>h.elim
theorem mem_bindPs {l:List Ex} {x:Ex} (h:x∈l):∃p q,bindPs l=p++bindP x++q:=by
 induction l with
 | nil=>cases h
 | cons b az ih =>
  simp only [bindPs]
  rcases List.mem_cons.1 h with rfl | h
  ·exact ⟨[],bindPs az,by simp⟩
  ·obtain ⟨p,q,e⟩:=ih h
   exact ⟨bindP b++p,q,by rw [e];simp⟩
theorem bare_name {e:Ex} {num:Bool} {a b:Int} (h:bareP e num false a b=true):e.name=sNo:=by
 simp only [bareP,Bool.and_eq_true,Bool.false_or,decide_eq_true_eq] at h;exact h.1.1.2
theorem bare_args0 {e:Ex} {num nm:Bool} {b:Int} (h:bareP e num nm 0 b=true):e.args=[]:=List.eq_nil_of_length_eq_zero (bareP_args (n:=0) h)
theorem bare_arms0 {e:Ex} {num nm:Bool} {a:Int} (h:bareP e num nm a 0=true):e.arms=[]:=by
 simp only [bareP,Bool.and_eq_true,Bool.or_eq_true,decide_eq_true_eq] at h
 rcases h.2 with h | h
 ·omega
 ·exact List.eq_nil_of_length_eq_zero (by omega)
structure Brief (T:Table):Prop where
 cons:∀n m,lget T.cons n=some m→n.size≤24
 funs:∀n f,lget T.funs n=some f→n.size≤24
 inputs:∀n t,lget T.inputs n=some t→n.size≤24
 datas:∀t d x,lget T.datas t=some d→x∈d.cons→x.name.size≤24
 dNo:lget T.datas sNo=none
structure Parts (T:Table) (e:Ex) (s:Scope):Prop where
 args:∀x∈e.args,∃s' u,(bindP x).Nodup∧Fresh s' (bindP x)∧Ty T x s' u∧∀m v,lget s' m=some v→m∈bindP e∨∃v',lget s m=some v'
 arms:∀a∈e.arms,(∃s' u,(bindP a.body).Nodup∧Fresh s' (bindP a.body)∧Ty T a.body s' u∧∀m v,lget s' m=some v→m∈bindP e∨∃v',lget s m=some v')∧∃n d c,lget T.datas n=some d∧c∈d.cons∧a.con=c.name
 name:e.name.size≤1∨e.name∈bindP e∨(∃v,lget s e.name=some v)∨(∃v,lget T.inputs e.name=some v)∨(∃m,lget T.cons e.name=some m)∨(∃f,lget T.funs e.name=some f)
 case1:e.kind=7→0 < e.args.length
 inp:e.kind=3→∃u,lget T.inputs e.name=some u
theorem typed_parts {T:Table} (hT0:lget T.datas sNo=none) {e:Ex} {s:Scope} {t:Bs} (hn0:(bindP e).Nodup) (hf0:Fresh s (bindP e)) (ht:Ty T e s t):Parts T e s:=by
  obtain ⟨ht,hne⟩:=ht
  have hka:∀x∈e.args,Keeps T x:=fun x hx=>keeps_ok T hT0 _ x (Nat.lt_succ_self _)
  have hkb:∀a∈e.arms,Keeps T a.body:=fun a ha=>keeps_ok T hT0 _ a.body (Nat.lt_succ_self _)
  have hbe:=bindP_eq e
  have hn:=hn0
  have hf:=hf0
  rw [hbe] at hn hf
  have hn1:=nodup_app hn
  have hn2:=nodup_app hn1.1
  have hfa:Fresh s (bindPs e.args):=hf.sub fun m hm=>List.mem_append.2 (.inl (List.mem_append.2 (.inr hm)))
  have hfb:Fresh s (bindPa e.arms):=hf.sub fun m hm=>List.mem_append.2 (.inr hm)
  have all:∀ts,All2 (fun x t=>Ty T x s t) e.args ts→∀x∈e.args,∃s' u,(bindP x).Nodup∧Fresh s' (bindP x)∧Ty T x s' u∧∀m v,lget s' m=some v→m∈bindP e∨∃v',lget s m=some v':=fun ts ha x hx=>by
   obtain ⟨u,_,hu⟩:=All2.left ha x hx
   obtain ⟨p,q,hpq⟩:=mem_bindPs hx
   have k1:(bindP x).Nodup:=by have:=hn2.2.1;rw [hpq] at this;exact (nodup_app (nodup_app this).1).2.1
   exact ⟨s,u,k1,hfa.sub fun m hm=>by rw [hpq];simp [hm],hu,fun m v h=>.inr ⟨v,h⟩⟩
  by_cases h1:e.kind=1
  ·rw [typedP_num T e s h1] at ht
   simp only [numberT] at ht
   split at ht
   ·rename_i hbr
    exact ⟨by rw [bare_args0 hbr];simp,by rw [bare_arms0 hbr];simp,.inl (by rw [bare_name hbr];decide),fun h=>by omega,fun h=>by omega⟩
   ·exact absurd ht.symm hne
  by_cases h2:e.kind=2
  ·rw [typedP_var T e s h2] at ht
   simp only [variableT] at ht
   split at ht
   ·rename_i hbr
    cases hl:lget s e.name with
    | none=>rw [hl] at ht;exact absurd ht.symm hne
    | some u=>exact ⟨by rw [bare_args0 hbr];simp,by rw [bare_arms0 hbr];simp,.inr (.inr (.inl ⟨u,hl⟩)),fun h=>by omega,fun h=>by omega⟩
   ·exact absurd ht.symm hne
  by_cases h3:e.kind=3
  ·rw [typedP_inp T e s h3] at ht
   simp only [inputT] at ht
   split at ht
   ·rename_i hbr
    cases hl:lget T.inputs e.name with
    | none=>rw [hl] at ht;exact absurd ht.symm hne
    | some u=>exact ⟨by rw [bare_args0 hbr];simp,by rw [bare_arms0 hbr];simp,.inr (.inr (.inr (.inl ⟨u,hl⟩))),fun h=>by omega,fun _=>⟨u,hl⟩⟩
   ·exact absurd ht.symm hne
  by_cases h4:e.kind=4
  ·rw [typedP_con T e s h4] at ht
   unfold conT at ht
   split at ht
   ·exact absurd ht.symm hne
   ·rename_i m hm
    split at ht
    ·rename_i hbr
     split at ht
     ·rename_i ha
      exact ⟨all _ (allP_inv hka hn2.2.1 hfa ha).2,by rw [bare_arms0 hbr];simp,.inr (.inr (.inr (.inr (.inl ⟨m,hm⟩)))),fun h=>by omega,fun h=>by omega⟩
     ·exact absurd ht.symm hne
    ·exact absurd ht.symm hne
  by_cases h5:e.kind=5
  ·rw [typedP_call T e s h5] at ht
   unfold callT at ht
   split at ht
   ·exact absurd ht.symm hne
   ·rename_i f hm
    split at ht
    ·rename_i hbr
     split at ht
     ·rename_i ha
      exact ⟨all _ (allP_inv hka hn2.2.1 hfa ha).2,by rw [bare_arms0 hbr];simp,.inr (.inr (.inr (.inr (.inr ⟨f,hm⟩)))),fun h=>by omega,fun h=>by omega⟩
     ·exact absurd ht.symm hne
    ·exact absurd ht.symm hne
  by_cases h6:e.kind=6
  ·rw [typedP_let T e s h6] at ht
   unfold letT at ht
   split at ht
   ·rename_i hbr
    have hl:=bareP_args (n:=2) hbr
    obtain ⟨x,y,hxy⟩:∃x y,e.args=[x,y]:=by
     cases ha:e.args with
     | nil=>rw [ha] at hl;simp at hl
     | cons a l =>
      cases l with
      | nil=>rw [ha] at hl;simp at hl
      | cons b l =>
       rw [ha] at hl
       simp only [List.length_cons] at hl
       have:l=[]:=List.eq_nil_of_length_eq_zero (by omega)
       subst this;exact ⟨a,b,rfl⟩
    have hx:e.args[0]? = some x:=by rw [hxy];rfl
    have hy:e.args[1]? = some y:=by rw [hxy];rfl
    by_cases h0:(typedP T x s).1=sNo
    ·rw [letP_no hx h0] at ht;exact absurd ht.symm hne
    ·rw [letP_yes hx hy h0] at ht
     simp only at ht
     have hmx:x∈e.args:=by rw [hxy];simp
     simp only [if_pos h6,hxy,bindPs,List.append_nil] at hn hf
     have hm1:=nodup_app hn
     have hm2:=nodup_app hm1.1
     have hm3:=nodup_app hm2.2.1
     have hfx:Fresh s (bindP x):=hf.sub fun m hm=>by simp [hm]
     have e1:=hka x hmx s hm3.1 hfx h0
     have hen:e.name∈bindP e:=by rw [hbe,if_pos h6];simp
     have hkey:Fresh (lput s e.name (typedP T x s).1) (bindP y):=fun m hm=>by
      rw [lget_lput,if_neg]
      ·exact hf m (by simp [hm])
      ·rintro rfl
       exact hm2.2.2 e.name (by simp) (by simp [hm])
     rw [e1] at ht
     refine ⟨fun z hz =>?_,by rw [bare_arms0 hbr];simp,.inr (.inl hen),fun h=>by omega,fun h=>by omega⟩
     rw [hxy] at hz
     rcases List.mem_cons.1 hz with rfl | hz
     ·exact ⟨s,_,hm3.1,hfx,⟨rfl,h0⟩,fun m v h=>.inr ⟨v,h⟩⟩
     ·rcases List.mem_cons.1 hz with rfl | hz
      ·refine ⟨_,t,hm3.2.1,hkey,⟨ht,hne⟩,fun m u hm =>?_⟩
       rw [lget_lput] at hm
       split at hm
       ·rename_i h;rw [h];exact .inl hen
       ·exact .inr ⟨u,hm⟩
      ·cases hz
   ·exact absurd ht.symm hne
  by_cases h7:e.kind=7
  ·rw [typedP_case T e s h7] at ht
   unfold caseT at ht
   split at ht
   ·rename_i hbr
    have hl:=bareP_args (n:=1) hbr
    obtain ⟨x,hxy⟩:∃x,e.args=[x]:=by
     cases ha:e.args with
     | nil=>rw [ha] at hl;simp at hl
     | cons a l =>
      rw [ha] at hl
      simp only [List.length_cons] at hl
      have:l=[]:=List.eq_nil_of_length_eq_zero (by omega)
      subst this;exact ⟨a,rfl⟩
    have hx:e.args[0]? = some x:=by rw [hxy];rfl
    have hmx:x∈e.args:=by rw [hxy];simp
    rw [firstP_at hx] at ht
    split at ht
    ·exact absurd ht.symm hne
    ·rename_i d hd
     split at ht
     ·rename_i hle
      have h0:(typedP T x s).1≠sNo:=fun e0=>by rw [e0,hT0] at hd;cases hd
      rw [hxy] at hn2 hfa
      simp only [bindPs,List.append_nil] at hn2 hfa
      have e1:=hka x hmx s hn2.2.1 hfa h0
      rw [e1] at ht
      have hsp:=splitP_inv hne hkb hle hn1.2.1 hfb ht
      refine ⟨fun z hz =>?_,fun a ha =>?_,.inl (by rw [bare_name hbr];decide),fun _=>by omega,fun h=>by omega⟩
      ·rw [hxy] at hz
       rcases List.mem_cons.1 hz with rfl | hz
       ·exact ⟨s,_,hn2.2.1,hfa,⟨rfl,h0⟩,fun m v h=>.inr ⟨v,h⟩⟩
       ·cases hz
      ·obtain ⟨k,hk,q3,q4,q5⟩:=All2.left hsp.2.1 a ha
       obtain ⟨l,r,hlr⟩:=mem_bindPa ha
       have hnn:(a.vars++bindP a.body).Nodup:=by
        have:=hn1.2.1
        rw [hlr] at this
        exact (nodup_app (nodup_app this).1).2.1
       have hff:Fresh s (a.vars++bindP a.body):=hfb.sub fun m hm=>by rw [hlr];simp at hm ⊢;rcases hm with hm | hm <;> simp [hm]
       have hnn':=nodup_app hnn
       refine ⟨⟨putAll s a.vars k.fields,t,hnn'.2.1,fun m hm=>by
        rw [putAll_get (fun hp=>hnn'.2.2 m hp hm)];exact hff m (List.mem_append.2 (.inr hm)),q5,fun m u hm =>?_⟩,_,d,k,hd,hk,q3⟩
       by_cases hv:m∈a.vars
       ·exact .inl (by rw [hbe,hlr];simp [hv])
       ·rw [putAll_get hv] at hm;exact .inr ⟨u,hm⟩
     ·exact absurd ht.symm hne
   ·exact absurd ht.symm hne
  by_cases h8:e.kind=8
  ·rw [typedP_op T e s h8] at ht
   unfold opsT at ht
   split at ht
   ·rename_i hbr
    split at ht
    ·rename_i ha
     refine ⟨all _ (allP_inv hka hn2.2.1 hfa ha).2,by rw [bare_arms0 hbr];simp,.inl ?_,fun h=>by omega,fun h=>by omega⟩
     simp only at ht
     unfold opT at ht
     split at ht
     ·rename_i ho
      rcases ho with h | h | h | h | h <;> rw [h] <;> decide
     ·split at ht
      ·rename_i ho
       rcases ho with h | h <;> rw [h] <;> decide
      ·exact absurd ht.symm hne
    ·exact absurd ht.symm hne
   ·exact absurd ht.symm hne
  rw [typedP_none T e s h1 h2 h3 h4 h5 h6 h7 h8] at ht
  exact absurd ht.symm hne
theorem wf_typed {T:Table} (hB:Brief T):∀(n:Nat) (e:Ex),e.sz < n→∀(s:Scope) (t:Bs),(bindP e).Nodup→Fresh s (bindP e)→Ty T e s t→(∀m∈bindP e,m.size≤24)→(∀m u,lget s m=some u→m.size≤24)→numsE e→wfE e=true
 | 0,_,h=>by omega
 | n+1,e,hsz=>by
  intro s t hn hf ht hb hs hnum
  obtain ⟨hi64,hna,hnb⟩:=numsE_eq hnum
  have hp:=typed_parts hB.dNo hn hf ht
  have hbx:∀x∈e.args,∀m∈bindP x,m.size≤24:=fun x hx m hm=>hb m (by
   obtain ⟨p,q,hpq⟩:=mem_bindPs hx
   rw [bindP_eq,hpq];simp [hm])
  have hba:∀a∈e.arms,∀m∈a.vars++bindP a.body,m.size≤24:=fun a ha m hm=>hb m (by
   obtain ⟨p,q,hpq⟩:=mem_bindPa ha
   rw [bindP_eq,hpq];simp at hm ⊢;rcases hm with hm | hm <;> simp [hm])
  have hsc:∀s':Scope,(∀m v,lget s' m=some v→m∈bindP e∨∃v',lget s m=some v')→∀m u,lget s' m=some u→m.size≤24:=fun s' h m u hm=>by
   rcases h m u hm with h | ⟨v,h⟩
   ·exact hb m h
   ·exact hs m v h
  refine wfE_of hp.case1 (fun x hx =>?_) (fun a ha =>?_) ?_ hi64
  ·obtain ⟨s',u,a1,a2,a3,a4⟩:=hp.args x hx
   exact wf_typed hB n x (by have:=Ex.lt_args hx;omega) s' u a1 a2 a3 (hbx x hx) (hsc s' a4) (hna x hx)
  ·obtain ⟨⟨s',u,a1,a2,a3,a4⟩,k,d,c,h1,h2,h3⟩:=hp.arms a ha
   exact ⟨wf_typed hB n a.body (by have:=Ex.lt_arms ha;omega) s' u a1 a2 a3 (fun m hm=>hba a ha m (List.mem_append.2 (.inr hm))) (hsc s' a4) (hnb a ha),by rw [h3];exact hB.datas _ _ _ h1 h2,
    fun v hv=>hba a ha v (List.mem_append.2 (.inl hv))⟩
  ·rcases hp.name with h | h | ⟨v,h⟩ | ⟨v,h⟩ | ⟨v,h⟩ | ⟨v,h⟩
   ·omega
   ·exact hb _ h
   ·exact hs _ _ h
   ·exact hB.inputs _ _ h
   ·exact hB.cons _ _ h
   ·exact hB.funs _ _ h
theorem quiet_typed {T:Table} (hT0:lget T.datas sNo=none) (hin:∀n,lget T.inputs n=none):∀(n:Nat) (e:Ex),e.sz < n→∀(s:Scope) (t:Bs),(bindP e).Nodup→Fresh s (bindP e)→Ty T e s t→readsP e=false
 | 0,_,h=>by omega
 | n+1,e,hsz=>by
  intro s t hn hf ht
  have hp:=typed_parts hT0 hn hf ht
  rw [readsP_eq]
  simp only [Bool.or_eq_false_iff,decide_eq_false_iff_not,List.any_eq_false,Bool.not_eq_true]
  refine ⟨⟨fun h =>?_,fun x hx =>?_⟩,fun a ha =>?_⟩
  ·obtain ⟨u,hu⟩:=hp.inp h;rw [hin] at hu;cases hu
  ·obtain ⟨s',u,a1,a2,a3,_⟩:=hp.args x hx
   exact quiet_typed hT0 hin n x (by have:=Ex.lt_args hx;omega) s' u a1 a2 a3
  ·obtain ⟨⟨s',u,a1,a2,a3,_⟩,_⟩:=hp.arms a ha
   exact quiet_typed hT0 hin n a.body (by have:=Ex.lt_arms ha;omega) s' u a1 a2 a3
theorem name_size {s:Bs} (h:isNameP s=true):s.size≤24:=by
 simp only [isNameP,kindP,decide_eq_true_eq] at h
 split at h
 ·cases h
 ·omega
theorem con_size {s:Bs} (h:isConP s=true):s.size≤24:=by
 simp only [isConP,kindP,decide_eq_true_eq] at h
 split at h
 ·cases h
 ·omega
theorem brief_of {c:Core} (hR:Right c):Brief (tableP c) where
 cons n m h:=by
  rw [hR.cons] at h
  obtain ⟨d,hd,_,h2,rfl⟩:=consE_mem h
  exact con_size ((hR.dN d hd).2.2.2 _ h2)
 funs n f h:=by
  rw [hR.funs] at h
  obtain ⟨x,hx,rfl,_⟩:=ents_mem h
  exact name_size (hR.fN x hx)
 inputs n t h:=by
  rw [hR.inputs] at h
  obtain ⟨x,hx,rfl,_⟩:=ents_mem h
  exact name_size (hR.iN x hx)
 datas t d x h hx:=by
  rw [hR.datas] at h
  obtain ⟨y,hy,rfl,rfl⟩:=ents_mem h
  exact con_size ((hR.dN y hy).2.2.2 _ hx)
 dNo:=(sound_of (inp:=[]) hR).dNo
theorem wf_body {c:Core} (hR:Right c) {f:Fun} (hf:f∈c.funs) (hn:numsE f.body):wfE f.body=true:=by
 have h1:=hR.fOk f hf
 have h3:=h1
 simp only [funOk,Bool.and_eq_true,decide_eq_true_eq] at h1
 obtain ⟨a1,_,a3⟩:=apartP_nodup h1.1.2
 have a4:=nodup_app a1
 refine wf_typed (brief_of hR) _ f.body (Nat.lt_succ_self _) (scopeP f.params) f.result a4.2.1 (fun m hm =>?_) ⟨h1.2,type_ne hR h1.1.1.2⟩ (fun m hm=>name_size (a3 m (List.mem_append.2 (.inr hm)))) (fun m u hm =>?_) hn
 ·rw [scopeP_eq,putAll_get (fun hp=>a4.2.2 m hp hm)];rfl
 ·by_cases hv:m∈f.params.map Param.name
  ·exact name_size (a3 m (List.mem_append.2 (.inl hv)))
  ·rw [scopeP_eq,putAll_get hv] at hm;cases hm
theorem type_size {c:Core} (hR:Right c) {t:Bs} (h:isTypeP (tableP c) t=true):t.size≤24:=by
 simp only [isTypeP,Bool.or_eq_true,decide_eq_true_eq] at h
 rcases h with h | h
 ·rw [hR.datas] at h
  cases hg:lget (ents Data.name id (truthsD::c.datas)) t with
  | none=>rw [hg] at h;cases h
  | some d =>
   obtain ⟨x,hx,rfl,_⟩:=ents_mem hg
   exact con_size (hR.dN x hx).1
 ·rw [h];decide
theorem inDatas_zero (name:Bs):∀(l:List Data) (n:Int) (ok:Bool),(∀d∈l,d.name≠name)→(inDatas name l n ok).1=n
 | [],_,_,_=>rfl
 | d::l,n,ok,h=>by
  simp only [inDatas,if_neg (h d List.mem_cons_self)]
  exact inDatas_zero name l n ok fun x hx=>h x (List.mem_cons_of_mem _ hx)
theorem inT_size {c:Core} (hR:Right c) {t:Bs} (h:inputTypeP c.datas t=true):t.size≤24:=by
 unfold inputTypeP at h
 split at h
 ·rename_i e;rw [e];decide
 ·simp only [Bool.and_eq_true,decide_eq_true_eq] at h
  by_cases hx:∃d∈c.datas,d.name=t
  ·obtain ⟨d,hd,rfl⟩:=hx
   exact con_size (hR.dN d (List.mem_cons_of_mem _ hd)).1
  ·have:=inDatas_zero t c.datas 0 true (fun d hd e=>hx ⟨d,hd,e⟩)
   rw [this] at h;omega
theorem lens_le {m:Nat}:∀{l:List Bs},(∀x∈l,x.size≤m)→lens l≤l.length * m
 | [],_=>by simp [lens]
 | x::l,h=>by
  have h1:=h x List.mem_cons_self
  have h2:=lens_le (l:=l) fun y hy=>h y (List.mem_cons_of_mem _ hy)
  rw [lens_cons,List.length_cons,Nat.add_mul];omega
theorem joinP_le (sep:Bs) (l:List Bs):(joinP sep l).size≤lens l+sep.size * l.length:=by
 cases l with
 | nil=>show 0≤_;omega
 | cons x l =>
  have:∀(l:List Bs) (a:Bs),(l.foldl (fun a s=>a++sep++s) a).size=a.size+lens l+sep.size * l.length:=by
   intro l
   induction l with
   | nil=>intro a;simp [lens]
   | cons y l ih =>
    intro a
    rw [List.foldl_cons,ih,app_size,app_size,lens_cons,List.length_cons,Nat.mul_add];omega
  have h:=this l x
  simp only [joinP]
  rw [h,lens_cons,List.length_cons,Nat.mul_add];omega
theorem con_lens {c:Core} (hR:Right c) (hl:longP c=false) {d:Data} (hd:d∈c.datas) {x:Con} (hx:x∈d.cons):lens (x.name::x.fields)+(⟨#[32]⟩:Bs).size * (x.name::x.fields).length≤425:=by
 have h1:=con_size ((hR.dN d (List.mem_cons_of_mem _ hd)).2.2.2 x hx)
 have h2:=hR.fields d hd
 simp only [fieldsOk,List.all_eq_true] at h2
 have h3:lens x.fields≤x.fields.length * 24:=lens_le fun y hy=>type_size hR (h2 x hx y hy)
 have h4:x.fields.length≤16:=by
  simp only [longP,Bool.or_eq_false_iff,List.any_eq_false] at hl
  have:=hl.1.2 d hd
  simp only [longD,Bool.or_eq_true,decide_eq_true_eq,List.any_eq_true,not_or,not_exists,not_and] at this
  have:=this.2 x hx
  omega
 have h5:(⟨#[32]⟩:Bs).size=1:=rfl
 rw [h5,lens_cons,List.length_cons];omega
theorem data_lens {c:Core} (hR:Right c) (hl:longP c=false) {d:Data} (hd:d∈c.datas):lens (d.cons.map conT_)+(⟨#[32,124,32]⟩:Bs).size * (d.cons.map conT_).length≤6848:=by
 have h4:d.cons.length≤16:=by
  simp only [longP,Bool.or_eq_false_iff,List.any_eq_false] at hl
  have:=hl.1.2 d hd
  simp only [longD,Bool.or_eq_true,decide_eq_true_eq,not_or] at this
  omega
 have h3:lens (d.cons.map conT_)≤(d.cons.map conT_).length * 425:=lens_le fun y hy=>by
  obtain ⟨x,hx,rfl⟩:=List.mem_map.1 hy
  exact Nat.le_trans (joinP_le _ _) (con_lens hR hl hd hx)
 have h5:(⟨#[32,124,32]⟩:Bs).size=3:=rfl
 rw [h5];rw [List.length_map] at h3 ⊢;omega
theorem print_size {c:Core} (h:lookP c=0) (hn:∀f∈c.funs,numsE f.body):(printB c).size≤8796093022208:=by
 have hR:=look_right h
 obtain ⟨hl,_⟩:=look_parts h
 have hl2:=hl
 simp only [longP,Bool.or_eq_false_iff,decide_eq_false_iff_not] at hl2
 obtain ⟨⟨⟨⟨⟨l1,l2⟩,l3⟩,l4⟩,_⟩,_⟩:=hl2
 have k1:(catB (c.datas.map dataB)).size≤(c.datas.map dataB).length * 7000:=catB_size fun y hy=>by
  obtain ⟨d,hd,rfl⟩:=List.mem_map.1 hy
  have q1:=con_size (hR.dN d (List.mem_cons_of_mem _ hd)).1
  have q2:=Nat.le_trans (joinP_le _ _) (data_lens hR hl hd)
  simp only [dataB,app_size]
  have e1:(⟨#[100,97,116,97,32]⟩:Bs).size=5:=rfl
  have e2:(⟨#[32,61,32]⟩:Bs).size=3:=rfl
  have e3:(⟨#[10]⟩:Bs).size=1:=rfl
  omega
 have k2:(catB (c.inputs.map inputB)).size≤(c.inputs.map inputB).length * 100:=catB_size fun y hy=>by
  obtain ⟨p,hp,rfl⟩:=List.mem_map.1 hy
  have q1:=name_size (hR.iN p hp)
  have q2:=inT_size hR (hR.inT p hp)
  simp only [inputB,app_size]
  have e1:(⟨#[105,110,112,117,116,32]⟩:Bs).size=6:=rfl
  have e2:(⟨#[32,58,32]⟩:Bs).size=3:=rfl
  have e3:(⟨#[10]⟩:Bs).size=1:=rfl
  omega
 have k3:(catB (c.funs.map funB)).size≤(c.funs.map funB).length * 4000000:=catB_size fun y hy=>by
  obtain ⟨f,hf,rfl⟩:=List.mem_map.1 hy
  have q1:=name_size (hR.fN f hf)
  have h1:=hR.fOk f hf
  simp only [funOk,Bool.and_eq_true,decide_eq_true_eq,List.all_eq_true] at h1
  have q2:=type_size hR h1.1.1.2
  have q3:=long_fun hl hf
  obtain ⟨m,hm1,hm2⟩:=long_short hl hf
  have q4:=write_short f.body m (wf_body hR hf (hn f hf)) hm2
  have q5:=(meas_le f.body m hm2).1
  have q6:=wB_size f.body
  have q7:(catB (f.params.map paramB)).size≤(f.params.map paramB).length * 100:=catB_size fun z hz=>by
   obtain ⟨p,hp,rfl⟩:=List.mem_map.1 hz
   have r1:=name_size ((apartP_nodup h1.1.2).2.2 p.name (List.mem_append.2 (.inl (List.mem_map_of_mem hp))))
   have r2:=type_size hR (h1.1.1.1 p hp)
   simp only [paramB,app_size]
   have e1:(⟨#[32,40]⟩:Bs).size=2:=rfl
   have e2:(⟨#[32,58,32]⟩:Bs).size=3:=rfl
   have e3:(⟨#[41]⟩:Bs).size=1:=rfl
   omega
  rw [List.length_map] at q7
  simp only [funB,app_size]
  have e1:(⟨#[102,117,110,32]⟩:Bs).size=4:=rfl
  have e2:(⟨#[32,58,32]⟩:Bs).size=3:=rfl
  have e3:(⟨#[32,61,32]⟩:Bs).size=3:=rfl
  have e4:(⟨#[10]⟩:Bs).size=1:=rfl
  omega
 have k4:(catB (c.outputs.map outB)).size≤(c.outputs.map outB).length * 100:=catB_size fun y hy=>by
  obtain ⟨o,ho,rfl⟩:=List.mem_map.1 hy
  obtain ⟨f,hf,_⟩:=outsOk_get hR.oOk o ho
  have q1:=(brief_of hR).funs _ _ hf
  simp only [outB,app_size]
  have e1:(⟨#[111,117,116,112,117,116,32]⟩:Bs).size=7:=rfl
  have e3:(⟨#[10]⟩:Bs).size=1:=rfl
  omega
 rw [List.length_map] at k1 k2 k3 k4
 simp only [printB,app_size]
 omega
end Go.Sw

namespace Go.Sw
theorem run_ok_inv {c:Core} {l:List Named} {a:Int} {o:Outcome} (h:runP c l a=(o,0)) :
  lookP c=0∧0≤a∧a≤200000∧givenP (tableP c) l c.inputs=true∧∃vs g,outsP ⟨(tableP c).funs,inpP l⟩ c.outputs a.toNat=.ok vs g∧vs.any largeP=false∧o=⟨namesP c.outputs vs,((a.toNat - g:Nat):Int)⟩:=by
 unfold runP at h
 split at h
 ·rename_i h1;simp only [Prod.mk.injEq] at h;exact absurd h.2 h1
 rename_i h1
 split at h
 ·simp at h
 rename_i h2
 split at h
 ·simp at h
 rename_i h3
 split at h
 ·rename_i vs g he
  obtain ⟨e1,e2⟩:=evN_ok he
  simp only [Prod.mk.injEq,and_true] at h
  exact ⟨Classical.byContradiction h1,by omega,by omega,by simpa using h3,vs,g,e1,e2,h.symm⟩
 ·rename_i e he
  simp only [Prod.mk.injEq] at h
  exact absurd (Int.natCast_eq_zero.1 h.2) (endP_err he)
theorem run_fin {c:Core} {l:List Named} {a:Int} {vs:List Val} {g:Nat} (h0:lookP c=0) (h1:0≤a) (h2:a≤200000) (hg:givenP (tableP c) l c.inputs=true)
  (he:outsP ⟨(tableP c).funs,inpP l⟩ c.outputs a.toNat=.ok vs g) (hl:vs.any largeP=false):runP c l a=(⟨namesP c.outputs vs,((a.toNat - g:Nat):Int)⟩,0):=by
 unfold runP
 rw [if_neg (not_not_intro h0),if_neg (by omega),if_neg (by rw [hg];decide),endP_ok he hl]
theorem run_err {c:Core} {l:List Named} {a:Int} (h:(runP c l a).2≠0):(runP c l a).1=out0:=by
 unfold runP at h ⊢
 by_cases h1:lookP c≠0
 ·rw [if_pos h1]
 rw [if_neg h1] at h ⊢
 by_cases h2:a < 0∨200000 < a
 ·rw [if_pos h2]
 rw [if_neg h2] at h ⊢
 by_cases h3:givenP (tableP c) l c.inputs=false
 ·rw [if_pos h3]
 rw [if_neg h3] at h ⊢
 cases he:endP (outsP ⟨(tableP c).funs,inpP l⟩ c.outputs a.toNat) with
 | error e=>rfl
 | ok x=>rw [he] at h;exact absurd rfl h
theorem fuel_more {c:Core} {l:List Named} {a:Int} {o:Outcome} (h:runP c l a=(o,0)) (ha:a≤4000) {k:Int} (h0:0≤k) (hk:k < 1000):runP c l (a+k)=(o,0):=by
 obtain ⟨k0,k1,k2,k3,vs,g,k4,k5,rfl⟩:=run_ok_inv h
 have hle:=(outs_le k4).1
 have:=outs_fuel k4 (g+k.toNat)
 rw [show a.toNat - g+(g+k.toNat)=(a+k).toNat by omega] at this
 rw [run_fin k0 (by omega) (by omega) k3 this k5,show (a+k).toNat - (g+k.toNat)=a.toNat - g by omega]
theorem fuel_same {c:Core} {l:List Named} {a:Int} {o:Outcome} (h:runP c l a=(o,0)):runP c l o.steps=(o,0)∧0≤o.steps∧o.steps≤a:=by
 obtain ⟨k0,k1,k2,k3,vs,g,k4,k5,rfl⟩:=run_ok_inv h
 have hle:=(outs_le k4).1
 have:=outs_fuel k4 0
 simp only [Nat.add_zero] at this
 refine ⟨?_,by simp only;omega,by simp only;omega⟩
 have h2:=run_fin (a:=((a.toNat - g:Nat):Int)) k0 (by omega) (by omega) k3 (by rw [Int.toNat_natCast];exact this) k5
 rw [Int.toNat_natCast,Nat.sub_zero] at h2
 exact h2
theorem fuel_less {c:Core} {l:List Named} {a:Int} {o:Outcome} (h:runP c l a=(o,0)):(runP c l (o.steps - 1)).2=4∨o.steps=0∧(runP c l (o.steps - 1)).2=1:=by
 obtain ⟨k0,k1,k2,k3,vs,g,k4,k5,rfl⟩:=run_ok_inv h
 have hle:=(outs_le k4).1
 simp only
 by_cases hz:a.toNat - g=0
 ·refine .inr ⟨by omega,?_⟩
  unfold runP
  rw [if_neg (not_not_intro k0),if_pos (by omega)]
 ·refine .inl ?_
  unfold runP
  rw [if_neg (not_not_intro k0),if_neg (by omega),if_neg (by rw [k3];decide)]
  rw [endP_spent (outs_less k4 (by omega) (run_ns k0 k3 _))]
  rfl
theorem quiet_all {c:Core} (hR:Right c) (hin:c.inputs=[]) (n:Bs):¬ReadsAny (tableP c) n:=by
 rintro ⟨x,_,hx⟩
 cases hf:lget (tableP c).funs x with
 | none=>rw [fbody_none hf] at hx;simp [ex0,readsP,readsPs,readsPa] at hx
 | some f =>
  rw [fbody_some hf] at hx
  have hg:=fun_good (C:=⟨(tableP c).funs,[]⟩) (sound_of hR) hf
  have a4:=nodup_app hg.nodup
  have:=quiet_typed (sound_of (inp:=[]) hR).dNo (fun n=>by rw [hR.inputs,hin];rfl) _ f.body (Nat.lt_succ_self _) (scopeP f.params) f.result a4.2.1 (fun m hm=>by
   rw [scopeP_eq,putAll_get (fun hp=>a4.2.2 m hp hm)];rfl) hg.ty
  rw [this] at hx;cases hx
theorem call_add {c:Core} {o:Bs} {f:Fun} {v:Val} {g1 g2:Nat} (h0:lookP c=0) (hin:c.inputs=[]) (hf:lget (tableP c).funs o=some f) (hp:f.params=[])
  (h:callP (evalF ⟨(tableP c).funs,[]⟩) f [] g1=.ok v g2) (hg:g1≤4000) (hl:largeP v=false):callAllP c o [] 4001=(v,((g1 - g2+1:Nat):Int),0):=by
 have hlt:=call_lt h
 have h2:=call_fuel h (4000 - (g1 - g2))
 rw [show g1 - g2+(4000 - (g1 - g2))=(4001:Int).toNat - 1 by simp;omega] at h2
 rw [callAll_end h0 (by omega) hf (by rw [hp];rfl) (quiet_all (look_right h0) hin o),callEnd_ok (by decide) h2 hl]
 simp only [Prod.mk.injEq,true_and,and_true]
 simp;omega
noncomputable def costP (c:Core) (o:Bs):Int:=(callAllP c o [] 4001).2.1
theorem adds_all {c:Core} (h0:lookP c=0) (hin:c.inputs=[]):∀{os:List Bs} {g r:Nat} {vs:List Val},(∀o∈os,o∈c.outputs)→g≤4000→outsP ⟨(tableP c).funs,[]⟩ os g=.ok vs r→vs.any largeP=false →
  All2 (fun o v=>(callAllP c o [] 4001).1=v∧(callAllP c o [] 4001).2.2=0∧0≤costP c o∧costP c o≤4001) os vs∧(os.map (costP c)).sum=((g - r:Nat):Int)+os.length∧r≤g
 | [],g,r,vs,_,_,h,_=>by
  simp only [outsP,Ev.ok.injEq] at h
  obtain ⟨rfl,rfl⟩:=h
  exact ⟨trivial,by simp,Nat.le_refl _⟩
 | o::os,g,r,vs,ho,hg,h,hl=>by
  obtain ⟨f,hf,hp⟩:=outsOk_get (look_right h0).oOk o (ho o List.mem_cons_self)
  rw [outs_cons hf] at h
  obtain ⟨v,g1,e1,e2⟩:=Ev.bind_ok h
  obtain ⟨l,g2,e3,e4⟩:=Ev.bind_ok e2
  simp only [Ev.ok.injEq] at e4
  obtain ⟨rfl,rfl⟩:=e4
  simp only [List.any_cons,Bool.or_eq_false_iff] at hl
  have hlt:=call_lt e1
  obtain ⟨k1,k2,k3⟩:=adds_all h0 hin (fun x hx=>ho x (List.mem_cons_of_mem _ hx)) (by omega) e3 hl.2
  have hc:=call_add h0 hin hf hp e1 hg hl.1
  refine ⟨⟨⟨by rw [hc],by rw [hc],by simp only [costP,hc];omega,by simp only [costP,hc];omega⟩,k1⟩,?_,by omega⟩
  simp only [List.map_cons,List.sum_cons,k2,List.length_cons,costP,hc]
  omega
theorem adds_law {c:Core} {o:Outcome} (h:runP c [] 4000=(o,0)):∃vs,o.outputs=namesP c.outputs vs∧All2 (fun n v=>(callAllP c n [] 4001).1=v∧(callAllP c n [] 4001).2.2=0∧0≤costP c n∧costP c n≤4001) c.outputs vs ∧
  (c.outputs.map (costP c)).sum=o.steps+c.outputs.length:=by
 obtain ⟨k0,_,_,k3,vs,g,k4,k5,rfl⟩:=run_ok_inv h
 have hin:c.inputs=[]:=by
  cases hc:c.inputs with
  | nil=>rfl
  | cons p ps=>rw [hc] at k3;cases k3
 obtain ⟨a1,a2,_⟩:=adds_all k0 hin (fun _ h=>h) (by decide) (show outsP ⟨(tableP c).funs,[]⟩ c.outputs (4000:Int).toNat=.ok vs g from k4) k5
 exact ⟨vs,rfl,a1,a2⟩
theorem fun_get {c:Core} (hR:Right c) {f:Fun} (hf:f∈c.funs):lget (tableP c).funs f.name=some f:=by
 rw [hR.funs];exact ents_get (val:=id) hR.fU hf
theorem check_value {c:Core} (h0:lookP c=0) {f:Fun} (hf:f∈c.funs) {v:Val} (hl:largeP v=false) (hv:hasP (tableP c) v f.result=true):checkValueP c f.result v=0:=by
 have h1:=(look_right h0).fOk f hf
 simp only [funOk,Bool.and_eq_true] at h1
 unfold checkValueP
 rw [if_neg (not_not_intro h0),if_neg (by rw [h1.1.1.2];decide),if_neg (by rw [hl];decide),if_neg (by rw [hv];decide)]
theorem any_get {vs:List Val} (h:vs.any largeP=false) {i:Nat} {v:Val} (hv:vs[i]? = some v):largeP v=false:=by
 have:=List.any_eq_false.1 h v (List.mem_of_getElem? hv)
 simpa using this
theorem kept_run {c:Core} {l:List Named} {a:Int} {o:Outcome} (h:runP c l a=(o,0)):o.outputs.length=c.outputs.length∧∀(i:Nat) (x:Named) (f:Fun),o.outputs[i]? = some x→f∈c.funs→f.name=x.name→checkValueP c f.result x.value=0:=by
 obtain ⟨k0,_,_,k3,vs,g,k4,k5,rfl⟩:=run_ok_inv h
 have hR:=look_right k0
 have h2:=(outs_ok hR (given_closed hR k3) (fun _ h=>h) a.toNat).2 _ _ k4
 have hlen:=All2.length h2
 refine ⟨by simp [namesP,hlen],fun i x f hx hf hn =>?_⟩
 have hi:i < c.outputs.length:=by
  have:=(List.getElem?_eq_some_iff.1 hx).1
  simp only [namesP,List.length_zipWith] at this;omega
 obtain ⟨n,hn1⟩:=at_of_lt hi
 obtain ⟨v,hv1⟩:=at_of_lt (l:=vs) (i:=i) (by omega)
 have he:(namesP c.outputs vs)[i]? = some x:=hx
 rw [names_get hn1 hv1] at he
 simp only [Option.some.injEq] at he
 subst he
 obtain ⟨f',h3,h4⟩:=All2.get h2 hn1 hv1
 rw [← (show f.name=n from hn),fun_get hR hf] at h3
 simp only [Option.some.injEq] at h3
 subst h3
 exact check_value k0 hf (any_get k5 hv1) h4
theorem callEnd_inv {r:Nat→Ev Val} {fu:Nat} {v:Val} {g:Nat} (h:callEnd r fu=.ok (v,g)):r (fu - 1)=.ok v g∧largeP v=false:=by
 unfold callEnd at h
 split at h
 ·cases h
 split at h
 ·rename_i he
  split at h
  ·cases h
  ·rename_i hl
   cases h;exact ⟨he,by simpa using hl⟩
 ·cases h
theorem kept_call {c:Core} {name:Bs} {args:List Val} {fuel:Int} {f:Fun} (h:(callAllP c name args fuel).2.2=0) (hf:f∈c.funs) (hn:f.name=name):checkValueP c f.result (callAllP c name args fuel).1=0:=by
 by_cases h0:lookP c=0
 ·have hR:=look_right h0
  by_cases h1:fuel < 0∨200000 < fuel
  ·rw [callAll_fuel h0 h1] at h;cases h
  ·have hg:=fun_get hR hf
   rw [hn] at hg
   by_cases h2:givenA (tableP c) args f.params=true
   ·by_cases h3:ReadsAny (tableP c) name
    ·rw [callAll_reads h0 h1 hg h2 h3] at h;cases h
    ·rw [callAll_end h0 h1 hg h2 h3] at h ⊢
     split at h
     ·rename_i v g he
      simp only [he]
      obtain ⟨e1,e2⟩:=callEnd_inv he
      exact check_value h0 hf e2 ((callP_ok hR (quiet_closed (tableP c)) hg (body_quiet hg h3) (given_all h2) _).2 _ _ e1)
     ·rename_i e he
      exact absurd (Int.natCast_eq_zero.1 h) (callEnd_err he)
   ·rw [callAll_given h0 h1 hg (by simpa using h2)] at h;cases h
 ·rw [callAll_look h0] at h;exact absurd h h0
end Go.Sw
