import Derived.Recover
import Derived.Test.YtghdfphedgcpdaaGreatDoorProg
import Derived.ChangeArms
import Derived.OpenShut
import Derived.Deep.Slices
import Derived.Test.YtghdfphedgcpdaaGreatDoorCards
import Derived.Test.YtghdfphedgcpdaaGreatDoorTie
import Derived.PinnedBridge
import Derived.Lay
import Derived.LaidOnce
import Derived.SevenTiedAt
import Derived.HandedShaped
import Derived.Carry
import Derived.ProofKit
import Derived.Shelf.Vars
import Derived.Stop.LaidErr
import Derived.Lib.LaidTab
import Derived.JoinedOf
import Derived.Test.YtghdfphedgcpdaaGreatDoorZ00
import Derived.Test.YtghdfphedgcpdaaGreatDoorZ01
import Derived.Test.YtghdfphedgcpdaaGreatDoorZ02
set_option linter.unusedVariables false
set_option linter.unusedSimpArgs false
namespace Go.Sw
open Go.Proofs.Tryz
open Go.Proofs
theorem enterD {P:Program} {n:Nat} {w:World} {f:FuncId} {fn:Func} {c:Code} {vs:List Value} {R:Ending→World→Prop} (hf:P.funcs[f]? = some fn) (hb:fn.body=some c) (hn:fn.ntmps=n) (hl:Nat.ble vs.length n=true)
  (k:∀Q:Exit→Act→World→Prop,(∀e a w,bodyPostD P fn R e a w→Q e a w)→∀a,EnvR n (aP 0 vs) [] a→c.wp P Q a w):Calls P f vs.toArray w R:=by
 have hl':vs.length≤n:=by simpa using hl
 refine calls_of_wp_defers hf hb (k _ (fun _ _ _ h=>h) _ ⟨by simp [hn];omega,fun t v ht =>?_,rfl⟩)
 obtain ⟨_,h2⟩:=nZ vs 0 t v ht
 simp only [Nat.sub_zero] at h2
 have hlt:t < vs.length:=(List.getElem?_eq_some_iff.1 h2).1
 simp only [List.getElem?_toArray,Array.getElem?_append,List.size_toArray,hlt,↓reduceIte]
 exact h2
abbrev spentV:Value:=.iface 160 (.agg (List.toArray []))
set_option maxRecDepth 20000 in
set_option maxHeartbeats 4000000 in
theorem y9y {Φ:Fz} {K:List Res} {w:World} {b:Nat} (hm:Mem Φ (.blk b (ob [.int .i64 ((0:Nat):Int)] 29)::K) w) :
  CallsD prog 94 #[.pointer (some ⟨b,0,none⟩)] (.panicking (sB ())) w fun e u' w' =>
   e=.returned (.tuple #[])∧u'=.panicking [{ v:=spentV,recovered:=true }]∧Mem Φ (.blk b (ob [.int .i64 ((4:Nat):Int)] 29)::K) w':=by
 generalize hR:(fun (e:Ending) (u':FrameMode) (w':World)=>e=.returned (.tuple #[])∧u'=.panicking [{ v:=spentV,recovered:=true }]∧Mem Φ (.blk b (ob [.int .i64 ((4:Nat):Int)] 29)::K) w')=R
 refine callsD_of_wpS func94 rfl fun c₀ cs hu =>?_
 apply wpS_seq
 apply wpS_region
 show wpOpsS prog _ _ [0,1] _ _ _
 simp [wpOpsS,go_sem,recoverD,hu,ntmps94,Exit.thenS,sB]
 refine wpS_of_wp ?_
 generalize hc:(_::cs:List Frame)=cs'
 have hQ:∀(a:Act) (w':World),a.defers=[]→Mem Φ (.blk b (ob [.int .i64 ((4:Nat):Int)] 29)::K) w'→bodyPostS prog Tryz.f94 c₀ cs R .normal a cs' w':=fun a w' hd hm =>
  ⟨hd,.panicking [{ v:=spentV,recovered:=true }],hc.symm,.tuple #[],results_none rfl _ _ _,by subst hR;exact ⟨rfl,rfl,hm⟩⟩
 generalize hact:(Act.mk _ [])=a
 have he:EnvR 15 [(1,spentV),(0,.pointer (some ⟨b,0,none⟩))] [] a:=by
  subst hact
  refine ⟨rfl,fun t v h =>?_,rfl⟩
  obtain ⟨rfl,rfl⟩ | ⟨_,h⟩:=kA h
  ·rfl
  ·obtain ⟨rfl,rfl⟩ | ⟨_,h⟩:=kA h
   ·rfl
   ·cases h
 clear hact
 refine sq fun L1 hL1 =>?_
 refine wp_region_lit ?_
 refine jG he (qQ he rfl) rfl fun a he =>?_
 refine jG he (aO (v:=.bool true) he rfl rfl rfl (by kernel_rfl)) rfl fun a he =>?_
 refine wpList_nil ?_
 refine hL1 _ _ ?_
 refine if_t he rfl ?_
 refine sq fun L2 hL2 =>?_
 refine sq fun L3 hL3 =>?_
 refine wp_region_lit ?_
 refine jG he (qQ he rfl) rfl fun a he =>?_
 refine jG he (y2y he rfl runUnderlying160 (by intro ms h;cases h)) rfl fun a he =>?_
 refine jG he (qQ he rfl) rfl fun a he =>
  jG he (nU he rfl rfl) rfl fun a he =>
  jG he (nU he rfl rfl) rfl fun a he =>?_
 refine st he rfl rfl rfl (yG (cs:=[]) hm zeroValue160 rfl fun b2 w hm a he =>?_)
 refine st0 he rfl rfl (zP 0 (cs:=[]) (vs:=[]) he hm rfl rfl rfl rfl sizeOf160 rfl rfl rfl fun w hm a he =>?_)
 refine jG he (vJ he rfl) rfl fun a he =>?_
 refine wpList_nil ?_
 refine hL3 _ _ ?_
 refine sq fun L4 hL4 =>?_
 refine wp_region_lit ?_
 refine jG he (qQ he rfl) rfl fun a he =>
  jG he (uC he rfl) rfl fun a he =>?_
 refine wpList_nil ?_
 refine hL4 _ _ ?_
 refine if_f he rfl ?_
 refine wp_skip ?_
 refine hL2 _ _ ?_
 refine wp_region_lit ?_
 refine st0 he rfl rfl (zP 1 (cs:=[.int .i64 ((0:Nat):Int)]) (vs:=[.int .i64 ((4:Nat):Int)]) he hm rfl rfl rfl rfl sizeOf29 rfl rfl rfl fun w hm a he =>?_)
 refine wpList_nil ?_
 replace hm:Mem Φ (.blk b (ob [.int .i64 ((4:Nat):Int)] 29)::K) w:=hm.del 0
 exact hQ _ _ he.defs hm
set_option maxRecDepth 20000 in
theorem catch_idle {w:World} {b:Nat} :
  CallsD prog 94 #[.pointer (some ⟨b,0,none⟩)] .returning w fun e u' w'=>e=.returned (.tuple #[])∧u'=.returning∧w'=w:=by
 generalize hR:(fun (e:Ending) (u':FrameMode) (w':World)=>e=.returned (.tuple #[])∧u'=.returning∧w'=w)=R
 refine callsD_of_wpS func94 rfl fun c₀ cs hu =>?_
 apply wpS_seq
 apply wpS_region
 show wpOpsS prog _ _ [0,1] _ _ _
 simp [wpOpsS,go_sem,recoverD,hu,ntmps94,Exit.thenS,sB]
 refine wpS_of_wp ?_
 have hQ:∀(a:Act),a.defers=[]→bodyPostS prog Tryz.f94 c₀ cs R .normal a (c₀::cs) w:=fun a hd =>
  ⟨hd,.returning,by cases c₀;simp only at hu;subst hu;rfl,.tuple #[],results_none rfl _ _ _,by subst hR;exact ⟨rfl,rfl,rfl⟩⟩
 generalize hact:(Act.mk _ [])=a
 have he:EnvR 15 [(1,.nilIface),(0,.pointer (some ⟨b,0,none⟩))] [] a:=by
  subst hact
  refine ⟨rfl,fun t v h =>?_,rfl⟩
  obtain ⟨rfl,rfl⟩ | ⟨_,h⟩:=kA h
  ·rfl
  ·obtain ⟨rfl,rfl⟩ | ⟨_,h⟩:=kA h
   ·rfl
   ·cases h
 clear hact
 refine sq fun L1 hL1 =>?_
 refine wp_region_lit ?_
 refine jG he (qQ he rfl) rfl fun a he =>?_
 refine jG he (aO (v:=.bool false) he rfl rfl rfl (by kernel_rfl)) rfl fun a he =>?_
 refine wpList_nil ?_
 refine hL1 _ _ ?_
 refine if_f he rfl ?_
 refine wp_skip ?_
 exact hQ _ he.defs
set_option maxRecDepth 20000 in
set_option maxHeartbeats 1000000 in
theorem j4b {α β:Type} {r:Except Nat α} {g:FuncId} {cs:List Value} {Φ:Fz} {K0 K:List Res} {w:World} {F:α→β→Fz} {KO:α→β→List Res} {G:α→β→Prop}
  (hg:∀args w,(callFunc g args).run prog w=.ok (.enter g args) w)
  (hf:∀b w,Mem Φ (.blk b (ob [.int .i64 ((0:Nat):Int)] 29)::K0) w→Calls prog g cs.toArray w (fun e w'=>Out r
   (fun x=>∃y,e=.returned (.int .i64 ((0:Nat):Int))∧G x y∧Mem (F x y) (.blk b (ob [.int .i64 ((0:Nat):Int)] 29)::KO x y) w')
   (fun c=>(e=.returned (.int .i64 ((c:Nat):Int))∨c=4∧e=.panicked (sB ()))∧Mem Φ (.blk b (ob [.int .i64 ((0:Nat):Int)] 29)::K) w')))
  (hm:Mem Φ K0 w):Calls prog 55 (List.toArray [.func (.func g) (List.toArray []) cs.toArray]) w (fun e w'=>Out r
   (fun x=>∃y,e=.returned (.int .i64 ((0:Nat):Int))∧G x y∧Mem (F x y) (KO x y) w')
   (fun c=>e=.returned (.int .i64 ((c:Nat):Int))∧Mem Φ K w')):=by
 refine enterD func55 rfl ntmps55 rfl (fun Q hQ a he =>?_)
 refine sq fun L1 hL1 =>?_
 refine wp_region_lit ?_
 refine st he rfl rfl rfl (yG (cs:=[.int .i64 ((0:Nat):Int)]) hm zeroValue29 rfl fun b w hm a he =>?_)
 refine wpList_nil ?_
 refine hL1 _ _ ?_
 refine sq fun L2 hL2 =>?_
 refine wp_region_lit ?_
 refine jG he (sP (vfs:=[]) (vcs:=[.pointer (some ⟨b,0,none⟩)]) he rfl rfl) rfl fun a he =>?_
 refine tV (fs:=[]) (cs:=[.pointer (some ⟨b,0,none⟩)]) (vs:=[]) he rfl rfl fun a he =>?_
 refine wpList_nil ?_
 refine hL2 _ _ ?_
 refine sq fun L3 hL3 =>?_
 refine wp_region_lit ?_
 refine jG he (qQ he rfl) rfl fun a he =>?_
 have hret:∀(a:Act) (w:World) (c:Int) (Φ1:Fz) (K1:List Res) (E:List (Nat×Value)),EnvR 6 E [{ target:=.fn (.func 94) #[.pointer (some ⟨b,0,none⟩)],args:=#[] }] a→get E 2=some (.pointer (some ⟨b,0,none⟩)) →
   Mem Φ1 (.blk b (ob [.int .i64 c] 29)::K1) w →
   (Out r (fun x=>∃y,Ending.returned (.int .i64 c)=.returned (.int .i64 ((0:Nat):Int))∧G x y∧Mem (F x y) (KO x y) w) (fun c'=>Ending.returned (.int .i64 c)=.returned (.int .i64 ((c':Nat):Int))∧Mem Φ K w))→Q .ret a w:=by
  intro a w c Φ1 K1 E he hg hm hR
  refine hQ _ _ _ ?_
  show Leaves _ _ _ _ a.defers _ _
  rw [he.defs]
  refine leaves_cons (f:=94) (args:=#[.pointer (some ⟨b,0,none⟩)]) (by simp) (call94 _ _) ?_
  refine catch_idle.mono ?_
  rintro e u' w'' ⟨rfl,rfl,rfl⟩
  exact ⟨.int .i64 c,oX (i:=0) he hm.toSees results55 hg rfl rfl isAgg29,hR⟩
 have hpan:∀(a:Act) (w:World) (E:List (Nat×Value)),EnvR 6 E [{ target:=.fn (.func 94) #[.pointer (some ⟨b,0,none⟩)],args:=#[] }] a→get E 2=some (.pointer (some ⟨b,0,none⟩)) →
   Mem Φ (.blk b (ob [.int .i64 ((0:Nat):Int)] 29)::K) w→r=.error 4→Q (.panic (sB ())) a w:=by
  intro a w E he hg hm hr
  refine hQ _ _ _ ?_
  show Leaves _ _ _ _ a.defers _ _
  rw [he.defs]
  refine leaves_cons (f:=94) (args:=#[.pointer (some ⟨b,0,none⟩)]) (by simp) (call94 _ _) ?_
  refine (y9y hm).mono ?_
  rintro e u' w'' ⟨rfl,rfl,hm⟩
  refine ⟨.int .i64 ((4:Nat):Int),oX (i:=0) he hm.toSees results55 hg rfl rfl isAgg29,?_⟩
  subst hr
  exact ⟨rfl,hm.del 0⟩
 refine stP he rfl rfl rfl (z3z he rfl rfl hg (hf b w hm) (fun v w h a he =>?_) (fun c w h a he =>?_) (fun w h =>?_))
 ·cases hr:r with
  | ok x =>
   rw [hr] at h
   obtain ⟨y,h1,h2,hm⟩:=h
   cases h1
   refine st0 he rfl rfl (zP 0 (cs:=[.int .i64 ((0:Nat):Int)]) (vs:=[.int .i64 ((0:Nat):Int)]) he hm rfl rfl rfl rfl sizeOf29 rfl rfl rfl fun w hm a he =>?_)
   refine wpList_nil ?_
   refine hL3 _ _ ?_
   refine wp_ret ?_
   exact hret a w _ _ (KO x y) _ he rfl hm (by rw [hr];exact ⟨y,rfl,h2,hm.del 0⟩)
  | error c =>
   rw [hr] at h
   obtain ⟨h1 | h1,hm⟩:=h
   ·cases h1
    refine st0 he rfl rfl (zP 0 (cs:=[.int .i64 ((0:Nat):Int)]) (vs:=[.int .i64 ((c:Nat):Int)]) he hm rfl rfl rfl rfl sizeOf29 rfl rfl rfl fun w hm a he =>?_)
    refine wpList_nil ?_
    refine hL3 _ _ ?_
    refine wp_ret ?_
    exact hret a w _ _ K _ he rfl hm (by rw [hr];exact ⟨rfl,hm.del 0⟩)
   ·cases h1.2
 ·cases hr:r with
  | ok x =>
   rw [hr] at h
   obtain ⟨y,h1,_⟩:=h
   cases h1
  | error c' =>
   rw [hr] at h
   obtain ⟨h1 | h1,hm⟩:=h
   ·cases h1
   ·obtain ⟨rfl,h1⟩:=h1
    cases h1
    exact hpan a w _ he rfl hm hr
 ·cases hr:r with
  | ok x=>rw [hr] at h;obtain ⟨y,h1,_⟩:=h;cases h1
  | error c' =>
   rw [hr] at h
   obtain ⟨h1 | h1,hm⟩:=h
   ·cases h1
   ·cases h1.2
end Go.Sw

namespace Go.Sw
open Go.Proofs
structure Outcome where
 outputs:List Named
 steps:Int
def ROutcome (Φ:Fz) (cs:List Value) (o:Outcome):Prop:=∃s,cs=[s,.int .i64 o.steps]∧SliceOf RNamed Φ 4 s o.outputs
theorem ROutcome.mono (Φ Ψ:Fz) (c:List Value) (x:Outcome) (hl:Φ.Le Ψ) (h:ROutcome Φ c x):ROutcome Ψ c x:=let ⟨s,h1,h2⟩:=h;⟨s,h1,h2.mono RNamed.mono hl⟩
def y8j:Outcome:=⟨[],0⟩
def kH (os:List Bs) (xs:List Val):List Named:=List.zipWith Named.mk os xs
theorem z4t {os:List Bs} {xs:List Val} {i:Nat} {o:Bs} {x:Val} (h1:os[i]? = some o) (h2:xs[i]? = some x):(kH os xs)[i]? = some ⟨o,x⟩:=by
 simp [kH,List.getElem?_zipWith,h1,h2]
theorem j2o {os:List Bs} {xs:List Val} {i:Nat} (h:¬i < xs.length):(kH os xs).take i=kH os xs:=List.take_of_length_le (by simp [kH];omega)
theorem cC {C:Ctx} {o:Bs} {os:List Bs} {f:Fun} {g:Nat} (h:zH C.funs o=some f):vB C (o::os) g=(pI (jJ C) f [] g).bind fun v g=>(vB C os g).bind fun l g=>.ok (v::l) g:=by
 simp only [vB,h]
theorem y1h {C:Ctx} {o:Bs} {os:List Bs} {g:Nat} (h:zH C.funs o=none):vB C (o::os) g=.stuck:=by
 simp only [vB,h]
theorem yE {C:Ctx} {o:Bs} {os:List Bs} {f:Fun} {g1 g2:Nat} {z:Val} {xs:List Val} (h:zH C.funs o=some f) (hv:pI (jJ C) f [] g1=.ok z g2) :
  (vB C (o::os) g1).bind (fun vs g=>.ok (xs++vs) g)=(vB C os g2).bind fun vs g=>.ok ((xs++[z])++vs) g:=by
 rw [cC h,hv]
 simp only [Ev.bind]
 cases vB C os g2 <;> simp
theorem aV {C:Ctx} {o:Bs} {os:List Bs} {f:Fun} {g1:Nat} {xs:List Val} (h:zH C.funs o=some f) (hv:pI (jJ C) f [] g1=.spent) :
  (vB C (o::os) g1).bind (fun vs g=>.ok (xs++vs) g)=.spent:=by
 rw [cC h,hv];rfl
theorem q2b {C:Ctx} {g1:Nat} {xs:List Val}:(vB C [] g1).bind (fun vs g=>.ok (xs++vs) g)=.ok xs g1:=by simp [vB,Ev.bind]
def z4a (r:Ev (List Val)):Except Nat (List Val×Nat):=match r with
 | .ok vs g=>if vs.any cX then .error 7 else .ok (vs,g)
 | _=>.error 4
theorem q4l {r:Ev (List Val)} {vs:List Val} {g:Nat} (h:r=.ok vs g) (hl:vs.any cX=true):z4a r=.error 7:=by subst h;simp only [z4a,hl,if_true]
theorem endP_ok {r:Ev (List Val)} {vs:List Val} {g:Nat} (h:r=.ok vs g) (hl:vs.any cX=false):z4a r=.ok (vs,g):=by subst h;simp only [z4a,hl];rfl
theorem oK {r:Ev (List Val)} (h:r=.spent):z4a r=.error 4:=by subst h;rfl
theorem endOut {r:Except Nat (List Val×Nat)} {x:List Val×Nat} {A:List Val×Nat→Prop} {B:Nat→Prop} (h:r=.ok x) (hA:A x):Out r A B:=by subst h;exact hA
theorem z1v {r:Except Nat (List Val×Nat)} {x:Nat} {A:List Val×Nat→Prop} {B:Nat→Prop} (h:r=.error x) (hB:B x):Out r A B:=by subst h;exact hB
theorem evN_ok {r:Ev (List Val)} {x:List Val×Nat} (h:z4a r=.ok x):r=.ok x.1 x.2∧x.1.any cX=false:=by
 cases r with
 | ok vs g =>
  simp only [z4a] at h
  split at h
  ·cases h
  ·rename_i hl;cases h;exact ⟨rfl,by simpa using hl⟩
 | spent=>cases h
 | stuck=>cases h
def mR (c:Core) (l:List Named) (fuel:Int):Outcome×Int :=
 if yC c≠0 then (y8j,yC c)
 else if fuel < 0∨200000 < fuel then (y8j,1)
 else if aH (zR c) l c.inputs=false then (y8j,8)
 else match z4a (vB ⟨(zR c).funs,z6r l⟩ c.outputs fuel.toNat) with
  | .ok (vs,g)=>(⟨kH c.outputs vs,((fuel.toNat - g:Nat):Int)⟩,0)
  | .error e=>(y8j,((e:Nat):Int))
theorem qE (l:List Int) (x:Int):uY (l++[x])=uY l++[.int .i64 x]:=by simp [uY]
end Go.Sw

namespace Go.Sw
open Go.Proofs.Tryz
open Go.Proofs
def Fz.whole (W:World):Fz:=⟨fun b=>W.heap[b]?,W.os,W.output⟩
theorem Mem.whole (W:World):Mem (Fz.whole W) [] W :=
 { fz:=fun _ _ h=>h,own:=fun _ h=>(by cases h),os:=rfl,out:=rfl,nodup:=List.nodup_nil,apart:=fun _ h=>(by cases h) }
theorem z8r {W:World} {a:Addr} {v:Value} (h:W.cell? a=some v):a.spot=none∧∃arr T fr,W.heap[a.block]? = some (.cells arr T fr)∧arr[a.off]? = some v:=by
 unfold World.cell? at h
 split at h
 ·rename_i c T fr he
  split at h
  ·cases h
  ·rename_i hs
   refine ⟨?_,c,T,fr,he,h⟩
   cases hq:a.spot with
   | none=>rfl
   | some x=>simp [hq] at hs
 ·cases h
theorem y9s {W:World} {a:Addr} {cells:List Value} (hne:cells≠[]) (h:∀(j:Nat) (v:Value),cells[j]? = some v→W.cell? (a.add j)=some v):At (Fz.whole W) a cells:=by
 obtain ⟨v0,r,rfl⟩:=List.exists_cons_of_ne_nil hne
 obtain ⟨hs,arr,T,fr,hb,h0⟩:=z8r (h 0 v0 rfl)
 rw [show a.add 0=a from rfl] at hs hb h0
 refine ⟨hs,arr,T,fr,hb,fun j v hj =>?_⟩
 obtain ⟨_,arr',T',fr',hb',h1⟩:=z8r (h j v hj)
 have eb:(a.add j).block=a.block:=by unfold Addr.add;split <;> rfl
 have eo:(a.add j).off=a.off+j:=by unfold Addr.add;split <;> simp_all
 rw [eb,hb] at hb'
 simp only [Option.some.injEq,Obj.cells.injEq] at hb'
 rw [eo,← hb'.1] at h1
 exact h1
section
variable {H:Type} {enc:TypeId×Value→H} {W:World}
noncomputable abbrev trd (enc:TypeId×Value→H) (W:World) (n:Nat) (t:TypeId) (cs:List Value):=DataW.trod enc prog W 0 (fun _=>true) true n t cs
theorem wA {α:Type} {R:Fz→List Value→α→Prop} {t e:TypeId} {k fuel:Nat} {cs:List Value} {x:DataW H×List MemPlace} (ht:prog.underlying t=some (.slice e)) (hc:prog.cellsOf e=k) (hk:0 < k)
  (IH:∀m,m < fuel→∀cs x,trd enc W m e cs=some x→∃a:α,R (Fz.whole W) cs a) (h:trd enc W fuel t cs=some x):∃v l,cs=[v]∧SliceOf R (Fz.whole W) k v l:=by
 rcases DataW.trod_slice ht h with ⟨rfl,_⟩ | ⟨a,len,cap,elems,rest,n,rfl,rfl,_,_,hl,hm,hlen,hel,_⟩
 ·exact ⟨_,[],rfl,SliceOf.nil k⟩
 ·rw [hc] at hel
  have key:∀m,m≤len→∃(cells:List Value) (l:List α),cells.length=m * k∧Chunks (R (Fz.whole W)) k cells l∧∀(j:Nat) (v:Value),cells[j]? = some v→W.cell? (a.add j)=some v:=by
   intro m
   induction m with
   | zero=>exact fun _=>⟨[],[],by simp,rfl,fun j v hj=>by simp at hj⟩
   | succ m ih =>
    intro hm'
    obtain ⟨cells,l,h1,h2,h3⟩:=ih (by omega)
    have he:=hel m (by omega)
    rw [List.getElem?_eq_getElem (by omega)] at he
    obtain ⟨cs',e1,e2⟩:=Option.bind_eq_some_iff.1 he
    obtain ⟨_,hlc,hcell⟩:=World.cells?_some e1
    obtain ⟨y,hy⟩:=IH n (Nat.lt_succ_self n) cs' _ e2
    refine ⟨cells++cs',l++[y],by rw [List.length_append,h1,hlc,Nat.succ_mul],h2.snoc hlc hy,fun j v hj =>?_⟩
    by_cases hlt:j < cells.length
    ·rw [List.getElem?_append_left hlt] at hj
     exact h3 j v hj
    ·rw [List.getElem?_append_right (by omega)] at hj
     have hj2:j - cells.length < k:=by
      have:=(List.getElem?_eq_some_iff.1 hj).1
      omega
     have:=hcell (j - cells.length) hj2
     rw [Deep.add_add,hj] at this
     rw [h1] at this hlt hj2
     rw [show m * k+(j - m * k)=j by omega] at this
     exact this
  obtain ⟨cells,l,h1,h2,h3⟩:=key len (Nat.le_refl _)
  exact ⟨_,l,rfl,cells,.inr ⟨a,len,cap,rfl,h1,by omega,fun hne=>y9s hne h3⟩,h2⟩
theorem qV {α:Type} {l:List α} {n:Nat} (h:l.length=n+1):∃a r,l=a::r∧r.length=n:=by
 cases l with
 | nil=>cases h
 | cons a r=>exact ⟨a,r,rfl,by simpa using h⟩
theorem i64_of {n:Int} (h:(Lit.int .i64 n).wf=true):I64 n:=by
 simp only [Lit.wf,Bool.and_eq_true,decide_eq_true_eq] at h
 have h1:=h.1
 have h2:=h.2
 simp [IntKind.min,IntKind.max,IntKind.signed,IntKind.bits] at h1 h2
 exact ⟨by omega,by omega⟩
theorem pC {n:Nat} {cs:List Value} {x:DataW H×List MemPlace} (h:trd enc W n 9 cs=some x):∃s:Bs,cs=[.string s]:=by
 obtain ⟨s,h1,_⟩:=DataW.trod_string underlying9 h
 exact ⟨s,h1⟩
theorem j3v {n:Nat} {cs:List Value} {x:DataW H×List MemPlace} (h:trd enc W n 9 cs=some x):∃s:Bs,RStr (Fz.whole W) cs s:=pC h
theorem y0a {n:Nat} {cs:List Value} {x:DataW H×List MemPlace} (h:trd enc W n 3 cs=some x):∃i:Int,cs=[.int .i64 i]∧I64 i:=by
 obtain ⟨i,h1,_,h2⟩:=DataW.trod_int underlying3 h
 exact ⟨i,h1,i64_of h2⟩
theorem mX {t:TypeId} {fs:Array Field} {n:Nat} {cs:List Value} {x:DataW H×List MemPlace} (ht:prog.underlying t=some (.struct fs)) (h:trd enc W n t cs=some x) :
  ∃m,n=m+1∧cs.length=prog.cellsOf t∧∀(i:Nat) (u:TypeId) (o:Nat),(fs[i]?).map (fun f=>(f.type,f.offset))=some (u,o)→∃y,trd enc W m u ((cs.drop o).take (prog.cellsOf u))=some y:=by
 obtain ⟨xs,m,h1,_,h2,h3,h4⟩:=DataW.trod_struct ht h
 refine ⟨m,h1,h2,fun i u o hf =>?_⟩
 obtain ⟨f,hf2,e⟩:=Option.map_eq_some_iff.1 hf
 simp only [Prod.mk.injEq] at e
 obtain ⟨rfl,rfl⟩:=e
 have hi:i < xs.length:=by
  rw [h3]
  exact (Array.getElem?_eq_some_iff.1 hf2).1
 exact ⟨xs[i],by rw [← List.getElem?_eq_getElem hi];exact h4 i f hf2⟩
theorem c9:prog.cellsOf 9=1:=by kernel_rfl
theorem c3:prog.cellsOf 3=1:=by kernel_rfl
theorem c66:prog.cellsOf 110=5:=by kernel_rfl
theorem c195:prog.cellsOf 174=7:=by kernel_rfl
theorem c42:prog.cellsOf 58=3:=by kernel_rfl
theorem c62:prog.cellsOf 60=4:=by kernel_rfl
theorem c72:prog.cellsOf 36=2:=by kernel_rfl
theorem c135:prog.cellsOf 128=2:=by kernel_rfl
theorem c133:prog.cellsOf 126=2:=by kernel_rfl
theorem c68:prog.cellsOf 112=8:=by kernel_rfl
theorem c27:prog.cellsOf 27=4:=by kernel_rfl
theorem c25:prog.cellsOf 25=1:=by kernel_rfl
theorem c63:prog.cellsOf 107=1:=by kernel_rfl
theorem c64:prog.cellsOf 108=1:=by kernel_rfl
theorem c38:prog.cellsOf 56=1:=by kernel_rfl
theorem c23:prog.cellsOf 23=1:=by kernel_rfl
theorem c22:prog.cellsOf 22=1:=by kernel_rfl
theorem c24:prog.cellsOf 24=1:=by kernel_rfl
theorem c131:prog.cellsOf 124=1:=by kernel_rfl
theorem z5b {n:Nat} {cs:List Value} {x:DataW H×List MemPlace} (h:trd enc W n 25 cs=some x):∃v l,cs=[v]∧SliceOf RStr (Fz.whole W) 1 v l :=
 wA underlying25 c9 (by decide) (fun _ _ _ _ h=>j3v h) h
theorem j1d:∀(n:Nat) (cs:List Value) (x:DataW H×List MemPlace),trd enc W n 110 cs=some x→∃e:Ex,REx (Fz.whole W) cs e:=by
 intro n
 induction n using Nat.strongRecOn with
 | ind n ih =>
  intro cs x h
  obtain ⟨m,rfl,hl,hf⟩:=mX underlying110 h
  rw [c66] at hl
  obtain ⟨a0,r,rfl,hl1⟩:=qV hl
  obtain ⟨a1,r,rfl,hl2⟩:=qV hl1
  obtain ⟨a2,r,rfl,hl3⟩:=qV hl2
  obtain ⟨a3,r,rfl,hl4⟩:=qV hl3
  obtain ⟨a4,r,rfl,hl5⟩:=qV hl4
  obtain rfl:=List.eq_nil_of_length_eq_zero hl5
  obtain ⟨_,f0⟩:=hf 0 3 0 rfl
  obtain ⟨_,f1⟩:=hf 1 3 1 rfl
  obtain ⟨_,f2⟩:=hf 2 9 2 rfl
  obtain ⟨_,f3⟩:=hf 3 107 3 rfl
  obtain ⟨_,f4⟩:=hf 4 108 4 rfl
  simp only [c3,c9,c63,c64,List.drop_succ_cons,List.drop_zero,List.take_succ_cons,List.take_zero] at f0 f1 f2 f3 f4
  obtain ⟨k,e0,_⟩:=y0a f0
  obtain ⟨nm,e1,h1⟩:=y0a f1
  obtain ⟨s,e2⟩:=pC f2
  obtain ⟨v3,l3,e3,h3⟩:=wA (R:=REx) underlying107 c66 (by decide) (fun j hj cs x h=>ih j (by omega) cs x h) f3
  obtain ⟨v4,l4,e4,h4⟩:=wA (R:=RArm) underlying108 c195 (by decide) (fun j hj cs x h=>by
   obtain ⟨m',rfl,hl,hf⟩:=mX underlying174 h
   rw [c195] at hl
   obtain ⟨b0,r,rfl,hl6⟩:=qV hl
   obtain ⟨b1,r,rfl,hl7⟩:=qV hl6
   obtain ⟨_,g0⟩:=hf 0 9 0 rfl
   obtain ⟨_,g1⟩:=hf 1 25 1 rfl
   obtain ⟨_,g2⟩:=hf 2 110 2 rfl
   simp only [c9,c25,c66,List.drop_succ_cons,List.drop_zero,List.take_succ_cons,List.take_zero] at g0 g1 g2
   rw [List.take_of_length_le (by omega)] at g2
   obtain ⟨s,e0⟩:=pC g0
   obtain ⟨v1,l1,e1,h1⟩:=z5b g1
   obtain ⟨b,hb⟩:=ih m' (by omega) _ _ g2
   simp only [List.cons.injEq,and_true] at e0 e1
   subst e0 e1
   exact ⟨.mk s l1 b,⟨_,r,rfl,by omega,h1,hb⟩⟩) f4
  simp only [List.cons.injEq,and_true] at e0 e1 e2 e3 e4
  subst e0 e1 e2 e3 e4
  exact ⟨.mk k nm s l3 l4,REx.iff.2 ⟨_,_,rfl,h1,h3,h4⟩⟩
theorem q7p:∀(n:Nat) (cs:List Value) (x:DataW H×List MemPlace),trd enc W n 58 cs=some x→∃e:Val,RVal (Fz.whole W) cs e:=by
 intro n
 induction n using Nat.strongRecOn with
 | ind n ih =>
  intro cs x h
  obtain ⟨m,rfl,hl,hf⟩:=mX underlying58 h
  rw [c42] at hl
  obtain ⟨a0,r,rfl,hl8⟩:=qV hl
  obtain ⟨a1,r,rfl,hl9⟩:=qV hl8
  obtain ⟨a2,r,rfl,hl10⟩:=qV hl9
  obtain rfl:=List.eq_nil_of_length_eq_zero hl10
  obtain ⟨_,f0⟩:=hf 0 9 0 rfl
  obtain ⟨_,f1⟩:=hf 1 3 1 rfl
  obtain ⟨_,f2⟩:=hf 2 56 2 rfl
  simp only [c3,c9,c38,List.drop_succ_cons,List.drop_zero,List.take_succ_cons,List.take_zero] at f0 f1 f2
  obtain ⟨s,e0⟩:=pC f0
  obtain ⟨i,e1,h1⟩:=y0a f1
  obtain ⟨v,l,e2,h2⟩:=wA (R:=RVal) underlying56 c42 (by decide) (fun j hj cs x h=>ih j (by omega) cs x h) f2
  simp only [List.cons.injEq,and_true] at e0 e1 e2
  subst e0 e1 e2
  exact ⟨.mk s i l,RVal.iff.2 ⟨_,rfl,h1,h2⟩⟩
theorem q5z {n:Nat} {cs:List Value} {x:DataW H×List MemPlace} (h:trd enc W n 36 cs=some x):∃p:Param,RParam (Fz.whole W) cs p:=by
 obtain ⟨m,rfl,hl,hf⟩:=mX underlying36 h
 rw [c72] at hl
 obtain ⟨a0,r,rfl,hl11⟩:=qV hl
 obtain ⟨a1,r,rfl,hl12⟩:=qV hl11
 obtain rfl:=List.eq_nil_of_length_eq_zero hl12
 obtain ⟨_,f0⟩:=hf 0 9 0 rfl
 obtain ⟨_,f1⟩:=hf 1 9 1 rfl
 simp only [c9,List.drop_succ_cons,List.drop_zero,List.take_succ_cons,List.take_zero] at f0 f1
 obtain ⟨s,e0⟩:=pC f0
 obtain ⟨u,e1⟩:=pC f1
 simp only [List.cons.injEq,and_true] at e0 e1
 subst e0 e1
 exact ⟨⟨s,u⟩,rfl⟩
theorem j4w {n:Nat} {cs:List Value} {x:DataW H×List MemPlace} (h:trd enc W n 128 cs=some x):∃p:Con,RCon (Fz.whole W) cs p:=by
 obtain ⟨m,rfl,hl,hf⟩:=mX underlying128 h
 rw [c135] at hl
 obtain ⟨a0,r,rfl,hl13⟩:=qV hl
 obtain ⟨a1,r,rfl,hl14⟩:=qV hl13
 obtain rfl:=List.eq_nil_of_length_eq_zero hl14
 obtain ⟨_,f0⟩:=hf 0 9 0 rfl
 obtain ⟨_,f1⟩:=hf 1 25 1 rfl
 simp only [c9,c25,List.drop_succ_cons,List.drop_zero,List.take_succ_cons,List.take_zero] at f0 f1
 obtain ⟨s,e0⟩:=pC f0
 obtain ⟨v,l,e1,h1⟩:=z5b f1
 simp only [List.cons.injEq,and_true] at e0 e1
 subst e0 e1
 exact ⟨⟨s,l⟩,_,rfl,h1⟩
theorem j0m {n:Nat} {cs:List Value} {x:DataW H×List MemPlace} (h:trd enc W n 126 cs=some x):∃p:Data,RData (Fz.whole W) cs p:=by
 obtain ⟨m,rfl,hl,hf⟩:=mX underlying126 h
 rw [c133] at hl
 obtain ⟨a0,r,rfl,hl15⟩:=qV hl
 obtain ⟨a1,r,rfl,hl16⟩:=qV hl15
 obtain rfl:=List.eq_nil_of_length_eq_zero hl16
 obtain ⟨_,f0⟩:=hf 0 9 0 rfl
 obtain ⟨_,f1⟩:=hf 1 124 1 rfl
 simp only [c9,c131,List.drop_succ_cons,List.drop_zero,List.take_succ_cons,List.take_zero] at f0 f1
 obtain ⟨s,e0⟩:=pC f0
 obtain ⟨v,l,e1,h1⟩:=wA (R:=RCon) underlying124 c135 (by decide) (fun _ _ _ _ h=>j4w h) f1
 simp only [List.cons.injEq,and_true] at e0 e1
 subst e0 e1
 exact ⟨⟨s,l⟩,_,rfl,h1⟩
theorem z6e {n:Nat} {cs:List Value} {x:DataW H×List MemPlace} (h:trd enc W n 23 cs=some x):∃v l,cs=[v]∧SliceOf RParam (Fz.whole W) 2 v l :=
 wA underlying23 c72 (by decide) (fun _ _ _ _ h=>q5z h) h
theorem j7k {n:Nat} {cs:List Value} {x:DataW H×List MemPlace} (h:trd enc W n 112 cs=some x):∃p:Fun,RFun (Fz.whole W) cs p:=by
 obtain ⟨m,rfl,hl,hf⟩:=mX underlying112 h
 rw [c68] at hl
 obtain ⟨a0,r,rfl,hl17⟩:=qV hl
 obtain ⟨a1,r,rfl,hl18⟩:=qV hl17
 obtain ⟨a2,r,rfl,hl19⟩:=qV hl18
 obtain ⟨_,f0⟩:=hf 0 9 0 rfl
 obtain ⟨_,f1⟩:=hf 1 23 1 rfl
 obtain ⟨_,f2⟩:=hf 2 9 2 rfl
 obtain ⟨_,f3⟩:=hf 3 110 3 rfl
 simp only [c9,c23,c66,List.drop_succ_cons,List.drop_zero,List.take_succ_cons,List.take_zero] at f0 f1 f2 f3
 rw [List.take_of_length_le (by omega)] at f3
 obtain ⟨s,e0⟩:=pC f0
 obtain ⟨v,l,e1,h1⟩:=z6e f1
 obtain ⟨u,e2⟩:=pC f2
 obtain ⟨b,hb⟩:=j1d _ _ _ f3
 simp only [List.cons.injEq,and_true] at e0 e1 e2
 subst e0 e1 e2
 exact ⟨⟨s,l,u,b⟩,_,r,rfl,h1,hb⟩
theorem j0j {n:Nat} {cs:List Value} {x:DataW H×List MemPlace} (h:trd enc W n 27 cs=some x):∃p:Core,RCore (Fz.whole W) cs p:=by
 obtain ⟨m,rfl,hl,hf⟩:=mX underlying27 h
 rw [c27] at hl
 obtain ⟨a0,r,rfl,hl20⟩:=qV hl
 obtain ⟨a1,r,rfl,hl21⟩:=qV hl20
 obtain ⟨a2,r,rfl,hl22⟩:=qV hl21
 obtain ⟨a3,r,rfl,hl23⟩:=qV hl22
 obtain rfl:=List.eq_nil_of_length_eq_zero hl23
 obtain ⟨_,f0⟩:=hf 0 22 0 rfl
 obtain ⟨_,f1⟩:=hf 1 23 1 rfl
 obtain ⟨_,f2⟩:=hf 2 24 2 rfl
 obtain ⟨_,f3⟩:=hf 3 25 3 rfl
 simp only [c22,c23,c24,c25,List.drop_succ_cons,List.drop_zero,List.take_succ_cons,List.take_zero] at f0 f1 f2 f3
 obtain ⟨v0,l0,e0,h0⟩:=wA (R:=RData) underlying22 c133 (by decide) (fun _ _ _ _ h=>j0m h) f0
 obtain ⟨v1,l1,e1,h1⟩:=z6e f1
 obtain ⟨v2,l2,e2,h2⟩:=wA (R:=RFun) underlying24 c68 (by decide) (fun _ _ _ _ h=>j7k h) f2
 obtain ⟨v3,l3,e3,h3⟩:=z5b f3
 simp only [List.cons.injEq,and_true] at e0 e1 e2 e3
 subst e0 e1 e2 e3
 exact ⟨⟨l0,l1,l2,l3⟩,_,_,_,_,rfl,h0,h1,h2,h3⟩
theorem q5q {n:Nat} {cs:List Value} {x:DataW H×List MemPlace} (h:trd enc W n 60 cs=some x):∃p:Named,RNamed (Fz.whole W) cs p:=by
 obtain ⟨m,rfl,hl,hf⟩:=mX underlying60 h
 rw [c62] at hl
 obtain ⟨a0,r,rfl,hl24⟩:=qV hl
 obtain ⟨_,f0⟩:=hf 0 9 0 rfl
 obtain ⟨_,f1⟩:=hf 1 58 1 rfl
 simp only [c9,c42,List.drop_succ_cons,List.drop_zero,List.take_succ_cons,List.take_zero] at f0 f1
 rw [List.take_of_length_le (by omega)] at f1
 obtain ⟨s,e0⟩:=pC f0
 obtain ⟨v,hv⟩:=q7p _ _ _ f1
 simp only [List.cons.injEq,and_true] at e0
 subst e0
 exact ⟨⟨s,v⟩,r,rfl,hv⟩
theorem q1r {n:Nat} {cs:List Value} {x:DataW H×List MemPlace} (h:trd enc W n 51 cs=some x):∃v l,cs=[v]∧SliceOf RNamed (Fz.whole W) 4 v l :=
 wA underlying51 c62 (by decide) (fun _ _ _ _ h=>q5q h) h
end
end Go.Sw

namespace Go.Proofs.YtghdfphedgcpdaaGreatDoor
open Go.ChangeShapes Go.WideShapes Go.ChangeAt Go.RowKit Go.Sw
theorem own:ownKnob Tryz.prog.godebug=none:=by kernel_rfl
theorem laidOut:laidOutB Tryz.prog=true:=by kernel_rfl
abbrev laidAll:List (String×DataW Unit):=Rows.levelInputsRow.laid
theorem q0a {W:World} {g:Nat} {cs:List Value} (h:∀(i:Nat) (v:Value),cs[i]? = some v→W.cell? ⟨g,i,none⟩=some v) (hne:cs≠[]):At (Fz.whole W) ⟨g,0,none⟩ cs :=
 y9s hne fun j v hj=>by
  have:=h j v hj
  have e:(⟨g,0,none⟩:Addr).add j=⟨g,j,none⟩:=by unfold Addr.add;split <;> simp_all
  rw [e];exact this
theorem j2k {W:World} (hsh:W.ShapedOpen Tryz.prog):∃m,At (Fz.whole W) ⟨1,0,none⟩ [.int .i64 m]:=by
 obtain ⟨m,hm⟩:=cell_of_shapedOpen_int (P:=Tryz.prog) (g:=1) (t:=3) (k:=.i64) (zero:=#[.int .i64 0]) hsh (of_decide_eq_true (by kernel_rfl)) (by kernel_rfl) rfl (by kernel_rfl) (by kernel_rfl) (by kernel_rfl)
 exact ⟨m,q0a (fun i v hi=>by
  cases i with
  | zero=>simp at hi;subst hi;exact hm
  | succ i=>simp at hi) (by simp)⟩
theorem tabs_of {W:World} (hL:laidMet Tryz.prog laidAll W):Tabs (Fz.whole W):=by
 have h2:laidMet Tryz.prog (("internal/strconv.uint64pow10",Lib.tabData .u64 Lib.pow10Tab)::_) W:=hL.tail.tail
 have h3:=Lib.tabIs_of_head (P:=Tryz.prog) (g:=0) (t:=274) (e:=219) (n:=20) (by kernel_rfl) (by kernel_rfl) (by kernel_rfl) (by kernel_rfl) (by kernel_rfl) (by kernel_rfl) h2
 intro w hs
 unfold Lib.TabIs at h3 ⊢
 unfold World.var? at h3 ⊢
 cases hg:Tryz.prog.globalNamed "internal/strconv.uint64pow10" with
 | none=>rw [hg] at h3;cases h3
 | some g =>
  rw [hg] at h3
  simp only [Option.bind_some] at h3 ⊢
  split at h3
  ·rename_i cs t fr he
   rw [hs.fz g _ he]
   exact h3
  ·cases h3
theorem err_at {W:World} {n:String} {d:DataW Unit} {g:Nat} {r:List (String×DataW Unit)} (h:laidMet Tryz.prog ((n,d)::r) W) (hg:Tryz.prog.globalNamed n=some g) (ht:(Tryz.prog.globals[g]?).map (·.type)=some 268):ErrAt (Fz.whole W) g:=by
 obtain ⟨ps,⟨g',t',cs,fuel,p,q,hg',ht',hvar,hd,_,_⟩,_⟩:=h
 obtain rfl:=Option.some.inj (hg.symm.trans hg')
 obtain rfl:=Option.some.inj (ht.symm.trans ht')
 have key:∃v,cs.toList=[v]∧(v=.nilIface∨∃t p,v=.iface t p):=by
  cases fuel with
  | zero=>simp [DataW.trod] at hd
  | succ fuel =>
   unfold DataW.trod at hd
   generalize hu:Tryz.prog.underlying 268=u at hd
   have hu2:∃ms,u=some (.interface ms):=⟨_,hu.symm.trans Tryz.underlying268⟩
   clear hu
   obtain ⟨ms,rfl⟩:=hu2
   split at hd <;> simp_all
 obtain ⟨v,hv,hk⟩:=key
 refine ⟨v,q0a (fun i u hi =>?_) (by simp),hk⟩
 cases i with
 | zero =>
  simp at hi;subst hi
  have:=World.var?_cell hg hvar 0
  rw [this,← Array.getElem?_toList,hv]
  rfl
 | succ i=>simp at hi
theorem glob_of {W:World} (hsh:W.ShapedOpen Tryz.prog) (hL:laidMet Tryz.prog laidAll W):Glob (Fz.whole W) :=
 ⟨j2k hsh,tabs_of hL,err_at (g:=4) hL.tail.tail.tail.tail.tail (by kernel_rfl) (by kernel_rfl),err_at (g:=5) hL.tail.tail.tail.tail (by kernel_rfl) (by kernel_rfl)⟩
end Go.Proofs.YtghdfphedgcpdaaGreatDoor

namespace Go.Proofs.YtghdfphedgcpdaaGreatDoor
open Go.ChangeShapes Go.WideShapes Go.ChangeAt Go.RowKit Go.Sw
set_option maxRecDepth 100000
section
variable {H:Type} {enc:TypeId×Value→H}
theorem q7u {a:Assume} {C:Checked} {os:Os} {f:FuncId} {fn:Func} {s:ChangeSpec} {conds:List PathCond} {apart fresh handsOn again:Bool} {X:World→Array Value→Prop}
  (hX:∀(w w':World) (args:Array Value),w.heap=w'.heap→X w args→X w' args)
  (own:ownKnob C.prog.godebug=none) (started:os.Started) (noInit:C.prog.inits.idxOf? f=none) (hfn:C.prog.funcs[f]? = some fn)
  (witness:∃(w:World) (tape:Tape) (i:Input),w.os=os∧(w.forCall tape i).Shaped C.prog∧i.vars=[]∧Input.okWide C.prog (w.forCall tape i) .any w.heap.size f i ∧
   ((s.pre enc C.prog fn conds apart (w.forCall tape i).memory i.args∧X (w.forCall tape i).memory i.args)∧sizedMet enc C.prog fn (OpenSpec.ofChange s) apart (w.forCall tape i).memory i.args)∧a.holds C.prog (lone (Frame.enter C.prog f i.args .normal) [] (w.forCall tape i)))
  (contract:∀(W:World) (base:Nat) (args:Array Value) (ds gs:List (DataW H)) (before:List MemPlace),
   (∀(j:Nat) t v,fn.params[j]? = some t→args[j]? = some v→Value.okWide C.prog W .any base t v) →
   DataW.Whole enc C.prog fn.params.toList s.vars apart W args.toList ds gs before→X W args→sizedMet enc C.prog fn (OpenSpec.ofChange s) apart W args→W.ShapedOpen C.prog →
   Calls C.prog f args W fun e W'=>∃v,e=.returned v∧s.post enc C.prog fn apart fresh handsOn again W args v W') :
  ReturnsInHanded a C os f .any (fun w args=>(s.pre enc C.prog fn conds apart w args∧X w args)∧sizedMet enc C.prog fn (OpenSpec.ofChange s) apart w args) (s.post enc C.prog fn apart fresh handsOn again):=by
 refine returnsInHanded_of_calls own started noInit witness ?_
 intro w tape i _ hsh _ hok hpre _
 obtain ⟨_,_,_,fn',hfn',_,_,_,_,hval⟩:=hok
 have e:fn'=fn:=Option.some.inj (hfn'.symm.trans hfn)
 subst e
 obtain ⟨⟨⟨ds,gs,before,hw,_⟩,hx⟩,hp,ds',gs',before',hz,hz'⟩:=hpre
 have hw':=DataW.Whole.of_heap (w':=w.forCall tape i) (by rfl) hw
 refine (contract (w.forCall tape i) w.heap.size i.args ds gs before hval hw' (hX _ _ _ (by rfl) hx) ⟨hp,ds',gs',before',DataW.Whole.of_heap (w':=w.forCall tape i) (by rfl) hz,hz'⟩ hsh).mono fun e W' ⟨v,he,hp⟩ =>?_
 subst he
 exact ChangeSpec.post_blind hp
theorem q3m {a:Assume} {C:Checked} {os:Os} {f:FuncId} {fn:Func} {s:ChangeSpec} {conds:List PathCond} {apart fresh handsOn again:Bool} {X:World→Array Value→Prop}
  (hX:∀(w w':World) (args:Array Value),w.heap=w'.heap→X w args→X w' args)
  (own:ownKnob C.prog.godebug=none) (started:os.Started) (noInit:C.prog.inits.idxOf? f=none) (hfn:C.prog.funcs[f]? = some fn)
  (witness:∃(w:World) (tape:Tape) (i:Input),w.os=os∧(w.forCall tape i).Shaped C.prog∧i.vars=[]∧Input.okWide C.prog (w.forCall tape i) .any w.heap.size f i ∧
   ((s.pre enc C.prog fn conds apart (w.forCall tape i).memory i.args∧X (w.forCall tape i).memory i.args)∧sizedMet enc C.prog fn (OpenSpec.ofChange s) apart (w.forCall tape i).memory i.args)∧a.holds C.prog (lone (Frame.enter C.prog f i.args .normal) [] (w.forCall tape i)))
  (contract:∀(W:World) (base:Nat) (args:Array Value) (ds gs:List (DataW H)) (before:List MemPlace),
   (∀(j:Nat) t v,fn.params[j]? = some t→args[j]? = some v→Value.okWide C.prog W .any base t v) →
   DataW.Whole enc C.prog fn.params.toList s.vars apart W args.toList ds gs before→X W args→W.ShapedOpen C.prog →
   Calls C.prog f args W fun e W'=>∃v,e=.returned v∧s.post enc C.prog fn apart fresh handsOn again W args v W') :
  ReturnsInHanded a C os f .any (fun w args=>(s.pre enc C.prog fn conds apart w args∧X w args)∧sizedMet enc C.prog fn (OpenSpec.ofChange s) apart w args) (s.post enc C.prog fn apart fresh handsOn again):=by
 exact q7u hX own started noInit hfn witness fun W base args ds gs before h1 h2 h3 _ h5=>contract W base args ds gs before h1 h2 h3 h5
theorem z1a {W W':World} (hm:Mem (Fz.whole W) [] W'):∀k,k < W.heap.size→W'.heap[k]? = W.heap[k]? := fun k hk=>by
 have h:W.heap[k]? = some W.heap[k]:=Array.getElem?_eq_getElem hk
 rw [h]
 exact hm.fz k _ h
theorem j9j {W W':World} (hm:Mem (Fz.whole W) [] W'):W.heap.size≤W'.heap.size:=by
 rcases Nat.lt_or_ge W'.heap.size W.heap.size with h | h
 ·have h1:=z1a hm W'.heap.size h
  rw [Array.getElem?_eq_getElem h] at h1
  simp at h1
 ·exact h
theorem q7m {W W':World} (hm:Mem (Fz.whole W) [] W') {t:TypeId} (hr:Tryz.prog.readableRec t=true) (hrow:t < Tryz.prog.types.size) {v:Value} {d:DataW H} {ps:List MemPlace}
  (h:DataW.Trod enc Tryz.prog W 0 (fun _=>true) true t v d ps) (hlt:∀x∈ps,x.block < W.heap.size):DataW.Trod enc Tryz.prog W' 0 (fun b=>decide (b < W.heap.size)) true t v d ps:=by
 have hs:=j9j hm
 have ho:=z1a hm
 have hb:Below W.heap.size W { W with heap:=W'.heap }:={ os:=rfl,tape:=rfl,output:=rfl,size:=hs,block:=ho }
 exact DataW.Trod.of_heap (w:={ W with heap:=W'.heap }) (w':=W') rfl (Below.trod laidOut hr hrow h hb hlt)
theorem z8f {W W':World} (hm:Mem (Fz.whole W) [] W'):∀{ts:List TypeId} {vs:List Value} {ds:List (DataW H)} {p:List MemPlace},(∀t∈ts,Tryz.prog.readableRec t=true∧t < Tryz.prog.types.size) →
  DataW.TrodAll enc Tryz.prog W 0 (fun _=>true) true ts vs ds p→(∀x∈p,x.block < W.heap.size)→DataW.TrodAll enc Tryz.prog W' 0 (fun b=>decide (b < W.heap.size)) true ts vs ds p
 | [],_,_,_,_,h,_=>by
  obtain ⟨rfl,rfl,rfl⟩:=trodAll_nil h
  exact h
 | t::ts,_,_,_,hr,h,hlt=>by
  obtain ⟨v,vs,d,ds,p,q,rfl,rfl,rfl,h1,h2⟩:=trodAll_cons h
  exact ⟨p,q,q7m hm (hr t List.mem_cons_self).1 (hr t List.mem_cons_self).2 h1 (fun x hx=>hlt x (List.mem_append_left _ hx)),
   z8f hm (fun u hu=>hr u (List.mem_cons_of_mem _ hu)) h2 (fun x hx=>hlt x (List.mem_append_right _ hx)),rfl⟩
theorem j8q {fn:Func} {s:ChangeSpec} {apart fresh handsOn:Bool} {W W':World} {args:Array Value} {ds gs:List (DataW H)} {before:List MemPlace}
  (hW:DataW.Whole enc Tryz.prog fn.params.toList s.vars apart W args.toList ds gs before) (hv:s.vars=[]) (hfn:∀gs:List (DataW H),gs=[]→s.fn H (ds++gs)={ results:=[.lit (.bool true)],args:=ds }) (hres:fn.resultTypes=#[4])
  (hr:∀t∈fn.params.toList,Tryz.prog.readableRec t=true∧t < Tryz.prog.types.size) (hm:Mem (Fz.whole W) [] W'):s.post enc Tryz.prog fn apart fresh handsOn false W args (.bool true) W':=by
 have hlt:=hW.lt
 have hW':=hW
 obtain ⟨p,q,hA,hV,rfl,_,_⟩:=hW
 rw [hv] at hV
 obtain ⟨rfl,rfl⟩:=trodVars_none hV
 have hf:=hfn [] rfl
 refine ⟨ds,[],_,[],p,[],hW',?_,?_,?_,?_,fun h=>by cases h⟩
 ·rw [hf,hres]
  exact trodAll_mk1 (shut_bool Tryz.underlying4 true)
 ·rw [hf]
  exact z8f hm hr hA (fun x hx=>hlt x (by simpa using hx))
 ·rw [hf,hv]
  exact rfl
 ·exact World.keptBut_mono (fun _ h=>h.elim) (World.keptBut_none_iff.2 ⟨hm.os,hm.out,z1a hm⟩)
theorem agg_of {t:TypeId} {W:World} {base:Nat} {v:Value} {fs:Array Field} (hu:Tryz.prog.underlying t=some (.struct fs)) (h:Value.okWide Tryz.prog W .any base t v):∃cs:List Value,v=.agg cs.toArray:=by
 obtain ⟨cs,rfl,_⟩:=okWide_struct hu h
 exact ⟨cs.toList,by simp⟩
theorem j4z {W:World} {base:Nat} {v:Value} {d:DataW H} {p:List MemPlace} (hv:Value.okWide Tryz.prog W .any base 27 v) (h:DataW.Trod enc Tryz.prog W 0 (fun _=>true) true 27 v d p):∃cs c,v=.agg (List.toArray cs)∧RCore (Fz.whole W) cs c:=by
 obtain ⟨cs,rfl⟩:=agg_of Tryz.underlying27 hv
 obtain ⟨fuel,hf⟩:=h
 obtain ⟨c,hc⟩:=j0j (enc:=enc) (W:=W) (n:=fuel) (cs:=cs) hf
 exact ⟨cs,c,rfl,hc⟩
theorem y1a {W:World} {base:Nat} {v:Value} {d:DataW H} {p:List MemPlace} (hv:Value.okWide Tryz.prog W .any base 51 v) (h:DataW.Trod enc Tryz.prog W 0 (fun _=>true) true 51 v d p):∃l,SliceOf RNamed (Fz.whole W) 4 v l:=by
 obtain ⟨a,len,cap,rfl⟩:=okWide_slice Tryz.underlying51 hv
 obtain ⟨fuel,hf⟩:=h
 obtain ⟨v,l,e,hl⟩:=q1r (enc:=enc) (W:=W) (n:=fuel) (cs:=[.slice a len cap]) hf
 simp only [List.cons.injEq,and_true] at e
 subst e
 exact ⟨l,hl⟩
end
end Go.Proofs.YtghdfphedgcpdaaGreatDoor

namespace Go.Proofs.YtghdfphedgcpdaaGreatDoor
open Go.ChangeShapes Go.WideShapes Go.ChangeAt Go.RowKit Go.Sw
set_option maxRecDepth 100000
theorem main_is:Tryz.pinned.checked.prog.mainIs=some (true,"8dfb172be620e644952a3b3fbef38f53abbde8464159391a13788f707abd56a4".toList):=by kernel_rfl
theorem j8y:true=Tryz.prog.looks []:=by kernel_rfl
theorem z5x (W:World):laidMetH Tryz.prog laidAll W=laidMet Tryz.prog laidAll W:=MakeChecks.laidMetH_plain _ _ _ (by kernel_rfl)
theorem j8p (os:Os) (args:Array Value):laidMet Tryz.prog laidAll ((World.laidAll Tryz.prog os laidAll).forCall (fun _ _=>0) ⟨#[],args,[]⟩).memory:=laidMet_laidAll _ (by kernel_rfl) (by kernel_rfl)
theorem read_of {l:List TypeId} (h:(l.all fun t=>Tryz.prog.readableRec t&&decide (t < Tryz.prog.types.size))=true) {t:TypeId} (ht:t∈l):Tryz.prog.readableRec t=true∧t < Tryz.prog.types.size:=by
 have:=List.all_eq_true.1 h t ht
 simpa using this
section
variable {H:Type} {enc:TypeId×Value→H}
end
end Go.Proofs.YtghdfphedgcpdaaGreatDoor

namespace Go.Sw
open Go.Proofs.Tryz
open Go.Proofs
theorem z9n:zK prog 210 0 0:=zD runUnderlying210 rfl sizeOf25 (by decide) rfl
theorem j6u:zK prog 210 1 1:=zD runUnderlying210 rfl sizeOf3 (by decide) rfl
set_option maxRecDepth 20000 in
theorem rt_23:RowT prog 23 36 2 32:=⟨underlying23,⟨_,_,Tryz.type36,rfl,rfl,rfl,rfl⟩,by decide,by decide⟩
set_option maxRecDepth 20000 in
theorem rt_24:RowT prog 24 112 8 136:=⟨underlying24,⟨_,_,Tryz.type112,rfl,rfl,rfl,rfl⟩,by decide,by decide⟩
set_option maxRecDepth 20000 in
theorem rt_107:RowT prog 107 110 5 80:=⟨underlying107,⟨_,_,Tryz.type110,rfl,rfl,rfl,rfl⟩,by decide,by decide⟩
set_option maxRecDepth 20000 in
theorem rt_108:RowT prog 108 174 7 120:=⟨underlying108,⟨_,_,Tryz.type174,rfl,rfl,rfl,rfl⟩,by decide,by decide⟩
set_option maxRecDepth 20000 in
theorem rt_124:RowT prog 124 128 2 40:=⟨underlying124,⟨_,_,Tryz.type128,rfl,rfl,rfl,rfl⟩,by decide,by decide⟩
end Go.Sw
