import Derived.OrdersIn
import Derived.Test.YtgkhcfjooiekkaaGreatDoorProg
import Derived.Test.YtgkhcfjooiekkaaGreatDoorX03
import Derived.Test.YtgkhcfjooiekkaaGreatDoorX04
import Derived.Test.YtgkhcfjooiekkaaGreatDoorX06
import Derived.Test.YtgkhcfjooiekkaaGreatDoorX07
set_option linter.unusedVariables false
set_option linter.unusedSimpArgs false
namespace Go.Sw
section
variable {P:Program} {ops:Array Oper} {md:Region.Mode} {B:World→Prop} {kd:List Nat} {Qp:List PanicEntry→World→Prop} {D:List Deferred}
theorem wpAny_of_drI {Inv:Act→Prop} (hI:∀(i:Nat) (o:Oper) (a:Act) (v:Value),ops[i]? = some o→Inv a→Inv (a.put o.dst v)) {Q:Act→World→Prop} {Q':Exit→Act→World→Prop} (hQ:∀a w,Q a w→Q' .normal a w) (hp:∀c a w,Inv a→Qp c w→Q' (.panic c) a w) :
  ∀(n:Nat) (listed:Array Bool) (a:Act) (w:World),Inv a→((List.range ops.size).any (fun i=>z1t kd i==2 && !listed.getD i true)=true→B w) →
   wpDr P md ops B kd Qp Q n listed a w→wpAny P md ops Q' n listed a w:=by
 intro n
 induction n with
 | zero=>intro listed a w _ _ h;exact ⟨h.1,hQ _ _ h.2⟩
 | succ n ih =>
  intro listed a w hd hB h
  refine ⟨fun h0=>hQ _ _ (h.1 h0),fun i hi =>?_⟩
  have hi':=mem_ready.1 hi
  have hsub:((List.range ops.size).any (fun k=>z1t kd k==2 && !(listed.setIfInBounds i true).getD k true)=true→B w):=fun hx=>by
   apply hB
   rw [List.any_eq_true] at hx ⊢
   obtain ⟨k,hk1,hk2⟩:=hx
   simp only [Bool.and_eq_true,beq_iff_eq,Bool.not_eq_true'] at hk2
   refine ⟨k,hk1,?_⟩
   simp only [Bool.and_eq_true,beq_iff_eq,Bool.not_eq_true']
   refine ⟨hk2.1,?_⟩
   by_cases hki:i=k
   ·subst hki;exact hi'.1
   ·rw [getD_set_ne true hki] at hk2;exact hk2.2
  have h1:=h.2 i hi
  unfold drOp at h1
  unfold wpOp
  cases ho:ops[i]? with
  | none=>simp only [ho] at h1 ⊢;exact ih _ _ _ hd hsub h1
  | some o =>
   simp only [ho] at h1 ⊢
   by_cases hw:Region.wanted o (yielded ops a.tmps)=true
   ·rw [if_pos hw] at h1 ⊢
    refine .inl (z9h ?_)
    by_cases hk:z1t kd i=0
    ·rw [if_pos hk] at h1
     refine z1d h1 (fun v w' hv=>ih _ _ _ (hI _ _ _ _ ho hd) (fun hx=>hv.1 ?_) hv.2) (fun c w' hc=>hp c a w' hd hc)
     rw [List.any_eq_true] at hx
     obtain ⟨k,hk1,hk2⟩:=hx
     simp only [Bool.and_eq_true,beq_iff_eq,Bool.not_eq_true'] at hk2
     unfold leans
     rw [List.any_eq_true]
     have hlt:k < kd.length:=by
      by_cases hlt:k < kd.length
      ·exact hlt
      ·have:=hk2.1
       simp [z1t,List.getD_eq_getElem?_getD,List.getElem?_eq_none (Nat.le_of_not_lt hlt)] at this
     refine ⟨k,List.mem_range.2 hlt,?_⟩
     simp only [Bool.and_eq_true,beq_iff_eq,Bool.not_eq_true']
     refine ⟨hk2.1,?_⟩
     rw [← Bool.not_eq_true]
     intro hx
     obtain ⟨e,he,hb⟩:=Array.any_eq_true'.1 hx
     simp only [Bool.and_eq_true,beq_iff_eq] at hb
     obtain ⟨_,o',ho',hall⟩:=hi'
     rw [ho] at ho'
     cases ho'
     have hl:=hall e he hb.1
     rw [hb.2] at hl
     have hk3:=hk2.2
     by_cases hki:i=k
     ·subst hki
      have:=(mem_ready.1 hi).1
      rcases Nat.lt_or_ge i listed.size with h' | h'
      ·simp [h'] at hl this;rw [hl] at this;cases this
      ·simp [Array.getElem?_eq_none h'] at hl
     ·rw [getD_set_ne true hki] at hk3
      rcases Nat.lt_or_ge k listed.size with h' | h'
      ·simp [h'] at hl hk3;rw [hl] at hk3;cases hk3
      ·simp [Array.getElem?_eq_none h'] at hl
    ·rw [if_neg hk] at h1
     obtain ⟨v,h2,h3⟩:=h1
     have hr:=h2 w (fun e=>hB (by
      rw [List.any_eq_true]
      refine ⟨i,List.mem_range.2 (Array.getElem?_eq_some_iff.1 ho).1,?_⟩
      simp only [Bool.and_eq_true,beq_iff_eq,Bool.not_eq_true']
      exact ⟨e,hi'.1⟩))
     unfold Oper.eff
     rw [hr]
     exact ih _ _ _ (hI _ _ _ _ ho hd) hsub h3
   ·rw [if_neg hw] at h1 ⊢
    exact ih _ _ _ (hI _ _ _ _ ho hd) hsub h1
theorem wpAnyIn_of_drI {r:Option Nat} {m:Nat} (hnd:∀(i:Nat) (o:Oper),ops[i]? = some o→∀c,o.op≠.defer c) {Inv:Act→Prop} (hI:∀(i:Nat) (o:Oper) (a:Act) (v:Value),ops[i]? = some o→Inv a→Inv (a.put o.dst v)) {Q:Act→World→Prop} {Q':Exit→Act→World→Prop} (hQ:∀a w,Q a w→Q' .normal a w) (hp:∀c a w,Inv a→Qp c w→Q' (.panic c) a w) :
  ∀(n:Nat) (listed:Array Bool) (a:Act) (w:World),Inv a→((List.range ops.size).any (fun i=>z1t kd i==2 && !listed.getD i true)=true→B w) →
   wpDr P md ops B kd Qp Q n listed a w→wpAnyIn (FO r) m P md ops Q' n listed a w:=by
 intro n
 induction n with
 | zero=>intro listed a w _ _ h;exact ⟨h.1,hQ _ _ h.2⟩
 | succ n ih =>
  intro listed a w hd hB h
  refine ⟨fun h0=>hQ _ _ (h.1 h0),fun i hi =>?_⟩
  have hi':=mem_ready.1 hi
  have hsub:((List.range ops.size).any (fun k=>z1t kd k==2 && !(listed.setIfInBounds i true).getD k true)=true→B w):=fun hx=>by
   apply hB
   rw [List.any_eq_true] at hx ⊢
   obtain ⟨k,hk1,hk2⟩:=hx
   simp only [Bool.and_eq_true,beq_iff_eq,Bool.not_eq_true'] at hk2
   refine ⟨k,hk1,?_⟩
   simp only [Bool.and_eq_true,beq_iff_eq,Bool.not_eq_true']
   refine ⟨hk2.1,?_⟩
   by_cases hki:i=k
   ·subst hki;exact hi'.1
   ·rw [getD_set_ne true hki] at hk2;exact hk2.2
  have h1:=h.2 i hi
  unfold drOp at h1
  unfold wpOpIn
  cases ho:ops[i]? with
  | none=>simp only [ho] at h1 ⊢;exact ih _ _ _ hd hsub h1
  | some o =>
   simp only [ho] at h1 ⊢
   by_cases hw:Region.wanted o (yielded ops a.tmps)=true
   ·rw [if_pos hw] at h1 ⊢
    refine wpIn_of_eff (hnd _ _ ho) ?_
    by_cases hk:z1t kd i=0
    ·rw [if_pos hk] at h1
     refine z1d h1 (fun v w' hv=>ih _ _ _ (hI _ _ _ _ ho hd) (fun hx=>hv.1 ?_) hv.2) (fun c w' hc=>hp c a w' hd hc)
     rw [List.any_eq_true] at hx
     obtain ⟨k,hk1,hk2⟩:=hx
     simp only [Bool.and_eq_true,beq_iff_eq,Bool.not_eq_true'] at hk2
     unfold leans
     rw [List.any_eq_true]
     have hlt:k < kd.length:=by
      by_cases hlt:k < kd.length
      ·exact hlt
      ·have:=hk2.1
       simp [z1t,List.getD_eq_getElem?_getD,List.getElem?_eq_none (Nat.le_of_not_lt hlt)] at this
     refine ⟨k,List.mem_range.2 hlt,?_⟩
     simp only [Bool.and_eq_true,beq_iff_eq,Bool.not_eq_true']
     refine ⟨hk2.1,?_⟩
     rw [← Bool.not_eq_true]
     intro hx
     obtain ⟨e,he,hb⟩:=Array.any_eq_true'.1 hx
     simp only [Bool.and_eq_true,beq_iff_eq] at hb
     obtain ⟨_,o',ho',hall⟩:=hi'
     rw [ho] at ho'
     cases ho'
     have hl:=hall e he hb.1
     rw [hb.2] at hl
     have hk3:=hk2.2
     by_cases hki:i=k
     ·subst hki
      have:=(mem_ready.1 hi).1
      rcases Nat.lt_or_ge i listed.size with h' | h'
      ·simp [h'] at hl this;rw [hl] at this;cases this
      ·simp [Array.getElem?_eq_none h'] at hl
     ·rw [getD_set_ne true hki] at hk3
      rcases Nat.lt_or_ge k listed.size with h' | h'
      ·simp [h'] at hl hk3;rw [hl] at hk3;cases hk3
      ·simp [Array.getElem?_eq_none h'] at hl
    ·rw [if_neg hk] at h1
     obtain ⟨v,h2,h3⟩:=h1
     have hr:=h2 w (fun e=>hB (by
      rw [List.any_eq_true]
      refine ⟨i,List.mem_range.2 (Array.getElem?_eq_some_iff.1 ho).1,?_⟩
      simp only [Bool.and_eq_true,beq_iff_eq,Bool.not_eq_true']
      exact ⟨e,hi'.1⟩))
     unfold Oper.eff
     rw [hr]
     exact ih _ _ _ (hI _ _ _ _ ho hd) hsub h3
   ·rw [if_neg hw] at h1 ⊢
    exact ⟨fun f _=>FO.fn f,ih _ _ _ (hI _ _ _ _ ho hd) hsub h1⟩
end
theorem EnvR.keep {n:Nat} {E0:List (Nat×Value)} {D:List Deferred} {a:Act} {o:Oper} {v:Value} (he:EnvR n E0 D a) (ho:(match o.dst with | some d=>(get E0 d).isNone | none=>true)=true):EnvR n E0 D (a.put o.dst v):=by
 cases hd:o.dst with
 | none=>exact he
 | some d =>
  rw [hd] at ho
  refine ⟨by simp [Act.put,he.size],fun t u h =>?_,he.defs⟩
  have:t≠d:=fun e=>by subst e;simp only [h] at ho;cases ho
  simp only [Act.put]
  rw [Array.getElem?_setIfInBounds_ne (Ne.symm this)]
  exact he.env t u h
theorem z9z {P:Program} {n:Nat} {E0:List (Nat×Value)} {D:List Deferred} {a:Act} {Φ:Fz} {K:List Res} {w:World} {id:Nat} {l:List Oper} {Q:Exit→Act→World→Prop} (kd:List Nat) (p:Plan) (K':List Res) (h0:EnvR n E0 D a) (hm:Mem Φ K w) (hw:P.follows .mixedOrders=true) (hB:planB l.toArray kd p=true) (hK:∀r∈K',r∈K)
  (ho:l.all (fun o=>match o.dst with | some d=>(get E0 d).isNone | none=>true)=true)
  (h:∀w,Mem Φ K w→z0z P .any l.toArray (Sees Φ K') kd (fun c w=>∀a,EnvR n E0 D a→Q (.panic c) a w) (Q .normal) p a w):(Code.region id l.toArray true).wp P Q a w:=by
 have hm':=hm.drew
 have h:=h _ hm'
 simp only [planB,Bool.and_eq_true,beq_iff_eq] at hB
 obtain ⟨⟨⟨hs,hev⟩,hl⟩,hok⟩:=hB
 refine wp_region_any hw (wpAny_of_drI (Inv:=EnvR n E0 D) (kd:=kd) (B:=Sees Φ K') (Qp:=fun c w=>∀a,EnvR n E0 D a→Q (.panic c) a w) (Q:=Q .normal) (fun i o a v hi he=>he.keep ?_) (fun _ _ h=>h) (fun c a w he h=>h a he) _ _ _ _ h0 (fun _=>⟨hm'.fz,fun r hr=>hm'.own r (hK r hr)⟩) ?_)
 ·have h1:l[i]? = some o:=by simpa using hi
  exact List.all_eq_true.1 ho o (List.mem_of_getElem? h1)
 ·have:=z4b hs p _ _ _ hev hok h
  rw [hl] at this
  exact this
theorem region_planIn {P:Program} {n m:Nat} {r:Option Nat} {E:List (Nat×Value)} {a:Act} {Φ:Fz} {K:List Res} {w:World} {id:Nat} {l:List Oper} {Q:Exit→Act→World→Prop} (kd:List Nat) (p:Plan) (K':List Res) (he:EnvR n E [] a) (hm:Mem Φ K w) (hw:P.follows .mixedOrders=true) (hB:planB l.toArray kd p=true) (hK:∀r∈K',r∈K)
  (ho:l.all (fun o=>match o.op with | .defer _=>false | _=>true)=true)
  (h:∀w,Mem Φ K w→z0z P .any l.toArray (Sees Φ K') kd (fun _ _=>False) (Q .normal) p a w):(Code.region id l.toArray true).wpIn (FO r) m P Q a w:=by
 have hm':=hm.drew
 have h:=h _ hm'
 simp only [planB,Bool.and_eq_true,beq_iff_eq] at hB
 obtain ⟨⟨⟨hs,hev⟩,hl⟩,hok⟩:=hB
 refine wpIn_region_any hw (wpAnyIn_of_drI (Inv:=fun _=>True) (kd:=kd) (B:=Sees Φ K') (Qp:=fun _ _=>False) (Q:=Q .normal) (fun i o hi c hc =>?_) (fun _ _ _ _ _ h=>h) (fun _ _ h=>h) (fun _ _ _ _ h=>h.elim) _ _ _ _ trivial (fun _=>⟨hm'.fz,fun r hr=>hm'.own r (hK r hr)⟩) ?_)
 ·have h1:l[i]? = some o:=by simpa using hi
  have h2:=List.all_eq_true.1 ho o (List.mem_of_getElem? h1)
  rw [hc] at h2;cases h2
 ·have:=z4b hs p _ _ _ hev hok h
  rw [hl] at this
  exact this
end Go.Sw

namespace Go.Sw
open Go.Proofs.Tryz
open Go.Proofs
set_option maxRecDepth 20000
set_option maxHeartbeats 4000000
variable {Φ:Fz} {K:List Res} {w:World}
theorem z6n {r i:Nat} {rs:Value} {ws:List Bs} (rl:SliceOf RStr Φ 1 rs ws) (hws:ws.length≤1000000) (hi:i≤ws.length) (hm:Mem Φ (.blk r (ob [rs,.int .i64 ((i:Nat):Int)] 208)::K) w) :
  Calls Tryz.prog 179 (List.toArray [.pointer (some ⟨r,0,none⟩)]) w (fun ee w'=>ee=.returned (.string (z0c ws i))∧Mem Φ (.blk r (ob [rs,.int .i64 ((i:Nat):Int)] 208)::K) w'):=by
 obtain ⟨pw,cw,rfl,hmw,hnw⟩:=rl.fm
 refine z0m func179 ntmps179 fun Q hQ a he =>?_
 refine Reg [1,1,1,2,1,1,1,2,1,1] [0] he hm fun w hm a he =>?_
 refine go he hm fun a he =>?_
 by_cases h4:i < ws.length
 refine Reg [1,1,1,2,1,1,1,2,1,2,1] [0] he hm fun w hm a he =>?_
 refine go he hm fun a he =>?_
 obtain ⟨q6,rfl,x7,hx8,cs9,hl10,ha11,hr12⟩:=rl.el hnw h4
 obtain rfl:cs9=[.string x7]:=hr12
 refine Ret1 hQ he hm ?_
 rw [z2s hx8];exact ⟨rfl,hm⟩
 refine Ret1 hQ he hm ?_
 rw [peek_end h4];exact ⟨rfl,hm⟩
theorem rfail_ok {r i:Nat} {rs:Value} {ws:List Bs} (rl:SliceOf RStr Φ 1 rs ws) (hws:ws.length≤1000000) (hi:i≤ws.length) (hm:Mem Φ (.blk r (ob [rs,.int .i64 ((i:Nat):Int)] 208)::K) w) :
  Calls Tryz.prog 130 (List.toArray [.pointer (some ⟨r,0,none⟩)]) w (fun ee w'=>ee=.panicked (z9i (i+1))∧Mem Φ K w'):=by
 obtain ⟨pw,cw,rfl,hmw,hnw⟩:=rl.fm
 refine z0m func130 ntmps130 fun Q hQ a he =>?_
 refine z1n he hm fun a he =>?_
 refine Qq he hm (fun a he =>?_) (o:=by exact fun _ _ _ he hs=>z1j he rfl runUnderlying204 (by intro ms h;cases h))
 refine st0 he rfl rfl (z3r he rfl (z3w _) (fun a hd=>hQ _ _ _ (z1b hd ?_)))
 replace hm:=hm.dl [0]
 exact ⟨rfl,hm⟩
theorem rtake_ok {r i:Nat} {rs:Value} {ws:List Bs} {g:Nat} {fs cs:List Value} {p:Bs→Bool} (hg:∀args w,(callFunc g args).run Tryz.prog w=.ok (.enter g args) w)
  (hf:∀{w:World} (s:Bs),Mem Φ (.blk r (ob [rs,.int .i64 ((i:Nat):Int)] 208)::K) w→Calls Tryz.prog g (fs++[Value.string s]++cs).toArray w (fun ee w'=>ee=.returned (.bool (p s))∧Mem Φ (.blk r (ob [rs,.int .i64 ((i:Nat):Int)] 208)::K) w')) (rl:SliceOf RStr Φ 1 rs ws) (hws:ws.length≤1000000) (hi:i≤ws.length) (hm:Mem Φ (.blk r (ob [rs,.int .i64 ((i:Nat):Int)] 208)::K) w) :
  Calls Tryz.prog 181 (List.toArray [.pointer (some ⟨r,0,none⟩),.func (.func g) fs.toArray cs.toArray]) w (fun ee w'=>Out (z9p ws p i) (fun x=>ee=.returned (.string x.1)∧Mem Φ (.blk r (ob [rs,.int .i64 ((x.2:Nat):Int)] 208)::K) w') (fun c=>ee=.panicked (z9i c)∧Mem Φ K w')):=by
 obtain ⟨pw,cw,rfl,hmw,hnw⟩:=rl.fm
 refine z0m func181 ntmps181 fun Q hQ a he =>?_
 refine z0x call179 he hm (fun w hm a he =>?_) (c:=z6n (i:=i) rl hws (by omega) hm)
 refine go he hm fun a he =>?_
 by_cases h5:(z0c ws i)=(⟨#[]⟩:ByteArray)
 refine go he hm fun a he =>?_
 refine st he rfl rfl rfl (y0l he rfl call130 (rfail_ok (i:=i) rl hws (by omega) hm) (fun w hm=>fun a hd=>hQ _ _ _ (z1b hd ?_)))
 show Out (z9p ws p i) _ _
 rw [takeP_no h5];exact ⟨rfl,hm⟩
 refine FunB hg he hm (fun hB6 w hm a he =>?_) (fun hB6 w hm a he =>?_) (c:=by exact hf _ hm)
 refine go he hm fun a he =>?_
 have hlt_:=z6m h5
 refine Sto 0 he hm fun w hm a he =>?_
 refine Ret1 hQ he hm ?_
 show Out (z9p ws p i) _ _
 rw [takeP_ok h5 hB6];exact ⟨rfl,hm⟩
 refine go he hm fun a he =>?_
 refine st he rfl rfl rfl (y0l he rfl call130 (rfail_ok (i:=i) rl hws (by omega) hm) (fun w hm=>fun a hd=>hQ _ _ _ (z1b hd ?_)))
 show Out (z9p ws p i) _ _
 rw [takeP_bad hB6];exact ⟨rfl,hm⟩
theorem next1_ok {b:Nat} {s x:Bs} (hm:Mem Φ (.blk b (ob [.string x] 9)::K) w) :
  Calls Tryz.prog 204 (List.toArray [.string s,.pointer (some ⟨b,0,none⟩)]) w (fun ee w'=>ee=.returned (.bool (decide (s=x)))∧Mem Φ (.blk b (ob [.string x] 9)::K) w'):=by
 refine z0m func204 ntmps204 fun Q hQ a he =>?_
 refine Qq he hm (fun a he =>?_) (o:=by exact fun _ _ _ he hs=>y_seqlD he rfl rfl)
 refine Ret1 hQ he hm ?_
 exact ⟨rfl,hm⟩
theorem z5v {r i:Nat} {rs:Value} {ws:List Bs} {x:Bs} (rl:SliceOf RStr Φ 1 rs ws) (hws:ws.length≤1000000) (hi:i≤ws.length) (hm:Mem Φ (.blk r (ob [rs,.int .i64 ((i:Nat):Int)] 208)::K) w) :
  Calls Tryz.prog 177 (List.toArray [.pointer (some ⟨r,0,none⟩),.string x]) w (fun ee w'=>Out (z6u ws x i) (fun x=>ee=.returned (.tuple #[])∧Mem Φ (.blk r (ob [rs,.int .i64 ((x.2:Nat):Int)] 208)::K) w') (fun c=>ee=.panicked (z9i c)∧Mem Φ K w')):=by
 obtain ⟨pw,cw,rfl,hmw,hnw⟩:=rl.fm
 refine z0m func177 ntmps177 fun Q hQ a he =>?_
 refine Bx he hm fun b2 w hm a he =>?_
 replace hm:=hm.ar [] [1,1,1]
 refine z3g hQ call181 he hm (fun q3 w hq4 hm a he =>?_) (fun q3 w hq4 hm =>?_) (c:=rtake_ok (p:=fun s=>decide (s=x)) (fs:=[]) (cs:=[.pointer (some ⟨b2,0,none⟩)]) call204 (fun s hm=>(next1_ok (hm.pull (i:=1) rfl)).mono fun _ _ h=>⟨h.1,h.2.pull (i:=1) rfl⟩) (i:=i) rl hws (by omega) hm)
 have hleq3:=z2v hq4
 refine go he hm fun a he =>?_
 replace hm:=hm.dl [1]
 refine hQ _ _ _ (ret0N he results177 ?_)
 show Out (z6u ws x i) _ _
 rw [nextP_ok hq4];exact ⟨rfl,hm⟩
 replace hm:=hm.dl [0]
 show Out (z6u ws x i) _ _
 rw [nextP_err hq4];exact ⟨rfl,hm⟩
theorem rcon_ok {r i:Nat} {rs:Value} {ws:List Bs} (G:Glob Φ) (rl:SliceOf RStr Φ 1 rs ws) (hws:ws.length≤1000000) (hi:i≤ws.length) (hm:Mem Φ (.blk r (ob [rs,.int .i64 ((i:Nat):Int)] 208)::K) w) :
  Calls Tryz.prog 176 (List.toArray [.pointer (some ⟨r,0,none⟩)]) w (fun ee w'=>Out (rcon ws i) (fun x=>ee=.returned (.string x.1)∧Mem Φ (.blk r (ob [rs,.int .i64 ((x.2:Nat):Int)] 208)::K) w') (fun c=>ee=.panicked (z9i c)∧Mem Φ K w')):=by
 obtain ⟨pw,cw,rfl,hmw,hnw⟩:=rl.fm
 refine z0m func176 ntmps176 fun Q hQ a he =>?_
 refine z3g hQ call181 he hm (fun q3 w hq4 hm a he =>?_) (fun q3 w hq4 hm =>?_) (c:=rtake_ok (p:=z0u) (fs:=[]) (cs:=[]) call178 (fun s hm=>z6j G hm) (i:=i) rl hws (by omega) hm)
 have hleq3:=z2v hq4
 refine Ret1 hQ he hm ?_
 show Out (rcon ws i) _ _
 rw [show rcon ws i=.ok q3 from hq4];exact ⟨rfl,hm⟩
 show Out (rcon ws i) _ _
 rw [show rcon ws i=_ from hq4];exact ⟨rfl,hm⟩
theorem z7y {r i:Nat} {rs:Value} {ws:List Bs} (G:Glob Φ) (rl:SliceOf RStr Φ 1 rs ws) (hws:ws.length≤1000000) (hi:i≤ws.length) (hm:Mem Φ (.blk r (ob [rs,.int .i64 ((i:Nat):Int)] 208)::K) w) :
  Calls Tryz.prog 129 (List.toArray [.pointer (some ⟨r,0,none⟩)]) w (fun ee w'=>Out (y0w ws i) (fun x=>ee=.returned (.string x.1)∧Mem Φ (.blk r (ob [rs,.int .i64 ((x.2:Nat):Int)] 208)::K) w') (fun c=>ee=.panicked (z9i c)∧Mem Φ K w')):=by
 obtain ⟨pw,cw,rfl,hmw,hnw⟩:=rl.fm
 refine z0m func129 ntmps129 fun Q hQ a he =>?_
 refine z3g hQ call181 he hm (fun q3 w hq4 hm a he =>?_) (fun q3 w hq4 hm =>?_) (c:=rtake_ok (p:=z0q) (fs:=[]) (cs:=[]) call138 (fun s hm=>isName_ok G hm) (i:=i) rl hws (by omega) hm)
 have hleq3:=z2v hq4
 refine Ret1 hQ he hm ?_
 show Out (y0w ws i) _ _
 rw [show y0w ws i=.ok q3 from hq4];exact ⟨rfl,hm⟩
 show Out (y0w ws i) _ _
 rw [show y0w ws i=_ from hq4];exact ⟨rfl,hm⟩
theorem integer_ok {s:Bs} (hs:s.size≤1000000) (G:Glob Φ) (hm:Mem Φ K w) :
  Calls Tryz.prog 205 (List.toArray [.string s]) w (fun ee w'=>∃y:Int,ee=.returned (.tuple (List.toArray [.int .i64 y,.bool (intP s).isSome]))∧(∀v,intP s=some v→y=v)∧Mem Φ K w'):=by
 refine z0m func205 ntmps205 fun Q hQ a he =>?_
 refine go he hm fun a he =>?_
 refine st he rfl rfl rfl (eff_callV he rfl call217 (atoi_ok (by exact hs) G hm) (fun q3 w hq5 hm a he =>?_) (fun q3 y4 w hq5 hm a he =>?_))
 replace hm:=hm.nf
 refine Qq he hm (fun a he =>?_) (o:=by exact fun _ _ _ he hs=>y1e (v:=.bool true) he rfl rfl rfl (by kernel_rfl))
 refine z0x call122 he hm (fun w hm a he =>?_) (c:=itoa_ok (atoi_i64 hq5) G.tabs hm)
 refine Qq he hm (fun a he =>?_) (o:=by exact fun _ _ _ he hs=>y_seqlD he rfl rfl)
 refine Ret2 hQ he hm ?_
 by_cases hd_:z9o q3=s
 rw [intP_some hq5 hd_,decide_eq_true hd_];exact ⟨_,rfl,(fun v h=>by injection h),hm⟩
 rw [intP_ne hq5 hd_,decide_eq_false hd_];exact ⟨_,rfl,(fun v h=>by cases h),hm⟩
 replace hm:=hm.nf
 refine Qq he hm (fun a he =>?_) (o:=by exact fun _ _ _ he hs=>y1e (v:=.bool false) he rfl rfl rfl (by kernel_rfl))
 refine Ret2 hQ he hm ?_
 rw [intP_err hq5];exact ⟨_,rfl,(fun v h=>by cases h),hm⟩
end Go.Sw

namespace Go.Sw
open Go.Proofs.Tryz
open Go.Proofs
set_option maxRecDepth 20000
set_option maxHeartbeats 4000000
theorem rtwo_ok {Φ:Fz} {K:List Res} {w:World} {r i:Nat} {rs:Value} {ws:List Bs} {d:Nat} (hd:d≤1000) (hE:ExprOk ws d) (G:Glob Φ) (rl:SliceOf RStr Φ 1 rs ws) (hws:ws.length≤1000000) (hi:i≤ws.length) (hm:Mem Φ (.blk r (ob [rs,.int .i64 ((i:Nat):Int)] 208)::K) w) :
  Calls Tryz.prog 218 (List.toArray [.pointer (some ⟨r,0,none⟩),.int .i64 ((d+1:Nat):Int)]) w (fun ee w'=>Out (twoP (z0o ws d) i) (fun x=>∃y:Fz×Value,ee=.returned y.2∧(Φ.Le y.1∧SliceOf REx y.1 5 y.2 x.1)∧Mem y.1 (.blk r (ob [rs,.int .i64 ((x.2:Nat):Int)] 208)::K) w') (fun c=>ee=.panicked (z9i c)∧Mem Φ K w')):=by
 obtain ⟨pw,cw,rfl,hmw,hnw⟩:=rl.fm
 refine z0m func218 ntmps218 fun Q hQ a he =>?_
 refine Qq he hm (fun a he =>?_) (o:=by exact fun _ _ _ he hs=>z9m ((d:Nat):Int) he rfl rfl (by rw [z1m (by omega)];omega))
 refine z4y hQ call180 he hm (fun q3 y4 w hq5 hG6 hm a he =>?_) (fun q3 w hq5 hm =>?_) (c:=hE G rl (i:=i) (by omega) hm)
 obtain ⟨Ψ7,d8⟩:=y4
 obtain ⟨le9,hr10⟩:=hG6
 simp only at le9 hr10 hm he
 have hgo11:=z3s d _ _ hq5
 replace rl:=rl.up le9
 replace G:=G.mono le9
 replace hm:=hm.nf
 obtain ⟨p14,c15,p20,c21,rfl,hi24,h13,h19,hm16,hn17,hm22,hn23⟩:=REx.fm hr10
 refine Alc he hm fun b25 w hm a he =>?_
 refine Sto 0 he hm fun w hm a he =>?_
 refine Reg [2,1,1,1,0,0,1] [0] he hm fun w hm a he =>?_
 refine Qq he hm (fun a he =>?_) (o:=by exact fun _ _ _ he hs=>z9m ((d:Nat):Int) he rfl rfl (by rw [z1m (by omega)];omega))
 replace hm:=hm.pl 1
 refine z4y hQ call180 he hm (fun q27 y28 w hq29 hG30 hm a he =>?_) (fun q27 w hq29 hm =>?_) (c:=hE G rl (i:=q3.2) (by omega) hm)
 obtain ⟨Ψ31,d32⟩:=y28
 obtain ⟨le33,hr34⟩:=hG30
 simp only at le33 hr34 hm he
 have hgo35:=z3s d _ _ hq29
 replace G:=G.mono le33
 replace hr10:=REx.mono _ _ _ _ le33 hr10
 replace hm:=hm.nf
 obtain ⟨p38,c39,p44,c45,rfl,hi48,h37,h43,hm40,hn41,hm46,hn47⟩:=REx.fm hr34
 refine BldS he hm fun v49 w hm a he =>?_
 refine go he hm fun a he =>?_
 have hm0_:=hm
 clear hm
 obtain ⟨Ψ50,le51,hm,hrow52⟩:=hm0_.freezeRow (i:=0) rfl
 clear hm0_
 replace G:=G.mono le51
 replace hr10:=REx.mono _ _ _ _ le51 hr10
 replace hr34:=REx.mono _ _ _ _ le51 hr34
 replace hm:=hm.nf
 have hsl53:SliceOf REx Ψ50 5 _ ([q3.1,q27.1]):=⟨_,hrow52,(Chunks.two (k:=5) rfl hr10 rfl hr34 :)⟩
 obtain ⟨p54,c55,hv_,hm56,hn57⟩:=hsl53.form (by decide)
 have hmk_:=hm
 clear hm
 subst hv_
 have hm:=hmk_
 clear hmk_
 replace hm:=hm.dl [1]
 refine Ret1 hQ he hm ?_
 show Out (twoP (z0o ws d) i) _ _
 rw [show twoP (z0o ws d) i=.ok ([q3.1,q27.1],q27.2) from (z0b hq5).trans ((z0b hq29).trans (rfl))]
 exact ⟨(Ψ50,_),rfl,⟨((le9).trans le33).trans le51,hsl53⟩,hm⟩
 replace hm:=hm.dl [0]
 show Out (twoP (z0o ws d) i) _ _
 rw [show twoP (z0o ws d) i=.error _ from (z0b hq5).trans (z0j hq29)]
 exact ⟨rfl,hm.le (le9)⟩
 show Out (twoP (z0o ws d) i) _ _
 rw [show twoP (z0o ws d) i=.error _ from z0j hq5]
 exact ⟨rfl,hm.le (Fz.Le.refl _)⟩
theorem rlist_ok {Φ:Fz} {K:List Res} {w:World} {r i:Nat} {rs:Value} {ws:List Bs} {m:Nat} {d:Nat} (hd:d≤1000) (hE:ExprOk ws d) (G:Glob Φ) (rl:SliceOf RStr Φ 1 rs ws) (hws:ws.length≤1000000) (hi:i≤ws.length) (hm:Mem Φ (.blk r (ob [rs,.int .i64 ((i:Nat):Int)] 208)::K) w) :
  Calls Tryz.prog 219 (List.toArray [.pointer (some ⟨r,0,none⟩),.int .i64 ((m:Nat):Int),.int .i64 ((d+1:Nat):Int)]) w (fun ee w'=>Out (z6d ws (z0o ws d) (ws.length+1) m i) (fun x=>∃y:Fz×Value,ee=.returned y.2∧(Φ.Le y.1∧SliceOf REx y.1 5 y.2 x.1)∧Mem y.1 (.blk r (ob [rs,.int .i64 ((x.2:Nat):Int)] 208)::K) w') (fun c=>ee=.panicked (z9i c)∧Mem Φ K w')):=by
 obtain ⟨pw,cw,rfl,hmw,hnw⟩:=rl.fm
 refine z0m func219 ntmps219 fun Q hQ a he =>?_
 refine go he hm fun a he =>?_
 replace hm:=hm.nilRow 66 5
 replace hm:=hm.nf
 refine z1l (he.ks [0,1,2]) hm (fun R mm a w=>∃(Ψ4:Fz) (j:Nat) (u:Value) (cs:List Value) (xs:List Ex) (f:Nat),mm=ws.length - j∧R Ψ4 [(7,u)] [(0,.gs (u) 66 5 cs),(1,.blk r (ob [.slice pw ws.length cw,.int .i64 ((j:Nat):Int)] 208))] a w∧(Φ.Le Ψ4∧(Chunks (REx Ψ4) 5 cs xs∧xs.length≤j∧j≤ws.length∧xs.length+f=ws.length+1∧z6d ws (z0o ws d) (ws.length+1) m i=pre1 xs (z6d ws (z0o ws d) f (m - xs.length) j)))) (ws.length - i) ⟨Φ,i,.slice none 0 0,[],[],ws.length+1,rfl,⟨he.pk,hm⟩,⟨Fz.Le.refl _,⟨rfl,Nat.zero_le _,hi,Nat.zero_add _,y1y _⟩⟩⟩ ?_
 clear hm he
 rintro mm a w ⟨Ψ4,j,u,cs,xs,f,hmu,⟨he,hm⟩,hI7⟩ L6 hL6
 replace hm:=hm.nf
 obtain ⟨le5,hI7⟩:=hI7
 replace rl:=rl.up le5
 replace G:=G.mono le5
 obtain ⟨hch,hxl,hj,hf_,hI_⟩:=hI7
 refine Qq he hm (fun a he =>?_) (o:=by exact fun _ _ _ he hs=>y_len_gs 0 (xs.length) he hs rfl rfl (hch.length) (by decide) runUnderlying63)
 refine go he hm fun a he =>?_
 by_cases h10:xs.length < m
 refine Qq he hm (fun a he =>?_) (o:=by exact fun _ _ _ he hs=>z9m ((d:Nat):Int) he rfl rfl (by rw [z1m (by omega)];omega))
 replace hm:=hm.pl 1
 refine z4y hQ call180 he hm (fun q11 y12 w hq13 hG14 hm a he =>?_) (fun q11 w hq13 hm =>?_) (c:=hE G rl (i:=j) (by omega) hm)
 obtain ⟨Ψ15,d16⟩:=y12
 obtain ⟨le17,hr18⟩:=hG14
 simp only at le17 hr18 hm he
 have hgo19:=z3s d _ _ hq13
 replace rl:=rl.up le17
 replace G:=G.mono le17
 replace hch:=hch.mono fun _ _ h=>REx.mono _ _ _ _ le17 h
 replace hm:=hm.nf
 obtain ⟨p22,c23,p28,c29,rfl,hi32,h21,h27,hm24,hn25,hm30,hn31⟩:=REx.fm hr18
 refine BldS he hm fun v33 w hm a he =>?_
 refine App_ 2 rt_63 he hm (fun v34 w hm a he =>?_)
 refine go he hm fun a he =>?_
 replace hm:=hm.ar [0] [1]
 refine hL6 _ _ _ (by subst hmu;omega) ⟨(Ψ15),(q11.2),(v34),((cs++[.int .i64 (q11.1.kind),.int .i64 (q11.1.num),.string q11.1.name,.slice p22 q11.1.args.length c23,.slice p28 q11.1.arms.length c29])),(xs++[q11.1]),(f - 1),rfl,⟨he.pk,by exact hm⟩,?_⟩
 refine ⟨(le5).trans le17,?_⟩
 exact ⟨hch.snoc rfl hr18,by simp only [List.length_append,List.length_cons,List.length_nil];omega,by omega,by simp only [List.length_append,List.length_cons,List.length_nil];omega,list_step hI_ (by omega) (.inl h10) hq13⟩
 replace hm:=hm.dl [0]
 show Out (z6d ws (z0o ws d) (ws.length+1) m i) _ _
 rw [show z6d ws (z0o ws d) (ws.length+1) m i=.error _ from list_fail hI_ (by omega) (.inl h10) hq13]
 exact ⟨rfl,hm.le (le5)⟩
 replace hm:=hm.pl 1
 refine z0x call179 he hm (fun w hm a he =>?_) (c:=z6n (i:=j) rl hws (by omega) hm)
 by_cases h35:(z0c ws j)=(⟨#[41]⟩:ByteArray)
 refine go he hm fun a he =>?_
 have hm0_:=hm
 clear hm
 obtain ⟨Ψ37,le38,hm,hrow39⟩:=hm0_.freezeRow (i:=1) rfl
 clear hm0_
 replace rl:=rl.up le38
 replace G:=G.mono le38
 replace hch:=hch.mono fun _ _ h=>REx.mono _ _ _ _ le38 h
 replace hm:=hm.nf
 have hsl40:SliceOf REx Ψ37 5 _ (xs):=⟨_,hrow39,hch⟩
 obtain ⟨p41,c42,hv_,hm43,hn44⟩:=hsl40.form (by decide)
 have hmk_:=hm
 clear hm
 subst hv_
 have hm:=hmk_
 clear hmk_
 refine Ret1 hQ he hm ?_
 show Out (z6d ws (z0o ws d) (ws.length+1) m i) _ _
 rw [show z6d ws (z0o ws d) (ws.length+1) m i=.ok (xs,j) from list_fin hI_ (by omega) h10 h35]
 exact ⟨(Ψ37,_),rfl,⟨(le5).trans le38,hsl40⟩,hm⟩
 refine Qq he hm (fun a he =>?_) (o:=by exact fun _ _ _ he hs=>z9m ((d:Nat):Int) he rfl rfl (by rw [z1m (by omega)];omega))
 refine z4y hQ call180 he hm (fun q45 y46 w hq47 hG48 hm a he =>?_) (fun q45 w hq47 hm =>?_) (c:=hE G rl (i:=j) (by omega) hm)
 obtain ⟨Ψ49,d50⟩:=y46
 obtain ⟨le51,hr52⟩:=hG48
 simp only at le51 hr52 hm he
 have hgo53:=z3s d _ _ hq47
 replace G:=G.mono le51
 replace hch:=hch.mono fun _ _ h=>REx.mono _ _ _ _ le51 h
 replace hm:=hm.nf
 obtain ⟨p56,c57,p62,c63,rfl,hi66,h55,h61,hm58,hn59,hm64,hn65⟩:=REx.fm hr52
 refine BldS he hm fun v67 w hm a he =>?_
 refine App_ 2 rt_63 he hm (fun v68 w hm a he =>?_)
 refine go he hm fun a he =>?_
 replace hm:=hm.ar [0] [1]
 refine hL6 _ _ _ (by subst hmu;omega) ⟨(Ψ49),(q45.2),(v68),((cs++[.int .i64 (q45.1.kind),.int .i64 (q45.1.num),.string q45.1.name,.slice p56 q45.1.args.length c57,.slice p62 q45.1.arms.length c63])),(xs++[q45.1]),(f - 1),rfl,⟨he.pk,by exact hm⟩,?_⟩
 refine ⟨(le5).trans le51,?_⟩
 exact ⟨hch.snoc rfl hr52,by simp only [List.length_append,List.length_cons,List.length_nil];omega,by omega,by simp only [List.length_append,List.length_cons,List.length_nil];omega,list_step hI_ (by omega) (.inr h35) hq47⟩
 replace hm:=hm.dl [0]
 show Out (z6d ws (z0o ws d) (ws.length+1) m i) _ _
 rw [show z6d ws (z0o ws d) (ws.length+1) m i=.error _ from list_fail hI_ (by omega) (.inr h35) hq47]
 exact ⟨rfl,hm.le (le5)⟩
end Go.Sw

namespace Go.Sw
open Go.Proofs.Tryz
open Go.Proofs
set_option maxRecDepth 20000
set_option maxHeartbeats 4000000
theorem rform_ok {Φ:Fz} {K:List Res} {w:World} {r i:Nat} {rs:Value} {ws:List Bs} {d:Nat} (hd:d≤1000) (hE:ExprOk ws d) (G:Glob Φ) (rl:SliceOf RStr Φ 1 rs ws) (hws:ws.length≤1000000) (hi:i≤ws.length) (hm:Mem Φ (.blk r (ob [rs,.int .i64 ((i:Nat):Int)] 208)::K) w) :
  Calls Tryz.prog 206 (List.toArray [.pointer (some ⟨r,0,none⟩),.int .i64 ((d+1:Nat):Int)]) w (fun ee w'=>Out (z1r ws (z0o ws d) i) (fun x=>∃y:Fz×List Value,ee=.returned (.agg y.2.toArray)∧(Φ.Le y.1∧REx y.1 y.2 x.1)∧Mem y.1 (.blk r (ob [rs,.int .i64 ((x.2:Nat):Int)] 208)::K) w') (fun c=>ee=.panicked (z9i c)∧Mem Φ K w')):=by
 obtain ⟨pw,cw,rfl,hmw,hnw⟩:=rl.fm
 refine z0m func206 ntmps206 fun Q hQ a he =>?_
 refine sq fun L1 hL1 =>?_
 refine go0 he hm fun a he =>?_
 refine Alc he hm fun b2 w hm a he =>?_
 refine go0 he hm fun a he =>?_
 refine hL1 _ _ ?_
 refine sq fun L3 hL3 =>?_
 refine go0 he hm fun a he =>?_
 replace hm:=hm.pl 1
 refine z0x call179 he hm (fun w hm a he =>?_) (c:=z6n (i:=i) rl hws (by omega) hm)
 refine go0 he hm fun a he =>?_
 refine hL3 _ _ ?_
 refine sq fun L4 hL4 =>?_
 refine sq fun L5 hL5 =>?_
 refine go0 he hm fun a he =>?_
 refine hL5 _ _ ?_
 refine go0 he hm fun a he =>?_
 refine sq fun L6 hL6 =>?_
 have hJ7:∀a w,(EnvR 125 [(0,.pointer (some ⟨r,0,none⟩)),(1,.int .i64 ((d+1:Nat):Int)),(4,.pointer (some ⟨b2,0,none⟩)),(5,.string (z0c ws i)),(12,.string (z0c ws i)),(13,.bool (z8k (z0c ws i)))] [] a∧Mem Φ (.blk r (ob [.slice pw ws.length cw,.int .i64 ((i:Nat):Int)] 208)::.blk b2 (ob [.int .i64 ((0:Nat):Int),.int .i64 ((0:Nat):Int),.string ⟨#[]⟩,.slice none 0 0,.slice none 0 0] 66)::K) w∧(True))→L6 a w:=by
  clear hm he
  rintro a w ⟨he,hm,hI8⟩
  refine hL6 _ _ ?_
  generalize hb10:(z8k (z0c ws i))=bb9 at he
  cases bb9
  refine go0 he hm fun a he =>?_
  refine sq fun L11 hL11 =>?_
  refine go0 he hm fun a he =>?_
  by_cases h12:(z0c ws i)=(⟨#[108,101,116]⟩:ByteArray)
  refine go0 he hm fun a he =>?_
  refine hL11 _ _ ?_
  refine go0 he hm fun a he =>?_
  refine sq fun L13 hL13 =>?_
  refine go0 he hm fun a he =>?_
  have hlt_:=peek_eq_lt h12 (by decide)
  refine go0 he hm fun a he =>?_
  refine Sto 0 he hm fun w hm a he =>?_
  refine go0 he hm fun a he =>?_
  refine hL13 _ _ ?_
  refine sq fun L14 hL14 =>?_
  refine go0 he hm fun a he =>?_
  refine z3g hQ call129 he hm (fun q15 w hq16 hm a he =>?_) (fun q15 w hq16 hm =>?_) (c:=z7y G (i:=(i+1)) rl hws (by omega) hm)
  have hleq15:=z2v hq16
  refine go0 he hm fun a he =>?_
  refine hL14 _ _ ?_
  refine sq fun L17 hL17 =>?_
  refine go0 he hm fun a he =>?_
  refine z4y hQ call218 he hm (fun q18 y19 w hq20 hG21 hm a he =>?_) (fun q18 w hq20 hm =>?_) (c:=rtwo_ok hd hE G (i:=q15.2) rl hws (by omega) hm)
  obtain ⟨Ψ22,d23⟩:=y19
  obtain ⟨le24,hr25⟩:=hG21
  simp only at le24 hr25 hm he
  have hgo26:=two_le hq20
  replace rl:=rl.up le24
  replace G:=G.mono le24
  replace hm:=hm.nf
  obtain ⟨p27,c28,rfl,hmx29,hn30⟩:=hr25.fm
  refine z1n he hm fun a he =>?_
  refine Sto 1 he hm fun w hm a he =>?_
  refine go0 he hm fun a he =>?_
  refine hL17 _ _ ?_
  refine go0 he hm fun a he =>?_
  have hmr:=hm
  replace hm:=hm.dl [1]
  refine RetA hQ he hmr ?_
  show Out (z1r ws (z0o ws d) i) _ _
  rw [show z1r ws (z0o ws d) i=.ok (.mk 6 0 q15.1 q18.1 [],q18.2) from (form_let hb10 h12).trans ((z0b hq16).trans ((z0b hq20).trans (rfl)))]
  exact ⟨(Ψ22,_),rfl,⟨le24,REx.node hr25⟩,hm⟩
  replace hm:=hm.dl [0]
  show Out (z1r ws (z0o ws d) i) _ _
  rw [show z1r ws (z0o ws d) i=.error _ from (form_let hb10 h12).trans ((z0b hq16).trans (z0j hq20))]
  exact ⟨rfl,hm.le (Fz.Le.refl _)⟩
  replace hm:=hm.dl [0]
  show Out (z1r ws (z0o ws d) i) _ _
  rw [show z1r ws (z0o ws d) i=.error _ from (form_let hb10 h12).trans (z0j hq16)]
  exact ⟨rfl,hm.le (Fz.Le.refl _)⟩
  refine go0 he hm fun a he =>?_
  refine hL11 _ _ ?_
  refine go0 he hm fun a he =>?_
  refine sq fun L31 hL31 =>?_
  refine go0 he hm fun a he =>?_
  by_cases h32:(z0c ws i)=(⟨#[99,97,115,101]⟩:ByteArray)
  refine go0 he hm fun a he =>?_
  refine hL31 _ _ ?_
  refine go0 he hm fun a he =>?_
  refine sq fun L33 hL33 =>?_
  refine go0 he hm fun a he =>?_
  have hlt_:=peek_eq_lt h32 (by decide)
  refine go0 he hm fun a he =>?_
  refine Sto 0 he hm fun w hm a he =>?_
  refine go0 he hm fun a he =>?_
  refine hL33 _ _ ?_
  refine sq fun L34 hL34 =>?_
  refine go0 he hm fun a he =>?_
  refine Qq he hm (fun a he =>?_) (o:=by exact fun _ _ _ he hs=>z9m ((d:Nat):Int) he rfl rfl (by rw [z1m (by omega)];omega))
  refine z4y hQ call180 he hm (fun q35 y36 w hq37 hG38 hm a he =>?_) (fun q35 w hq37 hm =>?_) (c:=hE G rl (i:=(i+1)) (by omega) hm)
  obtain ⟨Ψ39,d40⟩:=y36
  obtain ⟨le41,hr42⟩:=hG38
  simp only at le41 hr42 hm he
  have hgo43:=z3s d _ _ hq37
  replace rl:=rl.up le41
  replace G:=G.mono le41
  replace hm:=hm.nf
  obtain ⟨p46,c47,p52,c53,rfl,hi56,h45,h51,hm48,hn49,hm54,hn55⟩:=REx.fm hr42
  refine BldS he hm fun v57 w hm a he =>?_
  have hm0_:=hm
  clear hm
  obtain ⟨Ψ58,le59,hm,hrow60⟩:=hm0_.freezeRow (i:=0) rfl
  clear hm0_
  replace rl:=rl.up le59
  replace G:=G.mono le59
  replace hr42:=REx.mono _ _ _ _ le59 hr42
  replace hm:=hm.nf
  have hsl61:SliceOf REx Ψ58 5 _ ([q35.1]):=⟨_,hrow60,(Chunks.one rfl hr42)⟩
  obtain ⟨p62,c63,hv_,hm64,hn65⟩:=hsl61.form (by decide)
  have hmk_:=hm
  clear hm
  subst hv_
  have hm:=hmk_
  clear hmk_
  refine z1n he hm fun a he =>?_
  refine Alc he hm fun b66 w hm a he =>?_
  refine Sto 0 he hm fun w hm a he =>?_
  refine go0 he hm fun a he =>?_
  refine hL34 _ _ ?_
  refine sq fun L67 hL67 =>?_
  refine go0 he hm fun a he =>?_
  replace hm:=hm.nilRow 195 7
  replace hm:=hm.nf
  refine z1l (he.ks [0,1,4,7]) hm (fun R mm a w=>∃(Ψ68:Fz) (j:Nat) (u:Value) (cs:List Value) (xs:List Arm) (f:Nat),mm=ws.length - j∧R Ψ68 [] [(0,.gs (u) 195 7 cs),(1,.blk b66 (ob [.int .i64 ((7:Nat):Int),.int .i64 ((0:Nat):Int),.string ⟨#[]⟩,.slice p62 ([q35.1]).length c63,u] 66)),(2,.blk r (ob [.slice pw ws.length cw,.int .i64 ((j:Nat):Int)] 208))] a w∧(Ψ58.Le Ψ68∧(Chunks (RArm Ψ68) 7 cs xs∧xs.length≤j∧j≤ws.length∧xs.length+f=ws.length+1∧armsP ws (z0o ws d) (ws.length+1) true q35.2=pre1 xs (armsP ws (z0o ws d) f (decide (xs.length=0)) j)))) (ws.length - q35.2) ⟨Ψ58,q35.2,.slice none 0 0,[],[],ws.length+1,rfl,⟨he.pk,hm⟩,⟨Fz.Le.refl _,⟨rfl,Nat.zero_le _,by omega,Nat.zero_add _,y1y _⟩⟩⟩ ?_
  clear hm he
  rintro mm a w ⟨Ψ68,j,u,cs,xs,f,hmu,⟨he,hm⟩,hI71⟩ L70 hL70
  replace hm:=hm.nf
  obtain ⟨le69,hI71⟩:=hI71
  replace rl:=rl.up le69
  replace G:=G.mono le69
  replace hr42:=REx.mono _ _ _ _ le69 hr42
  replace hsl61:=hsl61.up le69
  obtain ⟨hch,hxl,hj,hf_,hI_⟩:=hI71
  refine sq fun L72 hL72 =>?_
  refine sq fun L73 hL73 =>?_
  refine go0 he hm fun a he =>?_
  refine Qq he hm (fun a he =>?_) (o:=by exact fun _ _ _ he hs=>y_len_gs 0 (xs.length) he hs rfl rfl (hch.length) (by decide) runUnderlying64)
  by_cases h74:xs.length=0
  refine go0 he hm fun a he =>?_
  refine hL73 _ _ ?_
  refine go0 he hm fun a he =>?_
  refine hL72 _ _ ?_
  refine go0 he hm fun a he =>?_
  refine sq fun L75 hL75 =>?_
  refine go0 he hm fun a he =>?_
  replace hm:=hm.pl 2
  refine z3g hQ call177 he hm (fun q76 w hq77 hm a he =>?_) (fun q76 w hq77 hm =>?_) (c:=z5v (x:=(⟨#[40]⟩:ByteArray)) (i:=j) rl hws (by omega) hm)
  have hleq76:=z5u hq77
  refine go0 he hm fun a he =>?_
  refine hL75 _ _ ?_
  refine sq fun L78 hL78 =>?_
  refine go0 he hm fun a he =>?_
  refine z3g hQ call176 he hm (fun q79 w hq80 hm a he =>?_) (fun q79 w hq80 hm =>?_) (c:=rcon_ok G (i:=q76.2) rl hws (by omega) hm)
  have hleq79:=z2v hq80
  refine z1n he hm fun a he =>?_
  refine Alc he hm fun b81 w hm a he =>?_
  refine Sto 0 he hm fun w hm a he =>?_
  refine go0 he hm fun a he =>?_
  refine hL78 _ _ ?_
  refine sq fun L82 hL82 =>?_
  refine go0 he hm fun a he =>?_
  replace hm:=hm.nilRow 9 1
  replace hm:=hm.nf
  refine z1l (he.ks [0,1,4,7,8]) hm (fun R mm a w=>∃(j2:Nat) (u2:Value) (vs:List Bs) (f2:Nat),mm=ws.length - j2∧R Ψ68 [] [(0,.gs (u2) 9 1 (strs vs)),(1,.blk b81 (ob [.string q79.1,u2,.int .i64 ((0:Nat):Int),.int .i64 ((0:Nat):Int),.string ⟨#[]⟩,.slice none 0 0,.slice none 0 0] 195)),(2,.blk r (ob [.slice pw ws.length cw,.int .i64 ((j2:Nat):Int)] 208))] a w∧(vs.length≤j2∧j < j2∧j2≤ws.length∧vs.length+f2=ws.length+1∧y2c ws (ws.length+1) q79.2=pre1 vs (y2c ws f2 j2))) (ws.length - q79.2) ⟨q79.2,.slice none 0 0,[],ws.length+1,rfl,⟨he.pk,hm⟩,⟨Nat.zero_le _,by omega,by omega,Nat.zero_add _,y1y _⟩⟩ ?_
  clear hm he
  rintro mm a w ⟨j2,u2,vs,f2,hmu,⟨he,hm⟩,hI84⟩ L83 hL83
  replace hm:=hm.nf
  obtain ⟨hvl,hj2,hj3,hf2_,hV_⟩:=hI84
  refine sq fun L85 hL85 =>?_
  refine sq fun L86 hL86 =>?_
  refine go0 he hm fun a he =>?_
  replace hm:=hm.pl 2
  refine z0x call179 he hm (fun w hm a he =>?_) (c:=z6n (i:=j2) rl hws (by omega) hm)
  by_cases h87:(z0c ws j2)=(⟨#[45,62]⟩:ByteArray)
  refine go0 he hm fun a he =>?_
  refine hL86 _ _ ?_
  refine go0 he hm fun a he =>?_
  refine hL82 _ _ ?_
  refine sq fun L88 hL88 =>?_
  refine go0 he hm fun a he =>?_
  have hm0_:=hm
  clear hm
  obtain ⟨Ψ89,le90,hm,hrow91⟩:=hm0_.freezeRow (i:=1) rfl
  clear hm0_
  replace rl:=rl.up le90
  replace G:=G.mono le90
  replace hr42:=REx.mono _ _ _ _ le90 hr42
  replace hsl61:=hsl61.up le90
  replace hch:=hch.mono fun _ _ h=>RArm.mono _ _ _ _ le90 h
  replace hm:=hm.nf
  have hsl92:SliceOf RStr Ψ89 1 _ (vs):=SliceOf.strs.2 hrow91
  obtain ⟨p93,c94,hv_,hm95,hn96⟩:=hsl92.form (by decide)
  have hmk_:=hm
  clear hm
  subst hv_
  have hm:=hmk_
  clear hmk_
  have hv97:=vars_fin hV_ (by omega) h87
  refine go0 he hm fun a he =>?_
  refine z3g hQ call177 he hm (fun q98 w hq99 hm a he =>?_) (fun q98 w hq99 hm =>?_) (c:=z5v (x:=(⟨#[45,62]⟩:ByteArray)) (i:=j2) rl hws (by omega) hm)
  have hleq98:=z5u hq99
  refine go0 he hm fun a he =>?_
  refine hL88 _ _ ?_
  refine sq fun L100 hL100 =>?_
  refine go0 he hm fun a he =>?_
  refine Qq he hm (fun a he =>?_) (o:=by exact fun _ _ _ he hs=>z9m ((d:Nat):Int) he rfl rfl (by rw [z1m (by omega)];omega))
  refine z4y hQ call180 he hm (fun q101 y102 w hq103 hG104 hm a he =>?_) (fun q101 w hq103 hm =>?_) (c:=hE G rl (i:=q98.2) (by omega) hm)
  obtain ⟨Ψ105,d106⟩:=y102
  obtain ⟨le107,hr108⟩:=hG104
  simp only at le107 hr108 hm he
  have hgo109:=z3s d _ _ hq103
  replace rl:=rl.up le107
  replace G:=G.mono le107
  replace hr42:=REx.mono _ _ _ _ le107 hr42
  replace hsl61:=hsl61.up le107
  replace hch:=hch.mono fun _ _ h=>RArm.mono _ _ _ _ le107 h
  replace hsl92:=hsl92.up le107
  replace hm:=hm.nf
  obtain ⟨p112,c113,p118,c119,rfl,hi122,h111,h117,hm114,hn115,hm120,hn121⟩:=REx.fm hr108
  refine go0 he hm fun a he =>?_
  refine Sto 1 he hm fun w hm a he =>?_
  refine go0 he hm fun a he =>?_
  refine hL100 _ _ ?_
  refine sq fun L123 hL123 =>?_
  refine go0 he hm fun a he =>?_
  refine z3g hQ call177 he hm (fun q124 w hq125 hm a he =>?_) (fun q124 w hq125 hm =>?_) (c:=z5v (x:=(⟨#[41]⟩:ByteArray)) (i:=q101.2) rl hws (by omega) hm)
  have hleq124:=z5u hq125
  refine go0 he hm fun a he =>?_
  refine hL123 _ _ ?_
  refine go0 he hm fun a he =>?_
  refine BldS he hm fun v126 w hm a he =>?_
  refine App_ 3 rt_64 he hm (fun v127 w hm a he =>?_)
  refine go0 he hm fun a he =>?_
  refine Sto 4 he hm fun w hm a he =>?_
  refine go0 he hm fun a he =>?_
  replace hm:=hm.ar [2,0] [3,1,3,3]
  refine hL70 _ _ _ (by subst hmu;omega) ⟨(Ψ105),(q124.2),(v127),((cs++[.string q79.1,.slice p93 (vs).length c94,.int .i64 (q101.1.kind),.int .i64 (q101.1.num),.string q101.1.name,.slice p112 q101.1.args.length c113,.slice p118 q101.1.arms.length c119])),(xs++[.mk q79.1 vs q101.1]),(f - 1),rfl,⟨he.pk,by exact hm⟩,?_⟩
  refine ⟨((le69).trans le90).trans le107,?_⟩
  exact ⟨hch.snoc (k:=7) rfl (RArm.of hsl92 hr108 (c:=q79.1)),by simp only [List.length_append,List.length_cons,List.length_nil];omega,by omega,by simp only [List.length_append,List.length_cons,List.length_nil];omega,arms_step (x:=(.mk q79.1 vs q101.1,q124.2)) hI_ (by omega) (.inl h74) ((z0b hq77).trans ((z0b hq80).trans ((z0b hv97).trans ((z0b hq99).trans ((z0b hq103).trans ((z0b hq125).trans (rfl)))))))⟩
  replace hm:=hm.dl [3,2,1,0]
  show Out (z1r ws (z0o ws d) i) _ _
  rw [show z1r ws (z0o ws d) i=.error _ from (z3k hb10 h12 h32).trans ((z0b hq37).trans (z0j (z4f hI_ (by omega) (.inl h74) ((z0b hq77).trans ((z0b hq80).trans ((z0b hv97).trans ((z0b hq99).trans ((z0b hq103).trans (z0j hq125)))))))))]
  exact ⟨rfl,hm.le (((((le41).trans le59).trans le69).trans le90).trans le107)⟩
  replace hm:=hm.dl [3,2,1,0]
  show Out (z1r ws (z0o ws d) i) _ _
  rw [show z1r ws (z0o ws d) i=.error _ from (z3k hb10 h12 h32).trans ((z0b hq37).trans (z0j (z4f hI_ (by omega) (.inl h74) ((z0b hq77).trans ((z0b hq80).trans ((z0b hv97).trans ((z0b hq99).trans (z0j hq103))))))))]
  exact ⟨rfl,hm.le ((((le41).trans le59).trans le69).trans le90)⟩
  replace hm:=hm.dl [3,2,1,0]
  show Out (z1r ws (z0o ws d) i) _ _
  rw [show z1r ws (z0o ws d) i=.error _ from (z3k hb10 h12 h32).trans ((z0b hq37).trans (z0j (z4f hI_ (by omega) (.inl h74) ((z0b hq77).trans ((z0b hq80).trans ((z0b hv97).trans (z0j hq99)))))))]
  exact ⟨rfl,hm.le ((((le41).trans le59).trans le69).trans le90)⟩
  refine go0 he hm fun a he =>?_
  refine hL86 _ _ ?_
  refine go0 he hm fun a he =>?_
  refine hL85 _ _ ?_
  refine go0 he hm fun a he =>?_
  refine Reg [1,2,1,0,0,0,1,0] [2,3,4,5] he hm fun w hm a he =>?_
  refine go0 he hm fun a he =>?_
  refine z3g hQ call129 he hm (fun q128 w hq129 hm a he =>?_) (fun q128 w hq129 hm =>?_) (c:=z7y G (i:=j2) rl hws (by omega) hm)
  have hleq128:=z2v hq129
  refine BldS he hm fun v130 w hm a he =>?_
  refine App_ 2 rt_25 he hm (fun v131 w hm a he =>?_) (hb:=by simp [z2h];omega)
  refine go0 he hm fun a he =>?_
  refine Sto 3 he hm fun w hm a he =>?_
  refine go0 he hm fun a he =>?_
  first | rw [z4x] at hm | rw [← z2g] at hm
  replace hm:=hm.ar [0] [5,5,5,3,5,5]
  refine hL83 _ _ _ (by subst hmu;omega) ⟨(q128.2),(v131),(vs++[q128.1]),(f2 - 1),rfl,⟨he.pk,by exact hm⟩,?_⟩
  exact ⟨by simp only [List.length_append,List.length_cons,List.length_nil];omega,by omega,by omega,by simp only [List.length_append,List.length_cons,List.length_nil];omega,vars_step hV_ (by omega) h87 hq129⟩
  replace hm:=hm.dl [4,3,2,1,0]
  show Out (z1r ws (z0o ws d) i) _ _
  rw [show z1r ws (z0o ws d) i=.error _ from (z3k hb10 h12 h32).trans ((z0b hq37).trans (z0j (z4f hI_ (by omega) (.inl h74) ((z0b hq77).trans ((z0b hq80).trans (z0j (vars_fail hV_ (by omega) h87 hq129)))))))]
  exact ⟨rfl,hm.le (((le41).trans le59).trans le69)⟩
  replace hm:=hm.dl [2,1,0]
  show Out (z1r ws (z0o ws d) i) _ _
  rw [show z1r ws (z0o ws d) i=.error _ from (z3k hb10 h12 h32).trans ((z0b hq37).trans (z0j (z4f hI_ (by omega) (.inl h74) ((z0b hq77).trans (z0j hq80)))))]
  exact ⟨rfl,hm.le (((le41).trans le59).trans le69)⟩
  replace hm:=hm.dl [2,1,0]
  show Out (z1r ws (z0o ws d) i) _ _
  rw [show z1r ws (z0o ws d) i=.error _ from (z3k hb10 h12 h32).trans ((z0b hq37).trans (z0j (z4f hI_ (by omega) (.inl h74) (z0j hq77))))]
  exact ⟨rfl,hm.le (((le41).trans le59).trans le69)⟩
  refine go0 he hm fun a he =>?_
  replace hm:=hm.pl 2
  refine z0x call179 he hm (fun w hm a he =>?_) (c:=z6n (i:=j) rl hws (by omega) hm)
  by_cases h132:(z0c ws j)=(⟨#[40]⟩:ByteArray)
  refine go0 he hm fun a he =>?_
  refine hL73 _ _ ?_
  refine go0 he hm fun a he =>?_
  refine hL72 _ _ ?_
  refine go0 he hm fun a he =>?_
  refine sq fun L133 hL133 =>?_
  refine go0 he hm fun a he =>?_
  refine z3g hQ call177 he hm (fun q134 w hq135 hm a he =>?_) (fun q134 w hq135 hm =>?_) (c:=z5v (x:=(⟨#[40]⟩:ByteArray)) (i:=j) rl hws (by omega) hm)
  have hleq134:=z5u hq135
  refine go0 he hm fun a he =>?_
  refine hL133 _ _ ?_
  refine sq fun L136 hL136 =>?_
  refine go0 he hm fun a he =>?_
  refine z3g hQ call176 he hm (fun q137 w hq138 hm a he =>?_) (fun q137 w hq138 hm =>?_) (c:=rcon_ok G (i:=q134.2) rl hws (by omega) hm)
  have hleq137:=z2v hq138
  refine z1n he hm fun a he =>?_
  refine Alc he hm fun b139 w hm a he =>?_
  refine Sto 0 he hm fun w hm a he =>?_
  refine go0 he hm fun a he =>?_
  refine hL136 _ _ ?_
  refine sq fun L140 hL140 =>?_
  refine go0 he hm fun a he =>?_
  replace hm:=hm.nilRow 9 1
  replace hm:=hm.nf
  refine z1l (he.ks [0,1,4,7,8]) hm (fun R mm a w=>∃(j2:Nat) (u2:Value) (vs:List Bs) (f2:Nat),mm=ws.length - j2∧R Ψ68 [] [(0,.gs (u2) 9 1 (strs vs)),(1,.blk b139 (ob [.string q137.1,u2,.int .i64 ((0:Nat):Int),.int .i64 ((0:Nat):Int),.string ⟨#[]⟩,.slice none 0 0,.slice none 0 0] 195)),(2,.blk r (ob [.slice pw ws.length cw,.int .i64 ((j2:Nat):Int)] 208))] a w∧(vs.length≤j2∧j < j2∧j2≤ws.length∧vs.length+f2=ws.length+1∧y2c ws (ws.length+1) q137.2=pre1 vs (y2c ws f2 j2))) (ws.length - q137.2) ⟨q137.2,.slice none 0 0,[],ws.length+1,rfl,⟨he.pk,hm⟩,⟨Nat.zero_le _,by omega,by omega,Nat.zero_add _,y1y _⟩⟩ ?_
  clear hm he
  rintro mm a w ⟨j2,u2,vs,f2,hmu,⟨he,hm⟩,hI142⟩ L141 hL141
  replace hm:=hm.nf
  obtain ⟨hvl,hj2,hj3,hf2_,hV_⟩:=hI142
  refine sq fun L143 hL143 =>?_
  refine sq fun L144 hL144 =>?_
  refine go0 he hm fun a he =>?_
  replace hm:=hm.pl 2
  refine z0x call179 he hm (fun w hm a he =>?_) (c:=z6n (i:=j2) rl hws (by omega) hm)
  by_cases h145:(z0c ws j2)=(⟨#[45,62]⟩:ByteArray)
  refine go0 he hm fun a he =>?_
  refine hL144 _ _ ?_
  refine go0 he hm fun a he =>?_
  refine hL140 _ _ ?_
  refine sq fun L146 hL146 =>?_
  refine go0 he hm fun a he =>?_
  have hm0_:=hm
  clear hm
  obtain ⟨Ψ147,le148,hm,hrow149⟩:=hm0_.freezeRow (i:=1) rfl
  clear hm0_
  replace rl:=rl.up le148
  replace G:=G.mono le148
  replace hr42:=REx.mono _ _ _ _ le148 hr42
  replace hsl61:=hsl61.up le148
  replace hch:=hch.mono fun _ _ h=>RArm.mono _ _ _ _ le148 h
  replace hm:=hm.nf
  have hsl150:SliceOf RStr Ψ147 1 _ (vs):=SliceOf.strs.2 hrow149
  obtain ⟨p151,c152,hv_,hm153,hn154⟩:=hsl150.form (by decide)
  have hmk_:=hm
  clear hm
  subst hv_
  have hm:=hmk_
  clear hmk_
  have hv155:=vars_fin hV_ (by omega) h145
  refine go0 he hm fun a he =>?_
  refine z3g hQ call177 he hm (fun q156 w hq157 hm a he =>?_) (fun q156 w hq157 hm =>?_) (c:=z5v (x:=(⟨#[45,62]⟩:ByteArray)) (i:=j2) rl hws (by omega) hm)
  have hleq156:=z5u hq157
  refine go0 he hm fun a he =>?_
  refine hL146 _ _ ?_
  refine sq fun L158 hL158 =>?_
  refine go0 he hm fun a he =>?_
  refine Qq he hm (fun a he =>?_) (o:=by exact fun _ _ _ he hs=>z9m ((d:Nat):Int) he rfl rfl (by rw [z1m (by omega)];omega))
  refine z4y hQ call180 he hm (fun q159 y160 w hq161 hG162 hm a he =>?_) (fun q159 w hq161 hm =>?_) (c:=hE G rl (i:=q156.2) (by omega) hm)
  obtain ⟨Ψ163,d164⟩:=y160
  obtain ⟨le165,hr166⟩:=hG162
  simp only at le165 hr166 hm he
  have hgo167:=z3s d _ _ hq161
  replace rl:=rl.up le165
  replace G:=G.mono le165
  replace hr42:=REx.mono _ _ _ _ le165 hr42
  replace hsl61:=hsl61.up le165
  replace hch:=hch.mono fun _ _ h=>RArm.mono _ _ _ _ le165 h
  replace hsl150:=hsl150.up le165
  replace hm:=hm.nf
  obtain ⟨p170,c171,p176,c177,rfl,hi180,h169,h175,hm172,hn173,hm178,hn179⟩:=REx.fm hr166
  refine go0 he hm fun a he =>?_
  refine Sto 1 he hm fun w hm a he =>?_
  refine go0 he hm fun a he =>?_
  refine hL158 _ _ ?_
  refine sq fun L181 hL181 =>?_
  refine go0 he hm fun a he =>?_
  refine z3g hQ call177 he hm (fun q182 w hq183 hm a he =>?_) (fun q182 w hq183 hm =>?_) (c:=z5v (x:=(⟨#[41]⟩:ByteArray)) (i:=q159.2) rl hws (by omega) hm)
  have hleq182:=z5u hq183
  refine go0 he hm fun a he =>?_
  refine hL181 _ _ ?_
  refine go0 he hm fun a he =>?_
  refine BldS he hm fun v184 w hm a he =>?_
  refine App_ 3 rt_64 he hm (fun v185 w hm a he =>?_)
  refine go0 he hm fun a he =>?_
  refine Sto 4 he hm fun w hm a he =>?_
  refine go0 he hm fun a he =>?_
  replace hm:=hm.ar [2,0] [3,1,3,3]
  refine hL70 _ _ _ (by subst hmu;omega) ⟨(Ψ163),(q182.2),(v185),((cs++[.string q137.1,.slice p151 (vs).length c152,.int .i64 (q159.1.kind),.int .i64 (q159.1.num),.string q159.1.name,.slice p170 q159.1.args.length c171,.slice p176 q159.1.arms.length c177])),(xs++[.mk q137.1 vs q159.1]),(f - 1),rfl,⟨he.pk,by exact hm⟩,?_⟩
  refine ⟨((le69).trans le148).trans le165,?_⟩
  exact ⟨hch.snoc (k:=7) rfl (RArm.of hsl150 hr166 (c:=q137.1)),by simp only [List.length_append,List.length_cons,List.length_nil];omega,by omega,by simp only [List.length_append,List.length_cons,List.length_nil];omega,arms_step (x:=(.mk q137.1 vs q159.1,q182.2)) hI_ (by omega) (.inr h132) ((z0b hq135).trans ((z0b hq138).trans ((z0b hv155).trans ((z0b hq157).trans ((z0b hq161).trans ((z0b hq183).trans (rfl)))))))⟩
  replace hm:=hm.dl [3,2,1,0]
  show Out (z1r ws (z0o ws d) i) _ _
  rw [show z1r ws (z0o ws d) i=.error _ from (z3k hb10 h12 h32).trans ((z0b hq37).trans (z0j (z4f hI_ (by omega) (.inr h132) ((z0b hq135).trans ((z0b hq138).trans ((z0b hv155).trans ((z0b hq157).trans ((z0b hq161).trans (z0j hq183)))))))))]
  exact ⟨rfl,hm.le (((((le41).trans le59).trans le69).trans le148).trans le165)⟩
  replace hm:=hm.dl [3,2,1,0]
  show Out (z1r ws (z0o ws d) i) _ _
  rw [show z1r ws (z0o ws d) i=.error _ from (z3k hb10 h12 h32).trans ((z0b hq37).trans (z0j (z4f hI_ (by omega) (.inr h132) ((z0b hq135).trans ((z0b hq138).trans ((z0b hv155).trans ((z0b hq157).trans (z0j hq161))))))))]
  exact ⟨rfl,hm.le ((((le41).trans le59).trans le69).trans le148)⟩
  replace hm:=hm.dl [3,2,1,0]
  show Out (z1r ws (z0o ws d) i) _ _
  rw [show z1r ws (z0o ws d) i=.error _ from (z3k hb10 h12 h32).trans ((z0b hq37).trans (z0j (z4f hI_ (by omega) (.inr h132) ((z0b hq135).trans ((z0b hq138).trans ((z0b hv155).trans (z0j hq157)))))))]
  exact ⟨rfl,hm.le ((((le41).trans le59).trans le69).trans le148)⟩
  refine go0 he hm fun a he =>?_
  refine hL144 _ _ ?_
  refine go0 he hm fun a he =>?_
  refine hL143 _ _ ?_
  refine go0 he hm fun a he =>?_
  refine Reg [1,2,1,0,0,0,1,0] [2,3,4,5] he hm fun w hm a he =>?_
  refine go0 he hm fun a he =>?_
  refine z3g hQ call129 he hm (fun q186 w hq187 hm a he =>?_) (fun q186 w hq187 hm =>?_) (c:=z7y G (i:=j2) rl hws (by omega) hm)
  have hleq186:=z2v hq187
  refine BldS he hm fun v188 w hm a he =>?_
  refine App_ 2 rt_25 he hm (fun v189 w hm a he =>?_) (hb:=by simp [z2h];omega)
  refine go0 he hm fun a he =>?_
  refine Sto 3 he hm fun w hm a he =>?_
  refine go0 he hm fun a he =>?_
  first | rw [z4x] at hm | rw [← z2g] at hm
  replace hm:=hm.ar [0] [5,5,5,3,5,5]
  refine hL141 _ _ _ (by subst hmu;omega) ⟨(q186.2),(v189),(vs++[q186.1]),(f2 - 1),rfl,⟨he.pk,by exact hm⟩,?_⟩
  exact ⟨by simp only [List.length_append,List.length_cons,List.length_nil];omega,by omega,by omega,by simp only [List.length_append,List.length_cons,List.length_nil];omega,vars_step hV_ (by omega) h145 hq187⟩
  replace hm:=hm.dl [4,3,2,1,0]
  show Out (z1r ws (z0o ws d) i) _ _
  rw [show z1r ws (z0o ws d) i=.error _ from (z3k hb10 h12 h32).trans ((z0b hq37).trans (z0j (z4f hI_ (by omega) (.inr h132) ((z0b hq135).trans ((z0b hq138).trans (z0j (vars_fail hV_ (by omega) h145 hq187)))))))]
  exact ⟨rfl,hm.le (((le41).trans le59).trans le69)⟩
  replace hm:=hm.dl [2,1,0]
  show Out (z1r ws (z0o ws d) i) _ _
  rw [show z1r ws (z0o ws d) i=.error _ from (z3k hb10 h12 h32).trans ((z0b hq37).trans (z0j (z4f hI_ (by omega) (.inr h132) ((z0b hq135).trans (z0j hq138)))))]
  exact ⟨rfl,hm.le (((le41).trans le59).trans le69)⟩
  replace hm:=hm.dl [2,1,0]
  show Out (z1r ws (z0o ws d) i) _ _
  rw [show z1r ws (z0o ws d) i=.error _ from (z3k hb10 h12 h32).trans ((z0b hq37).trans (z0j (z4f hI_ (by omega) (.inr h132) (z0j hq135))))]
  exact ⟨rfl,hm.le (((le41).trans le59).trans le69)⟩
  refine go0 he hm fun a he =>?_
  refine hL73 _ _ ?_
  refine go0 he hm fun a he =>?_
  refine hL67 _ _ ?_
  refine sq fun L190 hL190 =>?_
  refine go0 he hm fun a he =>?_
  have hm0_:=hm
  clear hm
  obtain ⟨Ψ191,le192,hm,hrow193⟩:=hm0_.freezeRow (i:=1) rfl
  clear hm0_
  replace rl:=rl.up le192
  replace G:=G.mono le192
  replace hr42:=REx.mono _ _ _ _ le192 hr42
  replace hsl61:=hsl61.up le192
  replace hch:=hch.mono fun _ _ h=>RArm.mono _ _ _ _ le192 h
  replace hm:=hm.nf
  have hsl194:SliceOf RArm Ψ191 7 _ (xs):=⟨_,hrow193,hch⟩
  obtain ⟨p195,c196,hv_,hm197,hn198⟩:=hsl194.form (by decide)
  have hmk_:=hm
  clear hm
  subst hv_
  have hm:=hmk_
  clear hmk_
  have hA_:=arms_fin hI_ (by omega) h74 h132
  refine go0 he hm fun a he =>?_
  refine Sto 2 he hm fun w hm a he =>?_
  refine go0 he hm fun a he =>?_
  refine hL190 _ _ ?_
  refine go0 he hm fun a he =>?_
  have hmr:=hm
  replace hm:=hm.dl [2,1]
  refine RetA hQ he hmr ?_
  show Out (z1r ws (z0o ws d) i) _ _
  rw [show z1r ws (z0o ws d) i=.ok (.mk 7 0 ⟨#[]⟩ [q35.1] xs,j) from (z3k hb10 h12 h32).trans ((z0b hq37).trans ((z0b hA_).trans rfl))]
  exact ⟨(Ψ191,_),rfl,⟨(((le41).trans le59).trans le69).trans le192,REx.full hsl61 hsl194⟩,hm⟩
  replace hm:=hm.dl [0]
  show Out (z1r ws (z0o ws d) i) _ _
  rw [show z1r ws (z0o ws d) i=.error _ from (z3k hb10 h12 h32).trans (z0j hq37)]
  exact ⟨rfl,hm.le (Fz.Le.refl _)⟩
  refine go0 he hm fun a he =>?_
  refine hL31 _ _ ?_
  refine go0 he hm fun a he =>?_
  refine hL4 _ _ ?_
  refine sq fun L199 hL199 =>?_
  refine sq fun L200 hL200 =>?_
  refine go0 he hm fun a he =>?_
  refine z1u call178 he hm (fun hB201 w hm a he =>?_) (fun hB201 w hm a he =>?_) (c:=z6j G hm)
  refine go0 he hm fun a he =>?_
  refine hL200 _ _ ?_
  refine go0 he hm fun a he =>?_
  refine sq fun L202 hL202 =>?_
  refine go0 he hm fun a he =>?_
  have hlt_:=isCon_lt hB201
  refine go0 he hm fun a he =>?_
  refine Sto 0 he hm fun w hm a he =>?_
  refine go0 he hm fun a he =>?_
  refine hL202 _ _ ?_
  refine sq fun L203 hL203 =>?_
  refine go0 he hm fun a he =>?_
  refine z4y hQ call219 he hm (fun q204 y205 w hq206 hG207 hm a he =>?_) (fun q204 w hq206 hm =>?_) (c:=rlist_ok (m:=1) hd hE G (i:=(i+1)) rl hws (by omega) hm)
  obtain ⟨Ψ208,d209⟩:=y205
  obtain ⟨le210,hr211⟩:=hG207
  simp only at le210 hr211 hm he
  have hgo212:=list_le (by omega) hq206
  replace rl:=rl.up le210
  replace G:=G.mono le210
  replace hm:=hm.nf
  obtain ⟨p213,c214,rfl,hmx215,hn216⟩:=hr211.fm
  refine z1n he hm fun a he =>?_
  refine Sto 1 he hm fun w hm a he =>?_
  refine go0 he hm fun a he =>?_
  refine hL203 _ _ ?_
  refine go0 he hm fun a he =>?_
  have hmr:=hm
  replace hm:=hm.dl [1]
  refine RetA hQ he hmr ?_
  show Out (z1r ws (z0o ws d) i) _ _
  rw [show z1r ws (z0o ws d) i=.ok (.mk 4 0 (z0c ws i) q204.1 [],q204.2) from (form_con hb10 h12 h32 hB201).trans ((z0b hq206).trans (rfl))]
  exact ⟨(Ψ208,_),rfl,⟨le210,REx.node hr211⟩,hm⟩
  replace hm:=hm.dl [0]
  show Out (z1r ws (z0o ws d) i) _ _
  rw [show z1r ws (z0o ws d) i=.error _ from (form_con hb10 h12 h32 hB201).trans (z0j hq206)]
  exact ⟨rfl,hm.le (Fz.Le.refl _)⟩
  refine go0 he hm fun a he =>?_
  refine hL200 _ _ ?_
  refine go0 he hm fun a he =>?_
  refine hL199 _ _ ?_
  refine sq fun L217 hL217 =>?_
  refine go0 he hm fun a he =>?_
  refine z3g hQ call129 he hm (fun q218 w hq219 hm a he =>?_) (fun q218 w hq219 hm =>?_) (c:=z7y G (i:=i) rl hws (by omega) hm)
  have hleq218:=z2v hq219
  refine go0 he hm fun a he =>?_
  refine hL217 _ _ ?_
  refine sq fun L220 hL220 =>?_
  refine go0 he hm fun a he =>?_
  refine z4y hQ call219 he hm (fun q221 y222 w hq223 hG224 hm a he =>?_) (fun q221 w hq223 hm =>?_) (c:=rlist_ok (m:=0) hd hE G (i:=q218.2) rl hws (by omega) hm)
  obtain ⟨Ψ225,d226⟩:=y222
  obtain ⟨le227,hr228⟩:=hG224
  simp only at le227 hr228 hm he
  have hgo229:=list_le (by omega) hq223
  replace rl:=rl.up le227
  replace G:=G.mono le227
  replace hm:=hm.nf
  obtain ⟨p230,c231,rfl,hmx232,hn233⟩:=hr228.fm
  refine z1n he hm fun a he =>?_
  refine Sto 1 he hm fun w hm a he =>?_
  refine go0 he hm fun a he =>?_
  refine hL220 _ _ ?_
  refine go0 he hm fun a he =>?_
  have hmr:=hm
  replace hm:=hm.dl [1]
  refine RetA hQ he hmr ?_
  show Out (z1r ws (z0o ws d) i) _ _
  rw [show z1r ws (z0o ws d) i=.ok (.mk 5 0 q218.1 q221.1 [],q221.2) from (form_call hb10 h12 h32 hB201).trans ((z0b hq219).trans ((z0b hq223).trans (rfl)))]
  exact ⟨(Ψ225,_),rfl,⟨le227,REx.node hr228⟩,hm⟩
  replace hm:=hm.dl [0]
  show Out (z1r ws (z0o ws d) i) _ _
  rw [show z1r ws (z0o ws d) i=.error _ from (form_call hb10 h12 h32 hB201).trans ((z0b hq219).trans (z0j hq223))]
  exact ⟨rfl,hm.le (Fz.Le.refl _)⟩
  replace hm:=hm.dl [0]
  show Out (z1r ws (z0o ws d) i) _ _
  rw [show z1r ws (z0o ws d) i=.error _ from (form_call hb10 h12 h32 hB201).trans (z0j hq219)]
  exact ⟨rfl,hm.le (Fz.Le.refl _)⟩
  refine go0 he hm fun a he =>?_
  refine sq fun L234 hL234 =>?_
  refine go0 he hm fun a he =>?_
  have hlt_:=isOp_lt hb10
  refine go0 he hm fun a he =>?_
  refine Sto 0 he hm fun w hm a he =>?_
  refine go0 he hm fun a he =>?_
  refine hL234 _ _ ?_
  refine sq fun L235 hL235 =>?_
  refine go0 he hm fun a he =>?_
  refine z4y hQ call218 he hm (fun q236 y237 w hq238 hG239 hm a he =>?_) (fun q236 w hq238 hm =>?_) (c:=rtwo_ok hd hE G (i:=(i+1)) rl hws (by omega) hm)
  obtain ⟨Ψ240,d241⟩:=y237
  obtain ⟨le242,hr243⟩:=hG239
  simp only at le242 hr243 hm he
  have hgo244:=two_le hq238
  replace G:=G.mono le242
  replace hm:=hm.nf
  obtain ⟨p245,c246,rfl,hmx247,hn248⟩:=hr243.fm
  refine z1n he hm fun a he =>?_
  refine Sto 1 he hm fun w hm a he =>?_
  refine go0 he hm fun a he =>?_
  refine hL235 _ _ ?_
  refine go0 he hm fun a he =>?_
  have hmr:=hm
  replace hm:=hm.dl [1]
  refine RetA hQ he hmr ?_
  show Out (z1r ws (z0o ws d) i) _ _
  rw [show z1r ws (z0o ws d) i=.ok (.mk 8 0 (z0c ws i) q236.1 [],q236.2) from (form_op hb10).trans ((z0b hq238).trans (rfl))]
  exact ⟨(Ψ240,_),rfl,⟨le242,REx.node hr243⟩,hm⟩
  replace hm:=hm.dl [0]
  show Out (z1r ws (z0o ws d) i) _ _
  rw [show z1r ws (z0o ws d) i=.error _ from (form_op hb10).trans (z0j hq238)]
  exact ⟨rfl,hm.le (Fz.Le.refl _)⟩
 refine sq fun L249 hL249 =>?_
 refine go0 he hm fun a he =>?_
 by_cases h250:(z0c ws i)=(⟨#[43]⟩:ByteArray)
 refine go0 he hm fun a he =>?_
 refine hL249 _ _ ?_
 refine go0 he hm fun a he =>?_
 exact hJ7 _ _ (by rw [y1r (.inl h250)];exact ⟨he.pk,hm,trivial⟩)
 refine go0 he hm fun a he =>?_
 refine hL249 _ _ ?_
 refine go0 he hm fun a he =>?_
 refine sq fun L251 hL251 =>?_
 refine go0 he hm fun a he =>?_
 by_cases h252:(z0c ws i)=(⟨#[45]⟩:ByteArray)
 refine go0 he hm fun a he =>?_
 refine hL251 _ _ ?_
 refine go0 he hm fun a he =>?_
 exact hJ7 _ _ (by rw [y1r (.inr (.inl h252))];exact ⟨he.pk,hm,trivial⟩)
 refine go0 he hm fun a he =>?_
 refine hL251 _ _ ?_
 refine go0 he hm fun a he =>?_
 refine sq fun L253 hL253 =>?_
 refine go0 he hm fun a he =>?_
 by_cases h254:(z0c ws i)=(⟨#[42]⟩:ByteArray)
 refine go0 he hm fun a he =>?_
 refine hL253 _ _ ?_
 refine go0 he hm fun a he =>?_
 exact hJ7 _ _ (by rw [y1r (.inr (.inr (.inl h254)))];exact ⟨he.pk,hm,trivial⟩)
 refine go0 he hm fun a he =>?_
 refine hL253 _ _ ?_
 refine go0 he hm fun a he =>?_
 refine sq fun L255 hL255 =>?_
 refine go0 he hm fun a he =>?_
 by_cases h256:(z0c ws i)=(⟨#[47]⟩:ByteArray)
 refine go0 he hm fun a he =>?_
 refine hL255 _ _ ?_
 refine go0 he hm fun a he =>?_
 exact hJ7 _ _ (by rw [y1r (.inr (.inr (.inr (.inl h256))))];exact ⟨he.pk,hm,trivial⟩)
 refine go0 he hm fun a he =>?_
 refine hL255 _ _ ?_
 refine go0 he hm fun a he =>?_
 refine sq fun L257 hL257 =>?_
 refine go0 he hm fun a he =>?_
 by_cases h258:(z0c ws i)=(⟨#[37]⟩:ByteArray)
 refine go0 he hm fun a he =>?_
 refine hL257 _ _ ?_
 refine go0 he hm fun a he =>?_
 exact hJ7 _ _ (by rw [y1r (.inr (.inr (.inr (.inr (.inl h258)))))];exact ⟨he.pk,hm,trivial⟩)
 refine go0 he hm fun a he =>?_
 refine hL257 _ _ ?_
 refine go0 he hm fun a he =>?_
 refine sq fun L259 hL259 =>?_
 refine go0 he hm fun a he =>?_
 by_cases h260:(z0c ws i)=(⟨#[60]⟩:ByteArray)
 refine go0 he hm fun a he =>?_
 refine hL259 _ _ ?_
 refine go0 he hm fun a he =>?_
 exact hJ7 _ _ (by rw [y1r (.inr (.inr (.inr (.inr (.inr (.inl h260))))))];exact ⟨he.pk,hm,trivial⟩)
 refine go0 he hm fun a he =>?_
 refine hL259 _ _ ?_
 refine go0 he hm fun a he =>?_
 by_cases h261:(z0c ws i)=(⟨#[61]⟩:ByteArray)
 refine go0 he hm fun a he =>?_
 exact hJ7 _ _ (by rw [y1r (.inr (.inr (.inr (.inr (.inr (.inr h261))))))];exact ⟨he.pk,hm,trivial⟩)
 refine go0 he hm fun a he =>?_
 exact hJ7 _ _ (by rw [isOp_no h250 h252 h254 h256 h258 h260 h261];exact ⟨he.pk,hm,trivial⟩)
end Go.Sw

namespace Go.Sw
open Go.Proofs.Tryz
open Go.Proofs
set_option maxRecDepth 20000
set_option maxHeartbeats 4000000
theorem rexpr_zero {ws:List Bs} (hws:ws.length≤1000000):ExprOk ws 0:=by
 intro Φ K w r i rs G rl hi hm
 obtain ⟨pw,cw,rfl,hmw,hnw⟩:=rl.fm
 refine z0m func180 ntmps180 fun Q hQ a he =>?_
 refine Alc he hm fun b2 w hm a he =>?_
 replace hm:=hm.pl 1
 refine z0x call179 he hm (fun w hm a he =>?_) (c:=z6n (i:=i) rl hws (by omega) hm)
 refine go he hm fun a he =>?_
 by_cases h6:(z0c ws i)=(⟨#[]⟩:ByteArray)
 refine go he hm fun a he =>?_
 refine st he rfl rfl rfl (y0l he rfl call130 (rfail_ok (i:=i) rl hws (by omega) hm) (fun w hm=>fun a hd=>hQ _ _ _ (z1b hd ?_)))
 replace hm:=hm.dl [0]
 show Out (z0o ws 0 i) _ _
 rw [expr_zero];exact ⟨rfl,hm⟩
 refine Qq he hm (fun a he =>?_) (o:=by exact fun _ _ _ he hs=>z4n true he rfl rfl rfl)
 refine go he hm fun a he =>?_
 refine st he rfl rfl rfl (y0l he rfl call130 (rfail_ok (i:=i) rl hws (by omega) hm) (fun w hm=>fun a hd=>hQ _ _ _ (z1b hd ?_)))
 replace hm:=hm.dl [0]
 show Out (z0o ws 0 i) _ _
 rw [expr_zero];exact ⟨rfl,hm⟩
theorem rexpr_step {ws:List Bs} {d:Nat} (hd:d≤1000) (hws:ws.length≤1000000) (hsz:∀j,(z0c ws j).size≤1000000) (hE:ExprOk ws d):ExprOk ws (d+1):=by
 intro Φ K w r i rs G rl hi hm
 obtain ⟨pw,cw,rfl,hmw,hnw⟩:=rl.fm
 have hd0_:¬d+1=0:=by omega
 refine z0m func180 ntmps180 fun Q hQ a he =>?_
 refine Alc he hm fun b2 w hm a he =>?_
 replace hm:=hm.pl 1
 refine z0x call179 he hm (fun w hm a he =>?_) (c:=z6n (i:=i) rl hws (by omega) hm)
 refine go he hm fun a he =>?_
 by_cases h6:(z0c ws i)=(⟨#[]⟩:ByteArray)
 refine go he hm fun a he =>?_
 refine st he rfl rfl rfl (y0l he rfl call130 (rfail_ok (i:=i) rl hws (by omega) hm) (fun w hm=>fun a hd=>hQ _ _ _ (z1b hd ?_)))
 replace hm:=hm.dl [0]
 show Out (z0o ws (d+1) i) _ _
 rw [show z0o ws (d+1) i=.error _ from expr_no h6]
 exact ⟨rfl,hm⟩
 refine z2n call205 he hm (fun y9 w hG10 hm a he =>?_) (c:=integer_ok (hsz _) G hm)
 replace hm:=hm.nf
 rcases hn12:intP (z0c ws i) with _ | n11
 rw [hn12] at he
 refine go he hm fun a he =>?_
 by_cases h16:(z0c ws i)=(⟨#[40]⟩:ByteArray)
 refine go he hm fun a he =>?_
 have hlt_:=z6m h6
 refine Sto 0 he hm fun w hm a he =>?_
 refine z4y hQ call206 he hm (fun q19 y20 w hq21 hG22 hm a he =>?_) (fun q19 w hq21 hm =>?_) (c:=rform_ok hd hE G (i:=(i+1)) rl hws (by omega) hm)
 obtain ⟨Ψ23,d24⟩:=y20
 obtain ⟨le25,hr26⟩:=hG22
 simp only at le25 hr26 hm he
 have hgo27:=form_le hq21
 replace rl:=rl.up le25
 replace G:=G.mono le25
 replace hm:=hm.nf
 obtain ⟨p30,c31,p36,c37,rfl,hi40,h29,h35,hm32,hn33,hm38,hn39⟩:=REx.fm hr26
 refine Alc he hm fun b41 w hm a he =>?_
 refine Sto 0 he hm fun w hm a he =>?_
 replace hm:=hm.pl 1
 refine z3g hQ call177 he hm (fun q43 w hq44 hm a he =>?_) (fun q43 w hq44 hm =>?_) (c:=z5v (x:=(⟨#[41]⟩:ByteArray)) (i:=q19.2) rl hws (by omega) hm)
 have hleq43:=z5u hq44
 refine Sto 2 he hm fun w hm a he =>?_
 refine go he hm fun a he =>?_
 have hmr:=hm
 replace hm:=hm.dl [2,1]
 refine RetA hQ he hmr ?_
 show Out (z0o ws (d+1) i) _ _
 rw [show z0o ws (d+1) i=.ok (q19.1,q43.2) from expr_form h6 hn12 h16 hq21 hq44]
 exact ⟨(Ψ23,_),rfl,⟨le25,hr26⟩,hm⟩
 replace hm:=hm.dl [1,0]
 show Out (z0o ws (d+1) i) _ _
 rw [show z0o ws (d+1) i=.error _ from expr_fc h6 hn12 h16 hq21 hq44]
 exact ⟨rfl,hm.le (le25)⟩
 replace hm:=hm.dl [0]
 show Out (z0o ws (d+1) i) _ _
 rw [show z0o ws (d+1) i=.error _ from expr_fe h6 hn12 h16 hq21]
 exact ⟨rfl,hm⟩
 refine z1u call178 he hm (fun hB47 w hm a he =>?_) (fun hB47 w hm a he =>?_) (c:=z6j G hm)
 refine z3g hQ call176 he hm (fun q49 w hq50 hm a he =>?_) (fun q49 w hq50 hm =>?_) (c:=rcon_ok G (i:=i) rl hws (by omega) hm)
 have hleq49:=z2v hq50
 refine z1n he hm fun a he =>?_
 refine Sto 1 he hm fun w hm a he =>?_
 refine go he hm fun a he =>?_
 have hmr:=hm
 replace hm:=hm.dl [1]
 refine RetA hQ he hmr ?_
 show Out (z0o ws (d+1) i) _ _
 rw [show z0o ws (d+1) i=.ok (.mk 4 0 q49.1 [] [],q49.2) from expr_con h6 hn12 h16 hB47 hq50]
 exact ⟨(Φ,_),rfl,⟨Fz.Le.refl _,REx.leaf i64_0⟩,hm⟩
 replace hm:=hm.dl [0]
 exact expr_conE h6 hB47 hq50
 refine go he hm fun a he =>?_
 have hsz_:=size_pos h6
 refine go he hm fun a he =>?_
 have hb52:0 < (z0c ws i).size:=by omega
 obtain ⟨c53,hc54⟩:=byte_of_lt hb52
 refine Qq he hm (fun a he =>?_) (o:=by exact fun _ _ _ he hs=>y2h 0 c53 he rfl rfl runUnderlying9 hc54)
 by_cases h55:c53.toNat=33
 refine Qq he hm (fun a he =>?_) (o:=by exact fun _ _ _ he hs=>z3o 1 ((z0c ws i).size) he rfl runUnderlying9 ⟨_,rfl⟩ rfl (by omega) (by exact Nat.le_refl _))
 refine z1u call138 he hm (fun hB56 w hm a he =>?_) (fun hB56 w hm a he =>?_) (c:=isName_ok G hm)
 refine go he hm fun a he =>?_
 have hlt_:=z6m h6
 refine Sto 0 he hm fun w hm a he =>?_
 refine Qq he hm (fun a he =>?_) (o:=by exact fun _ _ _ he hs=>z3o 1 ((z0c ws i).size) he rfl runUnderlying9 ⟨_,rfl⟩ rfl (by omega) (by exact Nat.le_refl _))
 refine z1n he hm fun a he =>?_
 refine Sto 1 he hm fun w hm a he =>?_
 refine go he hm fun a he =>?_
 have hmr:=hm
 replace hm:=hm.dl [1]
 refine RetA hQ he hmr ?_
 show Out (z0o ws (d+1) i) _ _
 rw [show z0o ws (d+1) i=.ok (.mk 3 0 ((z0c ws i).extract 1 (z0c ws i).size) [] [],i+1) from expr_input h6 hn12 h16 hB47 ((z2w hc54).trans h55) hB56]
 exact ⟨(Φ,_),rfl,⟨Fz.Le.refl _,REx.leaf i64_0⟩,hm⟩
 refine z3g hQ call129 he hm (fun q60 w hq61 hm a he =>?_) (fun q60 w hq61 hm =>?_) (c:=z7y G (i:=i) rl hws (by omega) hm)
 have hleq60:=z2v hq61
 refine z1n he hm fun a he =>?_
 refine Sto 1 he hm fun w hm a he =>?_
 refine go he hm fun a he =>?_
 have hmr:=hm
 replace hm:=hm.dl [1]
 refine RetA hQ he hmr ?_
 show Out (z0o ws (d+1) i) _ _
 rw [show z0o ws (d+1) i=.ok (.mk 2 0 q60.1 [] [],q60.2) from (expr_var0 h6 hn12 h16 hB47 (fun h=>absurd (h.2.symm.trans hB56) (by decide))).trans ((z0b hq61).trans rfl)]
 exact ⟨(Φ,_),rfl,⟨Fz.Le.refl _,REx.leaf i64_0⟩,hm⟩
 replace hm:=hm.dl [0]
 show Out (z0o ws (d+1) i) _ _
 rw [show z0o ws (d+1) i=.error _ from (expr_var0 h6 hn12 h16 hB47 (fun h=>absurd (h.2.symm.trans hB56) (by decide))).trans (z0j hq61)]
 exact ⟨rfl,hm⟩
 refine z3g hQ call129 he hm (fun q63 w hq64 hm a he =>?_) (fun q63 w hq64 hm =>?_) (c:=z7y G (i:=i) rl hws (by omega) hm)
 have hleq63:=z2v hq64
 refine z1n he hm fun a he =>?_
 refine Sto 1 he hm fun w hm a he =>?_
 refine go he hm fun a he =>?_
 have hmr:=hm
 replace hm:=hm.dl [1]
 refine RetA hQ he hmr ?_
 show Out (z0o ws (d+1) i) _ _
 rw [show z0o ws (d+1) i=.ok (.mk 2 0 q63.1 [] [],q63.2) from (expr_var0 h6 hn12 h16 hB47 (fun h=>h55 ((z2w hc54).symm.trans h.1))).trans ((z0b hq64).trans rfl)]
 exact ⟨(Φ,_),rfl,⟨Fz.Le.refl _,REx.leaf i64_0⟩,hm⟩
 replace hm:=hm.dl [0]
 show Out (z0o ws (d+1) i) _ _
 rw [show z0o ws (d+1) i=.error _ from (expr_var0 h6 hn12 h16 hB47 (fun h=>h55 ((z2w hc54).symm.trans h.1))).trans (z0j hq64)]
 exact ⟨rfl,hm⟩
 rw [hn12] at he
 refine go he hm fun a he =>?_
 have hlt_:=z6m h6
 refine Sto 0 he hm fun w hm a he =>?_
 refine z1n he hm fun a he =>?_
 refine Sto 1 he hm fun w hm a he =>?_
 refine go he hm fun a he =>?_
 have hmr:=hm
 replace hm:=hm.dl [1]
 refine RetA hQ he hmr ?_
 show Out (z0o ws (d+1) i) _ _
 rw [show z0o ws (d+1) i=.ok (.mk 1 y9 ⟨#[]⟩ [] [],i+1) from expr_num h6 (hn12.trans (congrArg some (hG10 _ hn12).symm))]
 exact ⟨(Φ,_),rfl,⟨Fz.Le.refl _,REx.leaf (intP_i64 (hn12.trans (congrArg some (hG10 _ hn12).symm)))⟩,hm⟩
theorem rexpr_ok {ws:List Bs} (hws:ws.length≤1000000) (hsz:∀j,(z0c ws j).size≤1000000):∀d,d≤1000→ExprOk ws d
 | 0,_=>rexpr_zero hws
 | d+1,h=>rexpr_step (by omega) hws hsz (rexpr_ok hws hsz d (by omega))
end Go.Sw

namespace Go.Sw
open Go.Proofs.Tryz
open Go.Proofs
set_option maxRecDepth 20000
set_option maxHeartbeats 4000000
theorem rparam_ok {Φ:Fz} {K:List Res} {w:World} {r i:Nat} {rs:Value} {ws:List Bs} (G:Glob Φ) (rl:SliceOf RStr Φ 1 rs ws) (hws:ws.length≤1000000) (hi:i≤ws.length) (hm:Mem Φ (.blk r (ob [rs,.int .i64 ((i:Nat):Int)] 208)::K) w) :
  Calls Tryz.prog 127 (List.toArray [.pointer (some ⟨r,0,none⟩)]) w (fun ee w'=>Out (z5p ws i) (fun x=>ee=.returned (.agg (List.toArray [.string x.1.name,.string x.1.type]))∧Mem Φ (.blk r (ob [rs,.int .i64 ((x.2:Nat):Int)] 208)::K) w') (fun c=>ee=.panicked (z9i c)∧Mem Φ K w')):=by
 obtain ⟨pw,cw,rfl,hmw,hnw⟩:=rl.fm
 refine z0m func127 ntmps127 fun Q hQ a he =>?_
 refine Alc he hm fun b2 w hm a he =>?_
 replace hm:=hm.pl 1
 refine z3g hQ call129 he hm (fun q4 w hq5 hm a he =>?_) (fun q4 w hq5 hm =>?_) (c:=z7y G (i:=i) rl hws (by omega) hm)
 have hleq4:=z2v hq5
 refine z3g hQ call177 he hm (fun q7 w hq8 hm a he =>?_) (fun q7 w hq8 hm =>?_) (c:=z5v (x:=(⟨#[58]⟩:ByteArray)) (i:=q4.2) rl hws (by omega) hm)
 have hleq7:=z5u hq8
 refine z3g hQ call176 he hm (fun q10 w hq11 hm a he =>?_) (fun q10 w hq11 hm =>?_) (c:=rcon_ok G (i:=q7.2) rl hws (by omega) hm)
 have hleq10:=z2v hq11
 refine z1n he hm fun a he =>?_
 refine Sto 1 he hm fun w hm a he =>?_
 refine go he hm fun a he =>?_
 have hmr:=hm
 replace hm:=hm.dl [1]
 refine RetA hQ he hmr ?_
 show Out (z5p ws i) _ _
 rw [show z5p ws i=.ok ((⟨q4.1,q10.1⟩:Param),q10.2) from (z0b hq5).trans ((z0b hq8).trans ((z0b hq11).trans (rfl)))]
 exact ⟨rfl,hm⟩
 replace hm:=hm.dl [0]
 show Out (z5p ws i) _ _
 rw [show z5p ws i=.error _ from (z0b hq5).trans ((z0b hq8).trans (z0j hq11))]
 exact ⟨rfl,hm⟩
 replace hm:=hm.dl [0]
 show Out (z5p ws i) _ _
 rw [show z5p ws i=.error _ from (z0b hq5).trans (z0j hq8)]
 exact ⟨rfl,hm⟩
 replace hm:=hm.dl [0]
 show Out (z5p ws i) _ _
 rw [show z5p ws i=.error _ from z0j hq5]
 exact ⟨rfl,hm⟩
theorem rdata_ok {Φ:Fz} {K:List Res} {w:World} {r i:Nat} {rs:Value} {ws:List Bs} (G:Glob Φ) (rl:SliceOf RStr Φ 1 rs ws) (hws:ws.length≤1000000) (hi:i≤ws.length) (hm:Mem Φ (.blk r (ob [rs,.int .i64 ((i:Nat):Int)] 208)::K) w) :
  Calls Tryz.prog 126 (List.toArray [.pointer (some ⟨r,0,none⟩)]) w (fun ee w'=>Out (y1o ws i) (fun x=>∃y:Fz×List Value,ee=.returned (.agg y.2.toArray)∧(Φ.Le y.1∧RData y.1 y.2 x.1)∧Mem y.1 (.blk r (ob [rs,.int .i64 ((x.2:Nat):Int)] 208)::K) w') (fun c=>ee=.panicked (z9i c)∧Mem Φ K w')):=by
 obtain ⟨pw,cw,rfl,hmw,hnw⟩:=rl.fm
 refine z0m func126 ntmps126 fun Q hQ a he =>?_
 refine Alc he hm fun b2 w hm a he =>?_
 replace hm:=hm.pl 1
 refine z3g hQ call176 he hm (fun q4 w hq5 hm a he =>?_) (fun q4 w hq5 hm =>?_) (c:=rcon_ok G (i:=i) rl hws (by omega) hm)
 have hleq4:=z2v hq5
 refine z1n he hm fun a he =>?_
 refine Alc he hm fun b6 w hm a he =>?_
 refine Sto 0 he hm fun w hm a he =>?_
 replace hm:=hm.pl 1
 refine z3g hQ call177 he hm (fun q8 w hq9 hm a he =>?_) (fun q8 w hq9 hm =>?_) (c:=z5v (x:=(⟨#[61]⟩:ByteArray)) (i:=q4.2) rl hws (by omega) hm)
 have hleq8:=z5u hq9
 refine go he hm fun a he =>?_
 replace hm:=hm.nilRow 135 2
 replace hm:=hm.nf
 refine z1l (he.ks [0,2,3]) hm (fun R m a w=>∃(Ψ10:Fz) (j:Nat) (u:Value) (cs:List Value) (xs:List Con) (f:Nat),m=ws.length - j∧R Ψ10 [] [(0,.gs (u) 135 2 cs),(1,.blk r (ob [.slice pw ws.length cw,.int .i64 ((j:Nat):Int)] 208)),(2,.blk b6 (ob [.string q4.1,u] 133))] a w∧(Φ.Le Ψ10∧(Chunks (RCon Ψ10) 2 cs xs∧xs.length≤j∧j≤ws.length∧xs.length+f=ws.length+1∧consP ws (ws.length+1) q8.2=pre1 xs (consP ws f j)))) (ws.length - q8.2) ⟨Φ,q8.2,.slice none 0 0,[],[],ws.length+1,rfl,⟨he.pk,hm⟩,⟨Fz.Le.refl _,⟨rfl,Nat.zero_le _,by omega,Nat.zero_add _,y1y _⟩⟩⟩ ?_
 clear hm he
 rintro mm a w ⟨Ψ10,j,u,cs,xs,f,hmu,⟨he,hm⟩,hI13⟩ L12 hL12
 replace hm:=hm.nf
 obtain ⟨le11,hI13⟩:=hI13
 replace rl:=rl.up le11
 replace G:=G.mono le11
 obtain ⟨hch,hxl,hj,hf_,hI_⟩:=hI13
 replace hm:=hm.pl 1
 refine z3g hQ call176 he hm (fun q15 w hq16 hm a he =>?_) (fun q15 w hq16 hm =>?_) (c:=rcon_ok G (i:=j) rl hws (by omega) hm)
 have hleq15:=z2v hq16
 refine z1n he hm fun a he =>?_
 refine Alc he hm fun b17 w hm a he =>?_
 refine Sto 0 he hm fun w hm a he =>?_
 refine go he hm fun a he =>?_
 replace hm:=hm.nilRow 9 1
 replace hm:=hm.nf
 refine z1l (he.ks [0,2,3,4]) hm (fun R m a w=>∃(j2:Nat) (u2:Value) (vs:List Bs) (f2:Nat),m=ws.length - j2∧R Ψ10 [] [(0,.gs (u2) 9 1 (strs vs)),(1,.blk b17 (ob [.string q15.1,u2] 135)),(2,.blk r (ob [.slice pw ws.length cw,.int .i64 ((j2:Nat):Int)] 208))] a w∧(vs.length≤j2∧j < j2∧j2≤ws.length∧vs.length+f2=ws.length+1∧z3t ws (ws.length+1) q15.2=pre1 vs (z3t ws f2 j2))) (ws.length - q15.2) ⟨q15.2,.slice none 0 0,[],ws.length+1,rfl,⟨he.pk,hm⟩,⟨Nat.zero_le _,by omega,by omega,Nat.zero_add _,y1y _⟩⟩ ?_
 clear hm he
 rintro mm a w ⟨j2,u2,vs,f2,hmu,⟨he,hm⟩,hI20⟩ L19 hL19
 replace hm:=hm.nf
 obtain ⟨hvl,hj2,hj3,hf2_,hV_⟩:=hI20
 replace hm:=hm.pl 2
 refine z0x call179 he hm (fun w hm a he =>?_) (c:=z6n (i:=j2) rl hws (by omega) hm)
 refine z1u call178 he hm (fun hB23 w hm a he =>?_) (fun hB23 w hm a he =>?_) (c:=z6j G hm)
 refine Reg [1,2,1,0,0,0,1,0] [2,3,4,5] he hm fun w hm a he =>?_
 refine z3g hQ call176 he hm (fun q24 w hq25 hm a he =>?_) (fun q24 w hq25 hm =>?_) (c:=rcon_ok G (i:=j2) rl hws (by omega) hm)
 have hleq24:=z2v hq25
 refine BldS he hm fun v26 w hm a he =>?_
 refine App_ 2 rt_25 he hm (fun v27 w hm a he =>?_) (hb:=by simp [z2h];omega)
 refine Sto 3 he hm fun w hm a he =>?_
 refine go he hm fun a he =>?_
 first | rw [z4x] at hm | rw [← z2g] at hm
 replace hm:=hm.ar [0] [5,5,5,3,5,5]
 refine hL19 _ _ _ (by subst hmu;omega) ⟨(q24.2),(v27),(vs++[q24.1]),(f2 - 1),rfl,⟨he.pk,by exact hm⟩,?_⟩
 exact ⟨by simp only [List.length_append,List.length_cons,List.length_nil];omega,by omega,by omega,by simp only [List.length_append,List.length_cons,List.length_nil];omega,fields_step hV_ (by omega) hB23 hq25⟩
 replace hm:=hm.dl [4,3,2,1,0]
 show Out (y1o ws i) _ _
 rw [show y1o ws i=.error _ from (z0b hq5).trans ((z0b hq9).trans (z0j (cons_fail2 hI_ (by omega) hq16 (fields_fail hV_ (by omega) hB23 hq25))))]
 exact ⟨rfl,hm.le (le11)⟩
 refine go he hm fun a he =>?_
 have hm0_:=hm
 clear hm
 obtain ⟨Ψ29,le30,hm,hrow31⟩:=hm0_.freezeRow (i:=1) rfl
 clear hm0_
 replace rl:=rl.up le30
 replace G:=G.mono le30
 replace hch:=hch.mono fun _ _ h=>RCon.mono _ _ _ _ le30 h
 replace hm:=hm.nf
 have hsl32:SliceOf RStr Ψ29 1 _ (vs):=SliceOf.strs.2 hrow31
 obtain ⟨p33,c34,hv_,hm35,hn36⟩:=hsl32.form (by decide)
 have hmk_:=hm
 clear hm
 subst hv_
 have hm:=hmk_
 clear hmk_
 have hv37:=fields_fin hV_ (by omega) hB23
 refine BldS he hm fun v38 w hm a he =>?_
 refine App_ 3 rt_131 he hm (fun v39 w hm a he =>?_)
 refine Sto 4 he hm fun w hm a he =>?_
 replace hm:=hm.pl 1
 refine z0x call179 he hm (fun w hm a he =>?_) (c:=z6n (i:=j2) rl hws (by omega) hm)
 by_cases h42:(z0c ws j2)=(⟨#[124]⟩:ByteArray)
 refine go he hm fun a he =>?_
 have hlt_:=peek_eq_lt h42 (by decide)
 refine Sto 0 he hm fun w hm a he =>?_
 refine go he hm fun a he =>?_
 replace hm:=hm.ar [2,1] [3,3,2,3]
 refine hL12 _ _ _ (by subst hmu;omega) ⟨(Ψ29),(j2+1),(v39),((cs++[.string q15.1,.slice p33 (vs).length c34])),(xs++[(⟨q15.1,vs⟩:Con)]),(f - 1),rfl,⟨he.pk,by exact hm⟩,?_⟩
 refine ⟨(le11).trans le30,?_⟩
 exact ⟨(hch.snoc (k:=2) (x:=(⟨q15.1,vs⟩:Con)) rfl ⟨_,rfl,hsl32⟩),by simp only [List.length_append,List.length_cons,List.length_nil];omega,by omega,by simp only [List.length_append,List.length_cons,List.length_nil];omega,cons_step hI_ (by omega) hq16 hv37 h42⟩
 refine go he hm fun a he =>?_
 have hm0_:=hm
 clear hm
 obtain ⟨Ψ44,le45,hm,hrow46⟩:=hm0_.freezeRow (i:=3) rfl
 clear hm0_
 replace G:=G.mono le45
 replace hch:=hch.mono fun _ _ h=>RCon.mono _ _ _ _ le45 h
 replace hsl32:=hsl32.up le45
 replace hm:=hm.nf
 have hsl47:SliceOf RCon Ψ44 2 _ (xs++[(⟨q15.1,vs⟩:Con)]):=⟨_,hrow46,(hch.snoc (k:=2) (x:=(⟨q15.1,vs⟩:Con)) rfl ⟨_,rfl,hsl32⟩)⟩
 obtain ⟨p48,c49,hv_,hm50,hn51⟩:=hsl47.form (by decide)
 have hmk_:=hm
 clear hm
 subst hv_
 have hm:=hmk_
 clear hmk_
 refine Sto 4 he hm fun w hm a he =>?_
 refine go he hm fun a he =>?_
 have hmr:=hm
 replace hm:=hm.dl [4,3,2,1]
 refine RetA hQ he hmr ?_
 show Out (y1o ws i) _ _
 rw [show y1o ws i=.ok ((⟨q4.1,xs++[(⟨q15.1,vs⟩:Con)]⟩:Data),j2) from (z0b hq5).trans ((z0b hq9).trans ((z0b (cons_fin hI_ (by omega) hq16 hv37 h42)).trans rfl))]
 exact ⟨(Ψ44,_),rfl,⟨((le11).trans le30).trans le45,⟨_,rfl,hsl47⟩⟩,hm⟩
 replace hm:=hm.dl [2,1,0]
 show Out (y1o ws i) _ _
 rw [show y1o ws i=.error _ from (z0b hq5).trans ((z0b hq9).trans (z0j (cons_fail1 hI_ (by omega) hq16)))]
 exact ⟨rfl,hm.le (le11)⟩
 replace hm:=hm.dl [1,0]
 show Out (y1o ws i) _ _
 rw [show y1o ws i=.error _ from (z0b hq5).trans (z0j hq9)]
 exact ⟨rfl,hm⟩
 replace hm:=hm.dl [0]
 show Out (y1o ws i) _ _
 rw [show y1o ws i=.error _ from z0j hq5]
 exact ⟨rfl,hm⟩
end Go.Sw

namespace Go.Sw
open Go.Proofs.Tryz
open Go.Proofs
set_option maxRecDepth 20000
set_option maxHeartbeats 4000000
theorem rfun_ok {Φ:Fz} {K:List Res} {w:World} {r i:Nat} {rs:Value} {ws:List Bs} (hE:ExprOk ws 250) (G:Glob Φ) (rl:SliceOf RStr Φ 1 rs ws) (hws:ws.length≤1000000) (hi:i≤ws.length) (hm:Mem Φ (.blk r (ob [rs,.int .i64 ((i:Nat):Int)] 208)::K) w) :
  Calls Tryz.prog 128 (List.toArray [.pointer (some ⟨r,0,none⟩)]) w (fun ee w'=>Out (funP ws i) (fun x=>∃y:Fz×List Value,ee=.returned (.agg y.2.toArray)∧(Φ.Le y.1∧RFun y.1 y.2 x.1)∧Mem y.1 (.blk r (ob [rs,.int .i64 ((x.2:Nat):Int)] 208)::K) w') (fun c=>ee=.panicked (z9i c)∧Mem Φ K w')):=by
 obtain ⟨pw,cw,rfl,hmw,hnw⟩:=rl.fm
 refine z0m func128 ntmps128 fun Q hQ a he =>?_
 refine Alc he hm fun b2 w hm a he =>?_
 replace hm:=hm.pl 1
 refine z3g hQ call129 he hm (fun q4 w hq5 hm a he =>?_) (fun q4 w hq5 hm =>?_) (c:=z7y G (i:=i) rl hws (by omega) hm)
 have hleq4:=z2v hq5
 refine z1n he hm fun a he =>?_
 refine Alc he hm fun b6 w hm a he =>?_
 refine Sto 0 he hm fun w hm a he =>?_
 refine go he hm fun a he =>?_
 replace hm:=hm.nilRow 72 2
 replace hm:=hm.nf
 refine z1l (he.ks [0,2,3]) hm (fun R m a w=>∃(j:Nat) (u:Value) (cs:List Value) (xs:List Param) (f:Nat),m=ws.length - j∧R Φ [] [(0,.gs (u) 72 2 cs),(1,.blk b6 (ob [.string q4.1,u,.string ⟨#[]⟩,.int .i64 ((0:Nat):Int),.int .i64 ((0:Nat):Int),.string ⟨#[]⟩,.slice none 0 0,.slice none 0 0] 68)),(2,.blk r (ob [.slice pw ws.length cw,.int .i64 ((j:Nat):Int)] 208))] a w∧(Chunks (RParam Φ) 2 cs xs∧xs.length≤j∧j≤ws.length∧xs.length+f=ws.length+1∧z4e ws (ws.length+1) q4.2=pre1 xs (z4e ws f j))) (ws.length - q4.2) ⟨q4.2,.slice none 0 0,[],[],ws.length+1,rfl,⟨he.pk,hm⟩,⟨rfl,Nat.zero_le _,by omega,Nat.zero_add _,y1y _⟩⟩ ?_
 clear hm he
 rintro mm a w ⟨j,u,cs,xs,f,hmu,⟨he,hm⟩,hI9⟩ L8 hL8
 replace hm:=hm.nf
 obtain ⟨hch,hxl,hj,hf_,hI_⟩:=hI9
 replace hm:=hm.pl 2
 refine z0x call179 he hm (fun w hm a he =>?_) (c:=z6n (i:=j) rl hws (by omega) hm)
 by_cases h12:(z0c ws j)=(⟨#[40]⟩:ByteArray)
 refine go he hm fun a he =>?_
 have hlt_:=peek_eq_lt h12 (by decide)
 refine Sto 0 he hm fun w hm a he =>?_
 refine Reg [1,2,1,0,0,0,1,0] [2,3] he hm fun w hm a he =>?_
 refine z3g hQ call127 he hm (fun q15 w hq16 hm a he =>?_) (fun q15 w hq16 hm =>?_) (c:=rparam_ok G (i:=(j+1)) rl hws (by omega) hm)
 have hleq15:=param_le hq16
 refine BldS he hm fun v17 w hm a he =>?_
 refine App_ 2 rt_23 he hm (fun v18 w hm a he =>?_)
 refine Sto 3 he hm fun w hm a he =>?_
 replace hm:=hm.pl 1
 refine z3g hQ call177 he hm (fun q19 w hq20 hm a he =>?_) (fun q19 w hq20 hm =>?_) (c:=z5v (x:=(⟨#[41]⟩:ByteArray)) (i:=q15.2) rl hws (by omega) hm)
 have hleq19:=z5u hq20
 refine go he hm fun a he =>?_
 replace hm:=hm.ar [1] [3,1,3,3]
 refine hL8 _ _ _ (by subst hmu;omega) ⟨(q19.2),(v18),((cs++[.string q15.1.name,.string q15.1.type])),(xs++[q15.1]),(f - 1),rfl,⟨he.pk,by exact hm⟩,?_⟩
 exact ⟨(hch.snoc (k:=2) (x:=q15.1) rfl rfl),by simp only [List.length_append,List.length_cons,List.length_nil];omega,by omega,by simp only [List.length_append,List.length_cons,List.length_nil];omega,params_step hI_ (by omega) h12 hq16 hq20⟩
 replace hm:=hm.dl [3,2,1,0]
 show Out (funP ws i) _ _
 rw [show funP ws i=.error _ from (z0b hq5).trans (z0j (params_fail2 hI_ (by omega) h12 hq16 hq20))]
 exact ⟨rfl,hm⟩
 replace hm:=hm.dl [2,1,0]
 show Out (funP ws i) _ _
 rw [show funP ws i=.error _ from (z0b hq5).trans (z0j (params_fail1 hI_ (by omega) h12 hq16))]
 exact ⟨rfl,hm⟩
 refine go he hm fun a he =>?_
 have hm0_:=hm
 clear hm
 obtain ⟨Ψ22,le23,hm,hrow24⟩:=hm0_.freezeRow (i:=1) rfl
 clear hm0_
 replace rl:=rl.up le23
 replace G:=G.mono le23
 replace hch:=hch.mono fun _ _ h=>RParam.mono _ _ _ _ le23 h
 replace hm:=hm.nf
 have hsl25:SliceOf RParam Ψ22 2 _ (xs):=⟨_,hrow24,hch⟩
 obtain ⟨p26,c27,hv_,hm28,hn29⟩:=hsl25.form (by decide)
 have hmk_:=hm
 clear hm
 subst hv_
 have hm:=hmk_
 clear hmk_
 have hv30:=params_fin hI_ (by omega) h12
 refine z3g hQ call177 he hm (fun q31 w hq32 hm a he =>?_) (fun q31 w hq32 hm =>?_) (c:=z5v (x:=(⟨#[58]⟩:ByteArray)) (i:=j) rl hws (by omega) hm)
 have hleq31:=z5u hq32
 refine z3g hQ call176 he hm (fun q34 w hq35 hm a he =>?_) (fun q34 w hq35 hm =>?_) (c:=rcon_ok G (i:=q31.2) rl hws (by omega) hm)
 have hleq34:=z2v hq35
 refine Sto 1 he hm fun w hm a he =>?_
 refine z3g hQ call177 he hm (fun q37 w hq38 hm a he =>?_) (fun q37 w hq38 hm =>?_) (c:=z5v (x:=(⟨#[61]⟩:ByteArray)) (i:=q34.2) rl hws (by omega) hm)
 have hleq37:=z5u hq38
 refine z4y hQ call180 he hm (fun q40 y41 w hq42 hG43 hm a he =>?_) (fun q40 w hq42 hm =>?_) (c:=hE G rl (i:=q37.2) (by omega) hm)
 obtain ⟨Ψ44,d45⟩:=y41
 obtain ⟨le46,hr47⟩:=hG43
 simp only at le46 hr47 hm he
 have hgo48:=z3s 250 _ _ hq42
 replace G:=G.mono le46
 replace hsl25:=hsl25.up le46
 replace hm:=hm.nf
 obtain ⟨p51,c52,p57,c58,rfl,hi61,h50,h56,hm53,hn54,hm59,hn60⟩:=REx.fm hr47
 refine Sto 1 he hm fun w hm a he =>?_
 refine Sto 2 he hm fun w hm a he =>?_
 refine go he hm fun a he =>?_
 have hmr:=hm
 replace hm:=hm.dl [2,1]
 refine RetA hQ he hmr ?_
 show Out (funP ws i) _ _
 rw [show funP ws i=.ok ((⟨q4.1,xs,q34.1,q40.1⟩:Fun),q40.2) from (z0b hq5).trans ((z0b hv30).trans ((z0b hq32).trans ((z0b hq35).trans ((z0b hq38).trans ((z0b hq42).trans (rfl))))))]
 exact ⟨(Ψ44,_),rfl,⟨(le23).trans le46,⟨_,_,rfl,hsl25,hr47⟩⟩,hm⟩
 replace hm:=hm.dl [1,0]
 show Out (funP ws i) _ _
 rw [show funP ws i=.error _ from (z0b hq5).trans ((z0b hv30).trans ((z0b hq32).trans ((z0b hq35).trans ((z0b hq38).trans (z0j hq42)))))]
 exact ⟨rfl,hm.le (le23)⟩
 replace hm:=hm.dl [1,0]
 show Out (funP ws i) _ _
 rw [show funP ws i=.error _ from (z0b hq5).trans ((z0b hv30).trans ((z0b hq32).trans ((z0b hq35).trans (z0j hq38))))]
 exact ⟨rfl,hm.le (le23)⟩
 replace hm:=hm.dl [1,0]
 show Out (funP ws i) _ _
 rw [show funP ws i=.error _ from (z0b hq5).trans ((z0b hv30).trans ((z0b hq32).trans (z0j hq35)))]
 exact ⟨rfl,hm.le (le23)⟩
 replace hm:=hm.dl [1,0]
 show Out (funP ws i) _ _
 rw [show funP ws i=.error _ from (z0b hq5).trans ((z0b hv30).trans (z0j hq32))]
 exact ⟨rfl,hm.le (le23)⟩
 replace hm:=hm.dl [0]
 show Out (funP ws i) _ _
 rw [show funP ws i=.error _ from z0j hq5]
 exact ⟨rfl,hm⟩
end Go.Sw

namespace Go.Sw
open Go.Proofs.Tryz
open Go.Proofs
set_option maxRecDepth 20000
set_option maxHeartbeats 4000000
theorem words_ok {Φ:Fz} {K:List Res} {w:World} {t:Bs} (hm:Mem Φ K w) :
  Calls Tryz.prog 125 (List.toArray [.string t]) w (fun ee w'=>∃y:Nat,ee=.returned (.func (.func 174) (List.toArray []) (List.toArray [.pointer (some ⟨y,0,none⟩)]))∧True∧Mem Φ (.blk y (ob [.string t] 9)::K) w'):=by
 refine z0m func125 ntmps125 fun Q hQ a he =>?_
 refine Bx he hm fun b2 w hm a he =>?_
 refine Ret1 hQ he hm ?_
 exact ⟨_,rfl,trivial,hm⟩
theorem words1_ok {β:Type} {Φ:Fz} {w:World} {t:Bs} {bx l:Nat} {KY:List Bs→β→List Res} {z:β} (h2:t.size≤1000000) (hasc:AscB t)
  (hy:∀pre z K0 (k:Bs) w,pre.length < t.size→Mem Φ (K0++KY pre z) w→YieldAt Fence.wide 2 Tryz.prog l #[.string k] w (fun e w'=>e=.returned (.bool true)∧∃z',Mem Φ (K0++KY (pre++[k]) z') w'))
  (hm:Mem Φ (.blk bx (ob [.string t] 9)::KY [] z) w) :
  Calls Tryz.prog 174 (List.toArray [.func (.yield l) #[] #[],.pointer (some ⟨bx,0,none⟩)]) w (fun ee w'=>∃y:β,ee=.returned (.tuple #[])∧Mem Φ (KY (wordsF t) y) w'):=by
 refine z0m func174 ntmps174 fun Q hQ a he =>?_
 refine sq fun L1 hL1 =>?_
 refine go0 he hm fun a he =>?_
 refine hL1 _ _ ?_
 refine go0 he hm fun a he =>?_
 refine loopI (fun mm a w=>∃(i:Nat) (f:Nat) (pre:List Bs) (z0:β),mm=t.size - i∧EnvR 52 [(0,.func (.yield l) #[] #[]),(1,.pointer (some ⟨bx,0,none⟩)),(3,.int .i64 ((i:Nat):Int))] [] a∧Mem Φ (.blk bx (ob [.string t] 9)::KY pre z0) w∧(i≤t.size∧pre.length≤i∧t.size≤i+f∧wordsF t=pre++z5f t f i)) (t.size - 0) ⟨0,t.size,[],z,rfl,he.pk,hm,⟨Nat.zero_le _,Nat.zero_le _,by omega,rfl⟩⟩ ?_
 clear hm he
 rintro mm a w ⟨i,f,pre,z0,hmu,he,hm,hI3⟩ L2 hL2
 obtain ⟨hi0_,hi1_,hi2_,hI_⟩:=hI3
 refine sq fun L4 hL4 =>?_
 refine sq fun L5 hL5 =>?_
 refine go0 he hm fun a he =>?_
 by_cases h6:i < t.size
 refine go0 he hm fun a he =>?_
 refine hL5 _ _ ?_
 refine go0 he hm fun a he =>?_
 refine hL4 _ _ ?_
 refine go0 he hm fun a he =>?_
 refine sq fun L7 hL7 =>?_
 refine go0 he hm fun a he =>?_
 obtain ⟨c8,hc9⟩:=byte_of_lt h6
 refine Qq he hm (fun a he =>?_) (o:=by exact fun _ _ _ he hs=>y2h i c8 he rfl rfl runUnderlying9 hc9)
 refine go0 he hm fun a he =>?_
 refine hL7 _ _ ?_
 refine go0 he hm fun a he =>?_
 refine sq fun L10 hL10 =>?_
 have hJ11:∀a w,(EnvR 52 [(0,.func (.yield l) #[] #[]),(1,.pointer (some ⟨bx,0,none⟩)),(3,.int .i64 ((i:Nat):Int)),(11,.int .u8 ((c8.toNat:Nat):Int)),(34,.bool (decide (z0k t i=32∨z0k t i=10)))] [] a∧Mem Φ (.blk bx (ob [.string t] 9)::KY pre z0) w∧(True))→L10 a w:=by
  clear hm he
  rintro a w ⟨he,hm,hI12⟩
  refine hL10 _ _ ?_
  generalize hb14:(decide (z0k t i=32∨z0k t i=10))=bb13 at he
  cases bb13
  refine go0 he hm fun a he =>?_
  refine sq fun L15 hL15 =>?_
  have hJ16:∀a w,(EnvR 52 [(0,.func (.yield l) #[] #[]),(1,.pointer (some ⟨bx,0,none⟩)),(3,.int .i64 ((i:Nat):Int)),(39,.bool (decide (z0k t i=40∨z0k t i=41)))] [] a∧Mem Φ (.blk bx (ob [.string t] 9)::KY pre z0) w∧(True))→L15 a w:=by
   clear hm he
   rintro a w ⟨he,hm,hI17⟩
   refine hL15 _ _ ?_
   generalize hb19:(decide (z0k t i=40∨z0k t i=41))=bb18 at he
   cases bb18
   refine go0 he hm fun a he =>?_
   refine sq fun L20 hL20 =>?_
   refine go0 he hm fun a he =>?_
   have hwl_:=wordLen_le (t:=t) (i:=i) (by omega)
   have hwp_:=wordLen_pos h6 (of_decide_eq_false hb14) (of_decide_eq_false hb19)
   refine go0 he hm fun a he =>?_
   refine Qq he hm (fun a he =>?_) (o:=by exact fun _ _ _ he hs=>z3o i (t.size) he rfl runUnderlying9 ⟨_,rfl⟩ rfl (by omega) (by exact Nat.le_refl _))
   refine z0x call175 he hm (fun w hm a he =>?_) (c:=anyIx_ok (i:=i) hasc (by omega) (by omega) hm)
   refine go0 he hm fun a he =>?_
   refine hL20 _ _ ?_
   refine sq fun L21 hL21 =>?_
   have hJ22:∀a w,(EnvR 52 [(0,.func (.yield l) #[] #[]),(1,.pointer (some ⟨bx,0,none⟩)),(3,.int .i64 ((i:Nat):Int)),(4,.int .i64 ((z1e t i:Nat):Int))] [] a∧Mem Φ (.blk bx (ob [.string t] 9)::KY pre z0) w∧(True))→L21 a w:=by
    clear hm he
    rintro a w ⟨he,hm,hI23⟩
    refine hL21 _ _ ?_
    refine sq fun L24 hL24 =>?_
    refine sq fun L25 hL25 =>?_
    refine wp_region_in ?_
    refine y0e he (by intro c h;cases h) (z4j he rfl) rfl fun a he =>?_
    refine y0e he (by intro c h;cases h) (z5d 0 he hm.toSees rfl rfl rfl isAgg9) rfl fun a he =>?_
    refine y0e he (by intro c h;cases h) (z4j he rfl) rfl fun a he =>?_
    refine y0e he (by intro c h;cases h) (z4j he rfl) rfl fun a he =>?_
    refine y0e he (by intro c h;cases h) (z4j he rfl) rfl fun a he =>?_
    refine y0e he (by intro c h;cases h) (z7o (i:=i) (j:=z1e t i) he rfl rfl (by omega)) rfl fun a he =>?_
    refine y0e he (by intro c h;cases h) (z3o i (i+z1e t i) he rfl runUnderlying9 ⟨_,rfl⟩ ⟨_,rfl⟩ (by omega) (by omega)) rfl fun a he =>?_
    refine in_yield (v:=.string (t.extract i (i+z1e t i))) he rfl rfl rfl (hy pre z0 [.blk bx (ob [.string t] 9)] (t.extract i (i+z1e t i)) w (by omega) hm) fun w hJ_ a he =>?_
    obtain ⟨z26,hm⟩:=hJ_
    replace hm:=hm.nf
    refine y0e he (by intro c h;cases h) (y_not he rfl) rfl fun a he =>?_
    refine wpListIn_nil ?_
    refine hL25 _ _ ?_
    refine go0 he hm fun a he =>?_
    refine hL24 _ _ ?_
    refine go0 he hm fun a he =>?_
    refine Qq he hm (fun a he =>?_) (o:=by exact fun _ _ _ he hs=>z7o (i:=i) (j:=(z1e t i)) he rfl rfl (by omega))
    refine go0 he hm fun a he =>?_
    refine hL2 _ _ _ (by subst hmu;omega) ⟨((i+(z1e t i))),(f - 1),(pre++[(t.extract i (i+z1e t i))]),(z26),rfl,he.pk,hm,?_⟩
    exact ⟨by omega,by simp only [List.length_append,List.length_cons,List.length_nil];omega,by omega,by rw [hI_,words_word h6 (by omega) (of_decide_eq_false hb14) (of_decide_eq_false hb19),List.append_assoc];rfl⟩
   refine sq fun L27 hL27 =>?_
   refine go0 he hm fun a he =>?_
   by_cases h28:(if i+z1e t i < t.size then ((z1e t i:Nat):Int) else -1) < 0
   refine go0 he hm fun a he =>?_
   refine hL27 _ _ ?_
   refine go0 he hm fun a he =>?_
   have hwn_:=word_neg (by omega) h28
   refine go0 he hm fun a he =>?_
   refine Qq he hm (fun a he =>?_) (o:=by exact fun _ _ _ he hs=>z9m ((z1e t i:Nat):Int) he rfl rfl (by rw [z1m (by omega)];omega))
   refine go0 he hm fun a he =>?_
   exact hJ22 _ _ ⟨he.pk,hm,trivial⟩
   refine go0 he hm fun a he =>?_
   refine hL27 _ _ ?_
   refine go0 he hm fun a he =>?_
   rw [word_pos h28] at he
   exact hJ22 _ _ ⟨he.pk,hm,trivial⟩
   refine go0 he hm fun a he =>?_
   refine sq fun L29 hL29 =>?_
   refine sq fun L30 hL30 =>?_
   refine wp_region_in ?_
   refine y0e he (by intro c h;cases h) (z4j he rfl) rfl fun a he =>?_
   refine y0e he (by intro c h;cases h) (z5d 0 he hm.toSees rfl rfl rfl isAgg9) rfl fun a he =>?_
   refine y0e he (by intro c h;cases h) (z4j he rfl) rfl fun a he =>?_
   refine y0e he (by intro c h;cases h) (z4j he rfl) rfl fun a he =>?_
   refine y0e he (by intro c h;cases h) (z7o (i:=i) (j:=1) he rfl rfl (by omega)) rfl fun a he =>?_
   refine y0e he (by intro c h;cases h) (z3o i (i+1) he rfl runUnderlying9 ⟨_,rfl⟩ ⟨_,rfl⟩ (by omega) (by omega)) rfl fun a he =>?_
   refine in_yield (v:=.string (t.extract i (i+1))) he rfl rfl rfl (hy pre z0 [.blk bx (ob [.string t] 9)] (t.extract i (i+1)) w (by omega) hm) fun w hJ_ a he =>?_
   obtain ⟨z31,hm⟩:=hJ_
   replace hm:=hm.nf
   refine y0e he (by intro c h;cases h) (y_not he rfl) rfl fun a he =>?_
   refine wpListIn_nil ?_
   refine hL30 _ _ ?_
   refine go0 he hm fun a he =>?_
   refine hL29 _ _ ?_
   refine go0 he hm fun a he =>?_
   refine hL2 _ _ _ (by subst hmu;omega) ⟨((i+1)),(f - 1),(pre++[(t.extract i (i+1))]),(z31),rfl,he.pk,hm,?_⟩
   exact ⟨by omega,by simp only [List.length_append,List.length_cons,List.length_nil];omega,by omega,by rw [hI_,words_par h6 (by omega) (of_decide_eq_false hb14) (of_decide_eq_true hb19),List.append_assoc];rfl⟩
  refine sq fun L32 hL32 =>?_
  refine go0 he hm fun a he =>?_
  by_cases h33:c8.toNat=40
  refine go0 he hm fun a he =>?_
  refine hL32 _ _ ?_
  refine go0 he hm fun a he =>?_
  exact hJ16 _ _ (by rw [show decide (z0k t i=40∨z0k t i=41)=true from decide_eq_true (.inl ((z2w hc9).trans h33))];exact ⟨he.pk,hm,trivial⟩)
  refine go0 he hm fun a he =>?_
  refine hL32 _ _ ?_
  refine go0 he hm fun a he =>?_
  by_cases h34:c8.toNat=41
  refine go0 he hm fun a he =>?_
  exact hJ16 _ _ (by rw [show decide (z0k t i=40∨z0k t i=41)=true from decide_eq_true (.inr ((z2w hc9).trans h34))];exact ⟨he.pk,hm,trivial⟩)
  refine go0 he hm fun a he =>?_
  exact hJ16 _ _ (by rw [show decide (z0k t i=40∨z0k t i=41)=false from decide_eq_false (by rw [z2w hc9];exact fun hh=>hh.elim h33 h34)];exact ⟨he.pk,hm,trivial⟩)
  refine go0 he hm fun a he =>?_
  refine hL2 _ _ _ (by subst hmu;omega) ⟨(i+1),(f - 1),(pre),(z0),rfl,he.pk,hm,?_⟩
  exact ⟨by omega,by omega,by omega,by rw [hI_,words_sp h6 (by omega) (of_decide_eq_true hb14)]⟩
 refine sq fun L35 hL35 =>?_
 refine go0 he hm fun a he =>?_
 by_cases h36:c8.toNat=32
 refine go0 he hm fun a he =>?_
 refine hL35 _ _ ?_
 refine go0 he hm fun a he =>?_
 exact hJ11 _ _ (by rw [show decide (z0k t i=32∨z0k t i=10)=true from decide_eq_true (.inl ((z2w hc9).trans h36))];exact ⟨he.pk,hm,trivial⟩)
 refine go0 he hm fun a he =>?_
 refine hL35 _ _ ?_
 refine go0 he hm fun a he =>?_
 by_cases h37:c8.toNat=10
 refine go0 he hm fun a he =>?_
 exact hJ11 _ _ (by rw [show decide (z0k t i=32∨z0k t i=10)=true from decide_eq_true (.inr ((z2w hc9).trans h37))];exact ⟨he.pk,hm,trivial⟩)
 refine go0 he hm fun a he =>?_
 exact hJ11 _ _ (by rw [show decide (z0k t i=32∨z0k t i=10)=false from decide_eq_false (by rw [z2w hc9];exact fun hh=>hh.elim h36 h37)];exact ⟨he.pk,hm,trivial⟩)
 refine go0 he hm fun a he =>?_
 refine hL5 _ _ ?_
 refine go0 he hm fun a he =>?_
 replace hm:=hm.dl [0]
 refine hQ _ _ _ (ret0N he results174 ?_)
 rw [hI_,words_end h6,List.append_nil];exact ⟨z0,rfl,hm⟩
end Go.Sw
