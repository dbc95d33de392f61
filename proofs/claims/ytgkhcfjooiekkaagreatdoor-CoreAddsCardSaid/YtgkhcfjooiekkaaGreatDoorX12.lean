import Derived.OrdersIn
import Derived.Test.YtgkhcfjooiekkaaGreatDoorProg
import Derived.Test.YtgkhcfjooiekkaaGreatDoorX01
import Derived.Test.YtgkhcfjooiekkaaGreatDoorX03
import Derived.Test.YtgkhcfjooiekkaaGreatDoorX04
import Derived.Test.YtgkhcfjooiekkaaGreatDoorX06
set_option linter.unusedVariables false
set_option linter.unusedSimpArgs false
namespace Go.Sw
section
variable {ws:List Bs} {i:Nat}
theorem rbind_ok {α β:Type} {r:Rd α} {f:α→Nat→Rd β} {y:β×Nat} (h:rbind r f=.ok y):∃x j,r=.ok (x,j)∧f x j=.ok y:=by
 unfold rbind at h
 split at h
 ·exact ⟨_,_,rfl,h⟩
 ·cases h
theorem rbind_eq {α β:Type} {r:Rd α} {f:α→Nat→Rd β} {x:α×Nat} (h:r=.ok x):rbind r f=f x.1 x.2:=by subst h;rfl
theorem rbind_err {α β:Type} {r:Rd α} {f:α→Nat→Rd β} {n:Nat} (h:r=.error n):rbind r f=.error n:=by subst h;rfl
theorem peek_lt (h:¬peekP ws i=⟨#[]⟩):i < ws.length:=by
 refine Classical.byContradiction fun hn=>h ?_
 unfold peekP
 rw [List.getD_eq_getElem?_getD,List.getElem?_eq_none (by omega)];rfl
theorem peek_at {x:Bs} (h:ws[i]? = some x):peekP ws i=x:=by unfold peekP;rw [List.getD_eq_getElem?_getD,h];rfl
theorem peek_end (h:¬i < ws.length):peekP ws i=⟨#[]⟩:=by unfold peekP;rw [List.getD_eq_getElem?_getD,List.getElem?_eq_none (by omega)];rfl
theorem takeP_ok {p:Bs→Bool} (h:¬peekP ws i=⟨#[]⟩) (hp:p (peekP ws i)=true):takeP ws p i=.ok (peekP ws i,i+1):=by
 unfold takeP;rw [if_neg];rintro (h2 | h2);exact h h2;rw [hp] at h2;cases h2
theorem takeP_no {p:Bs→Bool} (h:peekP ws i=⟨#[]⟩):takeP ws p i=.error (i+1):=by unfold takeP;rw [if_pos (.inl h)]
theorem takeP_bad {p:Bs→Bool} (h:p (peekP ws i)=false):takeP ws p i=.error (i+1):=by unfold takeP;rw [if_pos (.inr h)]
theorem takeP_inv {p:Bs→Bool} {x:Bs×Nat} (h:takeP ws p i=.ok x):x.2=i+1∧i < ws.length∧p x.1=true:=by
 unfold takeP at h
 split at h
 ·cases h
 ·rename_i hn
  simp only [Except.ok.injEq] at h
  subst h
  exact ⟨rfl,peek_lt fun e=>hn (.inl e),by cases hp:p (peekP ws i) with | true=>rfl | false=>exact absurd (.inr hp) hn⟩
theorem nextP_ok {w:Bs} {x:Bs×Nat} (h:takeP ws (fun s=>decide (s=w)) i=.ok x):nextP ws w i=.ok ((),x.2):=by unfold nextP;rw [rbind_eq h]
theorem nextP_err {w:Bs} {n:Nat} (h:takeP ws (fun s=>decide (s=w)) i=.error n):nextP ws w i=.error n:=by unfold nextP;rw [rbind_err h]
theorem nextP_inv {w:Bs} {x:Unit×Nat} (h:nextP ws w i=.ok x):x.2=i+1∧i < ws.length:=by
 obtain ⟨y,j,h1,h2⟩:=rbind_ok h
 have:=takeP_inv h1
 simp only [Except.ok.injEq] at h2
 subst h2;exact ⟨this.1,this.2.1⟩
def Goes (ws:List Bs) {α:Type} (f:Nat→Rd α):Prop:=∀i x,f i=.ok x→i < x.2∧x.2≤ws.length
def Stays (ws:List Bs) {α:Type} (f:Nat→Rd α):Prop:=∀i x,i≤ws.length→f i=.ok x→i≤x.2∧x.2≤ws.length
theorem Goes.stays {α:Type} {f:Nat→Rd α} (h:Goes ws f):Stays ws f:=fun i x _ hx=>⟨Nat.le_of_lt (h i x hx).1,(h i x hx).2⟩
theorem take_goes (p:Bs→Bool):Goes ws (takeP ws p):=fun i x h=>by have:=takeP_inv h;omega
theorem next_goes (w:Bs):Goes ws (nextP ws w):=fun i x h=>by have:=nextP_inv h;omega
theorem Goes.bind {α β:Type} {f:Nat→Rd α} {g:α→Nat→Rd β} (hf:Goes ws f) (hg:∀x,Stays ws (g x)):Goes ws (fun i=>rbind (f i) g):=fun i y h=>by
 obtain ⟨x,j,h1,h2⟩:=rbind_ok h
 have h3:=hf i _ h1
 have h4:=hg x j y h3.2 h2
 simp only at h3;omega
theorem Stays.bind {α β:Type} {f:Nat→Rd α} {g:α→Nat→Rd β} (hf:Stays ws f) (hg:∀x,Stays ws (g x)):Stays ws (fun i=>rbind (f i) g):=fun i y hi h=>by
 obtain ⟨x,j,h1,h2⟩:=rbind_ok h
 have h3:=hf i _ hi h1
 have h4:=hg x j y h3.2 h2
 simp only at h3;omega
theorem Stays.ok {α:Type} (x:α):Stays ws (fun i=>.ok (x,i)):=fun i y hi h=>by simp only [Except.ok.injEq] at h;subst h;exact ⟨Nat.le_refl _,hi⟩
theorem Stays.from {α:Type} {f:Nat→Rd α} (h:Stays ws f) {j:Nat} {y:α×Nat} (hj:i < j) (hl:j≤ws.length) (hy:f j=.ok y):i < y.2∧y.2≤ws.length:=by
 have:=h j y hl hy;omega
theorem list_stays {ex:Nat→Rd Ex} (he:Goes ws ex):∀f least,Stays ws (listP ws ex f least)
 | 0,_=>fun i x _ h=>by cases h
 | f+1,least=>fun i x hi h=>by
  simp only [listP] at h
  split at h
  ·exact (he.bind fun e=>(list_stays he f (least - 1)).bind fun l=>Stays.ok _).stays i x hi h
  ·exact Stays.ok _ i x hi h
theorem two_goes {ex:Nat→Rd Ex} (he:Goes ws ex):Goes ws (twoP ex):=he.bind fun _=>(he.bind fun _=>Stays.ok _).stays
theorem vars_stays:∀f,Stays ws (varsP ws f)
 | 0=>fun i x _ h=>by cases h
 | f+1=>fun i x hi h=>by
  simp only [varsP] at h
  split at h
  ·exact ((take_goes isNameP).bind fun e=>(vars_stays f).bind fun l=>Stays.ok _).stays i x hi h
  ·exact Stays.ok _ i x hi h
theorem arm_goes {ex:Nat→Rd Ex} (he:Goes ws ex):Goes ws (armP ws ex) :=
 (next_goes _).bind fun _=>(take_goes isConP).stays.bind fun _=>(vars_stays _).bind fun _=>(next_goes _).stays.bind fun _=>he.stays.bind fun _=>(next_goes _).stays.bind fun _=>Stays.ok _
theorem arms_stays {ex:Nat→Rd Ex} (he:Goes ws ex):∀f b,Stays ws (armsP ws ex f b)
 | 0,_=>fun i x _ h=>by cases h
 | f+1,b=>fun i x hi h=>by
  simp only [armsP] at h
  split at h
  ·exact ((arm_goes he).bind fun e=>(arms_stays he f false).bind fun l=>Stays.ok _).stays i x hi h
  ·exact Stays.ok _ i x hi h
theorem form_goes {ex:Nat→Rd Ex} (he:Goes ws ex):Goes ws (formP ws ex):=fun i x h=>by
 have lt:∀{s:Bs},s≠⟨#[]⟩→peekP ws i=s→i+1≤ws.length:=fun hs e=>peek_lt (by rw [e];exact hs)
 unfold formP at h
 split at h
 ·rename_i hop
  have:i+1≤ws.length:=peek_lt fun e=>by rw [e] at hop;exact absurd hop (by decide)
  exact Stays.from (i:=i) ((two_goes he).stays.bind fun _=>Stays.ok _) (Nat.lt_succ_self _) this h
 split at h
 ·rename_i e
  exact Stays.from (i:=i) ((take_goes isNameP).stays.bind fun _=>(two_goes he).stays.bind fun _=>Stays.ok _) (Nat.lt_succ_self _) (lt (by decide) e) h
 split at h
 ·rename_i e
  exact Stays.from (i:=i) (he.stays.bind fun _=>(arms_stays he _ _).bind fun _=>Stays.ok _) (Nat.lt_succ_self _) (lt (by decide) e) h
 split at h
 ·rename_i hc
  have:i+1≤ws.length:=peek_lt fun e=>by rw [e] at hc;exact absurd hc (by decide)
  exact Stays.from (i:=i) ((list_stays he _ _).bind fun _=>Stays.ok _) (Nat.lt_succ_self _) this h
 ·exact ((take_goes isNameP).bind fun _=>(list_stays he _ _).bind fun _=>Stays.ok _) i x h
theorem expr_goes:∀d,Goes ws (exprP ws d)
 | 0=>fun i x h=>by cases h
 | d+1=>fun i x h=>by
  simp only [exprP] at h
  split at h
  ·cases h
  rename_i hne
  have hl:i+1≤ws.length:=peek_lt hne
  split at h
  ·simp only [Except.ok.injEq] at h;subst h;exact ⟨Nat.lt_succ_self _,hl⟩
  split at h
  ·exact Stays.from (i:=i) ((form_goes (expr_goes d)).stays.bind fun _=>(next_goes _).stays.bind fun _=>Stays.ok _) (Nat.lt_succ_self _) hl h
  split at h
  ·simp only [Except.ok.injEq] at h;subst h;exact ⟨Nat.lt_succ_self _,hl⟩
  split at h
  ·simp only [Except.ok.injEq] at h;subst h;exact ⟨Nat.lt_succ_self _,hl⟩
  ·exact ((take_goes isNameP).bind fun _=>Stays.ok _) i x h
theorem fields_stays:∀f,Stays ws (fieldsP ws f)
 | 0=>fun i x _ h=>by cases h
 | f+1=>fun i x hi h=>by
  simp only [fieldsP] at h
  split at h
  ·exact ((take_goes isConP).bind fun e=>(fields_stays f).bind fun l=>Stays.ok _).stays i x hi h
  ·exact Stays.ok _ i x hi h
theorem params_stays:∀f,Stays ws (paramsP ws f)
 | 0=>fun i x _ h=>by cases h
 | f+1=>fun i x hi h=>by
  simp only [paramsP] at h
  split at h
  ·rename_i e
   have hl:i+1≤ws.length:=peek_lt (by rw [e];decide)
   have:=Stays.from (i:=i) (((take_goes isNameP).bind fun n=>((next_goes sColon).bind fun _=>((take_goes isConP).bind fun t=>Stays.ok (⟨n,t⟩:Param)).stays).stays).stays.bind fun _=>(next_goes sCls).stays.bind fun _=>(params_stays f).bind fun _=>Stays.ok _) (Nat.lt_succ_self _) hl h
   omega
  ·exact Stays.ok _ i x hi h
theorem param_goes:Goes ws (paramP ws):=(take_goes isNameP).bind fun _=>(next_goes _).stays.bind fun _=>(take_goes isConP).stays.bind fun _=>Stays.ok _
theorem cons_goes:∀f,Goes ws (consP ws f)
 | 0=>fun i x h=>by cases h
 | f+1=>by
  refine (take_goes isConP).bind fun n=>(fields_stays _).bind fun l =>?_
  intro i x hi h
  simp only at h
  split at h
  ·exact Stays.ok _ i x hi h
  ·rename_i e
   have e':peekP ws i=sBar:=Classical.byContradiction fun hh=>e hh
   have hl:i+1≤ws.length:=peek_lt (by rw [e'];decide)
   have:=Stays.from (i:=i) ((cons_goes f).stays.bind fun _=>Stays.ok _) (Nat.lt_succ_self _) hl h
   omega
theorem data_goes:Goes ws (dataP ws):=(take_goes isConP).bind fun _=>(next_goes _).stays.bind fun _=>(cons_goes _).stays.bind fun _=>Stays.ok _
theorem fun_goes:Goes ws (funP ws):=(take_goes isNameP).bind fun _=>(params_stays _).bind fun _=>(next_goes _).stays.bind fun _=>(take_goes isConP).stays.bind fun _=>(next_goes _).stays.bind fun _=>(expr_goes _).stays.bind fun _=>Stays.ok _
end
end Go.Sw

namespace Go.Sw
open Go.Proofs
def wrongR (n:Nat):List PanicEntry:=[{ v:=.iface 204 (.agg #[.int .i64 ((n:Nat):Int)]),recovered:=false }]
section
variable {P:Program} {n:Nat} {E:List (Nat×Value)} {D:List Deferred} {a:Act} {Φ Ψ:Fz} {K:List Res} {w:World}
variable {Kn:Value→World→Prop} {Qp:List PanicEntry→World→Prop} {dst:Option Tmp} {ty:TypeId} {pos:String} {aft:Array Edge} {g:Option (Nat×Bool)}
theorem eff_callZ {f:FuncId} {xs:Array Operand} {ts:Array TypeId} {vs:List Value} {c:List PanicEntry} {Φ2:Fz} {KE:List Res}
  (he:EnvR n E D a) (hx:evs E xs.toList=some vs) (hf:∀args w,(callFunc f args).run P w=.ok (.enter f args) w)
  (hc:Calls P f vs.toArray w (fun e w'=>e=.panicked c∧Mem Φ2 KE w')) (kp:∀w',Mem Φ2 KE w'→Qp c w') :
  Oper.eff P ⟨dst,.call { callee:=.value (.func f),args:=xs,argTypes:=ts },ty,pos,aft,g⟩ a w Kn Qp :=
 eff_call he hx hf hc (fun v w' h=>by cases h.1) (fun c w' h=>by cases h.1;exact kp _ h.2) (fun w' h=>by cases h.1)
end
theorem intP_some {s:Bs} {v:Int} (h:atoiC s=.ok v) (hd:itoaP v=s):intP s=some v:=by simp [intP,h,hd]
theorem intP_ne {s:Bs} {v:Int} (h:atoiC s=.ok v) (hd:¬itoaP v=s):intP s=none:=by simp [intP,h,hd]
theorem intP_err {s:Bs} {u:Unit} (h:atoiC s=.error u):intP s=none:=by simp [intP,h]
theorem intP_i64 {s:Bs} {v:Int} (h:intP s=some v):I64 v:=by
 unfold intP at h
 split at h
 ·rename_i v' h2
  split at h
  ·simp only [Option.some.injEq] at h;subst h;exact atoi_i64 h2
  ·cases h
 ·cases h
theorem takeP_le {ws:List Bs} {i:Nat} {p:Bs→Bool} {x:Bs×Nat} (h:takeP ws p i=.ok x):x.2=i+1∧x.2≤ws.length:=by have:=takeP_inv h;omega
theorem nextP_le {ws:List Bs} {i:Nat} {w:Bs} {x:Unit×Nat} (h:nextP ws w i=.ok x):x.2=i+1∧x.2≤ws.length:=by have:=nextP_inv h;omega
end Go.Sw

namespace Go.Sw
open Go.Proofs
def ExprOk (ws:List Bs) (d:Nat):Prop:=∀{Φ:Fz} {K:List Res} {w:World} {r i:Nat} {rs:Value},Glob Φ→SliceOf RStr Φ 1 rs ws→i≤ws.length →
  Mem Φ (.blk r (ob [rs,.int .i64 ((i:Nat):Int)] 208)::K) w →
  Calls Tryz.prog 180 (List.toArray [.pointer (some ⟨r,0,none⟩),.int .i64 ((d:Nat):Int)]) w (fun ee w'=>Out (exprP ws d i)
   (fun x=>∃y:Fz×List Value,ee=.returned (.agg y.2.toArray)∧(Φ.Le y.1∧REx y.1 y.2 x.1)∧Mem y.1 (.blk r (ob [rs,.int .i64 ((x.2:Nat):Int)] 208)::K) w')
   (fun c=>ee=.panicked (wrongR c)∧Mem Φ K w'))
theorem i64_0:I64 0:=⟨by decide,by decide⟩
theorem REx.leaf {Φ:Fz} {k n:Int} {s:Bs} (h:I64 n):REx Φ [.int .i64 k,.int .i64 n,.string s,.slice none 0 0,.slice none 0 0] (.mk k n s [] []) :=
 REx.iff.2 ⟨_,_,rfl,h,SliceOf.nil 5,SliceOf.nil 7⟩
theorem REx.node {Φ:Fz} {k:Int} {s:Bs} {v:Value} {l:List Ex} (h:SliceOf REx Φ 5 v l):REx Φ [.int .i64 k,.int .i64 0,.string s,v,.slice none 0 0] (.mk k 0 s l []) :=
 REx.iff.2 ⟨_,_,rfl,i64_0,h,SliceOf.nil 7⟩
theorem REx.full {Φ:Fz} {k:Int} {s:Bs} {v u:Value} {l:List Ex} {m:List Arm} (h:SliceOf REx Φ 5 v l) (h2:SliceOf RArm Φ 7 u m):REx Φ [.int .i64 k,.int .i64 0,.string s,v,u] (.mk k 0 s l m) :=
 REx.iff.2 ⟨_,_,rfl,i64_0,h,h2⟩
theorem Chunks.one {α:Type} {R:List Value→α→Prop} {k:Nat} {a:List Value} {x:α} (la:a.length=k) (ha:R a x):Chunks R k a [x]:=⟨a,[],by simp,la,ha,rfl⟩
theorem Chunks.two {α:Type} {R:List Value→α→Prop} {k:Nat} {a b:List Value} {x y:α} (la:a.length=k) (ha:R a x) (lb:b.length=k) (hb:R b y):Chunks R k (a++b) [x,y]:=⟨a,b,rfl,la,ha,Chunks.one lb hb⟩
section
variable {P:Program} {n:Nat} {E:List (Nat×Value)} {D:List Deferred} {a:Act} {Φ:Fz} {K:List Res} {w:World} {ty:TypeId}
theorem y_len_gs (i m:Nat) {x:Operand} {t e T:TypeId} {k:Nat} {v:Value} {cs:List Value} (he:EnvR n E D a) (hs:Sees Φ K w) (hx:ev E x=some v) (hk:kget K i=some (.gs v T k cs)) (hl:cs.length=m * k) (h0:0 < k) (ht:Under P t (.slice e)) :
  Ok P a (.call { callee:=.builtin .len,args:=#[x],argTypes:=#[t] }) ty w (.int .i64 ((m:Nat):Int)):=by
 obtain ⟨p,m',c,rfl,h1,_⟩:=hs.gsForm hk
 have:m'=m:=Nat.eq_of_mul_eq_mul_right h0 (h1.symm.trans hl)
 subst this
 exact y_len_slice he hx ht
end
section
variable {ws:List Bs} {i d:Nat}
theorem expr_zero:exprP ws 0 i=.error (i+1):=rfl
theorem expr_no (h:peekP ws i=⟨#[]⟩):exprP ws (d+1) i=.error (i+1):=by rw [exprP,if_pos (show peekP ws i=sNo from h)]
theorem expr_num {n:Int} (h:¬peekP ws i=⟨#[]⟩) (hn:intP (peekP ws i)=some n):exprP ws (d+1) i=.ok (.mk 1 n sNo [] [],i+1):=by
 rw [exprP,if_neg (show ¬peekP ws i=sNo from h),hn]
theorem expr_fe {c:Nat} (h:¬peekP ws i=⟨#[]⟩) (hn:intP (peekP ws i)=none) (ho:peekP ws i=⟨#[40]⟩) (hf:formP ws (exprP ws d) (i+1)=.error c):exprP ws (d+1) i=.error c:=by
 rw [exprP,if_neg (show ¬peekP ws i=sNo from h),hn];show (if peekP ws i=sOpn then _ else _)=_;rw [if_pos (show peekP ws i=sOpn from ho),rbind_err hf]
theorem expr_fc {c:Nat} {x:Ex×Nat} (h:¬peekP ws i=⟨#[]⟩) (hn:intP (peekP ws i)=none) (ho:peekP ws i=⟨#[40]⟩) (hf:formP ws (exprP ws d) (i+1)=.ok x) (hc:nextP ws ⟨#[41]⟩ x.2=.error c):exprP ws (d+1) i=.error c:=by
 rw [exprP,if_neg (show ¬peekP ws i=sNo from h),hn];show (if peekP ws i=sOpn then _ else _)=_;rw [if_pos (show peekP ws i=sOpn from ho),rbind_eq hf];exact rbind_err hc
theorem expr_form {x:Ex×Nat} {y:Unit×Nat} (h:¬peekP ws i=⟨#[]⟩) (hn:intP (peekP ws i)=none) (ho:peekP ws i=⟨#[40]⟩) (hf:formP ws (exprP ws d) (i+1)=.ok x) (hc:nextP ws ⟨#[41]⟩ x.2=.ok y):exprP ws (d+1) i=.ok (x.1,y.2):=by
 rw [exprP,if_neg (show ¬peekP ws i=sNo from h),hn];show (if peekP ws i=sOpn then _ else _)=_;rw [if_pos (show peekP ws i=sOpn from ho),rbind_eq hf];exact rbind_eq hc
theorem expr_con {x:Bs×Nat} (h:¬peekP ws i=⟨#[]⟩) (hn:intP (peekP ws i)=none) (ho:¬peekP ws i=⟨#[40]⟩) (hc:isConP (peekP ws i)=true) (hx:rcon ws i=.ok x):exprP ws (d+1) i=.ok (.mk 4 0 x.1 [] [],x.2):=by
 have hx':=(takeP_ok h hc).symm.trans hx
 simp only [Except.ok.injEq] at hx';subst hx'
 rw [exprP,if_neg (show ¬peekP ws i=sNo from h),hn];show (if peekP ws i=sOpn then _ else _)=_;rw [if_neg (show ¬peekP ws i=sOpn from ho),if_pos hc]
theorem expr_conE {c:Nat} {Q:Prop} (h:¬peekP ws i=⟨#[]⟩) (hc:isConP (peekP ws i)=true) (hx:rcon ws i=.error c):Q:=by cases (takeP_ok h hc).symm.trans hx
theorem expr_input (h:¬peekP ws i=⟨#[]⟩) (hn:intP (peekP ws i)=none) (ho:¬peekP ws i=⟨#[40]⟩) (hc:isConP (peekP ws i)=false) (hb:byteAt (peekP ws i) 0=33) (hi:isNameP ((peekP ws i).extract 1 (peekP ws i).size)=true) :
  exprP ws (d+1) i=.ok (.mk 3 0 ((peekP ws i).extract 1 (peekP ws i).size) [] [],i+1):=by
 rw [exprP,if_neg (show ¬peekP ws i=sNo from h),hn];show (if peekP ws i=sOpn then _ else _)=_;rw [if_neg (show ¬peekP ws i=sOpn from ho),if_neg (by rw [hc];decide),if_pos ⟨hb,hi⟩]
theorem expr_var0 (h:¬peekP ws i=⟨#[]⟩) (hn:intP (peekP ws i)=none) (ho:¬peekP ws i=⟨#[40]⟩) (hc:isConP (peekP ws i)=false) (hb:¬(byteAt (peekP ws i) 0=33∧isNameP ((peekP ws i).extract 1 (peekP ws i).size)=true)) :
  exprP ws (d+1) i=rbind (rname ws i) fun x j=>.ok (.mk 2 0 x [] [],j):=by
 rw [exprP,if_neg (show ¬peekP ws i=sNo from h),hn];show (if peekP ws i=sOpn then _ else _)=_;rw [if_neg (show ¬peekP ws i=sOpn from ho),if_neg (by rw [hc];decide),if_neg hb]
theorem size_pos {s:Bs} (h:¬s=⟨#[]⟩):0 < s.size:=by
 refine Nat.pos_of_ne_zero fun e=>h ?_
 apply ByteArray.ext
 exact Array.eq_empty_of_size_eq_zero e
variable {ex:Nat→Rd Ex} {f least:Nat}
theorem list_end (h:¬0 < least) (h2:peekP ws i=⟨#[41]⟩):listP ws ex (f+1) least i=.ok ([],i):=by
 rw [listP,if_neg];rintro (h3 | h3);exact h h3;exact h3 h2
theorem list_on (h:0 < least∨¬peekP ws i=⟨#[41]⟩):listP ws ex (f+1) least i=rbind (ex i) fun e i=>rbind (listP ws ex f (least - 1) i) fun l i=>.ok (e::l,i):=by
 rw [listP,if_pos];exact h.imp_right fun h=>h
end
def pre1 {α:Type} (xs:List α) (r:Rd (List α)):Rd (List α):=rbind r fun l k=>.ok (xs++l,k)
theorem pre1_nil {α:Type} (r:Rd (List α)):r=pre1 [] r:=by
 unfold pre1;cases r with
 | ok x=>rfl
 | error c=>rfl
theorem pre1_ok {α:Type} (xs:List α) (l:List α) (k:Nat):pre1 xs (.ok (l,k))=.ok (xs++l,k):=rfl
theorem pre1_cons {α:Type} (xs:List α) (x:α) (r:Rd (List α)):pre1 xs (rbind r fun l k=>.ok (x::l,k))=pre1 (xs++[x]) r:=by
 unfold pre1;cases r with
 | ok y=>simp [rbind]
 | error c=>rfl
section
variable {ws:List Bs} {ex:Nat→Rd Ex} {f m j:Nat} {r:Rd (List Ex)} {xs:List Ex}
theorem list_fin (hI:r=pre1 xs (listP ws ex f (m - xs.length) j)) (hf:0 < f) (h:¬xs.length < m) (h2:peekP ws j=⟨#[41]⟩):r=.ok (xs,j):=by
 obtain ⟨f,rfl⟩:∃k,f=k+1:=⟨f - 1,by omega⟩
 rw [hI,list_end (by omega) h2,pre1_ok,List.append_nil]
theorem list_fail {c:Nat} (hI:r=pre1 xs (listP ws ex f (m - xs.length) j)) (hf:0 < f) (h:xs.length < m∨¬peekP ws j=⟨#[41]⟩) (he:ex j=.error c):r=.error c:=by
 obtain ⟨f,rfl⟩:∃k,f=k+1:=⟨f - 1,by omega⟩
 rw [hI,list_on (h.imp_left fun h=>by omega),rbind_err he];rfl
theorem list_step {x:Ex×Nat} (hI:r=pre1 xs (listP ws ex f (m - xs.length) j)) (hf:0 < f) (h:xs.length < m∨¬peekP ws j=⟨#[41]⟩) (he:ex j=.ok x) :
  r=pre1 (xs++[x.1]) (listP ws ex (f - 1) (m - (xs++[x.1]).length) x.2):=by
 obtain ⟨f,rfl⟩:∃k,f=k+1:=⟨f - 1,by omega⟩
 rw [hI,list_on (h.imp_left fun h=>by omega),rbind_eq he,pre1_cons,Nat.add_sub_cancel,List.length_append,Nat.sub_sub];rfl
end
section
variable {ws:List Bs} {ex:Nat→Rd Ex} {f j:Nat} {r:Rd (List Arm)} {xs:List Arm}
theorem arms_fin (hI:r=pre1 xs (armsP ws ex f (decide (xs.length=0)) j)) (hf:0 < f) (h:¬xs.length=0) (h2:¬peekP ws j=⟨#[40]⟩):r=.ok (xs,j):=by
 obtain ⟨f,rfl⟩:∃k,f=k+1:=⟨f - 1,by omega⟩
 rw [hI,armsP,if_neg (by rintro (h3 | h3);exact h (of_decide_eq_true h3);exact h2 h3)];simp [pre1,rbind]
theorem arms_fail {c:Nat} (hI:r=pre1 xs (armsP ws ex f (decide (xs.length=0)) j)) (hf:0 < f) (h:xs.length=0∨peekP ws j=⟨#[40]⟩) (he:armP ws ex j=.error c):r=.error c:=by
 obtain ⟨f,rfl⟩:∃k,f=k+1:=⟨f - 1,by omega⟩
 rw [hI,armsP,if_pos (show decide (xs.length=0)=true∨peekP ws j=sOpn from h.imp_left fun h=>decide_eq_true h),rbind_err he];rfl
theorem arms_step {x:Arm×Nat} (hI:r=pre1 xs (armsP ws ex f (decide (xs.length=0)) j)) (hf:0 < f) (h:xs.length=0∨peekP ws j=⟨#[40]⟩) (he:armP ws ex j=.ok x):r=pre1 (xs++[x.1]) (armsP ws ex (f - 1) (decide ((xs++[x.1]).length=0)) x.2):=by
 obtain ⟨f,rfl⟩:∃k,f=k+1:=⟨f - 1,by omega⟩
 rw [hI,armsP,if_pos (show decide (xs.length=0)=true∨peekP ws j=sOpn from h.imp_left fun h=>decide_eq_true h),rbind_eq he,pre1_cons,Nat.add_sub_cancel];simp
end
section
variable {ws:List Bs} {f j:Nat} {r:Rd (List Bs)} {xs:List Bs}
theorem vars_fin (hI:r=pre1 xs (varsP ws f j)) (hf:0 < f) (h:peekP ws j=⟨#[45,62]⟩):r=.ok (xs,j):=by
 obtain ⟨f,rfl⟩:∃k,f=k+1:=⟨f - 1,by omega⟩
 rw [hI,varsP,if_neg (fun h3=>h3 h)];simp [pre1,rbind]
theorem vars_fail {c:Nat} (hI:r=pre1 xs (varsP ws f j)) (hf:0 < f) (h:¬peekP ws j=⟨#[45,62]⟩) (he:rname ws j=.error c):r=.error c:=by
 obtain ⟨f,rfl⟩:∃k,f=k+1:=⟨f - 1,by omega⟩
 rw [hI,varsP,if_pos (show peekP ws j≠sArrow from h),rbind_err he];rfl
theorem vars_step {x:Bs×Nat} (hI:r=pre1 xs (varsP ws f j)) (hf:0 < f) (h:¬peekP ws j=⟨#[45,62]⟩) (he:rname ws j=.ok x):r=pre1 (xs++[x.1]) (varsP ws (f - 1) x.2):=by
 obtain ⟨f,rfl⟩:∃k,f=k+1:=⟨f - 1,by omega⟩
 rw [hI,varsP,if_pos (show peekP ws j≠sArrow from h),rbind_eq he,pre1_cons,Nat.add_sub_cancel]
end
section
variable {ws:List Bs} {f j:Nat} {r:Rd (List Bs)} {xs:List Bs}
theorem fields_fin (hI:r=pre1 xs (fieldsP ws f j)) (hf:0 < f) (h:isConP (peekP ws j)=false):r=.ok (xs,j):=by
 obtain ⟨f,rfl⟩:∃k,f=k+1:=⟨f - 1,by omega⟩
 rw [hI,fieldsP,if_neg (by rw [h];decide)];simp [pre1,rbind]
theorem fields_fail {c:Nat} (hI:r=pre1 xs (fieldsP ws f j)) (hf:0 < f) (h:isConP (peekP ws j)=true) (he:rcon ws j=.error c):r=.error c:=by
 obtain ⟨f,rfl⟩:∃k,f=k+1:=⟨f - 1,by omega⟩
 rw [hI,fieldsP,if_pos h,rbind_err he];rfl
theorem fields_step {x:Bs×Nat} (hI:r=pre1 xs (fieldsP ws f j)) (hf:0 < f) (h:isConP (peekP ws j)=true) (he:rcon ws j=.ok x):r=pre1 (xs++[x.1]) (fieldsP ws (f - 1) x.2):=by
 obtain ⟨f,rfl⟩:∃k,f=k+1:=⟨f - 1,by omega⟩
 rw [hI,fieldsP,if_pos h,rbind_eq he,pre1_cons,Nat.add_sub_cancel]
end
section
variable {ws:List Bs} {ex:Nat→Rd Ex} {i:Nat}
theorem form_op (h:isOpB (peekP ws i)=true):formP ws ex i=rbind (twoP ex (i+1)) fun l j=>.ok (.mk 8 0 (peekP ws i) l [],j):=by rw [formP,if_pos h]
theorem form_let (h:isOpB (peekP ws i)=false) (h2:peekP ws i=⟨#[108,101,116]⟩):formP ws ex i=rbind (rname ws (i+1)) fun x j=>rbind (twoP ex j) fun l j=>.ok (.mk 6 0 x l [],j):=by
 rw [formP,if_neg (by rw [h];decide)];exact if_pos h2
theorem form_case (h:isOpB (peekP ws i)=false) (h2:¬peekP ws i=⟨#[108,101,116]⟩) (h3:peekP ws i=⟨#[99,97,115,101]⟩) :
  formP ws ex i=rbind (ex (i+1)) fun a j=>rbind (armsP ws ex (ws.length+1) true j) fun l j=>.ok (.mk 7 0 sNo [a] l,j):=by
 rw [formP,if_neg (by rw [h];decide)];exact (if_neg h2).trans (if_pos h3)
theorem form_con (h:isOpB (peekP ws i)=false) (h2:¬peekP ws i=⟨#[108,101,116]⟩) (h3:¬peekP ws i=⟨#[99,97,115,101]⟩) (h4:isConP (peekP ws i)=true) :
  formP ws ex i=rbind (listP ws ex (ws.length+1) 1 (i+1)) fun l j=>.ok (.mk 4 0 (peekP ws i) l [],j):=by
 rw [formP,if_neg (by rw [h];decide)];exact (if_neg h2).trans ((if_neg h3).trans (if_pos h4))
theorem form_call (h:isOpB (peekP ws i)=false) (h2:¬peekP ws i=⟨#[108,101,116]⟩) (h3:¬peekP ws i=⟨#[99,97,115,101]⟩) (h4:isConP (peekP ws i)=false) :
  formP ws ex i=rbind (rname ws i) fun x j=>rbind (listP ws ex (ws.length+1) 0 j) fun l j=>.ok (.mk 5 0 x l [],j):=by
 rw [formP,if_neg (by rw [h];decide)];exact (if_neg h2).trans ((if_neg h3).trans (if_neg (by rw [h4];decide)))
theorem isOp_no {s:Bs} (h1:¬s=⟨#[43]⟩) (h2:¬s=⟨#[45]⟩) (h3:¬s=⟨#[42]⟩) (h4:¬s=⟨#[47]⟩) (h5:¬s=⟨#[37]⟩) (h6:¬s=⟨#[60]⟩) (h7:¬s=⟨#[61]⟩):isOpB s=false:=by
 simp [isOpB,h1,h2,h3,h4,h5,h6,h7]
theorem isOp_yes {s:Bs} (h:s=⟨#[43]⟩∨s=⟨#[45]⟩∨s=⟨#[42]⟩∨s=⟨#[47]⟩∨s=⟨#[37]⟩∨s=⟨#[60]⟩∨s=⟨#[61]⟩):isOpB s=true:=by
 rcases h with h | h | h | h | h | h | h <;> subst h <;> rfl
end
theorem RArm.of {Φ:Fz} {c:Bs} {v:Value} {b:List Value} {vs:List Bs} {e:Ex} (h:SliceOf RStr Φ 1 v vs) (hb:REx Φ b e):RArm Φ (.string c::v::b) (.mk c vs e):=RArm.iff.2 ⟨_,_,rfl,h,hb⟩
theorem peek_eq_lt {ws:List Bs} {i:Nat} {s:Bs} (h:peekP ws i=s) (hs:s≠⟨#[]⟩):i < ws.length:=peek_lt fun e=>hs (h.symm.trans e)
theorem isOp_lt {ws:List Bs} {i:Nat} (h:isOpB (peekP ws i)=true):i < ws.length:=peek_lt fun e=>by rw [e] at h;revert h;decide
theorem isCon_lt {ws:List Bs} {i:Nat} (h:isConP (peekP ws i)=true):i < ws.length:=peek_lt fun e=>by rw [e] at h;revert h;decide
theorem two_le {ws:List Bs} {d i:Nat} {x:List Ex×Nat} (h:twoP (exprP ws d) i=.ok x):i < x.2∧x.2≤ws.length:=two_goes (expr_goes d) i x h
theorem list_le {ws:List Bs} {d i f m:Nat} {x:List Ex×Nat} (hi:i≤ws.length) (h:listP ws (exprP ws d) f m i=.ok x):i≤x.2∧x.2≤ws.length:=list_stays (expr_goes d) f m i x hi h
theorem form_le {ws:List Bs} {d i:Nat} {x:Ex×Nat} (h:formP ws (exprP ws d) i=.ok x):i < x.2∧x.2≤ws.length:=form_goes (expr_goes d) i x h
section
variable {ws:List Bs} {f j:Nat} {xs:List Con} {r:Rd (List Con)} {n:Bs×Nat} {l:List Bs} {k c:Nat}
theorem cons_fail1 (hI:r=pre1 xs (consP ws f j)) (hf:0 < f) (he:rcon ws j=.error c):r=.error c:=by
 obtain ⟨f,rfl⟩:∃k,f=k+1:=⟨f - 1,by omega⟩
 rw [hI,consP,rbind_err he];rfl
theorem cons_fail2 (hI:r=pre1 xs (consP ws f j)) (hf:0 < f) (h1:rcon ws j=.ok n) (he:fieldsP ws (ws.length+1) n.2=.error c):r=.error c:=by
 obtain ⟨f,rfl⟩:∃k,f=k+1:=⟨f - 1,by omega⟩
 rw [hI,consP,rbind_eq h1,rbind_err he];rfl
theorem cons_fin (hI:r=pre1 xs (consP ws f j)) (hf:0 < f) (h1:rcon ws j=.ok n) (h2:fieldsP ws (ws.length+1) n.2=.ok (l,k)) (hb:¬peekP ws k=⟨#[124]⟩):r=.ok (xs++[⟨n.1,l⟩],k):=by
 obtain ⟨f,rfl⟩:∃k,f=k+1:=⟨f - 1,by omega⟩
 rw [hI,consP,rbind_eq h1,rbind_eq h2,if_pos (show peekP ws k≠sBar from hb)];rfl
theorem cons_step (hI:r=pre1 xs (consP ws f j)) (hf:0 < f) (h1:rcon ws j=.ok n) (h2:fieldsP ws (ws.length+1) n.2=.ok (l,k)) (hb:peekP ws k=⟨#[124]⟩):r=pre1 (xs++[⟨n.1,l⟩]) (consP ws (f - 1) (k+1)):=by
 obtain ⟨f,rfl⟩:∃k,f=k+1:=⟨f - 1,by omega⟩
 rw [hI,consP,rbind_eq h1,rbind_eq h2,if_neg (show ¬peekP ws k≠sBar from fun h=>h hb),pre1_cons,Nat.add_sub_cancel]
end
section
variable {ws:List Bs} {f j:Nat} {xs:List Param} {r:Rd (List Param)} {p:Param×Nat} {y:Unit×Nat} {c:Nat}
theorem params_fin (hI:r=pre1 xs (paramsP ws f j)) (hf:0 < f) (h:¬peekP ws j=⟨#[40]⟩):r=.ok (xs,j):=by
 obtain ⟨f,rfl⟩:∃k,f=k+1:=⟨f - 1,by omega⟩
 rw [hI,paramsP,if_neg (show ¬peekP ws j=sOpn from h)];simp [pre1,rbind]
theorem params_fail1 (hI:r=pre1 xs (paramsP ws f j)) (hf:0 < f) (h:peekP ws j=⟨#[40]⟩) (he:paramP ws (j+1)=.error c):r=.error c:=by
 obtain ⟨f,rfl⟩:∃k,f=k+1:=⟨f - 1,by omega⟩
 rw [hI,paramsP,if_pos (show peekP ws j=sOpn from h),rbind_err he];rfl
theorem params_fail2 (hI:r=pre1 xs (paramsP ws f j)) (hf:0 < f) (h:peekP ws j=⟨#[40]⟩) (h1:paramP ws (j+1)=.ok p) (he:nextP ws ⟨#[41]⟩ p.2=.error c):r=.error c:=by
 obtain ⟨f,rfl⟩:∃k,f=k+1:=⟨f - 1,by omega⟩
 rw [hI,paramsP,if_pos (show peekP ws j=sOpn from h),rbind_eq h1,rbind_err (show nextP ws sCls p.2=_ from he)];rfl
theorem params_step (hI:r=pre1 xs (paramsP ws f j)) (hf:0 < f) (h:peekP ws j=⟨#[40]⟩) (h1:paramP ws (j+1)=.ok p) (h2:nextP ws ⟨#[41]⟩ p.2=.ok y):r=pre1 (xs++[p.1]) (paramsP ws (f - 1) y.2):=by
 obtain ⟨f,rfl⟩:∃k,f=k+1:=⟨f - 1,by omega⟩
 rw [hI,paramsP,if_pos (show peekP ws j=sOpn from h),rbind_eq h1,rbind_eq (show nextP ws sCls p.2=_ from h2),pre1_cons,Nat.add_sub_cancel]
end
theorem param_le {ws:List Bs} {i:Nat} {x:Param×Nat} (h:paramP ws i=.ok x):i < x.2∧x.2≤ws.length:=param_goes i x h
theorem data_le {ws:List Bs} {i:Nat} {x:Data×Nat} (h:dataP ws i=.ok x):i < x.2∧x.2≤ws.length:=data_goes i x h
theorem fun_le {ws:List Bs} {i:Nat} {x:Fun×Nat} (h:funP ws i=.ok x):i < x.2∧x.2≤ws.length:=fun_goes i x h
end Go.Sw

namespace Go.Sw
open Go.Proofs
def seqR:Code→Code
 | .seq _ y=>y
 | c=>c
section
variable {ws:List Bs} {f j n:Nat} {c:Core}
theorem decls_end (h:¬j < ws.length) (hf:0 < f):declsP ws f c j=.ok c:=by
 obtain ⟨f,rfl⟩:∃k,f=k+1:=⟨f - 1,by omega⟩
 rw [declsP,if_neg h]
theorem decls_data {x:Data×Nat} (h:j < ws.length) (hf:0 < f) (hk:peekP ws j=⟨#[100,97,116,97]⟩) (hx:dataP ws (j+1)=.ok x):declsP ws f c j=declsP ws (f - 1) { c with datas:=c.datas++[x.1] } x.2:=by
 obtain ⟨f,rfl⟩:∃k,f=k+1:=⟨f - 1,by omega⟩
 rw [declsP,if_pos h,if_pos (show peekP ws j=kData from hk),hx];rfl
theorem decls_dataE (h:j < ws.length) (hf:0 < f) (hk:peekP ws j=⟨#[100,97,116,97]⟩) (hx:dataP ws (j+1)=.error n):declsP ws f c j=.error n:=by
 obtain ⟨f,rfl⟩:∃k,f=k+1:=⟨f - 1,by omega⟩
 rw [declsP,if_pos h,if_pos (show peekP ws j=kData from hk),hx]
theorem decls_input {x:Param×Nat} (h:j < ws.length) (hf:0 < f) (h1:¬peekP ws j=⟨#[100,97,116,97]⟩) (hk:peekP ws j=⟨#[105,110,112,117,116]⟩) (hx:paramP ws (j+1)=.ok x):declsP ws f c j=declsP ws (f - 1) { c with inputs:=c.inputs++[x.1] } x.2:=by
 obtain ⟨f,rfl⟩:∃k,f=k+1:=⟨f - 1,by omega⟩
 rw [declsP,if_pos h,if_neg (show ¬peekP ws j=kData from h1),if_pos (show peekP ws j=kInput from hk),hx];rfl
theorem decls_inputE (h:j < ws.length) (hf:0 < f) (h1:¬peekP ws j=⟨#[100,97,116,97]⟩) (hk:peekP ws j=⟨#[105,110,112,117,116]⟩) (hx:paramP ws (j+1)=.error n):declsP ws f c j=.error n:=by
 obtain ⟨f,rfl⟩:∃k,f=k+1:=⟨f - 1,by omega⟩
 rw [declsP,if_pos h,if_neg (show ¬peekP ws j=kData from h1),if_pos (show peekP ws j=kInput from hk),hx]
theorem decls_fun {x:Fun×Nat} (h:j < ws.length) (hf:0 < f) (h1:¬peekP ws j=⟨#[100,97,116,97]⟩) (h2:¬peekP ws j=⟨#[105,110,112,117,116]⟩) (hk:peekP ws j=⟨#[102,117,110]⟩) (hx:funP ws (j+1)=.ok x):declsP ws f c j=declsP ws (f - 1) { c with funs:=c.funs++[x.1] } x.2:=by
 obtain ⟨f,rfl⟩:∃k,f=k+1:=⟨f - 1,by omega⟩
 rw [declsP,if_pos h,if_neg (show ¬peekP ws j=kData from h1),if_neg (show ¬peekP ws j=kInput from h2),if_pos (show peekP ws j=kFun from hk),hx];rfl
theorem decls_funE (h:j < ws.length) (hf:0 < f) (h1:¬peekP ws j=⟨#[100,97,116,97]⟩) (h2:¬peekP ws j=⟨#[105,110,112,117,116]⟩) (hk:peekP ws j=⟨#[102,117,110]⟩) (hx:funP ws (j+1)=.error n):declsP ws f c j=.error n:=by
 obtain ⟨f,rfl⟩:∃k,f=k+1:=⟨f - 1,by omega⟩
 rw [declsP,if_pos h,if_neg (show ¬peekP ws j=kData from h1),if_neg (show ¬peekP ws j=kInput from h2),if_pos (show peekP ws j=kFun from hk),hx]
theorem decls_out {x:Bs×Nat} (h:j < ws.length) (hf:0 < f) (h1:¬peekP ws j=⟨#[100,97,116,97]⟩) (h2:¬peekP ws j=⟨#[105,110,112,117,116]⟩) (h3:¬peekP ws j=⟨#[102,117,110]⟩) (hk:peekP ws j=⟨#[111,117,116,112,117,116]⟩) (hx:rname ws (j+1)=.ok x):declsP ws f c j=declsP ws (f - 1) { c with outputs:=c.outputs++[x.1] } x.2:=by
 obtain ⟨f,rfl⟩:∃k,f=k+1:=⟨f - 1,by omega⟩
 rw [declsP,if_pos h,if_neg (show ¬peekP ws j=kData from h1),if_neg (show ¬peekP ws j=kInput from h2),if_neg (show ¬peekP ws j=kFun from h3),if_pos (show peekP ws j=kOutput from hk),hx];rfl
theorem decls_outE (h:j < ws.length) (hf:0 < f) (h1:¬peekP ws j=⟨#[100,97,116,97]⟩) (h2:¬peekP ws j=⟨#[105,110,112,117,116]⟩) (h3:¬peekP ws j=⟨#[102,117,110]⟩) (hk:peekP ws j=⟨#[111,117,116,112,117,116]⟩) (hx:rname ws (j+1)=.error n):declsP ws f c j=.error n:=by
 obtain ⟨f,rfl⟩:∃k,f=k+1:=⟨f - 1,by omega⟩
 rw [declsP,if_pos h,if_neg (show ¬peekP ws j=kData from h1),if_neg (show ¬peekP ws j=kInput from h2),if_neg (show ¬peekP ws j=kFun from h3),if_pos (show peekP ws j=kOutput from hk),hx]
theorem decls_bad (h:j < ws.length) (hf:0 < f) (h1:¬peekP ws j=⟨#[100,97,116,97]⟩) (h2:¬peekP ws j=⟨#[105,110,112,117,116]⟩) (h3:¬peekP ws j=⟨#[102,117,110]⟩) (h4:¬peekP ws j=⟨#[111,117,116,112,117,116]⟩):declsP ws f c j=.error (j+1):=by
 obtain ⟨f,rfl⟩:∃k,f=k+1:=⟨f - 1,by omega⟩
 rw [declsP,if_pos h,if_neg (show ¬peekP ws j=kData from h1),if_neg (show ¬peekP ws j=kInput from h2),if_neg (show ¬peekP ws j=kFun from h3),if_neg (show ¬peekP ws j=kOutput from h4)]
end
end Go.Sw

namespace Go.Sw
section
variable {P:Program} {ops:Array Oper} {md:Region.Mode} {B:World→Prop} {kd:List Nat} {Qp:List PanicEntry→World→Prop} {D:List Deferred}
theorem wpAny_of_drI {Inv:Act→Prop} (hI:∀(i:Nat) (o:Oper) (a:Act) (v:Value),ops[i]? = some o→Inv a→Inv (a.put o.dst v)) {Q:Act→World→Prop} {Q':Exit→Act→World→Prop} (hQ:∀a w,Q a w→Q' .normal a w) (hp:∀c a w,Inv a→Qp c w→Q' (.panic c) a w) :
  ∀(n:Nat) (listed:Array Bool) (a:Act) (w:World),Inv a→((List.range ops.size).any (fun i=>kindOf kd i==2 && !listed.getD i true)=true→B w) →
   wpDr P md ops B kd Qp Q n listed a w→wpAny P md ops Q' n listed a w:=by
 intro n
 induction n with
 | zero=>intro listed a w _ _ h;exact ⟨h.1,hQ _ _ h.2⟩
 | succ n ih =>
  intro listed a w hd hB h
  refine ⟨fun h0=>hQ _ _ (h.1 h0),fun i hi =>?_⟩
  have hi':=mem_ready.1 hi
  have hsub:((List.range ops.size).any (fun k=>kindOf kd k==2 && !(listed.setIfInBounds i true).getD k true)=true→B w):=fun hx=>by
   apply hB
   rw [List.any_eq_true] at hx ⊢
   obtain ⟨k,hk1,hk2⟩:=hx
   simp only [Bool.and_eq_true,beq_iff_eq,Bool.not_eq_true'] at hk2
   refine ⟨k,hk1,?_⟩
   simp only [Bool.and_eq_true,beq_iff_eq,Bool.not_eq_true']
   refine ⟨hk2.1,?_⟩
   by_cases hki:i=k
   ·subst hki;exact hi'.1
   ·rw [getD_set_ne true hki] at hk2;exact hk2.2
  have h1:=h.2 i hi
  unfold drOp at h1
  unfold wpOp
  cases ho:ops[i]? with
  | none=>simp only [ho] at h1 ⊢;exact ih _ _ _ hd hsub h1
  | some o =>
   simp only [ho] at h1 ⊢
   by_cases hw:Region.wanted o (yielded ops a.tmps)=true
   ·rw [if_pos hw] at h1 ⊢
    refine .inl (wp_of_eff ?_)
    by_cases hk:kindOf kd i=0
    ·rw [if_pos hk] at h1
     refine effUpon_mono h1 (fun v w' hv=>ih _ _ _ (hI _ _ _ _ ho hd) (fun hx=>hv.1 ?_) hv.2) (fun c w' hc=>hp c a w' hd hc)
     rw [List.any_eq_true] at hx
     obtain ⟨k,hk1,hk2⟩:=hx
     simp only [Bool.and_eq_true,beq_iff_eq,Bool.not_eq_true'] at hk2
     unfold leans
     rw [List.any_eq_true]
     have hlt:k < kd.length:=by
      by_cases hlt:k < kd.length
      ·exact hlt
      ·have:=hk2.1
       simp [kindOf,List.getD_eq_getElem?_getD,List.getElem?_eq_none (Nat.le_of_not_lt hlt)] at this
     refine ⟨k,List.mem_range.2 hlt,?_⟩
     simp only [Bool.and_eq_true,beq_iff_eq,Bool.not_eq_true']
     refine ⟨hk2.1,?_⟩
     rw [← Bool.not_eq_true]
     intro hx
     obtain ⟨e,he,hb⟩:=Array.any_eq_true'.1 hx
     simp only [Bool.and_eq_true,beq_iff_eq] at hb
     obtain ⟨_,o',ho',hall⟩:=hi'
     rw [ho] at ho'
     cases ho'
     have hl:=hall e he hb.1
     rw [hb.2] at hl
     have hk3:=hk2.2
     by_cases hki:i=k
     ·subst hki
      have:=(mem_ready.1 hi).1
      rcases Nat.lt_or_ge i listed.size with h' | h'
      ·simp [h'] at hl this;rw [hl] at this;cases this
      ·simp [Array.getElem?_eq_none h'] at hl
     ·rw [getD_set_ne true hki] at hk3
      rcases Nat.lt_or_ge k listed.size with h' | h'
      ·simp [h'] at hl hk3;rw [hl] at hk3;cases hk3
      ·simp [Array.getElem?_eq_none h'] at hl
    ·rw [if_neg hk] at h1
     obtain ⟨v,h2,h3⟩:=h1
     have hr:=h2 w (fun e=>hB (by
      rw [List.any_eq_true]
      refine ⟨i,List.mem_range.2 (Array.getElem?_eq_some_iff.1 ho).1,?_⟩
      simp only [Bool.and_eq_true,beq_iff_eq,Bool.not_eq_true']
      exact ⟨e,hi'.1⟩))
     unfold Oper.eff
     rw [hr]
     exact ih _ _ _ (hI _ _ _ _ ho hd) hsub h3
   ·rw [if_neg hw] at h1 ⊢
    exact ih _ _ _ (hI _ _ _ _ ho hd) hsub h1
theorem wpAnyIn_of_drI {r:Option Nat} {m:Nat} (hnd:∀(i:Nat) (o:Oper),ops[i]? = some o→∀c,o.op≠.defer c) {Inv:Act→Prop} (hI:∀(i:Nat) (o:Oper) (a:Act) (v:Value),ops[i]? = some o→Inv a→Inv (a.put o.dst v)) {Q:Act→World→Prop} {Q':Exit→Act→World→Prop} (hQ:∀a w,Q a w→Q' .normal a w) (hp:∀c a w,Inv a→Qp c w→Q' (.panic c) a w) :
  ∀(n:Nat) (listed:Array Bool) (a:Act) (w:World),Inv a→((List.range ops.size).any (fun i=>kindOf kd i==2 && !listed.getD i true)=true→B w) →
   wpDr P md ops B kd Qp Q n listed a w→wpAnyIn (FO r) m P md ops Q' n listed a w:=by
 intro n
 induction n with
 | zero=>intro listed a w _ _ h;exact ⟨h.1,hQ _ _ h.2⟩
 | succ n ih =>
  intro listed a w hd hB h
  refine ⟨fun h0=>hQ _ _ (h.1 h0),fun i hi =>?_⟩
  have hi':=mem_ready.1 hi
  have hsub:((List.range ops.size).any (fun k=>kindOf kd k==2 && !(listed.setIfInBounds i true).getD k true)=true→B w):=fun hx=>by
   apply hB
   rw [List.any_eq_true] at hx ⊢
   obtain ⟨k,hk1,hk2⟩:=hx
   simp only [Bool.and_eq_true,beq_iff_eq,Bool.not_eq_true'] at hk2
   refine ⟨k,hk1,?_⟩
   simp only [Bool.and_eq_true,beq_iff_eq,Bool.not_eq_true']
   refine ⟨hk2.1,?_⟩
   by_cases hki:i=k
   ·subst hki;exact hi'.1
   ·rw [getD_set_ne true hki] at hk2;exact hk2.2
  have h1:=h.2 i hi
  unfold drOp at h1
  unfold wpOpIn
  cases ho:ops[i]? with
  | none=>simp only [ho] at h1 ⊢;exact ih _ _ _ hd hsub h1
  | some o =>
   simp only [ho] at h1 ⊢
   by_cases hw:Region.wanted o (yielded ops a.tmps)=true
   ·rw [if_pos hw] at h1 ⊢
    refine wpIn_of_eff (hnd _ _ ho) ?_
    by_cases hk:kindOf kd i=0
    ·rw [if_pos hk] at h1
     refine effUpon_mono h1 (fun v w' hv=>ih _ _ _ (hI _ _ _ _ ho hd) (fun hx=>hv.1 ?_) hv.2) (fun c w' hc=>hp c a w' hd hc)
     rw [List.any_eq_true] at hx
     obtain ⟨k,hk1,hk2⟩:=hx
     simp only [Bool.and_eq_true,beq_iff_eq,Bool.not_eq_true'] at hk2
     unfold leans
     rw [List.any_eq_true]
     have hlt:k < kd.length:=by
      by_cases hlt:k < kd.length
      ·exact hlt
      ·have:=hk2.1
       simp [kindOf,List.getD_eq_getElem?_getD,List.getElem?_eq_none (Nat.le_of_not_lt hlt)] at this
     refine ⟨k,List.mem_range.2 hlt,?_⟩
     simp only [Bool.and_eq_true,beq_iff_eq,Bool.not_eq_true']
     refine ⟨hk2.1,?_⟩
     rw [← Bool.not_eq_true]
     intro hx
     obtain ⟨e,he,hb⟩:=Array.any_eq_true'.1 hx
     simp only [Bool.and_eq_true,beq_iff_eq] at hb
     obtain ⟨_,o',ho',hall⟩:=hi'
     rw [ho] at ho'
     cases ho'
     have hl:=hall e he hb.1
     rw [hb.2] at hl
     have hk3:=hk2.2
     by_cases hki:i=k
     ·subst hki
      have:=(mem_ready.1 hi).1
      rcases Nat.lt_or_ge i listed.size with h' | h'
      ·simp [h'] at hl this;rw [hl] at this;cases this
      ·simp [Array.getElem?_eq_none h'] at hl
     ·rw [getD_set_ne true hki] at hk3
      rcases Nat.lt_or_ge k listed.size with h' | h'
      ·simp [h'] at hl hk3;rw [hl] at hk3;cases hk3
      ·simp [Array.getElem?_eq_none h'] at hl
    ·rw [if_neg hk] at h1
     obtain ⟨v,h2,h3⟩:=h1
     have hr:=h2 w (fun e=>hB (by
      rw [List.any_eq_true]
      refine ⟨i,List.mem_range.2 (Array.getElem?_eq_some_iff.1 ho).1,?_⟩
      simp only [Bool.and_eq_true,beq_iff_eq,Bool.not_eq_true']
      exact ⟨e,hi'.1⟩))
     unfold Oper.eff
     rw [hr]
     exact ih _ _ _ (hI _ _ _ _ ho hd) hsub h3
   ·rw [if_neg hw] at h1 ⊢
    exact ⟨fun f _=>FO.fn f,ih _ _ _ (hI _ _ _ _ ho hd) hsub h1⟩
end
theorem EnvR.keep {n:Nat} {E0:List (Nat×Value)} {D:List Deferred} {a:Act} {o:Oper} {v:Value} (he:EnvR n E0 D a) (ho:(match o.dst with | some d=>(get E0 d).isNone | none=>true)=true):EnvR n E0 D (a.put o.dst v):=by
 cases hd:o.dst with
 | none=>exact he
 | some d =>
  rw [hd] at ho
  refine ⟨by simp [Act.put,he.size],fun t u h =>?_,he.defs⟩
  have:t≠d:=fun e=>by subst e;simp only [h] at ho;cases ho
  simp only [Act.put]
  rw [Array.getElem?_setIfInBounds_ne (Ne.symm this)]
  exact he.env t u h
theorem region_planE {P:Program} {n:Nat} {E0:List (Nat×Value)} {D:List Deferred} {a:Act} {Φ:Fz} {K:List Res} {w:World} {id:Nat} {l:List Oper} {Q:Exit→Act→World→Prop} (kd:List Nat) (p:Plan) (K':List Res) (h0:EnvR n E0 D a) (hm:Mem Φ K w) (hw:P.follows .mixedOrders=true) (hB:planB l.toArray kd p=true) (hK:∀r∈K',r∈K)
  (ho:l.all (fun o=>match o.dst with | some d=>(get E0 d).isNone | none=>true)=true)
  (h:∀w,Mem Φ K w→wpPlan P .any l.toArray (Sees Φ K') kd (fun c w=>∀a,EnvR n E0 D a→Q (.panic c) a w) (Q .normal) p a w):(Code.region id l.toArray true).wp P Q a w:=by
 have hm':=hm.drew
 have h:=h _ hm'
 simp only [planB,Bool.and_eq_true,beq_iff_eq] at hB
 obtain ⟨⟨⟨hs,hev⟩,hl⟩,hok⟩:=hB
 refine wp_region_any hw (wpAny_of_drI (Inv:=EnvR n E0 D) (kd:=kd) (B:=Sees Φ K') (Qp:=fun c w=>∀a,EnvR n E0 D a→Q (.panic c) a w) (Q:=Q .normal) (fun i o a v hi he=>he.keep ?_) (fun _ _ h=>h) (fun c a w he h=>h a he) _ _ _ _ h0 (fun _=>⟨hm'.fz,fun r hr=>hm'.own r (hK r hr)⟩) ?_)
 ·have h1:l[i]? = some o:=by simpa using hi
  exact List.all_eq_true.1 ho o (List.mem_of_getElem? h1)
 ·have:=wpDr_of_plan hs p _ _ _ hev hok h
  rw [hl] at this
  exact this
theorem region_planIn {P:Program} {n m:Nat} {r:Option Nat} {E:List (Nat×Value)} {a:Act} {Φ:Fz} {K:List Res} {w:World} {id:Nat} {l:List Oper} {Q:Exit→Act→World→Prop} (kd:List Nat) (p:Plan) (K':List Res) (he:EnvR n E [] a) (hm:Mem Φ K w) (hw:P.follows .mixedOrders=true) (hB:planB l.toArray kd p=true) (hK:∀r∈K',r∈K)
  (ho:l.all (fun o=>match o.op with | .defer _=>false | _=>true)=true)
  (h:∀w,Mem Φ K w→wpPlan P .any l.toArray (Sees Φ K') kd (fun _ _=>False) (Q .normal) p a w):(Code.region id l.toArray true).wpIn (FO r) m P Q a w:=by
 have hm':=hm.drew
 have h:=h _ hm'
 simp only [planB,Bool.and_eq_true,beq_iff_eq] at hB
 obtain ⟨⟨⟨hs,hev⟩,hl⟩,hok⟩:=hB
 refine wpIn_region_any hw (wpAnyIn_of_drI (Inv:=fun _=>True) (kd:=kd) (B:=Sees Φ K') (Qp:=fun _ _=>False) (Q:=Q .normal) (fun i o hi c hc =>?_) (fun _ _ _ _ _ h=>h) (fun _ _ h=>h) (fun _ _ _ _ h=>h.elim) _ _ _ _ trivial (fun _=>⟨hm'.fz,fun r hr=>hm'.own r (hK r hr)⟩) ?_)
 ·have h1:l[i]? = some o:=by simpa using hi
  have h2:=List.all_eq_true.1 ho o (List.mem_of_getElem? h1)
  rw [hc] at h2;cases h2
 ·have:=wpDr_of_plan hs p _ _ _ hev hok h
  rw [hl] at this
  exact this
end Go.Sw

namespace Go.Sw
open Go.Proofs
theorem runB_all (p:Nat→Bool) (t:Bs):∀(f i j:Nat),j < runB p t f i→i+j < t.size∧p (byteAt t (i+j))=true
 | 0,i,j,h=>by simp [runB] at h
 | f+1,i,j,h=>by
  simp only [runB] at h
  split at h
  ·rename_i h1
   cases j with
   | zero=>exact h1
   | succ j =>
    have:=runB_all p t f (i+1) j (by omega)
    rw [show i+(j+1)=i+1+j by omega];exact this
  ·omega
theorem runB_end (p:Nat→Bool) (t:Bs):∀(f i:Nat),t.size≤i+f→i+runB p t f i < t.size→p (byteAt t (i+runB p t f i))=false
 | 0,i,h,h2=>by simp only [runB] at h2 ⊢;omega
 | f+1,i,h,h2=>by
  by_cases h1:i < t.size∧p (byteAt t i)=true
  ·have e:runB p t (f+1) i=runB p t f (i+1)+1:=by simp only [runB];rw [if_pos h1]
   rw [e] at h2 ⊢
   have:=runB_end p t f (i+1) (by omega) (by omega)
   rw [show i+(runB p t f (i+1)+1)=i+1+runB p t f (i+1) by omega];exact this
  ·have e:runB p t (f+1) i=0:=by simp only [runB];rw [if_neg h1]
   rw [e] at h2 ⊢
   cases hp:p (byteAt t (i+0)) with
   | false=>rfl
   | true=>exact absurd ⟨by omega,hp⟩ h1
theorem byte_eq (b k:UInt8):(b==k)=decide (b.toNat=k.toNat):=by
 rw [Bool.eq_iff_iff];simp [UInt8.toNat_inj]
theorem sep_contains (b:UInt8):([32,10,40,41]:List UInt8).contains b=sepB b.toNat:=by
 simp only [List.contains_cons,List.contains_nil,sepB,byte_eq,Bool.or_false]
 simp [Bool.or_assoc]
theorem ext_byte {t:Bs} {i j:Nat} (hi:i+j < t.size):(t.extract i t.size).data.toList[j]? = some t[i+j]:=by
 rw [Array.getElem?_toList]
 have h:=ByteArray.data_extract (a:=t) (b:=i) (e:=t.size)
 rw [h,Array.getElem?_extract]
 have:t.data.size=t.size:=rfl
 rw [if_pos (by omega),Array.getElem?_eq_getElem (by omega)]
 rfl
theorem byteAt_ix {t:Bs} {i:Nat} (h:i < t.size):byteAt t i=t[i].toNat:=by simp [byteAt,h]
theorem ext_none {t:Bs} {i:Nat} {x:UInt8} {j:Nat} (h:(t.extract i t.size).data.toList[j]? = some x):i+j < t.size:=by
 have h1:=(List.getElem?_eq_some_iff.1 h).1
 have h2:(t.extract i t.size).data.toList.length=(t.extract i t.size).size:=by rw [Array.length_toList];rfl
 have h3:=ByteArray.size_extract (a:=t) (b:=i) (e:=t.size)
 omega
theorem wordLen_le {t:Bs} {i:Nat} (h:i≤t.size):i+wordLen t i≤t.size:=runB_le _ t t.size i h
theorem any_words {t:Bs} {i:Nat} (hi:i≤t.size):Lib.indexAny (t.extract i t.size).data.toList [32,10,40,41]=if i+wordLen t i < t.size then ((wordLen t i:Nat):Int) else -1:=by
 have hN:∀n,n≤wordLen t i→Lib.NoAny (t.extract i t.size).data.toList [32,10,40,41] n:=fun n hn j b hj hb=>by
  have h1:=ext_none hb
  rw [ext_byte h1] at hb
  simp only [Option.some.injEq] at hb
  have h2:=(runB_all (fun c => !sepB c) t t.size i j (by unfold wordLen at hn;omega)).2
  rw [sep_contains,← hb,← byteAt_ix h1]
  simpa using h2
 split
 ·rename_i h
  have h2:=runB_end (fun c => !sepB c) t t.size i (by omega) h
  refine Lib.indexAny_hit (x:=t[i+wordLen t i]) (hN _ (Nat.le_refl _)) (ext_byte h) ?_
  rw [sep_contains,← byteAt_ix h]
  simpa [wordLen] using h2
 ·rename_i h
  refine Lib.indexAny_none ?_
  have h1:=wordLen_le hi
  have h2:(t.extract i t.size).data.toList.length=(t.extract i t.size).size:=by rw [Array.length_toList];rfl
  have h3:=ByteArray.size_extract (a:=t) (b:=i) (e:=t.size)
  exact hN _ (by omega)
def AscB (t:Bs):Prop:=∀(j:Nat) b,t.data.toList[j]? = some b→b.toNat < 128
theorem anyIx_ok {Φ:Fz} {K:List Res} {w:World} {t:Bs} {i:Nat} (ha:AscB t) (h2:t.size≤1000000) (hi:i≤t.size) (hm:Mem Φ K w) :
  Calls Tryz.prog 175 (List.toArray [.string (t.extract i t.size),.string ⟨#[32,10,40,41]⟩]) w (fun ee w'=>ee=.returned (.int .i64 (if i+wordLen t i < t.size then ((wordLen t i:Nat):Int) else -1))∧Mem Φ K w'):=by
 have h3:=ByteArray.size_extract (a:=t) (b:=i) (e:=t.size)
 refine (Tryz.strings_IndexAny_laid (t.extract i t.size) ⟨#[32,10,40,41]⟩ w (by omega) (by decide) (fun j b hb =>?_) (by
  intro j b hb
  have hl:(⟨#[32,10,40,41]⟩:ByteArray).data.toList=[32,10,40,41]:=rfl
  rw [hl] at hb
  have:=List.mem_of_getElem? hb
  simp only [List.mem_cons,List.not_mem_nil,or_false] at this
  rcases this with rfl | rfl | rfl | rfl <;> decide)).mono fun e w' he =>?_
 ·have h1:=ext_none hb
  rw [ext_byte h1] at hb
  refine ha (i+j) b ?_
  rw [← hb,Array.getElem?_toList]
  exact Array.getElem?_eq_getElem h1
 ·obtain ⟨rfl,hb⟩:=he
  refine ⟨?_,hm.below hb⟩
  rw [← any_words hi]
theorem word_neg {t:Bs} {i:Nat} (hi:i≤t.size) (h:(if i+wordLen t i < t.size then ((wordLen t i:Nat):Int) else -1) < 0):i+wordLen t i=t.size:=by
 have:=wordLen_le hi
 split at h <;> omega
theorem word_pos {t:Bs} {i:Nat} (h:¬(if i+wordLen t i < t.size then ((wordLen t i:Nat):Int) else -1) < 0):(if i+wordLen t i < t.size then ((wordLen t i:Nat):Int) else -1)=((wordLen t i:Nat):Int):=by
 split at h
 ·rename_i h1;rw [if_pos h1]
 ·omega
theorem words_end {t:Bs} {f i:Nat} (h:¬i < t.size):wordsP t f i=[]:=by cases f with
 | zero=>rfl
 | succ f=>rw [wordsP,if_neg h]
theorem words_sp {t:Bs} {f i:Nat} (h:i < t.size) (hf:t.size≤i+f) (hb:byteAt t i=32∨byteAt t i=10):wordsP t f i=wordsP t (f - 1) (i+1):=by
 obtain ⟨f,rfl⟩:∃k,f=k+1:=⟨f - 1,by omega⟩
 rw [wordsP,if_pos h,if_pos hb];rfl
theorem words_par {t:Bs} {f i:Nat} (h:i < t.size) (hf:t.size≤i+f) (hn:¬(byteAt t i=32∨byteAt t i=10)) (hb:byteAt t i=40∨byteAt t i=41):wordsP t f i=t.extract i (i+1)::wordsP t (f - 1) (i+1):=by
 obtain ⟨f,rfl⟩:∃k,f=k+1:=⟨f - 1,by omega⟩
 rw [wordsP,if_pos h,if_neg hn,if_pos hb];rfl
theorem words_word {t:Bs} {f i:Nat} (h:i < t.size) (hf:t.size≤i+f) (hn:¬(byteAt t i=32∨byteAt t i=10)) (hb:¬(byteAt t i=40∨byteAt t i=41)):wordsP t f i=t.extract i (i+wordLen t i)::wordsP t (f - 1) (i+wordLen t i):=by
 obtain ⟨f,rfl⟩:∃k,f=k+1:=⟨f - 1,by omega⟩
 rw [wordsP,if_pos h,if_neg hn,if_neg hb];rfl
theorem wordLen_pos {t:Bs} {i:Nat} (h:i < t.size) (hn:¬(byteAt t i=32∨byteAt t i=10)) (hb:¬(byteAt t i=40∨byteAt t i=41)):0 < wordLen t i:=by
 unfold wordLen
 rw [runB_step,if_pos]
 ·omega
 ·refine ⟨h,?_⟩
  simp only [sepB]
  simp only [not_or] at hn hb
  simp [hn.1,hn.2,hb.1,hb.2]
theorem words_sizes {t:Bs}:∀f i s,s∈wordsP t f i→s.size≤t.size
 | 0,i,s,h=>by cases h
 | f+1,i,s,h=>by
  have hx:∀a b,(t.extract a b).size≤t.size:=fun a b=>by have:=ByteArray.size_extract (a:=t) (b:=a) (e:=b);omega
  simp only [wordsP] at h
  split at h
  ·split at h
   ·exact words_sizes f _ s h
   ·split at h
    ·rcases List.mem_cons.1 h with rfl | h
     ·exact hx _ _
     ·exact words_sizes f _ s h
    ·rcases List.mem_cons.1 h with rfl | h
     ·exact hx _ _
     ·exact words_sizes f _ s h
  ·cases h
theorem words_count {t:Bs}:∀f i,(wordsP t f i).length≤f
 | 0,i=>by simp [wordsP]
 | f+1,i=>by
  simp only [wordsP]
  split
  ·split
   ·exact Nat.le_succ_of_le (words_count f _)
   ·split
    ·simpa using words_count f _
    ·simpa using words_count f _
  ·simp
theorem peek_size {ws:List Bs} {n:Nat} (h:∀s∈ws,s.size≤n) (j:Nat):(peekP ws j).size≤n:=by
 unfold peekP
 rw [List.getD_eq_getElem?_getD]
 cases hj:ws[j]? with
 | none=>exact Nat.zero_le _
 | some x=>exact h _ (List.mem_of_getElem? hj)
end Go.Sw

namespace Go.Sw
open Go.Proofs
set_option maxRecDepth 20000
set_option maxHeartbeats 4000000
theorem rpeek_ok {Φ:Fz} {K:List Res} {w:World} {r i:Nat} {rs:Value} {ws:List Bs} (rl:SliceOf RStr Φ 1 rs ws) (hws:ws.length≤1000000) (hi:i≤ws.length) (hm:Mem Φ (.blk r (ob [rs,.int .i64 ((i:Nat):Int)] 208)::K) w) :
  Calls Tryz.prog 179 (List.toArray [.pointer (some ⟨r,0,none⟩)]) w (fun ee w'=>ee=.returned (.string (peekP ws i))∧Mem Φ (.blk r (ob [rs,.int .i64 ((i:Nat):Int)] 208)::K) w'):=by
 obtain ⟨pw,cw,rfl,hmw,hnw⟩:=rl.fm
 refine Enter Tryz.func179 Tryz.ntmps179 fun Q hQ a he =>?_
 refine Reg [1,1,1,2,1,1,1,2,1,1] [0] he hm fun w hm a he =>?_
 refine go he hm fun a he =>?_
 by_cases h4:i < ws.length
 refine Reg [1,1,1,2,1,1,1,2,1,2,1] [0] he hm fun w hm a he =>?_
 refine go he hm fun a he =>?_
 obtain ⟨q6,rfl,x7,hx8,cs9,hl10,ha11,hr12⟩:=rl.el hnw h4
 obtain rfl:cs9=[.string x7]:=hr12
 refine Ret1 hQ he hm ?_
 rw [peek_at hx8];exact ⟨rfl,hm⟩
 refine Ret1 hQ he hm ?_
 rw [peek_end h4];exact ⟨rfl,hm⟩
theorem rfail_ok {Φ:Fz} {K:List Res} {w:World} {r i:Nat} {rs:Value} {ws:List Bs} (rl:SliceOf RStr Φ 1 rs ws) (hws:ws.length≤1000000) (hi:i≤ws.length) (hm:Mem Φ (.blk r (ob [rs,.int .i64 ((i:Nat):Int)] 208)::K) w) :
  Calls Tryz.prog 130 (List.toArray [.pointer (some ⟨r,0,none⟩)]) w (fun ee w'=>ee=.panicked (wrongR (i+1))∧Mem Φ K w'):=by
 obtain ⟨pw,cw,rfl,hmw,hnw⟩:=rl.fm
 refine Enter Tryz.func130 Tryz.ntmps130 fun Q hQ a he =>?_
 refine BldT1 he hm fun a he =>?_
 refine Qq he hm (fun a he =>?_) (o:=by exact fun _ _ _ he hs=>y_makeInterface he rfl Tryz.runUnderlying204 (by intro ms h;cases h))
 refine st0 he rfl rfl (eff_panic he rfl (run_panic _) (fun a hd=>hQ _ _ _ (wp_bodyPanic hd ?_)))
 replace hm:=hm.dl [0]
 exact ⟨rfl,hm⟩
theorem rtake_ok {Φ:Fz} {K:List Res} {w:World} {r i:Nat} {rs:Value} {ws:List Bs} {g:Nat} {fs cs:List Value} {p:Bs→Bool} (hg:∀args w,(callFunc g args).run Tryz.prog w=.ok (.enter g args) w)
  (hf:∀{w:World} (s:Bs),Mem Φ (.blk r (ob [rs,.int .i64 ((i:Nat):Int)] 208)::K) w→Calls Tryz.prog g (fs++[Value.string s]++cs).toArray w (fun ee w'=>ee=.returned (.bool (p s))∧Mem Φ (.blk r (ob [rs,.int .i64 ((i:Nat):Int)] 208)::K) w')) (rl:SliceOf RStr Φ 1 rs ws) (hws:ws.length≤1000000) (hi:i≤ws.length) (hm:Mem Φ (.blk r (ob [rs,.int .i64 ((i:Nat):Int)] 208)::K) w) :
  Calls Tryz.prog 181 (List.toArray [.pointer (some ⟨r,0,none⟩),.func (.func g) fs.toArray cs.toArray]) w (fun ee w'=>Out (takeP ws p i) (fun x=>ee=.returned (.string x.1)∧Mem Φ (.blk r (ob [rs,.int .i64 ((x.2:Nat):Int)] 208)::K) w') (fun c=>ee=.panicked (wrongR c)∧Mem Φ K w')):=by
 obtain ⟨pw,cw,rfl,hmw,hnw⟩:=rl.fm
 refine Enter Tryz.func181 Tryz.ntmps181 fun Q hQ a he =>?_
 refine CallR Tryz.call179 he hm (fun w hm a he =>?_) (c:=rpeek_ok (i:=i) rl hws (by omega) hm)
 refine go he hm fun a he =>?_
 by_cases h5:(peekP ws i)=(⟨#[]⟩:ByteArray)
 refine go he hm fun a he =>?_
 refine st he rfl rfl rfl (eff_callZ he rfl Tryz.call130 (rfail_ok (i:=i) rl hws (by omega) hm) (fun w hm=>fun a hd=>hQ _ _ _ (wp_bodyPanic hd ?_)))
 show Out (takeP ws p i) _ _
 rw [takeP_no h5];exact ⟨rfl,hm⟩
 refine FunB hg he hm (fun hB6 w hm a he =>?_) (fun hB6 w hm a he =>?_) (c:=by exact hf _ hm)
 refine go he hm fun a he =>?_
 have hlt_:=peek_lt h5
 refine Sto 0 he hm fun w hm a he =>?_
 refine Ret1 hQ he hm ?_
 show Out (takeP ws p i) _ _
 rw [takeP_ok h5 hB6];exact ⟨rfl,hm⟩
 refine go he hm fun a he =>?_
 refine st he rfl rfl rfl (eff_callZ he rfl Tryz.call130 (rfail_ok (i:=i) rl hws (by omega) hm) (fun w hm=>fun a hd=>hQ _ _ _ (wp_bodyPanic hd ?_)))
 show Out (takeP ws p i) _ _
 rw [takeP_bad hB6];exact ⟨rfl,hm⟩
theorem next1_ok {Φ:Fz} {K:List Res} {w:World} {b:Nat} {s x:Bs} (hm:Mem Φ (.blk b (ob [.string x] 9)::K) w) :
  Calls Tryz.prog 204 (List.toArray [.string s,.pointer (some ⟨b,0,none⟩)]) w (fun ee w'=>ee=.returned (.bool (decide (s=x)))∧Mem Φ (.blk b (ob [.string x] 9)::K) w'):=by
 refine Enter Tryz.func204 Tryz.ntmps204 fun Q hQ a he =>?_
 refine Qq he hm (fun a he =>?_) (o:=by exact fun _ _ _ he hs=>y_seqlD he rfl rfl)
 refine Ret1 hQ he hm ?_
 exact ⟨rfl,hm⟩
theorem rnext_ok {Φ:Fz} {K:List Res} {w:World} {r i:Nat} {rs:Value} {ws:List Bs} {x:Bs} (rl:SliceOf RStr Φ 1 rs ws) (hws:ws.length≤1000000) (hi:i≤ws.length) (hm:Mem Φ (.blk r (ob [rs,.int .i64 ((i:Nat):Int)] 208)::K) w) :
  Calls Tryz.prog 177 (List.toArray [.pointer (some ⟨r,0,none⟩),.string x]) w (fun ee w'=>Out (nextP ws x i) (fun x=>ee=.returned (.tuple #[])∧Mem Φ (.blk r (ob [rs,.int .i64 ((x.2:Nat):Int)] 208)::K) w') (fun c=>ee=.panicked (wrongR c)∧Mem Φ K w')):=by
 obtain ⟨pw,cw,rfl,hmw,hnw⟩:=rl.fm
 refine Enter Tryz.func177 Tryz.ntmps177 fun Q hQ a he =>?_
 refine Bx he hm fun b2 w hm a he =>?_
 replace hm:=hm.ar [] [1,1,1]
 refine CallE hQ Tryz.call181 he hm (fun q3 w hq4 hm a he =>?_) (fun q3 w hq4 hm =>?_) (c:=rtake_ok (p:=fun s=>decide (s=x)) (fs:=[]) (cs:=[.pointer (some ⟨b2,0,none⟩)]) Tryz.call204 (fun s hm=>(next1_ok (hm.pull (i:=1) rfl)).mono fun _ _ h=>⟨h.1,h.2.pull (i:=1) rfl⟩) (i:=i) rl hws (by omega) hm)
 have hleq3:=takeP_le hq4
 refine go he hm fun a he =>?_
 replace hm:=hm.dl [1]
 refine hQ _ _ _ (ret0N he Tryz.results177 ?_)
 show Out (nextP ws x i) _ _
 rw [nextP_ok hq4];exact ⟨rfl,hm⟩
 replace hm:=hm.dl [0]
 show Out (nextP ws x i) _ _
 rw [nextP_err hq4];exact ⟨rfl,hm⟩
theorem rcon_ok {Φ:Fz} {K:List Res} {w:World} {r i:Nat} {rs:Value} {ws:List Bs} (G:Glob Φ) (rl:SliceOf RStr Φ 1 rs ws) (hws:ws.length≤1000000) (hi:i≤ws.length) (hm:Mem Φ (.blk r (ob [rs,.int .i64 ((i:Nat):Int)] 208)::K) w) :
  Calls Tryz.prog 176 (List.toArray [.pointer (some ⟨r,0,none⟩)]) w (fun ee w'=>Out (rcon ws i) (fun x=>ee=.returned (.string x.1)∧Mem Φ (.blk r (ob [rs,.int .i64 ((x.2:Nat):Int)] 208)::K) w') (fun c=>ee=.panicked (wrongR c)∧Mem Φ K w')):=by
 obtain ⟨pw,cw,rfl,hmw,hnw⟩:=rl.fm
 refine Enter Tryz.func176 Tryz.ntmps176 fun Q hQ a he =>?_
 refine CallE hQ Tryz.call181 he hm (fun q3 w hq4 hm a he =>?_) (fun q3 w hq4 hm =>?_) (c:=rtake_ok (p:=isConP) (fs:=[]) (cs:=[]) Tryz.call178 (fun s hm=>isCon_ok G hm) (i:=i) rl hws (by omega) hm)
 have hleq3:=takeP_le hq4
 refine Ret1 hQ he hm ?_
 show Out (rcon ws i) _ _
 rw [show rcon ws i=.ok q3 from hq4];exact ⟨rfl,hm⟩
 show Out (rcon ws i) _ _
 rw [show rcon ws i=_ from hq4];exact ⟨rfl,hm⟩
theorem rname_ok {Φ:Fz} {K:List Res} {w:World} {r i:Nat} {rs:Value} {ws:List Bs} (G:Glob Φ) (rl:SliceOf RStr Φ 1 rs ws) (hws:ws.length≤1000000) (hi:i≤ws.length) (hm:Mem Φ (.blk r (ob [rs,.int .i64 ((i:Nat):Int)] 208)::K) w) :
  Calls Tryz.prog 129 (List.toArray [.pointer (some ⟨r,0,none⟩)]) w (fun ee w'=>Out (rname ws i) (fun x=>ee=.returned (.string x.1)∧Mem Φ (.blk r (ob [rs,.int .i64 ((x.2:Nat):Int)] 208)::K) w') (fun c=>ee=.panicked (wrongR c)∧Mem Φ K w')):=by
 obtain ⟨pw,cw,rfl,hmw,hnw⟩:=rl.fm
 refine Enter Tryz.func129 Tryz.ntmps129 fun Q hQ a he =>?_
 refine CallE hQ Tryz.call181 he hm (fun q3 w hq4 hm a he =>?_) (fun q3 w hq4 hm =>?_) (c:=rtake_ok (p:=isNameP) (fs:=[]) (cs:=[]) Tryz.call138 (fun s hm=>isName_ok G hm) (i:=i) rl hws (by omega) hm)
 have hleq3:=takeP_le hq4
 refine Ret1 hQ he hm ?_
 show Out (rname ws i) _ _
 rw [show rname ws i=.ok q3 from hq4];exact ⟨rfl,hm⟩
 show Out (rname ws i) _ _
 rw [show rname ws i=_ from hq4];exact ⟨rfl,hm⟩
theorem integer_ok {Φ:Fz} {K:List Res} {w:World} {s:Bs} (hs:s.size≤1000000) (G:Glob Φ) (hm:Mem Φ K w) :
  Calls Tryz.prog 205 (List.toArray [.string s]) w (fun ee w'=>∃y:Int,ee=.returned (.tuple (List.toArray [.int .i64 y,.bool (intP s).isSome]))∧(∀v,intP s=some v→y=v)∧Mem Φ K w'):=by
 refine Enter Tryz.func205 Tryz.ntmps205 fun Q hQ a he =>?_
 refine go he hm fun a he =>?_
 refine st he rfl rfl rfl (eff_callV he rfl Tryz.call217 (atoi_ok (by exact hs) G hm) (fun q3 w hq5 hm a he =>?_) (fun q3 y4 w hq5 hm a he =>?_))
 replace hm:=hm.nf
 refine Qq he hm (fun a he =>?_) (o:=by exact fun _ _ _ he hs=>y_bin (v:=.bool true) he rfl rfl rfl (by kernel_rfl))
 refine CallR Tryz.call122 he hm (fun w hm a he =>?_) (c:=itoa_ok (atoi_i64 hq5) G.tabs hm)
 refine Qq he hm (fun a he =>?_) (o:=by exact fun _ _ _ he hs=>y_seqlD he rfl rfl)
 refine Ret2 hQ he hm ?_
 by_cases hd_:itoaP q3=s
 rw [intP_some hq5 hd_,decide_eq_true hd_];exact ⟨_,rfl,(fun v h=>by injection h),hm⟩
 rw [intP_ne hq5 hd_,decide_eq_false hd_];exact ⟨_,rfl,(fun v h=>by cases h),hm⟩
 replace hm:=hm.nf
 refine Qq he hm (fun a he =>?_) (o:=by exact fun _ _ _ he hs=>y_bin (v:=.bool false) he rfl rfl rfl (by kernel_rfl))
 refine Ret2 hQ he hm ?_
 rw [intP_err hq5];exact ⟨_,rfl,(fun v h=>by cases h),hm⟩
end Go.Sw

namespace Go.Sw
open Go.Proofs
set_option maxRecDepth 20000
set_option maxHeartbeats 4000000
theorem rtwo_ok {Φ:Fz} {K:List Res} {w:World} {r i:Nat} {rs:Value} {ws:List Bs} {d:Nat} (hd:d≤1000) (hE:ExprOk ws d) (G:Glob Φ) (rl:SliceOf RStr Φ 1 rs ws) (hws:ws.length≤1000000) (hi:i≤ws.length) (hm:Mem Φ (.blk r (ob [rs,.int .i64 ((i:Nat):Int)] 208)::K) w) :
  Calls Tryz.prog 218 (List.toArray [.pointer (some ⟨r,0,none⟩),.int .i64 ((d+1:Nat):Int)]) w (fun ee w'=>Out (twoP (exprP ws d) i) (fun x=>∃y:Fz×Value,ee=.returned y.2∧(Φ.Le y.1∧SliceOf REx y.1 5 y.2 x.1)∧Mem y.1 (.blk r (ob [rs,.int .i64 ((x.2:Nat):Int)] 208)::K) w') (fun c=>ee=.panicked (wrongR c)∧Mem Φ K w')):=by
 obtain ⟨pw,cw,rfl,hmw,hnw⟩:=rl.fm
 refine Enter Tryz.func218 Tryz.ntmps218 fun Q hQ a he =>?_
 refine Qq he hm (fun a he =>?_) (o:=by exact fun _ _ _ he hs=>y_sub ((d:Nat):Int) he rfl rfl (by rw [wrap64 (by omega)];omega))
 refine CallX hQ Tryz.call180 he hm (fun q3 y4 w hq5 hG6 hm a he =>?_) (fun q3 w hq5 hm =>?_) (c:=hE G rl (i:=i) (by omega) hm)
 obtain ⟨Ψ7,d8⟩:=y4
 obtain ⟨le9,hr10⟩:=hG6
 simp only at le9 hr10 hm he
 have hgo11:=expr_goes d _ _ hq5
 replace rl:=rl.up le9
 replace G:=G.mono le9
 replace hm:=hm.nf
 obtain ⟨p14,c15,p20,c21,rfl,hi24,h13,h19,hm16,hn17,hm22,hn23⟩:=REx.fm hr10
 refine Alc he hm fun b25 w hm a he =>?_
 refine Sto 0 he hm fun w hm a he =>?_
 refine Reg [2,1,1,1,0,0,1] [0] he hm fun w hm a he =>?_
 refine Qq he hm (fun a he =>?_) (o:=by exact fun _ _ _ he hs=>y_sub ((d:Nat):Int) he rfl rfl (by rw [wrap64 (by omega)];omega))
 replace hm:=hm.pl 1
 refine CallX hQ Tryz.call180 he hm (fun q27 y28 w hq29 hG30 hm a he =>?_) (fun q27 w hq29 hm =>?_) (c:=hE G rl (i:=q3.2) (by omega) hm)
 obtain ⟨Ψ31,d32⟩:=y28
 obtain ⟨le33,hr34⟩:=hG30
 simp only at le33 hr34 hm he
 have hgo35:=expr_goes d _ _ hq29
 replace G:=G.mono le33
 replace hr10:=REx.mono _ _ _ _ le33 hr10
 replace hm:=hm.nf
 obtain ⟨p38,c39,p44,c45,rfl,hi48,h37,h43,hm40,hn41,hm46,hn47⟩:=REx.fm hr34
 refine BldS he hm fun v49 w hm a he =>?_
 refine go he hm fun a he =>?_
 have hm0_:=hm
 clear hm
 obtain ⟨Ψ50,le51,hm,hrow52⟩:=hm0_.freezeRow (i:=0) rfl
 clear hm0_
 replace G:=G.mono le51
 replace hr10:=REx.mono _ _ _ _ le51 hr10
 replace hr34:=REx.mono _ _ _ _ le51 hr34
 replace hm:=hm.nf
 have hsl53:SliceOf REx Ψ50 5 _ ([q3.1,q27.1]):=⟨_,hrow52,(Chunks.two (k:=5) rfl hr10 rfl hr34 :)⟩
 obtain ⟨p54,c55,hv_,hm56,hn57⟩:=hsl53.form (by decide)
 have hmk_:=hm
 clear hm
 subst hv_
 have hm:=hmk_
 clear hmk_
 replace hm:=hm.dl [1]
 refine Ret1 hQ he hm ?_
 show Out (twoP (exprP ws d) i) _ _
 rw [show twoP (exprP ws d) i=.ok ([q3.1,q27.1],q27.2) from (rbind_eq hq5).trans ((rbind_eq hq29).trans (rfl))]
 exact ⟨(Ψ50,_),rfl,⟨((le9).trans le33).trans le51,hsl53⟩,hm⟩
 replace hm:=hm.dl [0]
 show Out (twoP (exprP ws d) i) _ _
 rw [show twoP (exprP ws d) i=.error _ from (rbind_eq hq5).trans (rbind_err hq29)]
 exact ⟨rfl,hm.le (le9)⟩
 show Out (twoP (exprP ws d) i) _ _
 rw [show twoP (exprP ws d) i=.error _ from rbind_err hq5]
 exact ⟨rfl,hm.le (Fz.Le.refl _)⟩
theorem rlist_ok {Φ:Fz} {K:List Res} {w:World} {r i:Nat} {rs:Value} {ws:List Bs} {m:Nat} {d:Nat} (hd:d≤1000) (hE:ExprOk ws d) (G:Glob Φ) (rl:SliceOf RStr Φ 1 rs ws) (hws:ws.length≤1000000) (hi:i≤ws.length) (hm:Mem Φ (.blk r (ob [rs,.int .i64 ((i:Nat):Int)] 208)::K) w) :
  Calls Tryz.prog 219 (List.toArray [.pointer (some ⟨r,0,none⟩),.int .i64 ((m:Nat):Int),.int .i64 ((d+1:Nat):Int)]) w (fun ee w'=>Out (listP ws (exprP ws d) (ws.length+1) m i) (fun x=>∃y:Fz×Value,ee=.returned y.2∧(Φ.Le y.1∧SliceOf REx y.1 5 y.2 x.1)∧Mem y.1 (.blk r (ob [rs,.int .i64 ((x.2:Nat):Int)] 208)::K) w') (fun c=>ee=.panicked (wrongR c)∧Mem Φ K w')):=by
 obtain ⟨pw,cw,rfl,hmw,hnw⟩:=rl.fm
 refine Enter Tryz.func219 Tryz.ntmps219 fun Q hQ a he =>?_
 refine go he hm fun a he =>?_
 replace hm:=hm.nilRow 66 5
 replace hm:=hm.nf
 refine loopK (he.ks [0,1,2]) hm (fun R mm a w=>∃(Ψ4:Fz) (j:Nat) (u:Value) (cs:List Value) (xs:List Ex) (f:Nat),mm=ws.length - j∧R Ψ4 [(7,u)] [(0,.gs (u) 66 5 cs),(1,.blk r (ob [.slice pw ws.length cw,.int .i64 ((j:Nat):Int)] 208))] a w∧(Φ.Le Ψ4∧(Chunks (REx Ψ4) 5 cs xs∧xs.length≤j∧j≤ws.length∧xs.length+f=ws.length+1∧listP ws (exprP ws d) (ws.length+1) m i=pre1 xs (listP ws (exprP ws d) f (m - xs.length) j)))) (ws.length - i) ⟨Φ,i,.slice none 0 0,[],[],ws.length+1,rfl,⟨he.pk,hm⟩,⟨Fz.Le.refl _,⟨rfl,Nat.zero_le _,hi,Nat.zero_add _,pre1_nil _⟩⟩⟩ ?_
 clear hm he
 rintro mm a w ⟨Ψ4,j,u,cs,xs,f,hmu,⟨he,hm⟩,hI7⟩ L6 hL6
 replace hm:=hm.nf
 obtain ⟨le5,hI7⟩:=hI7
 replace rl:=rl.up le5
 replace G:=G.mono le5
 obtain ⟨hch,hxl,hj,hf_,hI_⟩:=hI7
 refine Qq he hm (fun a he =>?_) (o:=by exact fun _ _ _ he hs=>y_len_gs 0 (xs.length) he hs rfl rfl (hch.length) (by decide) Tryz.runUnderlying63)
 refine go he hm fun a he =>?_
 by_cases h10:xs.length < m
 refine Qq he hm (fun a he =>?_) (o:=by exact fun _ _ _ he hs=>y_sub ((d:Nat):Int) he rfl rfl (by rw [wrap64 (by omega)];omega))
 replace hm:=hm.pl 1
 refine CallX hQ Tryz.call180 he hm (fun q11 y12 w hq13 hG14 hm a he =>?_) (fun q11 w hq13 hm =>?_) (c:=hE G rl (i:=j) (by omega) hm)
 obtain ⟨Ψ15,d16⟩:=y12
 obtain ⟨le17,hr18⟩:=hG14
 simp only at le17 hr18 hm he
 have hgo19:=expr_goes d _ _ hq13
 replace rl:=rl.up le17
 replace G:=G.mono le17
 replace hch:=hch.mono fun _ _ h=>REx.mono _ _ _ _ le17 h
 replace hm:=hm.nf
 obtain ⟨p22,c23,p28,c29,rfl,hi32,h21,h27,hm24,hn25,hm30,hn31⟩:=REx.fm hr18
 refine BldS he hm fun v33 w hm a he =>?_
 refine App_ 2 rt_63 he hm (fun v34 w hm a he =>?_)
 refine go he hm fun a he =>?_
 replace hm:=hm.ar [0] [1]
 refine hL6 _ _ _ (by subst hmu;omega) ⟨(Ψ15),(q11.2),(v34),((cs++[.int .i64 (q11.1.kind),.int .i64 (q11.1.num),.string q11.1.name,.slice p22 q11.1.args.length c23,.slice p28 q11.1.arms.length c29])),(xs++[q11.1]),(f - 1),rfl,⟨he.pk,by exact hm⟩,?_⟩
 refine ⟨(le5).trans le17,?_⟩
 exact ⟨hch.snoc rfl hr18,by simp only [List.length_append,List.length_cons,List.length_nil];omega,by omega,by simp only [List.length_append,List.length_cons,List.length_nil];omega,list_step hI_ (by omega) (.inl h10) hq13⟩
 replace hm:=hm.dl [0]
 show Out (listP ws (exprP ws d) (ws.length+1) m i) _ _
 rw [show listP ws (exprP ws d) (ws.length+1) m i=.error _ from list_fail hI_ (by omega) (.inl h10) hq13]
 exact ⟨rfl,hm.le (le5)⟩
 replace hm:=hm.pl 1
 refine CallR Tryz.call179 he hm (fun w hm a he =>?_) (c:=rpeek_ok (i:=j) rl hws (by omega) hm)
 by_cases h35:(peekP ws j)=(⟨#[41]⟩:ByteArray)
 refine go he hm fun a he =>?_
 have hm0_:=hm
 clear hm
 obtain ⟨Ψ37,le38,hm,hrow39⟩:=hm0_.freezeRow (i:=1) rfl
 clear hm0_
 replace rl:=rl.up le38
 replace G:=G.mono le38
 replace hch:=hch.mono fun _ _ h=>REx.mono _ _ _ _ le38 h
 replace hm:=hm.nf
 have hsl40:SliceOf REx Ψ37 5 _ (xs):=⟨_,hrow39,hch⟩
 obtain ⟨p41,c42,hv_,hm43,hn44⟩:=hsl40.form (by decide)
 have hmk_:=hm
 clear hm
 subst hv_
 have hm:=hmk_
 clear hmk_
 refine Ret1 hQ he hm ?_
 show Out (listP ws (exprP ws d) (ws.length+1) m i) _ _
 rw [show listP ws (exprP ws d) (ws.length+1) m i=.ok (xs,j) from list_fin hI_ (by omega) h10 h35]
 exact ⟨(Ψ37,_),rfl,⟨(le5).trans le38,hsl40⟩,hm⟩
 refine Qq he hm (fun a he =>?_) (o:=by exact fun _ _ _ he hs=>y_sub ((d:Nat):Int) he rfl rfl (by rw [wrap64 (by omega)];omega))
 refine CallX hQ Tryz.call180 he hm (fun q45 y46 w hq47 hG48 hm a he =>?_) (fun q45 w hq47 hm =>?_) (c:=hE G rl (i:=j) (by omega) hm)
 obtain ⟨Ψ49,d50⟩:=y46
 obtain ⟨le51,hr52⟩:=hG48
 simp only at le51 hr52 hm he
 have hgo53:=expr_goes d _ _ hq47
 replace G:=G.mono le51
 replace hch:=hch.mono fun _ _ h=>REx.mono _ _ _ _ le51 h
 replace hm:=hm.nf
 obtain ⟨p56,c57,p62,c63,rfl,hi66,h55,h61,hm58,hn59,hm64,hn65⟩:=REx.fm hr52
 refine BldS he hm fun v67 w hm a he =>?_
 refine App_ 2 rt_63 he hm (fun v68 w hm a he =>?_)
 refine go he hm fun a he =>?_
 replace hm:=hm.ar [0] [1]
 refine hL6 _ _ _ (by subst hmu;omega) ⟨(Ψ49),(q45.2),(v68),((cs++[.int .i64 (q45.1.kind),.int .i64 (q45.1.num),.string q45.1.name,.slice p56 q45.1.args.length c57,.slice p62 q45.1.arms.length c63])),(xs++[q45.1]),(f - 1),rfl,⟨he.pk,by exact hm⟩,?_⟩
 refine ⟨(le5).trans le51,?_⟩
 exact ⟨hch.snoc rfl hr52,by simp only [List.length_append,List.length_cons,List.length_nil];omega,by omega,by simp only [List.length_append,List.length_cons,List.length_nil];omega,list_step hI_ (by omega) (.inr h35) hq47⟩
 replace hm:=hm.dl [0]
 show Out (listP ws (exprP ws d) (ws.length+1) m i) _ _
 rw [show listP ws (exprP ws d) (ws.length+1) m i=.error _ from list_fail hI_ (by omega) (.inr h35) hq47]
 exact ⟨rfl,hm.le (le5)⟩
end Go.Sw

namespace Go.Sw
open Go.Proofs
set_option maxRecDepth 20000
set_option maxHeartbeats 4000000
theorem rform_ok {Φ:Fz} {K:List Res} {w:World} {r i:Nat} {rs:Value} {ws:List Bs} {d:Nat} (hd:d≤1000) (hE:ExprOk ws d) (G:Glob Φ) (rl:SliceOf RStr Φ 1 rs ws) (hws:ws.length≤1000000) (hi:i≤ws.length) (hm:Mem Φ (.blk r (ob [rs,.int .i64 ((i:Nat):Int)] 208)::K) w) :
  Calls Tryz.prog 206 (List.toArray [.pointer (some ⟨r,0,none⟩),.int .i64 ((d+1:Nat):Int)]) w (fun ee w'=>Out (formP ws (exprP ws d) i) (fun x=>∃y:Fz×List Value,ee=.returned (.agg y.2.toArray)∧(Φ.Le y.1∧REx y.1 y.2 x.1)∧Mem y.1 (.blk r (ob [rs,.int .i64 ((x.2:Nat):Int)] 208)::K) w') (fun c=>ee=.panicked (wrongR c)∧Mem Φ K w')):=by
 obtain ⟨pw,cw,rfl,hmw,hnw⟩:=rl.fm
 refine Enter Tryz.func206 Tryz.ntmps206 fun Q hQ a he =>?_
 refine sq fun L1 hL1 =>?_
 refine go0 he hm fun a he =>?_
 refine Alc he hm fun b2 w hm a he =>?_
 refine go0 he hm fun a he =>?_
 refine hL1 _ _ ?_
 refine sq fun L3 hL3 =>?_
 refine go0 he hm fun a he =>?_
 replace hm:=hm.pl 1
 refine CallR Tryz.call179 he hm (fun w hm a he =>?_) (c:=rpeek_ok (i:=i) rl hws (by omega) hm)
 refine go0 he hm fun a he =>?_
 refine hL3 _ _ ?_
 refine sq fun L4 hL4 =>?_
 refine sq fun L5 hL5 =>?_
 refine go0 he hm fun a he =>?_
 refine hL5 _ _ ?_
 refine go0 he hm fun a he =>?_
 refine sq fun L6 hL6 =>?_
 have hJ7:∀a w,(EnvR 125 [(0,.pointer (some ⟨r,0,none⟩)),(1,.int .i64 ((d+1:Nat):Int)),(4,.pointer (some ⟨b2,0,none⟩)),(5,.string (peekP ws i)),(12,.string (peekP ws i)),(13,.bool (isOpB (peekP ws i)))] [] a∧Mem Φ (.blk r (ob [.slice pw ws.length cw,.int .i64 ((i:Nat):Int)] 208)::.blk b2 (ob [.int .i64 ((0:Nat):Int),.int .i64 ((0:Nat):Int),.string ⟨#[]⟩,.slice none 0 0,.slice none 0 0] 66)::K) w∧(True))→L6 a w:=by
  clear hm he
  rintro a w ⟨he,hm,hI8⟩
  refine hL6 _ _ ?_
  generalize hb10:(isOpB (peekP ws i))=bb9 at he
  cases bb9
  refine go0 he hm fun a he =>?_
  refine sq fun L11 hL11 =>?_
  refine go0 he hm fun a he =>?_
  by_cases h12:(peekP ws i)=(⟨#[108,101,116]⟩:ByteArray)
  refine go0 he hm fun a he =>?_
  refine hL11 _ _ ?_
  refine go0 he hm fun a he =>?_
  refine sq fun L13 hL13 =>?_
  refine go0 he hm fun a he =>?_
  have hlt_:=peek_eq_lt h12 (by decide)
  refine go0 he hm fun a he =>?_
  refine Sto 0 he hm fun w hm a he =>?_
  refine go0 he hm fun a he =>?_
  refine hL13 _ _ ?_
  refine sq fun L14 hL14 =>?_
  refine go0 he hm fun a he =>?_
  refine CallE hQ Tryz.call129 he hm (fun q15 w hq16 hm a he =>?_) (fun q15 w hq16 hm =>?_) (c:=rname_ok G (i:=(i+1)) rl hws (by omega) hm)
  have hleq15:=takeP_le hq16
  refine go0 he hm fun a he =>?_
  refine hL14 _ _ ?_
  refine sq fun L17 hL17 =>?_
  refine go0 he hm fun a he =>?_
  refine CallX hQ Tryz.call218 he hm (fun q18 y19 w hq20 hG21 hm a he =>?_) (fun q18 w hq20 hm =>?_) (c:=rtwo_ok hd hE G (i:=q15.2) rl hws (by omega) hm)
  obtain ⟨Ψ22,d23⟩:=y19
  obtain ⟨le24,hr25⟩:=hG21
  simp only at le24 hr25 hm he
  have hgo26:=two_le hq20
  replace rl:=rl.up le24
  replace G:=G.mono le24
  replace hm:=hm.nf
  obtain ⟨p27,c28,rfl,hmx29,hn30⟩:=hr25.fm
  refine BldT1 he hm fun a he =>?_
  refine Sto 1 he hm fun w hm a he =>?_
  refine go0 he hm fun a he =>?_
  refine hL17 _ _ ?_
  refine go0 he hm fun a he =>?_
  have hmr:=hm
  replace hm:=hm.dl [1]
  refine RetA hQ he hmr ?_
  show Out (formP ws (exprP ws d) i) _ _
  rw [show formP ws (exprP ws d) i=.ok (.mk 6 0 q15.1 q18.1 [],q18.2) from (form_let hb10 h12).trans ((rbind_eq hq16).trans ((rbind_eq hq20).trans (rfl)))]
  exact ⟨(Ψ22,_),rfl,⟨le24,REx.node hr25⟩,hm⟩
  replace hm:=hm.dl [0]
  show Out (formP ws (exprP ws d) i) _ _
  rw [show formP ws (exprP ws d) i=.error _ from (form_let hb10 h12).trans ((rbind_eq hq16).trans (rbind_err hq20))]
  exact ⟨rfl,hm.le (Fz.Le.refl _)⟩
  replace hm:=hm.dl [0]
  show Out (formP ws (exprP ws d) i) _ _
  rw [show formP ws (exprP ws d) i=.error _ from (form_let hb10 h12).trans (rbind_err hq16)]
  exact ⟨rfl,hm.le (Fz.Le.refl _)⟩
  refine go0 he hm fun a he =>?_
  refine hL11 _ _ ?_
  refine go0 he hm fun a he =>?_
  refine sq fun L31 hL31 =>?_
  refine go0 he hm fun a he =>?_
  by_cases h32:(peekP ws i)=(⟨#[99,97,115,101]⟩:ByteArray)
  refine go0 he hm fun a he =>?_
  refine hL31 _ _ ?_
  refine go0 he hm fun a he =>?_
  refine sq fun L33 hL33 =>?_
  refine go0 he hm fun a he =>?_
  have hlt_:=peek_eq_lt h32 (by decide)
  refine go0 he hm fun a he =>?_
  refine Sto 0 he hm fun w hm a he =>?_
  refine go0 he hm fun a he =>?_
  refine hL33 _ _ ?_
  refine sq fun L34 hL34 =>?_
  refine go0 he hm fun a he =>?_
  refine Qq he hm (fun a he =>?_) (o:=by exact fun _ _ _ he hs=>y_sub ((d:Nat):Int) he rfl rfl (by rw [wrap64 (by omega)];omega))
  refine CallX hQ Tryz.call180 he hm (fun q35 y36 w hq37 hG38 hm a he =>?_) (fun q35 w hq37 hm =>?_) (c:=hE G rl (i:=(i+1)) (by omega) hm)
  obtain ⟨Ψ39,d40⟩:=y36
  obtain ⟨le41,hr42⟩:=hG38
  simp only at le41 hr42 hm he
  have hgo43:=expr_goes d _ _ hq37
  replace rl:=rl.up le41
  replace G:=G.mono le41
  replace hm:=hm.nf
  obtain ⟨p46,c47,p52,c53,rfl,hi56,h45,h51,hm48,hn49,hm54,hn55⟩:=REx.fm hr42
  refine BldS he hm fun v57 w hm a he =>?_
  have hm0_:=hm
  clear hm
  obtain ⟨Ψ58,le59,hm,hrow60⟩:=hm0_.freezeRow (i:=0) rfl
  clear hm0_
  replace rl:=rl.up le59
  replace G:=G.mono le59
  replace hr42:=REx.mono _ _ _ _ le59 hr42
  replace hm:=hm.nf
  have hsl61:SliceOf REx Ψ58 5 _ ([q35.1]):=⟨_,hrow60,(Chunks.one rfl hr42)⟩
  obtain ⟨p62,c63,hv_,hm64,hn65⟩:=hsl61.form (by decide)
  have hmk_:=hm
  clear hm
  subst hv_
  have hm:=hmk_
  clear hmk_
  refine BldT1 he hm fun a he =>?_
  refine Alc he hm fun b66 w hm a he =>?_
  refine Sto 0 he hm fun w hm a he =>?_
  refine go0 he hm fun a he =>?_
  refine hL34 _ _ ?_
  refine sq fun L67 hL67 =>?_
  refine go0 he hm fun a he =>?_
  replace hm:=hm.nilRow 195 7
  replace hm:=hm.nf
  refine loopK (he.ks [0,1,4,7]) hm (fun R mm a w=>∃(Ψ68:Fz) (j:Nat) (u:Value) (cs:List Value) (xs:List Arm) (f:Nat),mm=ws.length - j∧R Ψ68 [] [(0,.gs (u) 195 7 cs),(1,.blk b66 (ob [.int .i64 ((7:Nat):Int),.int .i64 ((0:Nat):Int),.string ⟨#[]⟩,.slice p62 ([q35.1]).length c63,u] 66)),(2,.blk r (ob [.slice pw ws.length cw,.int .i64 ((j:Nat):Int)] 208))] a w∧(Ψ58.Le Ψ68∧(Chunks (RArm Ψ68) 7 cs xs∧xs.length≤j∧j≤ws.length∧xs.length+f=ws.length+1∧armsP ws (exprP ws d) (ws.length+1) true q35.2=pre1 xs (armsP ws (exprP ws d) f (decide (xs.length=0)) j)))) (ws.length - q35.2) ⟨Ψ58,q35.2,.slice none 0 0,[],[],ws.length+1,rfl,⟨he.pk,hm⟩,⟨Fz.Le.refl _,⟨rfl,Nat.zero_le _,by omega,Nat.zero_add _,pre1_nil _⟩⟩⟩ ?_
  clear hm he
  rintro mm a w ⟨Ψ68,j,u,cs,xs,f,hmu,⟨he,hm⟩,hI71⟩ L70 hL70
  replace hm:=hm.nf
  obtain ⟨le69,hI71⟩:=hI71
  replace rl:=rl.up le69
  replace G:=G.mono le69
  replace hr42:=REx.mono _ _ _ _ le69 hr42
  replace hsl61:=hsl61.up le69
  obtain ⟨hch,hxl,hj,hf_,hI_⟩:=hI71
  refine sq fun L72 hL72 =>?_
  refine sq fun L73 hL73 =>?_
  refine go0 he hm fun a he =>?_
  refine Qq he hm (fun a he =>?_) (o:=by exact fun _ _ _ he hs=>y_len_gs 0 (xs.length) he hs rfl rfl (hch.length) (by decide) Tryz.runUnderlying64)
  by_cases h74:xs.length=0
  refine go0 he hm fun a he =>?_
  refine hL73 _ _ ?_
  refine go0 he hm fun a he =>?_
  refine hL72 _ _ ?_
  refine go0 he hm fun a he =>?_
  refine sq fun L75 hL75 =>?_
  refine go0 he hm fun a he =>?_
  replace hm:=hm.pl 2
  refine CallE hQ Tryz.call177 he hm (fun q76 w hq77 hm a he =>?_) (fun q76 w hq77 hm =>?_) (c:=rnext_ok (x:=(⟨#[40]⟩:ByteArray)) (i:=j) rl hws (by omega) hm)
  have hleq76:=nextP_le hq77
  refine go0 he hm fun a he =>?_
  refine hL75 _ _ ?_
  refine sq fun L78 hL78 =>?_
  refine go0 he hm fun a he =>?_
  refine CallE hQ Tryz.call176 he hm (fun q79 w hq80 hm a he =>?_) (fun q79 w hq80 hm =>?_) (c:=rcon_ok G (i:=q76.2) rl hws (by omega) hm)
  have hleq79:=takeP_le hq80
  refine BldT1 he hm fun a he =>?_
  refine Alc he hm fun b81 w hm a he =>?_
  refine Sto 0 he hm fun w hm a he =>?_
  refine go0 he hm fun a he =>?_
  refine hL78 _ _ ?_
  refine sq fun L82 hL82 =>?_
  refine go0 he hm fun a he =>?_
  replace hm:=hm.nilRow 9 1
  replace hm:=hm.nf
  refine loopK (he.ks [0,1,4,7,8]) hm (fun R mm a w=>∃(j2:Nat) (u2:Value) (vs:List Bs) (f2:Nat),mm=ws.length - j2∧R Ψ68 [] [(0,.gs (u2) 9 1 (strs vs)),(1,.blk b81 (ob [.string q79.1,u2,.int .i64 ((0:Nat):Int),.int .i64 ((0:Nat):Int),.string ⟨#[]⟩,.slice none 0 0,.slice none 0 0] 195)),(2,.blk r (ob [.slice pw ws.length cw,.int .i64 ((j2:Nat):Int)] 208))] a w∧(vs.length≤j2∧j < j2∧j2≤ws.length∧vs.length+f2=ws.length+1∧varsP ws (ws.length+1) q79.2=pre1 vs (varsP ws f2 j2))) (ws.length - q79.2) ⟨q79.2,.slice none 0 0,[],ws.length+1,rfl,⟨he.pk,hm⟩,⟨Nat.zero_le _,by omega,by omega,Nat.zero_add _,pre1_nil _⟩⟩ ?_
  clear hm he
  rintro mm a w ⟨j2,u2,vs,f2,hmu,⟨he,hm⟩,hI84⟩ L83 hL83
  replace hm:=hm.nf
  obtain ⟨hvl,hj2,hj3,hf2_,hV_⟩:=hI84
  refine sq fun L85 hL85 =>?_
  refine sq fun L86 hL86 =>?_
  refine go0 he hm fun a he =>?_
  replace hm:=hm.pl 2
  refine CallR Tryz.call179 he hm (fun w hm a he =>?_) (c:=rpeek_ok (i:=j2) rl hws (by omega) hm)
  by_cases h87:(peekP ws j2)=(⟨#[45,62]⟩:ByteArray)
  refine go0 he hm fun a he =>?_
  refine hL86 _ _ ?_
  refine go0 he hm fun a he =>?_
  refine hL82 _ _ ?_
  refine sq fun L88 hL88 =>?_
  refine go0 he hm fun a he =>?_
  have hm0_:=hm
  clear hm
  obtain ⟨Ψ89,le90,hm,hrow91⟩:=hm0_.freezeRow (i:=1) rfl
  clear hm0_
  replace rl:=rl.up le90
  replace G:=G.mono le90
  replace hr42:=REx.mono _ _ _ _ le90 hr42
  replace hsl61:=hsl61.up le90
  replace hch:=hch.mono fun _ _ h=>RArm.mono _ _ _ _ le90 h
  replace hm:=hm.nf
  have hsl92:SliceOf RStr Ψ89 1 _ (vs):=SliceOf.strs.2 hrow91
  obtain ⟨p93,c94,hv_,hm95,hn96⟩:=hsl92.form (by decide)
  have hmk_:=hm
  clear hm
  subst hv_
  have hm:=hmk_
  clear hmk_
  have hv97:=vars_fin hV_ (by omega) h87
  refine go0 he hm fun a he =>?_
  refine CallE hQ Tryz.call177 he hm (fun q98 w hq99 hm a he =>?_) (fun q98 w hq99 hm =>?_) (c:=rnext_ok (x:=(⟨#[45,62]⟩:ByteArray)) (i:=j2) rl hws (by omega) hm)
  have hleq98:=nextP_le hq99
  refine go0 he hm fun a he =>?_
  refine hL88 _ _ ?_
  refine sq fun L100 hL100 =>?_
  refine go0 he hm fun a he =>?_
  refine Qq he hm (fun a he =>?_) (o:=by exact fun _ _ _ he hs=>y_sub ((d:Nat):Int) he rfl rfl (by rw [wrap64 (by omega)];omega))
  refine CallX hQ Tryz.call180 he hm (fun q101 y102 w hq103 hG104 hm a he =>?_) (fun q101 w hq103 hm =>?_) (c:=hE G rl (i:=q98.2) (by omega) hm)
  obtain ⟨Ψ105,d106⟩:=y102
  obtain ⟨le107,hr108⟩:=hG104
  simp only at le107 hr108 hm he
  have hgo109:=expr_goes d _ _ hq103
  replace rl:=rl.up le107
  replace G:=G.mono le107
  replace hr42:=REx.mono _ _ _ _ le107 hr42
  replace hsl61:=hsl61.up le107
  replace hch:=hch.mono fun _ _ h=>RArm.mono _ _ _ _ le107 h
  replace hsl92:=hsl92.up le107
  replace hm:=hm.nf
  obtain ⟨p112,c113,p118,c119,rfl,hi122,h111,h117,hm114,hn115,hm120,hn121⟩:=REx.fm hr108
  refine go0 he hm fun a he =>?_
  refine Sto 1 he hm fun w hm a he =>?_
  refine go0 he hm fun a he =>?_
  refine hL100 _ _ ?_
  refine sq fun L123 hL123 =>?_
  refine go0 he hm fun a he =>?_
  refine CallE hQ Tryz.call177 he hm (fun q124 w hq125 hm a he =>?_) (fun q124 w hq125 hm =>?_) (c:=rnext_ok (x:=(⟨#[41]⟩:ByteArray)) (i:=q101.2) rl hws (by omega) hm)
  have hleq124:=nextP_le hq125
  refine go0 he hm fun a he =>?_
  refine hL123 _ _ ?_
  refine go0 he hm fun a he =>?_
  refine BldS he hm fun v126 w hm a he =>?_
  refine App_ 3 rt_64 he hm (fun v127 w hm a he =>?_)
  refine go0 he hm fun a he =>?_
  refine Sto 4 he hm fun w hm a he =>?_
  refine go0 he hm fun a he =>?_
  replace hm:=hm.ar [2,0] [3,1,3,3]
  refine hL70 _ _ _ (by subst hmu;omega) ⟨(Ψ105),(q124.2),(v127),((cs++[.string q79.1,.slice p93 (vs).length c94,.int .i64 (q101.1.kind),.int .i64 (q101.1.num),.string q101.1.name,.slice p112 q101.1.args.length c113,.slice p118 q101.1.arms.length c119])),(xs++[.mk q79.1 vs q101.1]),(f - 1),rfl,⟨he.pk,by exact hm⟩,?_⟩
  refine ⟨((le69).trans le90).trans le107,?_⟩
  exact ⟨hch.snoc (k:=7) rfl (RArm.of hsl92 hr108 (c:=q79.1)),by simp only [List.length_append,List.length_cons,List.length_nil];omega,by omega,by simp only [List.length_append,List.length_cons,List.length_nil];omega,arms_step (x:=(.mk q79.1 vs q101.1,q124.2)) hI_ (by omega) (.inl h74) ((rbind_eq hq77).trans ((rbind_eq hq80).trans ((rbind_eq hv97).trans ((rbind_eq hq99).trans ((rbind_eq hq103).trans ((rbind_eq hq125).trans (rfl)))))))⟩
  replace hm:=hm.dl [3,2,1,0]
  show Out (formP ws (exprP ws d) i) _ _
  rw [show formP ws (exprP ws d) i=.error _ from (form_case hb10 h12 h32).trans ((rbind_eq hq37).trans (rbind_err (arms_fail hI_ (by omega) (.inl h74) ((rbind_eq hq77).trans ((rbind_eq hq80).trans ((rbind_eq hv97).trans ((rbind_eq hq99).trans ((rbind_eq hq103).trans (rbind_err hq125)))))))))]
  exact ⟨rfl,hm.le (((((le41).trans le59).trans le69).trans le90).trans le107)⟩
  replace hm:=hm.dl [3,2,1,0]
  show Out (formP ws (exprP ws d) i) _ _
  rw [show formP ws (exprP ws d) i=.error _ from (form_case hb10 h12 h32).trans ((rbind_eq hq37).trans (rbind_err (arms_fail hI_ (by omega) (.inl h74) ((rbind_eq hq77).trans ((rbind_eq hq80).trans ((rbind_eq hv97).trans ((rbind_eq hq99).trans (rbind_err hq103))))))))]
  exact ⟨rfl,hm.le ((((le41).trans le59).trans le69).trans le90)⟩
  replace hm:=hm.dl [3,2,1,0]
  show Out (formP ws (exprP ws d) i) _ _
  rw [show formP ws (exprP ws d) i=.error _ from (form_case hb10 h12 h32).trans ((rbind_eq hq37).trans (rbind_err (arms_fail hI_ (by omega) (.inl h74) ((rbind_eq hq77).trans ((rbind_eq hq80).trans ((rbind_eq hv97).trans (rbind_err hq99)))))))]
  exact ⟨rfl,hm.le ((((le41).trans le59).trans le69).trans le90)⟩
  refine go0 he hm fun a he =>?_
  refine hL86 _ _ ?_
  refine go0 he hm fun a he =>?_
  refine hL85 _ _ ?_
  refine go0 he hm fun a he =>?_
  refine Reg [1,2,1,0,0,0,1,0] [2,3,4,5] he hm fun w hm a he =>?_
  refine go0 he hm fun a he =>?_
  refine CallE hQ Tryz.call129 he hm (fun q128 w hq129 hm a he =>?_) (fun q128 w hq129 hm =>?_) (c:=rname_ok G (i:=j2) rl hws (by omega) hm)
  have hleq128:=takeP_le hq129
  refine BldS he hm fun v130 w hm a he =>?_
  refine App_ 2 rt_25 he hm (fun v131 w hm a he =>?_) (hb:=by simp [strs_length];omega)
  refine go0 he hm fun a he =>?_
  refine Sto 3 he hm fun w hm a he =>?_
  refine go0 he hm fun a he =>?_
  first | rw [strs_snoc] at hm | rw [← strs_append] at hm
  replace hm:=hm.ar [0] [5,5,5,3,5,5]
  refine hL83 _ _ _ (by subst hmu;omega) ⟨(q128.2),(v131),(vs++[q128.1]),(f2 - 1),rfl,⟨he.pk,by exact hm⟩,?_⟩
  exact ⟨by simp only [List.length_append,List.length_cons,List.length_nil];omega,by omega,by omega,by simp only [List.length_append,List.length_cons,List.length_nil];omega,vars_step hV_ (by omega) h87 hq129⟩
  replace hm:=hm.dl [4,3,2,1,0]
  show Out (formP ws (exprP ws d) i) _ _
  rw [show formP ws (exprP ws d) i=.error _ from (form_case hb10 h12 h32).trans ((rbind_eq hq37).trans (rbind_err (arms_fail hI_ (by omega) (.inl h74) ((rbind_eq hq77).trans ((rbind_eq hq80).trans (rbind_err (vars_fail hV_ (by omega) h87 hq129)))))))]
  exact ⟨rfl,hm.le (((le41).trans le59).trans le69)⟩
  replace hm:=hm.dl [2,1,0]
  show Out (formP ws (exprP ws d) i) _ _
  rw [show formP ws (exprP ws d) i=.error _ from (form_case hb10 h12 h32).trans ((rbind_eq hq37).trans (rbind_err (arms_fail hI_ (by omega) (.inl h74) ((rbind_eq hq77).trans (rbind_err hq80)))))]
  exact ⟨rfl,hm.le (((le41).trans le59).trans le69)⟩
  replace hm:=hm.dl [2,1,0]
  show Out (formP ws (exprP ws d) i) _ _
  rw [show formP ws (exprP ws d) i=.error _ from (form_case hb10 h12 h32).trans ((rbind_eq hq37).trans (rbind_err (arms_fail hI_ (by omega) (.inl h74) (rbind_err hq77))))]
  exact ⟨rfl,hm.le (((le41).trans le59).trans le69)⟩
  refine go0 he hm fun a he =>?_
  replace hm:=hm.pl 2
  refine CallR Tryz.call179 he hm (fun w hm a he =>?_) (c:=rpeek_ok (i:=j) rl hws (by omega) hm)
  by_cases h132:(peekP ws j)=(⟨#[40]⟩:ByteArray)
  refine go0 he hm fun a he =>?_
  refine hL73 _ _ ?_
  refine go0 he hm fun a he =>?_
  refine hL72 _ _ ?_
  refine go0 he hm fun a he =>?_
  refine sq fun L133 hL133 =>?_
  refine go0 he hm fun a he =>?_
  refine CallE hQ Tryz.call177 he hm (fun q134 w hq135 hm a he =>?_) (fun q134 w hq135 hm =>?_) (c:=rnext_ok (x:=(⟨#[40]⟩:ByteArray)) (i:=j) rl hws (by omega) hm)
  have hleq134:=nextP_le hq135
  refine go0 he hm fun a he =>?_
  refine hL133 _ _ ?_
  refine sq fun L136 hL136 =>?_
  refine go0 he hm fun a he =>?_
  refine CallE hQ Tryz.call176 he hm (fun q137 w hq138 hm a he =>?_) (fun q137 w hq138 hm =>?_) (c:=rcon_ok G (i:=q134.2) rl hws (by omega) hm)
  have hleq137:=takeP_le hq138
  refine BldT1 he hm fun a he =>?_
  refine Alc he hm fun b139 w hm a he =>?_
  refine Sto 0 he hm fun w hm a he =>?_
  refine go0 he hm fun a he =>?_
  refine hL136 _ _ ?_
  refine sq fun L140 hL140 =>?_
  refine go0 he hm fun a he =>?_
  replace hm:=hm.nilRow 9 1
  replace hm:=hm.nf
  refine loopK (he.ks [0,1,4,7,8]) hm (fun R mm a w=>∃(j2:Nat) (u2:Value) (vs:List Bs) (f2:Nat),mm=ws.length - j2∧R Ψ68 [] [(0,.gs (u2) 9 1 (strs vs)),(1,.blk b139 (ob [.string q137.1,u2,.int .i64 ((0:Nat):Int),.int .i64 ((0:Nat):Int),.string ⟨#[]⟩,.slice none 0 0,.slice none 0 0] 195)),(2,.blk r (ob [.slice pw ws.length cw,.int .i64 ((j2:Nat):Int)] 208))] a w∧(vs.length≤j2∧j < j2∧j2≤ws.length∧vs.length+f2=ws.length+1∧varsP ws (ws.length+1) q137.2=pre1 vs (varsP ws f2 j2))) (ws.length - q137.2) ⟨q137.2,.slice none 0 0,[],ws.length+1,rfl,⟨he.pk,hm⟩,⟨Nat.zero_le _,by omega,by omega,Nat.zero_add _,pre1_nil _⟩⟩ ?_
  clear hm he
  rintro mm a w ⟨j2,u2,vs,f2,hmu,⟨he,hm⟩,hI142⟩ L141 hL141
  replace hm:=hm.nf
  obtain ⟨hvl,hj2,hj3,hf2_,hV_⟩:=hI142
  refine sq fun L143 hL143 =>?_
  refine sq fun L144 hL144 =>?_
  refine go0 he hm fun a he =>?_
  replace hm:=hm.pl 2
  refine CallR Tryz.call179 he hm (fun w hm a he =>?_) (c:=rpeek_ok (i:=j2) rl hws (by omega) hm)
  by_cases h145:(peekP ws j2)=(⟨#[45,62]⟩:ByteArray)
  refine go0 he hm fun a he =>?_
  refine hL144 _ _ ?_
  refine go0 he hm fun a he =>?_
  refine hL140 _ _ ?_
  refine sq fun L146 hL146 =>?_
  refine go0 he hm fun a he =>?_
  have hm0_:=hm
  clear hm
  obtain ⟨Ψ147,le148,hm,hrow149⟩:=hm0_.freezeRow (i:=1) rfl
  clear hm0_
  replace rl:=rl.up le148
  replace G:=G.mono le148
  replace hr42:=REx.mono _ _ _ _ le148 hr42
  replace hsl61:=hsl61.up le148
  replace hch:=hch.mono fun _ _ h=>RArm.mono _ _ _ _ le148 h
  replace hm:=hm.nf
  have hsl150:SliceOf RStr Ψ147 1 _ (vs):=SliceOf.strs.2 hrow149
  obtain ⟨p151,c152,hv_,hm153,hn154⟩:=hsl150.form (by decide)
  have hmk_:=hm
  clear hm
  subst hv_
  have hm:=hmk_
  clear hmk_
  have hv155:=vars_fin hV_ (by omega) h145
  refine go0 he hm fun a he =>?_
  refine CallE hQ Tryz.call177 he hm (fun q156 w hq157 hm a he =>?_) (fun q156 w hq157 hm =>?_) (c:=rnext_ok (x:=(⟨#[45,62]⟩:ByteArray)) (i:=j2) rl hws (by omega) hm)
  have hleq156:=nextP_le hq157
  refine go0 he hm fun a he =>?_
  refine hL146 _ _ ?_
  refine sq fun L158 hL158 =>?_
  refine go0 he hm fun a he =>?_
  refine Qq he hm (fun a he =>?_) (o:=by exact fun _ _ _ he hs=>y_sub ((d:Nat):Int) he rfl rfl (by rw [wrap64 (by omega)];omega))
  refine CallX hQ Tryz.call180 he hm (fun q159 y160 w hq161 hG162 hm a he =>?_) (fun q159 w hq161 hm =>?_) (c:=hE G rl (i:=q156.2) (by omega) hm)
  obtain ⟨Ψ163,d164⟩:=y160
  obtain ⟨le165,hr166⟩:=hG162
  simp only at le165 hr166 hm he
  have hgo167:=expr_goes d _ _ hq161
  replace rl:=rl.up le165
  replace G:=G.mono le165
  replace hr42:=REx.mono _ _ _ _ le165 hr42
  replace hsl61:=hsl61.up le165
  replace hch:=hch.mono fun _ _ h=>RArm.mono _ _ _ _ le165 h
  replace hsl150:=hsl150.up le165
  replace hm:=hm.nf
  obtain ⟨p170,c171,p176,c177,rfl,hi180,h169,h175,hm172,hn173,hm178,hn179⟩:=REx.fm hr166
  refine go0 he hm fun a he =>?_
  refine Sto 1 he hm fun w hm a he =>?_
  refine go0 he hm fun a he =>?_
  refine hL158 _ _ ?_
  refine sq fun L181 hL181 =>?_
  refine go0 he hm fun a he =>?_
  refine CallE hQ Tryz.call177 he hm (fun q182 w hq183 hm a he =>?_) (fun q182 w hq183 hm =>?_) (c:=rnext_ok (x:=(⟨#[41]⟩:ByteArray)) (i:=q159.2) rl hws (by omega) hm)
  have hleq182:=nextP_le hq183
  refine go0 he hm fun a he =>?_
  refine hL181 _ _ ?_
  refine go0 he hm fun a he =>?_
  refine BldS he hm fun v184 w hm a he =>?_
  refine App_ 3 rt_64 he hm (fun v185 w hm a he =>?_)
  refine go0 he hm fun a he =>?_
  refine Sto 4 he hm fun w hm a he =>?_
  refine go0 he hm fun a he =>?_
  replace hm:=hm.ar [2,0] [3,1,3,3]
  refine hL70 _ _ _ (by subst hmu;omega) ⟨(Ψ163),(q182.2),(v185),((cs++[.string q137.1,.slice p151 (vs).length c152,.int .i64 (q159.1.kind),.int .i64 (q159.1.num),.string q159.1.name,.slice p170 q159.1.args.length c171,.slice p176 q159.1.arms.length c177])),(xs++[.mk q137.1 vs q159.1]),(f - 1),rfl,⟨he.pk,by exact hm⟩,?_⟩
  refine ⟨((le69).trans le148).trans le165,?_⟩
  exact ⟨hch.snoc (k:=7) rfl (RArm.of hsl150 hr166 (c:=q137.1)),by simp only [List.length_append,List.length_cons,List.length_nil];omega,by omega,by simp only [List.length_append,List.length_cons,List.length_nil];omega,arms_step (x:=(.mk q137.1 vs q159.1,q182.2)) hI_ (by omega) (.inr h132) ((rbind_eq hq135).trans ((rbind_eq hq138).trans ((rbind_eq hv155).trans ((rbind_eq hq157).trans ((rbind_eq hq161).trans ((rbind_eq hq183).trans (rfl)))))))⟩
  replace hm:=hm.dl [3,2,1,0]
  show Out (formP ws (exprP ws d) i) _ _
  rw [show formP ws (exprP ws d) i=.error _ from (form_case hb10 h12 h32).trans ((rbind_eq hq37).trans (rbind_err (arms_fail hI_ (by omega) (.inr h132) ((rbind_eq hq135).trans ((rbind_eq hq138).trans ((rbind_eq hv155).trans ((rbind_eq hq157).trans ((rbind_eq hq161).trans (rbind_err hq183)))))))))]
  exact ⟨rfl,hm.le (((((le41).trans le59).trans le69).trans le148).trans le165)⟩
  replace hm:=hm.dl [3,2,1,0]
  show Out (formP ws (exprP ws d) i) _ _
  rw [show formP ws (exprP ws d) i=.error _ from (form_case hb10 h12 h32).trans ((rbind_eq hq37).trans (rbind_err (arms_fail hI_ (by omega) (.inr h132) ((rbind_eq hq135).trans ((rbind_eq hq138).trans ((rbind_eq hv155).trans ((rbind_eq hq157).trans (rbind_err hq161))))))))]
  exact ⟨rfl,hm.le ((((le41).trans le59).trans le69).trans le148)⟩
  replace hm:=hm.dl [3,2,1,0]
  show Out (formP ws (exprP ws d) i) _ _
  rw [show formP ws (exprP ws d) i=.error _ from (form_case hb10 h12 h32).trans ((rbind_eq hq37).trans (rbind_err (arms_fail hI_ (by omega) (.inr h132) ((rbind_eq hq135).trans ((rbind_eq hq138).trans ((rbind_eq hv155).trans (rbind_err hq157)))))))]
  exact ⟨rfl,hm.le ((((le41).trans le59).trans le69).trans le148)⟩
  refine go0 he hm fun a he =>?_
  refine hL144 _ _ ?_
  refine go0 he hm fun a he =>?_
  refine hL143 _ _ ?_
  refine go0 he hm fun a he =>?_
  refine Reg [1,2,1,0,0,0,1,0] [2,3,4,5] he hm fun w hm a he =>?_
  refine go0 he hm fun a he =>?_
  refine CallE hQ Tryz.call129 he hm (fun q186 w hq187 hm a he =>?_) (fun q186 w hq187 hm =>?_) (c:=rname_ok G (i:=j2) rl hws (by omega) hm)
  have hleq186:=takeP_le hq187
  refine BldS he hm fun v188 w hm a he =>?_
  refine App_ 2 rt_25 he hm (fun v189 w hm a he =>?_) (hb:=by simp [strs_length];omega)
  refine go0 he hm fun a he =>?_
  refine Sto 3 he hm fun w hm a he =>?_
  refine go0 he hm fun a he =>?_
  first | rw [strs_snoc] at hm | rw [← strs_append] at hm
  replace hm:=hm.ar [0] [5,5,5,3,5,5]
  refine hL141 _ _ _ (by subst hmu;omega) ⟨(q186.2),(v189),(vs++[q186.1]),(f2 - 1),rfl,⟨he.pk,by exact hm⟩,?_⟩
  exact ⟨by simp only [List.length_append,List.length_cons,List.length_nil];omega,by omega,by omega,by simp only [List.length_append,List.length_cons,List.length_nil];omega,vars_step hV_ (by omega) h145 hq187⟩
  replace hm:=hm.dl [4,3,2,1,0]
  show Out (formP ws (exprP ws d) i) _ _
  rw [show formP ws (exprP ws d) i=.error _ from (form_case hb10 h12 h32).trans ((rbind_eq hq37).trans (rbind_err (arms_fail hI_ (by omega) (.inr h132) ((rbind_eq hq135).trans ((rbind_eq hq138).trans (rbind_err (vars_fail hV_ (by omega) h145 hq187)))))))]
  exact ⟨rfl,hm.le (((le41).trans le59).trans le69)⟩
  replace hm:=hm.dl [2,1,0]
  show Out (formP ws (exprP ws d) i) _ _
  rw [show formP ws (exprP ws d) i=.error _ from (form_case hb10 h12 h32).trans ((rbind_eq hq37).trans (rbind_err (arms_fail hI_ (by omega) (.inr h132) ((rbind_eq hq135).trans (rbind_err hq138)))))]
  exact ⟨rfl,hm.le (((le41).trans le59).trans le69)⟩
  replace hm:=hm.dl [2,1,0]
  show Out (formP ws (exprP ws d) i) _ _
  rw [show formP ws (exprP ws d) i=.error _ from (form_case hb10 h12 h32).trans ((rbind_eq hq37).trans (rbind_err (arms_fail hI_ (by omega) (.inr h132) (rbind_err hq135))))]
  exact ⟨rfl,hm.le (((le41).trans le59).trans le69)⟩
  refine go0 he hm fun a he =>?_
  refine hL73 _ _ ?_
  refine go0 he hm fun a he =>?_
  refine hL67 _ _ ?_
  refine sq fun L190 hL190 =>?_
  refine go0 he hm fun a he =>?_
  have hm0_:=hm
  clear hm
  obtain ⟨Ψ191,le192,hm,hrow193⟩:=hm0_.freezeRow (i:=1) rfl
  clear hm0_
  replace rl:=rl.up le192
  replace G:=G.mono le192
  replace hr42:=REx.mono _ _ _ _ le192 hr42
  replace hsl61:=hsl61.up le192
  replace hch:=hch.mono fun _ _ h=>RArm.mono _ _ _ _ le192 h
  replace hm:=hm.nf
  have hsl194:SliceOf RArm Ψ191 7 _ (xs):=⟨_,hrow193,hch⟩
  obtain ⟨p195,c196,hv_,hm197,hn198⟩:=hsl194.form (by decide)
  have hmk_:=hm
  clear hm
  subst hv_
  have hm:=hmk_
  clear hmk_
  have hA_:=arms_fin hI_ (by omega) h74 h132
  refine go0 he hm fun a he =>?_
  refine Sto 2 he hm fun w hm a he =>?_
  refine go0 he hm fun a he =>?_
  refine hL190 _ _ ?_
  refine go0 he hm fun a he =>?_
  have hmr:=hm
  replace hm:=hm.dl [2,1]
  refine RetA hQ he hmr ?_
  show Out (formP ws (exprP ws d) i) _ _
  rw [show formP ws (exprP ws d) i=.ok (.mk 7 0 ⟨#[]⟩ [q35.1] xs,j) from (form_case hb10 h12 h32).trans ((rbind_eq hq37).trans ((rbind_eq hA_).trans rfl))]
  exact ⟨(Ψ191,_),rfl,⟨(((le41).trans le59).trans le69).trans le192,REx.full hsl61 hsl194⟩,hm⟩
  replace hm:=hm.dl [0]
  show Out (formP ws (exprP ws d) i) _ _
  rw [show formP ws (exprP ws d) i=.error _ from (form_case hb10 h12 h32).trans (rbind_err hq37)]
  exact ⟨rfl,hm.le (Fz.Le.refl _)⟩
  refine go0 he hm fun a he =>?_
  refine hL31 _ _ ?_
  refine go0 he hm fun a he =>?_
  refine hL4 _ _ ?_
  refine sq fun L199 hL199 =>?_
  refine sq fun L200 hL200 =>?_
  refine go0 he hm fun a he =>?_
  refine CallB Tryz.call178 he hm (fun hB201 w hm a he =>?_) (fun hB201 w hm a he =>?_) (c:=isCon_ok G hm)
  refine go0 he hm fun a he =>?_
  refine hL200 _ _ ?_
  refine go0 he hm fun a he =>?_
  refine sq fun L202 hL202 =>?_
  refine go0 he hm fun a he =>?_
  have hlt_:=isCon_lt hB201
  refine go0 he hm fun a he =>?_
  refine Sto 0 he hm fun w hm a he =>?_
  refine go0 he hm fun a he =>?_
  refine hL202 _ _ ?_
  refine sq fun L203 hL203 =>?_
  refine go0 he hm fun a he =>?_
  refine CallX hQ Tryz.call219 he hm (fun q204 y205 w hq206 hG207 hm a he =>?_) (fun q204 w hq206 hm =>?_) (c:=rlist_ok (m:=1) hd hE G (i:=(i+1)) rl hws (by omega) hm)
  obtain ⟨Ψ208,d209⟩:=y205
  obtain ⟨le210,hr211⟩:=hG207
  simp only at le210 hr211 hm he
  have hgo212:=list_le (by omega) hq206
  replace rl:=rl.up le210
  replace G:=G.mono le210
  replace hm:=hm.nf
  obtain ⟨p213,c214,rfl,hmx215,hn216⟩:=hr211.fm
  refine BldT1 he hm fun a he =>?_
  refine Sto 1 he hm fun w hm a he =>?_
  refine go0 he hm fun a he =>?_
  refine hL203 _ _ ?_
  refine go0 he hm fun a he =>?_
  have hmr:=hm
  replace hm:=hm.dl [1]
  refine RetA hQ he hmr ?_
  show Out (formP ws (exprP ws d) i) _ _
  rw [show formP ws (exprP ws d) i=.ok (.mk 4 0 (peekP ws i) q204.1 [],q204.2) from (form_con hb10 h12 h32 hB201).trans ((rbind_eq hq206).trans (rfl))]
  exact ⟨(Ψ208,_),rfl,⟨le210,REx.node hr211⟩,hm⟩
  replace hm:=hm.dl [0]
  show Out (formP ws (exprP ws d) i) _ _
  rw [show formP ws (exprP ws d) i=.error _ from (form_con hb10 h12 h32 hB201).trans (rbind_err hq206)]
  exact ⟨rfl,hm.le (Fz.Le.refl _)⟩
  refine go0 he hm fun a he =>?_
  refine hL200 _ _ ?_
  refine go0 he hm fun a he =>?_
  refine hL199 _ _ ?_
  refine sq fun L217 hL217 =>?_
  refine go0 he hm fun a he =>?_
  refine CallE hQ Tryz.call129 he hm (fun q218 w hq219 hm a he =>?_) (fun q218 w hq219 hm =>?_) (c:=rname_ok G (i:=i) rl hws (by omega) hm)
  have hleq218:=takeP_le hq219
  refine go0 he hm fun a he =>?_
  refine hL217 _ _ ?_
  refine sq fun L220 hL220 =>?_
  refine go0 he hm fun a he =>?_
  refine CallX hQ Tryz.call219 he hm (fun q221 y222 w hq223 hG224 hm a he =>?_) (fun q221 w hq223 hm =>?_) (c:=rlist_ok (m:=0) hd hE G (i:=q218.2) rl hws (by omega) hm)
  obtain ⟨Ψ225,d226⟩:=y222
  obtain ⟨le227,hr228⟩:=hG224
  simp only at le227 hr228 hm he
  have hgo229:=list_le (by omega) hq223
  replace rl:=rl.up le227
  replace G:=G.mono le227
  replace hm:=hm.nf
  obtain ⟨p230,c231,rfl,hmx232,hn233⟩:=hr228.fm
  refine BldT1 he hm fun a he =>?_
  refine Sto 1 he hm fun w hm a he =>?_
  refine go0 he hm fun a he =>?_
  refine hL220 _ _ ?_
  refine go0 he hm fun a he =>?_
  have hmr:=hm
  replace hm:=hm.dl [1]
  refine RetA hQ he hmr ?_
  show Out (formP ws (exprP ws d) i) _ _
  rw [show formP ws (exprP ws d) i=.ok (.mk 5 0 q218.1 q221.1 [],q221.2) from (form_call hb10 h12 h32 hB201).trans ((rbind_eq hq219).trans ((rbind_eq hq223).trans (rfl)))]
  exact ⟨(Ψ225,_),rfl,⟨le227,REx.node hr228⟩,hm⟩
  replace hm:=hm.dl [0]
  show Out (formP ws (exprP ws d) i) _ _
  rw [show formP ws (exprP ws d) i=.error _ from (form_call hb10 h12 h32 hB201).trans ((rbind_eq hq219).trans (rbind_err hq223))]
  exact ⟨rfl,hm.le (Fz.Le.refl _)⟩
  replace hm:=hm.dl [0]
  show Out (formP ws (exprP ws d) i) _ _
  rw [show formP ws (exprP ws d) i=.error _ from (form_call hb10 h12 h32 hB201).trans (rbind_err hq219)]
  exact ⟨rfl,hm.le (Fz.Le.refl _)⟩
  refine go0 he hm fun a he =>?_
  refine sq fun L234 hL234 =>?_
  refine go0 he hm fun a he =>?_
  have hlt_:=isOp_lt hb10
  refine go0 he hm fun a he =>?_
  refine Sto 0 he hm fun w hm a he =>?_
  refine go0 he hm fun a he =>?_
  refine hL234 _ _ ?_
  refine sq fun L235 hL235 =>?_
  refine go0 he hm fun a he =>?_
  refine CallX hQ Tryz.call218 he hm (fun q236 y237 w hq238 hG239 hm a he =>?_) (fun q236 w hq238 hm =>?_) (c:=rtwo_ok hd hE G (i:=(i+1)) rl hws (by omega) hm)
  obtain ⟨Ψ240,d241⟩:=y237
  obtain ⟨le242,hr243⟩:=hG239
  simp only at le242 hr243 hm he
  have hgo244:=two_le hq238
  replace G:=G.mono le242
  replace hm:=hm.nf
  obtain ⟨p245,c246,rfl,hmx247,hn248⟩:=hr243.fm
  refine BldT1 he hm fun a he =>?_
  refine Sto 1 he hm fun w hm a he =>?_
  refine go0 he hm fun a he =>?_
  refine hL235 _ _ ?_
  refine go0 he hm fun a he =>?_
  have hmr:=hm
  replace hm:=hm.dl [1]
  refine RetA hQ he hmr ?_
  show Out (formP ws (exprP ws d) i) _ _
  rw [show formP ws (exprP ws d) i=.ok (.mk 8 0 (peekP ws i) q236.1 [],q236.2) from (form_op hb10).trans ((rbind_eq hq238).trans (rfl))]
  exact ⟨(Ψ240,_),rfl,⟨le242,REx.node hr243⟩,hm⟩
  replace hm:=hm.dl [0]
  show Out (formP ws (exprP ws d) i) _ _
  rw [show formP ws (exprP ws d) i=.error _ from (form_op hb10).trans (rbind_err hq238)]
  exact ⟨rfl,hm.le (Fz.Le.refl _)⟩
 refine sq fun L249 hL249 =>?_
 refine go0 he hm fun a he =>?_
 by_cases h250:(peekP ws i)=(⟨#[43]⟩:ByteArray)
 refine go0 he hm fun a he =>?_
 refine hL249 _ _ ?_
 refine go0 he hm fun a he =>?_
 exact hJ7 _ _ (by rw [isOp_yes (.inl h250)];exact ⟨he.pk,hm,trivial⟩)
 refine go0 he hm fun a he =>?_
 refine hL249 _ _ ?_
 refine go0 he hm fun a he =>?_
 refine sq fun L251 hL251 =>?_
 refine go0 he hm fun a he =>?_
 by_cases h252:(peekP ws i)=(⟨#[45]⟩:ByteArray)
 refine go0 he hm fun a he =>?_
 refine hL251 _ _ ?_
 refine go0 he hm fun a he =>?_
 exact hJ7 _ _ (by rw [isOp_yes (.inr (.inl h252))];exact ⟨he.pk,hm,trivial⟩)
 refine go0 he hm fun a he =>?_
 refine hL251 _ _ ?_
 refine go0 he hm fun a he =>?_
 refine sq fun L253 hL253 =>?_
 refine go0 he hm fun a he =>?_
 by_cases h254:(peekP ws i)=(⟨#[42]⟩:ByteArray)
 refine go0 he hm fun a he =>?_
 refine hL253 _ _ ?_
 refine go0 he hm fun a he =>?_
 exact hJ7 _ _ (by rw [isOp_yes (.inr (.inr (.inl h254)))];exact ⟨he.pk,hm,trivial⟩)
 refine go0 he hm fun a he =>?_
 refine hL253 _ _ ?_
 refine go0 he hm fun a he =>?_
 refine sq fun L255 hL255 =>?_
 refine go0 he hm fun a he =>?_
 by_cases h256:(peekP ws i)=(⟨#[47]⟩:ByteArray)
 refine go0 he hm fun a he =>?_
 refine hL255 _ _ ?_
 refine go0 he hm fun a he =>?_
 exact hJ7 _ _ (by rw [isOp_yes (.inr (.inr (.inr (.inl h256))))];exact ⟨he.pk,hm,trivial⟩)
 refine go0 he hm fun a he =>?_
 refine hL255 _ _ ?_
 refine go0 he hm fun a he =>?_
 refine sq fun L257 hL257 =>?_
 refine go0 he hm fun a he =>?_
 by_cases h258:(peekP ws i)=(⟨#[37]⟩:ByteArray)
 refine go0 he hm fun a he =>?_
 refine hL257 _ _ ?_
 refine go0 he hm fun a he =>?_
 exact hJ7 _ _ (by rw [isOp_yes (.inr (.inr (.inr (.inr (.inl h258)))))];exact ⟨he.pk,hm,trivial⟩)
 refine go0 he hm fun a he =>?_
 refine hL257 _ _ ?_
 refine go0 he hm fun a he =>?_
 refine sq fun L259 hL259 =>?_
 refine go0 he hm fun a he =>?_
 by_cases h260:(peekP ws i)=(⟨#[60]⟩:ByteArray)
 refine go0 he hm fun a he =>?_
 refine hL259 _ _ ?_
 refine go0 he hm fun a he =>?_
 exact hJ7 _ _ (by rw [isOp_yes (.inr (.inr (.inr (.inr (.inr (.inl h260))))))];exact ⟨he.pk,hm,trivial⟩)
 refine go0 he hm fun a he =>?_
 refine hL259 _ _ ?_
 refine go0 he hm fun a he =>?_
 by_cases h261:(peekP ws i)=(⟨#[61]⟩:ByteArray)
 refine go0 he hm fun a he =>?_
 exact hJ7 _ _ (by rw [isOp_yes (.inr (.inr (.inr (.inr (.inr (.inr h261))))))];exact ⟨he.pk,hm,trivial⟩)
 refine go0 he hm fun a he =>?_
 exact hJ7 _ _ (by rw [isOp_no h250 h252 h254 h256 h258 h260 h261];exact ⟨he.pk,hm,trivial⟩)
end Go.Sw
