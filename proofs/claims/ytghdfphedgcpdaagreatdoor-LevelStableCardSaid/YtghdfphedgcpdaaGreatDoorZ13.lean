import Derived.Deep.DeepAppendWide
import Derived.Test.YtghdfphedgcpdaaGreatDoorProg
import Derived.Test.YtghdfphedgcpdaaGreatDoorZ01
import Derived.Test.YtghdfphedgcpdaaGreatDoorZ02
import Derived.Test.YtghdfphedgcpdaaGreatDoorZ08
import Derived.Test.YtghdfphedgcpdaaGreatDoorZ10
import Derived.Test.YtghdfphedgcpdaaGreatDoorZ11
import Derived.Test.YtghdfphedgcpdaaGreatDoorZ12
set_option linter.unusedVariables false
set_option linter.unusedSimpArgs false
namespace Go.Sw
inductive PlanT where
 | q (i:Nat) (p:PlanT)
 | e3 (i j k:Nat) (p q r:PlanT)
 | e4 (i j k m:Nat) (p q r s:PlanT)
 | pl (p:Plan)
def pG (md:Region.Mode) (ops:Array Oper) (kd:List Nat):PlanT→Array Bool→Bool
 | .pl p,l=>dB md ops kd p l
 | .q i p,l=>(Region.ready md ops l).contains i&&Region.free md ops l i&&qA kd i != 0&&pG md ops kd p (l.setIfInBounds i true)
 | .e3 i j k p q r,l=>Region.ready md ops l==[i,j,k]&&[i,j,k].all (qA kd ·==0)&&pG md ops kd p (l.setIfInBounds i true)&&pG md ops kd q (l.setIfInBounds j true)&&pG md ops kd r (l.setIfInBounds k true)
 | .e4 i j k m p q r s,l=>Region.ready md ops l==[i,j,k,m]&&[i,j,k,m].all (qA kd ·==0)&&pG md ops kd p (l.setIfInBounds i true)&&pG md ops kd q (l.setIfInBounds j true)&&pG md ops kd r (l.setIfInBounds k true)&&pG md ops kd s (l.setIfInBounds m true)
def PlanT.len:PlanT→Nat
 | .pl p=>p.len
 | .q _ p=>p.len+1
 | .e3 _ _ _ p _ _=>p.len+1
 | .e4 _ _ _ _ p _ _ _=>p.len+1
def PlanT.even:PlanT→Bool
 | .pl p=>p.even
 | .q _ p=>p.even
 | .e3 _ _ _ p u r=>p.even&&u.even&&r.even&&p.len==u.len&&p.len==r.len
 | .e4 _ _ _ _ p u r s=>p.even&&u.even&&r.even&&s.even&&p.len==u.len&&p.len==r.len&&p.len==s.len
section
variable {P:Program} {md:Region.Mode} {ops:Array Oper} {B:World→Prop} {kd:List Nat} {Qp:List PanicEntry→World→Prop}
def xB (P:Program) (md:Region.Mode) (ops:Array Oper) (B:World→Prop) (kd:List Nat) (Qp:List PanicEntry→World→Prop) (Q:Act→World→Prop):PlanT→Act→World→Prop
 | .pl p,a,w=>zW P md ops B kd Qp Q p a w
 | .q i p,a,w=>vC P md ops B kd Qp i (xB P md ops B kd Qp Q p) a w
 | .e3 i j k p q r,a,w=>vC P md ops B kd Qp i (xB P md ops B kd Qp Q p) a w∧vC P md ops B kd Qp j (xB P md ops B kd Qp Q q) a w∧vC P md ops B kd Qp k (xB P md ops B kd Qp Q r) a w
 | .e4 i j k m p q r s,a,w=>vC P md ops B kd Qp i (xB P md ops B kd Qp Q p) a w∧vC P md ops B kd Qp j (xB P md ops B kd Qp Q q) a w∧vC P md ops B kd Qp k (xB P md ops B kd Qp Q r) a w∧vC P md ops B kd Qp m (xB P md ops B kd Qp Q s) a w
theorem jX {Q:Act→World→Prop} (hs:Region.noSelect ops=true):∀(p:PlanT) (listed:Array Bool) (a:Act) (w:World),p.even=true→pG md ops kd p listed=true →
  xB P md ops B kd Qp Q p a w→y3p P md ops B kd Qp Q p.len listed a w
 | .pl p,l,a,w,hev,hp,h=>xZ hs p l a w hev hp h
 | .q i p,l,a,w,hev,hp,h=>by
  simp only [pG,Bool.and_eq_true,List.contains_iff_mem,bne_iff_ne,ne_eq] at hp
  obtain ⟨⟨⟨hr,hf⟩,hk⟩,hp⟩:=hp
  obtain ⟨_,o,ho,_⟩:=mem_ready.1 hr
  unfold xB vC at h
  simp only [ho] at h
  by_cases hw:Region.wanted o (yielded ops a.tmps)=true
  ·rw [if_pos hw,if_neg hk] at h
   obtain ⟨v,h1,h2⟩:=h
   exact sL ho (Region.noSelect_spec hs) hk _ _ _ _ (Region.free_spec ho hf) hr (.inl ⟨hw,h1⟩) (jX hs p _ _ _ hev hp h2)
  ·rw [if_neg hw] at h
   exact sL ho (Region.noSelect_spec hs) hk _ _ _ _ (Region.free_spec ho hf) hr (.inr ⟨by simpa using hw,rfl⟩) (jX hs p _ _ _ hev hp h)
 | .e3 i j k p q r,l,a,w,hev,hp,h=>by
  simp only [pG,Bool.and_eq_true,beq_iff_eq] at hp
  obtain ⟨⟨⟨⟨hr,_⟩,hp⟩,hq⟩,hrr⟩:=hp
  simp only [PlanT.even,Bool.and_eq_true,beq_iff_eq] at hev
  obtain ⟨⟨⟨⟨e1,e2⟩,e3⟩,l2⟩,l3⟩:=hev
  obtain ⟨h1,h2,h3⟩:=h
  simp only [PlanT.len,y3p]
  refine ⟨fun h0=>(by rw [h0] at hr;cases hr),fun x hx =>?_⟩
  rw [hr] at hx
  simp only [List.mem_cons,List.not_mem_nil,or_false] at hx
  rcases hx with rfl | rfl | rfl
  ·exact wF (fun a' w' _ hh=>jX hs p _ _ _ e1 hp hh) h1
  ·exact wF (fun a' w' _ hh=>by rw [l2];exact jX hs q _ _ _ e2 hq hh) h2
  ·exact wF (fun a' w' _ hh=>by rw [l3];exact jX hs r _ _ _ e3 hrr hh) h3
 | .e4 i j k m p q r s,l,a,w,hev,hp,h=>by
  simp only [pG,Bool.and_eq_true,beq_iff_eq] at hp
  obtain ⟨⟨⟨⟨⟨hr,_⟩,hp⟩,hq⟩,hrr⟩,hss⟩:=hp
  simp only [PlanT.even,Bool.and_eq_true,beq_iff_eq] at hev
  obtain ⟨⟨⟨⟨⟨⟨e1,e2⟩,e3⟩,e4⟩,l2⟩,l3⟩,l4⟩:=hev
  obtain ⟨h1,h2,h3,h4⟩:=h
  simp only [PlanT.len,y3p]
  refine ⟨fun h0=>(by rw [h0] at hr;cases hr),fun x hx =>?_⟩
  rw [hr] at hx
  simp only [List.mem_cons,List.not_mem_nil,or_false] at hx
  rcases hx with rfl | rfl | rfl | rfl
  ·exact wF (fun a' w' _ hh=>jX hs p _ _ _ e1 hp hh) h1
  ·exact wF (fun a' w' _ hh=>by rw [l2];exact jX hs q _ _ _ e2 hq hh) h2
  ·exact wF (fun a' w' _ hh=>by rw [l3];exact jX hs r _ _ _ e3 hrr hh) h3
  ·exact wF (fun a' w' _ hh=>by rw [l4];exact jX hs s _ _ _ e4 hss hh) h4
def planBT (ops:Array Oper) (kd:List Nat) (p:PlanT):Bool:=Region.noSelect ops&&p.even&&p.len==ops.size&&pG .any ops kd p (Array.replicate ops.size false)
section
variable {n:Nat} {E:List (Nat×Value)} {D:List Deferred} {a:Act} {Φ:Fz} {K:List Res} {w:World}
theorem y8o {id:Nat} {l:List Oper} {Q:Exit→Act→World→Prop} (kd:List Nat) (p:PlanT) (K':List Res) (he:EnvR n E D a) (hm:Mem Φ K w) (hw:P.follows .mixedOrders=true) (hB:planBT l.toArray kd p=true) (hK:∀r∈K',r∈K)
  (h:∀w,Mem Φ K w→xB P .any l.toArray (Sees Φ K') kd (fun c w=>∀a,a.defers=D→Q (.panic c) a w) (Q .normal) p a w):(Code.region id l.toArray true).wp P Q a w:=by
 have hm':=hm.drew
 simp only [planBT,Bool.and_eq_true,beq_iff_eq] at hB
 obtain ⟨⟨⟨hs,hev⟩,hl⟩,hok⟩:=hB
 refine (wpIn_wide (n:=3)).1 (wpIn_region_any hw (nJ (r:=none) (Inv:=fun a=>a.defers=D) (kd:=kd) (B:=Sees Φ K') (Qp:=fun c w=>∀a,a.defers=D→Q (.panic c) a w) (Q:=Q .normal) (fun h=>absurd rfl h) (fun i o a v _ he=>by cases ho:o.dst <;> exact he) (fun _ _ h=>h) (fun c a w he h=>h a he) _ _ _ _ he.defs (fun _=>⟨hm'.fz,fun r hr=>hm'.own r (hK r hr)⟩) ?_))
 have:=jX hs p _ _ _ hev hok (h _ hm')
 rw [hl] at this
 exact this
variable {Q:Act→World→Prop} {d:Nat} {v:Value} {op:Op} {ty:TypeId} {pos:String} {aft:Array Edge} {i j k m:Nat} {p q r s:PlanT} {L:Act→World→Prop}
theorem drOp_q (he:EnvR n E D a) (hi:ops[i]? = some ⟨some d,op,ty,pos,aft,none⟩) (hk:qA kd i=2) (ho:∀w,B w→Ok P a op ty w v) (hd:Nat.blt d n=true)
  (k:∀a,EnvR n ((d,v)::E) D a→L a w):vC P .any ops B kd Qp i L a w:=by
 unfold vC
 simp only [hi]
 rw [if_pos (mQ rfl _),if_neg (by rw [hk];decide)]
 exact ⟨v,fun w hw=>ho w (hw hk) _ _ _ _,k _ (he.put hd)⟩
theorem t_q (h:vC P .any ops B kd Qp i (xB P .any ops B kd Qp Q p) a w):xB P .any ops B kd Qp Q (.q i p) a w:=h
theorem z7q {p:Plan} (h:zW P .any ops B kd Qp Q p a w):xB P .any ops B kd Qp Q (.pl p) a w:=h
theorem t_e3 (h1:vC P .any ops B kd Qp i (xB P .any ops B kd Qp Q p) a w) (h2:vC P .any ops B kd Qp j (xB P .any ops B kd Qp Q q) a w) (h3:vC P .any ops B kd Qp k (xB P .any ops B kd Qp Q r) a w):xB P .any ops B kd Qp Q (.e3 i j k p q r) a w:=⟨h1,h2,h3⟩
theorem t_e4 (h1:vC P .any ops B kd Qp i (xB P .any ops B kd Qp Q p) a w) (h2:vC P .any ops B kd Qp j (xB P .any ops B kd Qp Q q) a w) (h3:vC P .any ops B kd Qp k (xB P .any ops B kd Qp Q r) a w) (h4:vC P .any ops B kd Qp m (xB P .any ops B kd Qp Q s) a w):xB P .any ops B kd Qp Q (.e4 i j k m p q r s) a w:=⟨h1,h2,h3,h4⟩
end
end
end Go.Sw

namespace Go.Sw
section
variable {P:Program} {Φ:Fz} {K:List Res} {w:World}
theorem q7t {α β:Type} {n gf p:Nat} {E:List (Nat×Value)} {Dd:List Deferred} {a:Act} {g:Operand} {assign body:Code} {Q:Exit→Act→World→Prop} {fs cs:List Value}
  (items:List α) (arg:α→Value) (KX:List Res) (KV:List α→β→List Res) (z0:β)
  (he:EnvR n E Dd a) (hm:Mem Φ (KX++KV [] z0) w) (hg:ev E g=some (.func (.func gf) fs.toArray cs.toArray)) (hf:∀args w,(callFunc gf args).run P w=.ok (.enter gf args) w) (hp:Nat.blt p n=true)
  (hr:∀pre x post z l o1 o2 K' a w,items=pre++x::post→EnvR n ((p,arg x)::E) [] a→Mem Φ (.blk l o1::(KV pre z++K')) w →
   assign.wpIn (FO (some l)) 2 P (Exit.then (fun a1 w1=>∃K1,Mem Φ (.blk l o1::K1) w1∧∀w2,Mem Φ (.blk l o2::K1) w2 →
    body.wpIn (FO (some l)) 2 P (fun e _ w=>e=.normal∧∃z,Mem Φ (.blk l o2::(KV (pre++[x]) z++K')) w) a1 w2) (fun _ _ _=>False)) a w)
  (hc:∀(y:Value) (KY:List α→β→List Res) (w:World),Takes P Φ y (fun x=>[arg x]) items KY→(∀pre z K0 w,Mem Φ (K0++KY pre z) w→∃K1,Mem Φ (K1++KV pre z) w)→Mem Φ (KX++KY [] z0) w→Calls P gf (fs++[y]++cs).toArray w (fun e w'=>∃v z,e=.returned v∧Mem Φ (KX++KY items z) w'))
  (kn:∀Dk z a w,EnvR n E ({ target:=.collected Dk,args:=#[] }::Dd) a→Mem Φ (.blk Dk (.deferred (some []))::(KX++KV items z)) w→Q .normal a w):(Code.rangeFunc g #[p] assign body).wp P Q a w:=by
 refine z3m (β:=β) (δ:=Unit) (F1:=fun _=>Φ) (KO:=fun z=>KX++KV items z) (KE:=fun _=>[]) (G:=fun _=>True) (B:=fun _ _=>False) he hm hg hf (fun Dk l r w hps has hbo hst hpd hE hm =>?_) (fun Dk z a w _ he hm=>kn Dk z a w he hm) (fun _ _ _ _ _ h=>h.elim)
 subst has;subst hbo
 have key:=hc (.func (.yield l) #[] #[]) (fun pre z=>.blk l (.loop r)::.blk Dk (.deferred (some []))::KV pre z) w ⟨⟨_,_,_,rfl⟩,fun pre x post z K0 w hit hm=>.inr ⟨l,rfl,?_⟩⟩ (fun pre z K0 w hm=>⟨K0++[.blk l (.loop r),.blk Dk (.deferred (some []))],by rw [List.append_assoc];exact hm⟩) ?_
 ·refine key.mono fun e w' h =>?_
  obtain ⟨v,z,rfl,h⟩:=h
  refine .inl ⟨v,z,rfl,trivial,h.perm ?_⟩
  exact (List.perm_middle.trans (List.Perm.cons _ List.perm_middle))
 ·have hm1:Mem Φ (.blk l (.loop r)::(KV pre z++(.blk Dk (.deferred (some []))::K0))) w:=hm.perm (List.perm_middle.trans (List.Perm.cons _ (List.perm_middle.trans ((List.Perm.cons _ List.perm_append_comm).trans List.perm_middle.symm))))
  have hl:w.heap[l]? = some (.loop r):=hm1.own _ List.mem_cons_self
  refine ⟨r.fn,r.tmps.setIfInBounds p (arg x),r.assign,r.body,?_,?_⟩
  ·rw [run_yield hl (by rw [hps];rfl),hps]
   simp
  ·have he2:EnvR n ((p,arg x)::E) [] ⟨r.tmps.setIfInBounds p (arg x),[]⟩:=hE.put (d:=p) hp
   have h:=y5z (P:=P) (Φ:=Φ) (tmps:=r.tmps.setIfInBounds p (arg x)) (KO:=fun z=>KV (pre++[x]) z++(.blk Dk (.deferred (some []))::K0)) hst hpd (hr pre x post z l _ _ _ _ _ hit he2 hm1)
   refine h.mono fun e w' hh =>?_
   obtain ⟨h1,z',h2⟩:=hh
   refine ⟨h1,z',h2.perm ?_⟩
   exact ((List.Perm.cons _ ((List.perm_middle.trans (List.Perm.cons _ List.perm_append_comm)).trans List.perm_middle.symm)).trans List.perm_middle.symm)
 ·refine hm.perm ?_
  exact ((List.Perm.cons _ List.perm_middle.symm).trans List.perm_middle.symm)
theorem Mem.see1 {r:Res} {K1:List Res} (h:Mem Φ (K1++(r::K)) w):Sees Φ [r] w:=⟨h.fz,fun x hx=>h.own x (by rw [List.mem_singleton] at hx;subst hx;simp)⟩
theorem y1p {A B C:List Res}:(A++(B++C)).Perm (B++(A++C)):=by
 rw [← List.append_assoc,← List.append_assoc];exact List.perm_append_comm.append_right _
theorem j3c {A K':List Res} {N:Next} {zf:Bs→Value} (s:Bs) (hm:Mem Φ (A++((nxK N zf++K)++K')) w):Mem Φ (.gs (zF false (.slice none 0 0) (yA (nxM N zf) s)) 9 1 (strs ((zH N s).getD []))::(A++((nxK (z0a N s) zf++K)++K'))) w:=by
 rw [List.append_assoc] at hm ⊢
 have h:=j9i s (Mem.mid (A:=A) hm)
 exact h.perm (List.Perm.cons _ y1p)
theorem q5v {A K':List Res} {N:Next} {zf:Bs→Value} {s:Bs} {v:Value} {l:List Bs} (hD:tL N) (hm:Mem Φ (.gs v 9 1 (strs l)::(A++((nxK (z0a N s) zf++K)++K'))) w):Mem Φ (A++((nxK (qM N s l) (dH zf s v)++K)++K')) w:=by
 rw [List.append_assoc] at hm ⊢
 have h:=j3b (K:=A++(K++K')) hD (hm.perm (List.Perm.cons _ y1p))
 exact Mem.mid (A:=nxK (qM N s l) (dH zf s v)) h
end
section
variable {P:Program} {n:Nat} {E:List (Nat×Value)} {D:List Deferred} {a:Act} {Φ:Fz} {K:List Res} {w:World}
variable {dst:Option Tmp} {ty:TypeId} {pos:String} {aft:Array Edge} {g:Option (Nat×Bool)} {Kn:Value→World→Prop} {Qp:List PanicEntry→World→Prop}
theorem q0l (i:Nat) {s x:Operand} {t e:TypeId} {size bytes:Nat} {v vx:Value} {xs news:List Value} (hT:RowT P t e size bytes) (he:EnvR n E D a) (hm:Mem Φ K w)
  (hs:ev E s=some v) (hk:qJ K i=some (.gs v e size xs)) (hx:ev E x=some vx) (hr:y3q w vx size news) (h1:news.all Value.oneCell'=true)
  (hb:∀n m,xs.length=n * size→news.length=m * size→((n+m)+(n+m) / 4+192) * bytes≤281474976710656)
  (k:∀v' w',Mem Φ (wK K i (.gs v' e size (xs++news))) w'→Kn v' w') :
  Oper.eff P ⟨dst,.call { callee:=.builtin .append,args:=#[s,x],argTypes:=#[t,t] },ty,pos,aft,g⟩ a w Kn Qp:=by
 obtain ⟨inf,z,hi,hz,hsz,hby,hzs⟩:=hT.info
 obtain ⟨nn,hown⟩:=hm.own _ (qH hk)
 have hp:=hT.pos
 have hxl:xs.length=nn * size:=hown.1
 have hfin:∀v' w',(Builtin.append_ #[t,t] ty #[v,vx]).run P w=.ok v' w'→Kn v' w' →
   Oper.eff P ⟨dst,.call { callee:=.builtin .append,args:=#[s,x],argTypes:=#[t,t] },ty,pos,aft,g⟩ a w Kn Qp:=by
  intro v' w' hrun hK
  unfold Oper.eff
  have:(execOp a.eval ⟨dst,.call { callee:=.builtin .append,args:=#[s,x],argTypes:=#[t,t] },ty,pos,aft,g⟩).run P w=.ok (.value v') w':=by
   simp only [execOp,resolve,invoke,builtin,Sem.run_bind,Sem.run_pure,Result.andThen_ok,List.map_toArray,List.map_cons,List.map_nil,he.ev hs,he.ev hx,hrun]
  rw [this]
  exact hK
 rcases hr with ⟨rfl,rfl⟩ | ⟨q,m',c,rfl,hl,hat⟩
 ·
  have hfit:∃p nn cap,v=.slice p nn cap∧nn≤cap:=by
   rcases hown.2 with ⟨rfl,rfl⟩ | ⟨b,cap,cur,rfl,_,_,hc,_⟩
   ·exact ⟨none,0,0,rfl,Nat.le_refl _⟩
   ·exact ⟨_,nn,cap,rfl,hc⟩
  obtain ⟨p,nn',cap,rfl,hc⟩:=hfit
  refine hfin (.slice p nn' cap) w ?_ (k _ _ ?_)
  ·cases p with
   | none=>simp [Builtin.append_,run_underlying hT.under,sizeOf,typeInfo,hi,Builtin.lenOf,Builtin.firstCells,hc]
   | some q=>simp [Builtin.append_,run_underlying hT.under,sizeOf,typeInfo,hi,Builtin.lenOf,Builtin.firstCells,hc,storeCells]
  ·rw [List.append_nil]
   exact hm.upd hk rfl rfl (fun _ _ _=>rfl) ⟨nn,hown⟩ (.inl rfl)
 ·have hbb:((nn+m')+(nn+m') / 4+192) * bytes≤281474976710656:=hb nn m' hxl hl
  have h63:nn+m'≤Go.maxLen:=by
   have:=Nat.le_trans (Nat.le_mul_of_pos_right ((nn+m')+(nn+m') / 4+192) hT.bpos) hbb
   simp only [Go.maxLen];omega
  have hsmall:nn+m'≤9223372036854775807:=by simp only [Go.maxLen] at h63;omega
  rcases hown.2 with ⟨rfl,rfl⟩ | ⟨b,cap,cur,rfl,_,hg,hc,hcm,hcs,_⟩
  ·obtain ⟨v',w',hrun,ho',hgr,_⟩:=run_append_own_wide (P:=P) w w.heap.size t ty e inf z size bytes hT.under hi hz hsz hby hzs hp (.slice none 0 0) 0 xs ⟨hown.1,.inl ⟨rfl,rfl⟩⟩ q m' c news hl hat (fun u hu=>List.all_eq_true.1 h1 u hu) h63 hbb (Nat.le_refl _)
   refine hfin v' w' hrun (k _ _ (hm.upd hk hgr.os hgr.output (fun b hb hne=>hgr.block b hb hne) ⟨0+m',?_⟩ (.inr fun b hb=>(ho'.lt b hb).1)))
   exact ⟨ho'.1,ho'.2.imp id fun ⟨g,cap,cur,h1,_,h3⟩=>⟨g,cap,cur,h1,Nat.zero_le _,h3⟩⟩
  ·obtain ⟨v',w',hrun,ho',hgr,_⟩:=run_append_own_wide (P:=P) w 0 t ty e inf z size bytes hT.under hi hz hsz hby hzs hp _ nn xs hown q m' c news hl hat (fun u hu=>List.all_eq_true.1 h1 u hu) h63 hbb (Nat.zero_le _)
   refine hfin v' w' hrun (k _ _ (hm.upd hk hgr.os hgr.output (fun b hb hne=>hgr.block b hb hne) ⟨nn+m',ho'⟩ ?_))
   by_cases hroom:nn+m'≤cap
   ·have hfit:nn * inf.size+news.length≤cur.size:=by rw [hl,hcs,hsz,← Nat.add_mul];exact Nat.mul_le_mul_right _ hroom
    have hr:=run_append_room (P:=P) w t ty e inf hT.under hi b nn cap cur hg q m' c news (by rw [hsz];exact hl) hat (fun u hu=>List.all_eq_true.1 h1 u hu) hroom hfit
    rw [hr] at hrun
    cases hrun
    exact .inl rfl
   ·have holds:∀j u,xs[j]? = some u→w.cell? ((⟨b,0,none⟩:Addr).add j)=some u:=hown.cells (g:=b) rfl
    have hr:=run_append_grow (P:=P) w t ty e inf z hT.under hi hz ⟨b,0,none⟩ nn cap xs (by rw [hsz];exact hxl) holds q m' c news (by rw [hsz];exact hl) hat (by omega) (by omega) (by rw [hby];exact growslice_fits_wide (by omega) hbb)
    rw [hr] at hrun
    cases hrun
    exact .inr fun c hc=>by simp [Res.foot,Value.ownBlock] at hc;omega
end
end Go.Sw

namespace Go.Sw
open Go.Proofs.Tryz
open Go.Proofs
set_option maxRecDepth 20000
set_option maxHeartbeats 4000000
theorem j9e {Φ:Fz} {m:List (Bs×Value)} {N:Next} (hr:MapRel (fun v x=>SliceOf RStr Φ 1 v x) m N) (s:Bs):SliceOf RStr Φ 1 (zF false (.slice none 0 0) (yA m s)) (xS N s):=by
 cases h:yA m s with
 | none=>rw [xS,hr.none h];exact SliceOf.nil 1
 | some v=>obtain ⟨x,h1,h2⟩:=hr.get h;rw [xS,h1];exact h2
def RI (nx:Next) (l:List Bs) (i:Nat) (o:From) (q:List Bs):Prop:=∃d,Bfs nx l i o q d∧i≤q.length∧qO nx l=oW nx (kS nx l+1 - i) i o q
def VI (x:Bs) (ns:List Bs) (o:From) (q:List Bs) (i k:Nat) (o2:From) (q2:List Bs):Prop:=pX x (ns.drop k) o2 q2=pX x ns o q∧q2[i]? = some x
section
variable {nx:Next} {l:List Bs} {i k:Nat} {o o2:From} {q q2 ns:List Bs} {x n:Bs}
theorem RI.start:RI nx l 0 (xN l) l:=⟨_,y3v nx l,Nat.zero_le _,rfl⟩
theorem RI.len (h:RI nx l i o q):q.length≤kS nx l:=let ⟨_,h1,_⟩:=h;z7s h1
theorem RI.step (h:RI nx l i o q) (hx:q[i]? = some x) (hv:pX x (xS nx x) o q=(o2,q2)) (hl:q2[i]? = some x):RI nx l (i+1) o2 q2:=by
 have hlen:=h.len
 obtain ⟨d,h1,h2,h3⟩:=h
 obtain ⟨d',h4⟩:=z8j h1 hx
 have hi:i < q.length:=(List.getElem?_eq_some_iff.1 hx).1
 rw [show kS nx l+1 - i=(kS nx l+1 - (i+1))+1 by omega,z6f nx _ hx,hv] at h3
 rw [hv] at h4
 exact ⟨d',h4,(List.getElem?_eq_some_iff.1 hl).1,h3⟩
theorem RI.fin (h:RI nx l i o q) (hi:¬i < q.length):o=qO nx l:=by
 obtain ⟨d,h1,h2,h3⟩:=h
 rw [h3,y1u nx _ (List.getElem?_eq_none_iff.2 (by omega))]
theorem j4a (x:Bs) (ns:List Bs) (o:From) (q:List Bs):q.length≤(pX x ns o q).2.length:=by
 obtain ⟨t,h,_⟩:=dF x ns o q
 rw [h,List.length_append];omega
theorem VI.start (hx:q[i]? = some x):VI x ns o q i 0 o q:=⟨rfl,hx⟩
theorem VI.len (h:VI x (xS nx x) o q i k o2 q2) (hr:RI nx l i o q) (hx:q[i]? = some x):q2.length≤kS nx l:=by
 obtain ⟨d,h1,h2,h3⟩:=hr
 obtain ⟨d',h4⟩:=z8j h1 hx
 have h5:=z7s h4
 rw [← h.1] at h5
 exact Nat.le_trans (j4a _ _ _ _) h5
theorem VI.skip (h:VI x ns o q i k o2 q2) (hn:ns[k]? = some n) {y:Bs} (hf:zH o2 n=some y):VI x ns o q i (k+1) o2 q2:=by
 obtain ⟨h1,h2⟩:=h
 rw [zA hn] at h1
 exact ⟨by rw [← h1,pX,hf];rfl,h2⟩
theorem VI.new (h:VI x ns o q i k o2 q2) (hn:ns[k]? = some n) (hf:zH o2 n=none):VI x ns o q i (k+1) (qM o2 n x) (q2++[n]):=by
 obtain ⟨h1,h2⟩:=h
 rw [zA hn] at h1
 exact ⟨by rw [← h1,pX,hf];rfl,by rw [List.getElem?_append_left (List.getElem?_eq_some_iff.1 h2).1];exact h2⟩
theorem VI.fin (h:VI x ns o q i k o2 q2) (hk:¬k < ns.length):pX x ns o q=(o2,q2):=by
 obtain ⟨h1,h2⟩:=h
 rw [zE hk] at h1
 exact h1.symm
theorem VI.at (h:VI x ns o q i k o2 q2):q2[i]? = some x:=h.2
end
theorem uP {Φ:Fz} {K:List Res} {w:World} {b:Addr} {g:Graph} {v:Value} {l:List Bs} (rg:RGraph Φ b g) (hb:kS g.next l≤10000000000000) (hm:Mem Φ (.gs v 9 1 (strs l)::K) w) :
  Calls prog 67 (List.toArray [.pointer (some b),v]) w (fun ee w'=>∃nb:Nat,ee=.returned (.map (some nb))∧True∧Mem Φ (.mp nb (yM (qO g.next l))::K) w'):=by
 obtain ⟨d1,nd2,fl3,pm4,nb5,nm6,hat7,rc8,rn9,rf10,ma11,mr12⟩:=id rg
 have rc8o:=rc8
 obtain ⟨p15,c16,p21,c22,p27,c28,p33,c34,rfl,h14,h20,h26,h32,hm17,hn18,hm23,hn24,hm29,hn30,hm35,hn36⟩:=RCore.fm rc8
 obtain ⟨p37,c38,rfl,hmx39,hn40⟩:=rn9.fm
 obtain ⟨p41,c42,rfl,hmx43,hn44⟩:=rf10.fm
 obtain ⟨q45,cap46,rfl⟩:=jP hm (i:=0) rfl
 have hll_:l.length≤10000000000000:=by unfold kS at hb;omega
 refine zL func67 ntmps67 fun Q hQ a he =>?_
 refine MkM fun b49 w hm a he =>?_
 refine go fun a he =>?_
 replace hm:=hm.nf
 refine go fun a he =>?_
 refine yF (he.ks [0,1,5,14,15]) hm (fun R mm a w=>∃(i:Nat) (o0:From),mm=l.length - i∧R Φ [(16,.int .i64 ((i:Nat):Int))] [(0,.mp b49 (yM o0))] a w∧(xN l=(l.drop i).foldl (fun m s=>qM m s ⟨#[]⟩) o0)) (l.length - 0) ⟨0,[],rfl,⟨he.pk,hm⟩,rfl⟩ ?_
 clear hm he
 rintro mm a w ⟨i,o0,hmu,⟨he,hm⟩,hI53⟩ L52 hL52
 replace hm:=hm.nf
 by_cases h55:i < l.length
 refine go fun a he =>?_
 obtain ⟨q59,hq60⟩:=hm.toSees.gsSome (i:=1) rfl h55
 obtain ⟨x62,hx61⟩:=zX (l:=l) (i:=i) (by first | omega | exact (List.getElem?_eq_some_iff.1 (VI.at {I})).1)
 refine Qq (fun a he =>?_) (o:=by exact fun he hs=>vU (p:=q59) i he (by rw [← hq60];rfl) rfl runUnderlying25 sizeOf9 h55)
 refine Qq (fun a he =>?_) (o:=by exact fun he hs=>cH 1 i he hs rfl (by rw [← hq60];rfl) (tW hx61) isAgg9)
 refine uX 0 runUnderlying70 runUnderlying9 fun w hm a he =>?_
 rw [aD] at hm
 refine go fun a he =>?_
 refine hL52 _ _ _ (by subst hmu;omega) ⟨(i+1),((qM o0 x62 (⟨#[]⟩:ByteArray))),rfl,⟨he.pk,hm⟩,?_⟩
 rw [hI53,zA hx61];rfl
 refine go fun a he =>?_
 refine yF (he.ks [0,5]) hm (fun R mm a w=>∃(i:Nat) (u:Value) (q:List Bs) (o:From),mm=kS g.next l - i∧R Φ [(1,u),(8,.int .i64 ((i:Nat):Int))] [(0,.mp b49 (yM o)),(1,.gs (u) 9 1 (strs q))] a w∧(RI g.next l i o q)) (kS g.next l - 0) ⟨0,.slice q45 l.length cap46,l,o0,rfl,⟨he.pk,hm⟩,by have h_:=hI53;rw [zE h55] at h_;rw [show o0=xN l from h_.symm];exact RI.start⟩ ?_
 clear hm he
 rintro mm a w ⟨i,u,q,o,hmu,⟨he,hm⟩,hI67⟩ L66 hL66
 replace hm:=hm.nf
 refine go fun a he =>?_
 obtain ⟨q70,cap71,rfl⟩:=jP hm (i:=1) rfl
 have hlq_:=RI.len hI67
 by_cases h72:i < q.length
 refine Reg [1,1,1,2,1,1,1,2,2,1,1] [0,1] fun w hm a he =>?_
 refine go fun a he =>?_
 obtain ⟨q75,hq76⟩:=hm.toSees.gsSome (i:=1) rfl h72
 obtain ⟨x78,hx77⟩:=zX (l:=q) (i:=i) (by first | omega | exact (List.getElem?_eq_some_iff.1 (VI.at {I})).1)
 refine Qq (fun a he =>?_) (o:=by exact fun he hs=>vU (p:=q75) i he (by rw [← hq76];rfl) rfl runUnderlying25 sizeOf9 h72)
 refine Qq (fun a he =>?_) (o:=by exact fun he hs=>cH 1 i he hs rfl (by rw [← hq76];rfl) (tW hx77) isAgg9)
 have hs79:=j9e mr12 x78
 obtain ⟨p80,c81,hv82,hmx83,hn84⟩:=hs79.form (by decide)
 rw [hv82] at hs79
 refine Qq (fun a he =>?_) (o:=by exact fun he hs=>Ok.cast (yD runUnderlying72 runUnderlying9 zeroValue25 he hs rfl rfl ma11) hv82)
 refine go fun a he =>?_
 refine yF (he.ks [0,5,8,37,38]) hm (fun R mm a w=>∃(k:Nat) (u2:Value) (q2:List Bs) (o2:From),mm=(xS g.next x78).length - k∧R Φ [(1,u2),(39,.int .i64 ((k:Nat):Int))] [(0,.mp b49 (yM o2)),(1,.gs (u2) 9 1 (strs q2))] a w∧(VI x78 (xS g.next x78) o q i k o2 q2)) ((xS g.next x78).length - 0) ⟨0,.slice q70 q.length cap71,q,o,rfl,⟨he.pk,hm⟩,VI.start hx77⟩ ?_
 clear hm he
 rintro mm a w ⟨k,u2,q2,o2,hmu,⟨he,hm⟩,hI86⟩ L85 hL85
 replace hm:=hm.nf
 by_cases h88:k < (xS g.next x78).length
 refine go fun a he =>?_
 obtain ⟨q92,rfl,x93,hx94,cs95,hl96,ha97,hr98⟩:=hs79.el hn84 h88
 obtain rfl:cs95=[.string x93]:=hr98
 refine go fun a he =>?_
 rcases hf100:yA ((yM o2)) x93 with _ | vf101
 have hf100_:=congrArg (zF true (.string ⟨#[]⟩)) hf100
 refine Qq (fun a he =>?_) (o:=by exact fun he hs=>Ok.cast (zQ 0 runUnderlying70 runUnderlying9 zeroValue9 he hs rfl rfl rfl) (show zF true (.string ⟨#[]⟩) (yA ((yM o2)) x93)=.tuple (List.toArray [.string ⟨#[]⟩,.bool false]) from hf100_))
 refine go fun a he =>?_
 obtain ⟨q104,cap105,rfl⟩:=jP hm (i:=1) rfl
 have hl2_:=(List.getElem?_eq_some_iff.1 (VI.at hI86)).1
 refine go fun a he =>?_
 have hb110:i < q2.length:=by omega
 obtain ⟨q106,hq107⟩:=hm.toSees.gsSome (i:=1) rfl hb110
 obtain ⟨x109,hx108⟩:=zX (l:=q2) (i:=i) (by first | omega | exact (List.getElem?_eq_some_iff.1 (VI.at {I})).1)
 refine Qq (fun a he =>?_) (o:=by exact fun he hs=>vU (p:=q106) i he (by rw [← hq107];rfl) rfl runUnderlying25 sizeOf9 hb110)
 refine Qq (fun a he =>?_) (o:=by exact fun he hs=>cH 1 i he hs rfl (by rw [← hq107];rfl) (tW hx108) isAgg9)
 have hxx_:x109=x78:=Option.some.inj (hx108.symm.trans (VI.at hI86))
 refine uX 0 runUnderlying70 runUnderlying9 fun w hm a he =>?_
 rw [aD] at hm
 refine qW fun v111 w hm a he =>?_
 refine st he rfl rfl rfl (q0l 2 (xs:=(strs q2)) (news:=[.string x93]) pS he hm rfl rfl rfl (hm.toSees.rowIn (i:=0) rfl) rfl (by intro n_ m_ hn_ hx_;have hl_:=VI.len hI86 hI67 hx77;simp only [yH,List.length_cons,List.length_nil] at hn_ hx_;omega) fun v112 w hm a he =>?_)
 replace hm:=hm.nf
 replace hm:Mem Φ (.gs (v111) 9 1 [.string x93]::.mp b49 (yM (qM o2 x93 x109))::.gs (v112) 9 1 (strs (q2++[x93]))::K) w:=by rw [qY] at hm;exact hm
 refine go fun a he =>?_
 replace hm:=hm.dl [0]
 refine hL85 _ _ _ (by subst hmu;omega) ⟨(k+1),(v112),((q2++[x93])),((qM o2 x93 x109)),rfl,⟨he.pk,hm⟩,?_⟩
 rw [hxx_];exact VI.new hI86 hx94 (kI hf100)
 obtain ⟨y113,hy114,rfl⟩:=kJ hf100
 have hf100_:=congrArg (zF true (.string ⟨#[]⟩)) hf100
 refine Qq (fun a he =>?_) (o:=by exact fun he hs=>Ok.cast (zQ 0 runUnderlying70 runUnderlying9 zeroValue9 he hs rfl rfl rfl) (show zF true (.string ⟨#[]⟩) (yA ((yM o2)) x93)=.tuple (List.toArray [.string y113,.bool true]) from hf100_))
 refine go fun a he =>?_
 refine hL85 _ _ _ (by subst hmu;omega) ⟨(k+1),(u2),(q2),(o2),rfl,⟨he.pk,hm⟩,?_⟩
 exact VI.skip hI86 hx94 hy114
 refine go fun a he =>?_
 refine hL66 (kS g.next l - (i+1)) _ _ (by subst hmu;have hl_:=RI.len hI67;omega) ⟨(i+1),(u2),(q2),(o2),rfl,⟨he.pk,hm⟩,?_⟩
 exact RI.step hI67 hx77 (VI.fin hI86 h88) (VI.at hI86)
 refine zI ?_
 replace hm:=hm.dl [1]
 rw [← RI.fin hI67 h72];exact ⟨_,rfl,trivial,hm⟩
end Go.Sw

namespace Go.Sw
open Go.Proofs.Tryz
open Go.Proofs
set_option maxRecDepth 20000
set_option maxHeartbeats 4000000
theorem y0z {o:From} {l:List Bs} {i:Nat} {x y:Bs} (h:l[i]? = some x) (hf:zH o x=some y):kW (l.drop i) o=x::kW (l.drop (i+1)) o:=by
 rw [zA h,kW,List.filter_cons,if_pos (by rw [hf];rfl)];rfl
theorem j2n {o:From} {l:List Bs} {i:Nat} {x:Bs} (h:l[i]? = some x) (hf:zH o x=none):kW (l.drop i) o=kW (l.drop (i+1)) o:=by
 rw [zA h,kW,List.filter_cons,if_neg (by rw [hf];simp)];rfl
theorem q5p (l:List Bs) (o:From):(kW l o).length≤l.length:=List.length_filter_le _ _
theorem q5o {o:From} {l:List Bs} {i:Nat} (h:¬i < l.length):kW (l.drop i) o=[]:=by rw [zE h];rfl
theorem y5m {Φ:Fz} {K:List Res} {w:World} {b:Addr} {g:Graph} {mb:Nat} {o:From} (rg:RGraph Φ b g) (hn:g.nodes.length≤1000000000) (hm:Mem Φ (.mp mb (yM o)::K) w) :
  Calls prog 42 (List.toArray [.pointer (some b),.map (some mb)]) w (fun ee w'=>∃v:Value,ee=.returned v∧True∧Mem Φ (.gs v 9 1 (strs (kW g.nodes o))::.mp mb (yM o)::K) w'):=by
 obtain ⟨d1,nd2,fl3,pm4,nb5,nm6,hat7,rc8,rn9,rf10,ma11,mr12⟩:=id rg
 have rc8o:=rc8
 obtain ⟨p15,c16,p21,c22,p27,c28,p33,c34,rfl,h14,h20,h26,h32,hm17,hn18,hm23,hn24,hm29,hn30,hm35,hn36⟩:=RCore.fm rc8
 obtain ⟨p37,c38,rfl,hmx39,hn40⟩:=rn9.fm
 obtain ⟨p41,c42,rfl,hmx43,hn44⟩:=rf10.fm
 refine zL func42 ntmps42 fun Q hQ a he =>?_
 refine go fun a he =>?_
 replace hm:=hm.nilRow 9 1
 replace hm:=hm.nf
 refine go fun a he =>?_
 refine yF (he.ks [1,13,14]) hm (fun R mm a w=>∃(i:Nat) (u:Value) (acc:List Bs),mm=g.nodes.length - i∧R Φ [(5,u),(15,.int .i64 ((i:Nat):Int))] [(0,.gs (u) 9 1 (strs acc))] a w∧(kW g.nodes o=acc++kW (g.nodes.drop i) o)) (g.nodes.length - 0) ⟨0,.slice none 0 0,[],rfl,⟨he.pk,hm⟩,rfl⟩ ?_
 clear hm he
 rintro mm a w ⟨i,u,acc,hmu,⟨he,hm⟩,hI50⟩ L49 hL49
 replace hm:=hm.nf
 by_cases h52:i < g.nodes.length
 refine go fun a he =>?_
 obtain ⟨q56,rfl,x57,hx58,cs59,hl60,ha61,hr62⟩:=rn9.el hn40 h52
 obtain rfl:cs59=[.string x57]:=hr62
 refine go fun a he =>?_
 rcases hf64:yA ((yM o)) x57 with _ | vf65
 have hf64_:=congrArg (zF true (.string ⟨#[]⟩)) hf64
 refine Qq (fun a he =>?_) (o:=by exact fun he hs=>Ok.cast (zQ 1 runUnderlying70 runUnderlying9 zeroValue9 he hs rfl rfl rfl) (show zF true (.string ⟨#[]⟩) (yA ((yM o)) x57)=.tuple (List.toArray [.string ⟨#[]⟩,.bool false]) from hf64_))
 refine go fun a he =>?_
 refine hL49 _ _ _ (by subst hmu;omega) ⟨(i+1),(u),(acc),rfl,⟨he.pk,hm⟩,?_⟩
 rw [hI50,j2n hx58 (kI hf64)]
 obtain ⟨y67,hy68,rfl⟩:=kJ hf64
 have hf64_:=congrArg (zF true (.string ⟨#[]⟩)) hf64
 refine Qq (fun a he =>?_) (o:=by exact fun he hs=>Ok.cast (zQ 1 runUnderlying70 runUnderlying9 zeroValue9 he hs rfl rfl rfl) (show zF true (.string ⟨#[]⟩) (yA ((yM o)) x57)=.tuple (List.toArray [.string y67,.bool true]) from hf64_))
 refine qW fun v70 w hm a he =>?_
 refine qL 1 pS (fun v71 w hm a he =>?_) (hb:=by have hq_:=congrArg List.length hI50;rw [y0z hx58 hy68] at hq_;have hz_:=q5p g.nodes o;simp only [List.length_append,yH,List.length_cons,List.length_nil] at hq_ ⊢;omega)
 replace hm:Mem Φ (.gs (v70) 9 1 [.string x57]::.gs (v71) 9 1 (strs (acc++[x57]))::.mp mb (yM o)::K) w:=by rw [qY] at hm;exact hm
 refine go fun a he =>?_
 replace hm:=hm.dl [0]
 refine hL49 _ _ _ (by subst hmu;omega) ⟨(i+1),(v71),((acc++[x57])),rfl,⟨he.pk,hm⟩,?_⟩
 rw [hI50,y0z hx58 hy68];simp
 refine zI ?_
 have h_:=hI50
 rw [q5o h52,List.append_nil] at h_
 rw [h_];exact ⟨_,rfl,trivial,hm⟩
end Go.Sw

namespace Go.Sw
open Go.Proofs.Tryz
open Go.Proofs
set_option maxRecDepth 20000
set_option maxHeartbeats 4000000
theorem oY (l:List Bs) (s:Bs):(zH (xN l) s).isSome=decide (s∈l):=by rw [hU];by_cases h:s∈l <;> simp [h]
def z4w (o:From) (f:Flow):Bool:=(zH o f.1).isSome && !(zH o f.2).isSome
section
variable {ns:List Bs} {fl:List Flow} {rs l:List Bs}
theorem q7b (h:¬kW ns (xN l)=l):nH ns fl rs l=false:=by
 rw [z6c] at h;simp [nH,h]
theorem q7c (h:(rs.any fun s => !(zH (xN l) s).isSome)=true):nH ns fl rs l=false:=by
 have:(rs.all fun r=>decide (r∈l))=false:=by
  rw [← Bool.not_eq_true,List.all_eq_true]
  intro hc
  obtain ⟨x,h1,h2⟩:=List.any_eq_true.1 h
  rw [oY,hc x h1] at h2;cases h2
 simp [nH,this]
theorem q7e (h1:kW ns (xN l)=l) (h2:(rs.any fun s => !(zH (xN l) s).isSome)=false):nH ns fl rs l = !(fl.any (z4w (xN l))):=by
 rw [z6c] at h1
 have e2:(rs.all fun r=>decide (r∈l))=true:=by
  rw [List.all_eq_true];intro x hx
  have:=List.any_eq_false.1 h2 x hx
  rw [oY] at this;simpa using this
 have e3:(fl.all fun f => !decide (f.1∈l) || decide (f.2∈l)) = !(fl.any (z4w (xN l))):=by
  rw [List.not_any_eq_all_not];congr 1;funext f
  simp only [z4w,oY];cases decide (f.1∈l) <;> cases decide (f.2∈l) <;> rfl
 simp only [nH,h1,e2,e3,decide_true,Bool.true_and]
end
theorem q6z {Φ:Fz} {K:List Res} {w:World} {b mb:Nat} {o:From} {s:Bs} (hm:Mem Φ (.blk b (ob [.map (some mb)] 70)::.mp mb (yM o)::K) w) :
  Calls prog 70 (List.toArray [.string s,.pointer (some ⟨b,0,none⟩)]) w (fun ee w'=>ee=.returned (.bool (!(zH o s).isSome))∧Mem Φ (.blk b (ob [.map (some mb)] 70)::.mp mb (yM o)::K) w'):=by
 refine zL func70 ntmps70 fun Q hQ a he =>?_
 refine go fun a he =>?_
 rcases hf3:yA ((yM o)) s with _ | vf4
 have hf3_:=congrArg (zF true (.string ⟨#[]⟩)) hf3
 refine Qq (fun a he =>?_) (o:=by exact fun he hs=>Ok.cast (zQ 1 runUnderlying70 runUnderlying9 zeroValue9 he hs rfl rfl rfl) (show zF true (.string ⟨#[]⟩) (yA ((yM o)) s)=.tuple (List.toArray [.string ⟨#[]⟩,.bool false]) from hf3_))
 refine zI ?_
 rw [kI hf3];exact ⟨rfl,hm⟩
 obtain ⟨y6,hy7,rfl⟩:=kJ hf3
 have hf3_:=congrArg (zF true (.string ⟨#[]⟩)) hf3
 refine Qq (fun a he =>?_) (o:=by exact fun he hs=>Ok.cast (zQ 1 runUnderlying70 runUnderlying9 zeroValue9 he hs rfl rfl rfl) (show zF true (.string ⟨#[]⟩) (yA ((yM o)) s)=.tuple (List.toArray [.string y6,.bool true]) from hf3_))
 refine zI ?_
 rw [hy7];exact ⟨rfl,hm⟩
theorem q7a {Φ:Fz} {K:List Res} {w:World} {b mb:Nat} {o:From} {d0:List Value} {f:Flow} (rf:RFlow Φ d0 f) (hm:Mem Φ (.blk b (ob [.map (some mb)] 70)::.mp mb (yM o)::K) w) :
  Calls prog 72 (List.toArray [.agg d0.toArray,.pointer (some ⟨b,0,none⟩)]) w (fun ee w'=>ee=.returned (.bool (z4w o f))∧Mem Φ (.blk b (ob [.map (some mb)] 70)::.mp mb (yM o)::K) w'):=by
 obtain rfl:=id rf
 refine zL func72 ntmps72 fun Q hQ a he =>?_
 refine Bx fun b2 w hm a he =>?_
 refine go fun a he =>?_
 rcases hf4:yA ((yM o)) f.1 with _ | vf5
 have hf4_:=congrArg (zF true (.string ⟨#[]⟩)) hf4
 refine Qq (fun a he =>?_) (o:=by exact fun he hs=>Ok.cast (zQ 2 runUnderlying70 runUnderlying9 zeroValue9 he hs rfl rfl rfl) (show zF true (.string ⟨#[]⟩) (yA ((yM o)) f.1)=.tuple (List.toArray [.string ⟨#[]⟩,.bool false]) from hf4_))
 have hn6:(zH o f.1).isSome=false:=by rw [kI hf4];rfl
 refine go fun a he =>?_
 rcases hf8:yA ((yM o)) f.2 with _ | vf9
 have hf8_:=congrArg (zF true (.string ⟨#[]⟩)) hf8
 refine Qq (fun a he =>?_) (o:=by exact fun he hs=>Ok.cast (zQ 2 runUnderlying70 runUnderlying9 zeroValue9 he hs rfl rfl rfl) (show zF true (.string ⟨#[]⟩) (yA ((yM o)) f.2)=.tuple (List.toArray [.string ⟨#[]⟩,.bool false]) from hf8_))
 have hn10:(zH o f.2).isSome=false:=by rw [kI hf8];rfl
 refine zI ?_
 replace hm:=hm.dl [0]
 rw [show z4w o f=_ from by simp only [z4w, *];rfl];exact ⟨rfl,hm⟩
 obtain ⟨y12,hy13,rfl⟩:=kJ hf8
 have hf8_:=congrArg (zF true (.string ⟨#[]⟩)) hf8
 refine Qq (fun a he =>?_) (o:=by exact fun he hs=>Ok.cast (zQ 2 runUnderlying70 runUnderlying9 zeroValue9 he hs rfl rfl rfl) (show zF true (.string ⟨#[]⟩) (yA ((yM o)) f.2)=.tuple (List.toArray [.string y12,.bool true]) from hf8_))
 have hn14:(zH o f.2).isSome=true:=by rw [hy13];rfl
 refine zI ?_
 replace hm:=hm.dl [0]
 rw [show z4w o f=_ from by simp only [z4w, *];rfl];exact ⟨rfl,hm⟩
 obtain ⟨y16,hy17,rfl⟩:=kJ hf4
 have hf4_:=congrArg (zF true (.string ⟨#[]⟩)) hf4
 refine Qq (fun a he =>?_) (o:=by exact fun he hs=>Ok.cast (zQ 2 runUnderlying70 runUnderlying9 zeroValue9 he hs rfl rfl rfl) (show zF true (.string ⟨#[]⟩) (yA ((yM o)) f.1)=.tuple (List.toArray [.string y16,.bool true]) from hf4_))
 have hn18:(zH o f.1).isSome=true:=by rw [hy17];rfl
 refine go fun a he =>?_
 rcases hf20:yA ((yM o)) f.2 with _ | vf21
 have hf20_:=congrArg (zF true (.string ⟨#[]⟩)) hf20
 refine Qq (fun a he =>?_) (o:=by exact fun he hs=>Ok.cast (zQ 2 runUnderlying70 runUnderlying9 zeroValue9 he hs rfl rfl rfl) (show zF true (.string ⟨#[]⟩) (yA ((yM o)) f.2)=.tuple (List.toArray [.string ⟨#[]⟩,.bool false]) from hf20_))
 have hn22:(zH o f.2).isSome=false:=by rw [kI hf20];rfl
 refine zI ?_
 replace hm:=hm.dl [0]
 rw [show z4w o f=_ from by simp only [z4w, *];rfl];exact ⟨rfl,hm⟩
 obtain ⟨y24,hy25,rfl⟩:=kJ hf20
 have hf20_:=congrArg (zF true (.string ⟨#[]⟩)) hf20
 refine Qq (fun a he =>?_) (o:=by exact fun he hs=>Ok.cast (zQ 2 runUnderlying70 runUnderlying9 zeroValue9 he hs rfl rfl rfl) (show zF true (.string ⟨#[]⟩) (yA ((yM o)) f.2)=.tuple (List.toArray [.string y24,.bool true]) from hf20_))
 have hn26:(zH o f.2).isSome=true:=by rw [hy25];rfl
 refine zI ?_
 replace hm:=hm.dl [0]
 rw [show z4w o f=_ from by simp only [z4w, *];rfl];exact ⟨rfl,hm⟩
end Go.Sw

namespace Go.Sw
open Go.Proofs.Tryz
open Go.Proofs
set_option maxRecDepth 20000
set_option maxHeartbeats 4000000
theorem RGraph.mono {Φ Ψ:Fz} {b:Addr} {g:Graph} (h:RGraph Φ b g) (hl:Φ.Le Ψ):RGraph Ψ b g:=by
 obtain ⟨d0,nd,fl,pm,nb,nm,h1,h2,h3,h4,h5,h6⟩:=h
 exact ⟨d0,nd,fl,pm,nb,nm,h1.mono hl,RCore.mono _ _ _ _ hl h2,h3.mono RStr.mono hl,h4.mono RFlow.mono hl,h5.mono hl,h6.mono fun _ _ h=>h.mono RStr.mono hl⟩
theorem q7d {Φ:Fz} {K:List Res} {w:World} {b:Addr} {g:Graph} {v:Value} {l:List Bs} (rg:RGraph Φ b g) (rl:SliceOf RStr Φ 1 v l) (hz:∀p∈g.core.inputs,p.name.size≤1000) (hni:g.core.inputs.length≤1000000000) (hn:g.nodes.length≤1000000000) (hm:Mem Φ K w) :
  Calls prog 43 (List.toArray [.pointer (some b),v]) w (fun ee w'=>ee=.returned (.bool (nH g.nodes g.flows (yN g.core) l))∧Mem Φ K w'):=by
 obtain ⟨d1,nd2,fl3,pm4,nb5,nm6,hat7,rc8,rn9,rf10,ma11,mr12⟩:=id rg
 have rc8o:=rc8
 obtain ⟨p15,c16,p21,c22,p27,c28,p33,c34,rfl,h14,h20,h26,h32,hm17,hn18,hm23,hn24,hm29,hn30,hm35,hn36⟩:=RCore.fm rc8
 obtain ⟨p37,c38,rfl,hmx39,hn40⟩:=rn9.fm
 obtain ⟨p41,c42,rfl,hmx43,hn44⟩:=rf10.fm
 obtain ⟨p45,c46,rfl,hmx47,hn48⟩:=rl.fm
 refine zL func43 ntmps43 fun Q hQ a he =>?_
 refine MkM fun b51 w hm a he =>?_
 replace hm:=hm.nf
 refine Alc fun b52 w hm a he =>?_
 refine Sto 0 fun w hm a he =>?_
 refine go fun a he =>?_
 refine yF (he.ks [0,1,5,9,10]) hm (fun R mm a w=>∃(i:Nat) (o0:From),mm=l.length - i∧R Φ [(11,.int .i64 ((i:Nat):Int))] [(1,.mp b51 (yM o0))] a w∧(xN l=(l.drop i).foldl (fun m s=>qM m s ⟨#[]⟩) o0)) (l.length - 0) ⟨0,[],rfl,⟨he.pk,hm⟩,rfl⟩ ?_
 clear hm he
 rintro mm a w ⟨i,o0,hmu,⟨he,hm⟩,hI56⟩ L55 hL55
 replace hm:=hm.nf
 by_cases h58:i < l.length
 refine go fun a he =>?_
 obtain ⟨q62,rfl,x63,hx64,cs65,hl66,ha67,hr68⟩:=rl.el hn48 h58
 obtain rfl:cs65=[.string x63]:=hr68
 refine uX 1 runUnderlying70 runUnderlying9 fun w hm a he =>?_
 rw [aD] at hm
 refine go fun a he =>?_
 refine hL55 _ _ _ (by subst hmu;omega) ⟨(i+1),((qM o0 x63 (⟨#[]⟩:ByteArray))),rfl,⟨he.pk,hm⟩,?_⟩
 rw [hI56,zA hx64];rfl
 refine go fun a he =>?_
 have ho_:xN l=o0:=by have h_:=hI56;rw [zE h58] at h_;exact h_
 subst ho_
 replace hm:=hm.pl 1
 refine jF call42 (fun y72 w hG73 hm a he =>?_) (c:=y5m (o:=(xN l)) rg hn hm)
 replace hm:=hm.nf
 have hm0_:=hm
 clear hm
 obtain ⟨Ψ74,le75,hm,hrow76⟩:=hm0_.freezeRow (i:=0) rfl
 clear hm0_
 replace rf10:=rf10.mono RFlow.mono le75
 replace hat7:=hat7.mono le75
 replace rc8o:=RCore.mono _ _ _ _ le75 rc8o
 replace rl:=rl.up le75
 replace rg:=rg.mono le75
 replace hm:=hm.nf
 have hsl77:SliceOf RStr Ψ74 1 _ ((kW g.nodes (xN l))):=SliceOf.strs.2 hrow76
 obtain ⟨p78,c79,hv_,hm80,hn81⟩:=hsl77.form (by decide)
 have hmk_:=hm
 clear hm
 subst hv_
 have hm:=hmk_
 clear hmk_
 refine yK call68 (fun hB82 w hm a he =>?_) (fun hB82 w hm a he =>?_) (c:=j5j hsl77 rl hm)
 refine jF call39 (fun y85 w hG86 hm a he =>?_) (c:=z2y rg hz hni hm)
 replace hm:=hm.nf
 have hm0_:=hm
 clear hm
 obtain ⟨Ψ87,le88,hm,hrow89⟩:=hm0_.freezeRow (i:=0) rfl
 clear hm0_
 replace rf10:=rf10.mono RFlow.mono le88
 replace hat7:=hat7.mono le88
 replace rc8o:=RCore.mono _ _ _ _ le88 rc8o
 replace hm:=hm.nf
 have hsl90:SliceOf RStr Ψ87 1 _ ((yN g.core)):=SliceOf.strs.2 hrow89
 obtain ⟨p91,c92,hv_,hm93,hn94⟩:=hsl90.form (by decide)
 have hmk_:=hm
 clear hm
 subst hv_
 have hm:=hmk_
 clear hmk_
 replace hm:=hm.pl 1
 refine yK call69 (fun hB95 w hm a he =>?_) (fun hB95 w hm a he =>?_) (c:=z0g (Φ:=Ψ87) (K:=.blk b52 (ob [.map (some b51)] 70)::.mp b51 (yM (xN l))::K) (p:=fun s => !(zH (xN l) s).isSome) (fs:=[]) (cs:=[.pointer (some ⟨b52,0,none⟩)]) hsl90 call70 (fun x c w hx hc hm=>q6z hm) hm)
 refine zI ?_
 replace hm:=hm.le ((le75).trans le88)
 replace hm:=hm.dl [1,0]
 rw [q7c hB95];exact ⟨rfl,hm⟩
 replace hm:=hm.ar [] [1,1]
 refine zZ call71 (fun w hm a he =>?_) (c:=y6z (Φ:=Ψ87) (K:=.blk b52 (ob [.map (some b51)] 70)::.mp b51 (yM (xN l))::K) (p:=z4w (xN l)) (fs:=[]) (cs:=[.pointer (some ⟨b52,0,none⟩)]) rf10 call72 (fun x c w hx hc hm=>q7a hc hm) hm)
 refine zI ?_
 replace hm:=hm.le ((le75).trans le88)
 replace hm:=hm.dl [1,0]
 rw [q7e (of_decide_eq_true hB82) hB95];exact ⟨rfl,hm⟩
 refine zI ?_
 replace hm:=hm.le (le75)
 replace hm:=hm.dl [1,0]
 rw [q7b (of_decide_eq_false hB82)];exact ⟨rfl,hm⟩
end Go.Sw

namespace Go.Sw
open Go.Proofs.Tryz
open Go.Proofs
set_option maxRecDepth 20000
set_option maxHeartbeats 4000000
def y0v (c:Core):Except Int Unit:=if yC c=0 then .ok () else .error (yC c)
theorem j8w {c:Core} (h:yC c=0):y0v c=.ok ():=if_pos h
theorem j2g {c:Core} (h:¬yC c=0):y0v c=.error (yC c):=if_neg h
structure LOk (c:Core):Prop where
 tidy:TidyC c
 nl:(zN c).length≤1000000000
 il:c.inputs.length≤1000000000
 fl:∀f∈c.funs,pU f.body∧mE (wZ c) f.body
 ps:∀n ps,zH (wZ c) n=some ps→∀p∈ps,p.name.size≤1000
 al:(xJ c).length≤1000000000000
 gok:GOk (zN c) (jM c)
theorem y3g (l:List Flow):(jD l).length=2 * l.length:=by
 induction l with
 | nil=>rfl
 | cons x l ih=>simp only [jD,List.flatMap_cons,List.length_append,List.length_cons,List.length_nil] at ih ⊢;omega
theorem j1e {Φ:Fz} {v:Value} {l:List Flow} (h:Row Φ v 2 (jD l)):SliceOf RFlow Φ 2 v l:=⟨_,h,gR Φ l⟩
theorem y0w {Φ:Fz} {K:List Res} {w:World} {d0:List Value} {c:Core} (rpc:RCore Φ d0 c) (G:Glob Φ) (hL:yC c=0→LOk c) (hm:Mem Φ K w) :
  Calls prog 41 (List.toArray [.agg d0.toArray]) w (fun ee w'=>Out (y0v c) (fun _=>∃y:Fz×Addr,ee=.returned (.tuple (List.toArray [.pointer (some y.2),.int .i64 0]))∧(Φ.Le y.1∧RGraph y.1 y.2 (aI c))∧Mem y.1 K w') (fun e=>ee=.returned (.tuple (List.toArray [.pointer none,.int .i64 e]))∧Mem Φ K w')):=by
 have rpc0_:=rpc
 obtain ⟨p3,c4,p9,c10,p15,c16,p21,c22,rfl,h2,h8,h14,h20,hm5,hn6,hm11,hn12,hm17,hn18,hm23,hn24⟩:=RCore.fm rpc
 refine z4b func41 rfl ntmps41 rfl (fun Q hQ a he =>?_)
 refine go fun a he =>?_
 refine Bx fun b26 w hm a he =>?_
 refine go fun a he =>?_
 refine st he rfl rfl rfl (gP he rfl call36 (z8s rpc0_ G hm) fun w hm a he =>?_)
 refine go fun a he =>?_
 by_cases h30:(yC c)=0
 refine goJ 5 fun a he =>?_
 refine sq fun L31 hL31 =>?_
 have L_:=hL h30
 have hJ32:∀a w,(∃(bg:Nat) (bp:Nat) (pm:Nat) (nx:Nat) (pn:Option Addr) (cn:Nat),EnvR 80 [(1,.pointer (some ⟨b26,0,none⟩)),(5,.pointer (some ⟨bp,0,none⟩))] [] a∧Mem Φ (.blk bg (ob [.slice p3 c.datas.length c4,.slice p9 c.inputs.length c10,.slice p15 c.funs.length c16,.slice p21 c.outputs.length c22,.slice pn (zN c).length cn,.slice none 0 0,.map (some pm),.map (some nx),.nilFunc] 75)::.gs (.slice pn (zN c).length cn) 9 1 (strs (zN c))::.mp pm []::.mp nx []::.blk bp (ob [.pointer (some ⟨bg,0,none⟩)] 66)::.blk b26 (ob [.slice p3 c.datas.length c4,.slice p9 c.inputs.length c10,.slice p15 c.funs.length c16,.slice p21 c.outputs.length c22] 27)::K) w∧(True))→L31 a w:=by
  clear hm he
  rintro a w ⟨bg,bp,pm,nx,pn,cn,he,hm,hI33⟩
  refine hL31 _ _ ?_
  refine go fun a he =>?_
  refine yF (he.ks [5,23,24]) hm (fun R mm a w=>∃(i:Nat) (m0:List (Bs×Value)) (pl:Pars),mm=c.funs.length - i∧R Φ [(25,.int .i64 ((i:Nat):Int))] [(2,.mp pm m0)] a w∧(MapRel (fun v x=>SliceOf RParam Φ 2 v x) m0 pl∧wZ c=(c.funs.drop i).foldl (fun m f=>qM m f.name f.params) pl)) (c.funs.length - 0) ⟨0,[],[],rfl,⟨he.pk,hm⟩,⟨.nil,rfl⟩⟩ ?_
  clear hm he
  rintro mm a w ⟨i,m0,pl,hmu,⟨he,hm⟩,hI37⟩ L36 hL36
  replace hm:=hm.nf
  by_cases h39:i < c.funs.length
  refine go fun a he =>?_
  obtain ⟨q43,rfl,x44,hx45,cs46,hl47,ha48,hr49⟩:=h14.el hn18 h39
  obtain ⟨s50,b56,rfl,h51,h57⟩:=id hr49
  obtain ⟨p52,c53,rfl,hm54,hn55⟩:=h51.fm
  obtain ⟨p60,c61,p66,c67,rfl,hi70,h59,h65,hm62,hn63,hm68,hn69⟩:=REx.fm h57
  refine go fun a he =>?_
  refine Alc fun b71 w hm a he =>?_
  refine Sto 0 fun w hm a he =>?_
  refine go fun a he =>?_
  refine qB [2,1,1,2,1,2,1,2,0] (.q 0 (.q 1 (.q 2 (.q 3 (.q 4 (.q 5 (.q 6 (.q 7 (.e 8 (.done)))))))))) [0,1,2,3,4,5,6] he hm fun w hm =>?_
  refine go fun a he =>?_
  refine vM he rfl rfl (gF 3 runUnderlying71 runUnderlying9 he hm rfl rfl rfl rfl fun w hm=>⟨zY (by kernel_rfl),fun a he =>?_⟩)
  replace hm:=hm.nf
  refine go fun a he =>?_
  replace hm:=hm.dl [0]
  refine hL36 _ _ _ (by subst hmu;omega) ⟨(i+1),((mZ m0 x44.name (.slice p52 x44.params.length c53))),(qM pl x44.name x44.params),rfl,⟨he.pk,hm⟩,?_⟩
  obtain ⟨h1_,h2_⟩:=hI37
  exact ⟨h1_.put h51,by rw [h2_,zA hx45];rfl⟩
  refine go fun a he =>?_
  refine st he rfl rfl rfl (y7i hm fun b74 w hm a he =>?_)
  refine Alc fun b75 w hm a he =>?_
  refine Sto 0 fun w hm a he =>?_
  refine go fun a he =>?_
  refine st he rfl rfl rfl (qS he rfl call66 (all_ok' hm) (fun y78 w hG79 hm a he =>?_))
  refine go fun a he =>?_
  obtain ⟨hmr_,hpe_⟩:=hI37
  rw [zE h39] at hpe_
  have hpr_:MapRel (fun v x=>SliceOf RParam Φ 2 v x) m0 (wZ c):=hpe_▸hmr_
  have hm0_:=hm
  clear hm
  obtain ⟨Ψ80,le81,hm,hat82⟩:=hm0_.freezeMap (i:=5) rfl
  clear hm0_
  replace h2:=h2.up le81
  replace rpc0_:=RCore.mono _ _ _ _ le81 rpc0_
  replace G:=G.mono le81
  replace hm:=hm.nf
  replace hpr_:=hpr_.mono (fun _ _ h_=>h_.mono RParam.mono le81)
  replace hm:=hm.nilRow 95 2
  replace hm:=hm.ar [] [8,8,7,5,5,8,7,7,8,8,8,8,8,7,7,7,7,8]
  refine q7t (p:=41) (xJ c) (fun x=>.agg (List.toArray [.string x.1,.string x.2])) [.blk y78 (ob [.pointer (some ⟨bg,0,none⟩)] 66)] (fun pre z=>.blk bg (ob [.slice p3 c.datas.length c4,.slice p9 c.inputs.length c10,.slice p15 c.funs.length c16,.slice p21 c.outputs.length c22,.slice pn (zN c).length cn,z.1,.map (some pm),.map (some nx),.nilFunc] 75)::.gs (z.1) 95 2 (jD (yW pre))::.blk b74 (.map (nM (yW pre)) (yW pre).length)::.mp nx (nxM (xA (yW pre)) z.2)::.blk b75 (ob [.map (some b74)] 136)::.gs (.slice pn (zN c).length cn) 9 1 (strs (zN c))::.blk bp (ob [.pointer (some ⟨bg,0,none⟩)] 66)::.blk b26 (ob [.slice p3 c.datas.length c4,.slice p9 c.inputs.length c10,.slice p15 c.funs.length c16,.slice p21 c.outputs.length c22] 27)::nxK (xA (yW pre)) z.2++K) (.slice none 0 0,fun _=>.slice none 0 0) he (hm) rfl call102 rfl (fun pre x post z l_ o1_ o2_ K1_ a w hit he hm =>?_) (fun y_ KY_ w hy_ hkv_ hm =>?_) (fun Dk z a w he hm =>?_)
  replace hm:=hm.nf
  refine regI ?_
  refine z9v he rfl rfl rfl (by intro c h;cases h) (yG (cs:=[.string ⟨#[]⟩,.string ⟨#[]⟩]) hm zeroValue95 rfl fun b83 w hm a he =>?_)
  refine y7u he rfl rfl (by intro c h;cases h) (zP 0 (cs:=[.string ⟨#[]⟩,.string ⟨#[]⟩]) (vs:=[.string x.1,.string x.2]) he hm rfl rfl rfl rfl sizeOf95 rfl rfl rfl fun w hm a he =>?_)
  replace hm:=hm.nf
  refine pN ?_
  replace hm:=hm.pl 1
  refine ⟨_,hm,fun w hm =>?_⟩
  replace hm:=hm.nf
  refine blkI ?_
  refine sqI fun L84 hL84 =>?_
  refine sqI fun L85 hL85 =>?_
  refine regI ?_
  refine yO he (by intro c h;cases h) (yS 6 he hm.toSees rfl rfl rfl isAgg136) rfl fun a he =>
    yO he (by intro c h;cases h) (yU 1 (vs:=[.string x.1,.string x.2]) he hm.toSees rfl rfl isAgg95 sizeOf95 rfl rfl) rfl fun a he =>?_
  refine yO he (by intro c h;cases h) (j4h 4 (s:=x) he hm.toSees rfl rfl rfl) rfl fun a he =>?_
  refine pN ?_
  refine hL85 _ _ ?_
  generalize hb87:(decide (x∈(yW pre)))=bb86 at he
  cases bb86
  refine if_fI he rfl ?_
  refine skipI ?_
  refine hL84 _ _ ?_
  refine sqI fun L88 hL88 =>?_
  refine regI ?_
  refine yO he (by intro c h;cases h) (yS 6 he hm.toSees rfl rfl rfl isAgg136) rfl fun a he =>
    yO he (by intro c h;cases h) (yU 1 (vs:=[.string x.1,.string x.2]) he hm.toSees rfl rfl isAgg95 sizeOf95 rfl rfl) rfl fun a he =>?_
  refine y7u he rfl rfl (by intro c h;cases h) (z9b 4 (s:=x) he hm rfl rfl rfl rfl (of_decide_eq_false hb87) fun w hm a he =>?_)
  replace hm:Mem Ψ80 (.blk l_ o2_::.blk b83 (ob [.string x.1,.string x.2] 95)::.blk bg (ob [.slice p3 c.datas.length c4,.slice p9 c.inputs.length c10,.slice p15 c.funs.length c16,.slice p21 c.outputs.length c22,.slice pn (zN c).length cn,z.1,.map (some pm),.map (some nx),.nilFunc] 75)::.gs (z.1) 95 2 (jD (yW pre))::.blk b74 (.map (nM ((yW pre)++[x])) ((yW pre)++[x]).length)::.mp nx (nxM (xA (yW pre)) z.2)::.blk b75 (ob [.map (some b74)] 136)::.gs (.slice pn (zN c).length cn) 9 1 (strs (zN c))::.blk bp (ob [.pointer (some ⟨bg,0,none⟩)] 66)::.blk b26 (ob [.slice p3 c.datas.length c4,.slice p9 c.inputs.length c10,.slice p15 c.funs.length c16,.slice p21 c.outputs.length c22] 27)::((nxK (xA (yW pre)) z.2++K)++K1_)) w:=id hm
  refine pN ?_
  refine hL88 _ _ ?_
  refine sqI fun L89 hL89 =>?_
  refine nX [2,2,1,1,2,2,0,0,1,1,0] (.q 0 (.q 1 (.q 2 (.q 3 (.q 4 (.q 5 (.e 6 (.e 7 (.q 8 (.q 9 (.e 10 (.done)))))))))))) [.blk b83 (ob [.string x.1,.string x.2] 95),.blk bg (ob [.slice p3 c.datas.length c4,.slice p9 c.inputs.length c10,.slice p15 c.funs.length c16,.slice p21 c.outputs.length c22,.slice pn (zN c).length cn,z.1,.map (some pm),.map (some nx),.nilFunc] 75),.blk b74 (.map (nM ((yW pre)++[x])) ((yW pre)++[x]).length),.mp nx (nxM (xA (yW pre)) z.2),.blk b75 (ob [.map (some b74)] 136),.gs (.slice pn (zN c).length cn) 9 1 (strs (zN c)),.blk bp (ob [.pointer (some ⟨bg,0,none⟩)] 66),.blk b26 (ob [.slice p3 c.datas.length c4,.slice p9 c.inputs.length c10,.slice p15 c.funs.length c16,.slice p21 c.outputs.length c22] 27)] he hm mixed (by kernel_rfl) (by simp) (by kernel_rfl) fun w hm =>?_
  refine go fun a he =>?_
  refine d_e he rfl rfl rfl (mV (sz:=2) he hm rfl (sX runUnderlying47 sizeOf95 zeroValue95 rfl (by decide) rfl) rfl (by decide) fun v90 w hm _=>⟨fun _=>hm.sn (Fz.Le.refl _),fun a he =>?_⟩)
  refine d_e he rfl rfl rfl (cO 4 (xs:=(jD (yW pre))) (news:=[.string x.1,.string x.2]) rt_47 he hm rfl rfl rfl (hm.toSees.rowIn (i:=0) rfl) rfl (by have hq_:=congrArg List.length hit;have hz_:=dR pre;have ha_:=L_.al;simp only [List.length_append,List.length_cons] at hq_;simp only [y3g,List.length_cons,List.length_nil];omega) fun v91 w hm=>⟨fun _=>hm.sn (Fz.Le.refl _),fun a he =>?_⟩)
  replace hm:=hm.nf
  refine go fun a he =>?_
  refine vM he rfl rfl (zP 3 he hm rfl rfl rfl (hm.toSees.gsCells (i:=4) rfl) sizeOf47 rfl (hm.toSees.gsOne (i:=4) rfl) rfl fun w hm=>⟨zY (by kernel_rfl),fun a he =>?_⟩)
  replace hm:=hm.nf
  refine go fun a he =>?_
  refine hL89 _ _ ?_
  replace hm:=j3c (A:=[.gs (v90) 95 2 [.string x.1,.string x.2],.blk l_ o2_,.blk b83 (ob [.string x.1,.string x.2] 95),.blk bg (ob [.slice p3 c.datas.length c4,.slice p9 c.inputs.length c10,.slice p15 c.funs.length c16,.slice p21 c.outputs.length c22,.slice pn (zN c).length cn,v91,.map (some pm),.map (some nx),.nilFunc] 75),.gs (v91) 95 2 ((jD (yW pre))++[.string x.1,.string x.2]),.blk b74 (.map (nM ((yW pre)++[x])) ((yW pre)++[x]).length),.mp nx (nxM (xA (yW pre)) z.2),.blk b75 (ob [.map (some b74)] 136),.gs (.slice pn (zN c).length cn) 9 1 (strs (zN c)),.blk bp (ob [.pointer (some ⟨bg,0,none⟩)] 66),.blk b26 (ob [.slice p3 c.datas.length c4,.slice p9 c.inputs.length c10,.slice p15 c.funs.length c16,.slice p21 c.outputs.length c22] 27)]) (N:=(xA (yW pre))) (zf:=z.2) x.1 hm
  obtain ⟨v0_,hgv_⟩:∃v0_,v0_=zF false (.slice none 0 0) (yA (nxM (xA (yW pre)) z.2) x.1):=⟨_,rfl⟩
  rw [← hgv_] at hm
  replace hm:Mem Ψ80 (.gs (v0_) 9 1 (strs ((zH (xA (yW pre)) x.1).getD []))::.gs (v90) 95 2 [.string x.1,.string x.2]::.blk l_ o2_::.blk b83 (ob [.string x.1,.string x.2] 95)::.blk bg (ob [.slice p3 c.datas.length c4,.slice p9 c.inputs.length c10,.slice p15 c.funs.length c16,.slice p21 c.outputs.length c22,.slice pn (zN c).length cn,v91,.map (some pm),.map (some nx),.nilFunc] 75)::.gs (v91) 95 2 ((jD (yW pre))++[.string x.1,.string x.2])::.blk b74 (.map (nM ((yW pre)++[x])) ((yW pre)++[x]).length)::.mp nx (nxM (xA (yW pre)) z.2)::.blk b75 (ob [.map (some b74)] 136)::.gs (.slice pn (zN c).length cn) 9 1 (strs (zN c))::.blk bp (ob [.pointer (some ⟨bg,0,none⟩)] 66)::.blk b26 (ob [.slice p3 c.datas.length c4,.slice p9 c.inputs.length c10,.slice p15 c.funs.length c16,.slice p21 c.outputs.length c22] 27)::((nxK (z0a (xA (yW pre)) x.1) z.2++K)++K1_)) w:=id hm
  refine nX [2,1,1,2,1,2,2,1,1,2,1,2,2,1,2,0,0,0] (.q 0 (.q 1 (.q 2 (.q 3 (.q 4 (.q 5 (.q 6 (.q 7 (.q 8 (.q 9 (.q 10 (.q 11 (.q 12 (.q 13 (.q 14 (.e 15 (.e 16 (.e 17 (.done))))))))))))))))))) [.gs (v90) 95 2 [.string x.1,.string x.2],.blk b83 (ob [.string x.1,.string x.2] 95),.blk bg (ob [.slice p3 c.datas.length c4,.slice p9 c.inputs.length c10,.slice p15 c.funs.length c16,.slice p21 c.outputs.length c22,.slice pn (zN c).length cn,v91,.map (some pm),.map (some nx),.nilFunc] 75),.gs (v91) 95 2 ((jD (yW pre))++[.string x.1,.string x.2]),.blk b74 (.map (nM ((yW pre)++[x])) ((yW pre)++[x]).length),.mp nx (nxM (xA (yW pre)) z.2),.blk b75 (ob [.map (some b74)] 136),.gs (.slice pn (zN c).length cn) 9 1 (strs (zN c)),.blk bp (ob [.pointer (some ⟨bg,0,none⟩)] 66),.blk b26 (ob [.slice p3 c.datas.length c4,.slice p9 c.inputs.length c10,.slice p15 c.funs.length c16,.slice p21 c.outputs.length c22] 27)] he hm mixed (by kernel_rfl) (by simp) (by kernel_rfl) fun w hm =>?_
  refine go fun a he =>?_
  refine d_q he rfl rfl (fun w hs=>Ok.cast (zQ 5 runUnderlying72 runUnderlying9 zeroValue25 he hs rfl rfl rfl) hgv_.symm) rfl fun a he =>?_
  refine go fun a he =>?_
  refine d_e he rfl rfl rfl (mV (sz:=1) he hm rfl (sX runUnderlying25 sizeOf9 zeroValue9 rfl (by decide) rfl) rfl (by decide) fun v92 w hm _=>⟨fun _=>hm.sn (Fz.Le.refl _),fun a he =>?_⟩)
  refine d_e he rfl rfl rfl (cO 1 (xs:=(strs ((zH (xA (yW pre)) x.1).getD []))) (news:=[.string x.2]) pS he hm rfl rfl rfl (hm.toSees.rowIn (i:=0) rfl) rfl (by have hq_:=congrArg List.length hit;have hz_:=dR pre;have ha_:=L_.al;have hl_:=nxt_len x.1 (yW pre);simp only [List.length_append,List.length_cons] at hq_;simp only [yH,List.length_cons,List.length_nil];omega) fun v93 w hm=>⟨fun _=>hm.sn (Fz.Le.refl _),fun a he =>?_⟩)
  replace hm:=hm.nf
  refine vM he rfl rfl (gF 8 runUnderlying72 runUnderlying9 he hm rfl rfl rfl rfl fun w hm=>⟨zY (by kernel_rfl),fun a he =>?_⟩)
  replace hm:=hm.nf
  refine go fun a he =>?_
  replace hm:=hm.dl [4,2,0]
  have hn_:yW (pre++[x])=yW pre++[x]:=by rw [nQ,if_neg (of_decide_eq_false hb87)]
  rw [qY,(y1f (zf:=z.2) (v:=v93) (l:=((zH (xA (yW pre)) x.1).getD []++[x.2])) (y5s (yW pre))).2] at hm
  refine ⟨rfl,(v91,dH z.2 x.1 v93),?_⟩
  rw [hn_,hM,oS,← z9m]
  exact q5v (A:=[.blk l_ o2_,.blk bg (ob [.slice p3 c.datas.length c4,.slice p9 c.inputs.length c10,.slice p15 c.funs.length c16,.slice p21 c.outputs.length c22,.slice pn (zN c).length cn,v91,.map (some pm),.map (some nx),.nilFunc] 75),.gs (v91) 95 2 ((jD (yW pre))++[.string x.1,.string x.2]),.blk b74 (.map (nM ((yW pre)++[x])) ((yW pre)++[x]).length),.mp nx (nxM (qM (xA (yW pre)) x.1 ((zH (xA (yW pre)) x.1).getD []++[x.2])) (dH z.2 x.1 v93)),.blk b75 (ob [.map (some b74)] 136),.gs (.slice pn (zN c).length cn) 9 1 (strs (zN c)),.blk bp (ob [.pointer (some ⟨bg,0,none⟩)] 66),.blk b26 (ob [.slice p3 c.datas.length c4,.slice p9 c.inputs.length c10,.slice p15 c.funs.length c16,.slice p21 c.outputs.length c22] 27)]) (y5s (yW pre)) hm
  refine if_tI he rfl ?_
  refine exitI ?_
  replace hm:=hm.dl [1]
  have hn_:yW (pre++[x])=yW pre:=by rw [nQ,if_pos (of_decide_eq_true hb87)]
  refine ⟨rfl,z,?_⟩
  rw [hn_];exact hm
  exact (all1_ok hy_ (fun pre z K0 w hm=>let ⟨K1_,h_⟩:=hkv_ pre z K0 w hm;⟨_,_,_,h_.see1⟩) rpc0_ hat82 hpr_ L_.ps L_.tidy L_.fl G hm).mono fun e_ w h=>let ⟨z,h1,_,h2⟩:=h;⟨_,z,h1,h2⟩
  replace hm:Mem Ψ80 (.blk y78 (ob [.pointer (some ⟨bg,0,none⟩)] 66)::.blk bg (ob [.slice p3 c.datas.length c4,.slice p9 c.inputs.length c10,.slice p15 c.funs.length c16,.slice p21 c.outputs.length c22,.slice pn (zN c).length cn,z.1,.map (some pm),.map (some nx),.nilFunc] 75)::.gs (z.1) 95 2 (jD (yW (xJ c)))::.blk b74 (.map (nM (yW (xJ c))) (yW (xJ c)).length)::.mp nx (nxM (xA (yW (xJ c))) z.2)::.blk b75 (ob [.map (some b74)] 136)::.gs (.slice pn (zN c).length cn) 9 1 (strs (zN c))::.blk bp (ob [.pointer (some ⟨bg,0,none⟩)] 66)::.blk b26 (ob [.slice p3 c.datas.length c4,.slice p9 c.inputs.length c10,.slice p15 c.funs.length c16,.slice p21 c.outputs.length c22] 27)::xX (Dk::[])++nxK (xA (yW (xJ c))) z.2++K) w:=Mem.mid (A:=[.blk Dk (.deferred (some []))]) (B:=[.blk y78 (ob [.pointer (some ⟨bg,0,none⟩)] 66),.blk bg (ob [.slice p3 c.datas.length c4,.slice p9 c.inputs.length c10,.slice p15 c.funs.length c16,.slice p21 c.outputs.length c22,.slice pn (zN c).length cn,z.1,.map (some pm),.map (some nx),.nilFunc] 75),.gs (z.1) 95 2 (jD (yW (xJ c))),.blk b74 (.map (nM (yW (xJ c))) (yW (xJ c)).length),.mp nx (nxM (xA (yW (xJ c))) z.2),.blk b75 (ob [.map (some b74)] 136),.gs (.slice pn (zN c).length cn) 9 1 (strs (zN c)),.blk bp (ob [.pointer (some ⟨bg,0,none⟩)] 66),.blk b26 (ob [.slice p3 c.datas.length c4,.slice p9 c.inputs.length c10,.slice p15 c.funs.length c16,.slice p21 c.outputs.length c22] 27)]) (C:=xX []++nxK (xA (yW (xJ c))) z.2++K) hm
  refine go fun a he =>?_
  refine Sto 1 fun w hm a he =>?_
  refine go fun a he =>?_
  replace hm:=hm.ar [8,7,5,3,0] [2,3,3,3]
  replace hm:Mem Ψ80 (xX (Dk::[])++(.blk bg (ob [.slice p3 c.datas.length c4,.slice p9 c.inputs.length c10,.slice p15 c.funs.length c16,.slice p21 c.outputs.length c22,.slice pn (zN c).length cn,z.1,.map (some pm),.map (some nx),.func (.func 67) (List.toArray [.pointer (some ⟨bg,0,none⟩)]) (List.toArray [])] 75)::.gs (z.1) 95 2 (jD (yW (xJ c)))::.gs (.slice pn (zN c).length cn) 9 1 (strs (zN c))::.mp nx (nxM (xA (yW (xJ c))) z.2)::nxK (xA (yW (xJ c))) z.2++K)) w:=Mem.mid (A:=[.blk bg (ob [.slice p3 c.datas.length c4,.slice p9 c.inputs.length c10,.slice p15 c.funs.length c16,.slice p21 c.outputs.length c22,.slice pn (zN c).length cn,z.1,.map (some pm),.map (some nx),.func (.func 67) (List.toArray [.pointer (some ⟨bg,0,none⟩)]) (List.toArray [])] 75),.gs (z.1) 95 2 (jD (yW (xJ c))),.gs (.slice pn (zN c).length cn) 9 1 (strs (zN c)),.mp nx (nxM (xA (yW (xJ c))) z.2)]) (B:=xX (Dk::[])) (C:=nxK (xA (yW (xJ c))) z.2++K) hm
  refine hQ _ _ _ (retX2 (ds:=(Dk::[])) he results41 rfl rfl hm fun w hm =>?_)
  obtain ⟨Ψ1,l1,hm,r1⟩:=hm.freezeRow (i:=1) rfl
  obtain ⟨Ψ2,l2,hm,r2⟩:=hm.freezeRow (i:=1) rfl
  obtain ⟨Ψ3,l3,hm,r3⟩:=hm.freezeMap (i:=1) rfl
  obtain ⟨Ψ4,l4,hm,r4⟩:=hm.freezeBlk (i:=0) rfl
  obtain ⟨Ψ5,l5,hm,r5⟩:=y4r hm
  rw [j8w h30]
  refine ⟨(Ψ5,⟨bg,0,none⟩),rfl,⟨(le81).trans (l1.trans (l2.trans (l3.trans (l4.trans l5)))),[.slice p3 c.datas.length c4,.slice p9 c.inputs.length c10,.slice p15 c.funs.length c16,.slice p21 c.outputs.length c22],_,_,_,_,_,r4.mono l5,RCore.mono _ _ _ _ (l1.trans (l2.trans (l3.trans (l4.trans l5)))) rpc0_,(SliceOf.strs.2 r2).mono RStr.mono (l3.trans (l4.trans l5)),(j1e r1).mono RFlow.mono (l2.trans (l3.trans (l4.trans l5))),r3.mono (l4.trans l5),r5⟩,hm⟩
 refine y8o [2,2,0,0,0,1,0,0,0] (.q 0 (.q 1 (.e4 2 3 4 7 (.e3 3 4 7 (.pl (.e2 4 7 (.q 5 (.e2 6 7 (.e 7 (.e 8 (.done))) (.e 6 (.e 8 (.done))))) (.e 4 (.q 5 (.e 6 (.e 8 (.done))))))) (.pl (.e2 3 7 (.q 5 (.e2 6 7 (.e 7 (.e 8 (.done))) (.e 6 (.e 8 (.done))))) (.e 3 (.q 5 (.e 6 (.e 8 (.done))))))) (.pl (.e2 3 4 (.e 4 (.q 5 (.e 6 (.e 8 (.done))))) (.e 3 (.q 5 (.e 6 (.e 8 (.done)))))))) (.e3 2 4 7 (.pl (.e2 4 7 (.q 5 (.e2 6 7 (.e 7 (.e 8 (.done))) (.e 6 (.e 8 (.done))))) (.e 4 (.q 5 (.e 6 (.e 8 (.done))))))) (.pl (.e2 2 7 (.q 5 (.e2 6 7 (.e 7 (.e 8 (.done))) (.e 6 (.e 8 (.done))))) (.e 2 (.q 5 (.e 6 (.e 8 (.done))))))) (.pl (.e2 2 4 (.e 4 (.q 5 (.e 6 (.e 8 (.done))))) (.e 2 (.q 5 (.e 6 (.e 8 (.done)))))))) (.e3 2 3 7 (.pl (.e2 3 7 (.q 5 (.e2 6 7 (.e 7 (.e 8 (.done))) (.e 6 (.e 8 (.done))))) (.e 3 (.q 5 (.e 6 (.e 8 (.done))))))) (.pl (.e2 2 7 (.q 5 (.e2 6 7 (.e 7 (.e 8 (.done))) (.e 6 (.e 8 (.done))))) (.e 2 (.q 5 (.e 6 (.e 8 (.done))))))) (.pl (.e2 2 3 (.e 3 (.q 5 (.e 6 (.e 8 (.done))))) (.e 2 (.q 5 (.e 6 (.e 8 (.done)))))))) (.e3 2 3 4 (.pl (.e2 3 4 (.e 4 (.q 5 (.e 6 (.e 8 (.done))))) (.e 3 (.q 5 (.e 6 (.e 8 (.done))))))) (.pl (.e2 2 4 (.e 4 (.q 5 (.e 6 (.e 8 (.done))))) (.e 2 (.q 5 (.e 6 (.e 8 (.done))))))) (.pl (.e2 2 3 (.e 3 (.q 5 (.e 6 (.e 8 (.done))))) (.e 2 (.q 5 (.e 6 (.e 8 (.done))))))))))) [.blk b26 (ob [.slice p3 c.datas.length c4,.slice p9 c.inputs.length c10,.slice p15 c.funs.length c16,.slice p21 c.outputs.length c22] 27)] he hm mixed (by kernel_rfl) (by simp) fun w hm =>?_
 refine t_q (drOp_q he rfl rfl (fun w hs=>yU 0 (vs:=[.slice p3 c.datas.length c4,.slice p9 c.inputs.length c10,.slice p15 c.funs.length c16,.slice p21 c.outputs.length c22]) he hs rfl rfl isAgg27 sizeOf27 rfl rfl) rfl fun a he =>?_)
 refine t_q (drOp_q he rfl rfl (fun w hs=>yU 0 (vs:=[.slice p3 c.datas.length c4,.slice p9 c.inputs.length c10,.slice p15 c.funs.length c16,.slice p21 c.outputs.length c22]) he hs rfl rfl isAgg27 sizeOf27 rfl rfl) rfl fun a he =>?_)
 refine t_e4 ?_ ?_ ?_ ?_
 refine wW he rfl rfl rfl (qS he rfl call37 (xM rpc0_ G L_.tidy L_.nl hm) (fun y96 w hG97 hm=>⟨fun _=>hm.sn (Fz.Le.refl _),fun a he =>?_⟩))
 obtain ⟨pn98,cn99,rfl⟩:=jP hm (i:=0) rfl
 replace hm:=hm.nf
 refine t_e3 ?_ ?_ ?_
 refine wW he rfl rfl rfl (zU hm fun b100 w hm=>⟨fun _=>hm.sn (Fz.Le.refl _),fun a he =>?_⟩)
 refine z7q ?_
 refine vQ ?_ ?_
 refine d_e he rfl rfl rfl (zU hm fun b101 w hm=>⟨fun _=>hm.sn (Fz.Le.refl _),fun a he =>?_⟩)
 refine kK fun a he =>?_
 refine vQ ?_ ?_
 refine d_e he rfl rfl rfl (qK he hm rfl rfl fun b102 w hm=>⟨fun _=>hm.sn (Fz.Le.refl _),fun a he =>?_⟩)
 refine d_e he rfl rfl rfl (yG hm zeroValue66 rfl fun b103 w hm=>⟨fun _=>hm.sn (Fz.Le.refl _),fun a he =>?_⟩)
 refine vM he rfl rfl (zP 0 he hm rfl rfl rfl rfl sizeOf66 rfl rfl rfl fun w hm=>⟨zY (by kernel_rfl),fun a he =>?_⟩)
 replace hm:=hm.nf
 refine go fun a he =>?_
 replace hm:=hm.ar [] [5,1,3,4,5,5]
 exact hJ32 _ _ ⟨b102,b103,b100,b101,pn98,cn99,he.pk,hm,trivial⟩
 refine d_e he rfl rfl rfl (yG hm zeroValue66 rfl fun b104 w hm=>⟨fun _=>hm.sn (Fz.Le.refl _),fun a he =>?_⟩)
 refine d_e he rfl rfl rfl (qK he hm rfl rfl fun b105 w hm=>⟨fun _=>hm.sn (Fz.Le.refl _),fun a he =>?_⟩)
 refine vM he rfl rfl (zP 1 he hm rfl rfl rfl rfl sizeOf66 rfl rfl rfl fun w hm=>⟨zY (by kernel_rfl),fun a he =>?_⟩)
 replace hm:=hm.nf
 refine go fun a he =>?_
 replace hm:=hm.ar [] [5,2,3,4,5,5]
 exact hJ32 _ _ ⟨b105,b104,b100,b101,pn98,cn99,he.pk,hm,trivial⟩
 refine d_e he rfl rfl rfl (yG hm zeroValue66 rfl fun b106 w hm=>⟨fun _=>hm.sn (Fz.Le.refl _),fun a he =>?_⟩)
 refine d_e he rfl rfl rfl (zU hm fun b107 w hm=>⟨fun _=>hm.sn (Fz.Le.refl _),fun a he =>?_⟩)
 refine kK fun a he =>?_
 refine d_e he rfl rfl rfl (qK he hm rfl rfl fun b108 w hm=>⟨fun _=>hm.sn (Fz.Le.refl _),fun a he =>?_⟩)
 refine vM he rfl rfl (zP 2 he hm rfl rfl rfl rfl sizeOf66 rfl rfl rfl fun w hm=>⟨zY (by kernel_rfl),fun a he =>?_⟩)
 replace hm:=hm.nf
 refine go fun a he =>?_
 replace hm:=hm.ar [] [5,3,3,4,5,5]
 exact hJ32 _ _ ⟨b108,b106,b100,b107,pn98,cn99,he.pk,hm,trivial⟩
 refine wW he rfl rfl rfl (zU hm fun b109 w hm=>⟨fun _=>hm.sn (Fz.Le.refl _),fun a he =>?_⟩)
 refine z7q ?_
 refine vQ ?_ ?_
 refine d_e he rfl rfl rfl (zU hm fun b110 w hm=>⟨fun _=>hm.sn (Fz.Le.refl _),fun a he =>?_⟩)
 refine kK fun a he =>?_
 refine vQ ?_ ?_
 refine d_e he rfl rfl rfl (qK he hm rfl rfl fun b111 w hm=>⟨fun _=>hm.sn (Fz.Le.refl _),fun a he =>?_⟩)
 refine d_e he rfl rfl rfl (yG hm zeroValue66 rfl fun b112 w hm=>⟨fun _=>hm.sn (Fz.Le.refl _),fun a he =>?_⟩)
 refine vM he rfl rfl (zP 0 he hm rfl rfl rfl rfl sizeOf66 rfl rfl rfl fun w hm=>⟨zY (by kernel_rfl),fun a he =>?_⟩)
 replace hm:=hm.nf
 refine go fun a he =>?_
 replace hm:=hm.ar [] [5,1,4,4,5,5]
 exact hJ32 _ _ ⟨b111,b112,b110,b109,pn98,cn99,he.pk,hm,trivial⟩
 refine d_e he rfl rfl rfl (yG hm zeroValue66 rfl fun b113 w hm=>⟨fun _=>hm.sn (Fz.Le.refl _),fun a he =>?_⟩)
 refine d_e he rfl rfl rfl (qK he hm rfl rfl fun b114 w hm=>⟨fun _=>hm.sn (Fz.Le.refl _),fun a he =>?_⟩)
 refine vM he rfl rfl (zP 1 he hm rfl rfl rfl rfl sizeOf66 rfl rfl rfl fun w hm=>⟨zY (by kernel_rfl),fun a he =>?_⟩)
 replace hm:=hm.nf
 refine go fun a he =>?_
 replace hm:=hm.ar [] [5,2,4,4,5,5]
 exact hJ32 _ _ ⟨b114,b113,b110,b109,pn98,cn99,he.pk,hm,trivial⟩
 refine d_e he rfl rfl rfl (yG hm zeroValue66 rfl fun b115 w hm=>⟨fun _=>hm.sn (Fz.Le.refl _),fun a he =>?_⟩)
 refine d_e he rfl rfl rfl (zU hm fun b116 w hm=>⟨fun _=>hm.sn (Fz.Le.refl _),fun a he =>?_⟩)
 refine kK fun a he =>?_
 refine d_e he rfl rfl rfl (qK he hm rfl rfl fun b117 w hm=>⟨fun _=>hm.sn (Fz.Le.refl _),fun a he =>?_⟩)
 refine vM he rfl rfl (zP 2 he hm rfl rfl rfl rfl sizeOf66 rfl rfl rfl fun w hm=>⟨zY (by kernel_rfl),fun a he =>?_⟩)
 replace hm:=hm.nf
 refine go fun a he =>?_
 replace hm:=hm.ar [] [5,3,4,4,5,5]
 exact hJ32 _ _ ⟨b117,b115,b116,b109,pn98,cn99,he.pk,hm,trivial⟩
 refine wW he rfl rfl rfl (yG hm zeroValue66 rfl fun b118 w hm=>⟨fun _=>hm.sn (Fz.Le.refl _),fun a he =>?_⟩)
 refine z7q ?_
 refine vQ ?_ ?_
 refine d_e he rfl rfl rfl (zU hm fun b119 w hm=>⟨fun _=>hm.sn (Fz.Le.refl _),fun a he =>?_⟩)
 refine d_e he rfl rfl rfl (zU hm fun b120 w hm=>⟨fun _=>hm.sn (Fz.Le.refl _),fun a he =>?_⟩)
 refine kK fun a he =>?_
 refine d_e he rfl rfl rfl (qK he hm rfl rfl fun b121 w hm=>⟨fun _=>hm.sn (Fz.Le.refl _),fun a he =>?_⟩)
 refine vM he rfl rfl (zP 3 he hm rfl rfl rfl rfl sizeOf66 rfl rfl rfl fun w hm=>⟨zY (by kernel_rfl),fun a he =>?_⟩)
 replace hm:=hm.nf
 refine go fun a he =>?_
 replace hm:=hm.ar [] [5,4,3,4,5,5]
 exact hJ32 _ _ ⟨b121,b118,b119,b120,pn98,cn99,he.pk,hm,trivial⟩
 refine d_e he rfl rfl rfl (zU hm fun b122 w hm=>⟨fun _=>hm.sn (Fz.Le.refl _),fun a he =>?_⟩)
 refine d_e he rfl rfl rfl (zU hm fun b123 w hm=>⟨fun _=>hm.sn (Fz.Le.refl _),fun a he =>?_⟩)
 refine kK fun a he =>?_
 refine d_e he rfl rfl rfl (qK he hm rfl rfl fun b124 w hm=>⟨fun _=>hm.sn (Fz.Le.refl _),fun a he =>?_⟩)
 refine vM he rfl rfl (zP 3 he hm rfl rfl rfl rfl sizeOf66 rfl rfl rfl fun w hm=>⟨zY (by kernel_rfl),fun a he =>?_⟩)
 replace hm:=hm.nf
 refine go fun a he =>?_
 replace hm:=hm.ar [] [5,4,4,4,5,5]
 exact hJ32 _ _ ⟨b124,b118,b123,b122,pn98,cn99,he.pk,hm,trivial⟩
 refine wW he rfl rfl rfl (zU hm fun b125 w hm=>⟨fun _=>hm.sn (Fz.Le.refl _),fun a he =>?_⟩)
 refine t_e3 ?_ ?_ ?_
 refine wW he rfl rfl rfl (qS he rfl call37 (xM rpc0_ G L_.tidy L_.nl hm) (fun y126 w hG127 hm=>⟨fun _=>hm.sn (Fz.Le.refl _),fun a he =>?_⟩))
 obtain ⟨pn128,cn129,rfl⟩:=jP hm (i:=0) rfl
 replace hm:=hm.nf
 refine z7q ?_
 refine vQ ?_ ?_
 refine d_e he rfl rfl rfl (zU hm fun b130 w hm=>⟨fun _=>hm.sn (Fz.Le.refl _),fun a he =>?_⟩)
 refine kK fun a he =>?_
 refine vQ ?_ ?_
 refine d_e he rfl rfl rfl (qK he hm rfl rfl fun b131 w hm=>⟨fun _=>hm.sn (Fz.Le.refl _),fun a he =>?_⟩)
 refine d_e he rfl rfl rfl (yG hm zeroValue66 rfl fun b132 w hm=>⟨fun _=>hm.sn (Fz.Le.refl _),fun a he =>?_⟩)
 refine vM he rfl rfl (zP 0 he hm rfl rfl rfl rfl sizeOf66 rfl rfl rfl fun w hm=>⟨zY (by kernel_rfl),fun a he =>?_⟩)
 replace hm:=hm.nf
 refine go fun a he =>?_
 replace hm:=hm.ar [] [5,1,3,5,5,5]
 exact hJ32 _ _ ⟨b131,b132,b125,b130,pn128,cn129,he.pk,hm,trivial⟩
 refine d_e he rfl rfl rfl (yG hm zeroValue66 rfl fun b133 w hm=>⟨fun _=>hm.sn (Fz.Le.refl _),fun a he =>?_⟩)
 refine d_e he rfl rfl rfl (qK he hm rfl rfl fun b134 w hm=>⟨fun _=>hm.sn (Fz.Le.refl _),fun a he =>?_⟩)
 refine vM he rfl rfl (zP 1 he hm rfl rfl rfl rfl sizeOf66 rfl rfl rfl fun w hm=>⟨zY (by kernel_rfl),fun a he =>?_⟩)
 replace hm:=hm.nf
 refine go fun a he =>?_
 replace hm:=hm.ar [] [5,2,3,5,5,5]
 exact hJ32 _ _ ⟨b134,b133,b125,b130,pn128,cn129,he.pk,hm,trivial⟩
 refine d_e he rfl rfl rfl (yG hm zeroValue66 rfl fun b135 w hm=>⟨fun _=>hm.sn (Fz.Le.refl _),fun a he =>?_⟩)
 refine d_e he rfl rfl rfl (zU hm fun b136 w hm=>⟨fun _=>hm.sn (Fz.Le.refl _),fun a he =>?_⟩)
 refine kK fun a he =>?_
 refine d_e he rfl rfl rfl (qK he hm rfl rfl fun b137 w hm=>⟨fun _=>hm.sn (Fz.Le.refl _),fun a he =>?_⟩)
 refine vM he rfl rfl (zP 2 he hm rfl rfl rfl rfl sizeOf66 rfl rfl rfl fun w hm=>⟨zY (by kernel_rfl),fun a he =>?_⟩)
 replace hm:=hm.nf
 refine go fun a he =>?_
 replace hm:=hm.ar [] [5,3,3,5,5,5]
 exact hJ32 _ _ ⟨b137,b135,b125,b136,pn128,cn129,he.pk,hm,trivial⟩
 refine wW he rfl rfl rfl (zU hm fun b138 w hm=>⟨fun _=>hm.sn (Fz.Le.refl _),fun a he =>?_⟩)
 refine z7q ?_
 refine vQ ?_ ?_
 refine d_e he rfl rfl rfl (qS he rfl call37 (xM rpc0_ G L_.tidy L_.nl hm) (fun y139 w hG140 hm=>⟨fun _=>hm.sn (Fz.Le.refl _),fun a he =>?_⟩))
 obtain ⟨pn141,cn142,rfl⟩:=jP hm (i:=0) rfl
 replace hm:=hm.nf
 refine kK fun a he =>?_
 refine vQ ?_ ?_
 refine d_e he rfl rfl rfl (qK he hm rfl rfl fun b143 w hm=>⟨fun _=>hm.sn (Fz.Le.refl _),fun a he =>?_⟩)
 refine d_e he rfl rfl rfl (yG hm zeroValue66 rfl fun b144 w hm=>⟨fun _=>hm.sn (Fz.Le.refl _),fun a he =>?_⟩)
 refine vM he rfl rfl (zP 0 he hm rfl rfl rfl rfl sizeOf66 rfl rfl rfl fun w hm=>⟨zY (by kernel_rfl),fun a he =>?_⟩)
 replace hm:=hm.nf
 refine go fun a he =>?_
 replace hm:=hm.ar [] [5,1,4,5,5,5]
 exact hJ32 _ _ ⟨b143,b144,b125,b138,pn141,cn142,he.pk,hm,trivial⟩
 refine d_e he rfl rfl rfl (yG hm zeroValue66 rfl fun b145 w hm=>⟨fun _=>hm.sn (Fz.Le.refl _),fun a he =>?_⟩)
 refine d_e he rfl rfl rfl (qK he hm rfl rfl fun b146 w hm=>⟨fun _=>hm.sn (Fz.Le.refl _),fun a he =>?_⟩)
 refine vM he rfl rfl (zP 1 he hm rfl rfl rfl rfl sizeOf66 rfl rfl rfl fun w hm=>⟨zY (by kernel_rfl),fun a he =>?_⟩)
 replace hm:=hm.nf
 refine go fun a he =>?_
 replace hm:=hm.ar [] [5,2,4,5,5,5]
 exact hJ32 _ _ ⟨b146,b145,b125,b138,pn141,cn142,he.pk,hm,trivial⟩
 refine d_e he rfl rfl rfl (yG hm zeroValue66 rfl fun b147 w hm=>⟨fun _=>hm.sn (Fz.Le.refl _),fun a he =>?_⟩)
 refine d_e he rfl rfl rfl (qS he rfl call37 (xM rpc0_ G L_.tidy L_.nl hm) (fun y148 w hG149 hm=>⟨fun _=>hm.sn (Fz.Le.refl _),fun a he =>?_⟩))
 obtain ⟨pn150,cn151,rfl⟩:=jP hm (i:=0) rfl
 replace hm:=hm.nf
 refine kK fun a he =>?_
 refine d_e he rfl rfl rfl (qK he hm rfl rfl fun b152 w hm=>⟨fun _=>hm.sn (Fz.Le.refl _),fun a he =>?_⟩)
 refine vM he rfl rfl (zP 2 he hm rfl rfl rfl rfl sizeOf66 rfl rfl rfl fun w hm=>⟨zY (by kernel_rfl),fun a he =>?_⟩)
 replace hm:=hm.nf
 refine go fun a he =>?_
 replace hm:=hm.ar [] [5,3,4,5,5,5]
 exact hJ32 _ _ ⟨b152,b147,b125,b138,pn150,cn151,he.pk,hm,trivial⟩
 refine wW he rfl rfl rfl (yG hm zeroValue66 rfl fun b153 w hm=>⟨fun _=>hm.sn (Fz.Le.refl _),fun a he =>?_⟩)
 refine z7q ?_
 refine vQ ?_ ?_
 refine d_e he rfl rfl rfl (qS he rfl call37 (xM rpc0_ G L_.tidy L_.nl hm) (fun y154 w hG155 hm=>⟨fun _=>hm.sn (Fz.Le.refl _),fun a he =>?_⟩))
 obtain ⟨pn156,cn157,rfl⟩:=jP hm (i:=0) rfl
 replace hm:=hm.nf
 refine d_e he rfl rfl rfl (zU hm fun b158 w hm=>⟨fun _=>hm.sn (Fz.Le.refl _),fun a he =>?_⟩)
 refine kK fun a he =>?_
 refine d_e he rfl rfl rfl (qK he hm rfl rfl fun b159 w hm=>⟨fun _=>hm.sn (Fz.Le.refl _),fun a he =>?_⟩)
 refine vM he rfl rfl (zP 3 he hm rfl rfl rfl rfl sizeOf66 rfl rfl rfl fun w hm=>⟨zY (by kernel_rfl),fun a he =>?_⟩)
 replace hm:=hm.nf
 refine go fun a he =>?_
 replace hm:=hm.ar [] [5,4,3,5,5,5]
 exact hJ32 _ _ ⟨b159,b153,b125,b158,pn156,cn157,he.pk,hm,trivial⟩
 refine d_e he rfl rfl rfl (zU hm fun b160 w hm=>⟨fun _=>hm.sn (Fz.Le.refl _),fun a he =>?_⟩)
 refine d_e he rfl rfl rfl (qS he rfl call37 (xM rpc0_ G L_.tidy L_.nl hm) (fun y161 w hG162 hm=>⟨fun _=>hm.sn (Fz.Le.refl _),fun a he =>?_⟩))
 obtain ⟨pn163,cn164,rfl⟩:=jP hm (i:=0) rfl
 replace hm:=hm.nf
 refine kK fun a he =>?_
 refine d_e he rfl rfl rfl (qK he hm rfl rfl fun b165 w hm=>⟨fun _=>hm.sn (Fz.Le.refl _),fun a he =>?_⟩)
 refine vM he rfl rfl (zP 3 he hm rfl rfl rfl rfl sizeOf66 rfl rfl rfl fun w hm=>⟨zY (by kernel_rfl),fun a he =>?_⟩)
 replace hm:=hm.nf
 refine go fun a he =>?_
 replace hm:=hm.ar [] [5,4,4,5,5,5]
 exact hJ32 _ _ ⟨b165,b153,b125,b160,pn163,cn164,he.pk,hm,trivial⟩
 refine wW he rfl rfl rfl (zU hm fun b166 w hm=>⟨fun _=>hm.sn (Fz.Le.refl _),fun a he =>?_⟩)
 refine t_e3 ?_ ?_ ?_
 refine wW he rfl rfl rfl (qS he rfl call37 (xM rpc0_ G L_.tidy L_.nl hm) (fun y167 w hG168 hm=>⟨fun _=>hm.sn (Fz.Le.refl _),fun a he =>?_⟩))
 obtain ⟨pn169,cn170,rfl⟩:=jP hm (i:=0) rfl
 replace hm:=hm.nf
 refine z7q ?_
 refine vQ ?_ ?_
 refine d_e he rfl rfl rfl (zU hm fun b171 w hm=>⟨fun _=>hm.sn (Fz.Le.refl _),fun a he =>?_⟩)
 refine kK fun a he =>?_
 refine vQ ?_ ?_
 refine d_e he rfl rfl rfl (qK he hm rfl rfl fun b172 w hm=>⟨fun _=>hm.sn (Fz.Le.refl _),fun a he =>?_⟩)
 refine d_e he rfl rfl rfl (yG hm zeroValue66 rfl fun b173 w hm=>⟨fun _=>hm.sn (Fz.Le.refl _),fun a he =>?_⟩)
 refine vM he rfl rfl (zP 0 he hm rfl rfl rfl rfl sizeOf66 rfl rfl rfl fun w hm=>⟨zY (by kernel_rfl),fun a he =>?_⟩)
 replace hm:=hm.nf
 refine go fun a he =>?_
 replace hm:=hm.ar [] [5,1,5,4,5,5]
 exact hJ32 _ _ ⟨b172,b173,b171,b166,pn169,cn170,he.pk,hm,trivial⟩
 refine d_e he rfl rfl rfl (yG hm zeroValue66 rfl fun b174 w hm=>⟨fun _=>hm.sn (Fz.Le.refl _),fun a he =>?_⟩)
 refine d_e he rfl rfl rfl (qK he hm rfl rfl fun b175 w hm=>⟨fun _=>hm.sn (Fz.Le.refl _),fun a he =>?_⟩)
 refine vM he rfl rfl (zP 1 he hm rfl rfl rfl rfl sizeOf66 rfl rfl rfl fun w hm=>⟨zY (by kernel_rfl),fun a he =>?_⟩)
 replace hm:=hm.nf
 refine go fun a he =>?_
 replace hm:=hm.ar [] [5,2,5,4,5,5]
 exact hJ32 _ _ ⟨b175,b174,b171,b166,pn169,cn170,he.pk,hm,trivial⟩
 refine d_e he rfl rfl rfl (yG hm zeroValue66 rfl fun b176 w hm=>⟨fun _=>hm.sn (Fz.Le.refl _),fun a he =>?_⟩)
 refine d_e he rfl rfl rfl (zU hm fun b177 w hm=>⟨fun _=>hm.sn (Fz.Le.refl _),fun a he =>?_⟩)
 refine kK fun a he =>?_
 refine d_e he rfl rfl rfl (qK he hm rfl rfl fun b178 w hm=>⟨fun _=>hm.sn (Fz.Le.refl _),fun a he =>?_⟩)
 refine vM he rfl rfl (zP 2 he hm rfl rfl rfl rfl sizeOf66 rfl rfl rfl fun w hm=>⟨zY (by kernel_rfl),fun a he =>?_⟩)
 replace hm:=hm.nf
 refine go fun a he =>?_
 replace hm:=hm.ar [] [5,3,5,4,5,5]
 exact hJ32 _ _ ⟨b178,b176,b177,b166,pn169,cn170,he.pk,hm,trivial⟩
 refine wW he rfl rfl rfl (zU hm fun b179 w hm=>⟨fun _=>hm.sn (Fz.Le.refl _),fun a he =>?_⟩)
 refine z7q ?_
 refine vQ ?_ ?_
 refine d_e he rfl rfl rfl (qS he rfl call37 (xM rpc0_ G L_.tidy L_.nl hm) (fun y180 w hG181 hm=>⟨fun _=>hm.sn (Fz.Le.refl _),fun a he =>?_⟩))
 obtain ⟨pn182,cn183,rfl⟩:=jP hm (i:=0) rfl
 replace hm:=hm.nf
 refine kK fun a he =>?_
 refine vQ ?_ ?_
 refine d_e he rfl rfl rfl (qK he hm rfl rfl fun b184 w hm=>⟨fun _=>hm.sn (Fz.Le.refl _),fun a he =>?_⟩)
 refine d_e he rfl rfl rfl (yG hm zeroValue66 rfl fun b185 w hm=>⟨fun _=>hm.sn (Fz.Le.refl _),fun a he =>?_⟩)
 refine vM he rfl rfl (zP 0 he hm rfl rfl rfl rfl sizeOf66 rfl rfl rfl fun w hm=>⟨zY (by kernel_rfl),fun a he =>?_⟩)
 replace hm:=hm.nf
 refine go fun a he =>?_
 replace hm:=hm.ar [] [5,1,5,5,5,5]
 exact hJ32 _ _ ⟨b184,b185,b179,b166,pn182,cn183,he.pk,hm,trivial⟩
 refine d_e he rfl rfl rfl (yG hm zeroValue66 rfl fun b186 w hm=>⟨fun _=>hm.sn (Fz.Le.refl _),fun a he =>?_⟩)
 refine d_e he rfl rfl rfl (qK he hm rfl rfl fun b187 w hm=>⟨fun _=>hm.sn (Fz.Le.refl _),fun a he =>?_⟩)
 refine vM he rfl rfl (zP 1 he hm rfl rfl rfl rfl sizeOf66 rfl rfl rfl fun w hm=>⟨zY (by kernel_rfl),fun a he =>?_⟩)
 replace hm:=hm.nf
 refine go fun a he =>?_
 replace hm:=hm.ar [] [5,2,5,5,5,5]
 exact hJ32 _ _ ⟨b187,b186,b179,b166,pn182,cn183,he.pk,hm,trivial⟩
 refine d_e he rfl rfl rfl (yG hm zeroValue66 rfl fun b188 w hm=>⟨fun _=>hm.sn (Fz.Le.refl _),fun a he =>?_⟩)
 refine d_e he rfl rfl rfl (qS he rfl call37 (xM rpc0_ G L_.tidy L_.nl hm) (fun y189 w hG190 hm=>⟨fun _=>hm.sn (Fz.Le.refl _),fun a he =>?_⟩))
 obtain ⟨pn191,cn192,rfl⟩:=jP hm (i:=0) rfl
 replace hm:=hm.nf
 refine kK fun a he =>?_
 refine d_e he rfl rfl rfl (qK he hm rfl rfl fun b193 w hm=>⟨fun _=>hm.sn (Fz.Le.refl _),fun a he =>?_⟩)
 refine vM he rfl rfl (zP 2 he hm rfl rfl rfl rfl sizeOf66 rfl rfl rfl fun w hm=>⟨zY (by kernel_rfl),fun a he =>?_⟩)
 replace hm:=hm.nf
 refine go fun a he =>?_
 replace hm:=hm.ar [] [5,3,5,5,5,5]
 exact hJ32 _ _ ⟨b193,b188,b179,b166,pn191,cn192,he.pk,hm,trivial⟩
 refine wW he rfl rfl rfl (yG hm zeroValue66 rfl fun b194 w hm=>⟨fun _=>hm.sn (Fz.Le.refl _),fun a he =>?_⟩)
 refine z7q ?_
 refine vQ ?_ ?_
 refine d_e he rfl rfl rfl (qS he rfl call37 (xM rpc0_ G L_.tidy L_.nl hm) (fun y195 w hG196 hm=>⟨fun _=>hm.sn (Fz.Le.refl _),fun a he =>?_⟩))
 obtain ⟨pn197,cn198,rfl⟩:=jP hm (i:=0) rfl
 replace hm:=hm.nf
 refine d_e he rfl rfl rfl (zU hm fun b199 w hm=>⟨fun _=>hm.sn (Fz.Le.refl _),fun a he =>?_⟩)
 refine kK fun a he =>?_
 refine d_e he rfl rfl rfl (qK he hm rfl rfl fun b200 w hm=>⟨fun _=>hm.sn (Fz.Le.refl _),fun a he =>?_⟩)
 refine vM he rfl rfl (zP 3 he hm rfl rfl rfl rfl sizeOf66 rfl rfl rfl fun w hm=>⟨zY (by kernel_rfl),fun a he =>?_⟩)
 replace hm:=hm.nf
 refine go fun a he =>?_
 replace hm:=hm.ar [] [5,4,5,4,5,5]
 exact hJ32 _ _ ⟨b200,b194,b199,b166,pn197,cn198,he.pk,hm,trivial⟩
 refine d_e he rfl rfl rfl (zU hm fun b201 w hm=>⟨fun _=>hm.sn (Fz.Le.refl _),fun a he =>?_⟩)
 refine d_e he rfl rfl rfl (qS he rfl call37 (xM rpc0_ G L_.tidy L_.nl hm) (fun y202 w hG203 hm=>⟨fun _=>hm.sn (Fz.Le.refl _),fun a he =>?_⟩))
 obtain ⟨pn204,cn205,rfl⟩:=jP hm (i:=0) rfl
 replace hm:=hm.nf
 refine kK fun a he =>?_
 refine d_e he rfl rfl rfl (qK he hm rfl rfl fun b206 w hm=>⟨fun _=>hm.sn (Fz.Le.refl _),fun a he =>?_⟩)
 refine vM he rfl rfl (zP 3 he hm rfl rfl rfl rfl sizeOf66 rfl rfl rfl fun w hm=>⟨zY (by kernel_rfl),fun a he =>?_⟩)
 replace hm:=hm.nf
 refine go fun a he =>?_
 replace hm:=hm.ar [] [5,4,5,5,5,5]
 exact hJ32 _ _ ⟨b206,b194,b201,b166,pn204,cn205,he.pk,hm,trivial⟩
 refine wW he rfl rfl rfl (yG hm zeroValue66 rfl fun b207 w hm=>⟨fun _=>hm.sn (Fz.Le.refl _),fun a he =>?_⟩)
 refine t_e3 ?_ ?_ ?_
 refine wW he rfl rfl rfl (qS he rfl call37 (xM rpc0_ G L_.tidy L_.nl hm) (fun y208 w hG209 hm=>⟨fun _=>hm.sn (Fz.Le.refl _),fun a he =>?_⟩))
 obtain ⟨pn210,cn211,rfl⟩:=jP hm (i:=0) rfl
 replace hm:=hm.nf
 refine z7q ?_
 refine vQ ?_ ?_
 refine d_e he rfl rfl rfl (zU hm fun b212 w hm=>⟨fun _=>hm.sn (Fz.Le.refl _),fun a he =>?_⟩)
 refine d_e he rfl rfl rfl (zU hm fun b213 w hm=>⟨fun _=>hm.sn (Fz.Le.refl _),fun a he =>?_⟩)
 refine kK fun a he =>?_
 refine d_e he rfl rfl rfl (qK he hm rfl rfl fun b214 w hm=>⟨fun _=>hm.sn (Fz.Le.refl _),fun a he =>?_⟩)
 refine vM he rfl rfl (zP 4 he hm rfl rfl rfl rfl sizeOf66 rfl rfl rfl fun w hm=>⟨zY (by kernel_rfl),fun a he =>?_⟩)
 replace hm:=hm.nf
 refine go fun a he =>?_
 replace hm:=hm.ar [] [5,5,3,4,5,5]
 exact hJ32 _ _ ⟨b214,b207,b212,b213,pn210,cn211,he.pk,hm,trivial⟩
 refine d_e he rfl rfl rfl (zU hm fun b215 w hm=>⟨fun _=>hm.sn (Fz.Le.refl _),fun a he =>?_⟩)
 refine d_e he rfl rfl rfl (zU hm fun b216 w hm=>⟨fun _=>hm.sn (Fz.Le.refl _),fun a he =>?_⟩)
 refine kK fun a he =>?_
 refine d_e he rfl rfl rfl (qK he hm rfl rfl fun b217 w hm=>⟨fun _=>hm.sn (Fz.Le.refl _),fun a he =>?_⟩)
 refine vM he rfl rfl (zP 4 he hm rfl rfl rfl rfl sizeOf66 rfl rfl rfl fun w hm=>⟨zY (by kernel_rfl),fun a he =>?_⟩)
 replace hm:=hm.nf
 refine go fun a he =>?_
 replace hm:=hm.ar [] [5,5,4,4,5,5]
 exact hJ32 _ _ ⟨b217,b207,b216,b215,pn210,cn211,he.pk,hm,trivial⟩
 refine wW he rfl rfl rfl (zU hm fun b218 w hm=>⟨fun _=>hm.sn (Fz.Le.refl _),fun a he =>?_⟩)
 refine z7q ?_
 refine vQ ?_ ?_
 refine d_e he rfl rfl rfl (qS he rfl call37 (xM rpc0_ G L_.tidy L_.nl hm) (fun y219 w hG220 hm=>⟨fun _=>hm.sn (Fz.Le.refl _),fun a he =>?_⟩))
 obtain ⟨pn221,cn222,rfl⟩:=jP hm (i:=0) rfl
 replace hm:=hm.nf
 refine d_e he rfl rfl rfl (zU hm fun b223 w hm=>⟨fun _=>hm.sn (Fz.Le.refl _),fun a he =>?_⟩)
 refine kK fun a he =>?_
 refine d_e he rfl rfl rfl (qK he hm rfl rfl fun b224 w hm=>⟨fun _=>hm.sn (Fz.Le.refl _),fun a he =>?_⟩)
 refine vM he rfl rfl (zP 4 he hm rfl rfl rfl rfl sizeOf66 rfl rfl rfl fun w hm=>⟨zY (by kernel_rfl),fun a he =>?_⟩)
 replace hm:=hm.nf
 refine go fun a he =>?_
 replace hm:=hm.ar [] [5,5,3,5,5,5]
 exact hJ32 _ _ ⟨b224,b207,b218,b223,pn221,cn222,he.pk,hm,trivial⟩
 refine d_e he rfl rfl rfl (zU hm fun b225 w hm=>⟨fun _=>hm.sn (Fz.Le.refl _),fun a he =>?_⟩)
 refine d_e he rfl rfl rfl (qS he rfl call37 (xM rpc0_ G L_.tidy L_.nl hm) (fun y226 w hG227 hm=>⟨fun _=>hm.sn (Fz.Le.refl _),fun a he =>?_⟩))
 obtain ⟨pn228,cn229,rfl⟩:=jP hm (i:=0) rfl
 replace hm:=hm.nf
 refine kK fun a he =>?_
 refine d_e he rfl rfl rfl (qK he hm rfl rfl fun b230 w hm=>⟨fun _=>hm.sn (Fz.Le.refl _),fun a he =>?_⟩)
 refine vM he rfl rfl (zP 4 he hm rfl rfl rfl rfl sizeOf66 rfl rfl rfl fun w hm=>⟨zY (by kernel_rfl),fun a he =>?_⟩)
 replace hm:=hm.nf
 refine go fun a he =>?_
 replace hm:=hm.ar [] [5,5,4,5,5,5]
 exact hJ32 _ _ ⟨b230,b207,b218,b225,pn228,cn229,he.pk,hm,trivial⟩
 refine wW he rfl rfl rfl (zU hm fun b231 w hm=>⟨fun _=>hm.sn (Fz.Le.refl _),fun a he =>?_⟩)
 refine z7q ?_
 refine vQ ?_ ?_
 refine d_e he rfl rfl rfl (qS he rfl call37 (xM rpc0_ G L_.tidy L_.nl hm) (fun y232 w hG233 hm=>⟨fun _=>hm.sn (Fz.Le.refl _),fun a he =>?_⟩))
 obtain ⟨pn234,cn235,rfl⟩:=jP hm (i:=0) rfl
 replace hm:=hm.nf
 refine d_e he rfl rfl rfl (zU hm fun b236 w hm=>⟨fun _=>hm.sn (Fz.Le.refl _),fun a he =>?_⟩)
 refine kK fun a he =>?_
 refine d_e he rfl rfl rfl (qK he hm rfl rfl fun b237 w hm=>⟨fun _=>hm.sn (Fz.Le.refl _),fun a he =>?_⟩)
 refine vM he rfl rfl (zP 4 he hm rfl rfl rfl rfl sizeOf66 rfl rfl rfl fun w hm=>⟨zY (by kernel_rfl),fun a he =>?_⟩)
 replace hm:=hm.nf
 refine go fun a he =>?_
 replace hm:=hm.ar [] [5,5,5,4,5,5]
 exact hJ32 _ _ ⟨b237,b207,b236,b231,pn234,cn235,he.pk,hm,trivial⟩
 refine d_e he rfl rfl rfl (zU hm fun b238 w hm=>⟨fun _=>hm.sn (Fz.Le.refl _),fun a he =>?_⟩)
 refine d_e he rfl rfl rfl (qS he rfl call37 (xM rpc0_ G L_.tidy L_.nl hm) (fun y239 w hG240 hm=>⟨fun _=>hm.sn (Fz.Le.refl _),fun a he =>?_⟩))
 obtain ⟨pn241,cn242,rfl⟩:=jP hm (i:=0) rfl
 replace hm:=hm.nf
 refine kK fun a he =>?_
 refine d_e he rfl rfl rfl (qK he hm rfl rfl fun b243 w hm=>⟨fun _=>hm.sn (Fz.Le.refl _),fun a he =>?_⟩)
 refine vM he rfl rfl (zP 4 he hm rfl rfl rfl rfl sizeOf66 rfl rfl rfl fun w hm=>⟨zY (by kernel_rfl),fun a he =>?_⟩)
 replace hm:=hm.nf
 refine go fun a he =>?_
 exact hJ32 _ _ ⟨b243,b207,b238,b231,pn241,cn242,he.pk,hm,trivial⟩
 refine go fun a he =>?_
 replace hm:=hm.dl [0]
 replace hm:Mem Φ (xX []++(K)) w:=Mem.mid (A:=[]) (B:=xX []) (C:=K) hm
 refine hQ _ _ _ (retX2 (ds:=[]) he results41 rfl rfl hm fun w hm =>?_)
 rw [j2g h30];exact ⟨rfl,hm⟩
end Go.Sw

namespace Go.Sw
section
variable {P:Program} {n:Nat} {E:List (Nat×Value)} {D:List Deferred} {a:Act} {Φ:Fz} {K:List Res} {w:World}
variable {dst:Option Tmp} {ty:TypeId} {pos:String} {aft:Array Edge} {g:Option (Nat×Bool)} {Kn:Value→World→Prop} {Qp:List PanicEntry→World→Prop}
theorem x0m {cur:List Value} {k j:Nat} {v:Value} (hl:j < cur.length):(cur.take j++(v::cur.drop (j+1))).take k=(cur.take k).set j v:=by
 have h:cur.take j++(v::cur.drop (j+1))=cur.set j v:=by rw [List.set_eq_take_append_cons_drop,if_pos hl]
 rw [h,List.take_set]
theorem z1u (i j:Nat) {x y:Operand} {T:TypeId} {q:Addr} {m c:Nat} {val:Value} {cells:List Value} (he:EnvR n E D a) (hm:Mem Φ K w)
  (hx:ev E x=some (.pointer (some (q.add (j * 1))))) (hy:ev E y=some val) (hk:qJ K i=some (.gs (.slice (some q) m c) T 1 cells)) (hj:j < cells.length) (hc:val.cells.toList=[val]) (hS:SizeT P T 1) (h1:val.oneCell'=true)
  (kk:∀w',Mem Φ (wK K i (.gs (.slice (some q) m c) T 1 (cells.set j val))) w'→Kn undef w'):Oper.eff P ⟨dst,.store T x y,ty,pos,aft,g⟩ a w Kn Qp:=by
 obtain ⟨n0,hl,h2⟩:=hm.own _ (qH hk)
 rcases h2 with ⟨h2,_⟩ | ⟨b,cap,cur,h2,hb0,hb,hnc,hcm,hcs,htk⟩
 ·cases h2
 ·cases h2
  have hlt:j < cur.toList.length:=by
   have:(cur.toList.take (m * 1)).length=cells.length:=by rw [htk]
   rw [List.length_take] at this;omega
  have hb':w.heap[b]? = some (.cells cur.toList.toArray T (0,0)):=by simpa using hb
  have hr:=run_storeCells_at P b j T [val] 0 cur w hb (by have:=hlt;simp at this ⊢;omega) (fun v hv=>by rw [List.mem_singleton] at hv;subst hv;exact h1)
  have ha:(⟨b,0,none⟩:Addr).add (j * 1)=⟨b,j,none⟩:=by
   unfold Addr.add;split
   ·rename_i h0;rw [Nat.mul_one] at h0;subst h0;rfl
   ·simp
  rw [ha] at hx
  have hsz:val.cells.size=1:=by rw [← Array.length_toList,hc];rfl
  unfold Oper.eff
  have:(execOp a.eval ⟨dst,.store T x y,ty,pos,aft,g⟩).run P w=.ok .skip (w.setRow b (pB cur.toList j [val]).toArray):=by
   simp only [execOp,he.ev hx,he.ev hy]
   simp only [Nat.add_zero] at hr
   simp [Instr.storeAt,Instr.sureAddr,storeVar,Sem.run_bind,hS w,hsz,hc,hr,oB]
  rw [this]
  refine kk _ (hm.upd hk rfl rfl (fun x hc hne=>setRow_other w b x _ (fun e=>hne (by simp [Res.foot,Value.ownBlock,e]))) ?_ (.inl rfl))
  refine ⟨m,by rw [List.length_set];exact hl,.inr ⟨b,c,(pB cur.toList j [val]).toArray,rfl,hb0,setRow_heap w b _ _ T _ hb,hnc,hcm,?_,?_⟩⟩
  ·rw [← hcs,oB,List.size_toArray]
   simp only [List.length_append,List.length_take,List.length_cons,List.length_nil,List.length_drop,Array.length_toList] at *
   omega
  ·rw [oB,List.toList_toArray,← htk]
   exact x0m hlt
theorem x1s (i:Nat) {x:Operand} {t kt et:TypeId} {b:Nat} {m:List (Bs×Value)} (he:EnvR n E D a) (hs:Sees Φ K w) (hx:ev E x=some (.map (some b))) (hk:qJ K i=some (.mp b m)) (ht:Under P t (.map kt et)) :
  Ok P a (.call { callee:=.builtin .len,args:=#[x],argTypes:=#[t] }) ty w (.int .i64 (m.length:Int)):=fun _ _ _ _=>by
 obtain ⟨es,clock,h1,h2⟩:=hs.own _ (qH hk)
 have h3:(getObj b).run P w=.ok (.map es clock) w:=by simp [getObj,Sem.run,h1]
 have h4:es.size=m.length:=by have:=congrArg List.length h2.eq;simpa using this
 simp only [execOp,resolve]
 simp [Sem.run_bind,Result.andThen,invoke,builtin,he.ev hx,Builtin.len_,ht w,goInt,h3,h4]
theorem z6i (o:Scope):(yM o).length=o.length:=by
 induction o with
 | nil=>rfl
 | cons p o ih=>obtain ⟨k,v⟩:=p;simp only [yM,List.map_cons,List.length_cons] at ih ⊢;omega
end
end Go.Sw

namespace Go.Sw
open Go.Proofs.Tryz
open Go.Proofs
set_option maxRecDepth 20000
set_option maxHeartbeats 4000000
theorem q3c (l:List Bs) (i:Nat) (x:Bs):strs (l.set i x)=(strs l).set i (.string x):=by simp [strs,List.map_set]
def RvI (l:List Bs) (i j:Nat) (m:List Bs):Prop:=m.length=l.length∧i+j+1=l.length∧∀k,m[k]? = if k < i∨j < k then l.reverse[k]? else l[k]?
theorem q6j {l:List Bs} {k j:Nat} (h:k+j+1=l.length):l.reverse[k]? = l[j]? := by
 rw [List.getElem?_reverse (by omega)];congr 1;omega
theorem RvI.start {l:List Bs} (h:l≠[]):RvI l 0 (l.length - 1) l:=by
 have:=List.length_pos_iff.2 h
 refine ⟨rfl,by omega,fun k =>?_⟩
 by_cases hk:l.length - 1 < k
 rw [if_pos (.inr hk),List.getElem?_eq_none_iff.2 (by omega),List.getElem?_eq_none_iff.2 (by rw [List.length_reverse];omega)]
 rw [if_neg (by omega)]
theorem RvI.step {l m:List Bs} {i j:Nat} {x y:Bs} (h:RvI l i j m) (hij:i < j) (hx:m[i]? = some x) (hy:m[j]? = some y):RvI l (i+1) (j - 1) ((m.set i y).set j x):=by
 obtain ⟨h1,h2,h3⟩:=h
 have ex:=h3 i;rw [if_neg (by omega),hx] at ex
 have ey:=h3 j;rw [if_neg (by omega),hy] at ey
 refine ⟨by rw [List.length_set,List.length_set,h1],by omega,fun k =>?_⟩
 rw [List.getElem?_set,List.getElem?_set,List.length_set]
 by_cases kj:j=k
 subst kj;rw [if_pos rfl,if_pos (by omega),if_pos (by omega),q6j (j:=i) (by omega)];exact ex
 rw [if_neg kj]
 by_cases ki:i=k
 subst ki;rw [if_pos rfl,if_pos (by omega),if_pos (by omega),q6j (j:=j) (by omega)];exact ey
 rw [if_neg ki,h3 k]
 by_cases hk:k < i∨j < k
 rw [if_pos hk,if_pos (by omega)]
 rw [if_neg hk,if_neg (by omega)]
theorem RvI.fin {l m:List Bs} {i j:Nat} (h:RvI l i j m) (hij:¬i < j):m=l.reverse:=by
 obtain ⟨h1,h2,h3⟩:=h
 apply List.ext_getElem?
 intro k
 rw [h3 k]
 by_cases hk:k < i∨j < k
 rw [if_pos hk]
 rw [if_neg hk,q6j (j:=k) (by omega)]
theorem q6k {Φ:Fz} {K:List Res} {w:World} {v:Value} {l:List Bs} (hne:l≠[]) (hlen:l.length≤2000000000000) (hm:Mem Φ (.gs v 9 1 (strs l)::K) w) :
  Calls prog 85 (List.toArray [v]) w (fun ee w'=>ee=.returned (.tuple (List.toArray []))∧Mem Φ (.gs v 9 1 (strs l.reverse)::K) w'):=by
 obtain ⟨q1,cap2,rfl⟩:=jP hm (i:=0) rfl
 have hp_:=List.length_pos_iff.2 hne
 refine zL func85 ntmps85 fun Q hQ a he =>?_
 refine Qq (fun a he =>?_) (o:=by exact fun he hs=>pY ((l.length - 1:Nat):Int) he rfl rfl (by rw [yX (by omega)];omega))
 refine go fun a he =>?_
 refine yF (he.ks [0]) hm (fun R mm a w=>∃(i:Nat) (j:Nat) (m:List Bs),mm=j - i∧R Φ [(2,.int .i64 ((i:Nat):Int)),(3,.int .i64 ((j:Nat):Int))] [(0,.gs (.slice q1 l.length cap2) 9 1 (strs m))] a w∧(RvI l i j m)) ((l.length - 1) - 0) ⟨0,l.length - 1,l,rfl,⟨he.pk,hm⟩,RvI.start hne⟩ ?_
 clear hm he
 rintro mm a w ⟨i,j,m,hmu,⟨he,hm⟩,hI5⟩ L4 hL4
 replace hm:=hm.nf
 obtain ⟨hI1_,hI2_,hI3_⟩:=id hI5
 by_cases h8:i < j
 refine Reg [1,1,1,1,1,1,1,2,1,1,1,2,1,0,1,0] [0] fun w hm a he =>?_
 refine go fun a he =>?_
 have hb14:j < l.length:=by omega
 obtain ⟨q10,hq11⟩:=hm.toSees.gsSome (i:=0) rfl hb14
 obtain ⟨x13,hx12⟩:=zX (l:=m) (i:=j) (by first | omega | (rw [List.length_set];omega))
 refine Qq (fun a he =>?_) (o:=by exact fun he hs=>vU (p:=q10) j he (by rw [← hq11];rfl) rfl runUnderlying25 sizeOf9 hb14)
 refine Qq (fun a he =>?_) (o:=by exact fun he hs=>cH 0 j he hs rfl (by rw [← hq11];rfl) (tW hx12) isAgg9)
 refine go fun a he =>?_
 have hb19:i < l.length:=by omega
 obtain ⟨q15,hq16⟩:=hm.toSees.gsSome (i:=0) rfl hb19
 obtain ⟨x18,hx17⟩:=zX (l:=m) (i:=i) (by first | omega | (rw [List.length_set];omega))
 refine Qq (fun a he =>?_) (o:=by exact fun he hs=>vU (p:=q15) i he (by rw [← hq16];rfl) rfl runUnderlying25 sizeOf9 hb19)
 refine Qq (fun a he =>?_) (o:=by exact fun he hs=>cH 0 i he hs rfl (by rw [← hq16];rfl) (tW hx17) isAgg9)
 obtain ⟨q20,hq21⟩:=hm.toSees.gsSome (i:=0) rfl hb19
 obtain ⟨x23,hx22⟩:=zX (l:=m) (i:=i) (by first | omega | (rw [List.length_set];omega))
 refine Qq (fun a he =>?_) (o:=by exact fun he hs=>vU (p:=q20) i he (by rw [← hq21];rfl) rfl runUnderlying25 sizeOf9 hb19)
 refine vM he rfl rfl (z1u 0 i he hm rfl rfl (by rw [← hq21];rfl) (by rw [yH];first | omega | (rw [List.length_set];omega)) rfl sizeOf9 rfl fun w hm=>⟨zY (by kernel_rfl),fun a he =>?_⟩)
 replace hm:Mem Φ (.gs (.slice q1 l.length cap2) 9 1 (strs (m.set i x13))::K) w:=by rw [hq21,q3c];exact hm
 obtain ⟨q24,hq25⟩:=hm.toSees.gsSome (i:=0) rfl hb14
 obtain ⟨x27,hx26⟩:=zX (l:=(m.set i x13)) (i:=j) (by first | omega | (rw [List.length_set];omega))
 refine Qq (fun a he =>?_) (o:=by exact fun he hs=>vU (p:=q24) j he (by rw [← hq25];rfl) rfl runUnderlying25 sizeOf9 hb14)
 refine vM he rfl rfl (z1u 0 j he hm rfl rfl (by rw [← hq25];rfl) (by rw [yH];first | omega | (rw [List.length_set];omega)) rfl sizeOf9 rfl fun w hm=>⟨zY (by kernel_rfl),fun a he =>?_⟩)
 replace hm:Mem Φ (.gs (.slice q1 l.length cap2) 9 1 (strs ((m.set i x13).set j x18))::K) w:=by rw [hq25,q3c];exact hm
 refine Qq (fun a he =>?_) (o:=by exact fun he hs=>pY ((j - 1:Nat):Int) he rfl rfl (by rw [yX (by omega)];omega))
 refine go fun a he =>?_
 refine hL4 _ _ _ (by subst hmu;omega) ⟨(i+1),(j - 1),(((m.set i x13).set j x18)),rfl,⟨he.pk,hm⟩,?_⟩
 exact RvI.step hI5 h8 hx17 hx12
 refine go fun a he =>?_
 refine hQ _ _ _ (y5y he results85 ?_)
 rw [RvI.fin hI5 h8] at hm;exact ⟨rfl,hm⟩
end Go.Sw

namespace Go.Sw
open Go.Proofs.Tryz
open Go.Proofs
set_option maxRecDepth 20000
set_option maxHeartbeats 4000000
theorem j3d:∀l:List Flow,((xA l).flatMap (·.2)).length=l.length:=by
 have put:∀(m:Next) (k x:Bs),((qM m k ((zH m k).getD []++[x])).flatMap (·.2)).length=(m.flatMap (·.2)).length+1:=by
  intro m k x
  induction m with
  | nil=>simp [qM,zH]
  | cons p m ih =>
   obtain ⟨j,y⟩:=p
   by_cases h:k=j
   subst h;simp [qM,zH];omega
   simp only [qM,zH,if_neg h,List.flatMap_cons,List.length_append,ih];omega
 refine nG (by simp [xA]) (fun l x ih =>?_)
 rw [hM,oS,put,ih,List.length_append];rfl
def PathOk (nx:Next) (rs:List Bs) (n:Bs) (l:List Bs):Prop:=∃p,l=p++[n]∧y9i nx l∧(∀x,l[0]? = some x→x∈rs)∧∀k,Way nx rs k n→p.length≤k
def y1o (nx:Next) (rs:List Bs) (n:Bs):Except Unit Unit:=if (zH (qO nx rs) n).isSome then .ok () else .error ()
theorem y3u {nx:Next} {l:List Bs} {o:From} {q:List Bs} {d:Bs→Nat} (h:Bfs nx l q.length o q d):∀(n:Nat) (s:Bs),d s≤n→(zH o s).isSome=true→∃L:List Bs,L.length=d s+1∧L.Nodup∧(∀x∈L,x∈q)∧∀x∈L,d x≤d s
 | n,s,hn,hs=>by
  by_cases hl:s∈l
  exact ⟨[s],by rw [(h.root s hl).2];rfl,by simp,fun x hx=>by rw [List.mem_singleton] at hx;subst hx;exact (h.mem _).1 hs,fun x hx=>by rw [List.mem_singleton] at hx;subst hx;exact Nat.le_refl _⟩
  obtain ⟨p,hp⟩:=Option.isSome_iff_exists.1 hs
  obtain ⟨h1,h2,h3⟩:=h.back s p hp hl
  cases n with
  | zero=>omega
  | succ n =>
   obtain ⟨L,e1,e2,e3,e4⟩:=y3u h n p (by omega) h1
   refine ⟨s::L,by rw [List.length_cons,e1,h3],List.nodup_cons.2 ⟨fun hc=>by have:=e4 s hc;omega,e2⟩,fun x hx =>?_,fun x hx =>?_⟩
   rcases List.mem_cons.1 hx with rfl | hx
   exact (h.mem _).1 hs
   exact e3 x hx
   rcases List.mem_cons.1 hx with rfl | hx
   exact Nat.le_refl _
   have:=e4 x hx;omega
def PI (nx:Next) (o:From) (d:Bs→Nat) (n:Bs) (acc:List Bs) (s:Bs):Prop:=(zH o s).isSome=true∧acc.length+d s=d n∧y9i nx (s::acc.reverse)∧∃p,s::acc.reverse=p++[n]
section
variable {nx:Next} {l q acc:List Bs} {o:From} {d:Bs→Nat} {n s t:Bs}
theorem PI.start (h:(zH o n).isSome=true):PI nx o d n [] n:=⟨h,by simp,j3z _ _,[],rfl⟩
theorem PI.len (hb:Bfs nx l q.length o q d) (hs:(zH o n).isSome=true) (h:PI nx o d n acc s):acc.length+1≤kS nx l:=by
 obtain ⟨L,e1,e2,e3,_⟩:=y3u hb _ n (Nat.le_refl _) hs
 have h1:=z4v e2 e3
 have h2:=z7s hb
 have:=h.2.1;omega
theorem PI.root (hb:Bfs nx l q.length o q d) (h0:zH o sE=none) (h:zH o s=some sE):s∈l:=by
 refine Decidable.byContradiction fun hl =>?_
 have:=(hb.back s sE h hl).1
 rw [h0] at this;cases this
theorem PI.fin (hb:Bfs nx l q.length o q d) (h0:zH o sE=none) (h:PI nx o d n acc s) (hs:zH o s=some sE):PathOk nx l n (acc++[s]).reverse:=by
 have hr:=PI.root hb h0 hs
 obtain ⟨h1,h2,h3,p,h4⟩:=h
 rw [List.reverse_append]
 refine ⟨p,h4,h3,fun x hx =>?_,fun k hk =>?_⟩
 simp at hx;subst hx;exact hr
 have hl:p.length=acc.length:=by have:=congrArg List.length h4;simp at this;omega
 have hd:=(q8f hb k n hk).2
 rw [(hb.root s hr).2] at h2;omega
theorem PI.step (hb:Bfs nx l q.length o q d) (h:PI nx o d n acc s) (hs:zH o s=some t) (ht:¬t=sE):PI nx o d n (acc++[s]) t∧d t < d s:=by
 obtain ⟨h1,h2,h3,p,h4⟩:=h
 have hl:s∉l:=fun hl=>ht (by have:=(hb.root s hl).1;rw [hs] at this;exact Option.some.inj this)
 obtain ⟨e1,e2,e3⟩:=hb.back s t hs hl
 refine ⟨⟨e1,by rw [List.length_append];simp;omega,?_,t::p,?_⟩,by omega⟩
 rw [List.reverse_append]
 intro i a b ha hb2
 cases i with
 | zero=>simp at ha hb2;subst ha;subst hb2;exact e2
 | succ i=>exact h3 i a b (by simpa using ha) (by simpa using hb2)
 rw [List.reverse_append];show t::s::acc.reverse=_;rw [h4];rfl
end
theorem j9p {Φ:Fz} {K:List Res} {w:World} {b:Addr} {g:Graph} {n:Bs} (rg:RGraph Φ b g) (hb:kS g.next (yN g.core)≤2000000000000) (hse:zH (qO g.next (yN g.core)) sE=none) (hz:∀p∈g.core.inputs,p.name.size≤1000) (hni:g.core.inputs.length≤1000000000) (hm:Mem Φ K w) :
  Calls prog 51 (List.toArray [.pointer (some b),.string n]) w (fun ee w'=>Out (y1o g.next (yN g.core) n) (fun _=>∃y:Value×List Bs,ee=.returned (.tuple (List.toArray [y.1,.bool true]))∧PathOk g.next (yN g.core) n y.2∧Mem Φ (.gs y.1 9 1 (strs y.2)::K) w') (fun _=>ee=.returned (.tuple (List.toArray [.slice none 0 0,.bool false]))∧Mem Φ K w')):=by
 obtain ⟨d1,nd2,fl3,pm4,nb5,nm6,hat7,rc8,rn9,rf10,ma11,mr12⟩:=id rg
 have rc8o:=rc8
 obtain ⟨p15,c16,p21,c22,p27,c28,p33,c34,rfl,h14,h20,h26,h32,hm17,hn18,hm23,hn24,hm29,hn30,hm35,hn36⟩:=RCore.fm rc8
 obtain ⟨p37,c38,rfl,hmx39,hn40⟩:=rn9.fm
 obtain ⟨p41,c42,rfl,hmx43,hn44⟩:=rf10.fm
 obtain ⟨q_,d_,hb_⟩:=y5w g.next (yN g.core)
 refine zL func51 ntmps51 fun Q hQ a he =>?_
 refine go fun a he =>?_
 refine wp_scope_straight ?_
 refine Reg [1,1,1,2,1,0,0,1] [] fun w hm a he =>?_
 refine jF call39 (fun y47 w hG48 hm a he =>?_) (c:=z2y rg hz hni hm)
 refine d_e he rfl rfl rfl (kT he rfl rfl call67 (uP (l:=(yN g.core)) rg (by omega) hm) (fun y49 w hG50 hm=>⟨zY (by kernel_rfl),fun a he =>?_⟩))
 refine go fun a he =>?_
 rcases hf53:yA ((yM (qO g.next (yN g.core)))) n with _ | vf54
 have hf53_:=congrArg (zF true (.string ⟨#[]⟩)) hf53
 refine Qq (fun a he =>?_) (o:=by exact fun he hs=>Ok.cast (zQ 0 runUnderlying70 runUnderlying9 zeroValue9 he hs rfl rfl rfl) (show zF true (.string ⟨#[]⟩) (yA ((yM (qO g.next (yN g.core)))) n)=.tuple (List.toArray [.string ⟨#[]⟩,.bool false]) from hf53_))
 refine wP ?_
 replace hm:=hm.dl [0]
 rw [y1o,show (zH (qO g.next (yN g.core)) n).isSome=false by rw [kI hf53];rfl];exact ⟨rfl,hm⟩
 obtain ⟨y57,hy58,rfl⟩:=kJ hf53
 have hf53_:=congrArg (zF true (.string ⟨#[]⟩)) hf53
 refine Qq (fun a he =>?_) (o:=by exact fun he hs=>Ok.cast (zQ 0 runUnderlying70 runUnderlying9 zeroValue9 he hs rfl rfl rfl) (show zF true (.string ⟨#[]⟩) (yA ((yM (qO g.next (yN g.core)))) n)=.tuple (List.toArray [.string y57,.bool true]) from hf53_))
 have hs_:(zH (qO g.next (yN g.core)) n).isSome=true:=by rw [hy58];rfl
 refine go fun a he =>?_
 refine wp_label ?_
 refine go fun a he =>?_
 replace hm:=hm.nilRow 9 1
 replace hm:=hm.nf
 refine yF (he.ks [6]) hm (fun R mm a w=>∃(u:Value) (acc:List Bs) (s:Bs),mm=d_ s∧R Φ [(1,.string s),(9,u)] [(0,.gs (u) 9 1 (strs acc))] a w∧(PI g.next (qO g.next (yN g.core)) d_ n acc s)) (d_ n) ⟨.slice none 0 0,[],n,rfl,⟨he.pk,hm⟩,PI.start hs_⟩ ?_
 clear hm he
 rintro mm a w ⟨u,acc,s,hmu,⟨he,hm⟩,hI64⟩ L63 hL63
 replace hm:=hm.nf
 refine qW fun v66 w hm a he =>?_
 refine qL 1 pS (fun v67 w hm a he =>?_) (hb:=by have hl_:=PI.len hb_ hs_ hI64;simp only [yH,List.length_cons,List.length_nil];omega)
 replace hm:Mem Φ (.gs (v66) 9 1 [.string s]::.gs (v67) 9 1 (strs (acc++[s]))::.mp y49 (yM (qO g.next (yN g.core)))::K) w:=by rw [qY] at hm;exact hm
 refine go fun a he =>?_
 rcases hf70:yA ((yM (qO g.next (yN g.core)))) s with _ | vf71
 exact absurd hI64.1 (by rw [kI hf70];simp)
 obtain ⟨y72,hy73,rfl⟩:=kJ hf70
 have hf70_:=congrArg (zF false (.string ⟨#[]⟩)) hf70
 refine Qq (fun a he =>?_) (o:=by exact fun he hs=>Ok.cast (zQ 2 runUnderlying70 runUnderlying9 zeroValue9 he hs rfl rfl rfl) (show zF false (.string ⟨#[]⟩) (yA ((yM (qO g.next (yN g.core)))) s)=.string y72 from hf70_))
 by_cases h74:y72=(⟨#[]⟩:ByteArray)
 replace hm:=hm.pl 1
 refine zZ call85 (fun w hm a he =>?_) (c:=q6k (l:=(acc++[s])) (by simp) (by have hl_:=PI.len hb_ hs_ hI64;rw [List.length_append];simp only [List.length_cons,List.length_nil];omega) hm)
 replace hm:=hm.nf
 refine wP ?_
 replace hm:=hm.dl [2,1]
 rw [y1o,if_pos hs_];exact ⟨(_,_),rfl,PI.fin hb_ hse hI64 (hy73.trans (congrArg some h74)),hm⟩
 refine go fun a he =>?_
 rcases hf77:yA ((yM (qO g.next (yN g.core)))) s with _ | vf78
 exact absurd hI64.1 (by rw [kI hf77];simp)
 obtain ⟨y79,hy80,rfl⟩:=kJ hf77
 have hf77_:=congrArg (zF false (.string ⟨#[]⟩)) hf77
 refine Qq (fun a he =>?_) (o:=by exact fun he hs=>Ok.cast (zQ 2 runUnderlying70 runUnderlying9 zeroValue9 he hs rfl rfl rfl) (show zF false (.string ⟨#[]⟩) (yA ((yM (qO g.next (yN g.core)))) s)=.string y79 from hf77_))
 have hne_:¬y79=sE:=fun e_=>h74 (by rw [show y72=y79 from Option.some.inj (hy73.symm.trans hy80)];exact e_)
 refine go fun a he =>?_
 replace hm:=hm.dl [0]
 refine hL63 (d_ y79) _ _ (by subst hmu;exact (PI.step hb_ hI64 hy80 hne_).2) ⟨(v67),((acc++[s])),(y79),rfl,⟨he.pk,hm⟩,?_⟩
 exact (PI.step hb_ hI64 hy80 hne_).1
end Go.Sw
