import Derived.Lib.ItoaLen
import Derived.Lib.SplitLaws
import Derived.Test.YtghdfphedgcpdaaGreatDoorProg
import Derived.Test.YtghdfphedgcpdaaGreatDoorZ01
import Derived.Test.YtghdfphedgcpdaaGreatDoorZ02
import Derived.Test.YtghdfphedgcpdaaGreatDoorZ03
import Derived.Test.YtghdfphedgcpdaaGreatDoorZ04
import Derived.Test.YtghdfphedgcpdaaGreatDoorZ05
set_option linter.unusedVariables false
set_option linter.unusedSimpArgs false
namespace Go.Sw
open Go.Proofs.Tryz
open Go.Proofs
theorem Mem.below {Φ:Fz} {K:List Res} {w w':World} (hm:Mem Φ K w) (h:RowKit.Below w.heap.size w w'):Mem Φ K w':=by
 have h0:Mem Φ (.gs (.slice none 0 0) 0 0 []::K) w':=hm.more (r:=.gs (.slice none 0 0) 0 0 []) h.os h.output (fun b hb=>h.block b hb) ⟨0,World.ownsRow_nil w' 0 0 0⟩ (fun b hb=>by cases hb)
 exact h0.del 0
theorem y7y {Φ:Fz} {K:List Res} {w:World} {n:Int} (h:I64 n) (G:Tabs Φ) (hm:Mem Φ K w) :
  Calls prog 99 (List.toArray [.int .i64 n]) w (fun ee w'=>ee=.returned (.string (aM n))∧Mem Φ K w'):=by
 refine (Tryz.strconv_Itoa n (by have:=h;unfold I64 at this;omega) (by have:=h;unfold I64 at this;omega) w (G w ⟨hm.fz,by simp⟩)).mono fun e w' he =>?_
 obtain ⟨rfl,k,os,rfl⟩:=he
 refine ⟨rfl,hm.below ⟨rfl,rfl,rfl,by simp [Go.Sort.grow,World.drewN],fun b hb =>?_⟩⟩
 simp only [Go.Sort.grow,World.drewN]
 rw [Array.getElem?_append_left hb]
theorem At.cell {Φ:Fz} {K:List Res} {w:World} {g:Nat} {v:Value} (h:At Φ ⟨g,0,none⟩ [v]) (hm:Mem Φ K w):w.cell? ⟨g,0,none⟩=some v:=by
 obtain ⟨arr,T,fr,h1,h2⟩:=h.ex
 have h3:=hm.fz _ _ h1
 have h4:=h2 0 v rfl
 simp only [World.cell?,h3]
 simpa using h4
theorem z2w (old new:List UInt8):∀(k:Nat) (s:List UInt8),(Lib.replaceK old new k s).length≤s.length+k * new.length
 | 0,s=>by simp [Lib.replaceK]
 | k+1,s=>by
  unfold Lib.replaceK
  split
  ·omega
  ·have h:=z2w old new k (s.drop ((Lib.index s old).toNat+old.length))
   simp only [List.length_append,List.length_take,List.length_drop,Nat.add_mul] at h ⊢
   omega
theorem q6i (s old new:Bs):(y1v s old new).size≤s.size+new.size:=by
 have h0:∀b:Bs,b.data.toList.length=b.size:=fun b=>by rw [Array.length_toList];rfl
 show (Lib.replace s.data.toList old.data.toList new.data.toList 1).toArray.size≤_
 rw [List.size_toArray,← h0 s,← h0 new]
 unfold Lib.replace
 split
 ·omega
 ·have h:=z2w old.data.toList new.data.toList (Lib.replaceNum s.data.toList old.data.toList 1) s.data.toList
  have h2:Lib.replaceNum s.data.toList old.data.toList 1≤1:=by unfold Lib.replaceNum;split <;> omega
  have:=Nat.mul_le_mul_right new.data.toList.length h2
  omega
theorem z0n {n:Int} (h:I64 n):(aM n).size≤21:=by
 show (Lib.itoa n).toArray.size≤_
 rw [List.size_toArray]
 exact Lib.itoa_length_le n (by have:=h;unfold I64 at this;omega) (by have:=h;unfold I64 at this;omega)
theorem y1w {Φ:Fz} {K:List Res} {w:World} {s old new:Bs} (hs:s.size≤1000000) (h1:1≤old.size) (hn:new.size=1) (G:Glob Φ) (hm:Mem Φ K w) :
  Calls prog 248 (List.toArray [.string s,.string old,.string new,.int .i64 ((1:Nat):Int)]) w (fun ee w'=>ee=.returned (.string (y1v s old new))∧Mem Φ K w'):=by
 obtain ⟨m,hg⟩:=G.maxLen
 have hc:=Lib.countB_le old h1 s.size s (Nat.le_refl _)
 refine (Tryz.strings_Replace s old new 1 m w (by omega) (hg.cell hm) h1 (by rw [hn];omega)).mono fun e w' he=>⟨he.1,hm.below he.2⟩
theorem q8d {Φ:Fz} {K:List Res} {w:World} {s:Bs} (hs:s.size≤1000000) (G:Glob Φ) (hm:Mem Φ K w) :
  Calls prog 203 (List.toArray [.string s]) w (fun ee w'=>Out (dI s) (fun v=>ee=.returned (.tuple (List.toArray [.int .i64 v,.nilIface]))∧Mem Φ K w')
   (fun _=>∃y:Int×Nat,ee=.returned (.tuple (List.toArray [.int .i64 y.1,.iface 296 (.pointer (some ⟨y.2,0,none⟩))]))∧Mem Φ K w')):=by
 have hbelow:∀w':World,(w'=w∨∃t,w'=Lib.bytesWorld w 5 t)→Mem Φ K w':=fun w' h=>by
  rcases h with rfl | ⟨t,rfl⟩
  ·exact hm
  ·exact hm.below (Lib.bytesWorld_below w 5 t)
 unfold dI
 cases h:Lib.atoiAll s.data.toList
 ·exact (Any.strconv_Atoi_ok Tryz.laysC172 s (by omega) _ h w).mono fun e w' he=>⟨he.1,hbelow w' he.2⟩
 ·obtain ⟨ev,h1,h2⟩:=G.err4
  exact (Any.strconv_Atoi_syntax Tryz.laysC172 s (by omega) h ev w (h1.cell hm) h2).mono fun e w' ⟨N,h3,_,_,h6⟩=>⟨(_,N),h3,hm.below h6⟩
 ·obtain ⟨ev,h1,h2⟩:=G.err5
  exact (Any.strconv_Atoi_range Tryz.laysC172 s (by omega) h ev w (h1.cell hm) h2).mono fun e w' ⟨N,h3,_,_,h6⟩=>⟨(_,N),h3,hm.below h6⟩
theorem oM {Φ:Fz} {K:List Res} {w:World} {s:Bs} {c:Nat} (hm:Mem Φ K w) :
  Calls prog 199 (List.toArray [.string s,.int .u8 ((c:Nat):Int)]) w (fun ee w'=>ee=.returned (.int .i64 (Lib.indexByte s.data.toList ((c:Int)).toNat.toUInt8))∧Mem Φ K w'):=by
 exact (Tryz.strings_IndexByte s c w).mono fun e w' he=>by obtain ⟨h1,rfl⟩:=he;exact ⟨h1,hm⟩
theorem q3p {P:Program} {n:Nat} {E:List (Nat×Value)} {D:List Deferred} {a:Act} {w:World} {ty:TypeId} (i m:Nat) {x ix:Operand} {t e:TypeId} {kk:IntKind} {cs:List Value} {s:Bs} (he:EnvR n E D a) (hx:ev E x=some (.agg cs.toArray))
  (hi:ev E ix=some (.int kk (i:Int))) (ht:Under P t (.array m e)) (hs:SizeT P e 1) (hsc:Scalar P e) (hl:cs.length=m) (hc:cs[i]? = some (.string s)):Ok P a (.index t x ix) ty w (.string s):=fun _ _ _ _=>by
 have hlt:i < m:=by rw [← hl];exact (List.getElem?_eq_some_iff.1 hc).1
 simp only [execOp,he.ev hx,he.ev hi]
 have h2:cs[i]'(by rw [hl];exact hlt)=.string s:=(List.getElem?_eq_some_iff.1 hc).2
 simp [Instr.index,asIntOf,Sem.run_bind,ht w,hs w,Result.andThen,hlt]
 simp [part,Sem.run_bind,hsc w,Result.andThen,hc]
theorem y4h {P:Program} {n:Nat} {E:List (Nat×Value)} {D:List Deferred} {a:Act} {w:World} {Kn:Value→World→Prop} {Qp:List PanicEntry→World→Prop} {dst:Option Tmp} {ty:TypeId} {pos:String} {aft:Array Edge} {g:Option (Nat×Bool)}
  {α β ε:Type} {f:FuncId} {xs:Array Operand} {ts:Array TypeId} {vs:List Value} {r:Except ε α} {X:α→Value} {Z:ε→β→Value} {Φ1 Φ2:Fz} {KO:α→List Res} {KE:ε→β→List Res}
  (he:EnvR n E D a) (hx:evs E xs.toList=some vs) (hf:∀args w,(callFunc f args).run P w=.ok (.enter f args) w)
  (hc:Calls P f vs.toArray w (fun e w'=>Out r (fun x=>e=.returned (X x)∧Mem Φ1 (KO x) w') (fun c=>∃y,e=.returned (Z c y)∧Mem Φ2 (KE c y) w')))
  (k:∀x w',r=.ok x→Mem Φ1 (KO x) w'→Kn (X x) w') (kp:∀c y w',r=.error c→Mem Φ2 (KE c y) w'→Kn (Z c y) w') :
  Oper.eff P ⟨dst,.call { callee:=.value (.func f),args:=xs,argTypes:=ts },ty,pos,aft,g⟩ a w Kn Qp:=by
 refine mW he hx hf hc (fun v w' h =>?_) (fun c w' h =>?_) (fun w' h =>?_)
 ·cases r with
  | ok x=>obtain ⟨h1,h2⟩:=h;cases h1;exact k _ _ rfl h2
  | error c=>obtain ⟨y,h1,h2⟩:=h;cases h1;exact kp _ _ _ rfl h2
 ·cases r with
  | ok x=>obtain ⟨h1,_⟩:=h;cases h1
  | error c=>obtain ⟨y,h1,_⟩:=h;cases h1
 ·cases r with
  | ok x=>obtain ⟨h1,_⟩:=h;cases h1
  | error c=>obtain ⟨y,h1,_⟩:=h;cases h1
def y8h (s:Bs):Int:=(oT s).getD 0
def y1d (s:Bs):Int:=match oT s with | some _=>0 | none=>13
theorem num_ok {s:Bs} {v:Int} (h:dI (y1v s ⟨#[126]⟩ ⟨#[45]⟩)=.ok v) (hd:z1t v=s):y8h s=v∧y1d s=0:=by
 simp [y8h,y1d,oT,h,hd]
theorem num_no {s:Bs} {v:Int} (h:dI (y1v s ⟨#[126]⟩ ⟨#[45]⟩)=.ok v) (hd:¬z1t v=s):y8h s=0∧y1d s=13:=by
 simp [y8h,y1d,oT,h,hd]
theorem num_err {s:Bs} {u:Unit} (h:dI (y1v s ⟨#[126]⟩ ⟨#[45]⟩)=.error u):y8h s=0∧y1d s=13:=by
 simp [y8h,y1d,oT,h]
theorem z8i {s:Bs} {v:Int} (h:dI s=.ok v):I64 v:=by
 unfold dI at h
 unfold Lib.atoiAll at h
 split at h
 ·rename_i v' h2
  simp only [Except.ok.injEq] at h
  subst h
  split at h2
  ·cases h2
  ·simp only at h2
   split at h2
   ·cases h2
   ·cases h2
   ·split at h2
    ·cases h2
    ·split at h2
     ·cases h2
     ·rename_i h3 h4
      simp only [Lib.NumEnd.ok.injEq] at h2
      subst h2
      unfold I64
      split <;> rename_i h5
      ·simp only [h5,true_and] at h4;omega
      ·simp only [h5,not_false_eq_true,true_and] at h3;omega
 ·cases h
theorem wT (t:Bs) (i:Nat):zJ t i < 256:=by
 unfold zJ;split
 ·exact UInt8.toNat_lt _
 ·decide
theorem z8b {n:Nat} (h:n < 256):(n.toUInt8).toNat=n:=by simp [Nat.toUInt8,UInt8.toNat_ofNat,Nat.mod_eq_of_lt h]
section
variable {Φ:Fz} {K:List Res} {w:World} {n:Nat}
theorem q1j (h:n < 256) (hm:Mem Φ K w):Calls prog 239 (List.toArray [.int .u8 ((n:Nat):Int)]) w (fun ee w'=>ee=.returned (.bool (qI n))∧Mem Φ K w'):=by
 have:=z4l (c:=n.toUInt8) hm;rwa [z8b h] at this
theorem j1w (h:n < 256) (hm:Mem Φ K w):Calls prog 233 (List.toArray [.int .u8 ((n:Nat):Int)]) w (fun ee w'=>ee=.returned (.bool (yZ n))∧Mem Φ K w'):=by
 have:=cS (c:=n.toUInt8) hm;rwa [z8b h] at this
theorem y4z (h:n < 256) (hm:Mem Φ K w):Calls prog 235 (List.toArray [.int .u8 ((n:Nat):Int)]) w (fun ee w'=>ee=.returned (.bool (nS n))∧Mem Φ K w'):=by
 have:=y0c (c:=n.toUInt8) hm;rwa [z8b h] at this
theorem j1x (h:n < 256) (hm:Mem Φ K w):Calls prog 237 (List.toArray [.int .u8 ((n:Nat):Int)]) w (fun ee w'=>ee=.returned (.bool (aJ n))∧Mem Φ K w'):=by
 have:=y0b (c:=n.toUInt8) hm;rwa [z8b h] at this
end
theorem y6r:wordsL.length=15:=rfl
theorem j4f {i:Nat} {x:Bs} (h:wordsL[i]? = some x):mZ (wordsM.take i) x (.int .i64 ((5:Nat):Int))=wordsM.take (i+1):=by
 have hi:i < 15:=by have:=(List.getElem?_eq_some_iff.1 h).1;rwa [y6r] at this
 have hx:x=wordsL[i]'(by rw [y6r];exact hi):=(List.getElem?_eq_some_iff.1 h).2.symm
 subst hx
 match i,hi with
 | 0,_=>rfl
 | 1,_=>rfl
 | 2,_=>rfl
 | 3,_=>rfl
 | 4,_=>rfl
 | 5,_=>rfl
 | 6,_=>rfl
 | 7,_=>rfl
 | 8,_=>rfl
 | 9,_=>rfl
 | 10,_=>rfl
 | 11,_=>rfl
 | 12,_=>rfl
 | 13,_=>rfl
 | 14,_=>rfl
theorem q7q {i:Nat} (h:¬i < 15):wordsM.take i=wordsM:=List.take_of_length_le (by show 15≤i;omega)
theorem q2h {Φ:Fz} {K:List Res} {w:World} {t:Bs} {pos:Nat} {b:Nat} {rest:List Value} {T0:TypeId} (hk:pos≤1000000000) (hm:Mem Φ (.blk b (ob (.string t::.int .i64 ((pos:Nat):Int)::rest) T0)::K) w) :
  Calls prog 232 (List.toArray [.pointer (some ⟨b,0,none⟩),.int .i64 ((0:Nat):Int)]) w (fun ee w'=>ee=.returned (.int .u8 ((zJ t pos:Nat):Int))∧Mem Φ (.blk b (ob (.string t::.int .i64 ((pos:Nat):Int)::rest) T0)::K) w') :=
 z2t (k:=0) hk hm
theorem aU (t:Bs) (pos:Nat):tR t pos=if y1d (nB t pos)=0 then
   (if qI (zJ t (pos+(vS t pos+vP t pos)))=true∨zJ t (pos+(vS t pos+vP t pos))=39 then .error (pos,13) else .ok ⟨1,y8h (nB t pos),nB t pos,pos⟩)
  else .error (pos,13):=by
 unfold tR y1d y8h
 cases oT (nB t pos) with
 | none=>rfl
 | some v=>rfl
set_option maxRecDepth 10000 in
theorem q9p:∀c < 256,decide ((0:Int)≤Lib.indexByte [40,41,44,59,58,124,61,60,43,45,42,47,37,95] ((c:Nat):Int).toNat.toUInt8)=y2f c:=by decide
end Go.Sw

namespace Go.Sw
theorem q2g (t:Bs):∀(f i q:Nat),i≤t.size→z2s t f i=.ok q→i≤q∧q≤t.size
 | 0,i,q,h,hp=>by simp only [z2s,Except.ok.injEq] at hp;omega
 | f+1,i,q,h,hp=>by
  have hr:=kC vI t t.size i h
  simp only [z2s] at hp
  split at hp
  ·cases hc:vG t (i+yP vI t t.size i) (i+yP vI t t.size i) 0 with
   | error c=>rw [hc] at hp;cases hp
   | ok q0 =>
    rw [hc] at hp
    have h1:=wV _ _ _ _ _ _ hc
    have h2:=q2g t f q0 q h1.2 hp
    omega
  ·simp only [Except.ok.injEq] at hp;omega
theorem y1m {t:Bs} {i q:Nat} (h:i≤t.size) (hp:dT t i=.ok q):i≤q∧q≤t.size:=q2g t _ i q h hp
theorem z9h (t:Bs) (i n:Nat) (h:i+n≤t.size):(t.extract i (i+n)).size=n:=by
 rw [ByteArray.size_extract];omega
theorem q3f {t:Bs} {pos:Nat} {k:Tok} (h1:pos < t.size) (h:zT t pos=.ok k):1≤k.text.size∧pos+k.text.size≤t.size:=by
 have run1:∀p:Nat→Bool,p (zJ t pos)=true→1≤yP p t t.size pos:=fun p hp=>by
  rw [oA,if_pos ⟨h1,hp⟩];omega
 have name:∀kd,nS (zJ t pos)=true∨aJ (zJ t pos)=true→kO t pos kd=.ok k→1≤k.text.size∧pos+k.text.size≤t.size:=fun kd hs hn=>by
  unfold kO at hn
  split at hn
  ·cases hn
  ·simp only [Except.ok.injEq] at hn
   subst hn
   have h2:=q5m t pos (by omega)
   have h3:=run1 qI (by unfold qI;rcases hs with h | h <;> simp [h])
   have h4:yP qI t t.size pos≤qR t pos:=by
    unfold qR;split
    ·split <;> omega
    ·omega
   simp only
   rw [z9h t pos _ h2];omega
 have made:∀kd n,1≤n→pos+n≤t.size→vY t pos kd n=.ok k→1≤k.text.size∧pos+k.text.size≤t.size:=fun kd n h2 h3 hn=>by
  obtain ⟨_,rfl⟩:=gV hn
  simp only
  rw [z9h t pos _ h3];omega
 unfold zT at h
 split at h
 ·rename_i hc
  have hL:1≤vS t pos+vP t pos∧pos+(vS t pos+vP t pos)≤t.size:=by
   unfold vP
   by_cases h126:zJ t pos=126
   ·have:vS t pos=1:=by simp [vS,h126]
    have:=kC yZ t t.size (pos+vS t pos) (by omega)
    omega
   ·have hs:vS t pos=0:=by simp [vS,h126]
    have hd:yZ (zJ t pos)=true:=hc.resolve_right h126
    have h2:=run1 yZ hd
    have h3:=kC yZ t t.size pos (by omega)
    rw [hs,Nat.add_zero];omega
  rw [aU] at h
  split at h
  ·split at h
   ·cases h
   ·simp only [Except.ok.injEq] at h
    subst h
    simp only [nB]
    rw [z9h t pos _ hL.2];omega
  ·cases h
 split at h
 ·rename_i hs;exact name _ (.inl hs) h
 split at h
 ·rename_i hs;exact name _ (.inr hs) h
 split at h
 ·have:=kC qI t t.size (pos+1) (by omega)
  exact made _ _ (by omega) (by omega) h
 split at h
 ·rename_i hp
  have e1:(⟨#[61,62]⟩:ByteArray).size=2:=rfl
  have e2:(⟨#[45,62]⟩:ByteArray).size=2:=rfl
  have:2≤t.size - pos:=by
   rcases hp with hp | hp
   ·have:=jQ hp;omega
   ·have:=jQ hp;omega
  exact made _ _ (by omega) (by omega) h
 split at h
 ·exact made _ _ (by omega) (by omega) h
 ·cases h
theorem y2r (t:Bs):∀(f g i:Nat),i≤t.size→t.size < i+f→t.size < i+g→sT t f i=sT t g i
 | 0,_,i,h0,h,_=>by omega
 | _+1,0,i,h0,_,h=>by omega
 | f+1,g+1,i,h0,h,h'=>by
  simp only [sT]
  cases hp:dT t i with
  | error c=>rfl
  | ok q =>
   simp only
   split
   ·rename_i hq
    cases hk:zT t q with
    | error c=>rfl
    | ok k =>
     simp only
     have h1:=y1m h0 hp
     have h2:=q3f hq hk
     rw [y2r t f g (q+k.text.size) h2.2 (by omega) (by omega)]
   ·rfl
def z3i (t:Bs) (q:Nat):Except (Nat×Int) (List Tok):=if q < t.size then
  match zT t q with
  | .error c=>.error c
  | .ok k=>match sT t (t.size+1) (q+k.text.size) with
   | .error c=>.error c
   | .ok l=>.ok (k::l)
 else .ok []
theorem q9s {t:Bs} {i:Nat} (h:i≤t.size):sT t (t.size+1) i=match dT t i with
  | .error c=>.error c
  | .ok q=>z3i t q:=by
 rw [y2r t (t.size+1) (t.size+2) i h (by omega) (by omega)]
 rfl
def y1r (pre:List Tok) (r:Except (Nat×Int) (List Tok)):Except (Nat×Int) (List Tok):=match r with
 | .ok l=>.ok (pre++l)
 | .error c=>.error c
theorem q2i (r:Except (Nat×Int) (List Tok)):y1r [] r=r:=by cases r <;> rfl
theorem y6k {t:Bs} {i q:Nat} {pre:List Tok} (h:i≤t.size) (hp:dT t i=.ok q):y1r pre (sT t (t.size+1) i)=y1r pre (z3i t q):=by
 rw [q9s h,hp]
theorem y6l {t:Bs} {i:Nat} {pre:List Tok} {c:Nat×Int} (h:i≤t.size) (hp:dT t i=.error c):y1r pre (sT t (t.size+1) i)=.error c:=by
 rw [q9s h,hp];rfl
theorem y6m {t:Bs} {q:Nat} {pre:List Tok} {k:Tok} (h:q < t.size) (hk:zT t q=.ok k):y1r pre (z3i t q)=y1r (pre++[k]) (sT t (t.size+1) (q+k.text.size)):=by
 unfold z3i
 rw [if_pos h,hk]
 simp only
 cases sT t (t.size+1) (q+k.text.size) <;> simp [y1r]
theorem j3y {t:Bs} {q:Nat} {pre:List Tok} {c:Nat×Int} (h:q < t.size) (hk:zT t q=.error c):y1r pre (z3i t q)=.error c:=by
 unfold z3i
 rw [if_pos h,hk];rfl
theorem x1f {t:Bs} {q:Nat} {pre:List Tok} (h:¬q < t.size):y1r pre (z3i t q)=.ok pre:=by
 unfold z3i
 rw [if_neg h];simp [y1r]
end Go.Sw

namespace Go.Sw
open Go.Proofs.Tryz
open Go.Proofs
set_option maxRecDepth 20000
set_option maxHeartbeats 4000000
variable {Φ:Fz} {K:List Res} {w:World}
theorem j0u {n:Int}  (h64:I64 n) (G:Glob Φ) (hm:Mem Φ K w) :
  Calls prog 249 (List.toArray [.int .i64 n]) w (fun ee w'=>ee=.returned (.string (z1t n))∧Mem Φ K w'):=by
 refine zL func249 ntmps249 fun Q hQ a he =>?_
 refine zZ call99 (fun w hm a he =>?_) (c:=y7y h64 G.tabs hm)
 refine zZ call248 (fun w hm a he =>?_) (c:=y1w (by have h_:=z0n h64;omega) (by decide) rfl G hm)
 refine zI ?_
 exact z2x hm (by rfl)
theorem y1e {s:Bs} (hs:s.size≤900000) (G:Glob Φ) (hm:Mem Φ K w) :
  Calls prog 244 (List.toArray [.string s]) w (fun ee w'=>ee=.returned (.tuple (List.toArray [.int .i64 (y8h s),.int .i64 (y1d s)]))∧Mem Φ K w'):=by
 refine zL func244 ntmps244 fun Q hQ a he =>?_
 refine zZ call248 (fun w hm a he =>?_) (c:=y1w (by omega) (by decide) rfl G hm)
 refine st he rfl rfl rfl (y4h he rfl call203 (q8d (by have h_:=q6i s ⟨#[126]⟩ ⟨#[45]⟩;have h2_:(⟨#[45]⟩:Bs).size=1:=rfl;omega) G hm) (fun q3 w hq5 hm a he =>?_) (fun q3 y4 w hq5 hm a he =>?_))
 replace hm:=hm.nf
 refine Qq (fun a he =>?_) (o:=by exact fun he hs=>aO (v:=.bool false) he rfl rfl rfl (by kernel_rfl))
 refine zZ call249 (fun w hm a he =>?_) (c:=j0u (z8i hq5) G hm)
 by_cases h9:(z1t q3)=s
 refine wP ?_
 obtain ⟨h1_,h2_⟩:=num_ok hq5 h9
 rw [h1_,h2_];exact ⟨rfl,hm⟩
 refine wP ?_
 obtain ⟨h1_,h2_⟩:=num_no hq5 h9
 rw [h1_,h2_];exact ⟨rfl,hm⟩
 replace hm:=hm.nf
 refine Qq (fun a he =>?_) (o:=by exact fun he hs=>aO (v:=.bool true) he rfl rfl rfl (by kernel_rfl))
 refine wP ?_
 obtain ⟨h1_,h2_⟩:=num_err hq5
 rw [h1_,h2_];exact ⟨rfl,hm⟩
theorem y5r {t:Bs} {pos b:Nat} {rest:List Value} {T0:TypeId} (G:Glob Φ) (h1:pos≤t.size) (h2:t.size≤800000) (hm:Mem Φ (.blk b (ob (.string t::.int .i64 ((pos:Nat):Int)::rest) T0)::K) w) :
  Calls prog 234 (List.toArray [.pointer (some ⟨b,0,none⟩)]) w (fun ee w'=>Out (tR t pos) (fun q=>ee=.returned (y2p q)∧Mem Φ (.blk b (ob (.string t::.int .i64 ((pos:Nat):Int)::rest) T0)::K) w') (fun c=>ee=.panicked (gK c)∧Mem Φ K w')):=by
 refine zL func234 ntmps234 fun Q hQ a he =>?_
 refine Alc fun b2 w hm a he =>?_
 replace hm:=hm.pl 1
 refine zZ call232 (fun w hm a he =>?_) (c:=q2h (by omega) hm)
 by_cases h6:zJ t pos=126
 have h0_:=uG (t:=t) (i:=pos) (by omega)
 refine zZ call228 (fun w hm a he =>?_) (c:=y8s (p:=yZ) (pos:=pos) (k:=1) (fs:=[]) (cs:=[]) call233 (fun c hm=>cS hm) (by omega) (by omega) hm)
 have h0_:=uG (t:=t) (i:=pos) (by omega)
 have hr_:=kC yZ t t.size (pos+1) (by omega)
 have hL_:vS t pos+vP t pos=(1+(yP yZ t t.size (pos+1))):=by simp [vS,vP, *]
 refine Qq (fun a he =>?_) (o:=by exact fun he hs=>pM (i:=1) (j:=(yP yZ t t.size (pos+1))) he rfl rfl (by omega))
 refine zZ call232 (fun w hm a he =>?_) (c:=z2t (k:=(1+(yP yZ t t.size (pos+1)))) (by omega) hm)
 refine Reg [1,1,1,1,2,1,1,1,1,2,1,1,1,1,2,1,1,1,1,1,1] [0,1] fun w hm a he =>?_
 refine Qq (fun a he =>?_) (o:=by exact fun he hs=>pM (i:=(pos+1)) (j:=(yP yZ t t.size (pos+1))) he rfl rfl (by omega))
 refine Qq (fun a he =>?_) (o:=by exact fun he hs=>xO pos (((pos+1)+(yP yZ t t.size (pos+1)))) he rfl runUnderlying9 ⟨_,rfl⟩ ⟨_,rfl⟩ (by omega) (by omega))
 have hnt_:(t.extract pos ((pos+1)+(yP yZ t t.size (pos+1))))=nB t pos:=by unfold nB;rw [hL_];simp only [Nat.add_assoc]
 refine zZ call244 (fun w hm a he =>?_) (c:=y1e (s:=(t.extract pos ((pos+1)+(yP yZ t t.size (pos+1))))) (by have h_:=ByteArray.size_extract (a:=t) (b:=pos) (e:=(pos+1)+(yP yZ t t.size (pos+1)));omega) G hm)
 by_cases h13:y1d (t.extract pos ((pos+1)+(yP yZ t t.size (pos+1))))=0
 refine yK call239 (fun hB14 w hm a he =>?_) (fun hB14 w hm a he =>?_) (c:=q1j (wT _ _) hm)
 refine yJ fun a he =>?_
 refine Qq (fun a he =>?_) (o:=by exact fun he hs=>qD he rfl runUnderlying257 (by intro ms h;cases h))
 refine st0 he rfl rfl (vD he rfl (vF _) (fun a hd=>hQ _ _ _ (yQ hd ?_)))
 replace hm:=hm.dl [1,0]
 show Out (tR t pos) _ _
 rw [aU,hL_,← hnt_,if_pos h13,if_pos (.inl hB14)];exact ⟨rfl,hm⟩
 by_cases h15:zJ t (pos+(1+(yP yZ t t.size (pos+1))))=39
 refine yJ fun a he =>?_
 refine Qq (fun a he =>?_) (o:=by exact fun he hs=>qD he rfl runUnderlying257 (by intro ms h;cases h))
 refine st0 he rfl rfl (vD he rfl (vF _) (fun a hd=>hQ _ _ _ (yQ hd ?_)))
 replace hm:=hm.dl [1,0]
 show Out (tR t pos) _ _
 rw [aU,hL_,← hnt_,if_pos h13,if_pos (.inr h15)];exact ⟨rfl,hm⟩
 refine yJ fun a he =>?_
 refine Sto 1 fun w hm a he =>?_
 refine go fun a he =>?_
 have hmr:=hm
 replace hm:=hm.dl [1]
 refine jU (hm:=hmr) ?_
 show Out (tR t pos) _ _
 rw [aU,hL_,← hnt_,if_pos h13,if_neg (fun hh_=>hh_.elim (fun h_=>absurd (h_.symm.trans hB14) (by decide)) h15)];exact ⟨rfl,hm⟩
 refine yJ fun a he =>?_
 refine Qq (fun a he =>?_) (o:=by exact fun he hs=>qD he rfl runUnderlying257 (by intro ms h;cases h))
 refine st0 he rfl rfl (vD he rfl (vF _) (fun a hd=>hQ _ _ _ (yQ hd ?_)))
 replace hm:=hm.dl [1,0]
 show Out (tR t pos) _ _
 rw [aU,hL_,← hnt_,if_neg h13];exact ⟨rfl,hm⟩
 refine zZ call228 (fun w hm a he =>?_) (c:=y8r (p:=yZ) (pos:=pos) (fs:=[]) (cs:=[]) call233 (fun c hm=>cS hm) (by omega) (by omega) hm)
 have hr_:=kC yZ t t.size pos h1
 have hL_:vS t pos+vP t pos=(0+(yP yZ t t.size pos)):=by simp [vS,vP, *]
 refine Qq (fun a he =>?_) (o:=by exact fun he hs=>pM (i:=0) (j:=(yP yZ t t.size pos)) he rfl rfl (by omega))
 refine zZ call232 (fun w hm a he =>?_) (c:=z2t (k:=(0+(yP yZ t t.size pos))) (by omega) hm)
 refine Reg [1,1,1,1,2,1,1,1,1,2,1,1,1,1,2,1,1,1,1,1,1] [0,1] fun w hm a he =>?_
 refine Qq (fun a he =>?_) (o:=by exact fun he hs=>pM (i:=pos) (j:=0) he rfl rfl (by omega))
 refine Qq (fun a he =>?_) (o:=by exact fun he hs=>pM (i:=(pos+0)) (j:=(yP yZ t t.size pos)) he rfl rfl (by omega))
 refine Qq (fun a he =>?_) (o:=by exact fun he hs=>xO pos (((pos+0)+(yP yZ t t.size pos))) he rfl runUnderlying9 ⟨_,rfl⟩ ⟨_,rfl⟩ (by omega) (by omega))
 have hnt_:(t.extract pos ((pos+0)+(yP yZ t t.size pos)))=nB t pos:=by unfold nB;rw [hL_];simp only [Nat.add_assoc]
 refine zZ call244 (fun w hm a he =>?_) (c:=y1e (s:=(t.extract pos ((pos+0)+(yP yZ t t.size pos)))) (by have h_:=ByteArray.size_extract (a:=t) (b:=pos) (e:=(pos+0)+(yP yZ t t.size pos));omega) G hm)
 by_cases h23:y1d (t.extract pos ((pos+0)+(yP yZ t t.size pos)))=0
 refine yK call239 (fun hB24 w hm a he =>?_) (fun hB24 w hm a he =>?_) (c:=q1j (wT _ _) hm)
 refine yJ fun a he =>?_
 refine Qq (fun a he =>?_) (o:=by exact fun he hs=>qD he rfl runUnderlying257 (by intro ms h;cases h))
 refine st0 he rfl rfl (vD he rfl (vF _) (fun a hd=>hQ _ _ _ (yQ hd ?_)))
 replace hm:=hm.dl [1,0]
 show Out (tR t pos) _ _
 rw [aU,hL_,← hnt_,if_pos h23,if_pos (.inl hB24)];exact ⟨rfl,hm⟩
 by_cases h25:zJ t (pos+(0+(yP yZ t t.size pos)))=39
 refine yJ fun a he =>?_
 refine Qq (fun a he =>?_) (o:=by exact fun he hs=>qD he rfl runUnderlying257 (by intro ms h;cases h))
 refine st0 he rfl rfl (vD he rfl (vF _) (fun a hd=>hQ _ _ _ (yQ hd ?_)))
 replace hm:=hm.dl [1,0]
 show Out (tR t pos) _ _
 rw [aU,hL_,← hnt_,if_pos h23,if_pos (.inr h25)];exact ⟨rfl,hm⟩
 refine yJ fun a he =>?_
 refine Sto 1 fun w hm a he =>?_
 refine go fun a he =>?_
 have hmr:=hm
 replace hm:=hm.dl [1]
 refine jU (hm:=hmr) ?_
 show Out (tR t pos) _ _
 rw [aU,hL_,← hnt_,if_pos h23,if_neg (fun hh_=>hh_.elim (fun h_=>absurd (h_.symm.trans hB24) (by decide)) h25)];exact ⟨rfl,hm⟩
 refine yJ fun a he =>?_
 refine Qq (fun a he =>?_) (o:=by exact fun he hs=>qD he rfl runUnderlying257 (by intro ms h;cases h))
 refine st0 he rfl rfl (vD he rfl (vF _) (fun a hd=>hQ _ _ _ (yQ hd ?_)))
 replace hm:=hm.dl [1,0]
 show Out (tR t pos) _ _
 rw [aU,hL_,← hnt_,if_neg h23];exact ⟨rfl,hm⟩
end Go.Sw

namespace Go.Sw
open Go.Proofs.Tryz
open Go.Proofs
set_option maxRecDepth 20000
set_option maxHeartbeats 4000000
theorem x1e {Φ:Fz} {K:List Res} {w:World} {t:Bs} {pos b mb:Nat} {cv:Value} (G:Glob Φ) (hmap:MapAt Φ mb wordsM) (h1:pos < t.size) (h2:t.size≤800000) (hm:Mem Φ (.blk b (ob [.string t,.int .i64 ((pos:Nat):Int),.map (some mb),cv] 289)::K) w) :
  Calls prog 221 (List.toArray [.pointer (some ⟨b,0,none⟩)]) w (fun ee w'=>Out (zT t pos) (fun q=>ee=.returned (y2p q)∧Mem Φ (.blk b (ob [.string t,.int .i64 ((pos:Nat):Int),.map (some mb),cv] 289)::K) w') (fun c=>ee=.panicked (gK c)∧Mem Φ K w')):=by
 refine zL func221 ntmps221 fun Q hQ a he =>?_
 refine Alc fun b2 w hm a he =>?_
 refine go fun a he =>?_
 have h39a_:yZ 39=false:=rfl
 have h39b_:nS 39=false:=rfl
 have h39c_:aJ 39=false:=rfl
 have h39d_:y2f 39=false:=rfl
 replace hm:=hm.pl 1
 refine zZ call232 (fun w hm a he =>?_) (c:=q2h (by omega) hm)
 refine yK call233 (fun hB7 w hm a he =>?_) (fun hB7 w hm a he =>?_) (c:=j1w (wT _ _) hm)
 refine qZ call234 (fun q9 w hq10 hm a he =>?_) (fun q9 w hq10 hm =>?_) (c:=y5r (pos:=pos) G (by omega) (by omega) hm)
 refine Sto 1 fun w hm a he =>?_
 refine go fun a he =>?_
 have hmr:=hm
 replace hm:=hm.dl [1]
 refine jU (hm:=hmr) ?_
 show Out (zT t pos) _ _
 rw [show zT t pos=tR t pos by simp [zT, *],hq10];exact ⟨rfl,hm⟩
 replace hm:=hm.dl [0]
 show Out (zT t pos) _ _
 rw [show zT t pos=tR t pos by simp [zT, *],hq10];exact ⟨rfl,hm⟩
 by_cases h11:zJ t pos=126
 refine qZ call234 (fun q13 w hq14 hm a he =>?_) (fun q13 w hq14 hm =>?_) (c:=y5r (pos:=pos) G (by omega) (by omega) hm)
 refine Sto 1 fun w hm a he =>?_
 refine go fun a he =>?_
 have hmr:=hm
 replace hm:=hm.dl [1]
 refine jU (hm:=hmr) ?_
 show Out (zT t pos) _ _
 rw [show zT t pos=tR t pos by simp [zT, *],hq14];exact ⟨rfl,hm⟩
 replace hm:=hm.dl [0]
 show Out (zT t pos) _ _
 rw [show zT t pos=tR t pos by simp [zT, *],hq14];exact ⟨rfl,hm⟩
 refine yK call235 (fun hB16 w hm a he =>?_) (fun hB16 w hm a he =>?_) (c:=y4z (wT _ _) hm)
 refine qZ call236 (fun q18 w hq19 hm a he =>?_) (fun q18 w hq19 hm =>?_) (c:=q9d (pos:=pos) (kd:=2) hmap (by omega) (by omega) hm)
 refine Sto 1 fun w hm a he =>?_
 refine go fun a he =>?_
 have hmr:=hm
 replace hm:=hm.dl [1]
 refine jU (hm:=hmr) ?_
 show Out (zT t pos) _ _
 rw [show zT t pos=kO t pos 2 by simp [zT, *],hq19];exact ⟨rfl,hm⟩
 replace hm:=hm.dl [0]
 show Out (zT t pos) _ _
 rw [show zT t pos=kO t pos 2 by simp [zT, *],hq19];exact ⟨rfl,hm⟩
 refine yK call237 (fun hB21 w hm a he =>?_) (fun hB21 w hm a he =>?_) (c:=j1x (wT _ _) hm)
 refine qZ call236 (fun q23 w hq24 hm a he =>?_) (fun q23 w hq24 hm =>?_) (c:=q9d (pos:=pos) (kd:=3) hmap (by omega) (by omega) hm)
 refine Sto 1 fun w hm a he =>?_
 refine go fun a he =>?_
 have hmr:=hm
 replace hm:=hm.dl [1]
 refine jU (hm:=hmr) ?_
 show Out (zT t pos) _ _
 rw [show zT t pos=kO t pos 3 by simp [zT, *],hq24];exact ⟨rfl,hm⟩
 replace hm:=hm.dl [0]
 show Out (zT t pos) _ _
 rw [show zT t pos=kO t pos 3 by simp [zT, *],hq24];exact ⟨rfl,hm⟩
 by_cases h26:zJ t pos=39
 refine zZ call232 (fun w hm a he =>?_) (c:=z2t (k:=1) (by omega) hm)
 refine yK call235 (fun hB27 w hm a he =>?_) (fun hB27 w hm a he =>?_) (c:=y4z (wT _ _) hm)
 refine zZ call228 (fun w hm a he =>?_) (c:=y8s (p:=qI) (pos:=pos) (k:=1) (fs:=[]) (cs:=[]) call239 (fun c hm=>z4l hm) (by omega) (by omega) hm)
 refine Qq (fun a he =>?_) (o:=by exact fun he hs=>y6s (((1+(yP qI t t.size (pos+1))):Nat):Int) he rfl rfl (by have hr_:=kC qI t t.size (pos+1) (by omega);rw [yX (by omega)];omega))
 refine qZ call238 (fun q29 w hq30 hm a he =>?_) (fun q29 w hq30 hm =>?_) (c:=aR (pos:=pos) (kd:=4) (n:=(1+(yP qI t t.size (pos+1)))) (by have hr_:=kC qI t t.size (pos+1) (by omega);omega) (by omega) hm)
 refine Sto 1 fun w hm a he =>?_
 refine go fun a he =>?_
 have hmr:=hm
 replace hm:=hm.dl [1]
 refine jU (hm:=hmr) ?_
 show Out (zT t pos) _ _
 rw [show zT t pos=vY t pos 4 (1+(yP qI t t.size (pos+1))) by simp [zT, *],hq30];exact ⟨rfl,hm⟩
 replace hm:=hm.dl [0]
 show Out (zT t pos) _ _
 rw [show zT t pos=vY t pos 4 (1+(yP qI t t.size (pos+1))) by simp [zT, *],hq30];exact ⟨rfl,hm⟩
 refine yK call230 (fun hB33 w hm a he =>?_) (fun hB33 w hm a he =>?_) (c:=nT (s:=(⟨#[61,62]⟩:ByteArray)) (by omega) hm)
 refine qZ call238 (fun q35 w hq36 hm a he =>?_) (fun q35 w hq36 hm =>?_) (c:=aR (pos:=pos) (kd:=6) (n:=2) (by have h_:=jQ hB33;have e_:(⟨#[61,62]⟩:ByteArray).size=2:=rfl;have e2_:(⟨#[45,62]⟩:ByteArray).size=2:=rfl;omega) (by omega) hm)
 refine Sto 1 fun w hm a he =>?_
 refine go fun a he =>?_
 have hmr:=hm
 replace hm:=hm.dl [1]
 refine jU (hm:=hmr) ?_
 show Out (zT t pos) _ _
 rw [show zT t pos=vY t pos 6 2 by simp [zT, *],hq36];exact ⟨rfl,hm⟩
 replace hm:=hm.dl [0]
 show Out (zT t pos) _ _
 rw [show zT t pos=vY t pos 6 2 by simp [zT, *],hq36];exact ⟨rfl,hm⟩
 refine yK call230 (fun hB37 w hm a he =>?_) (fun hB37 w hm a he =>?_) (c:=nT (s:=(⟨#[45,62]⟩:ByteArray)) (by omega) hm)
 refine qZ call238 (fun q39 w hq40 hm a he =>?_) (fun q39 w hq40 hm =>?_) (c:=aR (pos:=pos) (kd:=6) (n:=2) (by have h_:=jQ hB37;have e_:(⟨#[61,62]⟩:ByteArray).size=2:=rfl;have e2_:(⟨#[45,62]⟩:ByteArray).size=2:=rfl;omega) (by omega) hm)
 refine Sto 1 fun w hm a he =>?_
 refine go fun a he =>?_
 have hmr:=hm
 replace hm:=hm.dl [1]
 refine jU (hm:=hmr) ?_
 show Out (zT t pos) _ _
 rw [show zT t pos=vY t pos 6 2 by simp [zT, *],hq40];exact ⟨rfl,hm⟩
 replace hm:=hm.dl [0]
 show Out (zT t pos) _ _
 rw [show zT t pos=vY t pos 6 2 by simp [zT, *],hq40];exact ⟨rfl,hm⟩
 refine zZ call199 (fun w hm a he =>?_) (c:=oM hm)
 have hsg_:=q9p (zJ t pos) (wT t pos)
 by_cases h42:0≤Lib.indexByte (⟨#[40,41,44,59,58,124,61,60,43,45,42,47,37,95]⟩:ByteArray).data.toList (((zJ t pos:Nat):Int).toNat.toUInt8)
 refine go fun a he =>?_
 have hsb_:y2f (zJ t pos)=true:=by rw [← hsg_];exact decide_eq_true h42
 rw [h26] at hsb_
 cases hsb_
 refine yJ fun a he =>?_
 refine Qq (fun a he =>?_) (o:=by exact fun he hs=>qD he rfl runUnderlying257 (by intro ms h;cases h))
 refine st0 he rfl rfl (vD he rfl (vF _) (fun a hd=>hQ _ _ _ (yQ hd ?_)))
 replace hm:=hm.dl [1,0]
 have hno_:y2f (zJ t pos)=false:=by rw [← hsg_];exact decide_eq_false h42
 show Out (zT t pos) _ _
 rw [show zT t pos=.error (pos,11) by simp [zT, *]];exact ⟨rfl,hm⟩
 refine yK call230 (fun hB46 w hm a he =>?_) (fun hB46 w hm a he =>?_) (c:=nT (s:=(⟨#[61,62]⟩:ByteArray)) (by omega) hm)
 refine qZ call238 (fun q48 w hq49 hm a he =>?_) (fun q48 w hq49 hm =>?_) (c:=aR (pos:=pos) (kd:=6) (n:=2) (by have h_:=jQ hB46;have e_:(⟨#[61,62]⟩:ByteArray).size=2:=rfl;have e2_:(⟨#[45,62]⟩:ByteArray).size=2:=rfl;omega) (by omega) hm)
 refine Sto 1 fun w hm a he =>?_
 refine go fun a he =>?_
 have hmr:=hm
 replace hm:=hm.dl [1]
 refine jU (hm:=hmr) ?_
 show Out (zT t pos) _ _
 rw [show zT t pos=vY t pos 6 2 by simp [zT, *],hq49];exact ⟨rfl,hm⟩
 replace hm:=hm.dl [0]
 show Out (zT t pos) _ _
 rw [show zT t pos=vY t pos 6 2 by simp [zT, *],hq49];exact ⟨rfl,hm⟩
 refine yK call230 (fun hB50 w hm a he =>?_) (fun hB50 w hm a he =>?_) (c:=nT (s:=(⟨#[45,62]⟩:ByteArray)) (by omega) hm)
 refine qZ call238 (fun q52 w hq53 hm a he =>?_) (fun q52 w hq53 hm =>?_) (c:=aR (pos:=pos) (kd:=6) (n:=2) (by have h_:=jQ hB50;have e_:(⟨#[61,62]⟩:ByteArray).size=2:=rfl;have e2_:(⟨#[45,62]⟩:ByteArray).size=2:=rfl;omega) (by omega) hm)
 refine Sto 1 fun w hm a he =>?_
 refine go fun a he =>?_
 have hmr:=hm
 replace hm:=hm.dl [1]
 refine jU (hm:=hmr) ?_
 show Out (zT t pos) _ _
 rw [show zT t pos=vY t pos 6 2 by simp [zT, *],hq53];exact ⟨rfl,hm⟩
 replace hm:=hm.dl [0]
 show Out (zT t pos) _ _
 rw [show zT t pos=vY t pos 6 2 by simp [zT, *],hq53];exact ⟨rfl,hm⟩
 refine zZ call199 (fun w hm a he =>?_) (c:=oM hm)
 have hsg_:=q9p (zJ t pos) (wT t pos)
 by_cases h55:0≤Lib.indexByte (⟨#[40,41,44,59,58,124,61,60,43,45,42,47,37,95]⟩:ByteArray).data.toList (((zJ t pos:Nat):Int).toNat.toUInt8)
 have hsb_:y2f (zJ t pos)=true:=by rw [← hsg_];exact decide_eq_true h55
 refine qZ call238 (fun q57 w hq58 hm a he =>?_) (fun q57 w hq58 hm =>?_) (c:=aR (pos:=pos) (kd:=6) (n:=1) (by have hr_:=kC qI t t.size (pos+1) (by omega);omega) (by omega) hm)
 refine Sto 1 fun w hm a he =>?_
 refine go fun a he =>?_
 have hmr:=hm
 replace hm:=hm.dl [1]
 refine jU (hm:=hmr) ?_
 show Out (zT t pos) _ _
 rw [show zT t pos=vY t pos 6 1 by simp [zT, *],hq58];exact ⟨rfl,hm⟩
 replace hm:=hm.dl [0]
 show Out (zT t pos) _ _
 rw [show zT t pos=vY t pos 6 1 by simp [zT, *],hq58];exact ⟨rfl,hm⟩
 refine yJ fun a he =>?_
 refine Qq (fun a he =>?_) (o:=by exact fun he hs=>qD he rfl runUnderlying257 (by intro ms h;cases h))
 refine st0 he rfl rfl (vD he rfl (vF _) (fun a hd=>hQ _ _ _ (yQ hd ?_)))
 replace hm:=hm.dl [1,0]
 have hno_:y2f (zJ t pos)=false:=by rw [← hsg_];exact decide_eq_false h55
 show Out (zT t pos) _ _
 rw [show zT t pos=.error (pos,11) by simp [zT, *]];exact ⟨rfl,hm⟩
end Go.Sw

namespace Go.Sw
open Go.Proofs.Tryz
open Go.Proofs
set_option maxRecDepth 20000
set_option maxHeartbeats 4000000
theorem y3o {Φ:Fz} {K:List Res} {w:World} {t:Bs} (hm:Mem Φ K w) :
  Calls prog 211 (List.toArray [.string t]) w (fun ee w'=>∃y:Nat×Nat,ee=.returned (.pointer (some ⟨y.1,0,none⟩))∧True∧Mem Φ (.blk y.1 (ob [.string t,.int .i64 ((0:Nat):Int),.map (some y.2),.slice none 0 0] 289)::.mp y.2 wordsM::K) w'):=by
 refine zL func211 ntmps211 fun Q hQ a he =>?_
 refine yJ fun a he =>?_
 refine MkM fun b3 w hm a he =>?_
 refine kK fun a he =>?_
 refine Bx fun b4 w hm a he =>?_
 refine yJ fun a he =>?_
 refine go fun a he =>?_
 refine yF (he.ks [3,11]) hm (fun R mm a w=>∃(i:Nat),mm=15 - i∧R Φ [(12,.int .i64 ((i:Nat):Int))] [(1,.mp b3 (wordsM.take i))] a w∧(True)) (15 - 0) ⟨0,rfl,⟨he.pk,hm⟩,trivial⟩ ?_
 clear hm he
 rintro mm a w ⟨i,hmu,⟨he,hm⟩,hI8⟩ L7 hL7
 replace hm:=hm.nf
 by_cases h10:i < 15
 obtain ⟨x14,hx15⟩:=zX (l:=wordsL) (i:=i) h10
 refine Qq (fun a he =>?_) (o:=by exact fun he hs=>q3p i 15 (cs:=strs wordsL) he rfl rfl runUnderlying290 sizeOf9 isAgg9 rfl (by rw [strs,List.getElem?_map,hx15];rfl))
 refine uX 1 runUnderlying286 runUnderlying9 fun w hm a he =>?_
 rw [show Value.int .i64 5=.int .i64 ((5:Nat):Int) from rfl,j4f hx15] at hm
 refine go fun a he =>?_
 refine hL7 _ _ _ (by subst hmu;omega) ⟨(i+1),rfl,⟨he.pk,hm⟩,?_⟩
 trivial
 refine zI ?_
 rw [q7q h10] at hm
 exact ⟨(_,_),rfl,trivial,hm⟩
theorem j3x {Φ:Fz} {K:List Res} {w:World} {b:Nat} (hm:Mem Φ K w) :
  Calls prog 213 (List.toArray [.pointer (some ⟨b,0,none⟩)]) w (fun ee w'=>∃y:Nat,ee=.returned (.func (.func 219) (List.toArray []) (List.toArray [.pointer (some ⟨y,0,none⟩)]))∧True∧Mem Φ (.blk y (ob [.pointer (some ⟨b,0,none⟩)] 254)::K) w'):=by
 refine zL func213 ntmps213 fun Q hQ a he =>?_
 refine Bx fun b2 w hm a he =>?_
 refine zI ?_
 exact ⟨_,rfl,trivial,hm⟩
end Go.Sw

namespace Go.Sw
open Go.Proofs.Tryz
open Go.Proofs
set_option maxRecDepth 20000
set_option maxHeartbeats 4000000
theorem q7k {β:Type} {Φ:Fz} {w:World} {t:Bs} {bx b mb l:Nat} {KY:List Tok→β→List Res} {z:β} (G:Glob Φ) (hmap:MapAt Φ mb wordsM) (h2:t.size≤800000)
  (hy:∀pre z K0 (k:Tok) w,pre.length < t.size→Mem Φ (K0++KY pre z) w→YieldAt Fence.wide 2 prog l #[y2p k] w (fun e w'=>e=.returned (.bool true)∧∃z',Mem Φ (K0++KY (pre++[k]) z') w'))
  (hm:Mem Φ (.blk bx (ob [.pointer (some ⟨b,0,none⟩)] 254)::.blk b (ob [.string t,.int .i64 ((0:Nat):Int),.map (some mb),.slice none 0 0] 289)::KY [] z) w) :
  Calls prog 219 (List.toArray [.func (.yield l) #[] #[],.pointer (some ⟨bx,0,none⟩)]) w (fun ee w'=>Out (nI t) (fun r=>∃y:β,ee=.returned (.tuple #[])∧Mem Φ (KY r y) w') (fun c=>∃y:List Tok×β,ee=.panicked (gK c)∧Mem Φ (KY y.1 y.2) w')):=by
 refine zL func219 ntmps219 fun Q hQ a he =>?_
 refine go fun a he =>?_
 replace hm:=hm.nilRow 303 2
 replace hm:=hm.nf
 replace hm:=hm.pl 2
 refine xW call220 (fun q2 y3 w hq4 hG5 hm a he =>?_) (fun q2 w hq4 hm =>?_) (c:=q9j (pos:=0) (by omega) (by omega) (Nat.zero_le _) hm)
 replace hm:=hm.nf
 have hpl_:=y1m (by omega) hq4
 refine go fun a he =>?_
 refine xD (fun mm a w=>∃(i:Nat) (pre:List Tok) (u:Value) (ds:List Value) (z0:β),mm=t.size - i∧EnvR 38 [(0,.func (.yield l) #[] #[]),(1,.pointer (some ⟨bx,0,none⟩))] [] a∧Mem Φ (.blk b (ob [.string t,.int .i64 ((i:Nat):Int),.map (some mb),u] 289)::.gs (u) 303 2 ds::.blk bx (ob [.pointer (some ⟨b,0,none⟩)] 254)::KY pre z0) w∧(i≤t.size∧ds.length≤2 * i∧pre.length≤i∧nI t=y1r pre (z3i t i))) (t.size - q2) ⟨q2,[],y3.1,y3.2,z,rfl,he.pk,hm,⟨hpl_.2,hG5,Nat.zero_le _,(q2i _).symm.trans (y6k (Nat.zero_le _) hq4)⟩⟩ ?_
 clear hm he
 rintro mm a w ⟨i,pre,u,ds,z0,hmu,he,hm,hI7⟩ L6 hL6
 obtain ⟨hi0_,hi1_,hi2_,hI_⟩:=hI7
 refine Reg [2,1,1,1,2,2,1,1,1,2,1,1] [0,1,2] fun w hm a he =>?_
 by_cases h10:i < t.size
 refine qZ call221 (fun q13 w hq14 hm a he =>?_) (fun q13 w hq14 hm =>?_) (c:=x1e (pos:=i) G hmap h10 h2 hm)
 have hts_:=q3f h10 hq14
 refine Alc fun b15 w hm a he =>?_
 refine Sto 0 fun w hm a he =>?_
 refine Reg [2,1,1,1,2,1,2,1,1,1,1,1,0] [0,1,2,3] fun w hm a he =>?_
 refine Qq (fun a he =>?_) (o:=by exact fun he hs=>pM (i:=i) (j:=q13.text.size) he rfl rfl (by omega))
 refine Sto 1 fun w hm a he =>?_
 refine go1 fun a he =>?_
 refine xH ?_
 refine yO he (by intro c h;cases h) (qQ he rfl) rfl fun a he =>?_
 refine yO he (by intro c h;cases h) (yU 0 (vs:=[.int .i64 (q13.kind),.int .i64 (q13.num),.string q13.text,.int .i64 ((q13.org:Nat):Int)]) he hm.toSees rfl rfl isAgg261 sizeOf261 rfl rfl) rfl fun a he =>?_
 replace hm:=hm.dl [0]
 refine z9w (v:=y2p q13) he rfl rfl rfl (hy pre z0 [.blk b (ob [.string t,.int .i64 (((i+q13.text.size):Nat):Int),.map (some mb),u] 289),.gs (u) 303 2 ds,.blk bx (ob [.pointer (some ⟨b,0,none⟩)] 254)] q13 w (by omega) hm) fun w hJ_ a he =>?_
 obtain ⟨z18,hm⟩:=hJ_
 replace hm:=hm.nf
 refine yO he (by intro c h;cases h) (uC he rfl) rfl fun a he =>?_
 refine wpListIn_nil ?_
 replace hm:=hm.ar [] [1,1]
 refine xW call220 (fun q19 y20 w hq21 hG22 hm a he =>?_) (fun q19 w hq21 hm =>?_) (c:=q9j (pos:=(i+q13.text.size)) (by omega) (by omega) (by omega) hm)
 replace hm:=hm.nf
 have hpl_:=y1m (by omega) hq21
 refine go fun a he =>?_
 refine hL6 _ _ _ (by subst hmu;omega) ⟨(q19),(pre++[q13]),(y20.1),(y20.2),(z18),rfl,he.pk,hm,?_⟩
 exact ⟨hpl_.2,hG22,by simp only [List.length_append,List.length_cons,List.length_nil];omega,by rw [hI_,y6m h10 hq14,y6k (by omega) hq21]⟩
 replace hm:=hm.dl [0]
 have hr_:nI t=.error q19:=by
  rw [hI_,y6m h10 hq14,y6l (by omega) hq21]
 show Out (nI t) _ _
 rw [hr_];exact ⟨(pre++[q13],z18),rfl,hm⟩
 replace hm:=hm.dl [1,0]
 have hr_:nI t=.error q13:=by
  rw [hI_,j3y h10 hq14]
 show Out (nI t) _ _
 rw [hr_];exact ⟨(pre,z0),rfl,hm⟩
 refine go fun a he =>?_
 replace hm:=hm.dl [2,1,0]
 refine hQ _ _ _ (y5y he results219 ?_)
 show Out (nI t) _ _
 rw [hI_,x1f h10];exact ⟨z0,rfl,hm⟩
 replace hm:=hm.dl [0]
 have hr_:nI t=.error q2:=by
  exact (q2i _).symm.trans (y6l (Nat.zero_le _) hq4)
 show Out (nI t) _ _
 rw [hr_];exact ⟨([],z),rfl,hm⟩
end Go.Sw

namespace Go.Sw
open Go.Proofs.Tryz
open Go.Proofs
def z5e (k:Tok):List Value:=[.int .i64 k.kind,.int .i64 k.num,.string k.text,.int .i64 ((k.org:Nat):Int)]
def pW (l:List Tok):List Value:=l.flatMap z5e
theorem q7l (l:List Tok) (k:Tok):pW (l++[k])=pW l++z5e k:=by simp [pW]
theorem y6j:∀l:List Tok,(pW l).length=4 * l.length
 | []=>rfl
 | k::l=>by have:=y6j l;simp only [pW,List.flatMap_cons,List.length_append,List.length_cons] at this ⊢;rw [this];simp only [z5e,List.length_cons,List.length_nil];omega
def aL (c:Nat×Int):List Value:=[.int .i64 ((c.1:Nat):Int),.int .i64 c.2]
abbrev wrongE (c:Nat×Int) (r:Bool):PanicEntry:={ v:=.iface 257 (.agg (aL c).toArray),recovered:=r }
set_option maxRecDepth 20000 in
set_option maxHeartbeats 4000000 in
theorem y9z {Φ:Fz} {K:List Res} {w:World} {b3 b4:Nat} {v:Value} {x y:Value} {c:Nat×Int} (hm:Mem Φ (.blk b3 (ob [v] 255)::.blk b4 (ob [x,y] 257)::K) w) :
  CallsD prog 212 #[.pointer (some ⟨b3,0,none⟩),.pointer (some ⟨b4,0,none⟩)] (.panicking (gK c)) w fun e u' w' =>
   e=.returned (.tuple #[])∧u'=.panicking [wrongE c true]∧Mem Φ (.blk b3 (ob [.slice none 0 0] 255)::.blk b4 (ob (aL c) 257)::K) w':=by
 generalize hR:(fun (e:Ending) (u':FrameMode) (w':World)=>e=.returned (.tuple #[])∧u'=.panicking [wrongE c true]∧Mem Φ (.blk b3 (ob [.slice none 0 0] 255)::.blk b4 (ob (aL c) 257)::K) w')=R
 refine callsD_of_wpS func212 rfl fun c₀ cs hu =>?_
 apply wpS_seq
 apply wpS_region
 show wpOpsS prog _ _ [0] _ _ _
 simp [wpOpsS,go_sem,recoverD,hu,ntmps212,Exit.thenS,gK]
 refine wpS_of_wp ?_
 generalize hc:(_::cs:List Frame)=cs'
 have hQ:∀(a:Act) (w':World),a.defers=[]→Mem Φ (.blk b3 (ob [.slice none 0 0] 255)::.blk b4 (ob (aL c) 257)::K) w'→bodyPostS prog Tryz.f212 c₀ cs R .normal a cs' w':=fun a w' hd hm =>
  ⟨hd,.panicking [wrongE c true],hc.symm,.tuple #[],results_none rfl _ _ _,by subst hR;exact ⟨rfl,rfl,hm⟩⟩
 generalize hact:(Act.mk _ [])=a
 have he:EnvR 12 [(5,.iface 257 (.agg (aL c).toArray)),(1,.pointer (some ⟨b4,0,none⟩)),(0,.pointer (some ⟨b3,0,none⟩))] [] a:=by
  subst hact
  refine ⟨rfl,fun t v h =>?_,rfl⟩
  obtain ⟨rfl,rfl⟩ | ⟨_,h⟩:=kA h
  ·rfl
  ·obtain ⟨rfl,rfl⟩ | ⟨_,h⟩:=kA h
   ·rfl
   ·obtain ⟨rfl,rfl⟩ | ⟨_,h⟩:=kA h
    ·rfl
    ·cases h
 clear hact
 refine wp_block ?_
 refine sq fun L1 hL1 =>?_
 refine wp_region_lit ?_
 refine jG he (aO (v:=.bool false) he rfl rfl rfl (by kernel_rfl)) rfl fun a he =>?_
 refine wpList_nil ?_
 refine hL1 _ _ ?_
 refine if_f he rfl ?_
 refine sq fun L2 hL2 =>?_
 refine wp_region_lit ?_
 refine jG he (y2y he rfl runUnderlying257 (by intro ms h;cases h)) rfl fun a he =>?_
 refine jG he (nU he rfl rfl) rfl fun a he =>
  jG he (nU he rfl rfl) rfl fun a he =>?_
 refine wpList_nil ?_
 refine hL2 _ _ ?_
 refine if_t he rfl ?_
 refine sq fun L3 hL3 =>?_
 refine wp_region_lit ?_
 refine st he rfl rfl rfl (yG (cs:=[.int .i64 ((0:Nat):Int),.int .i64 ((0:Nat):Int)]) hm zeroValue257 rfl fun b5 w hm a he =>?_)
 refine st0 he rfl rfl (zP 0 (cs:=[.int .i64 ((0:Nat):Int),.int .i64 ((0:Nat):Int)]) (vs:=aL c) he hm rfl rfl rfl rfl sizeOf257 rfl rfl rfl fun w hm a he =>?_)
 refine wpList_nil ?_
 refine hL3 _ _ ?_
 replace hm:Mem Φ (.blk b5 (ob (aL c) 257)::.blk b3 (ob [v] 255)::.blk b4 (ob [x,y] 257)::K) w:=hm
 refine aC [2,0,0] (.q 0 (.e 1 (.e 2 (.done)))) [.blk b5 (ob (aL c) 257)] he hm mixed (by kernel_rfl) (by simp) fun w hm =>?_
 refine d_q he rfl rfl (fun w hs=>yU 0 (vs:=aL c) he hs rfl rfl isAgg257 sizeOf257 rfl rfl) rfl fun a he =>?_
 refine vM he rfl rfl (zP 1 (cs:=[v]) (vs:=[.slice none 0 0]) he hm rfl rfl rfl rfl sizeOf255 rfl rfl rfl fun w hm=>⟨fun _=>hm.seesIn (Fz.Le.refl _) (by simp [wK]),fun a he =>?_⟩)
 refine vM he rfl rfl (zP 2 (cs:=[x,y]) (vs:=aL c) he hm rfl rfl rfl rfl sizeOf257 rfl rfl rfl fun w hm=>⟨zY (by kernel_rfl),fun a he =>?_⟩)
 refine y7d ?_
 replace hm:Mem Φ (.blk b3 (ob [.slice none 0 0] 255)::.blk b4 (ob (aL c) 257)::K) w:=hm.del 0
 exact hQ _ _ he.defs hm
set_option maxRecDepth 20000 in
theorem catch_none {w:World} {b3 b4:Nat} :
  CallsD prog 212 #[.pointer (some ⟨b3,0,none⟩),.pointer (some ⟨b4,0,none⟩)] .returning w fun e u' w'=>e=.returned (.tuple #[])∧u'=.returning∧w'=w:=by
 generalize hR:(fun (e:Ending) (u':FrameMode) (w':World)=>e=.returned (.tuple #[])∧u'=.returning∧w'=w)=R
 refine callsD_of_wpS func212 rfl fun c₀ cs hu =>?_
 apply wpS_seq
 apply wpS_region
 show wpOpsS prog _ _ [0] _ _ _
 simp [wpOpsS,go_sem,recoverD,hu,ntmps212,Exit.thenS]
 refine wpS_of_wp ?_
 have hQ:∀(a:Act),a.defers=[]→bodyPostS prog Tryz.f212 c₀ cs R .normal a (c₀::cs) w:=fun a hd =>
  ⟨hd,.returning,by cases c₀;simp only at hu;subst hu;rfl,.tuple #[],results_none rfl _ _ _,by subst hR;exact ⟨rfl,rfl,rfl⟩⟩
 generalize hact:(Act.mk _ [])=a
 have he:EnvR 12 [(5,.nilIface)] [] a:=by
  subst hact
  refine ⟨rfl,fun t v h =>?_,rfl⟩
  obtain ⟨rfl,rfl⟩ | ⟨_,h⟩:=kA h
  ·rfl
  ·cases h
 clear hact
 refine wp_block ?_
 refine sq fun L1 hL1 =>?_
 refine wp_region_lit ?_
 refine jG he (aO (v:=.bool true) he rfl rfl rfl (by kernel_rfl)) rfl fun a he =>?_
 refine wpList_nil ?_
 refine hL1 _ _ ?_
 refine if_t he rfl ?_
 refine wp_region_lit ?_
 refine jG he (vJ he rfl) rfl fun a he =>?_
 refine wpList_nil ?_
 exact hQ _ he.defs
theorem zip1 {α β:Type} (x:α) (y:β):(#[x].zip #[y])=#[(x,y)]:=by apply Array.ext';simp
set_option maxRecDepth 20000 in
theorem rt_255:RowT prog 255 261 4 40:=⟨underlying255,⟨_,_,Tryz.type261,rfl,rfl,rfl,rfl⟩,by decide,by decide⟩
abbrev scanKY (K:List Res) (l Dk b3 b4:Nat) (r:Loop) (pre:List Tok) (z:Value):List Res :=
 .blk l (.loop r)::.blk Dk (.deferred (some []))::.blk b4 (ob [.int .i64 ((0:Nat):Int),.int .i64 ((0:Nat):Int)] 257)::.blk b3 (ob [z] 255)::.gs z 261 4 (pW pre)::K
set_option maxRecDepth 20000 in
set_option maxHeartbeats 4000000 in
theorem q6w {Ψ:Fz} {K K0:List Res} {w:World} {l Dk b3 b4 n:Nat} {r:Loop} {pre:List Tok} {z:Value} {k:Tok} (hlen:pre.length < n) (hn:n≤800000)
  (hps:r.params=#[11]) (hst:r.state=.ready) (hpd:r.pending=none)
  (ha:∀(a:Act) (w:World) (K:List Res),EnvR 19 [(11,y2p k),(4,.pointer (some ⟨b4,0,none⟩)),(3,.pointer (some ⟨b3,0,none⟩))] [] a→Mem Ψ (.blk l (.loop r)::K) w →
   r.assign.wpIn (FO (some l)) 2 prog (Exit.then (fun a1 w1=>∃b5,EnvR 19 [(5,.pointer (some ⟨b5,0,none⟩)),(4,.pointer (some ⟨b4,0,none⟩)),(3,.pointer (some ⟨b3,0,none⟩))] [] a1∧Mem Ψ (.blk l (.loop r)::.blk b5 (ob (z5e k) 261)::K) w1) (fun _ _ _=>False)) a w)
  (hb:∀(a:Act) (w:World) (b5:Nat) (K:List Res) (o:Obj),EnvR 19 [(5,.pointer (some ⟨b5,0,none⟩)),(4,.pointer (some ⟨b4,0,none⟩)),(3,.pointer (some ⟨b3,0,none⟩))] [] a→Mem Ψ (.blk l o::.blk b5 (ob (z5e k) 261)::.blk b3 (ob [z] 255)::.gs z 261 4 (pW pre)::K) w →
   r.body.wpIn (FO (some l)) 2 prog (fun e _ w=>e=.normal∧∃v,Mem Ψ (.blk l o::.blk b3 (ob [v] 255)::.gs v 261 4 (pW (pre++[k]))::K) w) a w)
  (he:EnvR 19 [(4,.pointer (some ⟨b4,0,none⟩)),(3,.pointer (some ⟨b3,0,none⟩))] [] ⟨r.tmps,[]⟩) (hm:Mem Ψ (K0++scanKY K l Dk b3 b4 r pre z) w) :
  YieldAt Fence.wide 2 prog l #[y2p k] w (fun e w'=>e=.returned (.bool true)∧∃z',Mem Ψ (K0++scanKY K l Dk b3 b4 r (pre++[k]) z') w'):=by
 have hm1:Mem Ψ (scanKY K l Dk b3 b4 r pre z++K0) w:=hm.perm List.perm_append_comm
 replace hm1:Mem Ψ (.blk l (.loop r)::.blk b3 (ob [z] 255)::.gs z 261 4 (pW pre)::.blk Dk (.deferred (some []))::.blk b4 (ob [.int .i64 ((0:Nat):Int),.int .i64 ((0:Nat):Int)] 257)::(K++K0)) w :=
  (((hm1.pull (i:=4) rfl).pull (i:=4) rfl).pull (i:=2) rfl)
 have hl:w.heap[l]? = some (.loop r):=hm1.own _ List.mem_cons_self
 refine ⟨r.fn,r.tmps.setIfInBounds 11 (y2p k),r.assign,r.body,?_,?_⟩
 ·rw [run_yield hl (by rw [hps];rfl),hps,zip1];simp
 ·have he2:EnvR 19 [(11,y2p k),(4,.pointer (some ⟨b4,0,none⟩)),(3,.pointer (some ⟨b3,0,none⟩))] [] ⟨r.tmps.setIfInBounds 11 (y2p k),[]⟩:=he.put (d:=11) rfl
  have h:=q2s (P:=prog) (E1:=fun b5=>[(5,.pointer (some ⟨b5,0,none⟩)),(4,.pointer (some ⟨b4,0,none⟩)),(3,.pointer (some ⟨b3,0,none⟩))])
   (KO:=fun v=>.blk b3 (ob [v] 255)::.gs v 261 4 (pW (pre++[k]))::.blk Dk (.deferred (some []))::.blk b4 (ob [.int .i64 ((0:Nat):Int),.int .i64 ((0:Nat):Int)] 257)::(K++K0)) hm1 hst hpd he2
   (fun a he=>ha a w _ he hm1) (fun b5 a w he hm=>hb a w b5 _ _ he hm)
  refine h.mono fun e w' hh =>?_
  obtain ⟨h1,v,h2⟩:=hh
  refine ⟨h1,v,?_⟩
  have h3:Mem Ψ (scanKY K l Dk b3 b4 r (pre++[k]) v++K0) w':=(((h2.pull (i:=4) rfl).pull (i:=4) rfl).pull (i:=2) rfl)
  exact h3.perm List.perm_append_comm
set_option maxRecDepth 20000 in
set_option maxHeartbeats 4000000 in
theorem q6x {Φ:Fz} {K:List Res} {w:World} {t:Bs} (G:Glob Φ) (h2:t.size≤800000) (hm:Mem Φ K w) :
  Calls prog 198 (List.toArray [.string t]) w (fun ee w'=>Out (nI t)
   (fun l=>∃y:Nat×Value,ee=.returned (.tuple (List.toArray [.pointer (some ⟨y.1,0,none⟩),y.2,.agg (List.toArray [.int .i64 ((0:Nat):Int),.int .i64 ((0:Nat):Int)])]))∧Mem Φ (.gs y.2 261 4 (pW l)::K) w')
   (fun c=>∃y:Nat,ee=.returned (.tuple (List.toArray [.pointer (some ⟨y,0,none⟩),.slice none 0 0,.agg (aL c).toArray]))∧Mem Φ K w')):=by
 refine z4b func198 rfl ntmps198 rfl (fun Q hQ a he =>?_)
 refine sq fun L1 hL1 =>?_
 refine wp_region_lit ?_
 refine jG he (vJ he rfl) rfl fun a he =>?_
 refine st he rfl rfl rfl (yG (cs:=[.slice none 0 0]) hm zeroValue255 rfl fun b3 w hm a he =>?_)
 refine st he rfl rfl rfl (yG (cs:=[.int .i64 ((0:Nat):Int),.int .i64 ((0:Nat):Int)]) hm zeroValue257 rfl fun b4 w hm a he =>?_)
 refine wpList_nil ?_
 refine hL1 _ _ ?_
 refine sq fun L2 hL2 =>?_
 refine wp_region_lit ?_
 refine jG he (qQ he rfl) rfl fun a he =>?_
 refine st he rfl rfl rfl (qS he rfl call211 (y3o hm) (fun y w _ hm a he =>?_))
 obtain ⟨b,mb⟩:=y
 simp only at hm he
 refine jG he (vJ he rfl) rfl fun a he =>?_
 refine wpList_nil ?_
 refine hL2 _ _ ?_
 obtain ⟨Ψ,le,hm,hmap⟩:=hm.freezeMap (i:=1) rfl
 replace hm:Mem Ψ (.blk b (ob [.string t,.int .i64 ((0:Nat):Int),.map (some mb),.slice none 0 0] 289)::.blk b4 (ob [.int .i64 ((0:Nat):Int),.int .i64 ((0:Nat):Int)] 257)::.blk b3 (ob [.slice none 0 0] 255)::K) w:=hm
 refine sq fun L3 hL3 =>?_
 refine wp_region_lit ?_
 refine jG he (sP (vfs:=[]) (vcs:=[.pointer (some ⟨b3,0,none⟩),.pointer (some ⟨b4,0,none⟩)]) he rfl rfl) rfl fun a he =>?_
 refine tV (fs:=[]) (cs:=[.pointer (some ⟨b3,0,none⟩),.pointer (some ⟨b4,0,none⟩)]) (vs:=[]) he rfl rfl fun a he =>?_
 refine wpList_nil ?_
 refine hL3 _ _ ?_
 refine sq fun L4 hL4 =>?_
 refine sq fun L5 hL5 =>?_
 refine wp_region_lit ?_
 refine jG he (qQ he rfl) rfl fun a he =>?_
 refine st he rfl rfl rfl (qS he rfl call213 (j3x hm) (fun bx w _ hm a he =>?_))
 refine wpList_nil ?_
 refine hL5 _ _ ?_
 refine wp_block ?_
 refine z3m (P:=prog) (β:=List Tok×Value) (δ:=List Tok×Value) (gf:=219) (fs:=[]) (cs:=[.pointer (some ⟨bx,0,none⟩)]) (F1:=fun _=>Ψ)
  (KO:=fun y=>.blk b4 (ob [.int .i64 ((0:Nat):Int),.int .i64 ((0:Nat):Int)] 257)::.blk b3 (ob [y.2] 255)::.gs y.2 261 4 (pW y.1)::K)
  (KE:=fun y=>.blk b4 (ob [.int .i64 ((0:Nat):Int),.int .i64 ((0:Nat):Int)] 257)::.blk b3 (ob [y.2] 255)::.gs y.2 261 4 (pW y.1)::K)
  (G:=fun y=>nI t=.ok y.1) (B:=fun _ c=>∃e,nI t=.error e∧c=gK e) he hm rfl call219 ?_ ?_ ?_
 ·intro Dk l r w hps has hbo hst hpd her hm
  have hm1:=hm.nilRow 261 4
  replace hm1:Mem Ψ (.blk bx (ob [.pointer (some ⟨b,0,none⟩)] 254)::.blk b (ob [.string t,.int .i64 ((0:Nat):Int),.map (some mb),.slice none 0 0] 289)::scanKY K l Dk b3 b4 r [] (.slice none 0 0)) w :=
   ((((((hm1.pull (i:=6) rfl).pull (i:=6) rfl).pull (i:=4) rfl).pull (i:=4) rfl).pull (i:=6) rfl).pull (i:=6) rfl)
  have h:=q7k (l:=l) (KY:=scanKY K l Dk b3 b4 r) (G.mono le) hmap h2 (fun pre z K0 k w hlen hm =>?_) hm1
  ·refine h.mono fun e w' hh =>?_
   cases hT:nI t with
   | ok rr =>
    rw [hT] at hh
    obtain ⟨z,rfl,hm2⟩:=hh
    exact .inl ⟨_,(rr,z),rfl,rfl,hm2⟩
   | error c =>
    rw [hT] at hh
    obtain ⟨y,rfl,hm2⟩:=hh
    exact .inr ⟨_,y,rfl,⟨c,rfl,rfl⟩,hm2.tail⟩
  ·refine q6w (n:=t.size) hlen h2 hps hst hpd (fun a w K he hm =>?_) (fun a w b5 K o he hm =>?_) (her.of_sub ⟨rfl,rfl,trivial⟩) hm
   ·rw [has]
    refine wpIn_region_lit ?_
    refine z9v he rfl rfl rfl (by intro c h;cases h) (yG (cs:=[.int .i64 ((0:Nat):Int),.int .i64 ((0:Nat):Int),.string ⟨#[]⟩,.int .i64 ((0:Nat):Int)]) hm zeroValue261 rfl fun b5 w hm a he =>?_)
    refine y7u he rfl rfl (by intro c h;cases h) (zP 0 (cs:=[.int .i64 ((0:Nat):Int),.int .i64 ((0:Nat):Int),.string ⟨#[]⟩,.int .i64 ((0:Nat):Int)]) (vs:=z5e k) he hm rfl rfl rfl rfl sizeOf261 rfl rfl rfl fun w hm a he =>?_)
    refine wpListIn_nil ?_
    exact ⟨b5,he.of_sub ⟨rfl,rfl,rfl,trivial⟩,hm.pull (i:=1) rfl⟩
   ·rw [hbo]
    refine wpIn_block ?_
    refine wpIn_region_lit ?_
    refine yO he (by intro c h;cases h) (yS 2 he hm.toSees rfl rfl rfl isAgg255) rfl fun a he =>?_
    refine yO he (by intro c h;cases h) (yU 1 (vs:=z5e k) he hm.toSees rfl rfl isAgg261 sizeOf261 rfl rfl) rfl fun a he =>?_
    refine z9v he rfl rfl rfl (by intro c h;cases h) (mV (sz:=4) (cs:=z5e k) he hm rfl (sX runUnderlying255 sizeOf261 zeroValue261 rfl (by decide) rfl) rfl (by decide) fun v w hm _ a he =>?_)
    refine z9v he rfl rfl rfl (by intro c h;cases h) (cO 4 (xs:=pW pre) (news:=z5e k) rt_255 he hm rfl rfl rfl (hm.toSees.rowIn (i:=0) rfl) rfl (by rw [y6j];simp only [z5e,List.length_cons,List.length_nil];omega) fun v2 w hm a he =>?_)
    replace hm:Mem Ψ (.gs v 261 4 (z5e k)::.blk l o::.blk b5 (ob (z5e k) 261)::.blk b3 (ob [z] 255)::.gs v2 261 4 (pW (pre++[k]))::K) w:=by rw [q7l];exact hm
    refine y7u he rfl rfl (by intro c h;cases h) (zP 3 (cs:=[z]) (vs:=[v2]) he hm rfl rfl rfl (hm.toSees.gsCells (i:=4) rfl) sizeOf255 rfl (hm.toSees.gsOne (i:=4) rfl) rfl fun w hm a he =>?_)
    refine wpListIn_nil ?_
    exact ⟨rfl,v2,(hm.del 0).del 1⟩
 ·intro Dk y a w hG he hm
  refine hL4 _ _ ?_
  refine sq fun L6 hL6 =>?_
  refine aC [1,2,2,1,0,0] (.q 0 (.q 1 (.q 2 (.q 3 (.e 4 (.e 5 .done)))))) [.blk b4 (ob [.int .i64 ((0:Nat):Int),.int .i64 ((0:Nat):Int)] 257),.blk b3 (ob [y.2] 255)] he hm mixed (by kernel_rfl) (by simp) fun w hm =>?_
  refine z8v he rfl rfl (fun w=>qQ he rfl) rfl fun a he =>?_
  refine d_q he rfl rfl (fun w hs=>yS 1 he hs rfl rfl rfl isAgg255) rfl fun a he =>?_
  refine d_q he rfl rfl (fun w hs=>yU 0 (vs:=[.int .i64 ((0:Nat):Int),.int .i64 ((0:Nat):Int)]) he hs rfl rfl isAgg257 sizeOf257 rfl rfl) rfl fun a he =>?_
  refine z8v he rfl rfl (fun w=>vJ he rfl) rfl fun a he =>?_
  refine vM he rfl rfl (zP 2 (cs:=[y.2]) (vs:=[y.2]) he hm rfl rfl rfl (hm.toSees.gsCells (i:=3) rfl) sizeOf255 rfl (hm.toSees.gsOne (i:=3) rfl) rfl fun w hm=>⟨fun _=>(show Mem Ψ (.blk Dk (.deferred (some []))::.blk b4 (ob [.int .i64 ((0:Nat):Int),.int .i64 ((0:Nat):Int)] 257)::.blk b3 (ob [y.2] 255)::.gs y.2 261 4 (pW y.1)::K) w from hm).seesIn (Fz.Le.refl _) (by simp),fun a he =>?_⟩)
  replace hm:Mem Ψ (.blk Dk (.deferred (some []))::.blk b4 (ob [.int .i64 ((0:Nat):Int),.int .i64 ((0:Nat):Int)] 257)::.blk b3 (ob [y.2] 255)::.gs y.2 261 4 (pW y.1)::K) w:=hm
  refine vM he rfl rfl (zP 1 (cs:=[.int .i64 ((0:Nat):Int),.int .i64 ((0:Nat):Int)]) (vs:=[.int .i64 ((0:Nat):Int),.int .i64 ((0:Nat):Int)]) he hm rfl rfl rfl rfl sizeOf257 rfl rfl rfl fun w hm=>⟨zY (by kernel_rfl),fun a he =>?_⟩)
  replace hm:Mem Ψ (.blk Dk (.deferred (some []))::.blk b4 (ob [.int .i64 ((0:Nat):Int),.int .i64 ((0:Nat):Int)] 257)::.blk b3 (ob [y.2] 255)::.gs y.2 261 4 (pW y.1)::K) w:=hm
  refine y7d ?_
  refine hL6 _ _ ?_
  refine wp_ret ?_
  refine hQ _ _ _ ?_
  show pZ _ _ _ _ a.defers _ _
  rw [he.defs]
  have hD:w.heap[Dk]? = some (.deferred (some [])):=hm.own _ List.mem_cons_self
  have hm2:=hm.putObj (i:=0) (o':=.deferred none) rfl
  refine mY (by simp) hD (cZ ?_)
  refine leaves_cons (f:=212) (args:=#[.pointer (some ⟨b3,0,none⟩),.pointer (some ⟨b4,0,none⟩)]) (by simp) (call212 _ _) ?_
  refine catch_none.mono ?_
  rintro e u' w'' ⟨rfl,rfl,rfl⟩
  refine ⟨_,q2l (i:=2) (j:=1) he hm2.toSees results198 rfl rfl rfl isAgg255 rfl rfl isAgg257 sizeOf257 rfl,?_⟩
  rw [hG]
  exact ⟨(b,y.2),rfl,(((hm2.del 0).del 0).del 0).le le⟩
 ·intro Dk y c a w hB he hm
  obtain ⟨e,hE,rfl⟩:=hB
  refine hQ _ _ _ ?_
  show pZ _ _ _ _ a.defers _ _
  rw [he.defs]
  have hD:w.heap[Dk]? = some (.deferred (some [])):=hm.own _ List.mem_cons_self
  have hm2:=(hm.putObj (i:=0) (o':=.deferred none) rfl).pull (i:=2) rfl
  replace hm2:Mem Ψ (.blk b3 (ob [y.2] 255)::.blk b4 (ob [.int .i64 ((0:Nat):Int),.int .i64 ((0:Nat):Int)] 257)::.blk Dk (.deferred none)::.gs y.2 261 4 (pW y.1)::K) (w.putObj Dk (.deferred none)):=hm2.pull (i:=2) rfl |>.pull (i:=1) rfl
  refine mY (by simp) hD (cZ ?_)
  refine leaves_cons (f:=212) (args:=#[.pointer (some ⟨b3,0,none⟩),.pointer (some ⟨b4,0,none⟩)]) (by simp) (call212 _ _) ?_
  refine (y9z hm2).mono ?_
  rintro e' u' w'' ⟨rfl,rfl,hm3⟩
  refine ⟨_,q2l (i:=0) (j:=1) he hm3.toSees results198 rfl rfl rfl isAgg255 rfl rfl isAgg257 sizeOf257 rfl,?_⟩
  rw [hE]
  exact ⟨b,rfl,((((hm3.del 0).del 0).del 0).del 0).le le⟩
def RTok (_:Fz) (cs:List Value) (x:Tok):Prop:=cs=[.int .i64 x.kind,.int .i64 x.num,.string x.text,.int .i64 ((x.org:Nat):Int)]
theorem RTok.mono (Φ Ψ:Fz) (c:List Value) (x:Tok) (_:Φ.Le Ψ) (h:RTok Φ c x):RTok Ψ c x:=h
theorem y2q {Φ:Fz}:∀l:List Tok,Chunks (RTok Φ) 4 (pW l) l
 | []=>rfl
 | k::l=>⟨z5e k,pW l,rfl,rfl,rfl,y2q l⟩
section
variable {s:Bs} {l:List Tok} {c:Nat×Int} {x:Tok}
theorem j2a (h:24 < s.size):kF s=0:=by unfold kF;rw [if_pos h]
theorem q1l (h:¬24 < s.size) (hq:nI s=.error c):kF s=0:=by unfold kF;rw [if_neg h,hq]
theorem kind_ne (h:¬24 < s.size) (hq:nI s=.ok l) (hl:¬l.length=1):kF s=0:=by
 unfold kF;rw [if_neg h,hq]
 match l,hl with
 | [],_=>rfl
 | [k],hl=>exact absurd rfl hl
 | _::_::_,_=>rfl
theorem q1m (hl:l.length=1) (hx:l[0]? = some x):l=[x]:=by
 match l,hl,hx with
 | [k],_,hx=>simp only [List.getElem?_cons_zero,Option.some.injEq] at hx;rw [hx]
theorem kind_no (h:¬24 < s.size) (hq:nI s=.ok l) (hl:l.length=1) (hx:l[0]? = some x) (ht:¬x.text=s):kF s=0:=by
 unfold kF;rw [if_neg h,hq,q1m hl hx];simp [ht]
theorem kind_ok (h:¬24 < s.size) (hq:nI s=.ok l) (hl:l.length=1) (hx:l[0]? = some x) (ht:x.text=s):kF s=x.kind:=by
 unfold kF;rw [if_neg h,hq,q1m hl hx];simp [ht]
end
end Go.Sw

namespace Go.Sw
open Go.Proofs.Tryz
open Go.Proofs
set_option maxRecDepth 20000
set_option maxHeartbeats 4000000
variable {Φ:Fz} {K:List Res} {w:World}
theorem q1k {s:Bs} (G:Glob Φ) (hm:Mem Φ K w):Calls prog 184 (List.toArray [.string s]) w (fun ee w'=>ee=.returned (.int .i64 (kF s))∧Mem Φ K w'):=by
 refine zL func184 ntmps184 fun Q hQ a he =>?_
 by_cases h4:24 < s.size
 refine zI ?_
 rw [j2a h4];exact ⟨rfl,hm⟩
 refine go fun a he =>?_
 refine st he rfl rfl rfl (j0x he rfl call198 (q6x G (by omega) hm) (fun q7 y8 w hq9 hm a he =>?_) (fun q7 y8 w hq9 hm a he =>?_))
 replace hm:=hm.nf
 obtain ⟨y8a,y8b⟩:=y8
 simp only at hm he
 have hm0_:=hm
 clear hm
 obtain ⟨Ψ10,le11,hm,hrow12⟩:=hm0_.freezeRow (i:=0) rfl
 clear hm0_
 replace hm:=hm.nf
 have hsl13:SliceOf RTok Ψ10 4 _ (q7):=⟨_,hrow12,y2q q7⟩
 obtain ⟨p14,c15,hv_,hm16,hn17⟩:=hsl13.form (by decide)
 have hmk_:=hm
 clear hm
 subst hv_
 have hm:=hmk_
 clear hmk_
 refine Alc fun b18 w hm a he =>?_
 refine Sto 0 fun w hm a he =>?_
 refine Qq (fun a he =>?_) (o:=by exact fun he hs=>nL false he rfl rfl rfl)
 by_cases h21:(q7).length=1
 refine go fun a he =>?_
 have hb22:0 < (q7).length:=by omega
 obtain ⟨q23,rfl,x24,hx25,cs26,hl27,ha28,hr29⟩:=hsl13.el hn17 hb22
 obtain rfl:=id hr29
 by_cases h30:x24.text=s
 refine go fun a he =>?_
 obtain ⟨x32,hx33⟩:=zX hb22
 obtain ⟨cs34,hl35,ha36,hr37⟩:=hsl13.elem hx33
 obtain rfl:=id hr37
 refine zI ?_
 replace hm:=hm.le (le11)
 replace hm:=hm.dl [0]
 rw [kind_ok h4 hq9 h21 hx25 h30,show x24=x32 from Option.some.inj (hx25.symm.trans hx33)];exact ⟨rfl,hm⟩
 refine zI ?_
 replace hm:=hm.le (le11)
 replace hm:=hm.dl [0]
 rw [kind_no h4 hq9 h21 hx25 h30];exact ⟨rfl,hm⟩
 refine zI ?_
 replace hm:=hm.le (le11)
 replace hm:=hm.dl [0]
 rw [kind_ne h4 hq9 h21];exact ⟨rfl,hm⟩
 replace hm:=hm.nf
 refine Alc fun b40 w hm a he =>?_
 refine Sto 0 fun w hm a he =>?_
 by_cases h43:q7.2=0
 refine Qq (fun a he =>?_) (o:=by exact fun he hs=>nL true he rfl rfl rfl)
 refine zI ?_
 replace hm:=hm.dl [0]
 rw [q1l h4 hq9];exact ⟨rfl,hm⟩
 refine zI ?_
 replace hm:=hm.dl [0]
 rw [q1l h4 hq9];exact ⟨rfl,hm⟩
theorem q5a {s:Bs} (G:Glob Φ) (hm:Mem Φ K w):Calls prog 161 (List.toArray [.string s]) w (fun ee w'=>ee=.returned (.bool (yY s))∧Mem Φ K w'):=by
 refine zL func161 ntmps161 fun Q hQ a he =>?_
 refine zZ call184 (fun w hm a he =>?_) (c:=q1k G hm)
 refine Qq (fun a he =>?_) (o:=by exact fun he hs=>nK he rfl rfl)
 refine zI ?_
 exact ⟨rfl,hm⟩
theorem j1v {s:Bs} (G:Glob Φ) (hm:Mem Φ K w):Calls prog 158 (List.toArray [.string s]) w (fun ee w'=>ee=.returned (.bool (qG s))∧Mem Φ K w'):=by
 refine zL func158 ntmps158 fun Q hQ a he =>?_
 refine zZ call184 (fun w hm a he =>?_) (c:=q1k G hm)
 refine Qq (fun a he =>?_) (o:=by exact fun he hs=>nK he rfl rfl)
 refine zI ?_
 exact ⟨rfl,hm⟩
end Go.Sw

namespace Go.Sw
open Go.Proofs
theorem gT {Φ:Fz} {K:List Res} {w:World} {s:Bs} (G:Glob Φ) (hm:Mem Φ K w):Calls Tryz.prog 161 (List.toArray [.string s]) w (fun ee w'=>ee=.returned (.bool (yY s))∧Mem Φ K w'):=q5a G hm
theorem wY {Φ:Fz} {K:List Res} {w:World} {s:Bs} (G:Glob Φ) (hm:Mem Φ K w):Calls Tryz.prog 158 (List.toArray [.string s]) w (fun ee w'=>ee=.returned (.bool (qG s))∧Mem Φ K w'):=j1v G hm
end Go.Sw

namespace Go.Sw
open Go.Proofs
def mI (n:Nat):List PanicEntry:=[{ v:=.iface 206 (.agg #[.int .i64 ((n:Nat):Int)]),recovered:=false }]
section
variable {P:Program} {n:Nat} {E:List (Nat×Value)} {D:List Deferred} {a:Act} {Φ Ψ:Fz} {K:List Res} {w:World}
variable {Kn:Value→World→Prop} {Qp:List PanicEntry→World→Prop} {dst:Option Tmp} {ty:TypeId} {pos:String} {aft:Array Edge} {g:Option (Nat×Bool)}
theorem cA {f:FuncId} {xs:Array Operand} {ts:Array TypeId} {vs:List Value} {c:List PanicEntry} {Φ2:Fz} {KE:List Res}
  (he:EnvR n E D a) (hx:evs E xs.toList=some vs) (hf:∀args w,(callFunc f args).run P w=.ok (.enter f args) w)
  (hc:Calls P f vs.toArray w (fun e w'=>e=.panicked c∧Mem Φ2 KE w')) (kp:∀w',Mem Φ2 KE w'→Qp c w') :
  Oper.eff P ⟨dst,.call { callee:=.value (.func f),args:=xs,argTypes:=ts },ty,pos,aft,g⟩ a w Kn Qp :=
 mW he hx hf hc (fun v w' h=>by cases h.1) (fun c w' h=>by cases h.1;exact kp _ h.2) (fun w' h=>by cases h.1)
end
theorem j1u {s:Bs} {v:Int} (h:dI s=.ok v) (hd:aM v=s):gG s=some v:=by simp [gG,h,hd]
theorem intP_ne {s:Bs} {v:Int} (h:dI s=.ok v) (hd:¬aM v=s):gG s=none:=by simp [gG,h,hd]
theorem j8j {s:Bs} {u:Unit} (h:dI s=.error u):gG s=none:=by simp [gG,h]
theorem j8k {s:Bs} {v:Int} (h:gG s=some v):I64 v:=by
 unfold gG at h
 split at h
 ·rename_i v' h2
  split at h
  ·simp only [Option.some.injEq] at h;subst h;exact z8i h2
  ·cases h
 ·cases h
theorem jS {ws:List Bs} {i:Nat} {p:Bs→Bool} {x:Bs×Nat} (h:pT ws p i=.ok x):x.2=i+1∧x.2≤ws.length:=by have:=z5c h;omega
theorem wD {ws:List Bs} {i:Nat} {w:Bs} {x:Unit×Nat} (h:kP ws w i=.ok x):x.2=i+1∧x.2≤ws.length:=by have:=y5p h;omega
end Go.Sw

namespace Go.Sw
open Go.Proofs
def oE (ws:List Bs) (d:Nat):Prop:=∀{Φ:Fz} {K:List Res} {w:World} {r i:Nat} {rs:Value},Glob Φ→SliceOf RStr Φ 1 rs ws→i≤ws.length →
  Mem Φ (.blk r (ob [rs,.int .i64 ((i:Nat):Int)] 210)::K) w →
  Calls Tryz.prog 180 (List.toArray [.pointer (some ⟨r,0,none⟩),.int .i64 ((d:Nat):Int)]) w (fun ee w'=>Out (zO ws d i)
   (fun x=>∃y:Fz×List Value,ee=.returned (.agg y.2.toArray)∧(Φ.Le y.1∧REx y.1 y.2 x.1)∧Mem y.1 (.blk r (ob [rs,.int .i64 ((x.2:Nat):Int)] 210)::K) w')
   (fun c=>ee=.panicked (mI c)∧Mem Φ K w'))
theorem y4w:I64 0:=⟨by decide,by decide⟩
theorem REx.leaf {Φ:Fz} {k n:Int} {s:Bs} (h:I64 n):REx Φ [.int .i64 k,.int .i64 n,.string s,.slice none 0 0,.slice none 0 0] (.mk k n s [] []) :=
 REx.iff.2 ⟨_,_,rfl,h,SliceOf.nil 5,SliceOf.nil 7⟩
theorem REx.node {Φ:Fz} {k:Int} {s:Bs} {v:Value} {l:List Ex} (h:SliceOf REx Φ 5 v l):REx Φ [.int .i64 k,.int .i64 0,.string s,v,.slice none 0 0] (.mk k 0 s l []) :=
 REx.iff.2 ⟨_,_,rfl,y4w,h,SliceOf.nil 7⟩
theorem REx.full {Φ:Fz} {k:Int} {s:Bs} {v u:Value} {l:List Ex} {m:List Arm} (h:SliceOf REx Φ 5 v l) (h2:SliceOf RArm Φ 7 u m):REx Φ [.int .i64 k,.int .i64 0,.string s,v,u] (.mk k 0 s l m) :=
 REx.iff.2 ⟨_,_,rfl,y4w,h,h2⟩
theorem Chunks.one {α:Type} {R:List Value→α→Prop} {k:Nat} {a:List Value} {x:α} (la:a.length=k) (ha:R a x):Chunks R k a [x]:=⟨a,[],by simp,la,ha,rfl⟩
theorem Chunks.two {α:Type} {R:List Value→α→Prop} {k:Nat} {a b:List Value} {x y:α} (la:a.length=k) (ha:R a x) (lb:b.length=k) (hb:R b y):Chunks R k (a++b) [x,y]:=⟨a,b,rfl,la,ha,Chunks.one lb hb⟩
section
variable {P:Program} {n:Nat} {E:List (Nat×Value)} {D:List Deferred} {a:Act} {Φ:Fz} {K:List Res} {w:World} {ty:TypeId}
theorem q3q (i m:Nat) {x:Operand} {t e T:TypeId} {k:Nat} {v:Value} {cs:List Value} (he:EnvR n E D a) (hs:Sees Φ K w) (hx:ev E x=some v) (hk:qJ K i=some (.gs v T k cs)) (hl:cs.length=m * k) (h0:0 < k) (ht:Under P t (.slice e)) :
  Ok P a (.call { callee:=.builtin .len,args:=#[x],argTypes:=#[t] }) ty w (.int .i64 ((m:Nat):Int)):=by
 obtain ⟨p,m',c,rfl,h1,_⟩:=hs.gsForm hk
 have:m'=m:=Nat.eq_of_mul_eq_mul_right h0 (h1.symm.trans hl)
 subst this
 exact z6m he hx ht
end
section
variable {ws:List Bs} {i d:Nat}
theorem y4k:zO ws 0 i=.error (i+1):=rfl
theorem expr_no (h:zC ws i=⟨#[]⟩):zO ws (d+1) i=.error (i+1):=by rw [zO,if_pos (show zC ws i=sNo from h)]
theorem j5n {n:Int} (h:¬zC ws i=⟨#[]⟩) (hn:gG (zC ws i)=some n):zO ws (d+1) i=.ok (.mk 1 n sNo [] [],i+1):=by
 rw [zO,if_neg (show ¬zC ws i=sNo from h),hn]
theorem expr_fe {c:Nat} (h:¬zC ws i=⟨#[]⟩) (hn:gG (zC ws i)=none) (ho:zC ws i=⟨#[40]⟩) (hf:yT ws (zO ws d) (i+1)=.error c):zO ws (d+1) i=.error c:=by
 rw [zO,if_neg (show ¬zC ws i=sNo from h),hn];show (if zC ws i=aX then _ else _)=_;rw [if_pos (show zC ws i=aX from ho),zM hf]
theorem expr_fc {c:Nat} {x:Ex×Nat} (h:¬zC ws i=⟨#[]⟩) (hn:gG (zC ws i)=none) (ho:zC ws i=⟨#[40]⟩) (hf:yT ws (zO ws d) (i+1)=.ok x) (hc:kP ws ⟨#[41]⟩ x.2=.error c):zO ws (d+1) i=.error c:=by
 rw [zO,if_neg (show ¬zC ws i=sNo from h),hn];show (if zC ws i=aX then _ else _)=_;rw [if_pos (show zC ws i=aX from ho),zB hf];exact zM hc
theorem j1c {x:Ex×Nat} {y:Unit×Nat} (h:¬zC ws i=⟨#[]⟩) (hn:gG (zC ws i)=none) (ho:zC ws i=⟨#[40]⟩) (hf:yT ws (zO ws d) (i+1)=.ok x) (hc:kP ws ⟨#[41]⟩ x.2=.ok y):zO ws (d+1) i=.ok (x.1,y.2):=by
 rw [zO,if_neg (show ¬zC ws i=sNo from h),hn];show (if zC ws i=aX then _ else _)=_;rw [if_pos (show zC ws i=aX from ho),zB hf];exact zB hc
theorem j5m {x:Bs×Nat} (h:¬zC ws i=⟨#[]⟩) (hn:gG (zC ws i)=none) (ho:¬zC ws i=⟨#[40]⟩) (hc:qG (zC ws i)=true) (hx:oV ws i=.ok x):zO ws (d+1) i=.ok (.mk 4 0 x.1 [] [],x.2):=by
 have hx':=(y2m h hc).symm.trans hx
 simp only [Except.ok.injEq] at hx';subst hx'
 rw [zO,if_neg (show ¬zC ws i=sNo from h),hn];show (if zC ws i=aX then _ else _)=_;rw [if_neg (show ¬zC ws i=aX from ho),if_pos hc]
theorem j1b {c:Nat} {Q:Prop} (h:¬zC ws i=⟨#[]⟩) (hc:qG (zC ws i)=true) (hx:oV ws i=.error c):Q:=by cases (y2m h hc).symm.trans hx
theorem q4m (h:¬zC ws i=⟨#[]⟩) (hn:gG (zC ws i)=none) (ho:¬zC ws i=⟨#[40]⟩) (hc:qG (zC ws i)=false) (hb:zJ (zC ws i) 0=33) (hi:yY ((zC ws i).extract 1 (zC ws i).size)=true) :
  zO ws (d+1) i=.ok (.mk 3 0 ((zC ws i).extract 1 (zC ws i).size) [] [],i+1):=by
 rw [zO,if_neg (show ¬zC ws i=sNo from h),hn];show (if zC ws i=aX then _ else _)=_;rw [if_neg (show ¬zC ws i=aX from ho),if_neg (by rw [hc];decide),if_pos ⟨hb,hi⟩]
theorem uK (h:¬zC ws i=⟨#[]⟩) (hn:gG (zC ws i)=none) (ho:¬zC ws i=⟨#[40]⟩) (hc:qG (zC ws i)=false) (hb:¬(zJ (zC ws i) 0=33∧yY ((zC ws i).extract 1 (zC ws i).size)=true)) :
  zO ws (d+1) i=yL (nD ws i) fun x j=>.ok (.mk 2 0 x [] [],j):=by
 rw [zO,if_neg (show ¬zC ws i=sNo from h),hn];show (if zC ws i=aX then _ else _)=_;rw [if_neg (show ¬zC ws i=aX from ho),if_neg (by rw [hc];decide),if_neg hb]
theorem x0n {s:Bs} (h:¬s=⟨#[]⟩):0 < s.size:=by
 refine Nat.pos_of_ne_zero fun e=>h ?_
 apply ByteArray.ext
 exact Array.eq_empty_of_size_eq_zero e
variable {ex:Nat→Rd Ex} {f least:Nat}
theorem j8r (h:¬0 < least) (h2:zC ws i=⟨#[41]⟩):kG ws ex (f+1) least i=.ok ([],i):=by
 rw [kG,if_neg];rintro (h3 | h3);exact h h3;exact h3 h2
theorem q9a (h:0 < least∨¬zC ws i=⟨#[41]⟩):kG ws ex (f+1) least i=yL (ex i) fun e i=>yL (kG ws ex f (least - 1) i) fun l i=>.ok (e::l,i):=by
 rw [kG,if_pos];exact h.imp_right fun h=>h
end
def vW {α:Type} (xs:List α) (r:Rd (List α)):Rd (List α):=yL r fun l k=>.ok (xs++l,k)
theorem dD {α:Type} (r:Rd (List α)):r=vW [] r:=by
 unfold vW;cases r with
 | ok x=>rfl
 | error c=>rfl
theorem pre1_ok {α:Type} (xs:List α) (l:List α) (k:Nat):vW xs (.ok (l,k))=.ok (xs++l,k):=rfl
theorem cE {α:Type} (xs:List α) (x:α) (r:Rd (List α)):vW xs (yL r fun l k=>.ok (x::l,k))=vW (xs++[x]) r:=by
 unfold vW;cases r with
 | ok y=>simp [yL]
 | error c=>rfl
section
variable {ws:List Bs} {ex:Nat→Rd Ex} {f m j:Nat} {r:Rd (List Ex)} {xs:List Ex}
theorem j8s (hI:r=vW xs (kG ws ex f (m - xs.length) j)) (hf:0 < f) (h:¬xs.length < m) (h2:zC ws j=⟨#[41]⟩):r=.ok (xs,j):=by
 obtain ⟨f,rfl⟩:∃k,f=k+1:=⟨f - 1,by omega⟩
 rw [hI,j8r (by omega) h2,pre1_ok,List.append_nil]
theorem y5d {c:Nat} (hI:r=vW xs (kG ws ex f (m - xs.length) j)) (hf:0 < f) (h:xs.length < m∨¬zC ws j=⟨#[41]⟩) (he:ex j=.error c):r=.error c:=by
 obtain ⟨f,rfl⟩:∃k,f=k+1:=⟨f - 1,by omega⟩
 rw [hI,q9a (h.imp_left fun h=>by omega),zM he];rfl
theorem y5e {x:Ex×Nat} (hI:r=vW xs (kG ws ex f (m - xs.length) j)) (hf:0 < f) (h:xs.length < m∨¬zC ws j=⟨#[41]⟩) (he:ex j=.ok x) :
  r=vW (xs++[x.1]) (kG ws ex (f - 1) (m - (xs++[x.1]).length) x.2):=by
 obtain ⟨f,rfl⟩:∃k,f=k+1:=⟨f - 1,by omega⟩
 rw [hI,q9a (h.imp_left fun h=>by omega),zB he,cE,Nat.add_sub_cancel,List.length_append,Nat.sub_sub];rfl
end
section
variable {ws:List Bs} {ex:Nat→Rd Ex} {f j:Nat} {r:Rd (List Arm)} {xs:List Arm}
theorem j4q (hI:r=vW xs (cK ws ex f (decide (xs.length=0)) j)) (hf:0 < f) (h:¬xs.length=0) (h2:¬zC ws j=⟨#[40]⟩):r=.ok (xs,j):=by
 obtain ⟨f,rfl⟩:∃k,f=k+1:=⟨f - 1,by omega⟩
 rw [hI,cK,if_neg (by rintro (h3 | h3);exact h (of_decide_eq_true h3);exact h2 h3)];simp [vW,yL]
theorem vO {c:Nat} (hI:r=vW xs (cK ws ex f (decide (xs.length=0)) j)) (hf:0 < f) (h:xs.length=0∨zC ws j=⟨#[40]⟩) (he:armP ws ex j=.error c):r=.error c:=by
 obtain ⟨f,rfl⟩:∃k,f=k+1:=⟨f - 1,by omega⟩
 rw [hI,cK,if_pos (show decide (xs.length=0)=true∨zC ws j=aX from h.imp_left fun h=>decide_eq_true h),zM he];rfl
theorem y3t {x:Arm×Nat} (hI:r=vW xs (cK ws ex f (decide (xs.length=0)) j)) (hf:0 < f) (h:xs.length=0∨zC ws j=⟨#[40]⟩) (he:armP ws ex j=.ok x):r=vW (xs++[x.1]) (cK ws ex (f - 1) (decide ((xs++[x.1]).length=0)) x.2):=by
 obtain ⟨f,rfl⟩:∃k,f=k+1:=⟨f - 1,by omega⟩
 rw [hI,cK,if_pos (show decide (xs.length=0)=true∨zC ws j=aX from h.imp_left fun h=>decide_eq_true h),zB he,cE,Nat.add_sub_cancel];simp
end
section
variable {ws:List Bs} {f j:Nat} {r:Rd (List Bs)} {xs:List Bs}
theorem q3j (hI:r=vW xs (aN ws f j)) (hf:0 < f) (h:zC ws j=⟨#[45,62]⟩):r=.ok (xs,j):=by
 obtain ⟨f,rfl⟩:∃k,f=k+1:=⟨f - 1,by omega⟩
 rw [hI,aN,if_neg (fun h3=>h3 h)];simp [vW,yL]
theorem y6p {c:Nat} (hI:r=vW xs (aN ws f j)) (hf:0 < f) (h:¬zC ws j=⟨#[45,62]⟩) (he:nD ws j=.error c):r=.error c:=by
 obtain ⟨f,rfl⟩:∃k,f=k+1:=⟨f - 1,by omega⟩
 rw [hI,aN,if_pos (show zC ws j≠y1z from h),zM he];rfl
theorem y6q {x:Bs×Nat} (hI:r=vW xs (aN ws f j)) (hf:0 < f) (h:¬zC ws j=⟨#[45,62]⟩) (he:nD ws j=.ok x):r=vW (xs++[x.1]) (aN ws (f - 1) x.2):=by
 obtain ⟨f,rfl⟩:∃k,f=k+1:=⟨f - 1,by omega⟩
 rw [hI,aN,if_pos (show zC ws j≠y1z from h),zB he,cE,Nat.add_sub_cancel]
end
section
variable {ws:List Bs} {f j:Nat} {r:Rd (List Bs)} {xs:List Bs}
theorem q4n (hI:r=vW xs (vR ws f j)) (hf:0 < f) (h:qG (zC ws j)=false):r=.ok (xs,j):=by
 obtain ⟨f,rfl⟩:∃k,f=k+1:=⟨f - 1,by omega⟩
 rw [hI,vR,if_neg (by rw [h];decide)];simp [vW,yL]
theorem q0s {c:Nat} (hI:r=vW xs (vR ws f j)) (hf:0 < f) (h:qG (zC ws j)=true) (he:oV ws j=.error c):r=.error c:=by
 obtain ⟨f,rfl⟩:∃k,f=k+1:=⟨f - 1,by omega⟩
 rw [hI,vR,if_pos h,zM he];rfl
theorem q0t {x:Bs×Nat} (hI:r=vW xs (vR ws f j)) (hf:0 < f) (h:qG (zC ws j)=true) (he:oV ws j=.ok x):r=vW (xs++[x.1]) (vR ws (f - 1) x.2):=by
 obtain ⟨f,rfl⟩:∃k,f=k+1:=⟨f - 1,by omega⟩
 rw [hI,vR,if_pos h,zB he,cE,Nat.add_sub_cancel]
end
section
variable {ws:List Bs} {ex:Nat→Rd Ex} {i:Nat}
theorem q8t (h:sR (zC ws i)=true):yT ws ex i=yL (z3k ex (i+1)) fun l j=>.ok (.mk 8 0 (zC ws i) l [],j):=by rw [yT,if_pos h]
theorem z9o (h:sR (zC ws i)=false) (h2:zC ws i=⟨#[108,101,116]⟩):yT ws ex i=yL (nD ws (i+1)) fun x j=>yL (z3k ex j) fun l j=>.ok (.mk 6 0 x l [],j):=by
 rw [yT,if_neg (by rw [h];decide)];exact if_pos h2
theorem xR (h:sR (zC ws i)=false) (h2:¬zC ws i=⟨#[108,101,116]⟩) (h3:zC ws i=⟨#[99,97,115,101]⟩) :
  yT ws ex i=yL (ex (i+1)) fun a j=>yL (cK ws ex (ws.length+1) true j) fun l j=>.ok (.mk 7 0 sNo [a] l,j):=by
 rw [yT,if_neg (by rw [h];decide)];exact (if_neg h2).trans (if_pos h3)
theorem q1b (h:sR (zC ws i)=false) (h2:¬zC ws i=⟨#[108,101,116]⟩) (h3:¬zC ws i=⟨#[99,97,115,101]⟩) (h4:qG (zC ws i)=true) :
  yT ws ex i=yL (kG ws ex (ws.length+1) 1 (i+1)) fun l j=>.ok (.mk 4 0 (zC ws i) l [],j):=by
 rw [yT,if_neg (by rw [h];decide)];exact (if_neg h2).trans ((if_neg h3).trans (if_pos h4))
theorem z4e (h:sR (zC ws i)=false) (h2:¬zC ws i=⟨#[108,101,116]⟩) (h3:¬zC ws i=⟨#[99,97,115,101]⟩) (h4:qG (zC ws i)=false) :
  yT ws ex i=yL (nD ws i) fun x j=>yL (kG ws ex (ws.length+1) 0 j) fun l j=>.ok (.mk 5 0 x l [],j):=by
 rw [yT,if_neg (by rw [h];decide)];exact (if_neg h2).trans ((if_neg h3).trans (if_neg (by rw [h4];decide)))
theorem isOp_no {s:Bs} (h1:¬s=⟨#[43]⟩) (h2:¬s=⟨#[45]⟩) (h3:¬s=⟨#[42]⟩) (h4:¬s=⟨#[47]⟩) (h5:¬s=⟨#[37]⟩) (h6:¬s=⟨#[60]⟩) (h7:¬s=⟨#[61]⟩):sR s=false:=by
 simp [sR,h1,h2,h3,h4,h5,h6,h7]
theorem cV {s:Bs} (h:s=⟨#[43]⟩∨s=⟨#[45]⟩∨s=⟨#[42]⟩∨s=⟨#[47]⟩∨s=⟨#[37]⟩∨s=⟨#[60]⟩∨s=⟨#[61]⟩):sR s=true:=by
 rcases h with h | h | h | h | h | h | h <;> subst h <;> rfl
end
theorem RArm.of {Φ:Fz} {c:Bs} {v:Value} {b:List Value} {vs:List Bs} {e:Ex} (h:SliceOf RStr Φ 1 v vs) (hb:REx Φ b e):RArm Φ (.string c::v::b) (.mk c vs e):=RArm.iff.2 ⟨_,_,rfl,h,hb⟩
theorem oU {ws:List Bs} {i:Nat} {s:Bs} (h:zC ws i=s) (hs:s≠⟨#[]⟩):i < ws.length:=wN fun e=>hs (h.symm.trans e)
theorem isOp_lt {ws:List Bs} {i:Nat} (h:sR (zC ws i)=true):i < ws.length:=wN fun e=>by rw [e] at h;revert h;decide
theorem j8m {ws:List Bs} {i:Nat} (h:qG (zC ws i)=true):i < ws.length:=wN fun e=>by rw [e] at h;revert h;decide
theorem two_le {ws:List Bs} {d i:Nat} {x:List Ex×Nat} (h:z3k (zO ws d) i=.ok x):i < x.2∧x.2≤ws.length:=y2t (vE d) i x h
theorem q8z {ws:List Bs} {d i f m:Nat} {x:List Ex×Nat} (hi:i≤ws.length) (h:kG ws (zO ws d) f m i=.ok x):i≤x.2∧x.2≤ws.length:=oP (vE d) f m i x hi h
theorem form_le {ws:List Bs} {d i:Nat} {x:Ex×Nat} (h:yT ws (zO ws d) i=.ok x):i < x.2∧x.2≤ws.length:=y4q (vE d) i x h
section
variable {ws:List Bs} {f j:Nat} {xs:List Con} {r:Rd (List Con)} {n:Bs×Nat} {l:List Bs} {k c:Nat}
theorem q4c (hI:r=vW xs (cL ws f j)) (hf:0 < f) (he:oV ws j=.error c):r=.error c:=by
 obtain ⟨f,rfl⟩:∃k,f=k+1:=⟨f - 1,by omega⟩
 rw [hI,cL,zM he];rfl
theorem q4d (hI:r=vW xs (cL ws f j)) (hf:0 < f) (h1:oV ws j=.ok n) (he:vR ws (ws.length+1) n.2=.error c):r=.error c:=by
 obtain ⟨f,rfl⟩:∃k,f=k+1:=⟨f - 1,by omega⟩
 rw [hI,cL,zB h1,zM he];rfl
theorem j4y (hI:r=vW xs (cL ws f j)) (hf:0 < f) (h1:oV ws j=.ok n) (h2:vR ws (ws.length+1) n.2=.ok (l,k)) (hb:¬zC ws k=⟨#[124]⟩):r=.ok (xs++[⟨n.1,l⟩],k):=by
 obtain ⟨f,rfl⟩:∃k,f=k+1:=⟨f - 1,by omega⟩
 rw [hI,cL,zB h1,zB h2,if_pos (show zC ws k≠sBar from hb)];rfl
theorem j0i (hI:r=vW xs (cL ws f j)) (hf:0 < f) (h1:oV ws j=.ok n) (h2:vR ws (ws.length+1) n.2=.ok (l,k)) (hb:zC ws k=⟨#[124]⟩):r=vW (xs++[⟨n.1,l⟩]) (cL ws (f - 1) (k+1)):=by
 obtain ⟨f,rfl⟩:∃k,f=k+1:=⟨f - 1,by omega⟩
 rw [hI,cL,zB h1,zB h2,if_neg (show ¬zC ws k≠sBar from fun h=>h hb),cE,Nat.add_sub_cancel]
end
section
variable {ws:List Bs} {f j:Nat} {xs:List Param} {r:Rd (List Param)} {p:Param×Nat} {y:Unit×Nat} {c:Nat}
theorem q6a (hI:r=vW xs (kB ws f j)) (hf:0 < f) (h:¬zC ws j=⟨#[40]⟩):r=.ok (xs,j):=by
 obtain ⟨f,rfl⟩:∃k,f=k+1:=⟨f - 1,by omega⟩
 rw [hI,kB,if_neg (show ¬zC ws j=aX from h)];simp [vW,yL]
theorem y8k (hI:r=vW xs (kB ws f j)) (hf:0 < f) (h:zC ws j=⟨#[40]⟩) (he:kX ws (j+1)=.error c):r=.error c:=by
 obtain ⟨f,rfl⟩:∃k,f=k+1:=⟨f - 1,by omega⟩
 rw [hI,kB,if_pos (show zC ws j=aX from h),zM he];rfl
theorem y8l (hI:r=vW xs (kB ws f j)) (hf:0 < f) (h:zC ws j=⟨#[40]⟩) (h1:kX ws (j+1)=.ok p) (he:kP ws ⟨#[41]⟩ p.2=.error c):r=.error c:=by
 obtain ⟨f,rfl⟩:∃k,f=k+1:=⟨f - 1,by omega⟩
 rw [hI,kB,if_pos (show zC ws j=aX from h),zB h1,zM (show kP ws sCls p.2=_ from he)];rfl
theorem q2d (hI:r=vW xs (kB ws f j)) (hf:0 < f) (h:zC ws j=⟨#[40]⟩) (h1:kX ws (j+1)=.ok p) (h2:kP ws ⟨#[41]⟩ p.2=.ok y):r=vW (xs++[p.1]) (kB ws (f - 1) y.2):=by
 obtain ⟨f,rfl⟩:∃k,f=k+1:=⟨f - 1,by omega⟩
 rw [hI,kB,if_pos (show zC ws j=aX from h),zB h1,zB (show kP ws sCls p.2=_ from h2),cE,Nat.add_sub_cancel]
end
theorem q2c {ws:List Bs} {i:Nat} {x:Param×Nat} (h:kX ws i=.ok x):i < x.2∧x.2≤ws.length:=q5y i x h
theorem data_le {ws:List Bs} {i:Nat} {x:Data×Nat} (h:aB ws i=.ok x):i < x.2∧x.2≤ws.length:=j0l i x h
theorem fun_le {ws:List Bs} {i:Nat} {x:Fun×Nat} (h:cR ws i=.ok x):i < x.2∧x.2≤ws.length:=j7i i x h
end Go.Sw

namespace Go.Sw
open Go.Proofs
theorem hY (p:Nat→Bool) (t:Bs):∀(f i j:Nat),j < yP p t f i→i+j < t.size∧p (zJ t (i+j))=true
 | 0,i,j,h=>by simp [yP] at h
 | f+1,i,j,h=>by
  simp only [yP] at h
  split at h
  ·rename_i h1
   cases j with
   | zero=>exact h1
   | succ j =>
    have:=hY p t f (i+1) j (by omega)
    rw [show i+(j+1)=i+1+j by omega];exact this
  ·omega
theorem q2t (p:Nat→Bool) (t:Bs):∀(f i:Nat),t.size≤i+f→i+yP p t f i < t.size→p (zJ t (i+yP p t f i))=false
 | 0,i,h,h2=>by simp only [yP] at h2 ⊢;omega
 | f+1,i,h,h2=>by
  by_cases h1:i < t.size∧p (zJ t i)=true
  ·have e:yP p t (f+1) i=yP p t f (i+1)+1:=by simp only [yP];rw [if_pos h1]
   rw [e] at h2 ⊢
   have:=q2t p t f (i+1) (by omega) (by omega)
   rw [show i+(yP p t f (i+1)+1)=i+1+yP p t f (i+1) by omega];exact this
  ·have e:yP p t (f+1) i=0:=by simp only [yP];rw [if_neg h1]
   rw [e] at h2 ⊢
   cases hp:p (zJ t (i+0)) with
   | false=>rfl
   | true=>exact absurd ⟨by omega,hp⟩ h1
theorem byte_eq (b k:UInt8):(b==k)=decide (b.toNat=k.toNat):=by
 rw [Bool.eq_iff_iff];simp [UInt8.toNat_inj]
theorem nF (b:UInt8):([32,10,40,41]:List UInt8).contains b=y2e b.toNat:=by
 simp only [List.contains_cons,List.contains_nil,y2e,byte_eq,Bool.or_false]
 simp [Bool.or_assoc]
theorem z9g {t:Bs} {i j:Nat} (hi:i+j < t.size):(t.extract i t.size).data.toList[j]? = some t[i+j]:=by
 rw [Array.getElem?_toList]
 have h:=ByteArray.data_extract (a:=t) (b:=i) (e:=t.size)
 rw [h,Array.getElem?_extract]
 have:t.data.size=t.size:=rfl
 rw [if_pos (by omega),Array.getElem?_eq_getElem (by omega)]
 rfl
theorem mL {t:Bs} {i:Nat} (h:i < t.size):zJ t i=t[i].toNat:=by simp [zJ,h]
theorem q0r {t:Bs} {i:Nat} {x:UInt8} {j:Nat} (h:(t.extract i t.size).data.toList[j]? = some x):i+j < t.size:=by
 have h1:=(List.getElem?_eq_some_iff.1 h).1
 have h2:(t.extract i t.size).data.toList.length=(t.extract i t.size).size:=by rw [Array.length_toList];rfl
 have h3:=ByteArray.size_extract (a:=t) (b:=i) (e:=t.size)
 omega
theorem z1i {t:Bs} {i:Nat} (h:i≤t.size):i+qF t i≤t.size:=kC _ t t.size i h
theorem j0b {t:Bs} {i:Nat} (hi:i≤t.size):Lib.indexAny (t.extract i t.size).data.toList [32,10,40,41]=if i+qF t i < t.size then ((qF t i:Nat):Int) else -1:=by
 have hN:∀n,n≤qF t i→Lib.NoAny (t.extract i t.size).data.toList [32,10,40,41] n:=fun n hn j b hj hb=>by
  have h1:=q0r hb
  rw [z9g h1] at hb
  simp only [Option.some.injEq] at hb
  have h2:=(hY (fun c => !y2e c) t t.size i j (by unfold qF at hn;omega)).2
  rw [nF,← hb,← mL h1]
  simpa using h2
 split
 ·rename_i h
  have h2:=q2t (fun c => !y2e c) t t.size i (by omega) h
  refine Lib.indexAny_hit (x:=t[i+qF t i]) (hN _ (Nat.le_refl _)) (z9g h) ?_
  rw [nF,← mL h]
  simpa [qF] using h2
 ·rename_i h
  refine Lib.indexAny_none ?_
  have h1:=z1i hi
  have h2:(t.extract i t.size).data.toList.length=(t.extract i t.size).size:=by rw [Array.length_toList];rfl
  have h3:=ByteArray.size_extract (a:=t) (b:=i) (e:=t.size)
  exact hN _ (by omega)
theorem x1n {t:Bs} {i:Nat} (hi:i≤t.size) (h:(if i+qF t i < t.size then ((qF t i:Nat):Int) else -1) < 0):i+qF t i=t.size:=by
 have:=z1i hi
 split at h <;> omega
theorem x1o {t:Bs} {i:Nat} (h:¬(if i+qF t i < t.size then ((qF t i:Nat):Int) else -1) < 0):(if i+qF t i < t.size then ((qF t i:Nat):Int) else -1)=((qF t i:Nat):Int):=by
 split at h
 ·rename_i h1;rw [if_pos h1]
 ·omega
theorem j4d {t:Bs} {f i:Nat} (h:¬i < t.size):vX t f i=[]:=by cases f with
 | zero=>rfl
 | succ f=>rw [vX,if_neg h]
theorem x1q {t:Bs} {f i:Nat} (h:i < t.size) (hf:t.size≤i+f) (hb:zJ t i=32∨zJ t i=10):vX t f i=vX t (f - 1) (i+1):=by
 obtain ⟨f,rfl⟩:∃k,f=k+1:=⟨f - 1,by omega⟩
 rw [vX,if_pos h,if_pos hb];rfl
theorem j4e {t:Bs} {f i:Nat} (h:i < t.size) (hf:t.size≤i+f) (hn:¬(zJ t i=32∨zJ t i=10)) (hb:zJ t i=40∨zJ t i=41):vX t f i=t.extract i (i+1)::vX t (f - 1) (i+1):=by
 obtain ⟨f,rfl⟩:∃k,f=k+1:=⟨f - 1,by omega⟩
 rw [vX,if_pos h,if_neg hn,if_pos hb];rfl
theorem q7s {t:Bs} {f i:Nat} (h:i < t.size) (hf:t.size≤i+f) (hn:¬(zJ t i=32∨zJ t i=10)) (hb:¬(zJ t i=40∨zJ t i=41)):vX t f i=t.extract i (i+qF t i)::vX t (f - 1) (i+qF t i):=by
 obtain ⟨f,rfl⟩:∃k,f=k+1:=⟨f - 1,by omega⟩
 rw [vX,if_pos h,if_neg hn,if_neg hb];rfl
theorem q3l {t:Bs} {i:Nat} (h:i < t.size) (hn:¬(zJ t i=32∨zJ t i=10)) (hb:¬(zJ t i=40∨zJ t i=41)):0 < qF t i:=by
 unfold qF
 rw [oA,if_pos]
 ·omega
 ·refine ⟨h,?_⟩
  simp only [y2e]
  simp only [not_or] at hn hb
  simp [hn.1,hn.2,hb.1,hb.2]
theorem gC {t:Bs}:∀f i s,s∈vX t f i→s.size≤t.size
 | 0,i,s,h=>by cases h
 | f+1,i,s,h=>by
  have hx:∀a b,(t.extract a b).size≤t.size:=fun a b=>by have:=ByteArray.size_extract (a:=t) (b:=a) (e:=b);omega
  simp only [vX] at h
  split at h
  ·split at h
   ·exact gC f _ s h
   ·split at h
    ·rcases List.mem_cons.1 h with rfl | h
     ·exact hx _ _
     ·exact gC f _ s h
    ·rcases List.mem_cons.1 h with rfl | h
     ·exact hx _ _
     ·exact gC f _ s h
  ·cases h
theorem gB {t:Bs}:∀f i,(vX t f i).length≤f
 | 0,i=>by simp [vX]
 | f+1,i=>by
  simp only [vX]
  split
  ·split
   ·exact Nat.le_succ_of_le (gB f _)
   ·split
    ·simpa using gB f _
    ·simpa using gB f _
  ·simp
theorem j3h {ws:List Bs} {n:Nat} (h:∀s∈ws,s.size≤n) (j:Nat):(zC ws j).size≤n:=by
 unfold zC
 rw [List.getD_eq_getElem?_getD]
 cases hj:ws[j]? with
 | none=>exact Nat.zero_le _
 | some x=>exact h _ (List.mem_of_getElem? hj)
end Go.Sw

namespace Go.Sw
open Go.Proofs.Tryz
open Go.Proofs
set_option maxRecDepth 20000
set_option maxHeartbeats 4000000
variable {Φ:Fz} {K:List Res} {w:World}
theorem pA {r i:Nat} {rs:Value} {ws:List Bs} (rl:SliceOf RStr Φ 1 rs ws) (hws:ws.length≤1000000) (hi:i≤ws.length) (hm:Mem Φ (.blk r (ob [rs,.int .i64 ((i:Nat):Int)] 210)::K) w) :
  Calls prog 179 (List.toArray [.pointer (some ⟨r,0,none⟩)]) w (fun ee w'=>ee=.returned (.string (zC ws i))∧Mem Φ (.blk r (ob [rs,.int .i64 ((i:Nat):Int)] 210)::K) w'):=by
 obtain ⟨pw,cw,rfl,hmw,hnw⟩:=rl.fm
 refine zL func179 ntmps179 fun Q hQ a he =>?_
 refine Reg [1,1,1,2,1,1,1,2,1,1] [0] fun w hm a he =>?_
 by_cases h4:i < ws.length
 refine Reg [1,1,1,2,1,1,1,2,1,2,1] [0] fun w hm a he =>?_
 refine go fun a he =>?_
 obtain ⟨q6,rfl,x7,hx8,cs9,hl10,ha11,hr12⟩:=rl.el hnw h4
 obtain rfl:cs9=[.string x7]:=hr12
 refine zI ?_
 rw [jL hx8];exact ⟨rfl,hm⟩
 refine zI ?_
 rw [j9q h4];exact ⟨rfl,hm⟩
theorem hO {r i:Nat} {rs:Value} {ws:List Bs} (rl:SliceOf RStr Φ 1 rs ws) (hws:ws.length≤1000000) (hi:i≤ws.length) (hm:Mem Φ (.blk r (ob [rs,.int .i64 ((i:Nat):Int)] 210)::K) w) :
  Calls prog 143 (List.toArray [.pointer (some ⟨r,0,none⟩)]) w (fun ee w'=>ee=.panicked (mI (i+1))∧Mem Φ K w'):=by
 obtain ⟨pw,cw,rfl,hmw,hnw⟩:=rl.fm
 refine zL func143 ntmps143 fun Q hQ a he =>?_
 refine yJ fun a he =>?_
 refine Qq (fun a he =>?_) (o:=by exact fun he hs=>qD he rfl runUnderlying206 (by intro ms h;cases h))
 refine st0 he rfl rfl (vD he rfl (vF _) (fun a hd=>hQ _ _ _ (yQ hd ?_)))
 replace hm:=hm.dl [0]
 exact ⟨rfl,hm⟩
theorem y1x {r i:Nat} {rs:Value} {ws:List Bs} {g:Nat} {fs cs:List Value} {p:Bs→Bool} (hg:∀args w,(callFunc g args).run prog w=.ok (.enter g args) w)
  (hf:∀{w:World} (s:Bs),Mem Φ (.blk r (ob [rs,.int .i64 ((i:Nat):Int)] 210)::K) w→Calls prog g (fs++[Value.string s]++cs).toArray w (fun ee w'=>ee=.returned (.bool (p s))∧Mem Φ (.blk r (ob [rs,.int .i64 ((i:Nat):Int)] 210)::K) w')) (rl:SliceOf RStr Φ 1 rs ws) (hws:ws.length≤1000000) (hi:i≤ws.length) (hm:Mem Φ (.blk r (ob [rs,.int .i64 ((i:Nat):Int)] 210)::K) w) :
  Calls prog 181 (List.toArray [.pointer (some ⟨r,0,none⟩),.func (.func g) fs.toArray cs.toArray]) w (fun ee w'=>Out (pT ws p i) (fun x=>ee=.returned (.string x.1)∧Mem Φ (.blk r (ob [rs,.int .i64 ((x.2:Nat):Int)] 210)::K) w') (fun c=>ee=.panicked (mI c)∧Mem Φ K w')):=by
 obtain ⟨pw,cw,rfl,hmw,hnw⟩:=rl.fm
 refine zL func181 ntmps181 fun Q hQ a he =>?_
 refine zZ call179 (fun w hm a he =>?_) (c:=pA (i:=i) rl hws (by omega) hm)
 by_cases h5:(zC ws i)=(⟨#[]⟩:ByteArray)
 refine go fun a he =>?_
 refine st he rfl rfl rfl (cA he rfl call143 (hO (i:=i) rl hws (by omega) hm) (fun w hm=>fun a hd=>hQ _ _ _ (yQ hd ?_)))
 show Out (pT ws p i) _ _
 rw [x1d h5];exact ⟨rfl,hm⟩
 refine z8e hg (fun hB6 w hm a he =>?_) (fun hB6 w hm a he =>?_) (c:=by exact hf _ hm)
 have hlt_:=wN h5
 refine Sto 0 fun w hm a he =>?_
 refine zI ?_
 show Out (pT ws p i) _ _
 rw [y2m h5 hB6];exact ⟨rfl,hm⟩
 refine go fun a he =>?_
 refine st he rfl rfl rfl (cA he rfl call143 (hO (i:=i) rl hws (by omega) hm) (fun w hm=>fun a hd=>hQ _ _ _ (yQ hd ?_)))
 show Out (pT ws p i) _ _
 rw [j3w hB6];exact ⟨rfl,hm⟩
theorem j9c {b:Nat} {s x:Bs} (hm:Mem Φ (.blk b (ob [.string x] 9)::K) w) :
  Calls prog 191 (List.toArray [.string s,.pointer (some ⟨b,0,none⟩)]) w (fun ee w'=>ee=.returned (.bool (decide (s=x)))∧Mem Φ (.blk b (ob [.string x] 9)::K) w'):=by
 refine zL func191 ntmps191 fun Q hQ a he =>?_
 refine Qq (fun a he =>?_) (o:=by exact fun he hs=>z8c he rfl rfl)
 refine zI ?_
 exact ⟨rfl,hm⟩
theorem wE {r i:Nat} {rs:Value} {ws:List Bs} {x:Bs} (rl:SliceOf RStr Φ 1 rs ws) (hws:ws.length≤1000000) (hi:i≤ws.length) (hm:Mem Φ (.blk r (ob [rs,.int .i64 ((i:Nat):Int)] 210)::K) w) :
  Calls prog 178 (List.toArray [.pointer (some ⟨r,0,none⟩),.string x]) w (fun ee w'=>Out (kP ws x i) (fun x=>ee=.returned (.tuple #[])∧Mem Φ (.blk r (ob [rs,.int .i64 ((x.2:Nat):Int)] 210)::K) w') (fun c=>ee=.panicked (mI c)∧Mem Φ K w')):=by
 obtain ⟨pw,cw,rfl,hmw,hnw⟩:=rl.fm
 refine zL func178 ntmps178 fun Q hQ a he =>?_
 refine Bx fun b2 w hm a he =>?_
 replace hm:=hm.ar [] [1,1,1]
 refine qZ call181 (fun q3 w hq4 hm a he =>?_) (fun q3 w hq4 hm =>?_) (c:=y1x (p:=fun s=>decide (s=x)) (fs:=[]) (cs:=[.pointer (some ⟨b2,0,none⟩)]) call191 (fun s hm=>(j9c (hm.pull (i:=1) rfl)).mono fun _ _ h=>⟨h.1,h.2.pull (i:=1) rfl⟩) (i:=i) rl hws (by omega) hm)
 have hleq3:=jS hq4
 refine go fun a he =>?_
 replace hm:=hm.dl [1]
 refine hQ _ _ _ (y5y he results178 ?_)
 show Out (kP ws x i) _ _
 rw [j9d hq4];exact ⟨rfl,hm⟩
 replace hm:=hm.dl [0]
 show Out (kP ws x i) _ _
 rw [j2p hq4];exact ⟨rfl,hm⟩
theorem dW {r i:Nat} {rs:Value} {ws:List Bs} (G:Glob Φ) (rl:SliceOf RStr Φ 1 rs ws) (hws:ws.length≤1000000) (hi:i≤ws.length) (hm:Mem Φ (.blk r (ob [rs,.int .i64 ((i:Nat):Int)] 210)::K) w) :
  Calls prog 177 (List.toArray [.pointer (some ⟨r,0,none⟩)]) w (fun ee w'=>Out (oV ws i) (fun x=>ee=.returned (.string x.1)∧Mem Φ (.blk r (ob [rs,.int .i64 ((x.2:Nat):Int)] 210)::K) w') (fun c=>ee=.panicked (mI c)∧Mem Φ K w')):=by
 obtain ⟨pw,cw,rfl,hmw,hnw⟩:=rl.fm
 refine zL func177 ntmps177 fun Q hQ a he =>?_
 refine qZ call181 (fun q3 w hq4 hm a he =>?_) (fun q3 w hq4 hm =>?_) (c:=y1x (p:=qG) (fs:=[]) (cs:=[]) call158 (fun s hm=>wY G hm) (i:=i) rl hws (by omega) hm)
 have hleq3:=jS hq4
 refine zI ?_
 show Out (oV ws i) _ _
 rw [show oV ws i=.ok q3 from hq4];exact ⟨rfl,hm⟩
 show Out (oV ws i) _ _
 rw [show oV ws i=_ from hq4];exact ⟨rfl,hm⟩
theorem nE {r i:Nat} {rs:Value} {ws:List Bs} (G:Glob Φ) (rl:SliceOf RStr Φ 1 rs ws) (hws:ws.length≤1000000) (hi:i≤ws.length) (hm:Mem Φ (.blk r (ob [rs,.int .i64 ((i:Nat):Int)] 210)::K) w) :
  Calls prog 142 (List.toArray [.pointer (some ⟨r,0,none⟩)]) w (fun ee w'=>Out (nD ws i) (fun x=>ee=.returned (.string x.1)∧Mem Φ (.blk r (ob [rs,.int .i64 ((x.2:Nat):Int)] 210)::K) w') (fun c=>ee=.panicked (mI c)∧Mem Φ K w')):=by
 obtain ⟨pw,cw,rfl,hmw,hnw⟩:=rl.fm
 refine zL func142 ntmps142 fun Q hQ a he =>?_
 refine qZ call181 (fun q3 w hq4 hm a he =>?_) (fun q3 w hq4 hm =>?_) (c:=y1x (p:=yY) (fs:=[]) (cs:=[]) call161 (fun s hm=>gT G hm) (i:=i) rl hws (by omega) hm)
 have hleq3:=jS hq4
 refine zI ?_
 show Out (nD ws i) _ _
 rw [show nD ws i=.ok q3 from hq4];exact ⟨rfl,hm⟩
 show Out (nD ws i) _ _
 rw [show nD ws i=_ from hq4];exact ⟨rfl,hm⟩
theorem q4y {s:Bs} (hs:s.size≤1000000) (G:Glob Φ) (hm:Mem Φ K w) :
  Calls prog 192 (List.toArray [.string s]) w (fun ee w'=>∃y:Int,ee=.returned (.tuple (List.toArray [.int .i64 y,.bool (gG s).isSome]))∧(∀v,gG s=some v→y=v)∧Mem Φ K w'):=by
 refine zL func192 ntmps192 fun Q hQ a he =>?_
 refine go fun a he =>?_
 refine st he rfl rfl rfl (y4h he rfl call203 (q8d (by exact hs) G hm) (fun q3 w hq5 hm a he =>?_) (fun q3 y4 w hq5 hm a he =>?_))
 replace hm:=hm.nf
 refine Qq (fun a he =>?_) (o:=by exact fun he hs=>aO (v:=.bool true) he rfl rfl rfl (by kernel_rfl))
 refine zZ call99 (fun w hm a he =>?_) (c:=y7y (z8i hq5) G.tabs hm)
 refine Qq (fun a he =>?_) (o:=by exact fun he hs=>z8c he rfl rfl)
 refine wP ?_
 by_cases hd_:aM q3=s
 rw [j1u hq5 hd_,decide_eq_true hd_];exact ⟨_,rfl,(fun v h=>by injection h),hm⟩
 rw [intP_ne hq5 hd_,decide_eq_false hd_];exact ⟨_,rfl,(fun v h=>by cases h),hm⟩
 replace hm:=hm.nf
 refine Qq (fun a he =>?_) (o:=by exact fun he hs=>aO (v:=.bool false) he rfl rfl rfl (by kernel_rfl))
 refine wP ?_
 rw [j8j hq5];exact ⟨_,rfl,(fun v h=>by cases h),hm⟩
end Go.Sw

namespace Go.Sw
open Go.Proofs.Tryz
open Go.Proofs
set_option maxRecDepth 20000
set_option maxHeartbeats 4000000
theorem q9m {Φ:Fz} {K:List Res} {w:World} {r i:Nat} {rs:Value} {ws:List Bs} {d:Nat} (hd:d≤1000) (hE:oE ws d) (G:Glob Φ) (rl:SliceOf RStr Φ 1 rs ws) (hws:ws.length≤1000000) (hi:i≤ws.length) (hm:Mem Φ (.blk r (ob [rs,.int .i64 ((i:Nat):Int)] 210)::K) w) :
  Calls prog 204 (List.toArray [.pointer (some ⟨r,0,none⟩),.int .i64 ((d+1:Nat):Int)]) w (fun ee w'=>Out (z3k (zO ws d) i) (fun x=>∃y:Fz×Value,ee=.returned y.2∧(Φ.Le y.1∧SliceOf REx y.1 5 y.2 x.1)∧Mem y.1 (.blk r (ob [rs,.int .i64 ((x.2:Nat):Int)] 210)::K) w') (fun c=>ee=.panicked (mI c)∧Mem Φ K w')):=by
 obtain ⟨pw,cw,rfl,hmw,hnw⟩:=rl.fm
 refine zL func204 ntmps204 fun Q hQ a he =>?_
 refine Qq (fun a he =>?_) (o:=by exact fun he hs=>pY ((d:Nat):Int) he rfl rfl (by rw [yX (by omega)];omega))
 refine xW call180 (fun q3 y4 w hq5 hG6 hm a he =>?_) (fun q3 w hq5 hm =>?_) (c:=hE G rl (i:=i) (by omega) hm)
 obtain ⟨Ψ7,d8⟩:=y4
 obtain ⟨le9,hr10⟩:=hG6
 simp only at le9 hr10 hm he
 have hgo11:=vE d _ _ hq5
 replace rl:=rl.up le9
 replace G:=G.mono le9
 replace hm:=hm.nf
 obtain ⟨p14,c15,p20,c21,rfl,hi24,h13,h19,hm16,hn17,hm22,hn23⟩:=REx.fm hr10
 refine Alc fun b25 w hm a he =>?_
 refine Sto 0 fun w hm a he =>?_
 refine Reg [2,1,1,1,0,0,1] [0] fun w hm a he =>?_
 refine Qq (fun a he =>?_) (o:=by exact fun he hs=>pY ((d:Nat):Int) he rfl rfl (by rw [yX (by omega)];omega))
 replace hm:=hm.pl 1
 refine xW call180 (fun q27 y28 w hq29 hG30 hm a he =>?_) (fun q27 w hq29 hm =>?_) (c:=hE G rl (i:=q3.2) (by omega) hm)
 obtain ⟨Ψ31,d32⟩:=y28
 obtain ⟨le33,hr34⟩:=hG30
 simp only at le33 hr34 hm he
 have hgo35:=vE d _ _ hq29
 replace G:=G.mono le33
 replace hr10:=REx.mono _ _ _ _ le33 hr10
 replace hm:=hm.nf
 obtain ⟨p38,c39,p44,c45,rfl,hi48,h37,h43,hm40,hn41,hm46,hn47⟩:=REx.fm hr34
 refine qW fun v49 w hm a he =>?_
 refine go fun a he =>?_
 have hm0_:=hm
 clear hm
 obtain ⟨Ψ50,le51,hm,hrow52⟩:=hm0_.freezeRow (i:=0) rfl
 clear hm0_
 replace G:=G.mono le51
 replace hr10:=REx.mono _ _ _ _ le51 hr10
 replace hr34:=REx.mono _ _ _ _ le51 hr34
 replace hm:=hm.nf
 have hsl53:SliceOf REx Ψ50 5 _ ([q3.1,q27.1]):=⟨_,hrow52,(Chunks.two (k:=5) rfl hr10 rfl hr34 :)⟩
 obtain ⟨p54,c55,hv_,hm56,hn57⟩:=hsl53.form (by decide)
 have hmk_:=hm
 clear hm
 subst hv_
 have hm:=hmk_
 clear hmk_
 replace hm:=hm.dl [1]
 refine zI ?_
 show Out (z3k (zO ws d) i) _ _
 rw [show z3k (zO ws d) i=.ok ([q3.1,q27.1],q27.2) from (zB hq5).trans ((zB hq29).trans (rfl))]
 exact ⟨(Ψ50,_),rfl,⟨((le9).trans le33).trans le51,hsl53⟩,hm⟩
 replace hm:=hm.dl [0]
 show Out (z3k (zO ws d) i) _ _
 rw [show z3k (zO ws d) i=.error _ from (zB hq5).trans (zM hq29)]
 exact ⟨rfl,hm.le (le9)⟩
 show Out (z3k (zO ws d) i) _ _
 rw [show z3k (zO ws d) i=.error _ from zM hq5]
 exact ⟨rfl,hm.le (Fz.Le.refl _)⟩
theorem q2o {Φ:Fz} {K:List Res} {w:World} {r i:Nat} {rs:Value} {ws:List Bs} {m:Nat} {d:Nat} (hd:d≤1000) (hE:oE ws d) (G:Glob Φ) (rl:SliceOf RStr Φ 1 rs ws) (hws:ws.length≤1000000) (hi:i≤ws.length) (hm:Mem Φ (.blk r (ob [rs,.int .i64 ((i:Nat):Int)] 210)::K) w) :
  Calls prog 205 (List.toArray [.pointer (some ⟨r,0,none⟩),.int .i64 ((m:Nat):Int),.int .i64 ((d+1:Nat):Int)]) w (fun ee w'=>Out (kG ws (zO ws d) (ws.length+1) m i) (fun x=>∃y:Fz×Value,ee=.returned y.2∧(Φ.Le y.1∧SliceOf REx y.1 5 y.2 x.1)∧Mem y.1 (.blk r (ob [rs,.int .i64 ((x.2:Nat):Int)] 210)::K) w') (fun c=>ee=.panicked (mI c)∧Mem Φ K w')):=by
 obtain ⟨pw,cw,rfl,hmw,hnw⟩:=rl.fm
 refine zL func205 ntmps205 fun Q hQ a he =>?_
 refine go fun a he =>?_
 replace hm:=hm.nilRow 110 5
 replace hm:=hm.nf
 refine yF (he.ks [0,1,2]) hm (fun R mm a w=>∃(Ψ4:Fz) (j:Nat) (u:Value) (cs:List Value) (xs:List Ex) (f:Nat),mm=ws.length - j∧R Ψ4 [(7,u)] [(0,.gs (u) 110 5 cs),(1,.blk r (ob [.slice pw ws.length cw,.int .i64 ((j:Nat):Int)] 210))] a w∧(Φ.Le Ψ4∧(Chunks (REx Ψ4) 5 cs xs∧xs.length≤j∧j≤ws.length∧xs.length+f=ws.length+1∧kG ws (zO ws d) (ws.length+1) m i=vW xs (kG ws (zO ws d) f (m - xs.length) j)))) (ws.length - i) ⟨Φ,i,.slice none 0 0,[],[],ws.length+1,rfl,⟨he.pk,hm⟩,⟨Fz.Le.refl _,⟨rfl,Nat.zero_le _,hi,Nat.zero_add _,dD _⟩⟩⟩ ?_
 clear hm he
 rintro mm a w ⟨Ψ4,j,u,cs,xs,f,hmu,⟨he,hm⟩,hI7⟩ L6 hL6
 replace hm:=hm.nf
 obtain ⟨le5,hI7⟩:=hI7
 replace rl:=rl.up le5
 replace G:=G.mono le5
 obtain ⟨hch,hxl,hj,hf_,hI_⟩:=hI7
 refine Qq (fun a he =>?_) (o:=by exact fun he hs=>q3q 0 (xs.length) he hs rfl rfl (hch.length) (by decide) runUnderlying107)
 refine go fun a he =>?_
 by_cases h10:xs.length < m
 refine Qq (fun a he =>?_) (o:=by exact fun he hs=>pY ((d:Nat):Int) he rfl rfl (by rw [yX (by omega)];omega))
 replace hm:=hm.pl 1
 refine xW call180 (fun q11 y12 w hq13 hG14 hm a he =>?_) (fun q11 w hq13 hm =>?_) (c:=hE G rl (i:=j) (by omega) hm)
 obtain ⟨Ψ15,d16⟩:=y12
 obtain ⟨le17,hr18⟩:=hG14
 simp only at le17 hr18 hm he
 have hgo19:=vE d _ _ hq13
 replace rl:=rl.up le17
 replace G:=G.mono le17
 replace hch:=hch.mono fun _ _ h=>REx.mono _ _ _ _ le17 h
 replace hm:=hm.nf
 obtain ⟨p22,c23,p28,c29,rfl,hi32,h21,h27,hm24,hn25,hm30,hn31⟩:=REx.fm hr18
 refine qW fun v33 w hm a he =>?_
 refine qL 2 rt_107 (fun v34 w hm a he =>?_)
 refine go fun a he =>?_
 replace hm:=hm.ar [0] [1]
 refine hL6 _ _ _ (by subst hmu;omega) ⟨(Ψ15),(q11.2),(v34),((cs++[.int .i64 (q11.1.kind),.int .i64 (q11.1.num),.string q11.1.name,.slice p22 q11.1.args.length c23,.slice p28 q11.1.arms.length c29])),(xs++[q11.1]),(f - 1),rfl,⟨he.pk,by exact hm⟩,?_⟩
 refine ⟨(le5).trans le17,?_⟩
 exact ⟨hch.snoc rfl hr18,by simp only [List.length_append,List.length_cons,List.length_nil];omega,by omega,by simp only [List.length_append,List.length_cons,List.length_nil];omega,y5e hI_ (by omega) (.inl h10) hq13⟩
 replace hm:=hm.dl [0]
 show Out (kG ws (zO ws d) (ws.length+1) m i) _ _
 rw [show kG ws (zO ws d) (ws.length+1) m i=.error _ from y5d hI_ (by omega) (.inl h10) hq13]
 exact ⟨rfl,hm.le (le5)⟩
 replace hm:=hm.pl 1
 refine zZ call179 (fun w hm a he =>?_) (c:=pA (i:=j) rl hws (by omega) hm)
 by_cases h35:(zC ws j)=(⟨#[41]⟩:ByteArray)
 refine go fun a he =>?_
 have hm0_:=hm
 clear hm
 obtain ⟨Ψ37,le38,hm,hrow39⟩:=hm0_.freezeRow (i:=1) rfl
 clear hm0_
 replace rl:=rl.up le38
 replace G:=G.mono le38
 replace hch:=hch.mono fun _ _ h=>REx.mono _ _ _ _ le38 h
 replace hm:=hm.nf
 have hsl40:SliceOf REx Ψ37 5 _ (xs):=⟨_,hrow39,hch⟩
 obtain ⟨p41,c42,hv_,hm43,hn44⟩:=hsl40.form (by decide)
 have hmk_:=hm
 clear hm
 subst hv_
 have hm:=hmk_
 clear hmk_
 refine zI ?_
 show Out (kG ws (zO ws d) (ws.length+1) m i) _ _
 rw [show kG ws (zO ws d) (ws.length+1) m i=.ok (xs,j) from j8s hI_ (by omega) h10 h35]
 exact ⟨(Ψ37,_),rfl,⟨(le5).trans le38,hsl40⟩,hm⟩
 refine Qq (fun a he =>?_) (o:=by exact fun he hs=>pY ((d:Nat):Int) he rfl rfl (by rw [yX (by omega)];omega))
 refine xW call180 (fun q45 y46 w hq47 hG48 hm a he =>?_) (fun q45 w hq47 hm =>?_) (c:=hE G rl (i:=j) (by omega) hm)
 obtain ⟨Ψ49,d50⟩:=y46
 obtain ⟨le51,hr52⟩:=hG48
 simp only at le51 hr52 hm he
 have hgo53:=vE d _ _ hq47
 replace G:=G.mono le51
 replace hch:=hch.mono fun _ _ h=>REx.mono _ _ _ _ le51 h
 replace hm:=hm.nf
 obtain ⟨p56,c57,p62,c63,rfl,hi66,h55,h61,hm58,hn59,hm64,hn65⟩:=REx.fm hr52
 refine qW fun v67 w hm a he =>?_
 refine qL 2 rt_107 (fun v68 w hm a he =>?_)
 refine go fun a he =>?_
 replace hm:=hm.ar [0] [1]
 refine hL6 _ _ _ (by subst hmu;omega) ⟨(Ψ49),(q45.2),(v68),((cs++[.int .i64 (q45.1.kind),.int .i64 (q45.1.num),.string q45.1.name,.slice p56 q45.1.args.length c57,.slice p62 q45.1.arms.length c63])),(xs++[q45.1]),(f - 1),rfl,⟨he.pk,by exact hm⟩,?_⟩
 refine ⟨(le5).trans le51,?_⟩
 exact ⟨hch.snoc rfl hr52,by simp only [List.length_append,List.length_cons,List.length_nil];omega,by omega,by simp only [List.length_append,List.length_cons,List.length_nil];omega,y5e hI_ (by omega) (.inr h35) hq47⟩
 replace hm:=hm.dl [0]
 show Out (kG ws (zO ws d) (ws.length+1) m i) _ _
 rw [show kG ws (zO ws d) (ws.length+1) m i=.error _ from y5d hI_ (by omega) (.inr h35) hq47]
 exact ⟨rfl,hm.le (le5)⟩
end Go.Sw
