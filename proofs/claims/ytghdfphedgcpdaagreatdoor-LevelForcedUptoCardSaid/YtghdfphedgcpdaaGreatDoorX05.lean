import Derived.Lib.ItoaLen
import Derived.Lib.SplitLaws
import Derived.Test.YtghdfphedgcpdaaGreatDoorProg
import Derived.Test.YtghdfphedgcpdaaGreatDoorX01
import Derived.Test.YtghdfphedgcpdaaGreatDoorX02
import Derived.Test.YtghdfphedgcpdaaGreatDoorX03
import Derived.Test.YtghdfphedgcpdaaGreatDoorX04
set_option linter.unusedVariables false
set_option linter.unusedSimpArgs false
namespace Go.Sw
open Go.Proofs.Tryz
open Go.Proofs
theorem Mem.below {Φ:Fz} {K:List Res} {w w':World} (hm:Mem Φ K w) (h:RowKit.Below w.heap.size w w'):Mem Φ K w':=by
 have h0:Mem Φ (.gs (.slice none 0 0) 0 0 []::K) w':=hm.more (r:=.gs (.slice none 0 0) 0 0 []) h.os h.output (fun b hb=>h.block b hb) ⟨0,World.ownsRow_nil w' 0 0 0⟩ (fun b hb=>by cases hb)
 exact h0.del 0
theorem q2p {Φ:Fz} {K:List Res} {w:World} {n:Int} (h:I64 n) (G:Tabs Φ) (hm:Mem Φ K w) :
  Calls prog 99 (List.toArray [.int .i64 n]) w (fun ee w'=>ee=.returned (.string (nS n))∧Mem Φ K w'):=by
 refine (Tryz.strconv_Itoa n (by have:=h;unfold I64 at this;omega) (by have:=h;unfold I64 at this;omega) w (G w ⟨hm.fz,by simp⟩)).mono fun e w' he =>?_
 obtain ⟨rfl,k,os,rfl⟩:=he
 refine ⟨rfl,hm.below ⟨rfl,rfl,rfl,by simp [Go.Sort.grow,World.drewN],fun b hb =>?_⟩⟩
 simp only [Go.Sort.grow,World.drewN]
 rw [Array.getElem?_append_left hb]
theorem At.cell {Φ:Fz} {K:List Res} {w:World} {g:Nat} {v:Value} (h:At Φ ⟨g,0,none⟩ [v]) (hm:Mem Φ K w):w.cell? ⟨g,0,none⟩=some v:=by
 obtain ⟨arr,T,fr,h1,h2⟩:=h.ex
 have h3:=hm.fz _ _ h1
 have h4:=h2 0 v rfl
 simp only [World.cell?,h3]
 simpa using h4
theorem z2p (old new:List UInt8):∀(k:Nat) (s:List UInt8),(Lib.replaceK old new k s).length≤s.length+k * new.length
 | 0,s=>by simp [Lib.replaceK]
 | k+1,s=>by
  unfold Lib.replaceK
  split
  ·omega
  ·have h:=z2p old new k (s.drop ((Lib.index s old).toNat+old.length))
   simp only [List.length_append,List.length_take,List.length_drop,Nat.add_mul] at h ⊢
   omega
theorem j0k (s old new:Bs):(y5i s old new).size≤s.size+new.size:=by
 have h0:∀b:Bs,b.data.toList.length=b.size:=fun b=>by rw [Array.length_toList];rfl
 show (Lib.replace s.data.toList old.data.toList new.data.toList 1).toArray.size≤_
 rw [List.size_toArray,← h0 s,← h0 new]
 unfold Lib.replace
 split
 ·omega
 ·have h:=z2p old.data.toList new.data.toList (Lib.replaceNum s.data.toList old.data.toList 1) s.data.toList
  have h2:Lib.replaceNum s.data.toList old.data.toList 1≤1:=by unfold Lib.replaceNum;split <;> omega
  have:=Nat.mul_le_mul_right new.data.toList.length h2
  omega
theorem y0u {n:Int} (h:I64 n):(nS n).size≤21:=by
 show (Lib.itoa n).toArray.size≤_
 rw [List.size_toArray]
 exact Lib.itoa_length_le n (by have:=h;unfold I64 at this;omega) (by have:=h;unfold I64 at this;omega)
theorem y5j {Φ:Fz} {K:List Res} {w:World} {s old new:Bs} (hs:s.size≤1000000) (h1:1≤old.size) (hn:new.size=1) (G:Glob Φ) (hm:Mem Φ K w) :
  Calls prog 248 (List.toArray [.string s,.string old,.string new,.int .i64 ((1:Nat):Int)]) w (fun ee w'=>ee=.returned (.string (y5i s old new))∧Mem Φ K w'):=by
 obtain ⟨m,hg⟩:=G.maxLen
 have hc:=Lib.countB_le old h1 s.size s (Nat.le_refl _)
 refine (Tryz.strings_Replace s old new 1 m w (by omega) (hg.cell hm) h1 (by rw [hn];omega)).mono fun e w' he=>⟨he.1,hm.below he.2⟩
theorem j1w {Φ:Fz} {K:List Res} {w:World} {s:Bs} (hs:s.size≤1000000) (G:Glob Φ) (hm:Mem Φ K w) :
  Calls prog 203 (List.toArray [.string s]) w (fun ee w'=>Out (cN s) (fun v=>ee=.returned (.tuple (List.toArray [.int .i64 v,.nilIface]))∧Mem Φ K w')
   (fun _=>∃y:Int×Nat,ee=.returned (.tuple (List.toArray [.int .i64 y.1,.iface 296 (.pointer (some ⟨y.2,0,none⟩))]))∧Mem Φ K w')):=by
 have hbelow:∀w':World,(w'=w∨∃t,w'=Lib.bytesWorld w 5 t)→Mem Φ K w':=fun w' h=>by
  rcases h with rfl | ⟨t,rfl⟩
  ·exact hm
  ·exact hm.below (Lib.bytesWorld_below w 5 t)
 unfold cN
 cases h:Lib.atoiAll s.data.toList
 ·exact (Any.strconv_Atoi_ok Tryz.laysC172 s (by omega) _ h w).mono fun e w' he=>⟨he.1,hbelow w' he.2⟩
 ·obtain ⟨ev,h1,h2⟩:=G.err4
  exact (Any.strconv_Atoi_syntax Tryz.laysC172 s (by omega) h ev w (h1.cell hm) h2).mono fun e w' ⟨N,h3,_,_,h6⟩=>⟨(_,N),h3,hm.below h6⟩
 ·obtain ⟨ev,h1,h2⟩:=G.err5
  exact (Any.strconv_Atoi_range Tryz.laysC172 s (by omega) h ev w (h1.cell hm) h2).mono fun e w' ⟨N,h3,_,_,h6⟩=>⟨(_,N),h3,hm.below h6⟩
theorem gQ {Φ:Fz} {K:List Res} {w:World} {s:Bs} {c:Nat} (hm:Mem Φ K w) :
  Calls prog 199 (List.toArray [.string s,.int .u8 ((c:Nat):Int)]) w (fun ee w'=>ee=.returned (.int .i64 (Lib.indexByte s.data.toList ((c:Int)).toNat.toUInt8))∧Mem Φ K w'):=by
 exact (Tryz.strings_IndexByte s c w).mono fun e w' he=>by obtain ⟨h1,rfl⟩:=he;exact ⟨h1,hm⟩
theorem q7x {P:Program} {n:Nat} {E:List (Nat×Value)} {D:List Deferred} {a:Act} {w:World} {ty:TypeId} (i m:Nat) {x ix:Operand} {t e:TypeId} {kk:IntKind} {cs:List Value} {s:Bs} (he:EnvR n E D a) (hx:ev E x=some (.agg cs.toArray))
  (hi:ev E ix=some (.int kk (i:Int))) (ht:Under P t (.array m e)) (hs:SizeT P e 1) (hsc:Scalar P e) (hl:cs.length=m) (hc:cs[i]? = some (.string s)):Ok P a (.index t x ix) ty w (.string s):=fun _ _ _ _=>by
 have hlt:i < m:=by rw [← hl];exact (List.getElem?_eq_some_iff.1 hc).1
 simp only [execOp,he.ev hx,he.ev hi]
 have h2:cs[i]'(by rw [hl];exact hlt)=.string s:=(List.getElem?_eq_some_iff.1 hc).2
 simp [Instr.index,asIntOf,Sem.run_bind,ht w,hs w,Result.andThen,hlt]
 simp [part,Sem.run_bind,hsc w,Result.andThen,hc]
theorem y9c {P:Program} {n:Nat} {E:List (Nat×Value)} {D:List Deferred} {a:Act} {w:World} {Kn:Value→World→Prop} {Qp:List PanicEntry→World→Prop} {dst:Option Tmp} {ty:TypeId} {pos:String} {aft:Array Edge} {g:Option (Nat×Bool)}
  {α β ε:Type} {f:FuncId} {xs:Array Operand} {ts:Array TypeId} {vs:List Value} {r:Except ε α} {X:α→Value} {Z:ε→β→Value} {Φ1 Φ2:Fz} {KO:α→List Res} {KE:ε→β→List Res}
  (he:EnvR n E D a) (hx:evs E xs.toList=some vs) (hf:∀args w,(callFunc f args).run P w=.ok (.enter f args) w)
  (hc:Calls P f vs.toArray w (fun e w'=>Out r (fun x=>e=.returned (X x)∧Mem Φ1 (KO x) w') (fun c=>∃y,e=.returned (Z c y)∧Mem Φ2 (KE c y) w')))
  (k:∀x w',r=.ok x→Mem Φ1 (KO x) w'→Kn (X x) w') (kp:∀c y w',r=.error c→Mem Φ2 (KE c y) w'→Kn (Z c y) w') :
  Oper.eff P ⟨dst,.call { callee:=.value (.func f),args:=xs,argTypes:=ts },ty,pos,aft,g⟩ a w Kn Qp:=by
 refine mB he hx hf hc (fun v w' h =>?_) (fun c w' h =>?_) (fun w' h =>?_)
 ·cases r with
  | ok x=>obtain ⟨h1,h2⟩:=h;cases h1;exact k _ _ rfl h2
  | error c=>obtain ⟨y,h1,h2⟩:=h;cases h1;exact kp _ _ _ rfl h2
 ·cases r with
  | ok x=>obtain ⟨h1,_⟩:=h;cases h1
  | error c=>obtain ⟨y,h1,_⟩:=h;cases h1
 ·cases r with
  | ok x=>obtain ⟨h1,_⟩:=h;cases h1
  | error c=>obtain ⟨y,h1,_⟩:=h;cases h1
def q2x (s:Bs):Int:=(gX s).getD 0
def y4r (s:Bs):Int:=match gX s with | some _=>0 | none=>13
theorem num_ok {s:Bs} {v:Int} (h:cN (y5i s ⟨#[126]⟩ ⟨#[45]⟩)=.ok v) (hd:z0w v=s):q2x s=v∧y4r s=0:=by
 simp [q2x,y4r,gX,h,hd]
theorem num_no {s:Bs} {v:Int} (h:cN (y5i s ⟨#[126]⟩ ⟨#[45]⟩)=.ok v) (hd:¬z0w v=s):q2x s=0∧y4r s=13:=by
 simp [q2x,y4r,gX,h,hd]
theorem num_err {s:Bs} {u:Unit} (h:cN (y5i s ⟨#[126]⟩ ⟨#[45]⟩)=.error u):q2x s=0∧y4r s=13:=by
 simp [q2x,y4r,gX,h]
theorem z9b {s:Bs} {v:Int} (h:cN s=.ok v):I64 v:=by
 unfold cN at h
 unfold Lib.atoiAll at h
 split at h
 ·rename_i v' h2
  simp only [Except.ok.injEq] at h
  subst h
  split at h2
  ·cases h2
  ·simp only at h2
   split at h2
   ·cases h2
   ·cases h2
   ·split at h2
    ·cases h2
    ·split at h2
     ·cases h2
     ·rename_i h3 h4
      simp only [Lib.NumEnd.ok.injEq] at h2
      subst h2
      unfold I64
      split <;> rename_i h5
      ·simp only [h5,true_and] at h4;omega
      ·simp only [h5,not_false_eq_true,true_and] at h3;omega
 ·cases h
theorem wB (t:Bs) (i:Nat):zJ t i < 256:=by
 unfold zJ;split
 ·exact UInt8.toNat_lt _
 ·decide
theorem z8w {n:Nat} (h:n < 256):(n.toUInt8).toNat=n:=by simp [Nat.toUInt8,UInt8.toNat_ofNat,Nat.mod_eq_of_lt h]
section
variable {Φ:Fz} {K:List Res} {w:World} {n:Nat}
theorem q5y (h:n < 256) (hm:Mem Φ K w):Calls prog 239 (List.toArray [.int .u8 ((n:Nat):Int)]) w (fun ee w'=>ee=.returned (.bool (qE n))∧Mem Φ K w'):=by
 have:=z3w (c:=n.toUInt8) hm;rwa [z8w h] at this
theorem j5m (h:n < 256) (hm:Mem Φ K w):Calls prog 233 (List.toArray [.int .u8 ((n:Nat):Int)]) w (fun ee w'=>ee=.returned (.bool (yW n))∧Mem Φ K w'):=by
 have:=aW (c:=n.toUInt8) hm;rwa [z8w h] at this
theorem y9v (h:n < 256) (hm:Mem Φ K w):Calls prog 235 (List.toArray [.int .u8 ((n:Nat):Int)]) w (fun ee w'=>ee=.returned (.bool (nB n))∧Mem Φ K w'):=by
 have:=y0r (c:=n.toUInt8) hm;rwa [z8w h] at this
theorem j5n (h:n < 256) (hm:Mem Φ K w):Calls prog 237 (List.toArray [.int .u8 ((n:Nat):Int)]) w (fun ee w'=>ee=.returned (.bool (nP n))∧Mem Φ K w'):=by
 have:=y0q (c:=n.toUInt8) hm;rwa [z8w h] at this
end
theorem q1n:wordsL.length=15:=rfl
theorem j7l {i:Nat} {x:Bs} (h:wordsL[i]? = some x):mQ (wordsM.take i) x (.int .i64 ((5:Nat):Int))=wordsM.take (i+1):=by
 have hi:i < 15:=by have:=(List.getElem?_eq_some_iff.1 h).1;rwa [q1n] at this
 have hx:x=wordsL[i]'(by rw [q1n];exact hi):=(List.getElem?_eq_some_iff.1 h).2.symm
 subst hx
 match i,hi with
 | 0,_=>rfl
 | 1,_=>rfl
 | 2,_=>rfl
 | 3,_=>rfl
 | 4,_=>rfl
 | 5,_=>rfl
 | 6,_=>rfl
 | 7,_=>rfl
 | 8,_=>rfl
 | 9,_=>rfl
 | 10,_=>rfl
 | 11,_=>rfl
 | 12,_=>rfl
 | 13,_=>rfl
 | 14,_=>rfl
theorem j1j {i:Nat} (h:¬i < 15):wordsM.take i=wordsM:=List.take_of_length_le (by show 15≤i;omega)
theorem q6w {Φ:Fz} {K:List Res} {w:World} {t:Bs} {pos:Nat} {b:Nat} {rest:List Value} {T0:TypeId} (hk:pos≤1000000000) (hm:Mem Φ (.blk b (ob (.string t::.int .i64 ((pos:Nat):Int)::rest) T0)::K) w) :
  Calls prog 232 (List.toArray [.pointer (some ⟨b,0,none⟩),.int .i64 ((0:Nat):Int)]) w (fun ee w'=>ee=.returned (.int .u8 ((zJ t pos:Nat):Int))∧Mem Φ (.blk b (ob (.string t::.int .i64 ((pos:Nat):Int)::rest) T0)::K) w') :=
 z2i (k:=0) hk hm
theorem nZ (t:Bs) (pos:Nat):sL t pos=if y4r (mH t pos)=0 then
   (if qE (zJ t (pos+(vH t pos+xZ t pos)))=true∨zJ t (pos+(vH t pos+xZ t pos))=39 then .error (pos,13) else .ok ⟨1,q2x (mH t pos),mH t pos,pos⟩)
  else .error (pos,13):=by
 unfold sL y4r q2x
 cases gX (mH t pos) with
 | none=>rfl
 | some v=>rfl
set_option maxRecDepth 10000 in
theorem j3f:∀c < 256,decide ((0:Int)≤Lib.indexByte [40,41,44,59,58,124,61,60,43,45,42,47,37,95] ((c:Nat):Int).toNat.toUInt8)=y5q c:=by decide
end Go.Sw

namespace Go.Sw
theorem q6t (t:Bs):∀(f i q:Nat),i≤t.size→z2h t f i=.ok q→i≤q∧q≤t.size
 | 0,i,q,h,hp=>by simp only [z2h,Except.ok.injEq] at hp;omega
 | f+1,i,q,h,hp=>by
  have hr:=vQ xV t t.size i h
  simp only [z2h] at hp
  split at hp
  ·cases hc:xR t (i+yQ xV t t.size i) (i+yQ xV t t.size i) 0 with
   | error c=>rw [hc] at hp;cases hp
   | ok q0 =>
    rw [hc] at hp
    have h1:=wC _ _ _ _ _ _ hc
    have h2:=q6t t f q0 q h1.2 hp
    omega
  ·simp only [Except.ok.injEq] at hp;omega
theorem y4y {t:Bs} {i q:Nat} (h:i≤t.size) (hp:cX t i=.ok q):i≤q∧q≤t.size:=q6t t _ i q h hp
theorem z9w (t:Bs) (i n:Nat) (h:i+n≤t.size):(t.extract i (i+n)).size=n:=by
 rw [ByteArray.size_extract];omega
theorem q7n {t:Bs} {pos:Nat} {k:Tok} (h1:pos < t.size) (h:zV t pos=.ok k):1≤k.text.size∧pos+k.text.size≤t.size:=by
 have run1:∀p:Nat→Bool,p (zJ t pos)=true→1≤yQ p t t.size pos:=fun p hp=>by
  rw [gD,if_pos ⟨h1,hp⟩];omega
 have name:∀kd,nB (zJ t pos)=true∨nP (zJ t pos)=true→vY t pos kd=.ok k→1≤k.text.size∧pos+k.text.size≤t.size:=fun kd hs hn=>by
  unfold vY at hn
  split at hn
  ·cases hn
  ·simp only [Except.ok.injEq] at hn
   subst hn
   have h2:=q9u t pos (by omega)
   have h3:=run1 qE (by unfold qE;rcases hs with h | h <;> simp [h])
   have h4:yQ qE t t.size pos≤qP t pos:=by
    unfold qP;split
    ·split <;> omega
    ·omega
   simp only
   rw [z9w t pos _ h2];omega
 have made:∀kd n,1≤n→pos+n≤t.size→vN t pos kd n=.ok k→1≤k.text.size∧pos+k.text.size≤t.size:=fun kd n h2 h3 hn=>by
  obtain ⟨_,rfl⟩:=dS hn
  simp only
  rw [z9w t pos _ h3];omega
 unfold zV at h
 split at h
 ·rename_i hc
  have hL:1≤vH t pos+xZ t pos∧pos+(vH t pos+xZ t pos)≤t.size:=by
   unfold xZ
   by_cases h126:zJ t pos=126
   ·have:vH t pos=1:=by simp [vH,h126]
    have:=vQ yW t t.size (pos+vH t pos) (by omega)
    omega
   ·have hs:vH t pos=0:=by simp [vH,h126]
    have hd:yW (zJ t pos)=true:=hc.resolve_right h126
    have h2:=run1 yW hd
    have h3:=vQ yW t t.size pos (by omega)
    rw [hs,Nat.add_zero];omega
  rw [nZ] at h
  split at h
  ·split at h
   ·cases h
   ·simp only [Except.ok.injEq] at h
    subst h
    simp only [mH]
    rw [z9w t pos _ hL.2];omega
  ·cases h
 split at h
 ·rename_i hs;exact name _ (.inl hs) h
 split at h
 ·rename_i hs;exact name _ (.inr hs) h
 split at h
 ·have:=vQ qE t t.size (pos+1) (by omega)
  exact made _ _ (by omega) (by omega) h
 split at h
 ·rename_i hp
  have e1:(⟨#[61,62]⟩:ByteArray).size=2:=rfl
  have e2:(⟨#[45,62]⟩:ByteArray).size=2:=rfl
  have:2≤t.size - pos:=by
   rcases hp with hp | hp
   ·have:=jH hp;omega
   ·have:=jH hp;omega
  exact made _ _ (by omega) (by omega) h
 split at h
 ·exact made _ _ (by omega) (by omega) h
 ·cases h
theorem y6e (t:Bs):∀(f g i:Nat),i≤t.size→t.size < i+f→t.size < i+g→oM t f i=oM t g i
 | 0,_,i,h0,h,_=>by omega
 | _+1,0,i,h0,_,h=>by omega
 | f+1,g+1,i,h0,h,h'=>by
  simp only [oM]
  cases hp:cX t i with
  | error c=>rfl
  | ok q =>
   simp only
   split
   ·rename_i hq
    cases hk:zV t q with
    | error c=>rfl
    | ok k =>
     simp only
     have h1:=y4y h0 hp
     have h2:=q7n hq hk
     rw [y6e t f g (q+k.text.size) h2.2 (by omega) (by omega)]
   ·rfl
def z2z (t:Bs) (q:Nat):Except (Nat×Int) (List Tok):=if q < t.size then
  match zV t q with
  | .error c=>.error c
  | .ok k=>match oM t (t.size+1) (q+k.text.size) with
   | .error c=>.error c
   | .ok l=>.ok (k::l)
 else .ok []
theorem j3j {t:Bs} {i:Nat} (h:i≤t.size):oM t (t.size+1) i=match cX t i with
  | .error c=>.error c
  | .ok q=>z2z t q:=by
 rw [y6e t (t.size+1) (t.size+2) i h (by omega) (by omega)]
 rfl
def y5e (pre:List Tok) (r:Except (Nat×Int) (List Tok)):Except (Nat×Int) (List Tok):=match r with
 | .ok l=>.ok (pre++l)
 | .error c=>.error c
theorem q6x (r:Except (Nat×Int) (List Tok)):y5e [] r=r:=by cases r <;> rfl
theorem q1g {t:Bs} {i q:Nat} {pre:List Tok} (h:i≤t.size) (hp:cX t i=.ok q):y5e pre (oM t (t.size+1) i)=y5e pre (z2z t q):=by
 rw [j3j h,hp]
theorem q1h {t:Bs} {i:Nat} {pre:List Tok} {c:Nat×Int} (h:i≤t.size) (hp:cX t i=.error c):y5e pre (oM t (t.size+1) i)=.error c:=by
 rw [j3j h,hp];rfl
theorem q1i {t:Bs} {q:Nat} {pre:List Tok} {k:Tok} (h:q < t.size) (hk:zV t q=.ok k):y5e pre (z2z t q)=y5e (pre++[k]) (oM t (t.size+1) (q+k.text.size)):=by
 unfold z2z
 rw [if_pos h,hk]
 simp only
 cases oM t (t.size+1) (q+k.text.size) <;> simp [y5e]
theorem j7f {t:Bs} {q:Nat} {pre:List Tok} {c:Nat×Int} (h:q < t.size) (hk:zV t q=.error c):y5e pre (z2z t q)=.error c:=by
 unfold z2z
 rw [if_pos h,hk];rfl
theorem x3p {t:Bs} {q:Nat} {pre:List Tok} (h:¬q < t.size):y5e pre (z2z t q)=.ok pre:=by
 unfold z2z
 rw [if_neg h];simp [y5e]
end Go.Sw

namespace Go.Sw
open Go.Proofs.Tryz
open Go.Proofs
set_option maxRecDepth 20000
set_option maxHeartbeats 4000000
variable {Φ:Fz} {K:List Res} {w:World}
theorem j4o {n:Int}  (h64:I64 n) (G:Glob Φ) (hm:Mem Φ K w) :
  Calls prog 249 (List.toArray [.int .i64 n]) w (fun ee w'=>ee=.returned (.string (z0w n))∧Mem Φ K w'):=by
 refine zN func249 ntmps249 fun Q hQ a he =>?_
 refine zT call99 (fun w hm a he =>?_) (c:=q2p h64 G.tabs hm)
 refine zT call248 (fun w hm a he =>?_) (c:=y5j (by have h_:=y0u h64;omega) (by decide) rfl G hm)
 refine zF ?_
 exact z2q hm (by rfl)
theorem y4s {s:Bs} (hs:s.size≤900000) (G:Glob Φ) (hm:Mem Φ K w) :
  Calls prog 244 (List.toArray [.string s]) w (fun ee w'=>ee=.returned (.tuple (List.toArray [.int .i64 (q2x s),.int .i64 (y4r s)]))∧Mem Φ K w'):=by
 refine zN func244 ntmps244 fun Q hQ a he =>?_
 refine zT call248 (fun w hm a he =>?_) (c:=y5j (by omega) (by decide) rfl G hm)
 refine st he rfl rfl rfl (y9c he rfl call203 (j1w (by have h_:=j0k s ⟨#[126]⟩ ⟨#[45]⟩;have h2_:(⟨#[45]⟩:Bs).size=1:=rfl;omega) G hm) (fun q3 w hq5 hm a he =>?_) (fun q3 y4 w hq5 hm a he =>?_))
 replace hm:=hm.nf
 refine Qq (fun a he =>?_) (o:=by exact fun he hs=>pX (v:=.bool false) he rfl rfl rfl (by kernel_rfl))
 refine zT call249 (fun w hm a he =>?_) (c:=j4o (z9b hq5) G hm)
 by_cases h9:(z0w q3)=s
 refine vE ?_
 obtain ⟨h1_,h2_⟩:=num_ok hq5 h9
 rw [h1_,h2_];exact ⟨rfl,hm⟩
 refine vE ?_
 obtain ⟨h1_,h2_⟩:=num_no hq5 h9
 rw [h1_,h2_];exact ⟨rfl,hm⟩
 replace hm:=hm.nf
 refine Qq (fun a he =>?_) (o:=by exact fun he hs=>pX (v:=.bool true) he rfl rfl rfl (by kernel_rfl))
 refine vE ?_
 obtain ⟨h1_,h2_⟩:=num_err hq5
 rw [h1_,h2_];exact ⟨rfl,hm⟩
theorem q0n {t:Bs} {pos b:Nat} {rest:List Value} {T0:TypeId} (G:Glob Φ) (h1:pos≤t.size) (h2:t.size≤800000) (hm:Mem Φ (.blk b (ob (.string t::.int .i64 ((pos:Nat):Int)::rest) T0)::K) w) :
  Calls prog 234 (List.toArray [.pointer (some ⟨b,0,none⟩)]) w (fun ee w'=>Out (sL t pos) (fun q=>ee=.returned (y6c q)∧Mem Φ (.blk b (ob (.string t::.int .i64 ((pos:Nat):Int)::rest) T0)::K) w') (fun c=>ee=.panicked (dI c)∧Mem Φ K w')):=by
 refine zN func234 ntmps234 fun Q hQ a he =>?_
 refine Alc fun b2 w hm a he =>?_
 replace hm:=hm.pl 1
 refine zT call232 (fun w hm a he =>?_) (c:=q6w (by omega) hm)
 by_cases h6:zJ t pos=126
 have h0_:=tD (t:=t) (i:=pos) (by omega)
 refine zT call228 (fun w hm a he =>?_) (c:=q3j (p:=yW) (pos:=pos) (k:=1) (fs:=[]) (cs:=[]) call233 (fun c hm=>aW hm) (by omega) (by omega) hm)
 have h0_:=tD (t:=t) (i:=pos) (by omega)
 have hr_:=vQ yW t t.size (pos+1) (by omega)
 have hL_:vH t pos+xZ t pos=(1+(yQ yW t t.size (pos+1))):=by simp [vH,xZ, *]
 refine Qq (fun a he =>?_) (o:=by exact fun he hs=>kV (i:=1) (j:=(yQ yW t t.size (pos+1))) he rfl rfl (by omega))
 refine zT call232 (fun w hm a he =>?_) (c:=z2i (k:=(1+(yQ yW t t.size (pos+1)))) (by omega) hm)
 refine Reg [1,1,1,1,2,1,1,1,1,2,1,1,1,1,2,1,1,1,1,1,1] [0,1] fun w hm a he =>?_
 refine Qq (fun a he =>?_) (o:=by exact fun he hs=>kV (i:=(pos+1)) (j:=(yQ yW t t.size (pos+1))) he rfl rfl (by omega))
 refine Qq (fun a he =>?_) (o:=by exact fun he hs=>jU pos (((pos+1)+(yQ yW t t.size (pos+1)))) he rfl runUnderlying9 ⟨_,rfl⟩ ⟨_,rfl⟩ (by omega) (by omega))
 have hnt_:(t.extract pos ((pos+1)+(yQ yW t t.size (pos+1))))=mH t pos:=by unfold mH;rw [hL_];simp only [Nat.add_assoc]
 refine zT call244 (fun w hm a he =>?_) (c:=y4s (s:=(t.extract pos ((pos+1)+(yQ yW t t.size (pos+1))))) (by have h_:=ByteArray.size_extract (a:=t) (b:=pos) (e:=(pos+1)+(yQ yW t t.size (pos+1)));omega) G hm)
 by_cases h13:y4r (t.extract pos ((pos+1)+(yQ yW t t.size (pos+1))))=0
 refine yH call239 (fun hB14 w hm a he =>?_) (fun hB14 w hm a he =>?_) (c:=q5y (wB _ _) hm)
 refine qH fun a he =>?_
 refine Qq (fun a he =>?_) (o:=by exact fun he hs=>qD he rfl runUnderlying257 (by intro ms h;cases h))
 refine st0 he rfl rfl (vA he rfl (vB _) (fun a hd=>hQ _ _ _ (yV hd ?_)))
 replace hm:=hm.dl [1,0]
 show Out (sL t pos) _ _
 rw [nZ,hL_,← hnt_,if_pos h13,if_pos (.inl hB14)];exact ⟨rfl,hm⟩
 by_cases h15:zJ t (pos+(1+(yQ yW t t.size (pos+1))))=39
 refine qH fun a he =>?_
 refine Qq (fun a he =>?_) (o:=by exact fun he hs=>qD he rfl runUnderlying257 (by intro ms h;cases h))
 refine st0 he rfl rfl (vA he rfl (vB _) (fun a hd=>hQ _ _ _ (yV hd ?_)))
 replace hm:=hm.dl [1,0]
 show Out (sL t pos) _ _
 rw [nZ,hL_,← hnt_,if_pos h13,if_pos (.inr h15)];exact ⟨rfl,hm⟩
 refine qH fun a he =>?_
 refine Sto 1 fun w hm a he =>?_
 refine go fun a he =>?_
 have hmr:=hm
 replace hm:=hm.dl [1]
 refine kX (hm:=hmr) ?_
 show Out (sL t pos) _ _
 rw [nZ,hL_,← hnt_,if_pos h13,if_neg (fun hh_=>hh_.elim (fun h_=>absurd (h_.symm.trans hB14) (by decide)) h15)];exact ⟨rfl,hm⟩
 refine qH fun a he =>?_
 refine Qq (fun a he =>?_) (o:=by exact fun he hs=>qD he rfl runUnderlying257 (by intro ms h;cases h))
 refine st0 he rfl rfl (vA he rfl (vB _) (fun a hd=>hQ _ _ _ (yV hd ?_)))
 replace hm:=hm.dl [1,0]
 show Out (sL t pos) _ _
 rw [nZ,hL_,← hnt_,if_neg h13];exact ⟨rfl,hm⟩
 refine zT call228 (fun w hm a he =>?_) (c:=q3i (p:=yW) (pos:=pos) (fs:=[]) (cs:=[]) call233 (fun c hm=>aW hm) (by omega) (by omega) hm)
 have hr_:=vQ yW t t.size pos h1
 have hL_:vH t pos+xZ t pos=(0+(yQ yW t t.size pos)):=by simp [vH,xZ, *]
 refine Qq (fun a he =>?_) (o:=by exact fun he hs=>kV (i:=0) (j:=(yQ yW t t.size pos)) he rfl rfl (by omega))
 refine zT call232 (fun w hm a he =>?_) (c:=z2i (k:=(0+(yQ yW t t.size pos))) (by omega) hm)
 refine Reg [1,1,1,1,2,1,1,1,1,2,1,1,1,1,2,1,1,1,1,1,1] [0,1] fun w hm a he =>?_
 refine Qq (fun a he =>?_) (o:=by exact fun he hs=>kV (i:=pos) (j:=0) he rfl rfl (by omega))
 refine Qq (fun a he =>?_) (o:=by exact fun he hs=>kV (i:=(pos+0)) (j:=(yQ yW t t.size pos)) he rfl rfl (by omega))
 refine Qq (fun a he =>?_) (o:=by exact fun he hs=>jU pos (((pos+0)+(yQ yW t t.size pos))) he rfl runUnderlying9 ⟨_,rfl⟩ ⟨_,rfl⟩ (by omega) (by omega))
 have hnt_:(t.extract pos ((pos+0)+(yQ yW t t.size pos)))=mH t pos:=by unfold mH;rw [hL_];simp only [Nat.add_assoc]
 refine zT call244 (fun w hm a he =>?_) (c:=y4s (s:=(t.extract pos ((pos+0)+(yQ yW t t.size pos)))) (by have h_:=ByteArray.size_extract (a:=t) (b:=pos) (e:=(pos+0)+(yQ yW t t.size pos));omega) G hm)
 by_cases h23:y4r (t.extract pos ((pos+0)+(yQ yW t t.size pos)))=0
 refine yH call239 (fun hB24 w hm a he =>?_) (fun hB24 w hm a he =>?_) (c:=q5y (wB _ _) hm)
 refine qH fun a he =>?_
 refine Qq (fun a he =>?_) (o:=by exact fun he hs=>qD he rfl runUnderlying257 (by intro ms h;cases h))
 refine st0 he rfl rfl (vA he rfl (vB _) (fun a hd=>hQ _ _ _ (yV hd ?_)))
 replace hm:=hm.dl [1,0]
 show Out (sL t pos) _ _
 rw [nZ,hL_,← hnt_,if_pos h23,if_pos (.inl hB24)];exact ⟨rfl,hm⟩
 by_cases h25:zJ t (pos+(0+(yQ yW t t.size pos)))=39
 refine qH fun a he =>?_
 refine Qq (fun a he =>?_) (o:=by exact fun he hs=>qD he rfl runUnderlying257 (by intro ms h;cases h))
 refine st0 he rfl rfl (vA he rfl (vB _) (fun a hd=>hQ _ _ _ (yV hd ?_)))
 replace hm:=hm.dl [1,0]
 show Out (sL t pos) _ _
 rw [nZ,hL_,← hnt_,if_pos h23,if_pos (.inr h25)];exact ⟨rfl,hm⟩
 refine qH fun a he =>?_
 refine Sto 1 fun w hm a he =>?_
 refine go fun a he =>?_
 have hmr:=hm
 replace hm:=hm.dl [1]
 refine kX (hm:=hmr) ?_
 show Out (sL t pos) _ _
 rw [nZ,hL_,← hnt_,if_pos h23,if_neg (fun hh_=>hh_.elim (fun h_=>absurd (h_.symm.trans hB24) (by decide)) h25)];exact ⟨rfl,hm⟩
 refine qH fun a he =>?_
 refine Qq (fun a he =>?_) (o:=by exact fun he hs=>qD he rfl runUnderlying257 (by intro ms h;cases h))
 refine st0 he rfl rfl (vA he rfl (vB _) (fun a hd=>hQ _ _ _ (yV hd ?_)))
 replace hm:=hm.dl [1,0]
 show Out (sL t pos) _ _
 rw [nZ,hL_,← hnt_,if_neg h23];exact ⟨rfl,hm⟩
end Go.Sw

namespace Go.Sw
open Go.Proofs.Tryz
open Go.Proofs
set_option maxRecDepth 20000
set_option maxHeartbeats 4000000
theorem x3o {Φ:Fz} {K:List Res} {w:World} {t:Bs} {pos b mb:Nat} {cv:Value} (G:Glob Φ) (hmap:MapAt Φ mb wordsM) (h1:pos < t.size) (h2:t.size≤800000) (hm:Mem Φ (.blk b (ob [.string t,.int .i64 ((pos:Nat):Int),.map (some mb),cv] 289)::K) w) :
  Calls prog 221 (List.toArray [.pointer (some ⟨b,0,none⟩)]) w (fun ee w'=>Out (zV t pos) (fun q=>ee=.returned (y6c q)∧Mem Φ (.blk b (ob [.string t,.int .i64 ((pos:Nat):Int),.map (some mb),cv] 289)::K) w') (fun c=>ee=.panicked (dI c)∧Mem Φ K w')):=by
 refine zN func221 ntmps221 fun Q hQ a he =>?_
 refine Alc fun b2 w hm a he =>?_
 refine go fun a he =>?_
 have h39a_:yW 39=false:=rfl
 have h39b_:nB 39=false:=rfl
 have h39c_:nP 39=false:=rfl
 have h39d_:y5q 39=false:=rfl
 replace hm:=hm.pl 1
 refine zT call232 (fun w hm a he =>?_) (c:=q6w (by omega) hm)
 refine yH call233 (fun hB7 w hm a he =>?_) (fun hB7 w hm a he =>?_) (c:=j5m (wB _ _) hm)
 refine qT call234 (fun q9 w hq10 hm a he =>?_) (fun q9 w hq10 hm =>?_) (c:=q0n (pos:=pos) G (by omega) (by omega) hm)
 refine Sto 1 fun w hm a he =>?_
 refine go fun a he =>?_
 have hmr:=hm
 replace hm:=hm.dl [1]
 refine kX (hm:=hmr) ?_
 show Out (zV t pos) _ _
 rw [show zV t pos=sL t pos by simp [zV, *],hq10];exact ⟨rfl,hm⟩
 replace hm:=hm.dl [0]
 show Out (zV t pos) _ _
 rw [show zV t pos=sL t pos by simp [zV, *],hq10];exact ⟨rfl,hm⟩
 by_cases h11:zJ t pos=126
 refine qT call234 (fun q13 w hq14 hm a he =>?_) (fun q13 w hq14 hm =>?_) (c:=q0n (pos:=pos) G (by omega) (by omega) hm)
 refine Sto 1 fun w hm a he =>?_
 refine go fun a he =>?_
 have hmr:=hm
 replace hm:=hm.dl [1]
 refine kX (hm:=hmr) ?_
 show Out (zV t pos) _ _
 rw [show zV t pos=sL t pos by simp [zV, *],hq14];exact ⟨rfl,hm⟩
 replace hm:=hm.dl [0]
 show Out (zV t pos) _ _
 rw [show zV t pos=sL t pos by simp [zV, *],hq14];exact ⟨rfl,hm⟩
 refine yH call235 (fun hB16 w hm a he =>?_) (fun hB16 w hm a he =>?_) (c:=y9v (wB _ _) hm)
 refine qT call236 (fun q18 w hq19 hm a he =>?_) (fun q18 w hq19 hm =>?_) (c:=j2t (pos:=pos) (kd:=2) hmap (by omega) (by omega) hm)
 refine Sto 1 fun w hm a he =>?_
 refine go fun a he =>?_
 have hmr:=hm
 replace hm:=hm.dl [1]
 refine kX (hm:=hmr) ?_
 show Out (zV t pos) _ _
 rw [show zV t pos=vY t pos 2 by simp [zV, *],hq19];exact ⟨rfl,hm⟩
 replace hm:=hm.dl [0]
 show Out (zV t pos) _ _
 rw [show zV t pos=vY t pos 2 by simp [zV, *],hq19];exact ⟨rfl,hm⟩
 refine yH call237 (fun hB21 w hm a he =>?_) (fun hB21 w hm a he =>?_) (c:=j5n (wB _ _) hm)
 refine qT call236 (fun q23 w hq24 hm a he =>?_) (fun q23 w hq24 hm =>?_) (c:=j2t (pos:=pos) (kd:=3) hmap (by omega) (by omega) hm)
 refine Sto 1 fun w hm a he =>?_
 refine go fun a he =>?_
 have hmr:=hm
 replace hm:=hm.dl [1]
 refine kX (hm:=hmr) ?_
 show Out (zV t pos) _ _
 rw [show zV t pos=vY t pos 3 by simp [zV, *],hq24];exact ⟨rfl,hm⟩
 replace hm:=hm.dl [0]
 show Out (zV t pos) _ _
 rw [show zV t pos=vY t pos 3 by simp [zV, *],hq24];exact ⟨rfl,hm⟩
 by_cases h26:zJ t pos=39
 refine zT call232 (fun w hm a he =>?_) (c:=z2i (k:=1) (by omega) hm)
 refine yH call235 (fun hB27 w hm a he =>?_) (fun hB27 w hm a he =>?_) (c:=y9v (wB _ _) hm)
 refine zT call228 (fun w hm a he =>?_) (c:=q3j (p:=qE) (pos:=pos) (k:=1) (fs:=[]) (cs:=[]) call239 (fun c hm=>z3w hm) (by omega) (by omega) hm)
 refine Qq (fun a he =>?_) (o:=by exact fun he hs=>j3n (((1+(yQ qE t t.size (pos+1))):Nat):Int) he rfl rfl (by have hr_:=vQ qE t t.size (pos+1) (by omega);rw [xH (by omega)];omega))
 refine qT call238 (fun q29 w hq30 hm a he =>?_) (fun q29 w hq30 hm =>?_) (c:=nX (pos:=pos) (kd:=4) (n:=(1+(yQ qE t t.size (pos+1)))) (by have hr_:=vQ qE t t.size (pos+1) (by omega);omega) (by omega) hm)
 refine Sto 1 fun w hm a he =>?_
 refine go fun a he =>?_
 have hmr:=hm
 replace hm:=hm.dl [1]
 refine kX (hm:=hmr) ?_
 show Out (zV t pos) _ _
 rw [show zV t pos=vN t pos 4 (1+(yQ qE t t.size (pos+1))) by simp [zV, *],hq30];exact ⟨rfl,hm⟩
 replace hm:=hm.dl [0]
 show Out (zV t pos) _ _
 rw [show zV t pos=vN t pos 4 (1+(yQ qE t t.size (pos+1))) by simp [zV, *],hq30];exact ⟨rfl,hm⟩
 refine yH call230 (fun hB33 w hm a he =>?_) (fun hB33 w hm a he =>?_) (c:=nC (s:=(⟨#[61,62]⟩:ByteArray)) (by omega) hm)
 refine qT call238 (fun q35 w hq36 hm a he =>?_) (fun q35 w hq36 hm =>?_) (c:=nX (pos:=pos) (kd:=6) (n:=2) (by have h_:=jH hB33;have e_:(⟨#[61,62]⟩:ByteArray).size=2:=rfl;have e2_:(⟨#[45,62]⟩:ByteArray).size=2:=rfl;omega) (by omega) hm)
 refine Sto 1 fun w hm a he =>?_
 refine go fun a he =>?_
 have hmr:=hm
 replace hm:=hm.dl [1]
 refine kX (hm:=hmr) ?_
 show Out (zV t pos) _ _
 rw [show zV t pos=vN t pos 6 2 by simp [zV, *],hq36];exact ⟨rfl,hm⟩
 replace hm:=hm.dl [0]
 show Out (zV t pos) _ _
 rw [show zV t pos=vN t pos 6 2 by simp [zV, *],hq36];exact ⟨rfl,hm⟩
 refine yH call230 (fun hB37 w hm a he =>?_) (fun hB37 w hm a he =>?_) (c:=nC (s:=(⟨#[45,62]⟩:ByteArray)) (by omega) hm)
 refine qT call238 (fun q39 w hq40 hm a he =>?_) (fun q39 w hq40 hm =>?_) (c:=nX (pos:=pos) (kd:=6) (n:=2) (by have h_:=jH hB37;have e_:(⟨#[61,62]⟩:ByteArray).size=2:=rfl;have e2_:(⟨#[45,62]⟩:ByteArray).size=2:=rfl;omega) (by omega) hm)
 refine Sto 1 fun w hm a he =>?_
 refine go fun a he =>?_
 have hmr:=hm
 replace hm:=hm.dl [1]
 refine kX (hm:=hmr) ?_
 show Out (zV t pos) _ _
 rw [show zV t pos=vN t pos 6 2 by simp [zV, *],hq40];exact ⟨rfl,hm⟩
 replace hm:=hm.dl [0]
 show Out (zV t pos) _ _
 rw [show zV t pos=vN t pos 6 2 by simp [zV, *],hq40];exact ⟨rfl,hm⟩
 refine zT call199 (fun w hm a he =>?_) (c:=gQ hm)
 have hsg_:=j3f (zJ t pos) (wB t pos)
 by_cases h42:0≤Lib.indexByte (⟨#[40,41,44,59,58,124,61,60,43,45,42,47,37,95]⟩:ByteArray).data.toList (((zJ t pos:Nat):Int).toNat.toUInt8)
 refine go fun a he =>?_
 have hsb_:y5q (zJ t pos)=true:=by rw [← hsg_];exact decide_eq_true h42
 rw [h26] at hsb_
 cases hsb_
 refine qH fun a he =>?_
 refine Qq (fun a he =>?_) (o:=by exact fun he hs=>qD he rfl runUnderlying257 (by intro ms h;cases h))
 refine st0 he rfl rfl (vA he rfl (vB _) (fun a hd=>hQ _ _ _ (yV hd ?_)))
 replace hm:=hm.dl [1,0]
 have hno_:y5q (zJ t pos)=false:=by rw [← hsg_];exact decide_eq_false h42
 show Out (zV t pos) _ _
 rw [show zV t pos=.error (pos,11) by simp [zV, *]];exact ⟨rfl,hm⟩
 refine yH call230 (fun hB46 w hm a he =>?_) (fun hB46 w hm a he =>?_) (c:=nC (s:=(⟨#[61,62]⟩:ByteArray)) (by omega) hm)
 refine qT call238 (fun q48 w hq49 hm a he =>?_) (fun q48 w hq49 hm =>?_) (c:=nX (pos:=pos) (kd:=6) (n:=2) (by have h_:=jH hB46;have e_:(⟨#[61,62]⟩:ByteArray).size=2:=rfl;have e2_:(⟨#[45,62]⟩:ByteArray).size=2:=rfl;omega) (by omega) hm)
 refine Sto 1 fun w hm a he =>?_
 refine go fun a he =>?_
 have hmr:=hm
 replace hm:=hm.dl [1]
 refine kX (hm:=hmr) ?_
 show Out (zV t pos) _ _
 rw [show zV t pos=vN t pos 6 2 by simp [zV, *],hq49];exact ⟨rfl,hm⟩
 replace hm:=hm.dl [0]
 show Out (zV t pos) _ _
 rw [show zV t pos=vN t pos 6 2 by simp [zV, *],hq49];exact ⟨rfl,hm⟩
 refine yH call230 (fun hB50 w hm a he =>?_) (fun hB50 w hm a he =>?_) (c:=nC (s:=(⟨#[45,62]⟩:ByteArray)) (by omega) hm)
 refine qT call238 (fun q52 w hq53 hm a he =>?_) (fun q52 w hq53 hm =>?_) (c:=nX (pos:=pos) (kd:=6) (n:=2) (by have h_:=jH hB50;have e_:(⟨#[61,62]⟩:ByteArray).size=2:=rfl;have e2_:(⟨#[45,62]⟩:ByteArray).size=2:=rfl;omega) (by omega) hm)
 refine Sto 1 fun w hm a he =>?_
 refine go fun a he =>?_
 have hmr:=hm
 replace hm:=hm.dl [1]
 refine kX (hm:=hmr) ?_
 show Out (zV t pos) _ _
 rw [show zV t pos=vN t pos 6 2 by simp [zV, *],hq53];exact ⟨rfl,hm⟩
 replace hm:=hm.dl [0]
 show Out (zV t pos) _ _
 rw [show zV t pos=vN t pos 6 2 by simp [zV, *],hq53];exact ⟨rfl,hm⟩
 refine zT call199 (fun w hm a he =>?_) (c:=gQ hm)
 have hsg_:=j3f (zJ t pos) (wB t pos)
 by_cases h55:0≤Lib.indexByte (⟨#[40,41,44,59,58,124,61,60,43,45,42,47,37,95]⟩:ByteArray).data.toList (((zJ t pos:Nat):Int).toNat.toUInt8)
 have hsb_:y5q (zJ t pos)=true:=by rw [← hsg_];exact decide_eq_true h55
 refine qT call238 (fun q57 w hq58 hm a he =>?_) (fun q57 w hq58 hm =>?_) (c:=nX (pos:=pos) (kd:=6) (n:=1) (by have hr_:=vQ qE t t.size (pos+1) (by omega);omega) (by omega) hm)
 refine Sto 1 fun w hm a he =>?_
 refine go fun a he =>?_
 have hmr:=hm
 replace hm:=hm.dl [1]
 refine kX (hm:=hmr) ?_
 show Out (zV t pos) _ _
 rw [show zV t pos=vN t pos 6 1 by simp [zV, *],hq58];exact ⟨rfl,hm⟩
 replace hm:=hm.dl [0]
 show Out (zV t pos) _ _
 rw [show zV t pos=vN t pos 6 1 by simp [zV, *],hq58];exact ⟨rfl,hm⟩
 refine qH fun a he =>?_
 refine Qq (fun a he =>?_) (o:=by exact fun he hs=>qD he rfl runUnderlying257 (by intro ms h;cases h))
 refine st0 he rfl rfl (vA he rfl (vB _) (fun a hd=>hQ _ _ _ (yV hd ?_)))
 replace hm:=hm.dl [1,0]
 have hno_:y5q (zJ t pos)=false:=by rw [← hsg_];exact decide_eq_false h55
 show Out (zV t pos) _ _
 rw [show zV t pos=.error (pos,11) by simp [zV, *]];exact ⟨rfl,hm⟩
end Go.Sw

namespace Go.Sw
open Go.Proofs.Tryz
open Go.Proofs
set_option maxRecDepth 20000
set_option maxHeartbeats 4000000
theorem y8k {Φ:Fz} {K:List Res} {w:World} {t:Bs} (hm:Mem Φ K w) :
  Calls prog 211 (List.toArray [.string t]) w (fun ee w'=>∃y:Nat×Nat,ee=.returned (.pointer (some ⟨y.1,0,none⟩))∧True∧Mem Φ (.blk y.1 (ob [.string t,.int .i64 ((0:Nat):Int),.map (some y.2),.slice none 0 0] 289)::.mp y.2 wordsM::K) w'):=by
 refine zN func211 ntmps211 fun Q hQ a he =>?_
 refine qH fun a he =>?_
 refine MkM fun b3 w hm a he =>?_
 refine y6o fun a he =>?_
 refine Bx fun b4 w hm a he =>?_
 refine qH fun a he =>?_
 refine go fun a he =>?_
 refine yG (he.ks [3,11]) hm (fun R mm a w=>∃(i:Nat),mm=15 - i∧R Φ [(12,.int .i64 ((i:Nat):Int))] [(1,.mp b3 (wordsM.take i))] a w∧(True)) (15 - 0) ⟨0,rfl,⟨he.pk,hm⟩,trivial⟩ ?_
 clear hm he
 rintro mm a w ⟨i,hmu,⟨he,hm⟩,hI8⟩ L7 hL7
 replace hm:=hm.nf
 by_cases h10:i < 15
 obtain ⟨x14,hx15⟩:=yF (l:=wordsL) (i:=i) h10
 refine Qq (fun a he =>?_) (o:=by exact fun he hs=>q7x i 15 (cs:=strs wordsL) he rfl rfl runUnderlying290 sizeOf9 isAgg9 rfl (by rw [strs,List.getElem?_map,hx15];rfl))
 refine tZ 1 runUnderlying286 runUnderlying9 fun w hm a he =>?_
 rw [show Value.int .i64 5=.int .i64 ((5:Nat):Int) from rfl,j7l hx15] at hm
 refine go fun a he =>?_
 refine hL7 _ _ _ (by subst hmu;omega) ⟨(i+1),rfl,⟨he.pk,hm⟩,?_⟩
 trivial
 refine zF ?_
 rw [j1j h10] at hm
 exact ⟨(_,_),rfl,trivial,hm⟩
theorem j7e {Φ:Fz} {K:List Res} {w:World} {b:Nat} (hm:Mem Φ K w) :
  Calls prog 213 (List.toArray [.pointer (some ⟨b,0,none⟩)]) w (fun ee w'=>∃y:Nat,ee=.returned (.func (.func 219) (List.toArray []) (List.toArray [.pointer (some ⟨y,0,none⟩)]))∧True∧Mem Φ (.blk y (ob [.pointer (some ⟨b,0,none⟩)] 254)::K) w'):=by
 refine zN func213 ntmps213 fun Q hQ a he =>?_
 refine Bx fun b2 w hm a he =>?_
 refine zF ?_
 exact ⟨_,rfl,trivial,hm⟩
end Go.Sw

namespace Go.Sw
open Go.Proofs.Tryz
open Go.Proofs
set_option maxRecDepth 20000
set_option maxHeartbeats 4000000
theorem j1e {β:Type} {Φ:Fz} {w:World} {t:Bs} {bx b mb l:Nat} {KY:List Tok→β→List Res} {z:β} (G:Glob Φ) (hmap:MapAt Φ mb wordsM) (h2:t.size≤800000)
  (hy:∀pre z K0 (k:Tok) w,pre.length < t.size→Mem Φ (K0++KY pre z) w→YieldAt Fence.wide 2 prog l #[y6c k] w (fun e w'=>e=.returned (.bool true)∧∃z',Mem Φ (K0++KY (pre++[k]) z') w'))
  (hm:Mem Φ (.blk bx (ob [.pointer (some ⟨b,0,none⟩)] 254)::.blk b (ob [.string t,.int .i64 ((0:Nat):Int),.map (some mb),.slice none 0 0] 289)::KY [] z) w) :
  Calls prog 219 (List.toArray [.func (.yield l) #[] #[],.pointer (some ⟨bx,0,none⟩)]) w (fun ee w'=>Out (mM t) (fun r=>∃y:β,ee=.returned (.tuple #[])∧Mem Φ (KY r y) w') (fun c=>∃y:List Tok×β,ee=.panicked (dI c)∧Mem Φ (KY y.1 y.2) w')):=by
 refine zN func219 ntmps219 fun Q hQ a he =>?_
 refine go fun a he =>?_
 replace hm:=hm.nilRow 303 2
 replace hm:=hm.nf
 replace hm:=hm.pl 2
 refine aL call220 (fun q2 y3 w hq4 hG5 hm a he =>?_) (fun q2 w hq4 hm =>?_) (c:=j2z (pos:=0) (by omega) (by omega) (Nat.zero_le _) hm)
 replace hm:=hm.nf
 have hpl_:=y4y (by omega) hq4
 refine go fun a he =>?_
 refine xB (fun mm a w=>∃(i:Nat) (pre:List Tok) (u:Value) (ds:List Value) (z0:β),mm=t.size - i∧EnvR 38 [(0,.func (.yield l) #[] #[]),(1,.pointer (some ⟨bx,0,none⟩))] [] a∧Mem Φ (.blk b (ob [.string t,.int .i64 ((i:Nat):Int),.map (some mb),u] 289)::.gs (u) 303 2 ds::.blk bx (ob [.pointer (some ⟨b,0,none⟩)] 254)::KY pre z0) w∧(i≤t.size∧ds.length≤2 * i∧pre.length≤i∧mM t=y5e pre (z2z t i))) (t.size - q2) ⟨q2,[],y3.1,y3.2,z,rfl,he.pk,hm,⟨hpl_.2,hG5,Nat.zero_le _,(q6x _).symm.trans (q1g (Nat.zero_le _) hq4)⟩⟩ ?_
 clear hm he
 rintro mm a w ⟨i,pre,u,ds,z0,hmu,he,hm,hI7⟩ L6 hL6
 obtain ⟨hi0_,hi1_,hi2_,hI_⟩:=hI7
 refine Reg [2,1,1,1,2,2,1,1,1,2,1,1] [0,1,2] fun w hm a he =>?_
 by_cases h10:i < t.size
 refine qT call221 (fun q13 w hq14 hm a he =>?_) (fun q13 w hq14 hm =>?_) (c:=x3o (pos:=i) G hmap h10 h2 hm)
 have hts_:=q7n h10 hq14
 refine Alc fun b15 w hm a he =>?_
 refine Sto 0 fun w hm a he =>?_
 refine Reg [2,1,1,1,2,1,2,1,1,1,1,1,0] [0,1,2,3] fun w hm a he =>?_
 refine Qq (fun a he =>?_) (o:=by exact fun he hs=>kV (i:=i) (j:=q13.text.size) he rfl rfl (by omega))
 refine Sto 1 fun w hm a he =>?_
 refine go1 fun a he =>?_
 refine jZ ?_
 refine yO he (by intro c h;cases h) (jB he rfl) rfl fun a he =>?_
 refine yO he (by intro c h;cases h) (xN 0 (vs:=[.int .i64 (q13.kind),.int .i64 (q13.num),.string q13.text,.int .i64 ((q13.org:Nat):Int)]) he hm.toSees rfl rfl isAgg261 sizeOf261 rfl rfl) rfl fun a he =>?_
 replace hm:=hm.dl [0]
 refine y0m (v:=y6c q13) he rfl rfl rfl (hy pre z0 [.blk b (ob [.string t,.int .i64 (((i+q13.text.size):Nat):Int),.map (some mb),u] 289),.gs (u) 303 2 ds,.blk bx (ob [.pointer (some ⟨b,0,none⟩)] 254)] q13 w (by omega) hm) fun w hJ_ a he =>?_
 obtain ⟨z18,hm⟩:=hJ_
 replace hm:=hm.nf
 refine yO he (by intro c h;cases h) (tY he rfl) rfl fun a he =>?_
 refine wpListIn_nil ?_
 replace hm:=hm.ar [] [1,1]
 refine aL call220 (fun q19 y20 w hq21 hG22 hm a he =>?_) (fun q19 w hq21 hm =>?_) (c:=j2z (pos:=(i+q13.text.size)) (by omega) (by omega) (by omega) hm)
 replace hm:=hm.nf
 have hpl_:=y4y (by omega) hq21
 refine go fun a he =>?_
 refine hL6 _ _ _ (by subst hmu;omega) ⟨(q19),(pre++[q13]),(y20.1),(y20.2),(z18),rfl,he.pk,hm,?_⟩
 exact ⟨hpl_.2,hG22,by simp only [List.length_append,List.length_cons,List.length_nil];omega,by rw [hI_,q1i h10 hq14,q1g (by omega) hq21]⟩
 replace hm:=hm.dl [0]
 have hr_:mM t=.error q19:=by
  rw [hI_,q1i h10 hq14,q1h (by omega) hq21]
 show Out (mM t) _ _
 rw [hr_];exact ⟨(pre++[q13],z18),rfl,hm⟩
 replace hm:=hm.dl [1,0]
 have hr_:mM t=.error q13:=by
  rw [hI_,j7f h10 hq14]
 show Out (mM t) _ _
 rw [hr_];exact ⟨(pre,z0),rfl,hm⟩
 refine go fun a he =>?_
 replace hm:=hm.dl [2,1,0]
 refine hQ _ _ _ (q0t he results219 ?_)
 show Out (mM t) _ _
 rw [hI_,x3p h10];exact ⟨z0,rfl,hm⟩
 replace hm:=hm.dl [0]
 have hr_:mM t=.error q2:=by
  exact (q6x _).symm.trans (q1h (Nat.zero_le _) hq4)
 show Out (mM t) _ _
 rw [hr_];exact ⟨([],z),rfl,hm⟩
end Go.Sw

namespace Go.Sw
open Go.Proofs.Tryz
open Go.Proofs
def z4w (k:Tok):List Value:=[.int .i64 k.kind,.int .i64 k.num,.string k.text,.int .i64 ((k.org:Nat):Int)]
def pD (l:List Tok):List Value:=l.flatMap z4w
theorem j1f (l:List Tok) (k:Tok):pD (l++[k])=pD l++z4w k:=by simp [pD]
theorem q1f:∀l:List Tok,(pD l).length=4 * l.length
 | []=>rfl
 | k::l=>by have:=q1f l;simp only [pD,List.flatMap_cons,List.length_append,List.length_cons] at this ⊢;rw [this];simp only [z4w,List.length_cons,List.length_nil];omega
def nQ (c:Nat×Int):List Value:=[.int .i64 ((c.1:Nat):Int),.int .i64 c.2]
abbrev wrongE (c:Nat×Int) (r:Bool):PanicEntry:={ v:=.iface 257 (.agg (nQ c).toArray),recovered:=r }
set_option maxRecDepth 20000 in
set_option maxHeartbeats 4000000 in
theorem q4m {Φ:Fz} {K:List Res} {w:World} {b3 b4:Nat} {v:Value} {x y:Value} {c:Nat×Int} (hm:Mem Φ (.blk b3 (ob [v] 255)::.blk b4 (ob [x,y] 257)::K) w) :
  CallsD prog 212 #[.pointer (some ⟨b3,0,none⟩),.pointer (some ⟨b4,0,none⟩)] (.panicking (dI c)) w fun e u' w' =>
   e=.returned (.tuple #[])∧u'=.panicking [wrongE c true]∧Mem Φ (.blk b3 (ob [.slice none 0 0] 255)::.blk b4 (ob (nQ c) 257)::K) w':=by
 generalize hR:(fun (e:Ending) (u':FrameMode) (w':World)=>e=.returned (.tuple #[])∧u'=.panicking [wrongE c true]∧Mem Φ (.blk b3 (ob [.slice none 0 0] 255)::.blk b4 (ob (nQ c) 257)::K) w')=R
 refine callsD_of_wpS func212 rfl fun c₀ cs hu =>?_
 apply wpS_seq
 apply wpS_region
 show wpOpsS prog _ _ [0] _ _ _
 simp [wpOpsS,go_sem,recoverD,hu,ntmps212,Exit.thenS,dI]
 refine wpS_of_wp ?_
 generalize hc:(_::cs:List Frame)=cs'
 have hQ:∀(a:Act) (w':World),a.defers=[]→Mem Φ (.blk b3 (ob [.slice none 0 0] 255)::.blk b4 (ob (nQ c) 257)::K) w'→bodyPostS prog Tryz.f212 c₀ cs R .normal a cs' w':=fun a w' hd hm =>
  ⟨hd,.panicking [wrongE c true],hc.symm,.tuple #[],results_none rfl _ _ _,by subst hR;exact ⟨rfl,rfl,hm⟩⟩
 generalize hact:(Act.mk _ [])=a
 have he:EnvR 12 [(5,.iface 257 (.agg (nQ c).toArray)),(1,.pointer (some ⟨b4,0,none⟩)),(0,.pointer (some ⟨b3,0,none⟩))] [] a:=by
  subst hact
  refine ⟨rfl,fun t v h =>?_,rfl⟩
  obtain ⟨rfl,rfl⟩ | ⟨_,h⟩:=pG h
  ·rfl
  ·obtain ⟨rfl,rfl⟩ | ⟨_,h⟩:=pG h
   ·rfl
   ·obtain ⟨rfl,rfl⟩ | ⟨_,h⟩:=pG h
    ·rfl
    ·cases h
 clear hact
 refine wp_block ?_
 refine sq fun L1 hL1 =>?_
 refine wp_region_lit ?_
 refine xW he (pX (v:=.bool false) he rfl rfl rfl (by kernel_rfl)) rfl fun a he =>?_
 refine wpList_nil ?_
 refine hL1 _ _ ?_
 refine if_f he rfl ?_
 refine sq fun L2 hL2 =>?_
 refine wp_region_lit ?_
 refine xW he (q7u he rfl runUnderlying257 (by intro ms h;cases h)) rfl fun a he =>?_
 refine xW he (gG he rfl rfl) rfl fun a he =>
  xW he (gG he rfl rfl) rfl fun a he =>?_
 refine wpList_nil ?_
 refine hL2 _ _ ?_
 refine if_t he rfl ?_
 refine sq fun L3 hL3 =>?_
 refine wp_region_lit ?_
 refine st he rfl rfl rfl (yI (cs:=[.int .i64 ((0:Nat):Int),.int .i64 ((0:Nat):Int)]) hm zeroValue257 rfl fun b5 w hm a he =>?_)
 refine st0 he rfl rfl (zS 0 (cs:=[.int .i64 ((0:Nat):Int),.int .i64 ((0:Nat):Int)]) (vs:=nQ c) he hm rfl rfl rfl rfl sizeOf257 rfl rfl rfl fun w hm a he =>?_)
 refine wpList_nil ?_
 refine hL3 _ _ ?_
 replace hm:Mem Φ (.blk b5 (ob (nQ c) 257)::.blk b3 (ob [v] 255)::.blk b4 (ob [x,y] 257)::K) w:=hm
 refine nL [2,0,0] (.q 0 (.e 1 (.e 2 (.done)))) [.blk b5 (ob (nQ c) 257)] he hm mixed (by kernel_rfl) (by simp) fun w hm =>?_
 refine d_q he rfl rfl (fun w hs=>xN 0 (vs:=nQ c) he hs rfl rfl isAgg257 sizeOf257 rfl rfl) rfl fun a he =>?_
 refine vK he rfl rfl (zS 1 (cs:=[v]) (vs:=[.slice none 0 0]) he hm rfl rfl rfl rfl sizeOf255 rfl rfl rfl fun w hm=>⟨fun _=>hm.seesIn (Fz.Le.refl _) (by simp [kR]),fun a he =>?_⟩)
 refine vK he rfl rfl (zS 2 (cs:=[x,y]) (vs:=nQ c) he hm rfl rfl rfl rfl sizeOf257 rfl rfl rfl fun w hm=>⟨zU (by kernel_rfl),fun a he =>?_⟩)
 refine q2a ?_
 replace hm:Mem Φ (.blk b3 (ob [.slice none 0 0] 255)::.blk b4 (ob (nQ c) 257)::K) w:=hm.del 0
 exact hQ _ _ he.defs hm
set_option maxRecDepth 20000 in
theorem catch_none {w:World} {b3 b4:Nat} :
  CallsD prog 212 #[.pointer (some ⟨b3,0,none⟩),.pointer (some ⟨b4,0,none⟩)] .returning w fun e u' w'=>e=.returned (.tuple #[])∧u'=.returning∧w'=w:=by
 generalize hR:(fun (e:Ending) (u':FrameMode) (w':World)=>e=.returned (.tuple #[])∧u'=.returning∧w'=w)=R
 refine callsD_of_wpS func212 rfl fun c₀ cs hu =>?_
 apply wpS_seq
 apply wpS_region
 show wpOpsS prog _ _ [0] _ _ _
 simp [wpOpsS,go_sem,recoverD,hu,ntmps212,Exit.thenS]
 refine wpS_of_wp ?_
 have hQ:∀(a:Act),a.defers=[]→bodyPostS prog Tryz.f212 c₀ cs R .normal a (c₀::cs) w:=fun a hd =>
  ⟨hd,.returning,by cases c₀;simp only at hu;subst hu;rfl,.tuple #[],results_none rfl _ _ _,by subst hR;exact ⟨rfl,rfl,rfl⟩⟩
 generalize hact:(Act.mk _ [])=a
 have he:EnvR 12 [(5,.nilIface)] [] a:=by
  subst hact
  refine ⟨rfl,fun t v h =>?_,rfl⟩
  obtain ⟨rfl,rfl⟩ | ⟨_,h⟩:=pG h
  ·rfl
  ·cases h
 clear hact
 refine wp_block ?_
 refine sq fun L1 hL1 =>?_
 refine wp_region_lit ?_
 refine xW he (pX (v:=.bool true) he rfl rfl rfl (by kernel_rfl)) rfl fun a he =>?_
 refine wpList_nil ?_
 refine hL1 _ _ ?_
 refine if_t he rfl ?_
 refine wp_region_lit ?_
 refine xW he (vJ he rfl) rfl fun a he =>?_
 refine wpList_nil ?_
 exact hQ _ he.defs
theorem zip1 {α β:Type} (x:α) (y:β):(#[x].zip #[y])=#[(x,y)]:=by apply Array.ext';simp
set_option maxRecDepth 20000 in
theorem rt_255:RowT prog 255 261 4 40:=⟨underlying255,⟨_,_,Tryz.type261,rfl,rfl,rfl,rfl⟩,by decide,by decide⟩
abbrev scanKY (K:List Res) (l Dk b3 b4:Nat) (r:Loop) (pre:List Tok) (z:Value):List Res :=
 .blk l (.loop r)::.blk Dk (.deferred (some []))::.blk b4 (ob [.int .i64 ((0:Nat):Int),.int .i64 ((0:Nat):Int)] 257)::.blk b3 (ob [z] 255)::.gs z 261 4 (pD pre)::K
set_option maxRecDepth 20000 in
set_option maxHeartbeats 4000000 in
theorem j0t {Ψ:Fz} {K K0:List Res} {w:World} {l Dk b3 b4 n:Nat} {r:Loop} {pre:List Tok} {z:Value} {k:Tok} (hlen:pre.length < n) (hn:n≤800000)
  (hps:r.params=#[11]) (hst:r.state=.ready) (hpd:r.pending=none)
  (ha:∀(a:Act) (w:World) (K:List Res),EnvR 19 [(11,y6c k),(4,.pointer (some ⟨b4,0,none⟩)),(3,.pointer (some ⟨b3,0,none⟩))] [] a→Mem Ψ (.blk l (.loop r)::K) w →
   r.assign.wpIn (FO (some l)) 2 prog (Exit.then (fun a1 w1=>∃b5,EnvR 19 [(5,.pointer (some ⟨b5,0,none⟩)),(4,.pointer (some ⟨b4,0,none⟩)),(3,.pointer (some ⟨b3,0,none⟩))] [] a1∧Mem Ψ (.blk l (.loop r)::.blk b5 (ob (z4w k) 261)::K) w1) (fun _ _ _=>False)) a w)
  (hb:∀(a:Act) (w:World) (b5:Nat) (K:List Res) (o:Obj),EnvR 19 [(5,.pointer (some ⟨b5,0,none⟩)),(4,.pointer (some ⟨b4,0,none⟩)),(3,.pointer (some ⟨b3,0,none⟩))] [] a→Mem Ψ (.blk l o::.blk b5 (ob (z4w k) 261)::.blk b3 (ob [z] 255)::.gs z 261 4 (pD pre)::K) w →
   r.body.wpIn (FO (some l)) 2 prog (fun e _ w=>e=.normal∧∃v,Mem Ψ (.blk l o::.blk b3 (ob [v] 255)::.gs v 261 4 (pD (pre++[k]))::K) w) a w)
  (he:EnvR 19 [(4,.pointer (some ⟨b4,0,none⟩)),(3,.pointer (some ⟨b3,0,none⟩))] [] ⟨r.tmps,[]⟩) (hm:Mem Ψ (K0++scanKY K l Dk b3 b4 r pre z) w) :
  YieldAt Fence.wide 2 prog l #[y6c k] w (fun e w'=>e=.returned (.bool true)∧∃z',Mem Ψ (K0++scanKY K l Dk b3 b4 r (pre++[k]) z') w'):=by
 have hm1:Mem Ψ (scanKY K l Dk b3 b4 r pre z++K0) w:=hm.perm List.perm_append_comm
 replace hm1:Mem Ψ (.blk l (.loop r)::.blk b3 (ob [z] 255)::.gs z 261 4 (pD pre)::.blk Dk (.deferred (some []))::.blk b4 (ob [.int .i64 ((0:Nat):Int),.int .i64 ((0:Nat):Int)] 257)::(K++K0)) w :=
  (((hm1.pull (i:=4) rfl).pull (i:=4) rfl).pull (i:=2) rfl)
 have hl:w.heap[l]? = some (.loop r):=hm1.own _ List.mem_cons_self
 refine ⟨r.fn,r.tmps.setIfInBounds 11 (y6c k),r.assign,r.body,?_,?_⟩
 ·rw [run_yield hl (by rw [hps];rfl),hps,zip1];simp
 ·have he2:EnvR 19 [(11,y6c k),(4,.pointer (some ⟨b4,0,none⟩)),(3,.pointer (some ⟨b3,0,none⟩))] [] ⟨r.tmps.setIfInBounds 11 (y6c k),[]⟩:=he.put (d:=11) rfl
  have h:=q7f (P:=prog) (E1:=fun b5=>[(5,.pointer (some ⟨b5,0,none⟩)),(4,.pointer (some ⟨b4,0,none⟩)),(3,.pointer (some ⟨b3,0,none⟩))])
   (KO:=fun v=>.blk b3 (ob [v] 255)::.gs v 261 4 (pD (pre++[k]))::.blk Dk (.deferred (some []))::.blk b4 (ob [.int .i64 ((0:Nat):Int),.int .i64 ((0:Nat):Int)] 257)::(K++K0)) hm1 hst hpd he2
   (fun a he=>ha a w _ he hm1) (fun b5 a w he hm=>hb a w b5 _ _ he hm)
  refine h.mono fun e w' hh =>?_
  obtain ⟨h1,v,h2⟩:=hh
  refine ⟨h1,v,?_⟩
  have h3:Mem Ψ (scanKY K l Dk b3 b4 r (pre++[k]) v++K0) w':=(((h2.pull (i:=4) rfl).pull (i:=4) rfl).pull (i:=2) rfl)
  exact h3.perm List.perm_append_comm
set_option maxRecDepth 20000 in
set_option maxHeartbeats 4000000 in
theorem j0u {Φ:Fz} {K:List Res} {w:World} {t:Bs} (G:Glob Φ) (h2:t.size≤800000) (hm:Mem Φ K w) :
  Calls prog 198 (List.toArray [.string t]) w (fun ee w'=>Out (mM t)
   (fun l=>∃y:Nat×Value,ee=.returned (.tuple (List.toArray [.pointer (some ⟨y.1,0,none⟩),y.2,.agg (List.toArray [.int .i64 ((0:Nat):Int),.int .i64 ((0:Nat):Int)])]))∧Mem Φ (.gs y.2 261 4 (pD l)::K) w')
   (fun c=>∃y:Nat,ee=.returned (.tuple (List.toArray [.pointer (some ⟨y,0,none⟩),.slice none 0 0,.agg (nQ c).toArray]))∧Mem Φ K w')):=by
 refine z3m func198 rfl ntmps198 rfl (fun Q hQ a he =>?_)
 refine sq fun L1 hL1 =>?_
 refine wp_region_lit ?_
 refine xW he (vJ he rfl) rfl fun a he =>?_
 refine st he rfl rfl rfl (yI (cs:=[.slice none 0 0]) hm zeroValue255 rfl fun b3 w hm a he =>?_)
 refine st he rfl rfl rfl (yI (cs:=[.int .i64 ((0:Nat):Int),.int .i64 ((0:Nat):Int)]) hm zeroValue257 rfl fun b4 w hm a he =>?_)
 refine wpList_nil ?_
 refine hL1 _ _ ?_
 refine sq fun L2 hL2 =>?_
 refine wp_region_lit ?_
 refine xW he (jB he rfl) rfl fun a he =>?_
 refine st he rfl rfl rfl (qQ he rfl call211 (y8k hm) (fun y w _ hm a he =>?_))
 obtain ⟨b,mb⟩:=y
 simp only at hm he
 refine xW he (vJ he rfl) rfl fun a he =>?_
 refine wpList_nil ?_
 refine hL2 _ _ ?_
 obtain ⟨Ψ,le,hm,hmap⟩:=hm.freezeMap (i:=1) rfl
 replace hm:Mem Ψ (.blk b (ob [.string t,.int .i64 ((0:Nat):Int),.map (some mb),.slice none 0 0] 289)::.blk b4 (ob [.int .i64 ((0:Nat):Int),.int .i64 ((0:Nat):Int)] 257)::.blk b3 (ob [.slice none 0 0] 255)::K) w:=hm
 refine sq fun L3 hL3 =>?_
 refine wp_region_lit ?_
 refine xW he (z0l (vfs:=[]) (vcs:=[.pointer (some ⟨b3,0,none⟩),.pointer (some ⟨b4,0,none⟩)]) he rfl rfl) rfl fun a he =>?_
 refine z5z (fs:=[]) (cs:=[.pointer (some ⟨b3,0,none⟩),.pointer (some ⟨b4,0,none⟩)]) (vs:=[]) he rfl rfl fun a he =>?_
 refine wpList_nil ?_
 refine hL3 _ _ ?_
 refine sq fun L4 hL4 =>?_
 refine sq fun L5 hL5 =>?_
 refine wp_region_lit ?_
 refine xW he (jB he rfl) rfl fun a he =>?_
 refine st he rfl rfl rfl (qQ he rfl call213 (j7e hm) (fun bx w _ hm a he =>?_))
 refine wpList_nil ?_
 refine hL5 _ _ ?_
 refine wp_block ?_
 refine z3d (P:=prog) (β:=List Tok×Value) (δ:=List Tok×Value) (gf:=219) (fs:=[]) (cs:=[.pointer (some ⟨bx,0,none⟩)]) (F1:=fun _=>Ψ)
  (KO:=fun y=>.blk b4 (ob [.int .i64 ((0:Nat):Int),.int .i64 ((0:Nat):Int)] 257)::.blk b3 (ob [y.2] 255)::.gs y.2 261 4 (pD y.1)::K)
  (KE:=fun y=>.blk b4 (ob [.int .i64 ((0:Nat):Int),.int .i64 ((0:Nat):Int)] 257)::.blk b3 (ob [y.2] 255)::.gs y.2 261 4 (pD y.1)::K)
  (G:=fun y=>mM t=.ok y.1) (B:=fun _ c=>∃e,mM t=.error e∧c=dI e) he hm rfl call219 ?_ ?_ ?_
 ·intro Dk l r w hps has hbo hst hpd her hm
  have hm1:=hm.nilRow 261 4
  replace hm1:Mem Ψ (.blk bx (ob [.pointer (some ⟨b,0,none⟩)] 254)::.blk b (ob [.string t,.int .i64 ((0:Nat):Int),.map (some mb),.slice none 0 0] 289)::scanKY K l Dk b3 b4 r [] (.slice none 0 0)) w :=
   ((((((hm1.pull (i:=6) rfl).pull (i:=6) rfl).pull (i:=4) rfl).pull (i:=4) rfl).pull (i:=6) rfl).pull (i:=6) rfl)
  have h:=j1e (l:=l) (KY:=scanKY K l Dk b3 b4 r) (G.mono le) hmap h2 (fun pre z K0 k w hlen hm =>?_) hm1
  ·refine h.mono fun e w' hh =>?_
   cases hT:mM t with
   | ok rr =>
    rw [hT] at hh
    obtain ⟨z,rfl,hm2⟩:=hh
    exact .inl ⟨_,(rr,z),rfl,rfl,hm2⟩
   | error c =>
    rw [hT] at hh
    obtain ⟨y,rfl,hm2⟩:=hh
    exact .inr ⟨_,y,rfl,⟨c,rfl,rfl⟩,hm2.tail⟩
  ·refine j0t (n:=t.size) hlen h2 hps hst hpd (fun a w K he hm =>?_) (fun a w b5 K o he hm =>?_) (her.of_sub ⟨rfl,rfl,trivial⟩) hm
   ·rw [has]
    refine wpIn_region_lit ?_
    refine y0l he rfl rfl rfl (by intro c h;cases h) (yI (cs:=[.int .i64 ((0:Nat):Int),.int .i64 ((0:Nat):Int),.string ⟨#[]⟩,.int .i64 ((0:Nat):Int)]) hm zeroValue261 rfl fun b5 w hm a he =>?_)
    refine q2l he rfl rfl (by intro c h;cases h) (zS 0 (cs:=[.int .i64 ((0:Nat):Int),.int .i64 ((0:Nat):Int),.string ⟨#[]⟩,.int .i64 ((0:Nat):Int)]) (vs:=z4w k) he hm rfl rfl rfl rfl sizeOf261 rfl rfl rfl fun w hm a he =>?_)
    refine wpListIn_nil ?_
    exact ⟨b5,he.of_sub ⟨rfl,rfl,rfl,trivial⟩,hm.pull (i:=1) rfl⟩
   ·rw [hbo]
    refine wpIn_block ?_
    refine wpIn_region_lit ?_
    refine yO he (by intro c h;cases h) (yR 2 he hm.toSees rfl rfl rfl isAgg255) rfl fun a he =>?_
    refine yO he (by intro c h;cases h) (xN 1 (vs:=z4w k) he hm.toSees rfl rfl isAgg261 sizeOf261 rfl rfl) rfl fun a he =>?_
    refine y0l he rfl rfl rfl (by intro c h;cases h) (kC (sz:=4) (cs:=z4w k) he hm rfl (oP runUnderlying255 sizeOf261 zeroValue261 rfl (by decide) rfl) rfl (by decide) fun v w hm _ a he =>?_)
    refine y0l he rfl rfl rfl (by intro c h;cases h) (aQ 4 (xs:=pD pre) (news:=z4w k) rt_255 he hm rfl rfl rfl (hm.toSees.rowIn (i:=0) rfl) rfl (by rw [q1f];simp only [z4w,List.length_cons,List.length_nil];omega) fun v2 w hm a he =>?_)
    replace hm:Mem Ψ (.gs v 261 4 (z4w k)::.blk l o::.blk b5 (ob (z4w k) 261)::.blk b3 (ob [z] 255)::.gs v2 261 4 (pD (pre++[k]))::K) w:=by rw [j1f];exact hm
    refine q2l he rfl rfl (by intro c h;cases h) (zS 3 (cs:=[z]) (vs:=[v2]) he hm rfl rfl rfl (hm.toSees.gsCells (i:=4) rfl) sizeOf255 rfl (hm.toSees.gsOne (i:=4) rfl) rfl fun w hm a he =>?_)
    refine wpListIn_nil ?_
    exact ⟨rfl,v2,(hm.del 0).del 1⟩
 ·intro Dk y a w hG he hm
  refine hL4 _ _ ?_
  refine sq fun L6 hL6 =>?_
  refine nL [1,2,2,1,0,0] (.q 0 (.q 1 (.q 2 (.q 3 (.e 4 (.e 5 .done)))))) [.blk b4 (ob [.int .i64 ((0:Nat):Int),.int .i64 ((0:Nat):Int)] 257),.blk b3 (ob [y.2] 255)] he hm mixed (by kernel_rfl) (by simp) fun w hm =>?_
  refine wD he rfl rfl (fun w=>jB he rfl) rfl fun a he =>?_
  refine d_q he rfl rfl (fun w hs=>yR 1 he hs rfl rfl rfl isAgg255) rfl fun a he =>?_
  refine d_q he rfl rfl (fun w hs=>xN 0 (vs:=[.int .i64 ((0:Nat):Int),.int .i64 ((0:Nat):Int)]) he hs rfl rfl isAgg257 sizeOf257 rfl rfl) rfl fun a he =>?_
  refine wD he rfl rfl (fun w=>vJ he rfl) rfl fun a he =>?_
  refine vK he rfl rfl (zS 2 (cs:=[y.2]) (vs:=[y.2]) he hm rfl rfl rfl (hm.toSees.gsCells (i:=3) rfl) sizeOf255 rfl (hm.toSees.gsOne (i:=3) rfl) rfl fun w hm=>⟨fun _=>(show Mem Ψ (.blk Dk (.deferred (some []))::.blk b4 (ob [.int .i64 ((0:Nat):Int),.int .i64 ((0:Nat):Int)] 257)::.blk b3 (ob [y.2] 255)::.gs y.2 261 4 (pD y.1)::K) w from hm).seesIn (Fz.Le.refl _) (by simp),fun a he =>?_⟩)
  replace hm:Mem Ψ (.blk Dk (.deferred (some []))::.blk b4 (ob [.int .i64 ((0:Nat):Int),.int .i64 ((0:Nat):Int)] 257)::.blk b3 (ob [y.2] 255)::.gs y.2 261 4 (pD y.1)::K) w:=hm
  refine vK he rfl rfl (zS 1 (cs:=[.int .i64 ((0:Nat):Int),.int .i64 ((0:Nat):Int)]) (vs:=[.int .i64 ((0:Nat):Int),.int .i64 ((0:Nat):Int)]) he hm rfl rfl rfl rfl sizeOf257 rfl rfl rfl fun w hm=>⟨zU (by kernel_rfl),fun a he =>?_⟩)
  replace hm:Mem Ψ (.blk Dk (.deferred (some []))::.blk b4 (ob [.int .i64 ((0:Nat):Int),.int .i64 ((0:Nat):Int)] 257)::.blk b3 (ob [y.2] 255)::.gs y.2 261 4 (pD y.1)::K) w:=hm
  refine q2a ?_
  refine hL6 _ _ ?_
  refine wp_ret ?_
  refine hQ _ _ _ ?_
  show pF _ _ _ _ a.defers _ _
  rw [he.defs]
  have hD:w.heap[Dk]? = some (.deferred (some [])):=hm.own _ List.mem_cons_self
  have hm2:=hm.putObj (i:=0) (o':=.deferred none) rfl
  refine mF (by simp) hD (cA ?_)
  refine leaves_cons (f:=212) (args:=#[.pointer (some ⟨b3,0,none⟩),.pointer (some ⟨b4,0,none⟩)]) (by simp) (call212 _ _) ?_
  refine catch_none.mono ?_
  rintro e u' w'' ⟨rfl,rfl,rfl⟩
  refine ⟨_,q7b (i:=2) (j:=1) he hm2.toSees results198 rfl rfl rfl isAgg255 rfl rfl isAgg257 sizeOf257 rfl,?_⟩
  rw [hG]
  exact ⟨(b,y.2),rfl,(((hm2.del 0).del 0).del 0).le le⟩
 ·intro Dk y c a w hB he hm
  obtain ⟨e,hE,rfl⟩:=hB
  refine hQ _ _ _ ?_
  show pF _ _ _ _ a.defers _ _
  rw [he.defs]
  have hD:w.heap[Dk]? = some (.deferred (some [])):=hm.own _ List.mem_cons_self
  have hm2:=(hm.putObj (i:=0) (o':=.deferred none) rfl).pull (i:=2) rfl
  replace hm2:Mem Ψ (.blk b3 (ob [y.2] 255)::.blk b4 (ob [.int .i64 ((0:Nat):Int),.int .i64 ((0:Nat):Int)] 257)::.blk Dk (.deferred none)::.gs y.2 261 4 (pD y.1)::K) (w.putObj Dk (.deferred none)):=hm2.pull (i:=2) rfl |>.pull (i:=1) rfl
  refine mF (by simp) hD (cA ?_)
  refine leaves_cons (f:=212) (args:=#[.pointer (some ⟨b3,0,none⟩),.pointer (some ⟨b4,0,none⟩)]) (by simp) (call212 _ _) ?_
  refine (q4m hm2).mono ?_
  rintro e' u' w'' ⟨rfl,rfl,hm3⟩
  refine ⟨_,q7b (i:=0) (j:=1) he hm3.toSees results198 rfl rfl rfl isAgg255 rfl rfl isAgg257 sizeOf257 rfl,?_⟩
  rw [hE]
  exact ⟨b,rfl,((((hm3.del 0).del 0).del 0).del 0).le le⟩
def RTok (_:Fz) (cs:List Value) (x:Tok):Prop:=cs=[.int .i64 x.kind,.int .i64 x.num,.string x.text,.int .i64 ((x.org:Nat):Int)]
theorem RTok.mono (Φ Ψ:Fz) (c:List Value) (x:Tok) (_:Φ.Le Ψ) (h:RTok Φ c x):RTok Ψ c x:=h
theorem y6d {Φ:Fz}:∀l:List Tok,Chunks (RTok Φ) 4 (pD l) l
 | []=>rfl
 | k::l=>⟨z4w k,pD l,rfl,rfl,rfl,y6d l⟩
section
variable {s:Bs} {l:List Tok} {c:Nat×Int} {x:Tok}
theorem j5q (h:24 < s.size):vT s=0:=by unfold vT;rw [if_pos h]
theorem q6c (h:¬24 < s.size) (hq:mM s=.error c):vT s=0:=by unfold vT;rw [if_neg h,hq]
theorem kind_ne (h:¬24 < s.size) (hq:mM s=.ok l) (hl:¬l.length=1):vT s=0:=by
 unfold vT;rw [if_neg h,hq]
 match l,hl with
 | [],_=>rfl
 | [k],hl=>exact absurd rfl hl
 | _::_::_,_=>rfl
theorem q6d (hl:l.length=1) (hx:l[0]? = some x):l=[x]:=by
 match l,hl,hx with
 | [k],_,hx=>simp only [List.getElem?_cons_zero,Option.some.injEq] at hx;rw [hx]
theorem kind_no (h:¬24 < s.size) (hq:mM s=.ok l) (hl:l.length=1) (hx:l[0]? = some x) (ht:¬x.text=s):vT s=0:=by
 unfold vT;rw [if_neg h,hq,q6d hl hx];simp [ht]
theorem kind_ok (h:¬24 < s.size) (hq:mM s=.ok l) (hl:l.length=1) (hx:l[0]? = some x) (ht:x.text=s):vT s=x.kind:=by
 unfold vT;rw [if_neg h,hq,q6d hl hx];simp [ht]
end
end Go.Sw

namespace Go.Sw
open Go.Proofs.Tryz
open Go.Proofs
set_option maxRecDepth 20000
set_option maxHeartbeats 4000000
variable {Φ:Fz} {K:List Res} {w:World}
theorem q6b {s:Bs} (G:Glob Φ) (hm:Mem Φ K w):Calls prog 184 (List.toArray [.string s]) w (fun ee w'=>ee=.returned (.int .i64 (vT s))∧Mem Φ K w'):=by
 refine zN func184 ntmps184 fun Q hQ a he =>?_
 by_cases h4:24 < s.size
 refine zF ?_
 rw [j5q h4];exact ⟨rfl,hm⟩
 refine go fun a he =>?_
 refine st he rfl rfl rfl (j4r he rfl call198 (j0u G (by omega) hm) (fun q7 y8 w hq9 hm a he =>?_) (fun q7 y8 w hq9 hm a he =>?_))
 replace hm:=hm.nf
 obtain ⟨y8a,y8b⟩:=y8
 simp only at hm he
 have hm0_:=hm
 clear hm
 obtain ⟨Ψ10,le11,hm,hrow12⟩:=hm0_.freezeRow (i:=0) rfl
 clear hm0_
 replace hm:=hm.nf
 have hsl13:SliceOf RTok Ψ10 4 _ (q7):=⟨_,hrow12,y6d q7⟩
 obtain ⟨p14,c15,hv_,hm16,hn17⟩:=hsl13.form (by decide)
 have hmk_:=hm
 clear hm
 subst hv_
 have hm:=hmk_
 clear hmk_
 refine Alc fun b18 w hm a he =>?_
 refine Sto 0 fun w hm a he =>?_
 refine Qq (fun a he =>?_) (o:=by exact fun he hs=>qF false he rfl rfl rfl)
 by_cases h21:(q7).length=1
 refine go fun a he =>?_
 have hb22:0 < (q7).length:=by omega
 obtain ⟨q23,rfl,x24,hx25,cs26,hl27,ha28,hr29⟩:=hsl13.el hn17 hb22
 obtain rfl:=id hr29
 by_cases h30:x24.text=s
 refine go fun a he =>?_
 obtain ⟨x32,hx33⟩:=yF hb22
 obtain ⟨cs34,hl35,ha36,hr37⟩:=hsl13.elem hx33
 obtain rfl:=id hr37
 refine zF ?_
 replace hm:=hm.le (le11)
 replace hm:=hm.dl [0]
 rw [kind_ok h4 hq9 h21 hx25 h30,show x24=x32 from Option.some.inj (hx25.symm.trans hx33)];exact ⟨rfl,hm⟩
 refine zF ?_
 replace hm:=hm.le (le11)
 replace hm:=hm.dl [0]
 rw [kind_no h4 hq9 h21 hx25 h30];exact ⟨rfl,hm⟩
 refine zF ?_
 replace hm:=hm.le (le11)
 replace hm:=hm.dl [0]
 rw [kind_ne h4 hq9 h21];exact ⟨rfl,hm⟩
 replace hm:=hm.nf
 refine Alc fun b40 w hm a he =>?_
 refine Sto 0 fun w hm a he =>?_
 by_cases h43:q7.2=0
 refine Qq (fun a he =>?_) (o:=by exact fun he hs=>qF true he rfl rfl rfl)
 refine zF ?_
 replace hm:=hm.dl [0]
 rw [q6c h4 hq9];exact ⟨rfl,hm⟩
 refine zF ?_
 replace hm:=hm.dl [0]
 rw [q6c h4 hq9];exact ⟨rfl,hm⟩
theorem q9k {s:Bs} (G:Glob Φ) (hm:Mem Φ K w):Calls prog 161 (List.toArray [.string s]) w (fun ee w'=>ee=.returned (.bool (yU s))∧Mem Φ K w'):=by
 refine zN func161 ntmps161 fun Q hQ a he =>?_
 refine zT call184 (fun w hm a he =>?_) (c:=q6b G hm)
 refine Qq (fun a he =>?_) (o:=by exact fun he hs=>pH he rfl rfl)
 refine zF ?_
 exact ⟨rfl,hm⟩
theorem j5l {s:Bs} (G:Glob Φ) (hm:Mem Φ K w):Calls prog 158 (List.toArray [.string s]) w (fun ee w'=>ee=.returned (.bool (qC s))∧Mem Φ K w'):=by
 refine zN func158 ntmps158 fun Q hQ a he =>?_
 refine zT call184 (fun w hm a he =>?_) (c:=q6b G hm)
 refine Qq (fun a he =>?_) (o:=by exact fun he hs=>pH he rfl rfl)
 refine zF ?_
 exact ⟨rfl,hm⟩
end Go.Sw

namespace Go.Sw
open Go.Proofs
theorem dO {Φ:Fz} {K:List Res} {w:World} {s:Bs} (G:Glob Φ) (hm:Mem Φ K w):Calls Tryz.prog 161 (List.toArray [.string s]) w (fun ee w'=>ee=.returned (.bool (yU s))∧Mem Φ K w'):=q9k G hm
theorem wG {Φ:Fz} {K:List Res} {w:World} {s:Bs} (G:Glob Φ) (hm:Mem Φ K w):Calls Tryz.prog 158 (List.toArray [.string s]) w (fun ee w'=>ee=.returned (.bool (qC s))∧Mem Φ K w'):=j5l G hm
end Go.Sw

namespace Go.Sw
open Go.Proofs
def pO (n:Nat):List PanicEntry:=[{ v:=.iface 206 (.agg #[.int .i64 ((n:Nat):Int)]),recovered:=false }]
section
variable {P:Program} {n:Nat} {E:List (Nat×Value)} {D:List Deferred} {a:Act} {Φ Ψ:Fz} {K:List Res} {w:World}
variable {Kn:Value→World→Prop} {Qp:List PanicEntry→World→Prop} {dst:Option Tmp} {ty:TypeId} {pos:String} {aft:Array Edge} {g:Option (Nat×Bool)}
theorem aG {f:FuncId} {xs:Array Operand} {ts:Array TypeId} {vs:List Value} {c:List PanicEntry} {Φ2:Fz} {KE:List Res}
  (he:EnvR n E D a) (hx:evs E xs.toList=some vs) (hf:∀args w,(callFunc f args).run P w=.ok (.enter f args) w)
  (hc:Calls P f vs.toArray w (fun e w'=>e=.panicked c∧Mem Φ2 KE w')) (kp:∀w',Mem Φ2 KE w'→Qp c w') :
  Oper.eff P ⟨dst,.call { callee:=.value (.func f),args:=xs,argTypes:=ts },ty,pos,aft,g⟩ a w Kn Qp :=
 mB he hx hf hc (fun v w' h=>by cases h.1) (fun c w' h=>by cases h.1;exact kp _ h.2) (fun w' h=>by cases h.1)
end
theorem j5k {s:Bs} {v:Int} (h:cN s=.ok v) (hd:nS v=s):dG s=some v:=by simp [dG,h,hd]
theorem intP_ne {s:Bs} {v:Int} (h:cN s=.ok v) (hd:¬nS v=s):dG s=none:=by simp [dG,h,hd]
theorem x1i {s:Bs} {u:Unit} (h:cN s=.error u):dG s=none:=by simp [dG,h]
theorem x1j {s:Bs} {v:Int} (h:dG s=some v):I64 v:=by
 unfold dG at h
 split at h
 ·rename_i v' h2
  split at h
  ·simp only [Option.some.injEq] at h;subst h;exact z9b h2
  ·cases h
 ·cases h
theorem jJ {ws:List Bs} {i:Nat} {p:Bs→Bool} {x:Bs×Nat} (h:pA ws p i=.ok x):x.2=i+1∧x.2≤ws.length:=by have:=z4v h;omega
theorem kK {ws:List Bs} {i:Nat} {w:Bs} {x:Unit×Nat} (h:vZ ws w i=.ok x):x.2=i+1∧x.2≤ws.length:=by have:=q0l h;omega
end Go.Sw

namespace Go.Sw
open Go.Proofs
def gI (ws:List Bs) (d:Nat):Prop:=∀{Φ:Fz} {K:List Res} {w:World} {r i:Nat} {rs:Value},Glob Φ→SliceOf RStr Φ 1 rs ws→i≤ws.length →
  Mem Φ (.blk r (ob [rs,.int .i64 ((i:Nat):Int)] 210)::K) w →
  Calls Tryz.prog 180 (List.toArray [.pointer (some ⟨r,0,none⟩),.int .i64 ((d:Nat):Int)]) w (fun ee w'=>Out (zR ws d i)
   (fun x=>∃y:Fz×List Value,ee=.returned (.agg y.2.toArray)∧(Φ.Le y.1∧REx y.1 y.2 x.1)∧Mem y.1 (.blk r (ob [rs,.int .i64 ((x.2:Nat):Int)] 210)::K) w')
   (fun c=>ee=.panicked (pO c)∧Mem Φ K w'))
theorem y9r:I64 0:=⟨by decide,by decide⟩
theorem REx.leaf {Φ:Fz} {k n:Int} {s:Bs} (h:I64 n):REx Φ [.int .i64 k,.int .i64 n,.string s,.slice none 0 0,.slice none 0 0] (.mk k n s [] []) :=
 REx.iff.2 ⟨_,_,rfl,h,SliceOf.nil 5,SliceOf.nil 7⟩
theorem REx.node {Φ:Fz} {k:Int} {s:Bs} {v:Value} {l:List Ex} (h:SliceOf REx Φ 5 v l):REx Φ [.int .i64 k,.int .i64 0,.string s,v,.slice none 0 0] (.mk k 0 s l []) :=
 REx.iff.2 ⟨_,_,rfl,y9r,h,SliceOf.nil 7⟩
theorem REx.full {Φ:Fz} {k:Int} {s:Bs} {v u:Value} {l:List Ex} {m:List Arm} (h:SliceOf REx Φ 5 v l) (h2:SliceOf RArm Φ 7 u m):REx Φ [.int .i64 k,.int .i64 0,.string s,v,u] (.mk k 0 s l m) :=
 REx.iff.2 ⟨_,_,rfl,y9r,h,h2⟩
theorem Chunks.one {α:Type} {R:List Value→α→Prop} {k:Nat} {a:List Value} {x:α} (la:a.length=k) (ha:R a x):Chunks R k a [x]:=⟨a,[],by simp,la,ha,rfl⟩
theorem Chunks.two {α:Type} {R:List Value→α→Prop} {k:Nat} {a b:List Value} {x y:α} (la:a.length=k) (ha:R a x) (lb:b.length=k) (hb:R b y):Chunks R k (a++b) [x,y]:=⟨a,b,rfl,la,ha,Chunks.one lb hb⟩
section
variable {P:Program} {n:Nat} {E:List (Nat×Value)} {D:List Deferred} {a:Act} {Φ:Fz} {K:List Res} {w:World} {ty:TypeId}
theorem q7y (i m:Nat) {x:Operand} {t e T:TypeId} {k:Nat} {v:Value} {cs:List Value} (he:EnvR n E D a) (hs:Sees Φ K w) (hx:ev E x=some v) (hk:qI K i=some (.gs v T k cs)) (hl:cs.length=m * k) (h0:0 < k) (ht:Under P t (.slice e)) :
  Ok P a (.call { callee:=.builtin .len,args:=#[x],argTypes:=#[t] }) ty w (.int .i64 ((m:Nat):Int)):=by
 obtain ⟨p,m',c,rfl,h1,_⟩:=hs.gsForm hk
 have:m'=m:=Nat.eq_of_mul_eq_mul_right h0 (h1.symm.trans hl)
 subst this
 exact z6d he hx ht
end
section
variable {ws:List Bs} {i d:Nat}
theorem y9g:zR ws 0 i=.error (i+1):=rfl
theorem expr_no (h:zC ws i=⟨#[]⟩):zR ws (d+1) i=.error (i+1):=by rw [zR,if_pos (show zC ws i=sNo from h)]
theorem j8r {n:Int} (h:¬zC ws i=⟨#[]⟩) (hn:dG (zC ws i)=some n):zR ws (d+1) i=.ok (.mk 1 n sNo [] [],i+1):=by
 rw [zR,if_neg (show ¬zC ws i=sNo from h),hn]
theorem expr_fe {c:Nat} (h:¬zC ws i=⟨#[]⟩) (hn:dG (zC ws i)=none) (ho:zC ws i=⟨#[40]⟩) (hf:yS ws (zR ws d) (i+1)=.error c):zR ws (d+1) i=.error c:=by
 rw [zR,if_neg (show ¬zC ws i=sNo from h),hn];show (if zC ws i=aB then _ else _)=_;rw [if_pos (show zC ws i=aB from ho),zM hf]
theorem expr_fc {c:Nat} {x:Ex×Nat} (h:¬zC ws i=⟨#[]⟩) (hn:dG (zC ws i)=none) (ho:zC ws i=⟨#[40]⟩) (hf:yS ws (zR ws d) (i+1)=.ok x) (hc:vZ ws ⟨#[41]⟩ x.2=.error c):zR ws (d+1) i=.error c:=by
 rw [zR,if_neg (show ¬zC ws i=sNo from h),hn];show (if zC ws i=aB then _ else _)=_;rw [if_pos (show zC ws i=aB from ho),zB hf];exact zM hc
theorem j4t {x:Ex×Nat} {y:Unit×Nat} (h:¬zC ws i=⟨#[]⟩) (hn:dG (zC ws i)=none) (ho:zC ws i=⟨#[40]⟩) (hf:yS ws (zR ws d) (i+1)=.ok x) (hc:vZ ws ⟨#[41]⟩ x.2=.ok y):zR ws (d+1) i=.ok (x.1,y.2):=by
 rw [zR,if_neg (show ¬zC ws i=sNo from h),hn];show (if zC ws i=aB then _ else _)=_;rw [if_pos (show zC ws i=aB from ho),zB hf];exact zB hc
theorem j8q {x:Bs×Nat} (h:¬zC ws i=⟨#[]⟩) (hn:dG (zC ws i)=none) (ho:¬zC ws i=⟨#[40]⟩) (hc:qC (zC ws i)=true) (hx:hM ws i=.ok x):zR ws (d+1) i=.ok (.mk 4 0 x.1 [] [],x.2):=by
 have hx':=(y5z h hc).symm.trans hx
 simp only [Except.ok.injEq] at hx';subst hx'
 rw [zR,if_neg (show ¬zC ws i=sNo from h),hn];show (if zC ws i=aB then _ else _)=_;rw [if_neg (show ¬zC ws i=aB from ho),if_pos hc]
theorem j4s {c:Nat} {Q:Prop} (h:¬zC ws i=⟨#[]⟩) (hc:qC (zC ws i)=true) (hx:hM ws i=.error c):Q:=by cases (y5z h hc).symm.trans hx
theorem q8v (h:¬zC ws i=⟨#[]⟩) (hn:dG (zC ws i)=none) (ho:¬zC ws i=⟨#[40]⟩) (hc:qC (zC ws i)=false) (hb:zJ (zC ws i) 0=33) (hi:yU ((zC ws i).extract 1 (zC ws i).size)=true) :
  zR ws (d+1) i=.ok (.mk 3 0 ((zC ws i).extract 1 (zC ws i).size) [] [],i+1):=by
 rw [zR,if_neg (show ¬zC ws i=sNo from h),hn];show (if zC ws i=aB then _ else _)=_;rw [if_neg (show ¬zC ws i=aB from ho),if_neg (by rw [hc];decide),if_pos ⟨hb,hi⟩]
theorem tF (h:¬zC ws i=⟨#[]⟩) (hn:dG (zC ws i)=none) (ho:¬zC ws i=⟨#[40]⟩) (hc:qC (zC ws i)=false) (hb:¬(zJ (zC ws i) 0=33∧yU ((zC ws i).extract 1 (zC ws i).size)=true)) :
  zR ws (d+1) i=yN (mI ws i) fun x j=>.ok (.mk 2 0 x [] [],j):=by
 rw [zR,if_neg (show ¬zC ws i=sNo from h),hn];show (if zC ws i=aB then _ else _)=_;rw [if_neg (show ¬zC ws i=aB from ho),if_neg (by rw [hc];decide),if_neg hb]
theorem x3c {s:Bs} (h:¬s=⟨#[]⟩):0 < s.size:=by
 refine Nat.pos_of_ne_zero fun e=>h ?_
 apply ByteArray.ext
 exact Array.eq_empty_of_size_eq_zero e
variable {ex:Nat→Rd Ex} {f least:Nat}
theorem x1m (h:¬0 < least) (h2:zC ws i=⟨#[41]⟩):vU ws ex (f+1) least i=.ok ([],i):=by
 rw [vU,if_neg];rintro (h3 | h3);exact h h3;exact h3 h2
theorem j2r (h:0 < least∨¬zC ws i=⟨#[41]⟩):vU ws ex (f+1) least i=yN (ex i) fun e i=>yN (vU ws ex f (least - 1) i) fun l i=>.ok (e::l,i):=by
 rw [vU,if_pos];exact h.imp_right fun h=>h
end
def vL {α:Type} (xs:List α) (r:Rd (List α)):Rd (List α):=yN r fun l k=>.ok (xs++l,k)
theorem cC {α:Type} (r:Rd (List α)):r=vL [] r:=by
 unfold vL;cases r with
 | ok x=>rfl
 | error c=>rfl
theorem pre1_ok {α:Type} (xs:List α) (l:List α) (k:Nat):vL xs (.ok (l,k))=.ok (xs++l,k):=rfl
theorem aI {α:Type} (xs:List α) (x:α) (r:Rd (List α)):vL xs (yN r fun l k=>.ok (x::l,k))=vL (xs++[x]) r:=by
 unfold vL;cases r with
 | ok y=>simp [yN]
 | error c=>rfl
section
variable {ws:List Bs} {ex:Nat→Rd Ex} {f m j:Nat} {r:Rd (List Ex)} {xs:List Ex}
theorem x1n (hI:r=vL xs (vU ws ex f (m - xs.length) j)) (hf:0 < f) (h:¬xs.length < m) (h2:zC ws j=⟨#[41]⟩):r=.ok (xs,j):=by
 obtain ⟨f,rfl⟩:∃k,f=k+1:=⟨f - 1,by omega⟩
 rw [hI,x1m (by omega) h2,pre1_ok,List.append_nil]
theorem q0a {c:Nat} (hI:r=vL xs (vU ws ex f (m - xs.length) j)) (hf:0 < f) (h:xs.length < m∨¬zC ws j=⟨#[41]⟩) (he:ex j=.error c):r=.error c:=by
 obtain ⟨f,rfl⟩:∃k,f=k+1:=⟨f - 1,by omega⟩
 rw [hI,j2r (h.imp_left fun h=>by omega),zM he];rfl
theorem q0b {x:Ex×Nat} (hI:r=vL xs (vU ws ex f (m - xs.length) j)) (hf:0 < f) (h:xs.length < m∨¬zC ws j=⟨#[41]⟩) (he:ex j=.ok x) :
  r=vL (xs++[x.1]) (vU ws ex (f - 1) (m - (xs++[x.1]).length) x.2):=by
 obtain ⟨f,rfl⟩:∃k,f=k+1:=⟨f - 1,by omega⟩
 rw [hI,j2r (h.imp_left fun h=>by omega),zB he,aI,Nat.add_sub_cancel,List.length_append,Nat.sub_sub];rfl
end
section
variable {ws:List Bs} {ex:Nat→Rd Ex} {f j:Nat} {r:Rd (List Arm)} {xs:List Arm}
theorem j7w (hI:r=vL xs (aM ws ex f (decide (xs.length=0)) j)) (hf:0 < f) (h:¬xs.length=0) (h2:¬zC ws j=⟨#[40]⟩):r=.ok (xs,j):=by
 obtain ⟨f,rfl⟩:∃k,f=k+1:=⟨f - 1,by omega⟩
 rw [hI,aM,if_neg (by rintro (h3 | h3);exact h (of_decide_eq_true h3);exact h2 h3)];simp [vL,yN]
theorem xY {c:Nat} (hI:r=vL xs (aM ws ex f (decide (xs.length=0)) j)) (hf:0 < f) (h:xs.length=0∨zC ws j=⟨#[40]⟩) (he:armP ws ex j=.error c):r=.error c:=by
 obtain ⟨f,rfl⟩:∃k,f=k+1:=⟨f - 1,by omega⟩
 rw [hI,aM,if_pos (show decide (xs.length=0)=true∨zC ws j=aB from h.imp_left fun h=>decide_eq_true h),zM he];rfl
theorem y8p {x:Arm×Nat} (hI:r=vL xs (aM ws ex f (decide (xs.length=0)) j)) (hf:0 < f) (h:xs.length=0∨zC ws j=⟨#[40]⟩) (he:armP ws ex j=.ok x):r=vL (xs++[x.1]) (aM ws ex (f - 1) (decide ((xs++[x.1]).length=0)) x.2):=by
 obtain ⟨f,rfl⟩:∃k,f=k+1:=⟨f - 1,by omega⟩
 rw [hI,aM,if_pos (show decide (xs.length=0)=true∨zC ws j=aB from h.imp_left fun h=>decide_eq_true h),zB he,aI,Nat.add_sub_cancel];simp
end
section
variable {ws:List Bs} {f j:Nat} {r:Rd (List Bs)} {xs:List Bs}
theorem q7r (hI:r=vL xs (nU ws f j)) (hf:0 < f) (h:zC ws j=⟨#[45,62]⟩):r=.ok (xs,j):=by
 obtain ⟨f,rfl⟩:∃k,f=k+1:=⟨f - 1,by omega⟩
 rw [hI,nU,if_neg (fun h3=>h3 h)];simp [vL,yN]
theorem q1l {c:Nat} (hI:r=vL xs (nU ws f j)) (hf:0 < f) (h:¬zC ws j=⟨#[45,62]⟩) (he:mI ws j=.error c):r=.error c:=by
 obtain ⟨f,rfl⟩:∃k,f=k+1:=⟨f - 1,by omega⟩
 rw [hI,nU,if_pos (show zC ws j≠y5m from h),zM he];rfl
theorem q1m {x:Bs×Nat} (hI:r=vL xs (nU ws f j)) (hf:0 < f) (h:¬zC ws j=⟨#[45,62]⟩) (he:mI ws j=.ok x):r=vL (xs++[x.1]) (nU ws (f - 1) x.2):=by
 obtain ⟨f,rfl⟩:∃k,f=k+1:=⟨f - 1,by omega⟩
 rw [hI,nU,if_pos (show zC ws j≠y5m from h),zB he,aI,Nat.add_sub_cancel]
end
section
variable {ws:List Bs} {f j:Nat} {r:Rd (List Bs)} {xs:List Bs}
theorem q8w (hI:r=vL xs (vF ws f j)) (hf:0 < f) (h:qC (zC ws j)=false):r=.ok (xs,j):=by
 obtain ⟨f,rfl⟩:∃k,f=k+1:=⟨f - 1,by omega⟩
 rw [hI,vF,if_neg (by rw [h];decide)];simp [vL,yN]
theorem q4y {c:Nat} (hI:r=vL xs (vF ws f j)) (hf:0 < f) (h:qC (zC ws j)=true) (he:hM ws j=.error c):r=.error c:=by
 obtain ⟨f,rfl⟩:∃k,f=k+1:=⟨f - 1,by omega⟩
 rw [hI,vF,if_pos h,zM he];rfl
theorem q4z {x:Bs×Nat} (hI:r=vL xs (vF ws f j)) (hf:0 < f) (h:qC (zC ws j)=true) (he:hM ws j=.ok x):r=vL (xs++[x.1]) (vF ws (f - 1) x.2):=by
 obtain ⟨f,rfl⟩:∃k,f=k+1:=⟨f - 1,by omega⟩
 rw [hI,vF,if_pos h,zB he,aI,Nat.add_sub_cancel]
end
section
variable {ws:List Bs} {ex:Nat→Rd Ex} {i:Nat}
theorem j2k (h:oH (zC ws i)=true):yS ws ex i=yN (z3b ex (i+1)) fun l j=>.ok (.mk 8 0 (zC ws i) l [],j):=by rw [yS,if_pos h]
theorem y0e (h:oH (zC ws i)=false) (h2:zC ws i=⟨#[108,101,116]⟩):yS ws ex i=yN (mI ws (i+1)) fun x j=>yN (z3b ex j) fun l j=>.ok (.mk 6 0 x l [],j):=by
 rw [yS,if_neg (by rw [h];decide)];exact if_pos h2
theorem xE (h:oH (zC ws i)=false) (h2:¬zC ws i=⟨#[108,101,116]⟩) (h3:zC ws i=⟨#[99,97,115,101]⟩) :
  yS ws ex i=yN (ex (i+1)) fun a j=>yN (aM ws ex (ws.length+1) true j) fun l j=>.ok (.mk 7 0 sNo [a] l,j):=by
 rw [yS,if_neg (by rw [h];decide)];exact (if_neg h2).trans (if_pos h3)
theorem q5k (h:oH (zC ws i)=false) (h2:¬zC ws i=⟨#[108,101,116]⟩) (h3:¬zC ws i=⟨#[99,97,115,101]⟩) (h4:qC (zC ws i)=true) :
  yS ws ex i=yN (vU ws ex (ws.length+1) 1 (i+1)) fun l j=>.ok (.mk 4 0 (zC ws i) l [],j):=by
 rw [yS,if_neg (by rw [h];decide)];exact (if_neg h2).trans ((if_neg h3).trans (if_pos h4))
theorem z3p (h:oH (zC ws i)=false) (h2:¬zC ws i=⟨#[108,101,116]⟩) (h3:¬zC ws i=⟨#[99,97,115,101]⟩) (h4:qC (zC ws i)=false) :
  yS ws ex i=yN (mI ws i) fun x j=>yN (vU ws ex (ws.length+1) 0 j) fun l j=>.ok (.mk 5 0 x l [],j):=by
 rw [yS,if_neg (by rw [h];decide)];exact (if_neg h2).trans ((if_neg h3).trans (if_neg (by rw [h4];decide)))
theorem isOp_no {s:Bs} (h1:¬s=⟨#[43]⟩) (h2:¬s=⟨#[45]⟩) (h3:¬s=⟨#[42]⟩) (h4:¬s=⟨#[47]⟩) (h5:¬s=⟨#[37]⟩) (h6:¬s=⟨#[60]⟩) (h7:¬s=⟨#[61]⟩):oH s=false:=by
 simp [oH,h1,h2,h3,h4,h5,h6,h7]
theorem aX {s:Bs} (h:s=⟨#[43]⟩∨s=⟨#[45]⟩∨s=⟨#[42]⟩∨s=⟨#[47]⟩∨s=⟨#[37]⟩∨s=⟨#[60]⟩∨s=⟨#[61]⟩):oH s=true:=by
 rcases h with h | h | h | h | h | h | h <;> subst h <;> rfl
end
theorem RArm.of {Φ:Fz} {c:Bs} {v:Value} {b:List Value} {vs:List Bs} {e:Ex} (h:SliceOf RStr Φ 1 v vs) (hb:REx Φ b e):RArm Φ (.string c::v::b) (.mk c vs e):=RArm.iff.2 ⟨_,_,rfl,h,hb⟩
theorem hH {ws:List Bs} {i:Nat} {s:Bs} (h:zC ws i=s) (hs:s≠⟨#[]⟩):i < ws.length:=kU fun e=>hs (h.symm.trans e)
theorem isOp_lt {ws:List Bs} {i:Nat} (h:oH (zC ws i)=true):i < ws.length:=kU fun e=>by rw [e] at h;revert h;decide
theorem x1k {ws:List Bs} {i:Nat} (h:qC (zC ws i)=true):i < ws.length:=kU fun e=>by rw [e] at h;revert h;decide
theorem two_le {ws:List Bs} {d i:Nat} {x:List Ex×Nat} (h:z3b (zR ws d) i=.ok x):i < x.2∧x.2≤ws.length:=y6f (xP d) i x h
theorem j2q {ws:List Bs} {d i f m:Nat} {x:List Ex×Nat} (hi:i≤ws.length) (h:vU ws (zR ws d) f m i=.ok x):i≤x.2∧x.2≤ws.length:=gR (xP d) f m i x hi h
theorem form_le {ws:List Bs} {d i:Nat} {x:Ex×Nat} (h:yS ws (zR ws d) i=.ok x):i < x.2∧x.2≤ws.length:=y9n (xP d) i x h
section
variable {ws:List Bs} {f j:Nat} {xs:List Con} {r:Rd (List Con)} {n:Bs×Nat} {l:List Bs} {k c:Nat}
theorem q8k (hI:r=vL xs (aN ws f j)) (hf:0 < f) (he:hM ws j=.error c):r=.error c:=by
 obtain ⟨f,rfl⟩:∃k,f=k+1:=⟨f - 1,by omega⟩
 rw [hI,aN,zM he];rfl
theorem q8l (hI:r=vL xs (aN ws f j)) (hf:0 < f) (h1:hM ws j=.ok n) (he:vF ws (ws.length+1) n.2=.error c):r=.error c:=by
 obtain ⟨f,rfl⟩:∃k,f=k+1:=⟨f - 1,by omega⟩
 rw [hI,aN,zB h1,zM he];rfl
theorem j8f (hI:r=vL xs (aN ws f j)) (hf:0 < f) (h1:hM ws j=.ok n) (h2:vF ws (ws.length+1) n.2=.ok (l,k)) (hb:¬zC ws k=⟨#[124]⟩):r=.ok (xs++[⟨n.1,l⟩],k):=by
 obtain ⟨f,rfl⟩:∃k,f=k+1:=⟨f - 1,by omega⟩
 rw [hI,aN,zB h1,zB h2,if_pos (show zC ws k≠sBar from hb)];rfl
theorem j4c (hI:r=vL xs (aN ws f j)) (hf:0 < f) (h1:hM ws j=.ok n) (h2:vF ws (ws.length+1) n.2=.ok (l,k)) (hb:zC ws k=⟨#[124]⟩):r=vL (xs++[⟨n.1,l⟩]) (aN ws (f - 1) (k+1)):=by
 obtain ⟨f,rfl⟩:∃k,f=k+1:=⟨f - 1,by omega⟩
 rw [hI,aN,zB h1,zB h2,if_neg (show ¬zC ws k≠sBar from fun h=>h hb),aI,Nat.add_sub_cancel]
end
section
variable {ws:List Bs} {f j:Nat} {xs:List Param} {r:Rd (List Param)} {p:Param×Nat} {y:Unit×Nat} {c:Nat}
theorem j0d (hI:r=vL xs (vP ws f j)) (hf:0 < f) (h:¬zC ws j=⟨#[40]⟩):r=.ok (xs,j):=by
 obtain ⟨f,rfl⟩:∃k,f=k+1:=⟨f - 1,by omega⟩
 rw [hI,vP,if_neg (show ¬zC ws j=aB from h)];simp [vL,yN]
theorem q2z (hI:r=vL xs (vP ws f j)) (hf:0 < f) (h:zC ws j=⟨#[40]⟩) (he:kG ws (j+1)=.error c):r=.error c:=by
 obtain ⟨f,rfl⟩:∃k,f=k+1:=⟨f - 1,by omega⟩
 rw [hI,vP,if_pos (show zC ws j=aB from h),zM he];rfl
theorem q3a (hI:r=vL xs (vP ws f j)) (hf:0 < f) (h:zC ws j=⟨#[40]⟩) (h1:kG ws (j+1)=.ok p) (he:vZ ws ⟨#[41]⟩ p.2=.error c):r=.error c:=by
 obtain ⟨f,rfl⟩:∃k,f=k+1:=⟨f - 1,by omega⟩
 rw [hI,vP,if_pos (show zC ws j=aB from h),zB h1,zM (show vZ ws sCls p.2=_ from he)];rfl
theorem q6q (hI:r=vL xs (vP ws f j)) (hf:0 < f) (h:zC ws j=⟨#[40]⟩) (h1:kG ws (j+1)=.ok p) (h2:vZ ws ⟨#[41]⟩ p.2=.ok y):r=vL (xs++[p.1]) (vP ws (f - 1) y.2):=by
 obtain ⟨f,rfl⟩:∃k,f=k+1:=⟨f - 1,by omega⟩
 rw [hI,vP,if_pos (show zC ws j=aB from h),zB h1,zB (show vZ ws sCls p.2=_ from h2),aI,Nat.add_sub_cancel]
end
theorem q6p {ws:List Bs} {i:Nat} {x:Param×Nat} (h:kG ws i=.ok x):i < x.2∧x.2≤ws.length:=j0b i x h
theorem data_le {ws:List Bs} {i:Nat} {x:Data×Nat} (h:nJ ws i=.ok x):i < x.2∧x.2≤ws.length:=j4f i x h
theorem fun_le {ws:List Bs} {i:Nat} {x:Fun×Nat} (h:aV ws i=.ok x):i < x.2∧x.2≤ws.length:=x0o i x h
end Go.Sw

namespace Go.Sw
open Go.Proofs
theorem gC (p:Nat→Bool) (t:Bs):∀(f i j:Nat),j < yQ p t f i→i+j < t.size∧p (zJ t (i+j))=true
 | 0,i,j,h=>by simp [yQ] at h
 | f+1,i,j,h=>by
  simp only [yQ] at h
  split at h
  ·rename_i h1
   cases j with
   | zero=>exact h1
   | succ j =>
    have:=gC p t f (i+1) j (by omega)
    rw [show i+(j+1)=i+1+j by omega];exact this
  ·omega
theorem q7g (p:Nat→Bool) (t:Bs):∀(f i:Nat),t.size≤i+f→i+yQ p t f i < t.size→p (zJ t (i+yQ p t f i))=false
 | 0,i,h,h2=>by simp only [yQ] at h2 ⊢;omega
 | f+1,i,h,h2=>by
  by_cases h1:i < t.size∧p (zJ t i)=true
  ·have e:yQ p t (f+1) i=yQ p t f (i+1)+1:=by simp only [yQ];rw [if_pos h1]
   rw [e] at h2 ⊢
   have:=q7g p t f (i+1) (by omega) (by omega)
   rw [show i+(yQ p t f (i+1)+1)=i+1+yQ p t f (i+1) by omega];exact this
  ·have e:yQ p t (f+1) i=0:=by simp only [yQ];rw [if_neg h1]
   rw [e] at h2 ⊢
   cases hp:p (zJ t (i+0)) with
   | false=>rfl
   | true=>exact absurd ⟨by omega,hp⟩ h1
theorem byte_eq (b k:UInt8):(b==k)=decide (b.toNat=k.toNat):=by
 rw [Bool.eq_iff_iff];simp [UInt8.toNat_inj]
theorem mK (b:UInt8):([32,10,40,41]:List UInt8).contains b=y5p b.toNat:=by
 simp only [List.contains_cons,List.contains_nil,y5p,byte_eq,Bool.or_false]
 simp [Bool.or_assoc]
theorem z9v {t:Bs} {i j:Nat} (hi:i+j < t.size):(t.extract i t.size).data.toList[j]? = some t[i+j]:=by
 rw [Array.getElem?_toList]
 have h:=ByteArray.data_extract (a:=t) (b:=i) (e:=t.size)
 rw [h,Array.getElem?_extract]
 have:t.data.size=t.size:=rfl
 rw [if_pos (by omega),Array.getElem?_eq_getElem (by omega)]
 rfl
theorem pQ {t:Bs} {i:Nat} (h:i < t.size):zJ t i=t[i].toNat:=by simp [zJ,h]
theorem q4x {t:Bs} {i:Nat} {x:UInt8} {j:Nat} (h:(t.extract i t.size).data.toList[j]? = some x):i+j < t.size:=by
 have h1:=(List.getElem?_eq_some_iff.1 h).1
 have h2:(t.extract i t.size).data.toList.length=(t.extract i t.size).size:=by rw [Array.length_toList];rfl
 have h3:=ByteArray.size_extract (a:=t) (b:=i) (e:=t.size)
 omega
theorem z0j {t:Bs} {i:Nat} (h:i≤t.size):i+qB t i≤t.size:=vQ _ t t.size i h
theorem j3t {t:Bs} {i:Nat} (hi:i≤t.size):Lib.indexAny (t.extract i t.size).data.toList [32,10,40,41]=if i+qB t i < t.size then ((qB t i:Nat):Int) else -1:=by
 have hN:∀n,n≤qB t i→Lib.NoAny (t.extract i t.size).data.toList [32,10,40,41] n:=fun n hn j b hj hb=>by
  have h1:=q4x hb
  rw [z9v h1] at hb
  simp only [Option.some.injEq] at hb
  have h2:=(gC (fun c => !y5p c) t t.size i j (by unfold qB at hn;omega)).2
  rw [mK,← hb,← pQ h1]
  simpa using h2
 split
 ·rename_i h
  have h2:=q7g (fun c => !y5p c) t t.size i (by omega) h
  refine Lib.indexAny_hit (x:=t[i+qB t i]) (hN _ (Nat.le_refl _)) (z9v h) ?_
  rw [mK,← pQ h]
  simpa [qB] using h2
 ·rename_i h
  refine Lib.indexAny_none ?_
  have h1:=z0j hi
  have h2:(t.extract i t.size).data.toList.length=(t.extract i t.size).size:=by rw [Array.length_toList];rfl
  have h3:=ByteArray.size_extract (a:=t) (b:=i) (e:=t.size)
  exact hN _ (by omega)
theorem x3w {t:Bs} {i:Nat} (hi:i≤t.size) (h:(if i+qB t i < t.size then ((qB t i:Nat):Int) else -1) < 0):i+qB t i=t.size:=by
 have:=z0j hi
 split at h <;> omega
theorem x3x {t:Bs} {i:Nat} (h:¬(if i+qB t i < t.size then ((qB t i:Nat):Int) else -1) < 0):(if i+qB t i < t.size then ((qB t i:Nat):Int) else -1)=((qB t i:Nat):Int):=by
 split at h
 ·rename_i h1;rw [if_pos h1]
 ·omega
theorem j7j {t:Bs} {f i:Nat} (h:¬i < t.size):vM t f i=[]:=by cases f with
 | zero=>rfl
 | succ f=>rw [vM,if_neg h]
theorem x3z {t:Bs} {f i:Nat} (h:i < t.size) (hf:t.size≤i+f) (hb:zJ t i=32∨zJ t i=10):vM t f i=vM t (f - 1) (i+1):=by
 obtain ⟨f,rfl⟩:∃k,f=k+1:=⟨f - 1,by omega⟩
 rw [vM,if_pos h,if_pos hb];rfl
theorem j7k {t:Bs} {f i:Nat} (h:i < t.size) (hf:t.size≤i+f) (hn:¬(zJ t i=32∨zJ t i=10)) (hb:zJ t i=40∨zJ t i=41):vM t f i=t.extract i (i+1)::vM t (f - 1) (i+1):=by
 obtain ⟨f,rfl⟩:∃k,f=k+1:=⟨f - 1,by omega⟩
 rw [vM,if_pos h,if_neg hn,if_pos hb];rfl
theorem j1l {t:Bs} {f i:Nat} (h:i < t.size) (hf:t.size≤i+f) (hn:¬(zJ t i=32∨zJ t i=10)) (hb:¬(zJ t i=40∨zJ t i=41)):vM t f i=t.extract i (i+qB t i)::vM t (f - 1) (i+qB t i):=by
 obtain ⟨f,rfl⟩:∃k,f=k+1:=⟨f - 1,by omega⟩
 rw [vM,if_pos h,if_neg hn,if_neg hb];rfl
theorem q7t {t:Bs} {i:Nat} (h:i < t.size) (hn:¬(zJ t i=32∨zJ t i=10)) (hb:¬(zJ t i=40∨zJ t i=41)):0 < qB t i:=by
 unfold qB
 rw [gD,if_pos]
 ·omega
 ·refine ⟨h,?_⟩
  simp only [y5p]
  simp only [not_or] at hn hb
  simp [hn.1,hn.2,hb.1,hb.2]
theorem dC {t:Bs}:∀f i s,s∈vM t f i→s.size≤t.size
 | 0,i,s,h=>by cases h
 | f+1,i,s,h=>by
  have hx:∀a b,(t.extract a b).size≤t.size:=fun a b=>by have:=ByteArray.size_extract (a:=t) (b:=a) (e:=b);omega
  simp only [vM] at h
  split at h
  ·split at h
   ·exact dC f _ s h
   ·split at h
    ·rcases List.mem_cons.1 h with rfl | h
     ·exact hx _ _
     ·exact dC f _ s h
    ·rcases List.mem_cons.1 h with rfl | h
     ·exact hx _ _
     ·exact dC f _ s h
  ·cases h
theorem dB {t:Bs}:∀f i,(vM t f i).length≤f
 | 0,i=>by simp [vM]
 | f+1,i=>by
  simp only [vM]
  split
  ·split
   ·exact Nat.le_succ_of_le (dB f _)
   ·split
    ·simpa using dB f _
    ·simpa using dB f _
  ·simp
theorem j6s {ws:List Bs} {n:Nat} (h:∀s∈ws,s.size≤n) (j:Nat):(zC ws j).size≤n:=by
 unfold zC
 rw [List.getD_eq_getElem?_getD]
 cases hj:ws[j]? with
 | none=>exact Nat.zero_le _
 | some x=>exact h _ (List.mem_of_getElem? hj)
end Go.Sw

namespace Go.Sw
open Go.Proofs.Tryz
open Go.Proofs
set_option maxRecDepth 20000
set_option maxHeartbeats 4000000
variable {Φ:Fz} {K:List Res} {w:World}
theorem wH {r i:Nat} {rs:Value} {ws:List Bs} (rl:SliceOf RStr Φ 1 rs ws) (hws:ws.length≤1000000) (hi:i≤ws.length) (hm:Mem Φ (.blk r (ob [rs,.int .i64 ((i:Nat):Int)] 210)::K) w) :
  Calls prog 179 (List.toArray [.pointer (some ⟨r,0,none⟩)]) w (fun ee w'=>ee=.returned (.string (zC ws i))∧Mem Φ (.blk r (ob [rs,.int .i64 ((i:Nat):Int)] 210)::K) w'):=by
 obtain ⟨pw,cw,rfl,hmw,hnw⟩:=rl.fm
 refine zN func179 ntmps179 fun Q hQ a he =>?_
 refine Reg [1,1,1,2,1,1,1,2,1,1] [0] fun w hm a he =>?_
 by_cases h4:i < ws.length
 refine Reg [1,1,1,2,1,1,1,2,1,2,1] [0] fun w hm a he =>?_
 refine go fun a he =>?_
 obtain ⟨q6,rfl,x7,hx8,cs9,hl10,ha11,hr12⟩:=rl.el hnw h4
 obtain rfl:cs9=[.string x7]:=hr12
 refine zF ?_
 rw [jC hx8];exact ⟨rfl,hm⟩
 refine zF ?_
 rw [x2g h4];exact ⟨rfl,hm⟩
theorem gA {r i:Nat} {rs:Value} {ws:List Bs} (rl:SliceOf RStr Φ 1 rs ws) (hws:ws.length≤1000000) (hi:i≤ws.length) (hm:Mem Φ (.blk r (ob [rs,.int .i64 ((i:Nat):Int)] 210)::K) w) :
  Calls prog 143 (List.toArray [.pointer (some ⟨r,0,none⟩)]) w (fun ee w'=>ee=.panicked (pO (i+1))∧Mem Φ K w'):=by
 obtain ⟨pw,cw,rfl,hmw,hnw⟩:=rl.fm
 refine zN func143 ntmps143 fun Q hQ a he =>?_
 refine qH fun a he =>?_
 refine Qq (fun a he =>?_) (o:=by exact fun he hs=>qD he rfl runUnderlying206 (by intro ms h;cases h))
 refine st0 he rfl rfl (vA he rfl (vB _) (fun a hd=>hQ _ _ _ (yV hd ?_)))
 replace hm:=hm.dl [0]
 exact ⟨rfl,hm⟩
theorem y5k {r i:Nat} {rs:Value} {ws:List Bs} {g:Nat} {fs cs:List Value} {p:Bs→Bool} (hg:∀args w,(callFunc g args).run prog w=.ok (.enter g args) w)
  (hf:∀{w:World} (s:Bs),Mem Φ (.blk r (ob [rs,.int .i64 ((i:Nat):Int)] 210)::K) w→Calls prog g (fs++[Value.string s]++cs).toArray w (fun ee w'=>ee=.returned (.bool (p s))∧Mem Φ (.blk r (ob [rs,.int .i64 ((i:Nat):Int)] 210)::K) w')) (rl:SliceOf RStr Φ 1 rs ws) (hws:ws.length≤1000000) (hi:i≤ws.length) (hm:Mem Φ (.blk r (ob [rs,.int .i64 ((i:Nat):Int)] 210)::K) w) :
  Calls prog 181 (List.toArray [.pointer (some ⟨r,0,none⟩),.func (.func g) fs.toArray cs.toArray]) w (fun ee w'=>Out (pA ws p i) (fun x=>ee=.returned (.string x.1)∧Mem Φ (.blk r (ob [rs,.int .i64 ((x.2:Nat):Int)] 210)::K) w') (fun c=>ee=.panicked (pO c)∧Mem Φ K w')):=by
 obtain ⟨pw,cw,rfl,hmw,hnw⟩:=rl.fm
 refine zN func181 ntmps181 fun Q hQ a he =>?_
 refine zT call179 (fun w hm a he =>?_) (c:=wH (i:=i) rl hws (by omega) hm)
 by_cases h5:(zC ws i)=(⟨#[]⟩:ByteArray)
 refine go fun a he =>?_
 refine st he rfl rfl rfl (aG he rfl call143 (gA (i:=i) rl hws (by omega) hm) (fun w hm=>fun a hd=>hQ _ _ _ (yV hd ?_)))
 show Out (pA ws p i) _ _
 rw [x3n h5];exact ⟨rfl,hm⟩
 refine q1r hg (fun hB6 w hm a he =>?_) (fun hB6 w hm a he =>?_) (c:=by exact hf _ hm)
 have hlt_:=kU h5
 refine Sto 0 fun w hm a he =>?_
 refine zF ?_
 show Out (pA ws p i) _ _
 rw [y5z h5 hB6];exact ⟨rfl,hm⟩
 refine go fun a he =>?_
 refine st he rfl rfl rfl (aG he rfl call143 (gA (i:=i) rl hws (by omega) hm) (fun w hm=>fun a hd=>hQ _ _ _ (yV hd ?_)))
 show Out (pA ws p i) _ _
 rw [j7d hB6];exact ⟨rfl,hm⟩
theorem x1x {b:Nat} {s x:Bs} (hm:Mem Φ (.blk b (ob [.string x] 9)::K) w) :
  Calls prog 191 (List.toArray [.string s,.pointer (some ⟨b,0,none⟩)]) w (fun ee w'=>ee=.returned (.bool (decide (s=x)))∧Mem Φ (.blk b (ob [.string x] 9)::K) w'):=by
 refine zN func191 ntmps191 fun Q hQ a he =>?_
 refine Qq (fun a he =>?_) (o:=by exact fun he hs=>z8x he rfl rfl)
 refine zF ?_
 exact ⟨rfl,hm⟩
theorem kM {r i:Nat} {rs:Value} {ws:List Bs} {x:Bs} (rl:SliceOf RStr Φ 1 rs ws) (hws:ws.length≤1000000) (hi:i≤ws.length) (hm:Mem Φ (.blk r (ob [rs,.int .i64 ((i:Nat):Int)] 210)::K) w) :
  Calls prog 178 (List.toArray [.pointer (some ⟨r,0,none⟩),.string x]) w (fun ee w'=>Out (vZ ws x i) (fun x=>ee=.returned (.tuple #[])∧Mem Φ (.blk r (ob [rs,.int .i64 ((x.2:Nat):Int)] 210)::K) w') (fun c=>ee=.panicked (pO c)∧Mem Φ K w')):=by
 obtain ⟨pw,cw,rfl,hmw,hnw⟩:=rl.fm
 refine zN func178 ntmps178 fun Q hQ a he =>?_
 refine Bx fun b2 w hm a he =>?_
 replace hm:=hm.ar [] [1,1,1]
 refine qT call181 (fun q3 w hq4 hm a he =>?_) (fun q3 w hq4 hm =>?_) (c:=y5k (p:=fun s=>decide (s=x)) (fs:=[]) (cs:=[.pointer (some ⟨b2,0,none⟩)]) call191 (fun s hm=>(x1x (hm.pull (i:=1) rfl)).mono fun _ _ h=>⟨h.1,h.2.pull (i:=1) rfl⟩) (i:=i) rl hws (by omega) hm)
 have hleq3:=jJ hq4
 refine go fun a he =>?_
 replace hm:=hm.dl [1]
 refine hQ _ _ _ (q0t he results178 ?_)
 show Out (vZ ws x i) _ _
 rw [x1y hq4];exact ⟨rfl,hm⟩
 replace hm:=hm.dl [0]
 show Out (vZ ws x i) _ _
 rw [j6a hq4];exact ⟨rfl,hm⟩
theorem cZ {r i:Nat} {rs:Value} {ws:List Bs} (G:Glob Φ) (rl:SliceOf RStr Φ 1 rs ws) (hws:ws.length≤1000000) (hi:i≤ws.length) (hm:Mem Φ (.blk r (ob [rs,.int .i64 ((i:Nat):Int)] 210)::K) w) :
  Calls prog 177 (List.toArray [.pointer (some ⟨r,0,none⟩)]) w (fun ee w'=>Out (hM ws i) (fun x=>ee=.returned (.string x.1)∧Mem Φ (.blk r (ob [rs,.int .i64 ((x.2:Nat):Int)] 210)::K) w') (fun c=>ee=.panicked (pO c)∧Mem Φ K w')):=by
 obtain ⟨pw,cw,rfl,hmw,hnw⟩:=rl.fm
 refine zN func177 ntmps177 fun Q hQ a he =>?_
 refine qT call181 (fun q3 w hq4 hm a he =>?_) (fun q3 w hq4 hm =>?_) (c:=y5k (p:=qC) (fs:=[]) (cs:=[]) call158 (fun s hm=>wG G hm) (i:=i) rl hws (by omega) hm)
 have hleq3:=jJ hq4
 refine zF ?_
 show Out (hM ws i) _ _
 rw [show hM ws i=.ok q3 from hq4];exact ⟨rfl,hm⟩
 show Out (hM ws i) _ _
 rw [show hM ws i=_ from hq4];exact ⟨rfl,hm⟩
theorem mJ {r i:Nat} {rs:Value} {ws:List Bs} (G:Glob Φ) (rl:SliceOf RStr Φ 1 rs ws) (hws:ws.length≤1000000) (hi:i≤ws.length) (hm:Mem Φ (.blk r (ob [rs,.int .i64 ((i:Nat):Int)] 210)::K) w) :
  Calls prog 142 (List.toArray [.pointer (some ⟨r,0,none⟩)]) w (fun ee w'=>Out (mI ws i) (fun x=>ee=.returned (.string x.1)∧Mem Φ (.blk r (ob [rs,.int .i64 ((x.2:Nat):Int)] 210)::K) w') (fun c=>ee=.panicked (pO c)∧Mem Φ K w')):=by
 obtain ⟨pw,cw,rfl,hmw,hnw⟩:=rl.fm
 refine zN func142 ntmps142 fun Q hQ a he =>?_
 refine qT call181 (fun q3 w hq4 hm a he =>?_) (fun q3 w hq4 hm =>?_) (c:=y5k (p:=yU) (fs:=[]) (cs:=[]) call161 (fun s hm=>dO G hm) (i:=i) rl hws (by omega) hm)
 have hleq3:=jJ hq4
 refine zF ?_
 show Out (mI ws i) _ _
 rw [show mI ws i=.ok q3 from hq4];exact ⟨rfl,hm⟩
 show Out (mI ws i) _ _
 rw [show mI ws i=_ from hq4];exact ⟨rfl,hm⟩
theorem q9i {s:Bs} (hs:s.size≤1000000) (G:Glob Φ) (hm:Mem Φ K w) :
  Calls prog 192 (List.toArray [.string s]) w (fun ee w'=>∃y:Int,ee=.returned (.tuple (List.toArray [.int .i64 y,.bool (dG s).isSome]))∧(∀v,dG s=some v→y=v)∧Mem Φ K w'):=by
 refine zN func192 ntmps192 fun Q hQ a he =>?_
 refine go fun a he =>?_
 refine st he rfl rfl rfl (y9c he rfl call203 (j1w (by exact hs) G hm) (fun q3 w hq5 hm a he =>?_) (fun q3 y4 w hq5 hm a he =>?_))
 replace hm:=hm.nf
 refine Qq (fun a he =>?_) (o:=by exact fun he hs=>pX (v:=.bool true) he rfl rfl rfl (by kernel_rfl))
 refine zT call99 (fun w hm a he =>?_) (c:=q2p (z9b hq5) G.tabs hm)
 refine Qq (fun a he =>?_) (o:=by exact fun he hs=>z8x he rfl rfl)
 refine vE ?_
 by_cases hd_:nS q3=s
 rw [j5k hq5 hd_,decide_eq_true hd_];exact ⟨_,rfl,(fun v h=>by injection h),hm⟩
 rw [intP_ne hq5 hd_,decide_eq_false hd_];exact ⟨_,rfl,(fun v h=>by cases h),hm⟩
 replace hm:=hm.nf
 refine Qq (fun a he =>?_) (o:=by exact fun he hs=>pX (v:=.bool false) he rfl rfl rfl (by kernel_rfl))
 refine vE ?_
 rw [x1i hq5];exact ⟨_,rfl,(fun v h=>by cases h),hm⟩
end Go.Sw

namespace Go.Sw
open Go.Proofs.Tryz
open Go.Proofs
set_option maxRecDepth 20000
set_option maxHeartbeats 4000000
theorem j3d {Φ:Fz} {K:List Res} {w:World} {r i:Nat} {rs:Value} {ws:List Bs} {d:Nat} (hd:d≤1000) (hE:gI ws d) (G:Glob Φ) (rl:SliceOf RStr Φ 1 rs ws) (hws:ws.length≤1000000) (hi:i≤ws.length) (hm:Mem Φ (.blk r (ob [rs,.int .i64 ((i:Nat):Int)] 210)::K) w) :
  Calls prog 204 (List.toArray [.pointer (some ⟨r,0,none⟩),.int .i64 ((d+1:Nat):Int)]) w (fun ee w'=>Out (z3b (zR ws d) i) (fun x=>∃y:Fz×Value,ee=.returned y.2∧(Φ.Le y.1∧SliceOf REx y.1 5 y.2 x.1)∧Mem y.1 (.blk r (ob [rs,.int .i64 ((x.2:Nat):Int)] 210)::K) w') (fun c=>ee=.panicked (pO c)∧Mem Φ K w')):=by
 obtain ⟨pw,cw,rfl,hmw,hnw⟩:=rl.fm
 refine zN func204 ntmps204 fun Q hQ a he =>?_
 refine Qq (fun a he =>?_) (o:=by exact fun he hs=>pE ((d:Nat):Int) he rfl rfl (by rw [xH (by omega)];omega))
 refine aL call180 (fun q3 y4 w hq5 hG6 hm a he =>?_) (fun q3 w hq5 hm =>?_) (c:=hE G rl (i:=i) (by omega) hm)
 obtain ⟨Ψ7,d8⟩:=y4
 obtain ⟨le9,hr10⟩:=hG6
 simp only at le9 hr10 hm he
 have hgo11:=xP d _ _ hq5
 replace rl:=rl.up le9
 replace G:=G.mono le9
 replace hm:=hm.nf
 obtain ⟨p14,c15,p20,c21,rfl,hi24,h13,h19,hm16,hn17,hm22,hn23⟩:=REx.fm hr10
 refine Alc fun b25 w hm a he =>?_
 refine Sto 0 fun w hm a he =>?_
 refine Reg [2,1,1,1,0,0,1] [0] fun w hm a he =>?_
 refine Qq (fun a he =>?_) (o:=by exact fun he hs=>pE ((d:Nat):Int) he rfl rfl (by rw [xH (by omega)];omega))
 replace hm:=hm.pl 1
 refine aL call180 (fun q27 y28 w hq29 hG30 hm a he =>?_) (fun q27 w hq29 hm =>?_) (c:=hE G rl (i:=q3.2) (by omega) hm)
 obtain ⟨Ψ31,d32⟩:=y28
 obtain ⟨le33,hr34⟩:=hG30
 simp only at le33 hr34 hm he
 have hgo35:=xP d _ _ hq29
 replace G:=G.mono le33
 replace hr10:=REx.mono _ _ _ _ le33 hr10
 replace hm:=hm.nf
 obtain ⟨p38,c39,p44,c45,rfl,hi48,h37,h43,hm40,hn41,hm46,hn47⟩:=REx.fm hr34
 refine kW fun v49 w hm a he =>?_
 refine go fun a he =>?_
 have hm0_:=hm
 clear hm
 obtain ⟨Ψ50,le51,hm,hrow52⟩:=hm0_.freezeRow (i:=0) rfl
 clear hm0_
 replace G:=G.mono le51
 replace hr10:=REx.mono _ _ _ _ le51 hr10
 replace hr34:=REx.mono _ _ _ _ le51 hr34
 replace hm:=hm.nf
 have hsl53:SliceOf REx Ψ50 5 _ ([q3.1,q27.1]):=⟨_,hrow52,(Chunks.two (k:=5) rfl hr10 rfl hr34 :)⟩
 obtain ⟨p54,c55,hv_,hm56,hn57⟩:=hsl53.form (by decide)
 have hmk_:=hm
 clear hm
 subst hv_
 have hm:=hmk_
 clear hmk_
 replace hm:=hm.dl [1]
 refine zF ?_
 show Out (z3b (zR ws d) i) _ _
 rw [show z3b (zR ws d) i=.ok ([q3.1,q27.1],q27.2) from (zB hq5).trans ((zB hq29).trans (rfl))]
 exact ⟨(Ψ50,_),rfl,⟨((le9).trans le33).trans le51,hsl53⟩,hm⟩
 replace hm:=hm.dl [0]
 show Out (z3b (zR ws d) i) _ _
 rw [show z3b (zR ws d) i=.error _ from (zB hq5).trans (zM hq29)]
 exact ⟨rfl,hm.le (le9)⟩
 show Out (z3b (zR ws d) i) _ _
 rw [show z3b (zR ws d) i=.error _ from zM hq5]
 exact ⟨rfl,hm.le (Fz.Le.refl _)⟩
theorem q7d {Φ:Fz} {K:List Res} {w:World} {r i:Nat} {rs:Value} {ws:List Bs} {m:Nat} {d:Nat} (hd:d≤1000) (hE:gI ws d) (G:Glob Φ) (rl:SliceOf RStr Φ 1 rs ws) (hws:ws.length≤1000000) (hi:i≤ws.length) (hm:Mem Φ (.blk r (ob [rs,.int .i64 ((i:Nat):Int)] 210)::K) w) :
  Calls prog 205 (List.toArray [.pointer (some ⟨r,0,none⟩),.int .i64 ((m:Nat):Int),.int .i64 ((d+1:Nat):Int)]) w (fun ee w'=>Out (vU ws (zR ws d) (ws.length+1) m i) (fun x=>∃y:Fz×Value,ee=.returned y.2∧(Φ.Le y.1∧SliceOf REx y.1 5 y.2 x.1)∧Mem y.1 (.blk r (ob [rs,.int .i64 ((x.2:Nat):Int)] 210)::K) w') (fun c=>ee=.panicked (pO c)∧Mem Φ K w')):=by
 obtain ⟨pw,cw,rfl,hmw,hnw⟩:=rl.fm
 refine zN func205 ntmps205 fun Q hQ a he =>?_
 refine go fun a he =>?_
 replace hm:=hm.nilRow 110 5
 replace hm:=hm.nf
 refine yG (he.ks [0,1,2]) hm (fun R mm a w=>∃(Ψ4:Fz) (j:Nat) (u:Value) (cs:List Value) (xs:List Ex) (f:Nat),mm=ws.length - j∧R Ψ4 [(7,u)] [(0,.gs (u) 110 5 cs),(1,.blk r (ob [.slice pw ws.length cw,.int .i64 ((j:Nat):Int)] 210))] a w∧(Φ.Le Ψ4∧(Chunks (REx Ψ4) 5 cs xs∧xs.length≤j∧j≤ws.length∧xs.length+f=ws.length+1∧vU ws (zR ws d) (ws.length+1) m i=vL xs (vU ws (zR ws d) f (m - xs.length) j)))) (ws.length - i) ⟨Φ,i,.slice none 0 0,[],[],ws.length+1,rfl,⟨he.pk,hm⟩,⟨Fz.Le.refl _,⟨rfl,Nat.zero_le _,hi,Nat.zero_add _,cC _⟩⟩⟩ ?_
 clear hm he
 rintro mm a w ⟨Ψ4,j,u,cs,xs,f,hmu,⟨he,hm⟩,hI7⟩ L6 hL6
 replace hm:=hm.nf
 obtain ⟨le5,hI7⟩:=hI7
 replace rl:=rl.up le5
 replace G:=G.mono le5
 obtain ⟨hch,hxl,hj,hf_,hI_⟩:=hI7
 refine Qq (fun a he =>?_) (o:=by exact fun he hs=>q7y 0 (xs.length) he hs rfl rfl (hch.length) (by decide) runUnderlying107)
 refine go fun a he =>?_
 by_cases h10:xs.length < m
 refine Qq (fun a he =>?_) (o:=by exact fun he hs=>pE ((d:Nat):Int) he rfl rfl (by rw [xH (by omega)];omega))
 replace hm:=hm.pl 1
 refine aL call180 (fun q11 y12 w hq13 hG14 hm a he =>?_) (fun q11 w hq13 hm =>?_) (c:=hE G rl (i:=j) (by omega) hm)
 obtain ⟨Ψ15,d16⟩:=y12
 obtain ⟨le17,hr18⟩:=hG14
 simp only at le17 hr18 hm he
 have hgo19:=xP d _ _ hq13
 replace rl:=rl.up le17
 replace G:=G.mono le17
 replace hch:=hch.mono fun _ _ h=>REx.mono _ _ _ _ le17 h
 replace hm:=hm.nf
 obtain ⟨p22,c23,p28,c29,rfl,hi32,h21,h27,hm24,hn25,hm30,hn31⟩:=REx.fm hr18
 refine kW fun v33 w hm a he =>?_
 refine wL 2 rt_107 (fun v34 w hm a he =>?_)
 refine go fun a he =>?_
 replace hm:=hm.ar [0] [1]
 refine hL6 _ _ _ (by subst hmu;omega) ⟨(Ψ15),(q11.2),(v34),((cs++[.int .i64 (q11.1.kind),.int .i64 (q11.1.num),.string q11.1.name,.slice p22 q11.1.args.length c23,.slice p28 q11.1.arms.length c29])),(xs++[q11.1]),(f - 1),rfl,⟨he.pk,by exact hm⟩,?_⟩
 refine ⟨(le5).trans le17,?_⟩
 exact ⟨hch.snoc rfl hr18,by simp only [List.length_append,List.length_cons,List.length_nil];omega,by omega,by simp only [List.length_append,List.length_cons,List.length_nil];omega,q0b hI_ (by omega) (.inl h10) hq13⟩
 replace hm:=hm.dl [0]
 show Out (vU ws (zR ws d) (ws.length+1) m i) _ _
 rw [show vU ws (zR ws d) (ws.length+1) m i=.error _ from q0a hI_ (by omega) (.inl h10) hq13]
 exact ⟨rfl,hm.le (le5)⟩
 replace hm:=hm.pl 1
 refine zT call179 (fun w hm a he =>?_) (c:=wH (i:=j) rl hws (by omega) hm)
 by_cases h35:(zC ws j)=(⟨#[41]⟩:ByteArray)
 refine go fun a he =>?_
 have hm0_:=hm
 clear hm
 obtain ⟨Ψ37,le38,hm,hrow39⟩:=hm0_.freezeRow (i:=1) rfl
 clear hm0_
 replace rl:=rl.up le38
 replace G:=G.mono le38
 replace hch:=hch.mono fun _ _ h=>REx.mono _ _ _ _ le38 h
 replace hm:=hm.nf
 have hsl40:SliceOf REx Ψ37 5 _ (xs):=⟨_,hrow39,hch⟩
 obtain ⟨p41,c42,hv_,hm43,hn44⟩:=hsl40.form (by decide)
 have hmk_:=hm
 clear hm
 subst hv_
 have hm:=hmk_
 clear hmk_
 refine zF ?_
 show Out (vU ws (zR ws d) (ws.length+1) m i) _ _
 rw [show vU ws (zR ws d) (ws.length+1) m i=.ok (xs,j) from x1n hI_ (by omega) h10 h35]
 exact ⟨(Ψ37,_),rfl,⟨(le5).trans le38,hsl40⟩,hm⟩
 refine Qq (fun a he =>?_) (o:=by exact fun he hs=>pE ((d:Nat):Int) he rfl rfl (by rw [xH (by omega)];omega))
 refine aL call180 (fun q45 y46 w hq47 hG48 hm a he =>?_) (fun q45 w hq47 hm =>?_) (c:=hE G rl (i:=j) (by omega) hm)
 obtain ⟨Ψ49,d50⟩:=y46
 obtain ⟨le51,hr52⟩:=hG48
 simp only at le51 hr52 hm he
 have hgo53:=xP d _ _ hq47
 replace G:=G.mono le51
 replace hch:=hch.mono fun _ _ h=>REx.mono _ _ _ _ le51 h
 replace hm:=hm.nf
 obtain ⟨p56,c57,p62,c63,rfl,hi66,h55,h61,hm58,hn59,hm64,hn65⟩:=REx.fm hr52
 refine kW fun v67 w hm a he =>?_
 refine wL 2 rt_107 (fun v68 w hm a he =>?_)
 refine go fun a he =>?_
 replace hm:=hm.ar [0] [1]
 refine hL6 _ _ _ (by subst hmu;omega) ⟨(Ψ49),(q45.2),(v68),((cs++[.int .i64 (q45.1.kind),.int .i64 (q45.1.num),.string q45.1.name,.slice p56 q45.1.args.length c57,.slice p62 q45.1.arms.length c63])),(xs++[q45.1]),(f - 1),rfl,⟨he.pk,by exact hm⟩,?_⟩
 refine ⟨(le5).trans le51,?_⟩
 exact ⟨hch.snoc rfl hr52,by simp only [List.length_append,List.length_cons,List.length_nil];omega,by omega,by simp only [List.length_append,List.length_cons,List.length_nil];omega,q0b hI_ (by omega) (.inr h35) hq47⟩
 replace hm:=hm.dl [0]
 show Out (vU ws (zR ws d) (ws.length+1) m i) _ _
 rw [show vU ws (zR ws d) (ws.length+1) m i=.error _ from q0a hI_ (by omega) (.inr h35) hq47]
 exact ⟨rfl,hm.le (le5)⟩
end Go.Sw
