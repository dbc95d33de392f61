import Derived.Lib.ItoaLen
import Derived.Lib.SplitLaws
import Derived.Test.YtgkhcfjooiekkaaGreatDoorX04
set_option linter.unusedVariables false
set_option linter.unusedSimpArgs false
namespace Go.Sw
open Go.Proofs Go.Proofs.Tryz
set_option maxRecDepth 20000
set_option maxHeartbeats 4000000
theorem Mem.below {V:Fz} {K:List Res} {w w':World} (N:Mem V K w) (h:RowKit.Below w.heap.size w w'):Mem V K w':=by
 have a:Mem V (.gs (.slice none 0 0) 0 0 []::K) w':=N.more (r:=.gs (.slice none 0 0) 0 0 []) h.os h.output (fun b hb=>h.block b hb) ⟨0,World.ownsRow_nil w' 0 0 0⟩ (fun b hb=>by cases hb)
 exact a.del 0
theorem q4k {V:Fz} {K:List Res} {w:World} {n:Int} (h:I64 n) (G:Tabs V) (N:Mem V K w) :
  Calls prog 122 #[.int .i64 n] w (fun ee w'=>ee=.returned (.string (mC n))/\Mem V K w'):=by
 refine (Tryz.strconv_Itoa n (by have:=h;unfold I64 at this;omega) (by have:=h;unfold I64 at this;omega) w (G w ⟨N.fz,by simp⟩)).mono fun e w' J=>?_
 obtain ⟨rfl,k,os,rfl⟩:=J
 refine ⟨rfl,N.below ⟨rfl,rfl,rfl,by simp [Go.Sort.grow,World.drewN],fun b hb=>?_⟩⟩
 simp only [Go.Sort.grow,World.drewN]
 rw [Array.getElem?_append_left hb]
theorem At.cell {V:Fz} {K:List Res} {w:World} {g:Nat} {v:Value} (h:At V ⟨g,0,none⟩ [v]) (N:Mem V K w):w.cell? ⟨g,0,none⟩=some v:=by
 obtain ⟨arr,T,fr,h1,h2⟩:=h.ex
 have a:=N.fz _ _ h1
 have b:=h2 0 v rfl
 simp only [World.cell?,a]
 simpa using b
theorem z6o (old new:List UInt8):∀(k:Nat) (s:List UInt8),(Lib.replaceK old new k s).length<=s.length+k * new.length
 | 0,s=>by simp [Lib.replaceK]
 | k+1,s=>by
  unfold Lib.replaceK
  split
  ·omega
  ·have h:=z6o old new k (s.drop ((Lib.index s old).toNat+old.length))
   simp only [laQ,List.length_take,List.length_drop,Nat.add_mul] at h ⊢
   omega
theorem j3o (s old new:Bs):(y6p s old new).size<=s.size+new.size:=by
 have a:∀b:Bs,b.data.toList.length=b.size:=fun b=>by rw [Array.length_toList];rfl
 show (Lib.replace s.data.toList old.data.toList new.data.toList 1).toArray.size<=_
 rw [List.size_toArray,<- a s,<- a new]
 unfold Lib.replace
 split
 ·omega
 ·have h:=z6o old.data.toList new.data.toList (Lib.replaceNum s.data.toList old.data.toList 1) s.data.toList
  have h2:Lib.replaceNum s.data.toList old.data.toList 1<=1:=by unfold Lib.replaceNum;split <;> omega
  have:=Nat.mul_le_mul_right new.data.toList.length h2
  omega
theorem j2j {n:Int} (h:I64 n):(mC n).size<=21:=by
 show (Lib.itoa n).toArray.size<=_
 rw [List.size_toArray]
 exact Lib.itoa_length_le n (by have:=h;unfold I64 at this;omega) (by have:=h;unfold I64 at this;omega)
theorem y6q {V:Fz} {K:List Res} {w:World} {s old new:Bs} (O:s.size<=1000000) (h1:1<=old.size) (b:new.size=1) (G:Glob V) (N:Mem V K w) :
  Calls prog 262 #[.string s,.string old,.string new,.int .i64 ((1:Nat):Int)] w (fun ee w'=>ee=.returned (.string (y6p s old new))/\Mem V K w'):=by
 obtain ⟨m,a⟩:=G.maxLen
 have c:=Lib.countB_le old h1 s.size s (Nat.le_refl _)
 refine (Tryz.strings_Replace s old new 1 m w (by omega) (a.cell N) h1 (by rw [b];omega)).mono fun e w' J=>⟨J.1,N.below J.2⟩
theorem j5o {V:Fz} {K:List Res} {w:World} {s:Bs} (O:s.size<=1000000) (G:Glob V) (N:Mem V K w) :
  Calls prog 217 #[.string s] w (fun ee w'=>Out (oZ s) (fun v=>ee=.returned (.tuple #[.int .i64 v,.nilIface])/\Mem V K w')
   (fun _=>∃y:Int×Nat,ee=.returned (.tuple #[.int .i64 y.1,.iface 309 (.pointer (some ⟨y.2,0,none⟩))])/\Mem V K w')):=by
 have hbelow:∀w':World,(w'=w∨∃t,w'=Lib.bytesWorld w 5 t)->Mem V K w':=fun w' h=>by
  rcases h with rfl | ⟨t,rfl⟩
  ·exact N
  ·exact N.below (Lib.bytesWorld_below w 5 t)
 unfold oZ
 cases h:Lib.atoiAll s.data.toList
 ·exact (Any.strconv_Atoi_ok Tryz.laysC172 s (by omega) _ h w).mono fun e w' J=>⟨J.1,hbelow w' J.2⟩
 ·obtain ⟨ev,h1,h2⟩:=G.err4
  exact (Any.strconv_Atoi_syntax Tryz.laysC172 s (by omega) h ev w (h1.cell N) h2).mono fun e w' ⟨NN,a,_,_,b⟩=>⟨(_,NN),a,N.below b⟩
 ·obtain ⟨ev,h1,h2⟩:=G.err5
  exact (Any.strconv_Atoi_range Tryz.laysC172 s (by omega) h ev w (h1.cell N) h2).mono fun e w' ⟨NN,a,_,_,b⟩=>⟨(_,NN),a,N.below b⟩
theorem uC {V:Fz} {K:List Res} {w:World} {s:Bs} {c:Nat} (N:Mem V K w) :
  Calls prog 213 #[.string s,.int .u8 c] w (fun ee w'=>ee=.returned (.int .i64 (Lib.indexByte s.data.toList ((c:Int)).toNat.toUInt8))/\Mem V K w'):=by
 exact (Tryz.strings_IndexByte s c w).mono fun e w' J=>by obtain ⟨h1,rfl⟩:=J;exact ⟨h1,N⟩
theorem j0v {P:Program} {n:Nat} {E:List (Nat×Value)} {D:List Deferred} {a:Act} {w:World} {ty:TypeId} (i m:Nat) {x ix:Operand} {t e:TypeId} {kk:IntKind} {cs:List Value} {s:Bs} (J:EnvR n E D a) (h:ev E x=some (.agg cs.toArray))
  (f:ev E ix=some (.int kk (i:Int))) (g:Under P t (.array m e)) (O:SizeT P e 1) (d:Scalar P e) (hl:cs.length=m) (c:cs[i]? = some (.string s)):Ok P a (.index t x ix) ty w (.string s):=fun _ _ _ _=>by
 have b:i < m:=by rw [<- hl];exact (List.getElem?_eq_some_iff.1 c).1
 simp only [execOp,J.ev h,J.ev f]
 have h2:cs[i]'(by rw [hl];exact b)=.string s:=(List.getElem?_eq_some_iff.1 c).2
 simp [Instr.index,asIntOf,Sem.run_bind,g w,O w,Result.andThen,b]
 simp [part,Sem.run_bind,d w,Result.andThen,c]
theorem q0p {P:Program} {n:Nat} {E:List (Nat×Value)} {D:List Deferred} {a:Act} {w:World} {Kn:Value->World->Prop} {Qp:List PanicEntry->World->Prop} {dst:Option Tmp} {ty:TypeId} {pos:String} {aft:Array Edge} {g:Option (Nat×Bool)}
  {α β ε:Type} {f:FuncId} {xs:Array Operand} {ts:Array TypeId} {vs:List Value} {r:Except ε α} {X:α->Value} {Z:ε->β->Value} {b d:Fz} {KO:α->List Res} {KE:ε->β->List Res}
  (J:EnvR n E D a) (l:evs E xs.toList=some vs) (j:∀args w,(callFunc f args).run P w=.ok (.enter f args) w)
  (i:Calls P f vs.toArray w (fun e w'=>Out r (fun x=>e=.returned (X x)/\Mem b (KO x) w') (fun c=>∃y,e=.returned (Z c y)/\Mem d (KE c y) w')))
  (k:∀x w',r=.ok x->Mem b (KO x) w'->Kn (X x) w') (kp:∀c y w',r=.error c->Mem d (KE c y) w'->Kn (Z c y) w') :
  Oper.eff P ⟨dst,.call { callee:=.value (.func f),args:=xs,argTypes:=ts },ty,pos,aft,g⟩ a w Kn Qp:=by
 refine aD J l j i (fun v w' h=>?_) (fun c w' h=>?_) (fun w' h=>?_)
 ·cases r with
  | ok x=>obtain ⟨h1,h2⟩:=h;cases h1;exact k _ _ rfl h2
  | error c=>obtain ⟨y,h1,h2⟩:=h;cases h1;exact kp _ _ _ rfl h2
 ·cases r with
  | ok x=>obtain ⟨h1,_⟩:=h;cases h1
  | error c=>obtain ⟨y,h1,_⟩:=h;cases h1
 ·cases r with
  | ok x=>obtain ⟨h1,_⟩:=h;cases h1
  | error c=>obtain ⟨y,h1,_⟩:=h;cases h1
def q4s (s:Bs):Int:=(uK s).getD 0
def y5r (s:Bs):Int:=match uK s with | some _=>0 | none=>13
theorem num_ok {s:Bs} {v:Int} (h:oZ (y6p s ⟨#[126]⟩ ⟨#[45]⟩)=.ok v) (a:z5q v=s):q4s s=v/\y5r s=0:=by
 simp [q4s,y5r,uK,h,a]
theorem num_no {s:Bs} {v:Int} (h:oZ (y6p s ⟨#[126]⟩ ⟨#[45]⟩)=.ok v) (a:¬z5q v=s):q4s s=0/\y5r s=13:=by
 simp [q4s,y5r,uK,h,a]
theorem num_err {s:Bs} {u:Unit} (h:oZ (y6p s ⟨#[126]⟩ ⟨#[45]⟩)=.error u):q4s s=0/\y5r s=13:=by
 simp [q4s,y5r,uK,h]
theorem y2d {s:Bs} {v:Int} (h:oZ s=.ok v):I64 v:=by
 unfold oZ at h
 unfold Lib.atoiAll at h
 split at h
 ·rename_i v' h2
  simp only [Except.ok.injEq] at h
  subst h
  split at h2
  ·cases h2
  ·simp only at h2
   split at h2
   ·cases h2
   ·cases h2
   ·split at h2
    ·cases h2
    ·split at h2
     ·cases h2
     ·rename_i b c
      simp only [Lib.NumEnd.ok.injEq] at h2
      subst h2
      unfold I64
      split <;> rename_i a
      ·simp only [a,true_and] at c;omega
      ·simp only [a,not_false_eq_true,true_and] at b;omega
 ·cases h
theorem pV (t:Bs) (i:Nat):zC t i < 256:=by
 unfold zC;split
 ·exact UInt8.toNat_lt _
 ·decide
theorem y1s {n:Nat} (h:n < 256):(n.toUInt8).toNat=n:=by simp [Nat.toUInt8,UInt8.toNat_ofNat,Nat.mod_eq_of_lt h]
section
variable {V:Fz} {K:List Res} {w:World} {n:Nat}
theorem q7v (h:n < 256) (N:Mem V K w):Calls prog 253 #[.int .u8 n] w (fun ee w'=>ee=.returned (.bool (yN n))/\Mem V K w'):=by
 have:=z8l (c:=n.toUInt8) N;rwa [y1s h] at this
theorem x0a (h:n < 256) (N:Mem V K w):Calls prog 247 #[.int .u8 n] w (fun ee w'=>ee=.returned (.bool (yD n))/\Mem V K w'):=by
 have:=oL (c:=n.toUInt8) N;rwa [y1s h] at this
theorem q1d (h:n < 256) (N:Mem V K w):Calls prog 249 #[.int .u8 n] w (fun ee w'=>ee=.returned (.bool (qK n))/\Mem V K w'):=by
 have:=y5c (c:=n.toUInt8) N;rwa [y1s h] at this
theorem x0b (h:n < 256) (N:Mem V K w):Calls prog 251 #[.int .u8 n] w (fun ee w'=>ee=.returned (.bool (qT n))/\Mem V K w'):=by
 have:=y5b (c:=n.toUInt8) N;rwa [y1s h] at this
end
theorem q2v:wordsL.length=15:=rfl
theorem x1z {i:Nat} {x:Bs} (h:wordsL[i]? = some x):nX (wordsM.take i) x (.int .i64 ((5:Nat):Int))=wordsM.take (i+1):=by
 have a:i < 15:=by have:=(List.getElem?_eq_some_iff.1 h).1;rwa [q2v] at this
 have b:x=wordsL[i]'(by rw [q2v];exact a):=(List.getElem?_eq_some_iff.1 h).2.symm
 subst b
 match i,a with
 | 0,_=>rfl
 | 1,_=>rfl
 | 2,_=>rfl
 | 3,_=>rfl
 | 4,_=>rfl
 | 5,_=>rfl
 | 6,_=>rfl
 | 7,_=>rfl
 | 8,_=>rfl
 | 9,_=>rfl
 | 10,_=>rfl
 | 11,_=>rfl
 | 12,_=>rfl
 | 13,_=>rfl
 | 14,_=>rfl
theorem j4v {i:Nat} (h:¬i < 15):wordsM.take i=wordsM:=List.take_of_length_le (by show 15<=i;omega)
theorem q8x {V:Fz} {K:List Res} {w:World} {t:Bs} {pos:Nat} {b:Nat} {rest:List Value} {a:TypeId} (c:pos<=1000000000) (N:Mem V (.blk b (ob (.string t::.int .i64 pos::rest) a)::K) w) :
  Calls prog 246 #[.pointer (some ⟨b,0,none⟩),.int .i64 ((0:Nat):Int)] w (fun ee w'=>ee=.returned (.int .u8 ((zC t pos:Nat):Int))/\Mem V (.blk b (ob (.string t::.int .i64 pos::rest) a)::K) w') :=
 z6l (k:=0) c N
theorem gX (t:Bs) (pos:Nat):z1o t pos=if y5r (aL t pos)=0 then
   (if yN (zC t (pos+(kV t pos+kF t pos)))=true∨zC t (pos+(kV t pos+kF t pos))=39 then .error (pos,13) else .ok ⟨1,q4s (aL t pos),aL t pos,pos⟩)
  else .error (pos,13):=by
 unfold z1o y5r q4s
 cases uK (aL t pos) with
 | none=>rfl
 | some v=>rfl
set_option maxRecDepth 10000 in
theorem j7k:∀c < 256,decide ((0:Int)<=Lib.indexByte [40,41,44,59,58,124,61,60,43,45,42,47,37,95] ((c:Nat):Int).toNat.toUInt8)=y6x c:=by decide
theorem q8v (t:Bs):∀(f i q:Nat),i<=t.size->z1q t f i=.ok q->i<=q/\q<=t.size
 | 0,i,q,h,a=>by simp only [z1q,Except.ok.injEq] at a;omega
 | f+1,i,q,h,a=>by
  have hr:=kU xM t t.size i h
  simp only [z1q] at a
  split at a
  ·cases b:vO t (i+yR xM t t.size i) (i+yR xM t t.size i) 0 with
   | error c=>rw [b] at a;cases a
   | ok d=>
    rw [b] at a
    have h1:=pW _ _ _ _ _ _ b
    have h2:=q8v t f d q h1.2 a
    omega
  ·simp only [Except.ok.injEq] at a;omega
theorem y6f {t:Bs} {i q:Nat} (h:i<=t.size) (a:aY t i=.ok q):i<=q/\q<=t.size:=q8v t _ i q h a
theorem y4k (t:Bs) (i n:Nat) (h:i+n<=t.size):(t.extract i (i+n)).size=n:=by
 rw [ByteArray.size_extract];omega
theorem q9y {t:Bs} {pos:Nat} {k:Tok} (h1:pos < t.size) (h:zY t pos=.ok k):1<=k.text.size/\pos+k.text.size<=t.size:=by
 have b:∀p:Nat->Bool,p (zC t pos)=true->1<=yR p t t.size pos:=fun p d=>by
  rw [xP,if_pos ⟨h1,d⟩];omega
 have name:∀kd,qK (zC t pos)=true∨qT (zC t pos)=true->kP t pos kd=.ok k->1<=k.text.size/\pos+k.text.size<=t.size:=fun kd O c=>by
  unfold kP at c
  split at c
  ·cases c
  ·simp only [Except.ok.injEq] at c
   subst c
   have h2:=y5o t pos (by omega)
   have e:=b yN (by unfold yN;rcases O with h | h <;> simp [h])
   have l:yR yN t t.size pos<=qA t pos:=by
    unfold qA;split
    ·split <;> omega
    ·omega
   simp only
   rw [y4k t pos _ h2];omega
 have made:∀kd n,1<=n->pos+n<=t.size->wF t pos kd n=.ok k->1<=k.text.size/\pos+k.text.size<=t.size:=fun kd n h2 e c=>by
  obtain ⟨_,rfl⟩:=tJ c
  simp only
  rw [y4k t pos _ e];omega
 unfold zY at h
 split at h
 ·rename_i g
  have f:1<=kV t pos+kF t pos/\pos+(kV t pos+kF t pos)<=t.size:=by
   unfold kF
   by_cases a:zC t pos=126
   ·have:kV t pos=1:=by simp [kV,a]
    have:=kU yD t t.size (pos+kV t pos) (by omega)
    omega
   ·have O:kV t pos=0:=by simp [kV,a]
    have i:yD (zC t pos)=true:=g.resolve_right a
    have h2:=b yD i
    have e:=kU yD t t.size pos (by omega)
    rw [O,Nat.add_zero];omega
  rw [gX] at h
  split at h
  ·split at h
   ·cases h
   ·simp only [Except.ok.injEq] at h
    subst h
    simp only [aL]
    rw [y4k t pos _ f.2];omega
  ·cases h
 split at h
 ·rename_i O;exact name _ (.inl O) h
 split at h
 ·rename_i O;exact name _ (.inr O) h
 split at h
 ·have:=kU yN t t.size (pos+1) (by omega)
  exact made _ _ (by omega) (by omega) h
 split at h
 ·rename_i d
  have j:(⟨#[61,62]⟩:Bs).size=2:=rfl
  have e2:(⟨#[45,62]⟩:Bs).size=2:=rfl
  have:2<=t.size - pos:=by
   rcases d with d | d
   ·have:=jM d;omega
   ·have:=jM d;omega
  exact made _ _ (by omega) (by omega) h
 split at h
 ·exact made _ _ (by omega) (by omega) h
 ·cases h
theorem y7k (t:Bs):∀(f g i:Nat),i<=t.size->t.size < i+f->t.size < i+g->gM t f i=gM t g i
 | 0,_,i,a,h,_=>by omega
 | _+1,0,i,a,_,h=>by omega
 | f+1,g+1,i,a,h,h'=>by
  simp only [gM]
  cases d:aY t i with
  | error c=>rfl
  | ok q=>
   simp only
   split
   ·rename_i hq
    cases b:zY t q with
    | error c=>rfl
    | ok k=>
     simp only
     have h1:=y6f a d
     have h2:=q9y hq b
     rw [y7k t f g (q+k.text.size) h2.2 (by omega) (by omega)]
   ·rfl
def z7b (t:Bs) (q:Nat):Except (Nat×Int) (List Tok):=if q < t.size then
  match zY t q with
  | .error c=>.error c
  | .ok k=>match gM t (t.size+1) (q+k.text.size) with
   | .error c=>.error c
   | .ok l=>.ok (k::l)
 else .ok []
theorem j7r {t:Bs} {i:Nat} (h:i<=t.size):gM t (t.size+1) i=match aY t i with
  | .error c=>.error c
  | .ok q=>z7b t q:=by
 rw [y7k t (t.size+1) (t.size+2) i h (by omega) (by omega)]
 rfl
def y6i (pre:List Tok) (r:Except (Nat×Int) (List Tok)):Except (Nat×Int) (List Tok):=match r with
 | .ok l=>.ok (pre++l)
 | .error c=>.error c
theorem q8z (r:Except (Nat×Int) (List Tok)):y6i [] r=r:=by cases r <;> rfl
theorem q2m {t:Bs} {i q:Nat} {pre:List Tok} (h:i<=t.size) (a:aY t i=.ok q):y6i pre (gM t (t.size+1) i)=y6i pre (z7b t q):=by
 rw [j7r h,a]
theorem q2n {t:Bs} {i:Nat} {pre:List Tok} {c:Nat×Int} (h:i<=t.size) (a:aY t i=.error c):y6i pre (gM t (t.size+1) i)=.error c:=by
 rw [j7r h,a];rfl
theorem q2o {t:Bs} {q:Nat} {pre:List Tok} {k:Tok} (h:q < t.size) (a:zY t q=.ok k):y6i pre (z7b t q)=y6i (pre++[k]) (gM t (t.size+1) (q+k.text.size)):=by
 unfold z7b
 rw [if_pos h,a]
 simp only
 cases gM t (t.size+1) (q+k.text.size) <;> simp [y6i]
theorem x1t {t:Bs} {q:Nat} {pre:List Tok} {c:Nat×Int} (h:q < t.size) (a:zY t q=.error c):y6i pre (z7b t q)=.error c:=by
 unfold z7b
 rw [if_pos h,a];rfl
theorem x7s {t:Bs} {q:Nat} {pre:List Tok} (h:¬q < t.size):y6i pre (z7b t q)=.ok pre:=by
 unfold z7b
 rw [if_neg h];simp [y6i]
section
variable {V:Fz} {K:List Res} {w:World}
theorem j8z {n:Int}  (b:I64 n) (G:Glob V) (N:Mem V K w) :
  Calls prog 263 #[.int .i64 n] w (fun ee w'=>ee=.returned (.string (z5q n))/\Mem V K w'):=by
 refine zI func263 ntmps263 fun Q hQ a J=>?_
 refine zO call122 (fun w N a J=>?_) (c:=q4k b G.tabs N)
 refine zO call262 (fun w N a J=>?_) (c:=y6q (by have h_:=j2j b;omega) (by decide) rfl G N)
 refine zF ?_
 exact tO N (by rfl)
theorem y5s {s:Bs} (O:s.size<=900000) (G:Glob V) (N:Mem V K w) :
  Calls prog 258 #[.string s] w (fun ee w'=>ee=.returned (.tuple #[.int .i64 (q4s s),.int .i64 (y5r s)])/\Mem V K w'):=by
 refine zI func258 ntmps258 fun Q hQ a J=>?_
 refine zO call262 (fun w N a J=>?_) (c:=y6q (by omega) (by decide) rfl G N)
 refine st J rfl rfl rfl (q0p J rfl call217 (j5o (by have h_:=j3o s ⟨#[126]⟩ ⟨#[45]⟩;have b:(⟨#[45]⟩:Bs).size=1:=rfl;omega) G N) (fun g w e N a J=>?_) (fun g h w e N a J=>?_))
 replace N:=N.nf
 refine Qq (fun a J=>?_) (o:=by exact fun J O=>nT (v:=.bool false) J rfl rfl rfl (by kernel_rfl))
 refine zO call263 (fun w N a J=>?_) (c:=j8z (y2d e) G N)
 by_cases f:(z5q g)=s
 refine jO ?_
 obtain ⟨d,b⟩:=num_ok e f
 rw [d,b];exact ⟨rfl,N⟩
 refine jO ?_
 obtain ⟨d,b⟩:=num_no e f
 rw [d,b];exact ⟨rfl,N⟩
 replace N:=N.nf
 refine Qq (fun a J=>?_) (o:=by exact fun J O=>nT (v:=.bool true) J rfl rfl rfl (by kernel_rfl))
 refine jO ?_
 obtain ⟨d,b⟩:=num_err e
 rw [d,b];exact ⟨rfl,N⟩
theorem q1x {t:Bs} {pos b:Nat} {rest:List Value} {B:TypeId} (G:Glob V) (h1:pos<=t.size) (h2:t.size<=800000) (N:Mem V (.blk b (ob (.string t::.int .i64 pos::rest) B)::K) w) :
  Calls prog 248 #[.pointer (some ⟨b,0,none⟩)] w (fun ee w'=>Out (z1o t pos) (fun q=>ee=.returned (y7i q)/\Mem V (.blk b (ob (.string t::.int .i64 pos::rest) B)::K) w') (fun c=>ee=.panicked (sU c)/\Mem V K w')):=by
 refine zI func248 ntmps248 fun Q hQ a J=>?_
 refine Alc fun C w N a J=>?_
 replace N:=N.pl 1
 refine zO call246 (fun w N a J=>?_) (c:=q8x (by omega) N)
 by_cases D:zC t pos=126
 have A:=sY (t:=t) (i:=pos) (by omega)
 refine zO call242 (fun w N a J=>?_) (c:=q5c (p:=yD) (pos:=pos) (k:=1) (fs:=[]) (cs:=[]) call247 (fun c N=>oL N) (by omega) (by omega) N)
 have A:=sY (t:=t) (i:=pos) (by omega)
 have hr_:=kU yD t t.size (pos+1) (by omega)
 have f:kV t pos+kF t pos=(1+(yR yD t t.size (pos+1))):=by simp [kV,kF, *]
 refine Qq (fun a J=>?_) (o:=by exact fun J O=>pH (i:=1) (j:=(yR yD t t.size (pos+1))) J rfl rfl (by omega))
 refine zO call246 (fun w N a J=>?_) (c:=z6l (k:=(1+(yR yD t t.size (pos+1)))) (by omega) N)
 refine Reg [1,1,1,1,2,1,1,1,1,2,1,1,1,1,2,1,1,1,1,1,1] [0,1] fun w N a J=>?_
 refine Qq (fun a J=>?_) (o:=by exact fun J O=>pH (i:=(pos+1)) (j:=(yR yD t t.size (pos+1))) J rfl rfl (by omega))
 refine Qq (fun a J=>?_) (o:=by exact fun J O=>qS pos (((pos+1)+(yR yD t t.size (pos+1)))) J rfl runUnderlying9 ⟨_,rfl⟩ ⟨_,rfl⟩ (by omega) (by omega))
 have d:(t.extract pos ((pos+1)+(yR yD t t.size (pos+1))))=aL t pos:=by unfold aL;rw [f];simp only [Nat.add_assoc]
 refine zO call258 (fun w N a J=>?_) (c:=y5s (s:=(t.extract pos ((pos+1)+(yR yD t t.size (pos+1))))) (by have h_:=ByteArray.size_extract (a:=t) (b:=pos) (e:=(pos+1)+(yR yD t t.size (pos+1)));omega) G N)
 by_cases n:y5r (t.extract pos ((pos+1)+(yR yD t t.size (pos+1))))=0
 refine zX call253 (fun g w N a J=>?_) (fun g w N a J=>?_) (c:=q7v (pV _ _) N)
 refine zU fun a J=>?_
 refine Qq (fun a J=>?_) (o:=by exact fun J O=>qN J rfl runUnderlying270 (by intro ms h;cases h))
 refine st0 J rfl rfl (vK J rfl (vM _) (fun a m=>hQ _ _ _ (yY m ?_)))
 replace N:=N.dl [1,0]
 show Out (z1o t pos) _ _
 rw [gX,f,<- d,if_pos n,if_pos (.inl g)];exact ⟨rfl,N⟩
 by_cases y:zC t (pos+(1+(yR yD t t.size (pos+1))))=39
 refine zU fun a J=>?_
 refine Qq (fun a J=>?_) (o:=by exact fun J O=>qN J rfl runUnderlying270 (by intro ms h;cases h))
 refine st0 J rfl rfl (vK J rfl (vM _) (fun a m=>hQ _ _ _ (yY m ?_)))
 replace N:=N.dl [1,0]
 show Out (z1o t pos) _ _
 rw [gX,f,<- d,if_pos n,if_pos (.inr y)];exact ⟨rfl,N⟩
 refine zU fun a J=>?_
 refine Sto 1 fun w N a J=>?_
 refine go fun a J=>?_
 have v:=N
 replace N:=N.dl [1]
 refine qI (N:=v) ?_
 show Out (z1o t pos) _ _
 rw [gX,f,<- d,if_pos n,if_neg (fun u=>u.elim (fun h_=>absurd (h_.symm.trans g) (by decide)) y)];exact ⟨rfl,N⟩
 refine zU fun a J=>?_
 refine Qq (fun a J=>?_) (o:=by exact fun J O=>qN J rfl runUnderlying270 (by intro ms h;cases h))
 refine st0 J rfl rfl (vK J rfl (vM _) (fun a m=>hQ _ _ _ (yY m ?_)))
 replace N:=N.dl [1,0]
 show Out (z1o t pos) _ _
 rw [gX,f,<- d,if_neg n];exact ⟨rfl,N⟩
 refine zO call242 (fun w N a J=>?_) (c:=q5b (p:=yD) (pos:=pos) (fs:=[]) (cs:=[]) call247 (fun c N=>oL N) (by omega) (by omega) N)
 have hr_:=kU yD t t.size pos h1
 have f:kV t pos+kF t pos=(0+(yR yD t t.size pos)):=by simp [kV,kF, *]
 refine Qq (fun a J=>?_) (o:=by exact fun J O=>pH (i:=0) (j:=(yR yD t t.size pos)) J rfl rfl (by omega))
 refine zO call246 (fun w N a J=>?_) (c:=z6l (k:=(0+(yR yD t t.size pos))) (by omega) N)
 refine Reg [1,1,1,1,2,1,1,1,1,2,1,1,1,1,2,1,1,1,1,1,1] [0,1] fun w N a J=>?_
 refine Qq (fun a J=>?_) (o:=by exact fun J O=>pH (i:=pos) (j:=0) J rfl rfl (by omega))
 refine Qq (fun a J=>?_) (o:=by exact fun J O=>pH (i:=(pos+0)) (j:=(yR yD t t.size pos)) J rfl rfl (by omega))
 refine Qq (fun a J=>?_) (o:=by exact fun J O=>qS pos (((pos+0)+(yR yD t t.size pos))) J rfl runUnderlying9 ⟨_,rfl⟩ ⟨_,rfl⟩ (by omega) (by omega))
 have d:(t.extract pos ((pos+0)+(yR yD t t.size pos)))=aL t pos:=by unfold aL;rw [f];simp only [Nat.add_assoc]
 refine zO call258 (fun w N a J=>?_) (c:=y5s (s:=(t.extract pos ((pos+0)+(yR yD t t.size pos)))) (by have h_:=ByteArray.size_extract (a:=t) (b:=pos) (e:=(pos+0)+(yR yD t t.size pos));omega) G N)
 by_cases r:y5r (t.extract pos ((pos+0)+(yR yD t t.size pos)))=0
 refine zX call253 (fun l w N a J=>?_) (fun l w N a J=>?_) (c:=q7v (pV _ _) N)
 refine zU fun a J=>?_
 refine Qq (fun a J=>?_) (o:=by exact fun J O=>qN J rfl runUnderlying270 (by intro ms h;cases h))
 refine st0 J rfl rfl (vK J rfl (vM _) (fun a m=>hQ _ _ _ (yY m ?_)))
 replace N:=N.dl [1,0]
 show Out (z1o t pos) _ _
 rw [gX,f,<- d,if_pos r,if_pos (.inl l)];exact ⟨rfl,N⟩
 by_cases z:zC t (pos+(0+(yR yD t t.size pos)))=39
 refine zU fun a J=>?_
 refine Qq (fun a J=>?_) (o:=by exact fun J O=>qN J rfl runUnderlying270 (by intro ms h;cases h))
 refine st0 J rfl rfl (vK J rfl (vM _) (fun a m=>hQ _ _ _ (yY m ?_)))
 replace N:=N.dl [1,0]
 show Out (z1o t pos) _ _
 rw [gX,f,<- d,if_pos r,if_pos (.inr z)];exact ⟨rfl,N⟩
 refine zU fun a J=>?_
 refine Sto 1 fun w N a J=>?_
 refine go fun a J=>?_
 have v:=N
 replace N:=N.dl [1]
 refine qI (N:=v) ?_
 show Out (z1o t pos) _ _
 rw [gX,f,<- d,if_pos r,if_neg (fun u=>u.elim (fun h_=>absurd (h_.symm.trans l) (by decide)) z)];exact ⟨rfl,N⟩
 refine zU fun a J=>?_
 refine Qq (fun a J=>?_) (o:=by exact fun J O=>qN J rfl runUnderlying270 (by intro ms h;cases h))
 refine st0 J rfl rfl (vK J rfl (vM _) (fun a m=>hQ _ _ _ (yY m ?_)))
 replace N:=N.dl [1,0]
 show Out (z1o t pos) _ _
 rw [gX,f,<- d,if_neg r];exact ⟨rfl,N⟩
end
theorem x7r {V:Fz} {K:List Res} {w:World} {t:Bs} {pos b mb:Nat} {cv:Value} (G:Glob V) (E:MapAt V mb wordsM) (h1:pos < t.size) (h2:t.size<=800000) (N:Mem V (.blk b (ob [.string t,.int .i64 pos,.map (some mb),cv] 301)::K) w) :
  Calls prog 233 #[.pointer (some ⟨b,0,none⟩)] w (fun ee w'=>Out (zY t pos) (fun q=>ee=.returned (y7i q)/\Mem V (.blk b (ob [.string t,.int .i64 pos,.map (some mb),cv] 301)::K) w') (fun c=>ee=.panicked (sU c)/\Mem V K w')):=by
 refine zI func233 ntmps233 fun Q hQ a J=>?_
 refine Alc fun b2 w N a J=>?_
 refine go fun a J=>?_
 have U:yD 39=false:=rfl
 have W:qK 39=false:=rfl
 have X:qT 39=false:=rfl
 have Y:y6x 39=false:=rfl
 replace N:=N.pl 1
 refine zO call246 (fun w N a J=>?_) (c:=q8x (by omega) N)
 refine zX call247 (fun Z w N a J=>?_) (fun Z w N a J=>?_) (c:=x0a (pV _ _) N)
 refine jE call248 (fun q9 w f N a J=>?_) (fun q9 w f N=>?_) (c:=q1x (pos:=pos) G (by omega) (by omega) N)
 refine Sto 1 fun w N a J=>?_
 refine go fun a J=>?_
 have d:=N
 replace N:=N.dl [1]
 refine qI (N:=d) ?_
 show Out (zY t pos) _ _
 rw [show zY t pos=z1o t pos by simp [zY, *],f];exact ⟨rfl,N⟩
 replace N:=N.dl [0]
 show Out (zY t pos) _ _
 rw [show zY t pos=z1o t pos by simp [zY, *],f];exact ⟨rfl,N⟩
 by_cases l0:zC t pos=126
 refine jE call248 (fun b0 w g N a J=>?_) (fun b0 w g N=>?_) (c:=q1x (pos:=pos) G (by omega) (by omega) N)
 refine Sto 1 fun w N a J=>?_
 refine go fun a J=>?_
 have d:=N
 replace N:=N.dl [1]
 refine qI (N:=d) ?_
 show Out (zY t pos) _ _
 rw [show zY t pos=z1o t pos by simp [zY, *],g];exact ⟨rfl,N⟩
 replace N:=N.dl [0]
 show Out (zY t pos) _ _
 rw [show zY t pos=z1o t pos by simp [zY, *],g];exact ⟨rfl,N⟩
 refine zX call249 (fun L w N a J=>?_) (fun L w N a J=>?_) (c:=q1d (pV _ _) N)
 refine jE call250 (fun c0 w i N a J=>?_) (fun c0 w i N=>?_) (c:=j7a (pos:=pos) (kd:=2) E (by omega) (by omega) N)
 refine Sto 1 fun w N a J=>?_
 refine go fun a J=>?_
 have d:=N
 replace N:=N.dl [1]
 refine qI (N:=d) ?_
 show Out (zY t pos) _ _
 rw [show zY t pos=kP t pos 2 by simp [zY, *],i];exact ⟨rfl,N⟩
 replace N:=N.dl [0]
 show Out (zY t pos) _ _
 rw [show zY t pos=kP t pos 2 by simp [zY, *],i];exact ⟨rfl,N⟩
 refine zX call251 (fun M w N a J=>?_) (fun M w N a J=>?_) (c:=x0b (pV _ _) N)
 refine jE call250 (fun d0 w j N a J=>?_) (fun d0 w j N=>?_) (c:=j7a (pos:=pos) (kd:=3) E (by omega) (by omega) N)
 refine Sto 1 fun w N a J=>?_
 refine go fun a J=>?_
 have d:=N
 replace N:=N.dl [1]
 refine qI (N:=d) ?_
 show Out (zY t pos) _ _
 rw [show zY t pos=kP t pos 3 by simp [zY, *],j];exact ⟨rfl,N⟩
 replace N:=N.dl [0]
 show Out (zY t pos) _ _
 rw [show zY t pos=kP t pos 3 by simp [zY, *],j];exact ⟨rfl,N⟩
 by_cases T:zC t pos=39
 refine zO call246 (fun w N a J=>?_) (c:=z6l (k:=1) (by omega) N)
 refine zX call249 (fun P w N a J=>?_) (fun P w N a J=>?_) (c:=q1d (pV _ _) N)
 refine zO call242 (fun w N a J=>?_) (c:=q5c (p:=yN) (pos:=pos) (k:=1) (fs:=[]) (cs:=[]) call253 (fun c N=>z8l N) (by omega) (by omega) N)
 refine Qq (fun a J=>?_) (o:=by exact fun J O=>z0p (((1+(yR yN t t.size (pos+1))):Nat):Int) J rfl rfl (by have hr_:=kU yN t t.size (pos+1) (by omega);rw [yB (by omega)];omega))
 refine jE call252 (fun f0 w l N a J=>?_) (fun f0 w l N=>?_) (c:=gW (pos:=pos) (kd:=4) (n:=(1+(yR yN t t.size (pos+1)))) (by have hr_:=kU yN t t.size (pos+1) (by omega);omega) (by omega) N)
 refine Sto 1 fun w N a J=>?_
 refine go fun a J=>?_
 have d:=N
 replace N:=N.dl [1]
 refine qI (N:=d) ?_
 show Out (zY t pos) _ _
 rw [show zY t pos=wF t pos 4 (1+(yR yN t t.size (pos+1))) by simp [zY, *],l];exact ⟨rfl,N⟩
 replace N:=N.dl [0]
 show Out (zY t pos) _ _
 rw [show zY t pos=wF t pos 4 (1+(yR yN t t.size (pos+1))) by simp [zY, *],l];exact ⟨rfl,N⟩
 refine zX call244 (fun A w N a J=>?_) (fun A w N a J=>?_) (c:=cQ (s:=(⟨#[61,62]⟩:Bs)) (by omega) N)
 refine jE call252 (fun g0 w m N a J=>?_) (fun g0 w m N=>?_) (c:=gW (pos:=pos) (kd:=6) (n:=2) (by have h_:=jM A;have S:(⟨#[61,62]⟩:Bs).size=2:=rfl;have F:(⟨#[45,62]⟩:Bs).size=2:=rfl;omega) (by omega) N)
 refine Sto 1 fun w N a J=>?_
 refine go fun a J=>?_
 have d:=N
 replace N:=N.dl [1]
 refine qI (N:=d) ?_
 show Out (zY t pos) _ _
 rw [show zY t pos=wF t pos 6 2 by simp [zY, *],m];exact ⟨rfl,N⟩
 replace N:=N.dl [0]
 show Out (zY t pos) _ _
 rw [show zY t pos=wF t pos 6 2 by simp [zY, *],m];exact ⟨rfl,N⟩
 refine zX call244 (fun B w N a J=>?_) (fun B w N a J=>?_) (c:=cQ (s:=(⟨#[45,62]⟩:Bs)) (by omega) N)
 refine jE call252 (fun h0 w r N a J=>?_) (fun h0 w r N=>?_) (c:=gW (pos:=pos) (kd:=6) (n:=2) (by have h_:=jM B;have S:(⟨#[61,62]⟩:Bs).size=2:=rfl;have F:(⟨#[45,62]⟩:Bs).size=2:=rfl;omega) (by omega) N)
 refine Sto 1 fun w N a J=>?_
 refine go fun a J=>?_
 have d:=N
 replace N:=N.dl [1]
 refine qI (N:=d) ?_
 show Out (zY t pos) _ _
 rw [show zY t pos=wF t pos 6 2 by simp [zY, *],r];exact ⟨rfl,N⟩
 replace N:=N.dl [0]
 show Out (zY t pos) _ _
 rw [show zY t pos=wF t pos 6 2 by simp [zY, *],r];exact ⟨rfl,N⟩
 refine zO call213 (fun w N a J=>?_) (c:=uC N)
 have e:=j7k (zC t pos) (pV t pos)
 by_cases H:0<=Lib.indexByte (⟨#[40,41,44,59,58,124,61,60,43,45,42,47,37,95]⟩:Bs).data.toList (((zC t pos:Nat):Int).toNat.toUInt8)
 refine go fun a J=>?_
 have z:y6x (zC t pos)=true:=by rw [<- e];exact decide_eq_true H
 rw [T] at z
 cases z
 refine zU fun a J=>?_
 refine Qq (fun a J=>?_) (o:=by exact fun J O=>qN J rfl runUnderlying270 (by intro ms h;cases h))
 refine st0 J rfl rfl (vK J rfl (vM _) (fun a hd=>hQ _ _ _ (yY hd ?_)))
 replace N:=N.dl [1,0]
 have R:y6x (zC t pos)=false:=by rw [<- e];exact decide_eq_false H
 show Out (zY t pos) _ _
 rw [show zY t pos=.error (pos,11) by simp [zY, *]];exact ⟨rfl,N⟩
 refine zX call244 (fun C w N a J=>?_) (fun C w N a J=>?_) (c:=cQ (s:=(⟨#[61,62]⟩:Bs)) (by omega) N)
 refine jE call252 (fun i0 w u N a J=>?_) (fun i0 w u N=>?_) (c:=gW (pos:=pos) (kd:=6) (n:=2) (by have h_:=jM C;have S:(⟨#[61,62]⟩:Bs).size=2:=rfl;have F:(⟨#[45,62]⟩:Bs).size=2:=rfl;omega) (by omega) N)
 refine Sto 1 fun w N a J=>?_
 refine go fun a J=>?_
 have d:=N
 replace N:=N.dl [1]
 refine qI (N:=d) ?_
 show Out (zY t pos) _ _
 rw [show zY t pos=wF t pos 6 2 by simp [zY, *],u];exact ⟨rfl,N⟩
 replace N:=N.dl [0]
 show Out (zY t pos) _ _
 rw [show zY t pos=wF t pos 6 2 by simp [zY, *],u];exact ⟨rfl,N⟩
 refine zX call244 (fun D w N a J=>?_) (fun D w N a J=>?_) (c:=cQ (s:=(⟨#[45,62]⟩:Bs)) (by omega) N)
 refine jE call252 (fun j0 w v N a J=>?_) (fun j0 w v N=>?_) (c:=gW (pos:=pos) (kd:=6) (n:=2) (by have h_:=jM D;have S:(⟨#[61,62]⟩:Bs).size=2:=rfl;have F:(⟨#[45,62]⟩:Bs).size=2:=rfl;omega) (by omega) N)
 refine Sto 1 fun w N a J=>?_
 refine go fun a J=>?_
 have d:=N
 replace N:=N.dl [1]
 refine qI (N:=d) ?_
 show Out (zY t pos) _ _
 rw [show zY t pos=wF t pos 6 2 by simp [zY, *],v];exact ⟨rfl,N⟩
 replace N:=N.dl [0]
 show Out (zY t pos) _ _
 rw [show zY t pos=wF t pos 6 2 by simp [zY, *],v];exact ⟨rfl,N⟩
 refine zO call213 (fun w N a J=>?_) (c:=uC N)
 have e:=j7k (zC t pos) (pV t pos)
 by_cases I:0<=Lib.indexByte (⟨#[40,41,44,59,58,124,61,60,43,45,42,47,37,95]⟩:Bs).data.toList (((zC t pos:Nat):Int).toNat.toUInt8)
 have z:y6x (zC t pos)=true:=by rw [<- e];exact decide_eq_true I
 refine jE call252 (fun k0 w y N a J=>?_) (fun k0 w y N=>?_) (c:=gW (pos:=pos) (kd:=6) (n:=1) (by have hr_:=kU yN t t.size (pos+1) (by omega);omega) (by omega) N)
 refine Sto 1 fun w N a J=>?_
 refine go fun a J=>?_
 have d:=N
 replace N:=N.dl [1]
 refine qI (N:=d) ?_
 show Out (zY t pos) _ _
 rw [show zY t pos=wF t pos 6 1 by simp [zY, *],y];exact ⟨rfl,N⟩
 replace N:=N.dl [0]
 show Out (zY t pos) _ _
 rw [show zY t pos=wF t pos 6 1 by simp [zY, *],y];exact ⟨rfl,N⟩
 refine zU fun a J=>?_
 refine Qq (fun a J=>?_) (o:=by exact fun J O=>qN J rfl runUnderlying270 (by intro ms h;cases h))
 refine st0 J rfl rfl (vK J rfl (vM _) (fun a hd=>hQ _ _ _ (yY hd ?_)))
 replace N:=N.dl [1,0]
 have R:y6x (zC t pos)=false:=by rw [<- e];exact decide_eq_false I
 show Out (zY t pos) _ _
 rw [show zY t pos=.error (pos,11) by simp [zY, *]];exact ⟨rfl,N⟩
theorem y9f {V:Fz} {K:List Res} {w:World} {t:Bs} (N:Mem V K w) :
  Calls prog 220 #[.string t] w (fun ee w'=>∃y:Nat×Nat,ee=.returned (.pointer (some ⟨y.1,0,none⟩))/\True/\Mem V (.blk y.1 (ob [.string t,.int .i64 ((0:Nat):Int),.map (some y.2),.slice none 0 0] 301)::.mp y.2 wordsM::K) w'):=by
 refine zI func220 ntmps220 fun Q hQ a J=>?_
 refine zU fun a J=>?_
 refine MkM fun f w N a J=>?_
 refine z3v fun a J=>?_
 refine Bx fun k w N a J=>?_
 refine zU fun a J=>?_
 refine go fun a J=>?_
 refine zR (J.ks [3,11]) N (fun R mm a w=>∃(i:Nat),mm=15 - i/\R V [(12,.int .i64 i)] [(1,.mp f (wordsM.take i))] a w/\(True)) (15 - 0) ⟨0,rfl,⟨J.pk,N⟩,trivial⟩ ?_
 clear N J
 rintro mm a w ⟨i,e,⟨J,N⟩,g⟩ j d
 replace N:=N.nf
 by_cases c:i < 15
 obtain ⟨h,b⟩:=jC (l:=wordsL) (i:=i) c
 refine Qq (fun a J=>?_) (o:=by exact fun J O=>j0v i 15 (cs:=strs wordsL) J rfl rfl runUnderlying302 sizeOf9 isAgg9 rfl (by rw [strs,List.getElem?_map,b];rfl))
 refine z5h 1 runUnderlying298 runUnderlying9 fun w N a J=>?_
 rw [show Value.int .i64 5=.int .i64 ((5:Nat):Int) from rfl,x1z b] at N
 refine go fun a J=>?_
 refine d _ _ _ (by subst e;omega) ⟨(i+1),rfl,⟨J.pk,N⟩,?_⟩
 trivial
 refine zF ?_
 rw [j4v c] at N
 exact ⟨(_,_),rfl,trivial,N⟩
theorem x1s {V:Fz} {K:List Res} {w:World} {b:Nat} (N:Mem V K w) :
  Calls prog 222 #[.pointer (some ⟨b,0,none⟩)] w (fun ee w'=>∃y:Nat,ee=.returned (.func (.func 231) #[] #[.pointer (some ⟨y,0,none⟩)])/\True/\Mem V (.blk y (ob [.pointer (some ⟨b,0,none⟩)] 267)::K) w'):=by
 refine zI func222 ntmps222 fun Q hQ a J=>?_
 refine Bx fun c w N a J=>?_
 refine zF ?_
 exact ⟨_,rfl,trivial,N⟩
theorem j4p {β:Type} {V:Fz} {w:World} {t:Bs} {bx b mb l:Nat} {KY:List Tok->β->List Res} {z:β} (G:Glob V) (B:MapAt V mb wordsM) (h2:t.size<=800000)
  (X:∀pre z M (k:Tok) w,pre.length < t.size->Mem V (M++KY pre z) w->YieldAt Fence.wide 2 prog l #[y7i k] w (fun e w'=>e=.returned (.bool true)/\∃z',Mem V (M++KY (pre++[k]) z') w'))
  (N:Mem V (.blk bx (ob [.pointer (some ⟨b,0,none⟩)] 267)::.blk b (ob [.string t,.int .i64 ((0:Nat):Int),.map (some mb),.slice none 0 0] 301)::KY [] z) w) :
  Calls prog 231 #[.func (.yield l) #[] #[],.pointer (some ⟨bx,0,none⟩)] w (fun ee w'=>Out (nR t) (fun r=>∃y:β,ee=.returned (.tuple #[])/\Mem V (KY r y) w') (fun c=>∃y:List Tok×β,ee=.panicked (sU c)/\Mem V (KY y.1 y.2) w')):=by
 refine zI func231 ntmps231 fun Q hQ a J=>?_
 refine go fun a J=>?_
 replace N:=N.nilRow 314 2
 replace N:=N.nf
 replace N:=N.pl 2
 refine xV call232 (fun E U w q F N a J=>?_) (fun E w q N=>?_) (c:=j7e (pos:=0) (by omega) (by omega) (Nat.zero_le _) N)
 replace N:=N.nf
 have n:=y6f (by omega) q
 refine go fun a J=>?_
 refine mN (fun mm a w=>∃(i:Nat) (pre:List Tok) (u:Value) (ds:List Value) (z0:β),mm=t.size - i/\EnvR 38 [(0,.func (.yield l) #[] #[]),(1,.pointer (some ⟨bx,0,none⟩))] [] a/\Mem V (.blk b (ob [.string t,.int .i64 i,.map (some mb),u] 301)::.gs (u) 314 2 ds::.blk bx (ob [.pointer (some ⟨b,0,none⟩)] 267)::KY pre z0) w/\(i<=t.size/\ds.length<=2 * i/\pre.length<=i/\nR t=y6i pre (z7b t i))) (t.size - E) ⟨E,[],U.1,U.2,z,rfl,J.pk,N,⟨n.2,F,Nat.zero_le _,(q8z _).symm.trans (q2m (Nat.zero_le _) q)⟩⟩ ?_
 clear N J
 rintro mm a w ⟨i,pre,u,ds,z0,L,J,N,H⟩ Y K
 obtain ⟨P,R,S,p⟩:=H
 refine Reg [2,1,1,1,2,2,1,1,1,2,1,1] [0,1,2] fun w N a J=>?_
 by_cases m:i < t.size
 refine jE call233 (fun d w f N a J=>?_) (fun d w f N=>?_) (c:=x7r (pos:=i) G B m h2 N)
 have T:=q9y m f
 refine Alc fun W w N a J=>?_
 refine Sto 0 fun w N a J=>?_
 refine Reg [2,1,1,1,2,1,2,1,1,1,1,1,0] [0,1,2,3] fun w N a J=>?_
 refine Qq (fun a J=>?_) (o:=by exact fun J O=>pH (i:=i) (j:=d.text.size) J rfl rfl (by omega))
 refine Sto 1 fun w N a J=>?_
 refine go1 fun a J=>?_
 refine z0j ?_
 refine mS J (by intro c h;cases h) (xZ J rfl) rfl fun a J=>?_
 refine mS J (by intro c h;cases h) (qY 0 (vs:=[.int .i64 (d.kind),.int .i64 (d.num),.string d.text,.int .i64 d.org]) J N.toSees rfl rfl isAgg274 sizeOf274 rfl rfl) rfl fun a J=>?_
 replace N:=N.dl [0]
 refine y4w (v:=y7i d) J rfl rfl rfl (X pre z0 [.blk b (ob [.string t,.int .i64 (((i+d.text.size):Nat):Int),.map (some mb),u] 301),.gs (u) 314 2 ds,.blk bx (ob [.pointer (some ⟨b,0,none⟩)] 267)] d w (by omega) N) fun w I a J=>?_
 obtain ⟨D,N⟩:=I
 replace N:=N.nf
 refine mS J (by intro c h;cases h) (q3a J rfl) rfl fun a J=>?_
 refine wpListIn_nil ?_
 replace N:=N.ar [] [1,1]
 refine xV call232 (fun s C w g A N a J=>?_) (fun s w g N=>?_) (c:=j7e (pos:=(i+d.text.size)) (by omega) (by omega) (by omega) N)
 replace N:=N.nf
 have n:=y6f (by omega) g
 refine go fun a J=>?_
 refine K _ _ _ (by subst L;omega) ⟨(s),(pre++[d]),(C.1),(C.2),(D),rfl,J.pk,N,?_⟩
 exact ⟨n.2,A,by simp only [laQ,lcQ,lnQ];omega,by rw [p,q2o m f,q2m (by omega) g]⟩
 replace N:=N.dl [0]
 have hr_:nR t=.error s:=by
  rw [p,q2o m f,q2n (by omega) g]
 show Out (nR t) _ _
 rw [hr_];exact ⟨(pre++[d],D),rfl,N⟩
 replace N:=N.dl [1,0]
 have hr_:nR t=.error d:=by
  rw [p,x1t m f]
 show Out (nR t) _ _
 rw [hr_];exact ⟨(pre,z0),rfl,N⟩
 refine go fun a J=>?_
 replace N:=N.dl [2,1,0]
 refine hQ _ _ _ (aM J results231 ?_)
 show Out (nR t) _ _
 rw [p,x7s m];exact ⟨z0,rfl,N⟩
 replace N:=N.dl [0]
 have hr_:nR t=.error E:=by
  exact (q8z _).symm.trans (q2n (Nat.zero_le _) q)
 show Out (nR t) _ _
 rw [hr_];exact ⟨([],z),rfl,N⟩
def z9a (k:Tok):List Value:=[.int .i64 k.kind,.int .i64 k.num,.string k.text,.int .i64 k.org]
def mW (l:List Tok):List Value:=l.flatMap z9a
theorem j4q (l:List Tok) (k:Tok):mW (l++[k])=mW l++z9a k:=by simp [mW]
theorem q2l:∀l:List Tok,(mW l).length=4 * l.length
 | []=>rfl
 | k::l=>by have:=q2l l;simp only [mW,List.flatMap_cons,laQ,lcQ] at this ⊢;rw [this];simp only [z9a,lcQ,lnQ];omega
def gI (c:Nat×Int):List Value:=[.int .i64 c.1,.int .i64 c.2]
abbrev wrongE (c:Nat×Int) (r:Bool):PanicEntry:={ v:=.iface 270 (.agg (gI c).toArray),recovered:=r }
set_option maxRecDepth 20000 in
set_option maxHeartbeats 4000000 in
theorem q6m {V:Fz} {K:List Res} {w:World} {b d:Nat} {v:Value} {x y:Value} {c:Nat×Int} (N:Mem V (.blk b (ob [v] 268)::.blk d (ob [x,y] 270)::K) w) :
  CallsD prog 221 #[.pointer (some ⟨b,0,none⟩),.pointer (some ⟨d,0,none⟩)] (.panicking (sU c)) w fun e u' w'=>
   e=.returned (.tuple #[])/\u'=.panicking [wrongE c true]/\Mem V (.blk b (ob [.slice none 0 0] 268)::.blk d (ob (gI c) 270)::K) w':=by
 generalize l:(fun (e:Ending) (u':FrameMode) (w':World)=>e=.returned (.tuple #[])/\u'=.panicking [wrongE c true]/\Mem V (.blk b (ob [.slice none 0 0] 268)::.blk d (ob (gI c) 270)::K) w')=R
 refine callsD_of_wpS func221 rfl fun c₀ cs o=>?_
 apply wpS_seq
 apply wpS_region
 show wpOpsS prog _ _ [0] _ _ _
 simp [wpOpsS,go_sem,recoverD,o,ntmps221,Exit.thenS,sU]
 refine wpS_of_wp ?_
 generalize m:(_::cs:List Frame)=cs'
 have hQ:∀(a:Act) (w':World),a.defers=[]->Mem V (.blk b (ob [.slice none 0 0] 268)::.blk d (ob (gI c) 270)::K) w'->bodyPostS prog Tryz.f221 c₀ cs R .normal a cs' w':=fun a w' n N=>
  ⟨n,.panicking [wrongE c true],m.symm,.tuple #[],results_none rfl _ _ _,by subst l;exact ⟨rfl,rfl,N⟩⟩
 generalize f:(Act.mk _ [])=a
 have J:EnvR 12 [(5,.iface 270 (.agg (gI c).toArray)),(1,.pointer (some ⟨d,0,none⟩)),(0,.pointer (some ⟨b,0,none⟩))] [] a:=by
  subst f
  refine ⟨rfl,fun t v h=>?_,rfl⟩
  obtain ⟨rfl,rfl⟩ | ⟨_,h⟩:=wK h
  ·rfl
  ·obtain ⟨rfl,rfl⟩ | ⟨_,h⟩:=wK h
   ·rfl
   ·obtain ⟨rfl,rfl⟩ | ⟨_,h⟩:=wK h
    ·rfl
    ·cases h
 clear f
 refine wp_block ?_
 refine sq fun p g=>?_
 refine wp_region_lit ?_
 refine jS J (nT (v:=.bool false) J rfl rfl rfl (by kernel_rfl)) rfl fun a J=>?_
 refine wpList_nil ?_
 apply g
 refine if_f J rfl ?_
 refine sq fun r i=>?_
 refine wp_region_lit ?_
 refine jS J (y7w J rfl runUnderlying270 (by intro ms h;cases h)) rfl fun a J=>?_
 refine jS J (cV J rfl rfl) rfl fun a J=>
  jS J (cV J rfl rfl) rfl fun a J=>?_
 refine wpList_nil ?_
 apply i
 refine if_t J rfl ?_
 refine sq fun s j=>?_
 refine wp_region_lit ?_
 refine st J rfl rfl rfl (wN (cs:=[.int .i64 ((0:Nat):Int),.int .i64 ((0:Nat):Int)]) N zeroValue270 rfl fun k w N a J=>?_)
 refine st0 J rfl rfl (qF 0 (cs:=[.int .i64 ((0:Nat):Int),.int .i64 ((0:Nat):Int)]) (vs:=gI c) J N rfl rfl rfl rfl sizeOf270 rfl rfl rfl fun w N a J=>?_)
 refine wpList_nil ?_
 apply j
 replace N:Mem V (.blk k (ob (gI c) 270)::.blk b (ob [v] 268)::.blk d (ob [x,y] 270)::K) w:=N
 refine dL [2,0,0] (.q 0 (.e 1 (.e 2 (.done)))) [.blk k (ob (gI c) 270)] J N mixed (by kernel_rfl) (by simp) fun w N=>?_
 refine d_q J rfl rfl (fun w O=>qY 0 (vs:=gI c) J O rfl rfl isAgg270 sizeOf270 rfl rfl) rfl fun a J=>?_
 refine y8u J rfl rfl (qF 1 (cs:=[v]) (vs:=[.slice none 0 0]) J N rfl rfl rfl rfl sizeOf268 rfl rfl rfl fun w N=>⟨fun _=>N.seesIn (Fz.Le.refl _) (by simp [wI]),fun a J=>?_⟩)
 refine y8u J rfl rfl (qF 2 (cs:=[x,y]) (vs:=gI c) J N rfl rfl rfl rfl sizeOf270 rfl rfl rfl fun w N=>⟨dK (by kernel_rfl),fun a J=>?_⟩)
 refine q3n ?_
 replace N:Mem V (.blk b (ob [.slice none 0 0] 268)::.blk d (ob (gI c) 270)::K) w:=N.del 0
 exact hQ _ _ J.defs N
set_option maxRecDepth 20000 in
theorem catch_none {w:World} {f g:Nat} :
  CallsD prog 221 #[.pointer (some ⟨f,0,none⟩),.pointer (some ⟨g,0,none⟩)] .returning w fun e u' w'=>e=.returned (.tuple #[])/\u'=.returning/\w'=w:=by
 generalize i:(fun (e:Ending) (u':FrameMode) (w':World)=>e=.returned (.tuple #[])/\u'=.returning/\w'=w)=R
 refine callsD_of_wpS func221 rfl fun c₀ cs d=>?_
 apply wpS_seq
 apply wpS_region
 show wpOpsS prog _ _ [0] _ _ _
 simp [wpOpsS,go_sem,recoverD,d,ntmps221,Exit.thenS]
 refine wpS_of_wp ?_
 have hQ:∀(a:Act),a.defers=[]->bodyPostS prog Tryz.f221 c₀ cs R .normal a (c₀::cs) w:=fun a j=>
  ⟨j,.returning,by cases c₀;simp only at d;subst d;rfl,.tuple #[],results_none rfl _ _ _,by subst i;exact ⟨rfl,rfl,rfl⟩⟩
 generalize b:(Act.mk _ [])=a
 have J:EnvR 12 [(5,.nilIface)] [] a:=by
  subst b
  refine ⟨rfl,fun t v h=>?_,rfl⟩
  obtain ⟨rfl,rfl⟩ | ⟨_,h⟩:=wK h
  ·rfl
  ·cases h
 clear b
 refine wp_block ?_
 refine sq fun k c=>?_
 refine wp_region_lit ?_
 refine jS J (nT (v:=.bool true) J rfl rfl rfl (by kernel_rfl)) rfl fun a J=>?_
 refine wpList_nil ?_
 apply c
 refine if_t J rfl ?_
 refine wp_region_lit ?_
 refine jS J (dV J rfl) rfl fun a J=>?_
 refine wpList_nil ?_
 exact hQ _ J.defs
theorem zip1 {α β:Type} (x:α) (y:β):(#[x].zip #[y])=#[(x,y)]:=by apply Array.ext';simp
set_option maxRecDepth 20000 in
theorem rt_268:RowT prog 268 274 4 40:=⟨underlying268,⟨_,_,Tryz.type274,rfl,rfl,rfl,rfl⟩,by decide,by decide⟩
abbrev scanKY (K:List Res) (l Dk a b:Nat) (r:Loop) (pre:List Tok) (z:Value):List Res :=
 .blk l (.loop r)::.blk Dk (.deferred (some []))::.blk b (ob [.int .i64 ((0:Nat):Int),.int .i64 ((0:Nat):Int)] 270)::.blk a (ob [z] 268)::.gs z 274 4 (mW pre)::K
set_option maxRecDepth 20000 in
set_option maxHeartbeats 4000000 in
theorem j4j {Ψ:Fz} {K j:List Res} {w:World} {l Dk b c n:Nat} {r:Loop} {pre:List Tok} {z:Value} {k:Tok} (t:pre.length < n) (D:n<=800000)
  (m:r.params=#[11]) (s:r.state=.ready) (q:r.pending=none)
  (A:∀(a:Act) (w:World) (K:List Res),EnvR 19 [(11,y7i k),(4,.pointer (some ⟨c,0,none⟩)),(3,.pointer (some ⟨b,0,none⟩))] [] a->Mem Ψ (.blk l (.loop r)::K) w ->
   r.assign.wpIn (FO (some l)) 2 prog (Exit.then (fun u C=>∃g,EnvR 19 [(5,.pointer (some ⟨g,0,none⟩)),(4,.pointer (some ⟨c,0,none⟩)),(3,.pointer (some ⟨b,0,none⟩))] [] u/\Mem Ψ (.blk l (.loop r)::.blk g (ob (z9a k) 274)::K) C) (fun _ _ _=>False)) a w)
  (hb:∀(a:Act) (w:World) (g:Nat) (K:List Res) (o:Obj),EnvR 19 [(5,.pointer (some ⟨g,0,none⟩)),(4,.pointer (some ⟨c,0,none⟩)),(3,.pointer (some ⟨b,0,none⟩))] [] a->Mem Ψ (.blk l o::.blk g (ob (z9a k) 274)::.blk b (ob [z] 268)::.gs z 274 4 (mW pre)::K) w ->
   r.body.wpIn (FO (some l)) 2 prog (fun e _ w=>e=.normal/\∃v,Mem Ψ (.blk l o::.blk b (ob [v] 268)::.gs v 274 4 (mW (pre++[k]))::K) w) a w)
  (J:EnvR 19 [(4,.pointer (some ⟨c,0,none⟩)),(3,.pointer (some ⟨b,0,none⟩))] [] ⟨r.tmps,[]⟩) (N:Mem Ψ (j++scanKY K l Dk b c r pre z) w) :
  YieldAt Fence.wide 2 prog l #[y7i k] w (fun e w'=>e=.returned (.bool true)/\∃z',Mem Ψ (j++scanKY K l Dk b c r (pre++[k]) z') w'):=by
 have f:Mem Ψ (scanKY K l Dk b c r pre z++j) w:=N.perm List.perm_append_comm
 replace f:Mem Ψ (.blk l (.loop r)::.blk b (ob [z] 268)::.gs z 274 4 (mW pre)::.blk Dk (.deferred (some []))::.blk c (ob [.int .i64 ((0:Nat):Int),.int .i64 ((0:Nat):Int)] 270)::(K++j)) w :=
  (((f.pull (i:=4) rfl).pull (i:=4) rfl).pull (i:=2) rfl)
 have hl:w.heap[l]? = some (.loop r):=f.own _ msQ
 refine ⟨r.fn,r.tmps.setIfInBounds 11 (y7i k),r.assign,r.body,?_,?_⟩
 ·rw [run_yield hl (by rw [m];rfl),m,zip1];simp
 ·have p:EnvR 19 [(11,y7i k),(4,.pointer (some ⟨c,0,none⟩)),(3,.pointer (some ⟨b,0,none⟩))] [] ⟨r.tmps.setIfInBounds 11 (y7i k),[]⟩:=J.put (d:=11) rfl
  have h:=q9k (P:=prog) (E1:=fun g=>[(5,.pointer (some ⟨g,0,none⟩)),(4,.pointer (some ⟨c,0,none⟩)),(3,.pointer (some ⟨b,0,none⟩))])
   (KO:=fun v=>.blk b (ob [v] 268)::.gs v 274 4 (mW (pre++[k]))::.blk Dk (.deferred (some []))::.blk c (ob [.int .i64 ((0:Nat):Int),.int .i64 ((0:Nat):Int)] 270)::(K++j)) f s q p
   (fun a J=>A a w _ J f) (fun g a w J N=>hb a w g _ _ J N)
  refine h.mono fun e w' B=>?_
  obtain ⟨h1,v,h2⟩:=B
  refine ⟨h1,v,?_⟩
  have y:Mem Ψ (scanKY K l Dk b c r (pre++[k]) v++j) w':=(((h2.pull (i:=4) rfl).pull (i:=4) rfl).pull (i:=2) rfl)
  exact y.perm List.perm_append_comm
set_option maxRecDepth 20000 in
set_option maxHeartbeats 4000000 in
theorem j4k {V:Fz} {K:List Res} {w:World} {t:Bs} (G:Glob V) (h2:t.size<=800000) (N:Mem V K w) :
  Calls prog 208 #[.string t] w (fun ee w'=>Out (nR t)
   (fun l=>∃y:Nat×Value,ee=.returned (.tuple #[.pointer (some ⟨y.1,0,none⟩),y.2,.agg #[.int .i64 ((0:Nat):Int),.int .i64 ((0:Nat):Int)]])/\Mem V (.gs y.2 274 4 (mW l)::K) w')
   (fun c=>∃y:Nat,ee=.returned (.tuple #[.pointer (some ⟨y,0,none⟩),.slice none 0 0,.agg (gI c).toArray])/\Mem V K w')):=by
 refine enterX func208 rfl ntmps208 rfl (fun Q hQ a J=>?_)
 refine sq fun L1 F=>?_
 refine wp_region_lit ?_
 refine jS J (dV J rfl) rfl fun a J=>?_
 refine st J rfl rfl rfl (wN (cs:=[.slice none 0 0]) N zeroValue268 rfl fun g w N a J=>?_)
 refine st J rfl rfl rfl (wN (cs:=[.int .i64 ((0:Nat):Int),.int .i64 ((0:Nat):Int)]) N zeroValue270 rfl fun m w N a J=>?_)
 refine wpList_nil ?_
 apply F
 refine sq fun L2 H=>?_
 refine wp_region_lit ?_
 refine jS J (xZ J rfl) rfl fun a J=>?_
 refine st J rfl rfl rfl (z2p J rfl call220 (y9f N) (fun y w _ N a J=>?_))
 obtain ⟨b,mb⟩:=y
 simp only at N J
 refine jS J (dV J rfl) rfl fun a J=>?_
 refine wpList_nil ?_
 apply H
 obtain ⟨Ψ,le,N,A⟩:=N.freezeMap (i:=1) rfl
 replace N:Mem Ψ (.blk b (ob [.string t,.int .i64 ((0:Nat):Int),.map (some mb),.slice none 0 0] 301)::.blk m (ob [.int .i64 ((0:Nat):Int),.int .i64 ((0:Nat):Int)] 270)::.blk g (ob [.slice none 0 0] 268)::K) w:=N
 refine sq fun L3 I=>?_
 refine wp_region_lit ?_
 refine jS J (z0k (vfs:=[]) (vcs:=[.pointer (some ⟨g,0,none⟩),.pointer (some ⟨m,0,none⟩)]) J rfl rfl) rfl fun a J=>?_
 refine z1z (fs:=[]) (cs:=[.pointer (some ⟨g,0,none⟩),.pointer (some ⟨m,0,none⟩)]) (vs:=[]) J rfl rfl fun a J=>?_
 refine wpList_nil ?_
 apply I
 refine sq fun L4 L=>?_
 refine sq fun L5 M=>?_
 refine wp_region_lit ?_
 refine jS J (xZ J rfl) rfl fun a J=>?_
 refine st J rfl rfl rfl (z2p J rfl call222 (x1s N) (fun bx w _ N a J=>?_))
 refine wpList_nil ?_
 apply M
 refine wp_block ?_
 refine j0o (P:=prog) (β:=List Tok×Value) (δ:=List Tok×Value) (gf:=231) (fs:=[]) (cs:=[.pointer (some ⟨bx,0,none⟩)]) (F1:=fun _=>Ψ)
  (KO:=fun y=>.blk m (ob [.int .i64 ((0:Nat):Int),.int .i64 ((0:Nat):Int)] 270)::.blk g (ob [y.2] 268)::.gs y.2 274 4 (mW y.1)::K)
  (KE:=fun y=>.blk m (ob [.int .i64 ((0:Nat):Int),.int .i64 ((0:Nat):Int)] 270)::.blk g (ob [y.2] 268)::.gs y.2 274 4 (mW y.1)::K)
  (G:=fun y=>nR t=.ok y.1) (B:=fun _ c=>∃e,nR t=.error e/\c=sU e) J N rfl call231 ?_ ?_ ?_
 ·intro Dk l r w W has S X U T N
  have p:=N.nilRow 274 4
  replace p:Mem Ψ (.blk bx (ob [.pointer (some ⟨b,0,none⟩)] 267)::.blk b (ob [.string t,.int .i64 ((0:Nat):Int),.map (some mb),.slice none 0 0] 301)::scanKY K l Dk g m r [] (.slice none 0 0)) w :=
   ((((((p.pull (i:=6) rfl).pull (i:=6) rfl).pull (i:=4) rfl).pull (i:=4) rfl).pull (i:=6) rfl).pull (i:=6) rfl)
  have h:=j4p (l:=l) (KY:=scanKY K l Dk g m r) (G.mono le) A h2 (fun pre z K0 k w s N=>?_) p
  ·refine h.mono fun e w' C=>?_
   cases Y:nR t with
   | ok rr=>
    rw [Y] at C
    obtain ⟨z,rfl,d⟩:=C
    exact .inl ⟨_,(rr,z),rfl,rfl,d⟩
   | error c=>
    rw [Y] at C
    obtain ⟨y,rfl,d⟩:=C
    exact .inr ⟨_,y,rfl,⟨c,rfl,rfl⟩,d.tail⟩
  ·refine j4j (n:=t.size) s h2 W X U (fun a w K J N=>?_) (fun a w D K o J N=>?_) (T.of_sub ⟨rfl,rfl,trivial⟩) N
   ·rw [has]
    refine wpIn_region_lit ?_
    refine j6r J rfl rfl rfl (by intro c h;cases h) (wN (cs:=[.int .i64 ((0:Nat):Int),.int .i64 ((0:Nat):Int),.string ⟨#[]⟩,.int .i64 ((0:Nat):Int)]) N zeroValue274 rfl fun D w N a J=>?_)
    refine in_st0 J rfl rfl (by intro c h;cases h) (qF 0 (cs:=[.int .i64 ((0:Nat):Int),.int .i64 ((0:Nat):Int),.string ⟨#[]⟩,.int .i64 ((0:Nat):Int)]) (vs:=z9a k) J N rfl rfl rfl rfl sizeOf274 rfl rfl rfl fun w N a J=>?_)
    refine wpListIn_nil ?_
    exact ⟨D,J.of_sub ⟨rfl,rfl,rfl,trivial⟩,N.pull (i:=1) rfl⟩
   ·rw [S]
    refine wpIn_block ?_
    refine wpIn_region_lit ?_
    refine mS J (by intro c h;cases h) (pC 2 J N.toSees rfl rfl rfl isAgg268) rfl fun a J=>?_
    refine mS J (by intro c h;cases h) (qY 1 (vs:=z9a k) J N.toSees rfl rfl isAgg274 sizeOf274 rfl rfl) rfl fun a J=>?_
    refine j6r J rfl rfl rfl (by intro c h;cases h) (mK (sz:=4) (cs:=z9a k) J N rfl (y2h runUnderlying268 sizeOf274 zeroValue274 rfl (by decide) rfl) rfl (by decide) fun v w N _ a J=>?_)
    refine j6r J rfl rfl rfl (by intro c h;cases h) (z4c 4 (xs:=mW pre) (news:=z9a k) rt_268 J N rfl rfl rfl (N.toSees.rowIn (i:=0) rfl) rfl (by rw [q2l];simp only [z9a,lcQ,lnQ];omega) fun v2 w N a J=>?_)
    replace N:Mem Ψ (.gs v 274 4 (z9a k)::.blk l o::.blk D (ob (z9a k) 274)::.blk g (ob [z] 268)::.gs v2 274 4 (mW (pre++[k]))::K) w:=by rw [j4q];exact N
    refine in_st0 J rfl rfl (by intro c h;cases h) (qF 3 (cs:=[z]) (vs:=[v2]) J N rfl rfl rfl (N.toSees.gsCells (i:=4) rfl) sizeOf268 rfl (N.toSees.gsOne (i:=4) rfl) rfl fun w N a J=>?_)
    refine wpListIn_nil ?_
    exact ⟨rfl,v2,(N.del 0).del 1⟩
 ·intro Dk y a w hG J N
  apply L
  refine sq fun L6 R=>?_
  refine dL [1,2,2,1,0,0] (.q 0 (.q 1 (.q 2 (.q 3 (.e 4 (.e 5 .done)))))) [.blk m (ob [.int .i64 ((0:Nat):Int),.int .i64 ((0:Nat):Int)] 270),.blk g (ob [y.2] 268)] J N mixed (by kernel_rfl) (by simp) fun w N=>?_
  refine y3n J rfl rfl (fun w=>xZ J rfl) rfl fun a J=>?_
  refine d_q J rfl rfl (fun w O=>pC 1 J O rfl rfl rfl isAgg268) rfl fun a J=>?_
  refine d_q J rfl rfl (fun w O=>qY 0 (vs:=[.int .i64 ((0:Nat):Int),.int .i64 ((0:Nat):Int)]) J O rfl rfl isAgg270 sizeOf270 rfl rfl) rfl fun a J=>?_
  refine y3n J rfl rfl (fun w=>dV J rfl) rfl fun a J=>?_
  refine y8u J rfl rfl (qF 2 (cs:=[y.2]) (vs:=[y.2]) J N rfl rfl rfl (N.toSees.gsCells (i:=3) rfl) sizeOf268 rfl (N.toSees.gsOne (i:=3) rfl) rfl fun w N=>⟨fun _=>(show Mem Ψ (.blk Dk (.deferred (some []))::.blk m (ob [.int .i64 ((0:Nat):Int),.int .i64 ((0:Nat):Int)] 270)::.blk g (ob [y.2] 268)::.gs y.2 274 4 (mW y.1)::K) w from N).seesIn (Fz.Le.refl _) (by simp),fun a J=>?_⟩)
  replace N:Mem Ψ (.blk Dk (.deferred (some []))::.blk m (ob [.int .i64 ((0:Nat):Int),.int .i64 ((0:Nat):Int)] 270)::.blk g (ob [y.2] 268)::.gs y.2 274 4 (mW y.1)::K) w:=N
  refine y8u J rfl rfl (qF 1 (cs:=[.int .i64 ((0:Nat):Int),.int .i64 ((0:Nat):Int)]) (vs:=[.int .i64 ((0:Nat):Int),.int .i64 ((0:Nat):Int)]) J N rfl rfl rfl rfl sizeOf270 rfl rfl rfl fun w N=>⟨dK (by kernel_rfl),fun a J=>?_⟩)
  replace N:Mem Ψ (.blk Dk (.deferred (some []))::.blk m (ob [.int .i64 ((0:Nat):Int),.int .i64 ((0:Nat):Int)] 270)::.blk g (ob [y.2] 268)::.gs y.2 274 4 (mW y.1)::K) w:=N
  refine q3n ?_
  apply R
  refine wp_ret ?_
  refine hQ _ _ _ ?_
  show gN _ _ _ _ a.defers _ _
  rw [J.defs]
  have E:w.heap[Dk]? = some (.deferred (some [])):=N.own _ msQ
  have d:=N.putObj (i:=0) (o':=.deferred none) rfl
  refine gV (by simp) E (uF ?_)
  refine leaves_cons (f:=221) (args:=#[.pointer (some ⟨g,0,none⟩),.pointer (some ⟨m,0,none⟩)]) (by simp) (call221 _ _) ?_
  refine catch_none.mono ?_
  rintro e u' w'' ⟨rfl,rfl,rfl⟩
  refine ⟨_,q9h (i:=2) (j:=1) J d.toSees results208 rfl rfl rfl isAgg268 rfl rfl isAgg270 sizeOf270 rfl,?_⟩
  rw [hG]
  exact ⟨(b,y.2),rfl,(((d.del 0).del 0).del 0).le le⟩
 ·intro Dk y c a w Z J N
  obtain ⟨e,hE,rfl⟩:=Z
  refine hQ _ _ _ ?_
  show gN _ _ _ _ a.defers _ _
  rw [J.defs]
  have E:w.heap[Dk]? = some (.deferred (some [])):=N.own _ msQ
  have d:=(N.putObj (i:=0) (o':=.deferred none) rfl).pull (i:=2) rfl
  replace d:Mem Ψ (.blk g (ob [y.2] 268)::.blk m (ob [.int .i64 ((0:Nat):Int),.int .i64 ((0:Nat):Int)] 270)::.blk Dk (.deferred none)::.gs y.2 274 4 (mW y.1)::K) (w.putObj Dk (.deferred none)):=d.pull (i:=2) rfl |>.pull (i:=1) rfl
  refine gV (by simp) E (uF ?_)
  refine leaves_cons (f:=221) (args:=#[.pointer (some ⟨g,0,none⟩),.pointer (some ⟨m,0,none⟩)]) (by simp) (call221 _ _) ?_
  refine (q6m d).mono ?_
  rintro e' u' w'' ⟨rfl,rfl,u⟩
  refine ⟨_,q9h (i:=0) (j:=1) J u.toSees results208 rfl rfl rfl isAgg268 rfl rfl isAgg270 sizeOf270 rfl,?_⟩
  rw [hE]
  exact ⟨b,rfl,((((u.del 0).del 0).del 0).del 0).le le⟩
def RTok (_:Fz) (cs:List Value) (x:Tok):Prop:=cs=[.int .i64 x.kind,.int .i64 x.num,.string x.text,.int .i64 x.org]
theorem y7j {V:Fz}:∀l:List Tok,Chunks (RTok V) 4 (mW l) l
 | []=>rfl
 | k::l=>⟨z9a k,mW l,rfl,rfl,rfl,y7j l⟩
section
variable {s:Bs} {l:List Tok} {c:Nat×Int} {x:Tok}
theorem x0d (h:24 < s.size):wR s=0:=by unfold wR;rw [if_pos h]
theorem q7y (h:¬24 < s.size) (hq:nR s=.error c):wR s=0:=by unfold wR;rw [if_neg h,hq]
theorem kind_ne (h:¬24 < s.size) (hq:nR s=.ok l) (hl:¬l.length=1):wR s=0:=by
 unfold wR;rw [if_neg h,hq]
 match l,hl with
 | [],_=>rfl
 | [k],hl=>exact absurd rfl hl
 | _::_::_,_=>rfl
theorem q8a (hl:l.length=1) (a:l[0]? = some x):l=[x]:=by
 match l,hl,a with
 | [k],_,a=>simp only [List.getElem?_cons_zero,Option.some.injEq] at a;rw [a]
theorem kind_no (h:¬24 < s.size) (hq:nR s=.ok l) (hl:l.length=1) (b:l[0]? = some x) (a:¬x.text=s):wR s=0:=by
 unfold wR;rw [if_neg h,hq,q8a hl b];simp [a]
theorem kind_ok (h:¬24 < s.size) (hq:nR s=.ok l) (hl:l.length=1) (b:l[0]? = some x) (a:x.text=s):wR s=x.kind:=by
 unfold wR;rw [if_neg h,hq,q8a hl b];simp [a]
end
section
variable {V:Fz} {K:List Res} {w:World}
theorem q7x {s:Bs} (G:Glob V) (N:Mem V K w):Calls prog 185 #[.string s] w (fun ee w'=>ee=.returned (.int .i64 (wR s))/\Mem V K w'):=by
 refine zI func185 ntmps185 fun Q hQ a J=>?_
 by_cases m:24 < s.size
 refine zF ?_
 rw [x0d m];exact ⟨rfl,N⟩
 refine go fun a J=>?_
 refine st J rfl rfl rfl (j9c J rfl call208 (j4k G (by omega) N) (fun n I w c N a J=>?_) (fun n I w c N a J=>?_))
 replace N:=N.nf
 obtain ⟨U,W⟩:=I
 simp only at N J
 have h:=N
 clear N
 obtain ⟨v,e,N,f⟩:=h.freezeRow (i:=0) rfl
 clear h
 replace N:=N.nf
 have b:SliceOf RTok v 4 _ (n):=⟨_,f,y7j n⟩
 obtain ⟨S,P,y,H,q⟩:=b.form (by decide)
 have j:=N
 clear N
 subst y
 have N:=j
 clear j
 refine Alc fun L w N a J=>?_
 refine Sto 0 fun w N a J=>?_
 refine Qq (fun a J=>?_) (o:=by exact fun J O=>oV false J rfl rfl rfl)
 by_cases l:(n).length=1
 refine go fun a J=>?_
 have g:0 < (n).length:=by omega
 obtain ⟨T,rfl,u,d,A,E,C,r⟩:=b.el q g
 obtain rfl:=id r
 by_cases p:u.text=s
 refine go fun a J=>?_
 obtain ⟨z,k⟩:=jC g
 obtain ⟨B,F,D,t⟩:=b.elem k
 obtain rfl:=id t
 refine zF ?_
 replace N:=N.le (e)
 replace N:=N.dl [0]
 rw [kind_ok m c l d p,show u=z from Option.some.inj (d.symm.trans k)];exact ⟨rfl,N⟩
 refine zF ?_
 replace N:=N.le (e)
 replace N:=N.dl [0]
 rw [kind_no m c l d p];exact ⟨rfl,N⟩
 refine zF ?_
 replace N:=N.le (e)
 replace N:=N.dl [0]
 rw [kind_ne m c l];exact ⟨rfl,N⟩
 replace N:=N.nf
 refine Alc fun M w N a J=>?_
 refine Sto 0 fun w N a J=>?_
 by_cases R:n.2=0
 refine Qq (fun a J=>?_) (o:=by exact fun J O=>oV true J rfl rfl rfl)
 refine zF ?_
 replace N:=N.dl [0]
 rw [q7y m c];exact ⟨rfl,N⟩
 refine zF ?_
 replace N:=N.dl [0]
 rw [q7y m c];exact ⟨rfl,N⟩
theorem j2f {s:Bs} (G:Glob V) (N:Mem V K w):Calls prog 138 #[.string s] w (fun ee w'=>ee=.returned (.bool (yT s))/\Mem V K w'):=by
 refine zI func138 ntmps138 fun Q hQ a J=>?_
 refine zO call185 (fun w N a J=>?_) (c:=q7x G N)
 refine Qq (fun a J=>?_) (o:=by exact fun J O=>aR J rfl rfl)
 refine zF ?_
 exact ⟨rfl,N⟩
theorem j9z {s:Bs} (G:Glob V) (N:Mem V K w):Calls prog 178 #[.string s] w (fun ee w'=>ee=.returned (.bool (yO s))/\Mem V K w'):=by
 refine zI func178 ntmps178 fun Q hQ a J=>?_
 refine zO call185 (fun w N a J=>?_) (c:=q7x G N)
 refine Qq (fun a J=>?_) (o:=by exact fun J O=>aR J rfl rfl)
 refine zF ?_
 exact ⟨rfl,N⟩
end
theorem tH {V:Fz} {K:List Res} {w:World} {s:Bs} (G:Glob V) (N:Mem V K w):Calls Tryz.prog 138 #[.string s] w (fun ee w'=>ee=.returned (.bool (yT s))/\Mem V K w'):=j2f G N
theorem mB {V:Fz} {K:List Res} {w:World} {s:Bs} (G:Glob V) (N:Mem V K w):Calls Tryz.prog 178 #[.string s] w (fun ee w'=>ee=.returned (.bool (yO s))/\Mem V K w'):=j9z G N
theorem x2k {V:Fz} {K:List Res} {w:World} {v0:Value} {l:List Bs} (m:SliceOf RStr V 1 v0 l) (G:Glob V) (N:Mem V K w) :
  Calls prog 84 #[v0] w (fun ee w'=>ee=.returned (.bool (pK yT [] l))/\Mem V K w'):=by
 obtain ⟨D,c0,rfl,z,q⟩:=m.fm
 refine zI func84 ntmps84 fun Q hQ a J=>?_
 refine MkM fun y w N a J=>?_
 refine go fun a J=>?_
 refine zR (J.ks [3,7,8]) N (fun R mm a w=>∃(i:Nat) (ds:List Bs),mm=l.length - i/\R V [(9,.int .i64 i)] [(0,.mp y (jG ds))] a w/\(pK yT [] l=pK yT ds (l.drop i))) (l.length - 0) ⟨0,[],rfl,⟨J.pk,N⟩,rfl⟩ ?_
 clear N J
 rintro mm a w ⟨i,ds,p,⟨J,N⟩,g⟩ C n
 replace N:=N.nf
 by_cases r:i < l.length
 refine go fun a J=>?_
 obtain ⟨B,rfl,f,e,h,t,s,k⟩:=m.el q r
 obtain rfl:h=[.string f]:=k
 refine zX call138 (fun j w N a J=>?_) (fun j w N a J=>?_) (c:=tH G N)
 refine go fun a J=>?_
 rcases d:yV ((jG ds)) f with _ | v
 have b:=congrArg (zK false (.bool false)) d
 refine Qq (fun a J=>?_) (o:=by exact fun J O=>Ok.cast (qG 0 runUnderlying121 runUnderlying9 zeroValue4 J O rfl rfl rfl) (show zK false (.bool false) (yV ((jG ds)) f)=.bool false from b))
 refine z5h 0 runUnderlying121 runUnderlying9 fun w N a J=>?_
 rw [<- uU] at N
 refine go fun a J=>?_
 refine n _ _ _ (by subst p;omega) ⟨(i+1),(ds++[f]),rfl,⟨J.pk,N⟩,?_⟩
 rw [g,zA e];have A:=z6v d;simp [pK, *]
 obtain ⟨rfl,u⟩:=z6w d
 have b:=congrArg (zK false (.bool false)) d
 refine Qq (fun a J=>?_) (o:=by exact fun J O=>Ok.cast (qG 0 runUnderlying121 runUnderlying9 zeroValue4 J O rfl rfl rfl) (show zK false (.bool false) (yV ((jG ds)) f)=.bool true from b))
 refine zF ?_
 replace N:=N.dl [0]
 exact zJ N (by rw [g,zA e];simp [pK, *])
 refine zF ?_
 replace N:=N.dl [0]
 exact zJ N (by rw [g,zA e];simp [pK, *])
 refine zF ?_
 replace N:=N.dl [0]
 exact zJ N (by rw [g,zE r];rfl)
section
variable {V:Fz} {K:List Res} {w:World}
theorem q4u {b:Nat} {m:List (Bs×Value)} {l:List (Bs×Data)} {name:Bs} {d2:List Value} {x:Data} (g:MapRel (RVa RData V) m l) (k:RData V d2 x) (N:Mem V (.mp b m::K) w) :
  Calls prog 190 #[.map (some b),.string name,.agg d2.toArray] w (fun ee w'=>ee=.returned (.bool ((zW l name).isNone))/\Mem V (.mp b (vI m name (.agg d2.toArray))::K) w'):=by
 obtain ⟨s1,rfl,h2⟩:=id k
 obtain ⟨A,c4,rfl,u,v⟩:=h2.fm
 refine zI func190 ntmps190 fun Q hQ a J=>?_
 refine Bx fun z w N a J=>?_
 refine go fun a J=>?_
 rcases c:yV (m) name with _ | r
 have d:=congrArg (zK true (.agg #[.string ⟨#[]⟩,.slice none 0 0])) c
 refine Qq (fun a J=>?_) (o:=by exact fun J O=>Ok.cast (qG 1 runUnderlying101 runUnderlying9 zeroValue133 J O rfl rfl rfl) (show zK true (.agg #[.string ⟨#[]⟩,.slice none 0 0]) (yV (m) name)=.tuple #[.agg #[.string ⟨#[]⟩,.slice none 0 0],.bool false] from d))
 refine Alc fun s w N a J=>?_
 refine Sto 0 fun w N a J=>?_
 refine z5h 2 runUnderlying101 runUnderlying9 fun w N a J=>?_
 refine zF ?_
 replace N:=N.dl [1,0]
 refine ⟨?_,?_⟩
 rw [g.none c];rfl
 simp only [vI,c];exact N
 obtain ⟨h,f,n,rfl,e⟩:=g.get c
 obtain ⟨y,rfl,i⟩:=id e
 obtain ⟨j,c24,rfl,p,q⟩:=i.fm
 have d:=congrArg (zK true (.agg #[.string ⟨#[]⟩,.slice none 0 0])) c
 refine Qq (fun a J=>?_) (o:=by exact fun J O=>Ok.cast (qG 1 runUnderlying101 runUnderlying9 zeroValue133 J O rfl rfl rfl) (show zK true (.agg #[.string ⟨#[]⟩,.slice none 0 0]) (yV (m) name)=.tuple #[.agg #[.string h.name,.slice j h.cons.length c24],.bool true] from d))
 refine Alc fun t w N a J=>?_
 refine Sto 0 fun w N a J=>?_
 refine zF ?_
 replace N:=N.dl [1,0]
 refine ⟨?_,?_⟩
 rw [f];rfl
 simp only [vI,c];exact N
theorem pJ {b:Nat} {m:List (Bs×Value)} {l:List (Bs×Maker)} {name:Bs} {d2:List Value} {x:Maker} (h:MapRel (RVa RMaker V) m l) (p:RMaker V d2 x) (N:Mem V (.mp b m::K) w) :
  Calls prog 191 #[.map (some b),.string name,.agg d2.toArray] w (fun ee w'=>ee=.returned (.bool ((zW l name).isNone))/\Mem V (.mp b (vI m name (.agg d2.toArray))::K) w'):=by
 obtain ⟨E,rfl,h2⟩:=id p
 obtain ⟨s3,rfl,A⟩:=id h2
 obtain ⟨G,F,rfl,B,C⟩:=A.fm
 refine zI func191 ntmps191 fun Q hQ a J=>?_
 refine Bx fun u w N a J=>?_
 refine go fun a J=>?_
 rcases c:yV (m) name with _ | t
 have d:=congrArg (zK true (.agg #[.string ⟨#[]⟩,.string ⟨#[]⟩,.slice none 0 0])) c
 refine Qq (fun a J=>?_) (o:=by exact fun J O=>Ok.cast (qG 1 runUnderlying102 runUnderlying9 zeroValue190 J O rfl rfl rfl) (show zK true (.agg #[.string ⟨#[]⟩,.string ⟨#[]⟩,.slice none 0 0]) (yV (m) name)=.tuple #[.agg #[.string ⟨#[]⟩,.string ⟨#[]⟩,.slice none 0 0],.bool false] from d))
 refine Alc fun v w N a J=>?_
 refine Sto 0 fun w N a J=>?_
 refine z5h 2 runUnderlying102 runUnderlying9 fun w N a J=>?_
 refine zF ?_
 replace N:=N.dl [1,0]
 refine ⟨?_,?_⟩
 rw [h.none c];rfl
 simp only [vI,c];exact N
 obtain ⟨e,g,q,rfl,f⟩:=h.get c
 obtain ⟨y,rfl,j⟩:=id f
 obtain ⟨D,rfl,k⟩:=id j
 obtain ⟨n,i,rfl,r,s⟩:=k.fm
 have d:=congrArg (zK true (.agg #[.string ⟨#[]⟩,.string ⟨#[]⟩,.slice none 0 0])) c
 refine Qq (fun a J=>?_) (o:=by exact fun J O=>Ok.cast (qG 1 runUnderlying102 runUnderlying9 zeroValue190 J O rfl rfl rfl) (show zK true (.agg #[.string ⟨#[]⟩,.string ⟨#[]⟩,.slice none 0 0]) (yV (m) name)=.tuple #[.agg #[.string e.data,.string e.con.name,.slice n e.con.fields.length i],.bool true] from d))
 refine Alc fun z w N a J=>?_
 refine Sto 0 fun w N a J=>?_
 refine zF ?_
 replace N:=N.dl [1,0]
 refine ⟨?_,?_⟩
 rw [g];rfl
 simp only [vI,c];exact N
theorem q8n {b:Nat} {m:List (Bs×Value)} {l:List (Bs×Fun)} {name:Bs} {d2:List Value} {x:Fun} (h:MapRel (RVa RFun V) m l) (s:RFun V d2 x) (N:Mem V (.mp b m::K) w) :
  Calls prog 192 #[.map (some b),.string name,.agg d2.toArray] w (fun ee w'=>ee=.returned (.bool ((zW l name).isNone))/\Mem V (.mp b (vI m name (.agg d2.toArray))::K) w'):=by
 obtain ⟨s1,b7,rfl,h2,Z⟩:=id s
 obtain ⟨p3,c4,rfl,a0,b0⟩:=h2.fm
 obtain ⟨c0,S,d0,T,rfl,u,U,W,y,D,z,E⟩:=REx.fm Z
 refine zI func192 ntmps192 fun Q hQ a J=>?_
 refine Bx fun L w N a J=>?_
 refine go fun a J=>?_
 rcases c:yV (m) name with _ | I
 have e:=congrArg (zK true (.agg #[.string ⟨#[]⟩,.slice none 0 0,.string ⟨#[]⟩,.int .i64 ((0:Nat):Int),.int .i64 ((0:Nat):Int),.string ⟨#[]⟩,.slice none 0 0,.slice none 0 0])) c
 refine Qq (fun a J=>?_) (o:=by exact fun J O=>Ok.cast (qG 1 runUnderlying103 runUnderlying9 zeroValue68 J O rfl rfl rfl) (show zK true (.agg #[.string ⟨#[]⟩,.slice none 0 0,.string ⟨#[]⟩,.int .i64 ((0:Nat):Int),.int .i64 ((0:Nat):Int),.string ⟨#[]⟩,.slice none 0 0,.slice none 0 0]) (yV (m) name)=.tuple #[.agg #[.string ⟨#[]⟩,.slice none 0 0,.string ⟨#[]⟩,.int .i64 ((0:Nat):Int),.int .i64 ((0:Nat):Int),.string ⟨#[]⟩,.slice none 0 0,.slice none 0 0],.bool false] from e))
 refine Alc fun M w N a J=>?_
 refine Sto 0 fun w N a J=>?_
 refine z5h 2 runUnderlying103 runUnderlying9 fun w N a J=>?_
 refine zF ?_
 replace N:=N.dl [1,0]
 refine ⟨?_,?_⟩
 rw [h.none c];rfl
 simp only [vI,c];exact N
 obtain ⟨d,g,t,rfl,f⟩:=h.get c
 obtain ⟨f0,P,rfl,k,n⟩:=id f
 obtain ⟨p,i,rfl,A,F⟩:=k.fm
 obtain ⟨q,j,r,c53,rfl,v,X,Y,B,G,C,H⟩:=REx.fm n
 have e:=congrArg (zK true (.agg #[.string ⟨#[]⟩,.slice none 0 0,.string ⟨#[]⟩,.int .i64 ((0:Nat):Int),.int .i64 ((0:Nat):Int),.string ⟨#[]⟩,.slice none 0 0,.slice none 0 0])) c
 refine Qq (fun a J=>?_) (o:=by exact fun J O=>Ok.cast (qG 1 runUnderlying103 runUnderlying9 zeroValue68 J O rfl rfl rfl) (show zK true (.agg #[.string ⟨#[]⟩,.slice none 0 0,.string ⟨#[]⟩,.int .i64 ((0:Nat):Int),.int .i64 ((0:Nat):Int),.string ⟨#[]⟩,.slice none 0 0,.slice none 0 0]) (yV (m) name)=.tuple #[.agg #[.string d.name,.slice p d.params.length i,.string d.result,.int .i64 (d.body.kind),.int .i64 (d.body.num),.string d.body.name,.slice q d.body.args.length j,.slice r d.body.arms.length c53],.bool true] from e))
 refine Alc fun R w N a J=>?_
 refine Sto 0 fun w N a J=>?_
 refine zF ?_
 replace N:=N.dl [1,0]
 refine ⟨?_,?_⟩
 rw [g];rfl
 simp only [vI,c];exact N
theorem j2y {b:Nat} {m:List (Bs×Value)} {l:List (Bs×Bs)} {name:Bs} {x:Bs} (f:MapRel RVs m l) (N:Mem V (.mp b m::K) w) :
  Calls prog 193 #[.map (some b),.string name,.string x] w (fun ee w'=>ee=.returned (.bool ((zW l name).isNone))/\Mem V (.mp b (vI m name (.string x))::K) w'):=by
 refine zI func193 ntmps193 fun Q hQ a J=>?_
 refine go fun a J=>?_
 rcases c:yV (m) name with _ | g
 have d:=congrArg (zK true (.string ⟨#[]⟩)) c
 refine Qq (fun a J=>?_) (o:=by exact fun J O=>Ok.cast (qG 0 runUnderlying104 runUnderlying9 zeroValue9 J O rfl rfl rfl) (show zK true (.string ⟨#[]⟩) (yV (m) name)=.tuple #[.string ⟨#[]⟩,.bool false] from d))
 refine z5h 0 runUnderlying104 runUnderlying9 fun w N a J=>?_
 refine zF ?_
 refine ⟨?_,?_⟩
 rw [f.none c];rfl
 simp only [vI,c];exact N
 obtain ⟨h,e,rfl⟩:=f.get c
 have d:=congrArg (zK true (.string ⟨#[]⟩)) c
 refine Qq (fun a J=>?_) (o:=by exact fun J O=>Ok.cast (qG 0 runUnderlying104 runUnderlying9 zeroValue9 J O rfl rfl rfl) (show zK true (.string ⟨#[]⟩) (yV (m) name)=.tuple #[.string h,.bool true] from d))
 refine zF ?_
 refine ⟨?_,?_⟩
 rw [e];rfl
 simp only [vI,c];exact N
end
theorem z8m {V:Fz} {K:List Res} {w:World} {M:Addr} {T:Table} {name:Bs} (n:RTable V M T) (N:Mem V K w) :
  Calls prog 80 #[.pointer (some M),.string name] w (fun ee w'=>ee=.returned (.bool (pP T name))/\Mem V K w'):=by
 obtain ⟨p,m1,m2,m3,m4,i,d6,d7,d8,k,l,d,g,e,E,H,F,I,G,L⟩:=n.ex
 obtain ⟨b0,c24,c0,U,d0,W,f0,c42,rfl,X,Y,Z,a0,r,y,s,z,t,A,u,B⟩:=RCore.fm d
 refine zI func80 ntmps80 fun Q hQ a J=>?_
 refine go fun a J=>?_
 rcases c:yV (i) name with _ | P
 have b:=congrArg (zK true (.agg #[.string ⟨#[]⟩,.slice none 0 0])) c
 refine Qq (fun a J=>?_) (o:=by exact fun J O=>Ok.cast (yC runUnderlying101 runUnderlying9 zeroValue133 J O rfl rfl g) (show zK true (.agg #[.string ⟨#[]⟩,.slice none 0 0]) (yV (i) name)=.tuple #[.agg #[.string ⟨#[]⟩,.slice none 0 0],.bool false] from b))
 refine Alc fun R w N a J=>?_
 refine Sto 0 fun w N a J=>?_
 refine Qq (fun a J=>?_) (o:=by exact fun J O=>z3f J rfl rfl)
 refine zF ?_
 replace N:=N.dl [0]
 exact zJ N (by have e_:=MapRel.none e c;simp [pP,yL, *] <;> rfl)
 obtain ⟨h,D,q,rfl,f⟩:=e.get c
 obtain ⟨g0,rfl,j⟩:=id f
 obtain ⟨m,c58,rfl,v,C⟩:=j.fm
 have b:=congrArg (zK true (.agg #[.string ⟨#[]⟩,.slice none 0 0])) c
 refine Qq (fun a J=>?_) (o:=by exact fun J O=>Ok.cast (yC runUnderlying101 runUnderlying9 zeroValue133 J O rfl rfl g) (show zK true (.agg #[.string ⟨#[]⟩,.slice none 0 0]) (yV (i) name)=.tuple #[.agg #[.string h.name,.slice m h.cons.length c58],.bool true] from b))
 refine Alc fun S w N a J=>?_
 refine Sto 0 fun w N a J=>?_
 refine zF ?_
 replace N:=N.dl [0]
 exact zJ N (by simp [pP,yL, *] <;> rfl)
theorem sA {V:Fz} {K:List Res} {w:World} {d0:List Value} {e:Ex} {nm:Bool} {sn:Bool} {ar:Int} {rm:Int} (b:REx V d0 e) (N:Mem V K w) :
  Calls prog 186 #[.agg d0.toArray,.bool nm,.bool sn,.int .i64 ar,.int .i64 rm] w (fun ee w'=>ee=.returned (.bool (qX e nm sn ar rm))/\Mem V K w'):=by
 obtain ⟨H,c4,I,h,rfl,c,h2,G,E,F,d,f⟩:=REx.fm b
 refine zI func186 ntmps186 fun Q hQ a J=>?_
 refine Bx fun g w N a J=>?_
 refine go fun a J=>?_
 cases nm
 by_cases i:e.num=0
 refine go fun a J=>?_
 cases sn
 by_cases j:e.name=(⟨#[]⟩:Bs)
 by_cases k:ar < 0
 by_cases l:rm < 0
 refine zF ?_
 replace N:=N.dl [0]
 rotate_left
 refine Qq (fun a J=>?_) (o:=by exact fun J O=>aR J rfl rfl)
 refine zF ?_
 replace N:=N.dl [0]
 rotate_left
 by_cases m:((e.args.length:Nat):Int)=ar
 refine go fun a J=>?_
 by_cases n:rm < 0
 refine zF ?_
 replace N:=N.dl [0]
 rotate_left
 refine Qq (fun a J=>?_) (o:=by exact fun J O=>aR J rfl rfl)
 refine zF ?_
 replace N:=N.dl [0]
 rotate_left
 refine zF ?_
 replace N:=N.dl [0]
 rotate_left
 refine zF ?_
 replace N:=N.dl [0]
 rotate_left
 by_cases p:ar < 0
 by_cases q:rm < 0
 refine zF ?_
 replace N:=N.dl [0]
 rotate_left
 refine Qq (fun a J=>?_) (o:=by exact fun J O=>aR J rfl rfl)
 refine zF ?_
 replace N:=N.dl [0]
 rotate_left
 by_cases r:((e.args.length:Nat):Int)=ar
 by_cases s:rm < 0
 refine zF ?_
 replace N:=N.dl [0]
 rotate_left
 refine Qq (fun a J=>?_) (o:=by exact fun J O=>aR J rfl rfl)
 refine zF ?_
 replace N:=N.dl [0]
 rotate_left
 refine zF ?_
 replace N:=N.dl [0]
 rotate_left
 refine zF ?_
 replace N:=N.dl [0]
 rotate_left
 refine go fun a J=>?_
 cases sn
 by_cases t:e.name=(⟨#[]⟩:Bs)
 by_cases u:ar < 0
 by_cases v:rm < 0
 refine zF ?_
 replace N:=N.dl [0]
 rotate_left
 refine Qq (fun a J=>?_) (o:=by exact fun J O=>aR J rfl rfl)
 refine zF ?_
 replace N:=N.dl [0]
 rotate_left
 by_cases y:((e.args.length:Nat):Int)=ar
 refine go fun a J=>?_
 by_cases z:rm < 0
 refine zF ?_
 replace N:=N.dl [0]
 rotate_left
 refine Qq (fun a J=>?_) (o:=by exact fun J O=>aR J rfl rfl)
 refine zF ?_
 replace N:=N.dl [0]
 rotate_left
 refine zF ?_
 replace N:=N.dl [0]
 rotate_left
 refine zF ?_
 replace N:=N.dl [0]
 rotate_left
 by_cases A:ar < 0
 by_cases B:rm < 0
 refine zF ?_
 replace N:=N.dl [0]
 rotate_left
 refine Qq (fun a J=>?_) (o:=by exact fun J O=>aR J rfl rfl)
 refine zF ?_
 replace N:=N.dl [0]
 rotate_left
 by_cases C:((e.args.length:Nat):Int)=ar
 by_cases D:rm < 0
 refine zF ?_
 replace N:=N.dl [0]
 rotate_left
 refine Qq (fun a J=>?_) (o:=by exact fun J O=>aR J rfl rfl)
 refine zF ?_
 replace N:=N.dl [0]
 rotate_left
 refine zF ?_
 replace N:=N.dl [0]
 rotate_left
 all_goals (exact zJ N (by simp [qX, *] <;> omega))
section
variable {V:Fz} {K:List Res} {w:World}
theorem x0s {I:Addr} {T:Table} {d1:List Value} {e:Ex} {b:Nat} {s:Scope} (j:RTable V I T) (g:REx V d1 e) (N:Mem V (.mp b (xA s)::K) w) :
  Calls prog 139 #[.pointer (some I),.agg d1.toArray,.map (some b)] w (fun ee w'=>ee=.returned (.string (uL e))/\Mem V (.mp b (xA s)::K) w'):=by
 obtain ⟨k,m1,m2,m3,m4,d5,d6,d7,d8,h,i,f,b0,E,B,F,C,G,D,H⟩:=j.ex
 obtain ⟨c0,c24,d0,M,f0,P,g0,c42,rfl,U,W,X,Y,m,t,n,u,o,v,p,y⟩:=RCore.fm f
 obtain ⟨h0,R,i0,S,rfl,l,Z,a0,q,z,r,A⟩:=REx.fm g
 refine zI func139 ntmps139 fun Q hQ a J=>?_
 refine Bx fun L w N a J=>?_
 refine zX call186 (fun d w N a J=>?_) (fun d w N a J=>?_) (c:=sA g N)
 refine zF ?_
 replace N:=N.dl [0]
 exact tO N (by simp [uL,sNo,yL,d])
 refine zF ?_
 replace N:=N.dl [0]
 exact tO N (by simp [uL,sNo,yL,d])
theorem j0a {S:Addr} {T:Table} {d1:List Value} {e:Ex} {b:Nat} {s:Scope} (m:RTable V S T) (j:REx V d1 e) (N:Mem V (.mp b (xA s)::K) w) :
  Calls prog 140 #[.pointer (some S),.agg d1.toArray,.map (some b)] w (fun ee w'=>ee=.returned (.string (nS e s))/\Mem V (.mp b (xA s)::K) w'):=by
 obtain ⟨p,m1,m2,m3,m4,d5,d6,d7,d8,k,l,h,j0,L,G,M,H,P,I,R⟩:=m.ex
 obtain ⟨k0,c24,l0,X,m0,Y,n0,c42,rfl,c0,d0,f0,g0,r,A,t,B,u,C,v,D⟩:=RCore.fm h
 obtain ⟨o0,Z,q0,a0,rfl,q,h0,i0,y,E,z,F⟩:=REx.fm j
 refine zI func140 ntmps140 fun Q hQ a J=>?_
 refine Bx fun W w N a J=>?_
 refine zX call186 (fun f w N a J=>?_) (fun f w N a J=>?_) (c:=sA j N)
 refine go fun a J=>?_
 rcases g:yV ((xA s)) e.name with _ | U
 have d:=congrArg (zK false (.string ⟨#[]⟩)) g
 refine Qq (fun a J=>?_) (o:=by exact fun J O=>Ok.cast (qG 1 runUnderlying157 runUnderlying9 zeroValue9 J O rfl rfl rfl) (show zK false (.string ⟨#[]⟩) (yV ((xA s)) e.name)=.string ⟨#[]⟩ from d))
 refine zF ?_
 replace N:=N.dl [0]
 exact tO N (by have e_:=x1m g;simp [nS,sNo,f,e_])
 obtain ⟨n,i,rfl⟩:=x1n g
 have d:=congrArg (zK false (.string ⟨#[]⟩)) g
 refine Qq (fun a J=>?_) (o:=by exact fun J O=>Ok.cast (qG 1 runUnderlying157 runUnderlying9 zeroValue9 J O rfl rfl rfl) (show zK false (.string ⟨#[]⟩) (yV ((xA s)) e.name)=.string n from d))
 refine zF ?_
 replace N:=N.dl [0]
 exact tO N (by simp [nS,sNo,f,i])
 refine zF ?_
 replace N:=N.dl [0]
 exact tO N (by simp [nS,sNo,f])
theorem j9x {U:Addr} {T:Table} {d1:List Value} {e:Ex} {b:Nat} {s:Scope} (q:RTable V U T) (l:REx V d1 e) (N:Mem V (.mp b (xA s)::K) w) :
  Calls prog 141 #[.pointer (some U),.agg d1.toArray,.map (some b)] w (fun ee w'=>ee=.returned (.string (z1e T e))/\Mem V (.mp b (xA s)::K) w'):=by
 obtain ⟨t,m1,m2,m3,m4,d5,d6,d7,m,n,p,h,k0,P,L,R,M,S,i,j⟩:=q.ex
 obtain ⟨l0,c24,m0,Y,n0,Z,o0,c42,rfl,d0,f0,g0,h0,v,D,y,E,z,F,A,G⟩:=RCore.fm h
 obtain ⟨q0,a0,r0,b0,rfl,u,i0,j0,B,H,C,I⟩:=REx.fm l
 refine zI func141 ntmps141 fun Q hQ a J=>?_
 refine Bx fun X w N a J=>?_
 refine zX call186 (fun f w N a J=>?_) (fun f w N a J=>?_) (c:=sA l N)
 refine Reg [1,1,1,2,1,2,2,1] [0,1] fun w N a J=>?_
 refine go fun a J=>?_
 rcases g:yV (m) e.name with _ | W
 have d:=congrArg (zK false (.string ⟨#[]⟩)) g
 refine Qq (fun a J=>?_) (o:=by exact fun J O=>Ok.cast (yC runUnderlying104 runUnderlying9 zeroValue9 J O rfl rfl i) (show zK false (.string ⟨#[]⟩) (yV (m) e.name)=.string ⟨#[]⟩ from d))
 refine zF ?_
 replace N:=N.dl [0]
 exact tO N (by have e_:=MapRel.none j g;simp [z1e,sNo,f,e_])
 obtain ⟨r,k,rfl⟩:=j.get g
 have d:=congrArg (zK false (.string ⟨#[]⟩)) g
 refine Qq (fun a J=>?_) (o:=by exact fun J O=>Ok.cast (yC runUnderlying104 runUnderlying9 zeroValue9 J O rfl rfl i) (show zK false (.string ⟨#[]⟩) (yV (m) e.name)=.string r from d))
 refine zF ?_
 replace N:=N.dl [0]
 exact tO N (by simp [z1e,sNo,f,k])
 refine zF ?_
 replace N:=N.dl [0]
 exact tO N (by simp [z1e,sNo,f])
theorem j1a {p0:Addr} {T:Table} {v1:Value} {xs:List Ex} {b:Nat} {s:Scope} {v3:Value} {ts:List Bs} (v:RTable V p0 T) (m:SliceOf REx V 5 v1 xs) (l:SliceOf RStr V 1 v3 ts) (ih:∀x:Ex,x∈xs->∀{V:Fz} {K:List Res} {w:World} {p:Addr} {d:List Value} {b:Nat} {s:Scope},RTable V p T->REx V d x->Mem V (.mp b (xA s)::K) w->Calls prog 86 #[.pointer (some p),.agg d.toArray,.map (some b)] w (fun ee w'=>ee=.returned (.string (zH T x s).1)/\Mem V (.mp b (xA (zH T x s).2)::K) w')) (N:Mem V (.mp b (xA s)::K) w) :
  Calls prog 187 #[.pointer (some p0),v1,.map (some b),v3] w (fun ee w'=>ee=.returned (.bool ((kJ T xs s ts).1))/\Mem V (.mp b (xA (kJ T xs s ts).2)::K) w'):=by
 obtain ⟨E,m1,m2,m3,m4,d5,d6,d7,d8,z,A,g,I0,j0,g0,k0,h0,l0,i0,m0⟩:=v.ex
 obtain ⟨J0,c24,K0,s0,L0,t0,M0,c42,rfl,w0,x0,y0,z0,P,Z,S,a0,U,b0,W,c0⟩:=RCore.fm g
 obtain ⟨p1,c1,rfl,F0,C⟩:=m.fm
 obtain ⟨p3,c3,rfl,G0,D⟩:=l.fm
 refine zI func187 ntmps187 fun Q hQ a J=>?_
 by_cases A0:xs.length=ts.length
 refine go fun a J=>?_
 refine zR (J.ks [0,2,3,17,18]) N (fun R mm a w=>∃(i:Nat) (q:Scope),mm=xs.length - i/\R V [(19,.int .i64 i)] [(0,.mp b (xA q))] a w/\(kJ T xs s ts=allQ T (xs.drop i) q (ts.drop i))) (xs.length - 0) ⟨0,s,rfl,⟨J.pk,N⟩,by simp [kJ, *]⟩ ?_
 clear N J
 rintro mm a w ⟨i,q,B,⟨J,N⟩,e⟩ q0 r
 replace N:=N.nf
 by_cases o:i < xs.length
 refine go fun a J=>?_
 obtain ⟨P0,rfl,h,f,F,L,G,j⟩:=m.el C o
 obtain ⟨N0,c68,O0,u0,rfl,I,B0,C0,X,d0,Y,f0⟩:=REx.fm j
 refine Alc fun r0 w N a J=>?_
 refine Sto 0 fun w N a J=>?_
 replace N:=N.pl 1
 refine zO call86 (fun w N a J=>?_) (c:=ih _ (by exact mgQ f) v j N)
 by_cases D0:(zH T h q).1=(⟨#[]⟩:Bs)
 refine zF ?_
 replace N:=N.dl [1]
 have hr_:kJ T xs s ts=(false,(zH T h q).2):=by
  rw [e,zA f];simp [allQ,sNo, *]
 show _/\_;rw [hr_];exact ⟨rfl,N⟩
 refine go fun a J=>?_
 have t:i < ts.length:=by omega
 obtain ⟨Q0,rfl,y,k,n,M,H,u⟩:=l.el D t
 obtain rfl:n=[.string y]:=u
 by_cases E0:(zH T h q).1=y
 refine go fun a J=>?_
 replace N:=N.dl [1]
 refine r _ _ _ (by subst B;omega) ⟨(i+1),((zH T h q).2),rfl,⟨J.pk,N⟩,?_⟩
 rw [e,zA f,zA k];rw [z7i,if_neg (by rintro (h_ | h_) <;> simp_all [sNo])]
 refine zF ?_
 replace N:=N.dl [1]
 have hr_:kJ T xs s ts=(false,(zH T h q).2):=by
  rw [e,zA f,zA k];simp [allQ,sNo, *]
 show _/\_;rw [hr_];exact ⟨rfl,N⟩
 refine zF ?_
 have hr_:kJ T xs s ts=(true,q):=by
  rw [e,zE o];rfl
 show _/\_;rw [hr_];exact ⟨rfl,N⟩
 refine zF ?_
 have hr_:kJ T xs s ts=(false,s):=by
  simp [kJ, *]
 show _/\_;rw [hr_];exact ⟨rfl,N⟩
end
theorem con_ok {V:Fz} {K:List Res} {w:World} {p0:Addr} {T:Table} {d1:List Value} {e:Ex} {b:Nat} {s:Scope} (r:RTable V p0 T) (t:REx V d1 e) (ih:∀x:Ex,x.sz < e.sz->∀{V:Fz} {K:List Res} {w:World} {p:Addr} {d:List Value} {b:Nat} {s:Scope},RTable V p T->REx V d x->Mem V (.mp b (xA s)::K) w->Calls prog 86 #[.pointer (some p),.agg d.toArray,.map (some b)] w (fun ee w'=>ee=.returned (.string (zH T x s).1)/\Mem V (.mp b (xA (zH T x s).2)::K) w')) (N:Mem V (.mp b (xA s)::K) w) :
  Calls prog 142 #[.pointer (some p0),.agg d1.toArray,.map (some b)] w (fun ee w'=>ee=.returned (.string ((z0r T e s).1))/\Mem V (.mp b (xA (z0r T e s).2)::K) w'):=by
 obtain ⟨C,m1,m2,m3,m4,d5,u,d7,d8,z,A,i,A0,d0,j,k,b0,f0,c0,g0⟩:=r.ex
 obtain ⟨B0,c24,C0,n0,D0,o0,E0,c42,rfl,s0,t0,u0,w0,F,R,G,S,H,U,I,W⟩:=RCore.fm i
 obtain ⟨F0,q0,G0,r0,rfl,E,v,x0,L,X,M,Y⟩:=REx.fm t
 refine zI func142 ntmps142 fun Q hQ a J=>?_
 refine Bx fun j0 w N a J=>?_
 refine Reg [1,1,1,2,1,2,2,1,1,1,0,0,1] [0,1] fun w N a J=>?_
 refine go fun a J=>?_
 rcases g:yV (u) e.name with _ | i0
 have f:=congrArg (zK true (.agg #[.string ⟨#[]⟩,.string ⟨#[]⟩,.slice none 0 0])) g
 refine Qq (fun a J=>?_) (o:=by exact fun J O=>Ok.cast (yC runUnderlying102 runUnderlying9 zeroValue190 J O rfl rfl j) (show zK true (.agg #[.string ⟨#[]⟩,.string ⟨#[]⟩,.slice none 0 0]) (yV (u) e.name)=.tuple #[.agg #[.string ⟨#[]⟩,.string ⟨#[]⟩,.slice none 0 0],.bool false] from f))
 refine Alc fun k0 w N a J=>?_
 refine Sto 0 fun w N a J=>?_
 refine zF ?_
 replace N:=N.dl [1,0]
 have hr_:z0r T e s=((⟨#[]⟩:Bs),s):=by
  have e_:=MapRel.none k g
  simp [z0r,sNo, *]
 show _/\_;rw [hr_];exact ⟨rfl,N⟩
 obtain ⟨h,a0,D,rfl,q⟩:=k.get g
 obtain ⟨l0,rfl,y⟩:=id q
 obtain ⟨H0,rfl,l⟩:=id y
 obtain ⟨B,c76,rfl,P,Z⟩:=l.fm
 have f:=congrArg (zK true (.agg #[.string ⟨#[]⟩,.string ⟨#[]⟩,.slice none 0 0])) g
 refine Qq (fun a J=>?_) (o:=by exact fun J O=>Ok.cast (yC runUnderlying102 runUnderlying9 zeroValue190 J O rfl rfl j) (show zK true (.agg #[.string ⟨#[]⟩,.string ⟨#[]⟩,.slice none 0 0]) (yV (u) e.name)=.tuple #[.agg #[.string h.data,.string h.con.name,.slice B h.con.fields.length c76],.bool true] from f))
 refine Alc fun m0 w N a J=>?_
 refine Sto 0 fun w N a J=>?_
 refine zX call186 (fun m w N a J=>?_) (fun m w N a J=>?_) (c:=sA t N)
 replace N:=N.pl 2
 refine zX call187 (fun n w N a J=>?_) (fun n w N a J=>?_) (c:=j1a (T:=T) r v l (fun x hx=>ih x (Ex.lt_args hx)) N)
 refine zF ?_
 replace N:=N.dl [2,1]
 have hr_:z0r T e s=(h.data,(kJ T e.args s h.con.fields).2):=by
  simp [z0r,sNo, *]
 show _/\_;rw [hr_];exact ⟨rfl,N⟩
 refine zF ?_
 replace N:=N.dl [2,1]
 have hr_:z0r T e s=((⟨#[]⟩:Bs),(kJ T e.args s h.con.fields).2):=by
  simp [z0r,sNo, *]
 show _/\_;rw [hr_];exact ⟨rfl,N⟩
 refine zF ?_
 replace N:=N.dl [1,0]
 have hr_:z0r T e s=((⟨#[]⟩:Bs),s):=by
  simp [z0r,sNo, *]
 show _/\_;rw [hr_];exact ⟨rfl,N⟩
theorem z9b {V:Fz} {K:List Res} {w:World} (N:Mem V K w) :
  Calls Tryz.prog 188 #[] w (fun ee w'=>∃y:Fz×List Value,ee=.returned (.agg y.2.toArray)/\(V.Le y.1/\RData y.1 y.2 truthsD)/\Mem y.1 K w'):=by
 refine zI Tryz.func188 Tryz.ntmps188 fun Q hQ a J=>?_
 refine Alc fun n w N a J=>?_
 refine zU fun a J=>?_
 refine zU fun a J=>?_
 refine yK fun v4 w N a J=>?_
 have b:=N
 clear N
 obtain ⟨f,j,N,e⟩:=b.freezeRow (i:=0) rfl
 clear b
 replace N:=N.nf
 have d:SliceOf RCon f 2 _ (truthsD.cons):=⟨_,e,⟨[_,_],[_,_],rfl,rfl,⟨_,rfl,SliceOf.nil 1⟩,[_,_],[],rfl,rfl,⟨_,rfl,SliceOf.nil 1⟩,rfl⟩⟩
 obtain ⟨o,m,h,k,l⟩:=d.form (by decide)
 have c:=N
 clear N
 subst h
 have N:=c
 clear c
 refine zU fun a J=>?_
 refine Sto 0 fun w N a J=>?_
 refine go fun a J=>?_
 have g:=N
 replace N:=N.dl [0]
 refine qI (N:=g) ?_
 exact ⟨(f,_),rfl,⟨j,_,rfl,d⟩,N⟩
theorem op_ok {V:Fz} {K:List Res} {w:World} {p0:Addr} {T:Table} {d1:List Value} {e:Ex} {b:Nat} {s:Scope} (r:RTable V p0 T) (j:REx V d1 e) (ih:∀x:Ex,x.sz < e.sz->∀{V:Fz} {K:List Res} {w:World} {p:Addr} {d:List Value} {b:Nat} {s:Scope},RTable V p T->REx V d x->Mem V (.mp b (xA s)::K) w->Calls prog 86 #[.pointer (some p),.agg d.toArray,.map (some b)] w (fun ee w'=>ee=.returned (.string (zH T x s).1)/\Mem V (.mp b (xA (zH T x s).2)::K) w')) (N:Mem V (.mp b (xA s)::K) w) :
  Calls prog 146 #[.pointer (some p0),.agg d1.toArray,.map (some b)] w (fun ee w'=>ee=.returned (.string ((nZ T e s).1))/\Mem V (.mp b (xA (nZ T e s).2)::K) w'):=by
 obtain ⟨Y,m1,m2,m3,m4,d5,d6,d7,d8,g,H,l,a1,w0,s0,x0,t0,y0,u0,z0⟩:=r.ex
 obtain ⟨b1,c24,c1,H0,e1,I0,f1,c42,rfl,N0,O0,P0,Q0,c0,k0,d0,l0,f0,m0,g0,n0⟩:=RCore.fm l
 obtain ⟨g1,J0,h1,K0,rfl,b0,y,R0,h0,o0,i0,q0⟩:=REx.fm j
 refine zI func146 ntmps146 fun Q hQ a J=>?_
 refine Bx fun G0 w N a J=>?_
 refine zX call186 (fun C w N a J=>?_) (fun C w N a J=>?_) (c:=sA j N)
 refine yK fun j1 w N a J=>?_
 have t:=N
 clear N
 obtain ⟨G,f,N,q⟩:=t.freezeRow (i:=0) rfl
 clear t
 replace g:=g.mono f
 replace r:=r.mono f
 replace y:=y.up f
 replace j:=j.up f
 replace N:=N.nf
 have n:SliceOf RStr G 1 _ ([yL,yL]):=SliceOf.strs.2 q
 obtain ⟨i1,L0,R,j0,r0⟩:=n.form (by decide)
 have u:=N
 clear N
 subst R
 have N:=u
 clear u
 replace N:=N.pl 1
 refine zX call187 (fun D w N a J=>?_) (fun D w N a J=>?_) (c:=j1a (T:=T) r y n (fun x hx=>ih x (Ex.lt_args hx)) N)
 by_cases S0:e.name=(⟨#[43]⟩:Bs)
 refine zF ?_
 replace N:=N.le (f)
 replace N:=N.dl [1]
 have hr_:nZ T e s=((⟨#[73,110,116]⟩:Bs),(kJ T e.args s ([yL,yL])).2):=by simp [nZ,opT,sNo,wG,truthsD, *] <;> rfl
 show _/\_;rw [hr_];exact ⟨rfl,N⟩
 by_cases T0:e.name=(⟨#[45]⟩:Bs)
 refine zF ?_
 replace N:=N.le (f)
 replace N:=N.dl [1]
 have hr_:nZ T e s=((⟨#[73,110,116]⟩:Bs),(kJ T e.args s ([yL,yL])).2):=by simp [nZ,opT,sNo,wG,truthsD, *] <;> rfl
 show _/\_;rw [hr_];exact ⟨rfl,N⟩
 by_cases U0:e.name=(⟨#[42]⟩:Bs)
 refine zF ?_
 replace N:=N.le (f)
 replace N:=N.dl [1]
 have hr_:nZ T e s=((⟨#[73,110,116]⟩:Bs),(kJ T e.args s ([yL,yL])).2):=by simp [nZ,opT,sNo,wG,truthsD, *] <;> rfl
 show _/\_;rw [hr_];exact ⟨rfl,N⟩
 refine go fun a J=>?_
 by_cases V0:e.name=(⟨#[47]⟩:Bs)
 refine zF ?_
 replace N:=N.le (f)
 replace N:=N.dl [1]
 have hr_:nZ T e s=((⟨#[73,110,116]⟩:Bs),(kJ T e.args s ([yL,yL])).2):=by simp [nZ,opT,sNo,wG,truthsD, *] <;> rfl
 show _/\_;rw [hr_];exact ⟨rfl,N⟩
 by_cases W0:e.name=(⟨#[37]⟩:Bs)
 refine zF ?_
 replace N:=N.le (f)
 replace N:=N.dl [1]
 have hr_:nZ T e s=((⟨#[73,110,116]⟩:Bs),(kJ T e.args s ([yL,yL])).2):=by simp [nZ,opT,sNo,wG,truthsD, *] <;> rfl
 show _/\_;rw [hr_];exact ⟨rfl,N⟩
 by_cases X0:e.name=(⟨#[60]⟩:Bs)
 refine zV call188 (fun S w E N a J=>?_) (c:=z9b N)
 obtain ⟨F0,M0⟩:=S
 obtain ⟨k,v⟩:=E
 simp only at k v N J
 replace g:=g.mono k
 replace j:=j.up k
 replace N:=N.nf
 obtain ⟨D0,rfl,A⟩:=id v
 obtain ⟨B0,W,rfl,I,M⟩:=A.fm
 refine Qq (fun a J=>?_) (o:=by exact fun J O=>j7z runUnderlying133 rfl isAgg9 J rfl rfl)
 refine zF ?_
 replace N:=N.le ((f).trans k)
 replace N:=N.dl [1]
 have hr_:nZ T e s=(truthsD.name,(kJ T e.args s ([yL,yL])).2):=by simp [nZ,opT,sNo,wG,truthsD, *] <;> rfl
 show _/\_;rw [hr_];exact ⟨rfl,N⟩
 by_cases a0:e.name=(⟨#[61]⟩:Bs)
 refine zV call188 (fun F w z N a J=>?_) (c:=z9b N)
 obtain ⟨U,Z⟩:=F
 obtain ⟨h,m⟩:=z
 simp only at h m N J
 replace g:=g.mono h
 replace j:=j.up h
 replace N:=N.nf
 obtain ⟨E0,rfl,B⟩:=id m
 obtain ⟨C0,X,rfl,L,P⟩:=B.fm
 refine Qq (fun a J=>?_) (o:=by exact fun J O=>j7z runUnderlying133 rfl isAgg9 J rfl rfl)
 refine zF ?_
 replace N:=N.le ((f).trans h)
 replace N:=N.dl [1]
 have hr_:nZ T e s=(truthsD.name,(kJ T e.args s ([yL,yL])).2):=by simp [nZ,opT,sNo,wG,truthsD, *] <;> rfl
 show _/\_;rw [hr_];exact ⟨rfl,N⟩
 refine zF ?_
 replace N:=N.le (f)
 replace N:=N.dl [1]
 have hr_:nZ T e s=((⟨#[]⟩:Bs),(kJ T e.args s ([yL,yL])).2):=by simp [nZ,opT,sNo,wG,truthsD, *] <;> rfl
 show _/\_;rw [hr_];exact ⟨rfl,N⟩
 refine zF ?_
 replace N:=N.le (f)
 replace N:=N.dl [1]
 have hr_:nZ T e s=((⟨#[]⟩:Bs),(kJ T e.args s ([yL,yL])).2):=by simp [nZ,opT,sNo,wG,truthsD, *] <;> rfl
 show _/\_;rw [hr_];exact ⟨rfl,N⟩
 refine zF ?_
 replace N:=N.dl [0]
 have hr_:nZ T e s=((⟨#[]⟩:Bs),s):=by simp [nZ,opT,sNo,wG,truthsD, *] <;> rfl
 show _/\_;rw [hr_];exact ⟨rfl,N⟩
theorem call_ok {V:Fz} {K:List Res} {w:World} {p0:Addr} {T:Table} {d1:List Value} {e:Ex} {b:Nat} {s:Scope} (y:RTable V p0 T) (z:REx V d1 e) (hT:∀n f,zW T.funs n=some f->f.params.length<=1000) (ih:∀x:Ex,x.sz < e.sz->∀{V:Fz} {K:List Res} {w:World} {p:Addr} {d:List Value} {b:Nat} {s:Scope},RTable V p T->REx V d x->Mem V (.mp b (xA s)::K) w->Calls prog 86 #[.pointer (some p),.agg d.toArray,.map (some b)] w (fun ee w'=>ee=.returned (.string (zH T x s).1)/\Mem V (.mp b (xA (zH T x s).2)::K) w')) (N:Mem V (.mp b (xA s)::K) w) :
  Calls prog 143 #[.pointer (some p0),.agg d1.toArray,.map (some b)] w (fun ee w'=>ee=.returned (.string ((aV T e s).1))/\Mem V (.mp b (xA (aV T e s).2)::K) w'):=by
 obtain ⟨w0,m1,m2,m3,m4,d5,d6,d7,d8,q,i0,r,x1,T0,R0,U0,D,E,S0,V0⟩:=y.ex
 obtain ⟨y1,c24,z1,h1,A1,i1,B1,c42,rfl,l1,n1,o1,p1,A0,J0,B0,K0,C0,L0,D0,M0⟩:=RCore.fm r
 obtain ⟨C1,j1,D1,k1,rfl,y0,F,q1,E0,N0,F0,O0⟩:=REx.fm z
 refine zI func143 ntmps143 fun Q hQ a J=>?_
 refine Bx fun c1 w N a J=>?_
 refine Reg [1,1,1,2,1,2,2,1,1,1,0,0,1] [0,1] fun w N a J=>?_
 refine go fun a J=>?_
 rcases l:yV (d7) e.name with _ | a1
 have k:=congrArg (zK true (.agg #[.string ⟨#[]⟩,.slice none 0 0,.string ⟨#[]⟩,.int .i64 ((0:Nat):Int),.int .i64 ((0:Nat):Int),.string ⟨#[]⟩,.slice none 0 0,.slice none 0 0])) l
 refine Qq (fun a J=>?_) (o:=by exact fun J O=>Ok.cast (yC runUnderlying103 runUnderlying9 zeroValue68 J O rfl rfl D) (show zK true (.agg #[.string ⟨#[]⟩,.slice none 0 0,.string ⟨#[]⟩,.int .i64 ((0:Nat):Int),.int .i64 ((0:Nat):Int),.string ⟨#[]⟩,.slice none 0 0,.slice none 0 0]) (yV (d7) e.name)=.tuple #[.agg #[.string ⟨#[]⟩,.slice none 0 0,.string ⟨#[]⟩,.int .i64 ((0:Nat):Int),.int .i64 ((0:Nat):Int),.string ⟨#[]⟩,.slice none 0 0,.slice none 0 0],.bool false] from k))
 refine Alc fun e1 w N a J=>?_
 refine Sto 0 fun w N a J=>?_
 refine zF ?_
 replace N:=N.dl [1,0]
 have hr_:aV T e s=((⟨#[]⟩:Bs),s):=by
  have e_:=MapRel.none E l
  simp [aV,sNo, *]
 show _/\_;rw [hr_];exact ⟨rfl,N⟩
 obtain ⟨g,Y,x0,rfl,t⟩:=E.get l
 obtain ⟨E1,f1,rfl,P,G⟩:=id t
 obtain ⟨q0,b0,rfl,G0,W⟩:=P.fm
 obtain ⟨r0,c0,s0,d0,rfl,z0,r1,s1,H0,P0,I0,Q0⟩:=REx.fm G
 have k:=congrArg (zK true (.agg #[.string ⟨#[]⟩,.slice none 0 0,.string ⟨#[]⟩,.int .i64 ((0:Nat):Int),.int .i64 ((0:Nat):Int),.string ⟨#[]⟩,.slice none 0 0,.slice none 0 0])) l
 refine Qq (fun a J=>?_) (o:=by exact fun J O=>Ok.cast (yC runUnderlying103 runUnderlying9 zeroValue68 J O rfl rfl D) (show zK true (.agg #[.string ⟨#[]⟩,.slice none 0 0,.string ⟨#[]⟩,.int .i64 ((0:Nat):Int),.int .i64 ((0:Nat):Int),.string ⟨#[]⟩,.slice none 0 0,.slice none 0 0]) (yV (d7) e.name)=.tuple #[.agg #[.string g.name,.slice q0 g.params.length b0,.string g.result,.int .i64 (g.body.kind),.int .i64 (g.body.num),.string g.body.name,.slice r0 g.body.args.length c0,.slice s0 g.body.arms.length d0],.bool true] from k))
 refine Alc fun g1 w N a J=>?_
 refine Sto 0 fun w N a J=>?_
 refine zX call186 (fun S w N a J=>?_) (fun S w N a J=>?_) (c:=sA z N)
 refine go fun a J=>?_
 replace N:=N.nilRow 9 1
 replace N:=N.nf
 refine go fun a J=>?_
 refine zR (J.ks [0,2,4,7,30,31]) N (fun R mm a w=>∃(i:Nat) (u:Value) (ty:List Bs),mm=g.params.length - i/\R V [(9,u),(32,.int .i64 i)] [(0,.gs (u) 9 1 (strs ty))] a w/\(g.params.map Param.type=ty++(g.params.drop i).map Param.type)) (g.params.length - 0) ⟨0,.slice none 0 0,[],rfl,⟨J.pk,N⟩,by simp⟩ ?_
 clear N J
 rintro mm a w ⟨i,u,ty,l0,⟨J,N⟩,j⟩ b1 U
 replace N:=N.nf
 by_cases A:i < g.params.length
 refine go fun a J=>?_
 obtain ⟨Y0,rfl,a0,L,f0,j0,h0,I⟩:=P.el W A
 obtain rfl:=id I
 refine Alc fun t0 w N a J=>?_
 refine Sto 0 fun w N a J=>?_
 refine yK fun Z0 w N a J=>?_
 refine yU 2 vA (fun Z w N a J=>?_) (hb:=by have n0:=congrArg List.length j;have u1:=hT _ _ Y;simp only [List.length_map,laQ,zZ,lcQ,lnQ] at n0 ⊢;omega)
 first | rw [qM] at N | rw [<- yE] at N
 refine go fun a J=>?_
 replace N:=N.dl [1,0]
 refine U _ _ _ (by subst l0;omega) ⟨(i+1),(Z),((ty++[a0.type])),rfl,⟨J.pk,N⟩,?_⟩
 rw [j,zA L];simp
 refine go fun a J=>?_
 have X:ty=g.params.map Param.type:=by rw [j,zE A];simp
 subst X
 refine go fun a J=>?_
 have B:=N
 clear N
 obtain ⟨M,h,N,v⟩:=B.freezeRow (i:=0) rfl
 clear B
 replace q:=q.mono h
 replace y:=y.mono h
 replace F:=F.up h
 replace z:=z.up h
 replace t:=t.up h
 replace G:=G.up h
 replace N:=N.nf
 have m:SliceOf RStr M 1 _ ((g.params.map Param.type)):=SliceOf.strs.2 v
 obtain ⟨X0,u0,o0,k0,m0⟩:=m.form (by decide)
 have C:=N
 clear N
 subst o0
 have N:=C
 clear C
 replace N:=N.pl 2
 refine zX call187 (fun H w N a J=>?_) (fun H w N a J=>?_) (c:=j1a (T:=T) y F m (fun x hx=>ih x (Ex.lt_args hx)) N)
 refine zF ?_
 replace N:=N.le (h)
 replace N:=N.dl [2,1]
 have hr_:aV T e s=(g.result,(kJ T e.args s (g.params.map Param.type)).2):=by
  clear j
  simp [aV,sNo, *]
 show _/\_;rw [hr_];exact ⟨rfl,N⟩
 refine zF ?_
 replace N:=N.le (h)
 replace N:=N.dl [2,1]
 have hr_:aV T e s=((⟨#[]⟩:Bs),(kJ T e.args s (g.params.map Param.type)).2):=by
  clear j
  simp [aV,sNo, *]
 show _/\_;rw [hr_];exact ⟨rfl,N⟩
 refine zF ?_
 replace N:=N.dl [1,0]
 have hr_:aV T e s=((⟨#[]⟩:Bs),s):=by
  simp [aV,sNo, *]
 show _/\_;rw [hr_];exact ⟨rfl,N⟩
end Go.Sw
