import Derived.Lib.ItoaLen
import Derived.Lib.SplitLaws
import Derived.Test.YtghdfphedgcpdaaGreatDoorY04
set_option linter.unusedVariables false
set_option linter.unusedSimpArgs false
namespace Go.Sw
open Go.Proofs Go.Proofs.Tryz
set_option maxRecDepth 20000
set_option maxHeartbeats 4000000
theorem Mem.below {Φ:Fz} {K:List Res} {w w':World} (N:Mem Φ K w) (h:RowKit.Below w.heap.size w w'):Mem Φ K w':=by
 have a:Mem Φ (.gs (.slice none 0 0) 0 0 []::K) w':=N.more (r:=.gs (.slice none 0 0) 0 0 []) h.os h.output (fun b hb=>h.block b hb) ⟨0,World.ownsRow_nil w' 0 0 0⟩ (fun b hb=>by cases hb)
 exact a.del 0
theorem q4f {Φ:Fz} {K:List Res} {w:World} {n:Int} (h:I64 n) (G:Tabs Φ) (N:Mem Φ K w) :
  Calls prog 99 #[.int .i64 n] w (fun ee w'=>ee=.returned (.string (aU n))/\Mem Φ K w'):=by
 refine (Tryz.strconv_Itoa n (by have:=h;unfold I64 at this;omega) (by have:=h;unfold I64 at this;omega) w (G w ⟨N.fz,by simp⟩)).mono fun e w' J=>?_
 obtain ⟨rfl,k,os,rfl⟩:=J
 refine ⟨rfl,N.below ⟨rfl,rfl,rfl,by simp [Go.Sort.grow,World.drewN],fun b hb=>?_⟩⟩
 simp only [Go.Sort.grow,World.drewN]
 rw [Array.getElem?_append_left hb]
theorem At.cell {Φ:Fz} {K:List Res} {w:World} {g:Nat} {v:Value} (h:At Φ ⟨g,0,none⟩ [v]) (N:Mem Φ K w):w.cell? ⟨g,0,none⟩=some v:=by
 obtain ⟨arr,T,fr,h1,a⟩:=h.ex
 have b:=N.fz _ _ h1
 have c:=a 0 v rfl
 simp only [World.cell?,b]
 simpa using c
theorem z7c (old new:List UInt8):∀(k:Nat) (s:List UInt8),(Lib.replaceK old new k s).length<=s.length+k * new.length
 | 0,s=>by simp [Lib.replaceK]
 | k+1,s=>by
  unfold Lib.replaceK
  split
  ·omega
  ·have h:=z7c old new k (s.drop ((Lib.index s old).toNat+old.length))
   simp only [laQ,List.length_take,List.length_drop,Nat.add_mul] at h ⊢
   omega
theorem j3j (s old new:Bs):(y7j s old new).size<=s.size+new.size:=by
 have a:∀b:Bs,b.data.toList.length=b.size:=fun b=>by rw [Array.length_toList];rfl
 show (Lib.replace s.data.toList old.data.toList new.data.toList 1).toArray.size<=_
 rw [List.size_toArray,<- a s,<- a new]
 unfold Lib.replace
 split
 ·omega
 ·have h:=z7c old.data.toList new.data.toList (Lib.replaceNum s.data.toList old.data.toList 1) s.data.toList
  have c:Lib.replaceNum s.data.toList old.data.toList 1<=1:=by unfold Lib.replaceNum;split <;> omega
  have:=Nat.mul_le_mul_right new.data.toList.length c
  omega
theorem z4p {n:Int} (h:I64 n):(aU n).size<=21:=by
 show (Lib.itoa n).toArray.size<=_
 rw [List.size_toArray]
 exact Lib.itoa_length_le n (by have:=h;unfold I64 at this;omega) (by have:=h;unfold I64 at this;omega)
theorem y7k {Φ:Fz} {K:List Res} {w:World} {s old new:Bs} (O:s.size<=1000000) (h1:1<=old.size) (b:new.size=1) (G:Glob Φ) (N:Mem Φ K w) :
  Calls prog 248 #[.string s,.string old,.string new,.int .i64 ((1:Nat):Int)] w (fun ee w'=>ee=.returned (.string (y7j s old new))/\Mem Φ K w'):=by
 obtain ⟨m,a⟩:=G.maxLen
 have c:=Lib.countB_le old h1 s.size s (Nat.le_refl _)
 refine (Tryz.strings_Replace s old new 1 m w (by omega) (a.cell N) h1 (by rw [b];omega)).mono fun e w' J=>⟨J.1,N.below J.2⟩
theorem j5k {Φ:Fz} {K:List Res} {w:World} {s:Bs} (O:s.size<=1000000) (G:Glob Φ) (N:Mem Φ K w) :
  Calls prog 203 #[.string s] w (fun ee w'=>Out (oW s) (fun v=>ee=.returned (.tuple #[.int .i64 v,.nilIface])/\Mem Φ K w')
   (fun _=>∃y:Int×Nat,ee=.returned (.tuple #[.int .i64 y.1,.iface 296 (.pointer (some ⟨y.2,0,none⟩))])/\Mem Φ K w')):=by
 have hbelow:∀w':World,(w'=w∨∃t,w'=Lib.bytesWorld w 5 t)->Mem Φ K w':=fun w' h=>by
  rcases h with rfl | ⟨t,rfl⟩
  ·exact N
  ·exact N.below (Lib.bytesWorld_below w 5 t)
 unfold oW
 cases h:Lib.atoiAll s.data.toList
 ·exact (Any.strconv_Atoi_ok Tryz.laysC172 s (by omega) _ h w).mono fun e w' J=>⟨J.1,hbelow w' J.2⟩
 ·obtain ⟨ev,h1,a⟩:=G.err4
  exact (Any.strconv_Atoi_syntax Tryz.laysC172 s (by omega) h ev w (h1.cell N) a).mono fun e w' ⟨NN,b,_,_,c⟩=>⟨(_,NN),b,N.below c⟩
 ·obtain ⟨ev,h1,a⟩:=G.err5
  exact (Any.strconv_Atoi_range Tryz.laysC172 s (by omega) h ev w (h1.cell N) a).mono fun e w' ⟨NN,b,_,_,c⟩=>⟨(_,NN),b,N.below c⟩
theorem uP {Φ:Fz} {K:List Res} {w:World} {s:Bs} {c:Nat} (N:Mem Φ K w) :
  Calls prog 199 #[.string s,.int .u8 c] w (fun ee w'=>ee=.returned (.int .i64 (Lib.indexByte s.data.toList ((c:Int)).toNat.toUInt8))/\Mem Φ K w'):=by
 exact (Tryz.strings_IndexByte s c w).mono fun e w' J=>by obtain ⟨h1,rfl⟩:=J;exact ⟨h1,N⟩
theorem j0w {P:Program} {n:Nat} {E:List (Nat×Value)} {D:List Deferred} {a:Act} {w:World} {ty:TypeId} (i m:Nat) {x ix:Operand} {t e:TypeId} {kk:IntKind} {cs:List Value} {s:Bs} (J:EnvR n E D a) (h:ev E x=some (.agg cs.toArray))
  (f:ev E ix=some (.int kk (i:Int))) (g:Under P t (.array m e)) (O:SizeT P e 1) (d:Scalar P e) (hl:cs.length=m) (c:cs[i]? = some (.string s)):Ok P a (.index t x ix) ty w (.string s):=fun _ _ _ _=>by
 have b:i < m:=by rw [<- hl];exact (List.getElem?_eq_some_iff.1 c).1
 simp only [execOp,J.ev h,J.ev f]
 have j:cs[i]'(by rw [hl];exact b)=.string s:=(List.getElem?_eq_some_iff.1 c).2
 simp [Instr.index,asIntOf,Sem.run_bind,g w,O w,Result.andThen,b]
 simp [part,Sem.run_bind,d w,Result.andThen,c]
theorem q0a {P:Program} {n:Nat} {E:List (Nat×Value)} {D:List Deferred} {a:Act} {w:World} {Kn:Value->World->Prop} {Qp:List PanicEntry->World->Prop} {dst:Option Tmp} {ty:TypeId} {pos:String} {aft:Array Edge} {g:Option (Nat×Bool)}
  {α β ε:Type} {f:FuncId} {xs:Array Operand} {ts:Array TypeId} {vs:List Value} {r:Except ε α} {X:α->Value} {Z:ε->β->Value} {b d:Fz} {KO:α->List Res} {KE:ε->β->List Res}
  (J:EnvR n E D a) (m:evs E xs.toList=some vs) (l:∀args w,(callFunc f args).run P w=.ok (.enter f args) w)
  (j:Calls P f vs.toArray w (fun e w'=>Out r (fun x=>e=.returned (X x)/\Mem b (KO x) w') (fun c=>∃y,e=.returned (Z c y)/\Mem d (KE c y) w')))
  (k:∀x w',r=.ok x->Mem b (KO x) w'->Kn (X x) w') (kp:∀c y w',r=.error c->Mem d (KE c y) w'->Kn (Z c y) w') :
  Oper.eff P ⟨dst,.call { callee:=.value (.func f),args:=xs,argTypes:=ts },ty,pos,aft,g⟩ a w Kn Qp:=by
 refine aR J m l j (fun v w' h=>?_) (fun c w' h=>?_) (fun w' h=>?_)
 ·cases r with
  | ok x=>obtain ⟨h1,i⟩:=h;cases h1;exact k _ _ rfl i
  | error c=>obtain ⟨y,h1,i⟩:=h;cases h1;exact kp _ _ _ rfl i
 ·cases r with
  | ok x=>obtain ⟨h1,_⟩:=h;cases h1
  | error c=>obtain ⟨y,h1,_⟩:=h;cases h1
 ·cases r with
  | ok x=>obtain ⟨h1,_⟩:=h;cases h1
  | error c=>obtain ⟨y,h1,_⟩:=h;cases h1
def q4q (s:Bs):Int:=(uZ s).getD 0
def y6n (s:Bs):Int:=match uZ s with | some _=>0 | none=>13
theorem num_ok {s:Bs} {v:Int} (h:oW (y7j s ⟨#[126]⟩ ⟨#[45]⟩)=.ok v) (a:z5y v=s):q4q s=v/\y6n s=0:=by
 simp [q4q,y6n,uZ,h,a]
theorem num_no {s:Bs} {v:Int} (h:oW (y7j s ⟨#[126]⟩ ⟨#[45]⟩)=.ok v) (a:¬z5y v=s):q4q s=0/\y6n s=13:=by
 simp [q4q,y6n,uZ,h,a]
theorem num_err {s:Bs} {u:Unit} (h:oW (y7j s ⟨#[126]⟩ ⟨#[45]⟩)=.error u):q4q s=0/\y6n s=13:=by
 simp [q4q,y6n,uZ,h]
theorem y3g {s:Bs} {v:Int} (h:oW s=.ok v):I64 v:=by
 unfold oW at h
 unfold Lib.atoiAll at h
 split at h
 ·rename_i v' a
  simp only [Except.ok.injEq] at h
  subst h
  split at a
  ·cases a
  ·simp only at a
   split at a
   ·cases a
   ·cases a
   ·split at a
    ·cases a
    ·split at a
     ·cases a
     ·rename_i c d
      simp only [Lib.NumEnd.ok.injEq] at a
      subst a
      unfold I64
      split <;> rename_i b
      ·simp only [b,true_and] at d;omega
      ·simp only [b,not_false_eq_true,true_and] at c;omega
 ·cases h
theorem mC (t:Bs) (i:Nat):zG t i < 256:=by
 unfold zG;split
 ·exact UInt8.toNat_lt _
 ·decide
theorem y3a {n:Nat} (h:n < 256):(n.toUInt8).toNat=n:=by simp [Nat.toUInt8,UInt8.toNat_ofNat,Nat.mod_eq_of_lt h]
section
variable {Φ:Fz} {K:List Res} {w:World} {n:Nat}
theorem q7r (h:n < 256) (N:Mem Φ K w):Calls prog 239 #[.int .u8 n] w (fun ee w'=>ee=.returned (.bool (yR n))/\Mem Φ K w'):=by
 have:=z8x (c:=n.toUInt8) N;rwa [y3a h] at this
theorem j9w (h:n < 256) (N:Mem Φ K w):Calls prog 233 #[.int .u8 n] w (fun ee w'=>ee=.returned (.bool (yF n))/\Mem Φ K w'):=by
 have:=hO (c:=n.toUInt8) N;rwa [y3a h] at this
theorem q0v (h:n < 256) (N:Mem Φ K w):Calls prog 235 #[.int .u8 n] w (fun ee w'=>ee=.returned (.bool (qQ n))/\Mem Φ K w'):=by
 have:=y5l (c:=n.toUInt8) N;rwa [y3a h] at this
theorem j9x (h:n < 256) (N:Mem Φ K w):Calls prog 237 #[.int .u8 n] w (fun ee w'=>ee=.returned (.bool (qW n))/\Mem Φ K w'):=by
 have:=y5k (c:=n.toUInt8) N;rwa [y3a h] at this
end
theorem q2w:wordsL.length=15:=rfl
theorem x2s {i:Nat} {x:Bs} (h:wordsL[i]? = some x):cF (wordsM.take i) x (.int .i64 ((5:Nat):Int))=wordsM.take (i+1):=by
 have a:i < 15:=by have:=(List.getElem?_eq_some_iff.1 h).1;rwa [q2w] at this
 have b:x=wordsL[i]'(by rw [q2w];exact a):=(List.getElem?_eq_some_iff.1 h).2.symm
 subst b
 match i,a with
 | 0,_=>rfl
 | 1,_=>rfl
 | 2,_=>rfl
 | 3,_=>rfl
 | 4,_=>rfl
 | 5,_=>rfl
 | 6,_=>rfl
 | 7,_=>rfl
 | 8,_=>rfl
 | 9,_=>rfl
 | 10,_=>rfl
 | 11,_=>rfl
 | 12,_=>rfl
 | 13,_=>rfl
 | 14,_=>rfl
theorem j4u {i:Nat} (h:¬i < 15):wordsM.take i=wordsM:=List.take_of_length_le (by show 15<=i;omega)
theorem q8x {Φ:Fz} {K:List Res} {w:World} {t:Bs} {pos:Nat} {b:Nat} {rest:List Value} {a:TypeId} (c:pos<=1000000000) (N:Mem Φ (.blk b (ob (.string t::.int .i64 pos::rest) a)::K) w) :
  Calls prog 232 #[.pointer (some ⟨b,0,none⟩),.int .i64 ((0:Nat):Int)] w (fun ee w'=>ee=.returned (.int .u8 ((zG t pos:Nat):Int))/\Mem Φ (.blk b (ob (.string t::.int .i64 pos::rest) a)::K) w') :=
 z6y (k:=0) c N
theorem gH (t:Bs) (pos:Nat):z2d t pos=if y6n (aX t pos)=0 then
   (if yR (zG t (pos+(kW t pos+kE t pos)))=true∨zG t (pos+(kW t pos+kE t pos))=39 then .error (pos,13) else .ok ⟨1,q4q (aX t pos),aX t pos,pos⟩)
  else .error (pos,13):=by
 unfold z2d y6n q4q
 cases uZ (aX t pos) with
 | none=>rfl
 | some v=>rfl
set_option maxRecDepth 10000 in
theorem j7j:∀c < 256,decide ((0:Int)<=Lib.indexByte [40,41,44,59,58,124,61,60,43,45,42,47,37,95] ((c:Nat):Int).toNat.toUInt8)=y7t c:=by decide
theorem q8t (t:Bs):∀(f i q:Nat),i<=t.size->z2e t f i=.ok q->i<=q/\q<=t.size
 | 0,i,q,h,a=>by simp only [z2e,Except.ok.injEq] at a;omega
 | f+1,i,q,h,a=>by
  have hr:=kU xR t t.size i h
  simp only [z2e] at a
  split at a
  ·cases b:vX t (i+yS xR t t.size i) (i+yS xR t t.size i) 0 with
   | error c=>rw [b] at a;cases a
   | ok q0=>
    rw [b] at a
    have h1:=mE _ _ _ _ _ _ b
    have d:=q8t t f q0 q h1.2 a
    omega
  ·simp only [Except.ok.injEq] at a;omega
theorem y6x {t:Bs} {i q:Nat} (h:i<=t.size) (a:cH t i=.ok q):i<=q/\q<=t.size:=q8t t _ i q h a
theorem y4k (t:Bs) (i n:Nat) (h:i+n<=t.size):(t.extract i (i+n)).size=n:=by
 rw [ByteArray.size_extract];omega
theorem j0f {t:Bs} {pos:Nat} {k:Tok} (h1:pos < t.size) (h:yB t pos=.ok k):1<=k.text.size/\pos+k.text.size<=t.size:=by
 have b:∀p:Nat->Bool,p (zG t pos)=true->1<=yS p t t.size pos:=fun p d=>by
  rw [xV,if_pos ⟨h1,d⟩];omega
 have name:∀kd,qQ (zG t pos)=true∨qW (zG t pos)=true->kR t pos kd=.ok k->1<=k.text.size/\pos+k.text.size<=t.size:=fun kd O c=>by
  unfold kR at c
  split at c
  ·cases c
  ·simp only [Except.ok.injEq] at c
   subst c
   have e:=y6j t pos (by omega)
   have f:=b yR (by unfold yR;rcases O with h | h <;> simp [h])
   have m:yS yR t t.size pos<=qG t pos:=by
    unfold qG;split
    ·split <;> omega
    ·omega
   simp only
   rw [y4k t pos _ e];omega
 have made:∀kd n,1<=n->pos+n<=t.size->wF t pos kd n=.ok k->1<=k.text.size/\pos+k.text.size<=t.size:=fun kd n e f c=>by
  obtain ⟨_,rfl⟩:=tM c
  simp only
  rw [y4k t pos _ f];omega
 unfold yB at h
 split at h
 ·rename_i i
  have g:1<=kW t pos+kE t pos/\pos+(kW t pos+kE t pos)<=t.size:=by
   unfold kE
   by_cases a:zG t pos=126
   ·have:kW t pos=1:=by simp [kW,a]
    have:=kU yF t t.size (pos+kW t pos) (by omega)
    omega
   ·have O:kW t pos=0:=by simp [kW,a]
    have j:yF (zG t pos)=true:=i.resolve_right a
    have e:=b yF j
    have f:=kU yF t t.size pos (by omega)
    rw [O,Nat.add_zero];omega
  rw [gH] at h
  split at h
  ·split at h
   ·cases h
   ·simp only [Except.ok.injEq] at h
    subst h
    simp only [aX]
    rw [y4k t pos _ g.2];omega
  ·cases h
 split at h
 ·rename_i O;exact name _ (.inl O) h
 split at h
 ·rename_i O;exact name _ (.inr O) h
 split at h
 ·have:=kU yR t t.size (pos+1) (by omega)
  exact made _ _ (by omega) (by omega) h
 split at h
 ·rename_i d
  have l:(⟨#[61,62]⟩:Bs).size=2:=rfl
  have e2:(⟨#[45,62]⟩:Bs).size=2:=rfl
  have:2<=t.size - pos:=by
   rcases d with d | d
   ·have:=jT d;omega
   ·have:=jT d;omega
  exact made _ _ (by omega) (by omega) h
 split at h
 ·exact made _ _ (by omega) (by omega) h
 ·cases h
theorem y8g (t:Bs):∀(f g i:Nat),i<=t.size->t.size < i+f->t.size < i+g->gA t f i=gA t g i
 | 0,_,i,a,h,_=>by omega
 | _+1,0,i,a,_,h=>by omega
 | f+1,g+1,i,a,h,h'=>by
  simp only [gA]
  cases e:cH t i with
  | error c=>rfl
  | ok q=>
   simp only
   split
   ·rename_i hq
    cases d:yB t q with
    | error c=>rfl
    | ok k=>
     simp only
     have h1:=y6x a e
     have b:=j0f hq d
     rw [y8g t f g (q+k.text.size) b.2 (by omega) (by omega)]
   ·rfl
def z7k (t:Bs) (q:Nat):Except (Nat×Int) (List Tok):=if q < t.size then
  match yB t q with
  | .error c=>.error c
  | .ok k=>match gA t (t.size+1) (q+k.text.size) with
   | .error c=>.error c
   | .ok l=>.ok (k::l)
 else .ok []
theorem j7p {t:Bs} {i:Nat} (h:i<=t.size):gA t (t.size+1) i=match cH t i with
  | .error c=>.error c
  | .ok q=>z7k t q:=by
 rw [y8g t (t.size+1) (t.size+2) i h (by omega) (by omega)]
 rfl
def y7d (pre:List Tok) (r:Except (Nat×Int) (List Tok)):Except (Nat×Int) (List Tok):=match r with
 | .ok l=>.ok (pre++l)
 | .error c=>.error c
theorem q8y (r:Except (Nat×Int) (List Tok)):y7d [] r=r:=by cases r <;> rfl
theorem q2n {t:Bs} {i q:Nat} {pre:List Tok} (h:i<=t.size) (a:cH t i=.ok q):y7d pre (gA t (t.size+1) i)=y7d pre (z7k t q):=by
 rw [j7p h,a]
theorem q2o {t:Bs} {i:Nat} {pre:List Tok} {c:Nat×Int} (h:i<=t.size) (a:cH t i=.error c):y7d pre (gA t (t.size+1) i)=.error c:=by
 rw [j7p h,a];rfl
theorem q2p {t:Bs} {q:Nat} {pre:List Tok} {k:Tok} (h:q < t.size) (a:yB t q=.ok k):y7d pre (z7k t q)=y7d (pre++[k]) (gA t (t.size+1) (q+k.text.size)):=by
 unfold z7k
 rw [if_pos h,a]
 simp only
 cases gA t (t.size+1) (q+k.text.size) <;> simp [y7d]
theorem x2i {t:Bs} {q:Nat} {pre:List Tok} {c:Nat×Int} (h:q < t.size) (a:yB t q=.error c):y7d pre (z7k t q)=.error c:=by
 unfold z7k
 rw [if_pos h,a];rfl
theorem x9r {t:Bs} {q:Nat} {pre:List Tok} (h:¬q < t.size):y7d pre (z7k t q)=.ok pre:=by
 unfold z7k
 rw [if_neg h];simp [y7d]
section
variable {Φ:Fz} {K:List Res} {w:World}
theorem j8v {n:Int}  (b:I64 n) (G:Glob Φ) (N:Mem Φ K w) :
  Calls prog 249 #[.int .i64 n] w (fun ee w'=>ee=.returned (.string (z5y n))/\Mem Φ K w'):=by
 refine zL func249 ntmps249 fun Q hQ a J=>?_
 refine zT call99 (fun w N a J=>?_) (c:=q4f b G.tabs N)
 refine zT call248 (fun w N a J=>?_) (c:=y7k (by have h_:=z4p b;omega) (by decide) rfl G N)
 refine zD ?_
 exact tT N (by rfl)
theorem y6o {s:Bs} (O:s.size<=900000) (G:Glob Φ) (N:Mem Φ K w) :
  Calls prog 244 #[.string s] w (fun ee w'=>ee=.returned (.tuple #[.int .i64 (q4q s),.int .i64 (y6n s)])/\Mem Φ K w'):=by
 refine zL func244 ntmps244 fun Q hQ a J=>?_
 refine zT call248 (fun w N a J=>?_) (c:=y7k (by omega) (by decide) rfl G N)
 refine st J rfl rfl rfl (q0a J rfl call203 (j5k (by have h_:=j3j s ⟨#[126]⟩ ⟨#[45]⟩;have b:(⟨#[45]⟩:Bs).size=1:=rfl;omega) G N) (fun g w e N a J=>?_) (fun g h w e N a J=>?_))
 replace N:=N.nf
 refine Qq (fun a J=>?_) (o:=by exact fun J O=>oR (v:=.bool false) J rfl rfl rfl (by kernel_rfl))
 refine zT call249 (fun w N a J=>?_) (c:=j8v (y3g e) G N)
 by_cases f:(z5y g)=s
 refine jB ?_
 obtain ⟨d,b⟩:=num_ok e f
 rw [d,b];exact ⟨rfl,N⟩
 refine jB ?_
 obtain ⟨d,b⟩:=num_no e f
 rw [d,b];exact ⟨rfl,N⟩
 replace N:=N.nf
 refine Qq (fun a J=>?_) (o:=by exact fun J O=>oR (v:=.bool true) J rfl rfl rfl (by kernel_rfl))
 refine jB ?_
 obtain ⟨d,b⟩:=num_err e
 rw [d,b];exact ⟨rfl,N⟩
theorem q1u {t:Bs} {pos b:Nat} {rest:List Value} {B:TypeId} (G:Glob Φ) (h1:pos<=t.size) (D:t.size<=800000) (N:Mem Φ (.blk b (ob (.string t::.int .i64 pos::rest) B)::K) w) :
  Calls prog 234 #[.pointer (some ⟨b,0,none⟩)] w (fun ee w'=>Out (z2d t pos) (fun q=>ee=.returned (y8e q)/\Mem Φ (.blk b (ob (.string t::.int .i64 pos::rest) B)::K) w') (fun c=>ee=.panicked (sY c)/\Mem Φ K w')):=by
 refine zL func234 ntmps234 fun Q hQ a J=>?_
 refine Alc fun C w N a J=>?_
 replace N:=N.pl 1
 refine zT call232 (fun w N a J=>?_) (c:=q8x (by omega) N)
 by_cases E:zG t pos=126
 have A:=tB (t:=t) (i:=pos) (by omega)
 refine zT call228 (fun w N a J=>?_) (c:=q4z (p:=yF) (pos:=pos) (k:=1) (fs:=[]) (cs:=[]) call233 (fun c N=>hO N) (by omega) (by omega) N)
 have A:=tB (t:=t) (i:=pos) (by omega)
 have hr_:=kU yF t t.size (pos+1) (by omega)
 have f:kW t pos+kE t pos=(1+(yS yF t t.size (pos+1))):=by simp [kW,kE, *]
 refine Qq (fun a J=>?_) (o:=by exact fun J O=>nA (i:=1) (j:=(yS yF t t.size (pos+1))) J rfl rfl (by omega))
 refine zT call232 (fun w N a J=>?_) (c:=z6y (k:=(1+(yS yF t t.size (pos+1)))) (by omega) N)
 refine Reg [1,1,1,1,2,1,1,1,1,2,1,1,1,1,2,1,1,1,1,1,1] [0,1] fun w N a J=>?_
 refine Qq (fun a J=>?_) (o:=by exact fun J O=>nA (i:=(pos+1)) (j:=(yS yF t t.size (pos+1))) J rfl rfl (by omega))
 refine Qq (fun a J=>?_) (o:=by exact fun J O=>vE pos (((pos+1)+(yS yF t t.size (pos+1)))) J rfl runUnderlying9 ⟨_,rfl⟩ ⟨_,rfl⟩ (by omega) (by omega))
 have d:(t.extract pos ((pos+1)+(yS yF t t.size (pos+1))))=aX t pos:=by unfold aX;rw [f];simp only [Nat.add_assoc]
 refine zT call244 (fun w N a J=>?_) (c:=y6o (s:=(t.extract pos ((pos+1)+(yS yF t t.size (pos+1))))) (by have h_:=ByteArray.size_extract (a:=t) (b:=pos) (e:=(pos+1)+(yS yF t t.size (pos+1)));omega) G N)
 by_cases n:y6n (t.extract pos ((pos+1)+(yS yF t t.size (pos+1))))=0
 refine yH call239 (fun g w N a J=>?_) (fun g w N a J=>?_) (c:=q7r (mC _ _) N)
 refine qO fun a J=>?_
 refine Qq (fun a J=>?_) (o:=by exact fun J O=>qZ J rfl runUnderlying257 (by intro ms h;cases h))
 refine st0 J rfl rfl (kF J rfl (kH _) (fun a m=>hQ _ _ _ (qL m ?_)))
 replace N:=N.dl [1,0]
 show Out (z2d t pos) _ _
 rw [gH,f,<- d,if_pos n,if_pos (.inl g)];exact ⟨rfl,N⟩
 by_cases y:zG t (pos+(1+(yS yF t t.size (pos+1))))=39
 refine qO fun a J=>?_
 refine Qq (fun a J=>?_) (o:=by exact fun J O=>qZ J rfl runUnderlying257 (by intro ms h;cases h))
 refine st0 J rfl rfl (kF J rfl (kH _) (fun a m=>hQ _ _ _ (qL m ?_)))
 replace N:=N.dl [1,0]
 show Out (z2d t pos) _ _
 rw [gH,f,<- d,if_pos n,if_pos (.inr y)];exact ⟨rfl,N⟩
 refine qO fun a J=>?_
 refine Sto 1 fun w N a J=>?_
 refine go fun a J=>?_
 have v:=N
 replace N:=N.dl [1]
 refine pS (N:=v) ?_
 show Out (z2d t pos) _ _
 rw [gH,f,<- d,if_pos n,if_neg (fun u=>u.elim (fun h_=>absurd (h_.symm.trans g) (by decide)) y)];exact ⟨rfl,N⟩
 refine qO fun a J=>?_
 refine Qq (fun a J=>?_) (o:=by exact fun J O=>qZ J rfl runUnderlying257 (by intro ms h;cases h))
 refine st0 J rfl rfl (kF J rfl (kH _) (fun a m=>hQ _ _ _ (qL m ?_)))
 replace N:=N.dl [1,0]
 show Out (z2d t pos) _ _
 rw [gH,f,<- d,if_neg n];exact ⟨rfl,N⟩
 refine zT call228 (fun w N a J=>?_) (c:=q4y (p:=yF) (pos:=pos) (fs:=[]) (cs:=[]) call233 (fun c N=>hO N) (by omega) (by omega) N)
 have hr_:=kU yF t t.size pos h1
 have f:kW t pos+kE t pos=(0+(yS yF t t.size pos)):=by simp [kW,kE, *]
 refine Qq (fun a J=>?_) (o:=by exact fun J O=>nA (i:=0) (j:=(yS yF t t.size pos)) J rfl rfl (by omega))
 refine zT call232 (fun w N a J=>?_) (c:=z6y (k:=(0+(yS yF t t.size pos))) (by omega) N)
 refine Reg [1,1,1,1,2,1,1,1,1,2,1,1,1,1,2,1,1,1,1,1,1] [0,1] fun w N a J=>?_
 refine Qq (fun a J=>?_) (o:=by exact fun J O=>nA (i:=pos) (j:=0) J rfl rfl (by omega))
 refine Qq (fun a J=>?_) (o:=by exact fun J O=>nA (i:=(pos+0)) (j:=(yS yF t t.size pos)) J rfl rfl (by omega))
 refine Qq (fun a J=>?_) (o:=by exact fun J O=>vE pos (((pos+0)+(yS yF t t.size pos))) J rfl runUnderlying9 ⟨_,rfl⟩ ⟨_,rfl⟩ (by omega) (by omega))
 have d:(t.extract pos ((pos+0)+(yS yF t t.size pos)))=aX t pos:=by unfold aX;rw [f];simp only [Nat.add_assoc]
 refine zT call244 (fun w N a J=>?_) (c:=y6o (s:=(t.extract pos ((pos+0)+(yS yF t t.size pos)))) (by have h_:=ByteArray.size_extract (a:=t) (b:=pos) (e:=(pos+0)+(yS yF t t.size pos));omega) G N)
 by_cases r:y6n (t.extract pos ((pos+0)+(yS yF t t.size pos)))=0
 refine yH call239 (fun l w N a J=>?_) (fun l w N a J=>?_) (c:=q7r (mC _ _) N)
 refine qO fun a J=>?_
 refine Qq (fun a J=>?_) (o:=by exact fun J O=>qZ J rfl runUnderlying257 (by intro ms h;cases h))
 refine st0 J rfl rfl (kF J rfl (kH _) (fun a m=>hQ _ _ _ (qL m ?_)))
 replace N:=N.dl [1,0]
 show Out (z2d t pos) _ _
 rw [gH,f,<- d,if_pos r,if_pos (.inl l)];exact ⟨rfl,N⟩
 by_cases z:zG t (pos+(0+(yS yF t t.size pos)))=39
 refine qO fun a J=>?_
 refine Qq (fun a J=>?_) (o:=by exact fun J O=>qZ J rfl runUnderlying257 (by intro ms h;cases h))
 refine st0 J rfl rfl (kF J rfl (kH _) (fun a m=>hQ _ _ _ (qL m ?_)))
 replace N:=N.dl [1,0]
 show Out (z2d t pos) _ _
 rw [gH,f,<- d,if_pos r,if_pos (.inr z)];exact ⟨rfl,N⟩
 refine qO fun a J=>?_
 refine Sto 1 fun w N a J=>?_
 refine go fun a J=>?_
 have v:=N
 replace N:=N.dl [1]
 refine pS (N:=v) ?_
 show Out (z2d t pos) _ _
 rw [gH,f,<- d,if_pos r,if_neg (fun u=>u.elim (fun h_=>absurd (h_.symm.trans l) (by decide)) z)];exact ⟨rfl,N⟩
 refine qO fun a J=>?_
 refine Qq (fun a J=>?_) (o:=by exact fun J O=>qZ J rfl runUnderlying257 (by intro ms h;cases h))
 refine st0 J rfl rfl (kF J rfl (kH _) (fun a m=>hQ _ _ _ (qL m ?_)))
 replace N:=N.dl [1,0]
 show Out (z2d t pos) _ _
 rw [gH,f,<- d,if_neg r];exact ⟨rfl,N⟩
end
theorem x9q {Φ:Fz} {K:List Res} {w:World} {t:Bs} {pos b mb:Nat} {cv:Value} (G:Glob Φ) (E:MapAt Φ mb wordsM) (h1:pos < t.size) (h2:t.size<=800000) (N:Mem Φ (.blk b (ob [.string t,.int .i64 pos,.map (some mb),cv] 289)::K) w) :
  Calls prog 221 #[.pointer (some ⟨b,0,none⟩)] w (fun ee w'=>Out (yB t pos) (fun q=>ee=.returned (y8e q)/\Mem Φ (.blk b (ob [.string t,.int .i64 pos,.map (some mb),cv] 289)::K) w') (fun c=>ee=.panicked (sY c)/\Mem Φ K w')):=by
 refine zL func221 ntmps221 fun Q hQ a J=>?_
 refine Alc fun b2 w N a J=>?_
 refine go fun a J=>?_
 have U:yF 39=false:=rfl
 have V:qQ 39=false:=rfl
 have W:qW 39=false:=rfl
 have X:y7t 39=false:=rfl
 replace N:=N.pl 1
 refine zT call232 (fun w N a J=>?_) (c:=q8x (by omega) N)
 refine yH call233 (fun Y w N a J=>?_) (fun Y w N a J=>?_) (c:=j9w (mC _ _) N)
 refine jN call234 (fun q9 w f N a J=>?_) (fun q9 w f N=>?_) (c:=q1u (pos:=pos) G (by omega) (by omega) N)
 refine Sto 1 fun w N a J=>?_
 refine go fun a J=>?_
 have d:=N
 replace N:=N.dl [1]
 refine pS (N:=d) ?_
 show Out (yB t pos) _ _
 rw [show yB t pos=z2d t pos by simp [yB, *],f];exact ⟨rfl,N⟩
 replace N:=N.dl [0]
 show Out (yB t pos) _ _
 rw [show yB t pos=z2d t pos by simp [yB, *],f];exact ⟨rfl,N⟩
 by_cases j0:zG t pos=126
 refine jN call234 (fun a0 w g N a J=>?_) (fun a0 w g N=>?_) (c:=q1u (pos:=pos) G (by omega) (by omega) N)
 refine Sto 1 fun w N a J=>?_
 refine go fun a J=>?_
 have d:=N
 replace N:=N.dl [1]
 refine pS (N:=d) ?_
 show Out (yB t pos) _ _
 rw [show yB t pos=z2d t pos by simp [yB, *],g];exact ⟨rfl,N⟩
 replace N:=N.dl [0]
 show Out (yB t pos) _ _
 rw [show yB t pos=z2d t pos by simp [yB, *],g];exact ⟨rfl,N⟩
 refine yH call235 (fun L w N a J=>?_) (fun L w N a J=>?_) (c:=q0v (mC _ _) N)
 refine jN call236 (fun b0 w i N a J=>?_) (fun b0 w i N=>?_) (c:=j6w (pos:=pos) (kd:=2) E (by omega) (by omega) N)
 refine Sto 1 fun w N a J=>?_
 refine go fun a J=>?_
 have d:=N
 replace N:=N.dl [1]
 refine pS (N:=d) ?_
 show Out (yB t pos) _ _
 rw [show yB t pos=kR t pos 2 by simp [yB, *],i];exact ⟨rfl,N⟩
 replace N:=N.dl [0]
 show Out (yB t pos) _ _
 rw [show yB t pos=kR t pos 2 by simp [yB, *],i];exact ⟨rfl,N⟩
 refine yH call237 (fun M w N a J=>?_) (fun M w N a J=>?_) (c:=j9x (mC _ _) N)
 refine jN call236 (fun c0 w j N a J=>?_) (fun c0 w j N=>?_) (c:=j6w (pos:=pos) (kd:=3) E (by omega) (by omega) N)
 refine Sto 1 fun w N a J=>?_
 refine go fun a J=>?_
 have d:=N
 replace N:=N.dl [1]
 refine pS (N:=d) ?_
 show Out (yB t pos) _ _
 rw [show yB t pos=kR t pos 3 by simp [yB, *],j];exact ⟨rfl,N⟩
 replace N:=N.dl [0]
 show Out (yB t pos) _ _
 rw [show yB t pos=kR t pos 3 by simp [yB, *],j];exact ⟨rfl,N⟩
 by_cases T:zG t pos=39
 refine zT call232 (fun w N a J=>?_) (c:=z6y (k:=1) (by omega) N)
 refine yH call235 (fun P w N a J=>?_) (fun P w N a J=>?_) (c:=q0v (mC _ _) N)
 refine zT call228 (fun w N a J=>?_) (c:=q4z (p:=yR) (pos:=pos) (k:=1) (fs:=[]) (cs:=[]) call239 (fun c N=>z8x N) (by omega) (by omega) N)
 refine Qq (fun a J=>?_) (o:=by exact fun J O=>z7r (((1+(yS yR t t.size (pos+1))):Nat):Int) J rfl rfl (by have hr_:=kU yR t t.size (pos+1) (by omega);rw [jI (by omega)];omega))
 refine jN call238 (fun d0 w l N a J=>?_) (fun d0 w l N=>?_) (c:=gF (pos:=pos) (kd:=4) (n:=(1+(yS yR t t.size (pos+1)))) (by have hr_:=kU yR t t.size (pos+1) (by omega);omega) (by omega) N)
 refine Sto 1 fun w N a J=>?_
 refine go fun a J=>?_
 have d:=N
 replace N:=N.dl [1]
 refine pS (N:=d) ?_
 show Out (yB t pos) _ _
 rw [show yB t pos=wF t pos 4 (1+(yS yR t t.size (pos+1))) by simp [yB, *],l];exact ⟨rfl,N⟩
 replace N:=N.dl [0]
 show Out (yB t pos) _ _
 rw [show yB t pos=wF t pos 4 (1+(yS yR t t.size (pos+1))) by simp [yB, *],l];exact ⟨rfl,N⟩
 refine yH call230 (fun A w N a J=>?_) (fun A w N a J=>?_) (c:=cR (s:=(⟨#[61,62]⟩:Bs)) (by omega) N)
 refine jN call238 (fun e0 w m N a J=>?_) (fun e0 w m N=>?_) (c:=gF (pos:=pos) (kd:=6) (n:=2) (by have h_:=jT A;have S:(⟨#[61,62]⟩:Bs).size=2:=rfl;have F:(⟨#[45,62]⟩:Bs).size=2:=rfl;omega) (by omega) N)
 refine Sto 1 fun w N a J=>?_
 refine go fun a J=>?_
 have d:=N
 replace N:=N.dl [1]
 refine pS (N:=d) ?_
 show Out (yB t pos) _ _
 rw [show yB t pos=wF t pos 6 2 by simp [yB, *],m];exact ⟨rfl,N⟩
 replace N:=N.dl [0]
 show Out (yB t pos) _ _
 rw [show yB t pos=wF t pos 6 2 by simp [yB, *],m];exact ⟨rfl,N⟩
 refine yH call230 (fun B w N a J=>?_) (fun B w N a J=>?_) (c:=cR (s:=(⟨#[45,62]⟩:Bs)) (by omega) N)
 refine jN call238 (fun f0 w r N a J=>?_) (fun f0 w r N=>?_) (c:=gF (pos:=pos) (kd:=6) (n:=2) (by have h_:=jT B;have S:(⟨#[61,62]⟩:Bs).size=2:=rfl;have F:(⟨#[45,62]⟩:Bs).size=2:=rfl;omega) (by omega) N)
 refine Sto 1 fun w N a J=>?_
 refine go fun a J=>?_
 have d:=N
 replace N:=N.dl [1]
 refine pS (N:=d) ?_
 show Out (yB t pos) _ _
 rw [show yB t pos=wF t pos 6 2 by simp [yB, *],r];exact ⟨rfl,N⟩
 replace N:=N.dl [0]
 show Out (yB t pos) _ _
 rw [show yB t pos=wF t pos 6 2 by simp [yB, *],r];exact ⟨rfl,N⟩
 refine zT call199 (fun w N a J=>?_) (c:=uP N)
 have e:=j7j (zG t pos) (mC t pos)
 by_cases H:0<=Lib.indexByte (⟨#[40,41,44,59,58,124,61,60,43,45,42,47,37,95]⟩:Bs).data.toList (((zG t pos:Nat):Int).toNat.toUInt8)
 refine go fun a J=>?_
 have z:y7t (zG t pos)=true:=by rw [<- e];exact decide_eq_true H
 rw [T] at z
 cases z
 refine qO fun a J=>?_
 refine Qq (fun a J=>?_) (o:=by exact fun J O=>qZ J rfl runUnderlying257 (by intro ms h;cases h))
 refine st0 J rfl rfl (kF J rfl (kH _) (fun a Z=>hQ _ _ _ (qL Z ?_)))
 replace N:=N.dl [1,0]
 have R:y7t (zG t pos)=false:=by rw [<- e];exact decide_eq_false H
 show Out (yB t pos) _ _
 rw [show yB t pos=.error (pos,11) by simp [yB, *]];exact ⟨rfl,N⟩
 refine yH call230 (fun C w N a J=>?_) (fun C w N a J=>?_) (c:=cR (s:=(⟨#[61,62]⟩:Bs)) (by omega) N)
 refine jN call238 (fun g0 w u N a J=>?_) (fun g0 w u N=>?_) (c:=gF (pos:=pos) (kd:=6) (n:=2) (by have h_:=jT C;have S:(⟨#[61,62]⟩:Bs).size=2:=rfl;have F:(⟨#[45,62]⟩:Bs).size=2:=rfl;omega) (by omega) N)
 refine Sto 1 fun w N a J=>?_
 refine go fun a J=>?_
 have d:=N
 replace N:=N.dl [1]
 refine pS (N:=d) ?_
 show Out (yB t pos) _ _
 rw [show yB t pos=wF t pos 6 2 by simp [yB, *],u];exact ⟨rfl,N⟩
 replace N:=N.dl [0]
 show Out (yB t pos) _ _
 rw [show yB t pos=wF t pos 6 2 by simp [yB, *],u];exact ⟨rfl,N⟩
 refine yH call230 (fun D w N a J=>?_) (fun D w N a J=>?_) (c:=cR (s:=(⟨#[45,62]⟩:Bs)) (by omega) N)
 refine jN call238 (fun h0 w v N a J=>?_) (fun h0 w v N=>?_) (c:=gF (pos:=pos) (kd:=6) (n:=2) (by have h_:=jT D;have S:(⟨#[61,62]⟩:Bs).size=2:=rfl;have F:(⟨#[45,62]⟩:Bs).size=2:=rfl;omega) (by omega) N)
 refine Sto 1 fun w N a J=>?_
 refine go fun a J=>?_
 have d:=N
 replace N:=N.dl [1]
 refine pS (N:=d) ?_
 show Out (yB t pos) _ _
 rw [show yB t pos=wF t pos 6 2 by simp [yB, *],v];exact ⟨rfl,N⟩
 replace N:=N.dl [0]
 show Out (yB t pos) _ _
 rw [show yB t pos=wF t pos 6 2 by simp [yB, *],v];exact ⟨rfl,N⟩
 refine zT call199 (fun w N a J=>?_) (c:=uP N)
 have e:=j7j (zG t pos) (mC t pos)
 by_cases I:0<=Lib.indexByte (⟨#[40,41,44,59,58,124,61,60,43,45,42,47,37,95]⟩:Bs).data.toList (((zG t pos:Nat):Int).toNat.toUInt8)
 have z:y7t (zG t pos)=true:=by rw [<- e];exact decide_eq_true I
 refine jN call238 (fun i0 w y N a J=>?_) (fun i0 w y N=>?_) (c:=gF (pos:=pos) (kd:=6) (n:=1) (by have hr_:=kU yR t t.size (pos+1) (by omega);omega) (by omega) N)
 refine Sto 1 fun w N a J=>?_
 refine go fun a J=>?_
 have d:=N
 replace N:=N.dl [1]
 refine pS (N:=d) ?_
 show Out (yB t pos) _ _
 rw [show yB t pos=wF t pos 6 1 by simp [yB, *],y];exact ⟨rfl,N⟩
 replace N:=N.dl [0]
 show Out (yB t pos) _ _
 rw [show yB t pos=wF t pos 6 1 by simp [yB, *],y];exact ⟨rfl,N⟩
 refine qO fun a J=>?_
 refine Qq (fun a J=>?_) (o:=by exact fun J O=>qZ J rfl runUnderlying257 (by intro ms h;cases h))
 refine st0 J rfl rfl (kF J rfl (kH _) (fun a Z=>hQ _ _ _ (qL Z ?_)))
 replace N:=N.dl [1,0]
 have R:y7t (zG t pos)=false:=by rw [<- e];exact decide_eq_false I
 show Out (yB t pos) _ _
 rw [show yB t pos=.error (pos,11) by simp [yB, *]];exact ⟨rfl,N⟩
theorem y9b {Φ:Fz} {K:List Res} {w:World} {t:Bs} (N:Mem Φ K w) :
  Calls prog 211 #[.string t] w (fun ee w'=>∃y:Nat×Nat,ee=.returned (.pointer (some ⟨y.1,0,none⟩))/\True/\Mem Φ (.blk y.1 (ob [.string t,.int .i64 ((0:Nat):Int),.map (some y.2),.slice none 0 0] 289)::.mp y.2 wordsM::K) w'):=by
 refine zL func211 ntmps211 fun Q hQ a J=>?_
 refine qO fun a J=>?_
 refine MkM fun f w N a J=>?_
 refine mP fun a J=>?_
 refine Bx fun k w N a J=>?_
 refine qO fun a J=>?_
 refine go fun a J=>?_
 refine zU (J.ks [3,11]) N (fun R mm a w=>∃(i:Nat),mm=15 - i/\R Φ [(12,.int .i64 i)] [(1,.mp f (wordsM.take i))] a w/\(True)) (15 - 0) ⟨0,rfl,⟨J.pk,N⟩,trivial⟩ ?_
 clear N J
 rintro mm a w ⟨i,e,⟨J,N⟩,g⟩ j d
 replace N:=N.nf
 by_cases c:i < 15
 obtain ⟨h,b⟩:=zZ (l:=wordsL) (i:=i) c
 refine Qq (fun a J=>?_) (o:=by exact fun J O=>j0w i 15 (cs:=strs wordsL) J rfl rfl runUnderlying290 sizeOf9 isAgg9 rfl (by rw [strs,List.getElem?_map,b];rfl))
 refine z4d 1 runUnderlying286 runUnderlying9 fun w N a J=>?_
 rw [show Value.int .i64 5=.int .i64 ((5:Nat):Int) from rfl,x2s b] at N
 refine go fun a J=>?_
 refine d _ _ _ (by subst e;omega) ⟨(i+1),rfl,⟨J.pk,N⟩,?_⟩
 trivial
 refine zD ?_
 rw [j4u c] at N
 exact ⟨(_,_),rfl,trivial,N⟩
theorem x2h {Φ:Fz} {K:List Res} {w:World} {b:Nat} (N:Mem Φ K w) :
  Calls prog 213 #[.pointer (some ⟨b,0,none⟩)] w (fun ee w'=>∃y:Nat,ee=.returned (.func (.func 219) #[] #[.pointer (some ⟨y,0,none⟩)])/\True/\Mem Φ (.blk y (ob [.pointer (some ⟨b,0,none⟩)] 254)::K) w'):=by
 refine zL func213 ntmps213 fun Q hQ a J=>?_
 refine Bx fun c w N a J=>?_
 refine zD ?_
 exact ⟨_,rfl,trivial,N⟩
theorem j4n {β:Type} {Φ:Fz} {w:World} {t:Bs} {bx b mb l:Nat} {KY:List Tok->β->List Res} {z:β} (G:Glob Φ) (B:MapAt Φ mb wordsM) (U:t.size<=800000)
  (V:∀pre z K0 (k:Tok) w,pre.length < t.size->Mem Φ (K0++KY pre z) w->YieldAt Fence.wide 2 prog l #[y8e k] w (fun e w'=>e=.returned (.bool true)/\∃z',Mem Φ (K0++KY (pre++[k]) z') w'))
  (N:Mem Φ (.blk bx (ob [.pointer (some ⟨b,0,none⟩)] 254)::.blk b (ob [.string t,.int .i64 ((0:Nat):Int),.map (some mb),.slice none 0 0] 289)::KY [] z) w) :
  Calls prog 219 #[.func (.yield l) #[] #[],.pointer (some ⟨bx,0,none⟩)] w (fun ee w'=>Out (aL t) (fun r=>∃y:β,ee=.returned (.tuple #[])/\Mem Φ (KY r y) w') (fun c=>∃y:List Tok×β,ee=.panicked (sY c)/\Mem Φ (KY y.1 y.2) w')):=by
 refine zL func219 ntmps219 fun Q hQ a J=>?_
 refine go fun a J=>?_
 replace N:=N.nilRow 303 2
 replace N:=N.nf
 replace N:=N.pl 2
 refine gS call220 (fun q2 S w q E N a J=>?_) (fun q2 w q N=>?_) (c:=j7c (pos:=0) (by omega) (by omega) (Nat.zero_le _) N)
 replace N:=N.nf
 have n:=y6x (by omega) q
 refine go fun a J=>?_
 refine jS (fun mm a w=>∃(i:Nat) (pre:List Tok) (u:Value) (ds:List Value) (z0:β),mm=t.size - i/\EnvR 38 [(0,.func (.yield l) #[] #[]),(1,.pointer (some ⟨bx,0,none⟩))] [] a/\Mem Φ (.blk b (ob [.string t,.int .i64 i,.map (some mb),u] 289)::.gs (u) 303 2 ds::.blk bx (ob [.pointer (some ⟨b,0,none⟩)] 254)::KY pre z0) w/\(i<=t.size/\ds.length<=2 * i/\pre.length<=i/\aL t=y7d pre (z7k t i))) (t.size - q2) ⟨q2,[],S.1,S.2,z,rfl,J.pk,N,⟨n.2,E,Nat.zero_le _,(q8y _).symm.trans (q2n (Nat.zero_le _) q)⟩⟩ ?_
 clear N J
 rintro mm a w ⟨i,pre,u,ds,z0,K,J,N,F⟩ W I
 obtain ⟨L,M,P,p⟩:=F
 refine Reg [2,1,1,1,2,2,1,1,1,2,1,1] [0,1,2] fun w N a J=>?_
 by_cases m:i < t.size
 refine jN call221 (fun d w f N a J=>?_) (fun d w f N=>?_) (c:=x9q (pos:=i) G B m U N)
 have R:=j0f m f
 refine Alc fun T w N a J=>?_
 refine Sto 0 fun w N a J=>?_
 refine Reg [2,1,1,1,2,1,2,1,1,1,1,1,0] [0,1,2,3] fun w N a J=>?_
 refine Qq (fun a J=>?_) (o:=by exact fun J O=>nA (i:=i) (j:=d.text.size) J rfl rfl (by omega))
 refine Sto 1 fun w N a J=>?_
 refine go1 fun a J=>?_
 refine xZ ?_
 refine yZ J (by intro c h;cases h) (jY J rfl) rfl fun a J=>?_
 refine yZ J (by intro c h;cases h) (vS 0 (vs:=[.int .i64 (d.kind),.int .i64 (d.num),.string d.text,.int .i64 d.org]) J N.toSees rfl rfl isAgg261 sizeOf261 rfl rfl) rfl fun a J=>?_
 replace N:=N.dl [0]
 refine y5d (v:=y8e d) J rfl rfl rfl (V pre z0 [.blk b (ob [.string t,.int .i64 (((i+d.text.size):Nat):Int),.map (some mb),u] 289),.gs (u) 303 2 ds,.blk bx (ob [.pointer (some ⟨b,0,none⟩)] 254)] d w (by omega) N) fun w H a J=>?_
 obtain ⟨D,N⟩:=H
 replace N:=N.nf
 refine yZ J (by intro c h;cases h) (z4c J rfl) rfl fun a J=>?_
 refine wpListIn_nil ?_
 replace N:=N.ar [] [1,1]
 refine gS call220 (fun s C w g A N a J=>?_) (fun s w g N=>?_) (c:=j7c (pos:=(i+d.text.size)) (by omega) (by omega) (by omega) N)
 replace N:=N.nf
 have n:=y6x (by omega) g
 refine go fun a J=>?_
 refine I _ _ _ (by subst K;omega) ⟨(s),(pre++[d]),(C.1),(C.2),(D),rfl,J.pk,N,?_⟩
 exact ⟨n.2,A,by simp only [laQ,lcQ,lnQ];omega,by rw [p,q2p m f,q2n (by omega) g]⟩
 replace N:=N.dl [0]
 have hr_:aL t=.error s:=by
  rw [p,q2p m f,q2o (by omega) g]
 show Out (aL t) _ _
 rw [hr_];exact ⟨(pre++[d],D),rfl,N⟩
 replace N:=N.dl [1,0]
 have hr_:aL t=.error d:=by
  rw [p,x2i m f]
 show Out (aL t) _ _
 rw [hr_];exact ⟨(pre,z0),rfl,N⟩
 refine go fun a J=>?_
 replace N:=N.dl [2,1,0]
 refine hQ _ _ _ (q2a J results219 ?_)
 show Out (aL t) _ _
 rw [p,x9r m];exact ⟨z0,rfl,N⟩
 replace N:=N.dl [0]
 have hr_:aL t=.error q2:=by
  exact (q8y _).symm.trans (q2o (Nat.zero_le _) q)
 show Out (aL t) _ _
 rw [hr_];exact ⟨([],z),rfl,N⟩
def z9o (k:Tok):List Value:=[.int .i64 k.kind,.int .i64 k.num,.string k.text,.int .i64 k.org]
def nL (l:List Tok):List Value:=l.flatMap z9o
theorem j4o (l:List Tok) (k:Tok):nL (l++[k])=nL l++z9o k:=by simp [nL]
theorem q2m:∀l:List Tok,(nL l).length=4 * l.length
 | []=>rfl
 | k::l=>by have:=q2m l;simp only [nL,List.flatMap_cons,laQ,lcQ] at this ⊢;rw [this];simp only [z9o,lcQ,lnQ];omega
def dV (c:Nat×Int):List Value:=[.int .i64 c.1,.int .i64 c.2]
abbrev wrongE (c:Nat×Int) (r:Bool):PanicEntry:={ v:=.iface 257 (.agg (dV c).toArray),recovered:=r }
set_option maxRecDepth 20000 in
set_option maxHeartbeats 4000000 in
theorem q6h {Φ:Fz} {K:List Res} {w:World} {b d:Nat} {v:Value} {x y:Value} {c:Nat×Int} (N:Mem Φ (.blk b (ob [v] 255)::.blk d (ob [x,y] 257)::K) w) :
  CallsD prog 212 #[.pointer (some ⟨b,0,none⟩),.pointer (some ⟨d,0,none⟩)] (.panicking (sY c)) w fun e u' w'=>
   e=.returned (.tuple #[])/\u'=.panicking [wrongE c true]/\Mem Φ (.blk b (ob [.slice none 0 0] 255)::.blk d (ob (dV c) 257)::K) w':=by
 generalize l:(fun (e:Ending) (u':FrameMode) (w':World)=>e=.returned (.tuple #[])/\u'=.panicking [wrongE c true]/\Mem Φ (.blk b (ob [.slice none 0 0] 255)::.blk d (ob (dV c) 257)::K) w')=R
 refine callsD_of_wpS func212 rfl fun c₀ cs o=>?_
 apply wpS_seq
 apply wpS_region
 show wpOpsS prog _ _ [0] _ _ _
 simp [wpOpsS,go_sem,recoverD,o,ntmps212,Exit.thenS,sY]
 refine wpS_of_wp ?_
 generalize m:(_::cs:List Frame)=cs'
 have hQ:∀(a:Act) (w':World),a.defers=[]->Mem Φ (.blk b (ob [.slice none 0 0] 255)::.blk d (ob (dV c) 257)::K) w'->bodyPostS prog Tryz.f212 c₀ cs R .normal a cs' w':=fun a w' n N=>
  ⟨n,.panicking [wrongE c true],m.symm,.tuple #[],results_none rfl _ _ _,by subst l;exact ⟨rfl,rfl,N⟩⟩
 generalize f:(Act.mk _ [])=a
 have J:EnvR 12 [(5,.iface 257 (.agg (dV c).toArray)),(1,.pointer (some ⟨d,0,none⟩)),(0,.pointer (some ⟨b,0,none⟩))] [] a:=by
  subst f
  refine ⟨rfl,fun t v h=>?_,rfl⟩
  obtain ⟨rfl,rfl⟩ | ⟨_,h⟩:=nO h
  ·rfl
  ·obtain ⟨rfl,rfl⟩ | ⟨_,h⟩:=nO h
   ·rfl
   ·obtain ⟨rfl,rfl⟩ | ⟨_,h⟩:=nO h
    ·rfl
    ·cases h
 clear f
 refine wp_block ?_
 refine sq fun p g=>?_
 refine wp_region_lit ?_
 refine kB J (oR (v:=.bool false) J rfl rfl rfl (by kernel_rfl)) rfl fun a J=>?_
 refine wpList_nil ?_
 apply g
 refine if_f J rfl ?_
 refine sq fun r i=>?_
 refine wp_region_lit ?_
 refine kB J (j0s J rfl runUnderlying257 (by intro ms h;cases h)) rfl fun a J=>?_
 refine kB J (uG J rfl rfl) rfl fun a J=>
  kB J (uG J rfl rfl) rfl fun a J=>?_
 refine wpList_nil ?_
 apply i
 refine if_t J rfl ?_
 refine sq fun s j=>?_
 refine wp_region_lit ?_
 refine st J rfl rfl rfl (yT (cs:=[.int .i64 ((0:Nat):Int),.int .i64 ((0:Nat):Int)]) N zeroValue257 rfl fun k w N a J=>?_)
 refine st0 J rfl rfl (yA 0 (cs:=[.int .i64 ((0:Nat):Int),.int .i64 ((0:Nat):Int)]) (vs:=dV c) J N rfl rfl rfl rfl sizeOf257 rfl rfl rfl fun w N a J=>?_)
 refine wpList_nil ?_
 apply j
 replace N:Mem Φ (.blk k (ob (dV c) 257)::.blk b (ob [v] 255)::.blk d (ob [x,y] 257)::K) w:=N
 refine dE [2,0,0] (.q 0 (.e 1 (.e 2 (.done)))) [.blk k (ob (dV c) 257)] J N mixed (by kernel_rfl) (by simp) fun w N=>?_
 refine d_q J rfl rfl (fun w O=>vS 0 (vs:=dV c) J O rfl rfl isAgg257 sizeOf257 rfl rfl) rfl fun a J=>?_
 refine wA J rfl rfl (yA 1 (cs:=[v]) (vs:=[.slice none 0 0]) J N rfl rfl rfl rfl sizeOf255 rfl rfl rfl fun w N=>⟨fun _=>N.seesIn (Fz.Le.refl _) (by simp [pU]),fun a J=>?_⟩)
 refine wA J rfl rfl (yA 2 (cs:=[x,y]) (vs:=dV c) J N rfl rfl rfl rfl sizeOf257 rfl rfl rfl fun w N=>⟨yJ (by kernel_rfl),fun a J=>?_⟩)
 refine q3l ?_
 replace N:Mem Φ (.blk b (ob [.slice none 0 0] 255)::.blk d (ob (dV c) 257)::K) w:=N.del 0
 exact hQ _ _ J.defs N
set_option maxRecDepth 20000 in
theorem catch_none {w:World} {f g:Nat} :
  CallsD prog 212 #[.pointer (some ⟨f,0,none⟩),.pointer (some ⟨g,0,none⟩)] .returning w fun e u' w'=>e=.returned (.tuple #[])/\u'=.returning/\w'=w:=by
 generalize i:(fun (e:Ending) (u':FrameMode) (w':World)=>e=.returned (.tuple #[])/\u'=.returning/\w'=w)=R
 refine callsD_of_wpS func212 rfl fun c₀ cs d=>?_
 apply wpS_seq
 apply wpS_region
 show wpOpsS prog _ _ [0] _ _ _
 simp [wpOpsS,go_sem,recoverD,d,ntmps212,Exit.thenS]
 refine wpS_of_wp ?_
 have hQ:∀(a:Act),a.defers=[]->bodyPostS prog Tryz.f212 c₀ cs R .normal a (c₀::cs) w:=fun a j=>
  ⟨j,.returning,by cases c₀;simp only at d;subst d;rfl,.tuple #[],results_none rfl _ _ _,by subst i;exact ⟨rfl,rfl,rfl⟩⟩
 generalize b:(Act.mk _ [])=a
 have J:EnvR 12 [(5,.nilIface)] [] a:=by
  subst b
  refine ⟨rfl,fun t v h=>?_,rfl⟩
  obtain ⟨rfl,rfl⟩ | ⟨_,h⟩:=nO h
  ·rfl
  ·cases h
 clear b
 refine wp_block ?_
 refine sq fun k c=>?_
 refine wp_region_lit ?_
 refine kB J (oR (v:=.bool true) J rfl rfl rfl (by kernel_rfl)) rfl fun a J=>?_
 refine wpList_nil ?_
 apply c
 refine if_t J rfl ?_
 refine wp_region_lit ?_
 refine kB J (kZ J rfl) rfl fun a J=>?_
 refine wpList_nil ?_
 exact hQ _ J.defs
theorem zip1 {α β:Type} (x:α) (y:β):(#[x].zip #[y])=#[(x,y)]:=by apply Array.ext';simp
set_option maxRecDepth 20000 in
theorem rt_255:RowT prog 255 261 4 40:=⟨underlying255,⟨_,_,Tryz.type261,rfl,rfl,rfl,rfl⟩,by decide,by decide⟩
abbrev scanKY (K:List Res) (l Dk a b:Nat) (r:Loop) (pre:List Tok) (z:Value):List Res :=
 .blk l (.loop r)::.blk Dk (.deferred (some []))::.blk b (ob [.int .i64 ((0:Nat):Int),.int .i64 ((0:Nat):Int)] 257)::.blk a (ob [z] 255)::.gs z 261 4 (nL pre)::K
set_option maxRecDepth 20000 in
set_option maxHeartbeats 4000000 in
theorem j3x {Ψ:Fz} {K K0:List Res} {w:World} {l Dk b c n:Nat} {r:Loop} {pre:List Tok} {z:Value} {k:Tok} (s:pre.length < n) (D:n<=800000)
  (j:r.params=#[11]) (q:r.state=.ready) (p:r.pending=none)
  (A:∀(a:Act) (w:World) (K:List Res),EnvR 19 [(11,y8e k),(4,.pointer (some ⟨c,0,none⟩)),(3,.pointer (some ⟨b,0,none⟩))] [] a->Mem Ψ (.blk l (.loop r)::K) w ->
   r.assign.wpIn (FO (some l)) 2 prog (Exit.then (fun t C=>∃g,EnvR 19 [(5,.pointer (some ⟨g,0,none⟩)),(4,.pointer (some ⟨c,0,none⟩)),(3,.pointer (some ⟨b,0,none⟩))] [] t/\Mem Ψ (.blk l (.loop r)::.blk g (ob (z9o k) 261)::K) C) (fun _ _ _=>False)) a w)
  (hb:∀(a:Act) (w:World) (g:Nat) (K:List Res) (o:Obj),EnvR 19 [(5,.pointer (some ⟨g,0,none⟩)),(4,.pointer (some ⟨c,0,none⟩)),(3,.pointer (some ⟨b,0,none⟩))] [] a->Mem Ψ (.blk l o::.blk g (ob (z9o k) 261)::.blk b (ob [z] 255)::.gs z 261 4 (nL pre)::K) w ->
   r.body.wpIn (FO (some l)) 2 prog (fun e _ w=>e=.normal/\∃v,Mem Ψ (.blk l o::.blk b (ob [v] 255)::.gs v 261 4 (nL (pre++[k]))::K) w) a w)
  (J:EnvR 19 [(4,.pointer (some ⟨c,0,none⟩)),(3,.pointer (some ⟨b,0,none⟩))] [] ⟨r.tmps,[]⟩) (N:Mem Ψ (K0++scanKY K l Dk b c r pre z) w) :
  YieldAt Fence.wide 2 prog l #[y8e k] w (fun e w'=>e=.returned (.bool true)/\∃z',Mem Ψ (K0++scanKY K l Dk b c r (pre++[k]) z') w'):=by
 have f:Mem Ψ (scanKY K l Dk b c r pre z++K0) w:=N.perm List.perm_append_comm
 replace f:Mem Ψ (.blk l (.loop r)::.blk b (ob [z] 255)::.gs z 261 4 (nL pre)::.blk Dk (.deferred (some []))::.blk c (ob [.int .i64 ((0:Nat):Int),.int .i64 ((0:Nat):Int)] 257)::(K++K0)) w :=
  (((f.pull (i:=4) rfl).pull (i:=4) rfl).pull (i:=2) rfl)
 have hl:w.heap[l]? = some (.loop r):=f.own _ msQ
 refine ⟨r.fn,r.tmps.setIfInBounds 11 (y8e k),r.assign,r.body,?_,?_⟩
 ·rw [run_yield hl (by rw [j];rfl),j,zip1];simp
 ·have m:EnvR 19 [(11,y8e k),(4,.pointer (some ⟨c,0,none⟩)),(3,.pointer (some ⟨b,0,none⟩))] [] ⟨r.tmps.setIfInBounds 11 (y8e k),[]⟩:=J.put (d:=11) rfl
  have h:=q9n (P:=prog) (E1:=fun g=>[(5,.pointer (some ⟨g,0,none⟩)),(4,.pointer (some ⟨c,0,none⟩)),(3,.pointer (some ⟨b,0,none⟩))])
   (KO:=fun v=>.blk b (ob [v] 255)::.gs v 261 4 (nL (pre++[k]))::.blk Dk (.deferred (some []))::.blk c (ob [.int .i64 ((0:Nat):Int),.int .i64 ((0:Nat):Int)] 257)::(K++K0)) f q p m
   (fun a J=>A a w _ J f) (fun g a w J N=>hb a w g _ _ J N)
  refine h.mono fun e w' B=>?_
  obtain ⟨h1,v,u⟩:=B
  refine ⟨h1,v,?_⟩
  have y:Mem Ψ (scanKY K l Dk b c r (pre++[k]) v++K0) w':=(((u.pull (i:=4) rfl).pull (i:=4) rfl).pull (i:=2) rfl)
  exact y.perm List.perm_append_comm
set_option maxRecDepth 20000 in
set_option maxHeartbeats 4000000 in
theorem j3y {Φ:Fz} {K:List Res} {w:World} {t:Bs} (G:Glob Φ) (X:t.size<=800000) (N:Mem Φ K w) :
  Calls prog 198 #[.string t] w (fun ee w'=>Out (aL t)
   (fun l=>∃y:Nat×Value,ee=.returned (.tuple #[.pointer (some ⟨y.1,0,none⟩),y.2,.agg #[.int .i64 ((0:Nat):Int),.int .i64 ((0:Nat):Int)]])/\Mem Φ (.gs y.2 261 4 (nL l)::K) w')
   (fun c=>∃y:Nat,ee=.returned (.tuple #[.pointer (some ⟨y,0,none⟩),.slice none 0 0,.agg (dV c).toArray])/\Mem Φ K w')):=by
 refine z8h func198 rfl ntmps198 rfl (fun Q hQ a J=>?_)
 refine sq fun L1 F=>?_
 refine wp_region_lit ?_
 refine kB J (kZ J rfl) rfl fun a J=>?_
 refine st J rfl rfl rfl (yT (cs:=[.slice none 0 0]) N zeroValue255 rfl fun g w N a J=>?_)
 refine st J rfl rfl rfl (yT (cs:=[.int .i64 ((0:Nat):Int),.int .i64 ((0:Nat):Int)]) N zeroValue257 rfl fun m w N a J=>?_)
 refine wpList_nil ?_
 apply F
 refine sq fun L2 H=>?_
 refine wp_region_lit ?_
 refine kB J (jY J rfl) rfl fun a J=>?_
 refine st J rfl rfl rfl (jG J rfl call211 (y9b N) (fun y w _ N a J=>?_))
 obtain ⟨b,mb⟩:=y
 simp only at N J
 refine kB J (kZ J rfl) rfl fun a J=>?_
 refine wpList_nil ?_
 apply H
 obtain ⟨Ψ,le,N,A⟩:=N.freezeMap (i:=1) rfl
 replace N:Mem Ψ (.blk b (ob [.string t,.int .i64 ((0:Nat):Int),.map (some mb),.slice none 0 0] 289)::.blk m (ob [.int .i64 ((0:Nat):Int),.int .i64 ((0:Nat):Int)] 257)::.blk g (ob [.slice none 0 0] 255)::K) w:=N
 refine sq fun L3 I=>?_
 refine wp_region_lit ?_
 refine kB J (z5m (vfs:=[]) (vcs:=[.pointer (some ⟨g,0,none⟩),.pointer (some ⟨m,0,none⟩)]) J rfl rfl) rfl fun a J=>?_
 refine y1b (fs:=[]) (cs:=[.pointer (some ⟨g,0,none⟩),.pointer (some ⟨m,0,none⟩)]) (vs:=[]) J rfl rfl fun a J=>?_
 refine wpList_nil ?_
 apply I
 refine sq fun L4 L=>?_
 refine sq fun L5 M=>?_
 refine wp_region_lit ?_
 refine kB J (jY J rfl) rfl fun a J=>?_
 refine st J rfl rfl rfl (jG J rfl call213 (x2h N) (fun bx w _ N a J=>?_))
 refine wpList_nil ?_
 apply M
 refine wp_block ?_
 refine z7q (P:=prog) (β:=List Tok×Value) (δ:=List Tok×Value) (gf:=219) (fs:=[]) (cs:=[.pointer (some ⟨bx,0,none⟩)]) (F1:=fun _=>Ψ)
  (KO:=fun y=>.blk m (ob [.int .i64 ((0:Nat):Int),.int .i64 ((0:Nat):Int)] 257)::.blk g (ob [y.2] 255)::.gs y.2 261 4 (nL y.1)::K)
  (KE:=fun y=>.blk m (ob [.int .i64 ((0:Nat):Int),.int .i64 ((0:Nat):Int)] 257)::.blk g (ob [y.2] 255)::.gs y.2 261 4 (nL y.1)::K)
  (G:=fun y=>aL t=.ok y.1) (B:=fun _ c=>∃e,aL t=.error e/\c=sY e) J N rfl call219 ?_ ?_ ?_
 ·intro Dk l r w V has S W U T N
  have p:=N.nilRow 261 4
  replace p:Mem Ψ (.blk bx (ob [.pointer (some ⟨b,0,none⟩)] 254)::.blk b (ob [.string t,.int .i64 ((0:Nat):Int),.map (some mb),.slice none 0 0] 289)::scanKY K l Dk g m r [] (.slice none 0 0)) w :=
   ((((((p.pull (i:=6) rfl).pull (i:=6) rfl).pull (i:=4) rfl).pull (i:=4) rfl).pull (i:=6) rfl).pull (i:=6) rfl)
  have h:=j4n (l:=l) (KY:=scanKY K l Dk g m r) (G.mono le) A X (fun pre z K0 k w s N=>?_) p
  ·refine h.mono fun e w' C=>?_
   cases Y:aL t with
   | ok rr=>
    rw [Y] at C
    obtain ⟨z,rfl,d⟩:=C
    exact .inl ⟨_,(rr,z),rfl,rfl,d⟩
   | error c=>
    rw [Y] at C
    obtain ⟨y,rfl,d⟩:=C
    exact .inr ⟨_,y,rfl,⟨c,rfl,rfl⟩,d.tail⟩
  ·refine j3x (n:=t.size) s X V W U (fun a w K J N=>?_) (fun a w D K o J N=>?_) (T.of_sub ⟨rfl,rfl,trivial⟩) N
   ·rw [has]
    refine wpIn_region_lit ?_
    refine y5c J rfl rfl rfl (by intro c h;cases h) (yT (cs:=[.int .i64 ((0:Nat):Int),.int .i64 ((0:Nat):Int),.string ⟨#[]⟩,.int .i64 ((0:Nat):Int)]) N zeroValue261 rfl fun D w N a J=>?_)
    refine q4b J rfl rfl (by intro c h;cases h) (yA 0 (cs:=[.int .i64 ((0:Nat):Int),.int .i64 ((0:Nat):Int),.string ⟨#[]⟩,.int .i64 ((0:Nat):Int)]) (vs:=z9o k) J N rfl rfl rfl rfl sizeOf261 rfl rfl rfl fun w N a J=>?_)
    refine wpListIn_nil ?_
    exact ⟨D,J.of_sub ⟨rfl,rfl,rfl,trivial⟩,N.pull (i:=1) rfl⟩
   ·rw [S]
    refine wpIn_block ?_
    refine wpIn_region_lit ?_
    refine yZ J (by intro c h;cases h) (qD 2 J N.toSees rfl rfl rfl isAgg255) rfl fun a J=>?_
    refine yZ J (by intro c h;cases h) (vS 1 (vs:=z9o k) J N.toSees rfl rfl isAgg261 sizeOf261 rfl rfl) rfl fun a J=>?_
    refine y5c J rfl rfl rfl (by intro c h;cases h) (kL (sz:=4) (cs:=z9o k) J N rfl (z1e runUnderlying255 sizeOf261 zeroValue261 rfl (by decide) rfl) rfl (by decide) fun v w N _ a J=>?_)
    refine y5c J rfl rfl rfl (by intro c h;cases h) (gZ 4 (xs:=nL pre) (news:=z9o k) rt_255 J N rfl rfl rfl (N.toSees.rowIn (i:=0) rfl) rfl (by rw [q2m];simp only [z9o,lcQ,lnQ];omega) fun v2 w N a J=>?_)
    replace N:Mem Ψ (.gs v 261 4 (z9o k)::.blk l o::.blk D (ob (z9o k) 261)::.blk g (ob [z] 255)::.gs v2 261 4 (nL (pre++[k]))::K) w:=by rw [j4o];exact N
    refine q4b J rfl rfl (by intro c h;cases h) (yA 3 (cs:=[z]) (vs:=[v2]) J N rfl rfl rfl (N.toSees.gsCells (i:=4) rfl) sizeOf255 rfl (N.toSees.gsOne (i:=4) rfl) rfl fun w N a J=>?_)
    refine wpListIn_nil ?_
    exact ⟨rfl,v2,(N.del 0).del 1⟩
 ·intro Dk y a w hG J N
  apply L
  refine sq fun L6 R=>?_
  refine dE [1,2,2,1,0,0] (.q 0 (.q 1 (.q 2 (.q 3 (.e 4 (.e 5 .done)))))) [.blk m (ob [.int .i64 ((0:Nat):Int),.int .i64 ((0:Nat):Int)] 257),.blk g (ob [y.2] 255)] J N mixed (by kernel_rfl) (by simp) fun w N=>?_
  refine y3u J rfl rfl (fun w=>jY J rfl) rfl fun a J=>?_
  refine d_q J rfl rfl (fun w O=>qD 1 J O rfl rfl rfl isAgg255) rfl fun a J=>?_
  refine d_q J rfl rfl (fun w O=>vS 0 (vs:=[.int .i64 ((0:Nat):Int),.int .i64 ((0:Nat):Int)]) J O rfl rfl isAgg257 sizeOf257 rfl rfl) rfl fun a J=>?_
  refine y3u J rfl rfl (fun w=>kZ J rfl) rfl fun a J=>?_
  refine wA J rfl rfl (yA 2 (cs:=[y.2]) (vs:=[y.2]) J N rfl rfl rfl (N.toSees.gsCells (i:=3) rfl) sizeOf255 rfl (N.toSees.gsOne (i:=3) rfl) rfl fun w N=>⟨fun _=>(show Mem Ψ (.blk Dk (.deferred (some []))::.blk m (ob [.int .i64 ((0:Nat):Int),.int .i64 ((0:Nat):Int)] 257)::.blk g (ob [y.2] 255)::.gs y.2 261 4 (nL y.1)::K) w from N).seesIn (Fz.Le.refl _) (by simp),fun a J=>?_⟩)
  replace N:Mem Ψ (.blk Dk (.deferred (some []))::.blk m (ob [.int .i64 ((0:Nat):Int),.int .i64 ((0:Nat):Int)] 257)::.blk g (ob [y.2] 255)::.gs y.2 261 4 (nL y.1)::K) w:=N
  refine wA J rfl rfl (yA 1 (cs:=[.int .i64 ((0:Nat):Int),.int .i64 ((0:Nat):Int)]) (vs:=[.int .i64 ((0:Nat):Int),.int .i64 ((0:Nat):Int)]) J N rfl rfl rfl rfl sizeOf257 rfl rfl rfl fun w N=>⟨yJ (by kernel_rfl),fun a J=>?_⟩)
  replace N:Mem Ψ (.blk Dk (.deferred (some []))::.blk m (ob [.int .i64 ((0:Nat):Int),.int .i64 ((0:Nat):Int)] 257)::.blk g (ob [y.2] 255)::.gs y.2 261 4 (nL y.1)::K) w:=N
  refine q3l ?_
  apply R
  refine wp_ret ?_
  refine hQ _ _ _ ?_
  show nN _ _ _ _ a.defers _ _
  rw [J.defs]
  have E:w.heap[Dk]? = some (.deferred (some [])):=N.own _ msQ
  have d:=N.putObj (i:=0) (o':=.deferred none) rfl
  refine aV (by simp) E (oB ?_)
  refine leaves_cons (f:=212) (args:=#[.pointer (some ⟨g,0,none⟩),.pointer (some ⟨m,0,none⟩)]) (by simp) (call212 _ _) ?_
  refine catch_none.mono ?_
  rintro e u' w'' ⟨rfl,rfl,rfl⟩
  refine ⟨_,q9h (i:=2) (j:=1) J d.toSees results198 rfl rfl rfl isAgg255 rfl rfl isAgg257 sizeOf257 rfl,?_⟩
  rw [hG]
  exact ⟨(b,y.2),rfl,(((d.del 0).del 0).del 0).le le⟩
 ·intro Dk y c a w Z J N
  obtain ⟨e,hE,rfl⟩:=Z
  refine hQ _ _ _ ?_
  show nN _ _ _ _ a.defers _ _
  rw [J.defs]
  have E:w.heap[Dk]? = some (.deferred (some [])):=N.own _ msQ
  have d:=(N.putObj (i:=0) (o':=.deferred none) rfl).pull (i:=2) rfl
  replace d:Mem Ψ (.blk g (ob [y.2] 255)::.blk m (ob [.int .i64 ((0:Nat):Int),.int .i64 ((0:Nat):Int)] 257)::.blk Dk (.deferred none)::.gs y.2 261 4 (nL y.1)::K) (w.putObj Dk (.deferred none)):=d.pull (i:=2) rfl |>.pull (i:=1) rfl
  refine aV (by simp) E (oB ?_)
  refine leaves_cons (f:=212) (args:=#[.pointer (some ⟨g,0,none⟩),.pointer (some ⟨m,0,none⟩)]) (by simp) (call212 _ _) ?_
  refine (q6h d).mono ?_
  rintro e' u' w'' ⟨rfl,rfl,u⟩
  refine ⟨_,q9h (i:=0) (j:=1) J u.toSees results198 rfl rfl rfl isAgg255 rfl rfl isAgg257 sizeOf257 rfl,?_⟩
  rw [hE]
  exact ⟨b,rfl,((((u.del 0).del 0).del 0).del 0).le le⟩
def RTok (_:Fz) (cs:List Value) (x:Tok):Prop:=cs=[.int .i64 x.kind,.int .i64 x.num,.string x.text,.int .i64 x.org]
theorem RTok.mono (Φ Ψ:Fz) (c:List Value) (x:Tok) (_:Φ.Le Ψ) (h:RTok Φ c x):RTok Ψ c x:=h
theorem y8f {Φ:Fz}:∀l:List Tok,Chunks (RTok Φ) 4 (nL l) l
 | []=>rfl
 | k::l=>⟨z9o k,nL l,rfl,rfl,rfl,y8f l⟩
section
variable {s:Bs} {l:List Tok} {c:Nat×Int} {x:Tok}
theorem x0b (h:24 < s.size):vQ s=0:=by unfold vQ;rw [if_pos h]
theorem q7w (h:¬24 < s.size) (hq:aL s=.error c):vQ s=0:=by unfold vQ;rw [if_neg h,hq]
theorem kind_ne (h:¬24 < s.size) (hq:aL s=.ok l) (hl:¬l.length=1):vQ s=0:=by
 unfold vQ;rw [if_neg h,hq]
 match l,hl with
 | [],_=>rfl
 | [k],hl=>exact absurd rfl hl
 | _::_::_,_=>rfl
theorem q7y (hl:l.length=1) (a:l[0]? = some x):l=[x]:=by
 match l,hl,a with
 | [k],_,a=>simp only [List.getElem?_cons_zero,Option.some.injEq] at a;rw [a]
theorem kind_no (h:¬24 < s.size) (hq:aL s=.ok l) (hl:l.length=1) (b:l[0]? = some x) (a:¬x.text=s):vQ s=0:=by
 unfold vQ;rw [if_neg h,hq,q7y hl b];simp [a]
theorem kind_ok (h:¬24 < s.size) (hq:aL s=.ok l) (hl:l.length=1) (b:l[0]? = some x) (a:x.text=s):vQ s=x.kind:=by
 unfold vQ;rw [if_neg h,hq,q7y hl b];simp [a]
end
section
variable {Φ:Fz} {K:List Res} {w:World}
theorem q7v {s:Bs} (G:Glob Φ) (N:Mem Φ K w):Calls prog 184 #[.string s] w (fun ee w'=>ee=.returned (.int .i64 (vQ s))/\Mem Φ K w'):=by
 refine zL func184 ntmps184 fun Q hQ a J=>?_
 by_cases m:24 < s.size
 refine zD ?_
 rw [x0b m];exact ⟨rfl,N⟩
 refine go fun a J=>?_
 refine st J rfl rfl rfl (j8y J rfl call198 (j3y G (by omega) N) (fun n I w c N a J=>?_) (fun n I w c N a J=>?_))
 replace N:=N.nf
 obtain ⟨U,V⟩:=I
 simp only at N J
 have h:=N
 clear N
 obtain ⟨v,e,N,f⟩:=h.freezeRow (i:=0) rfl
 clear h
 replace N:=N.nf
 have b:SliceOf RTok v 4 _ (n):=⟨_,f,y8f n⟩
 obtain ⟨S,P,y,H,q⟩:=b.form (by decide)
 have j:=N
 clear N
 subst y
 have N:=j
 clear j
 refine Alc fun L w N a J=>?_
 refine Sto 0 fun w N a J=>?_
 refine Qq (fun a J=>?_) (o:=by exact fun J O=>nF false J rfl rfl rfl)
 by_cases l:(n).length=1
 refine go fun a J=>?_
 have g:0 < (n).length:=by omega
 obtain ⟨T,rfl,u,d,A,E,C,r⟩:=b.el q g
 obtain rfl:=id r
 by_cases p:u.text=s
 refine go fun a J=>?_
 obtain ⟨z,k⟩:=zZ g
 obtain ⟨B,F,D,t⟩:=b.elem k
 obtain rfl:=id t
 refine zD ?_
 replace N:=N.le (e)
 replace N:=N.dl [0]
 rw [kind_ok m c l d p,show u=z from Option.some.inj (d.symm.trans k)];exact ⟨rfl,N⟩
 refine zD ?_
 replace N:=N.le (e)
 replace N:=N.dl [0]
 rw [kind_no m c l d p];exact ⟨rfl,N⟩
 refine zD ?_
 replace N:=N.le (e)
 replace N:=N.dl [0]
 rw [kind_ne m c l];exact ⟨rfl,N⟩
 replace N:=N.nf
 refine Alc fun M w N a J=>?_
 refine Sto 0 fun w N a J=>?_
 by_cases R:n.2=0
 refine Qq (fun a J=>?_) (o:=by exact fun J O=>nF true J rfl rfl rfl)
 refine zD ?_
 replace N:=N.dl [0]
 rw [q7w m c];exact ⟨rfl,N⟩
 refine zD ?_
 replace N:=N.dl [0]
 rw [q7w m c];exact ⟨rfl,N⟩
theorem j2d {s:Bs} (G:Glob Φ) (N:Mem Φ K w):Calls prog 161 #[.string s] w (fun ee w'=>ee=.returned (.bool (yQ s))/\Mem Φ K w'):=by
 refine zL func161 ntmps161 fun Q hQ a J=>?_
 refine zT call184 (fun w N a J=>?_) (c:=q7v G N)
 refine Qq (fun a J=>?_) (o:=by exact fun J O=>mX J rfl rfl)
 refine zD ?_
 exact ⟨rfl,N⟩
theorem j9v {s:Bs} (G:Glob Φ) (N:Mem Φ K w):Calls prog 158 #[.string s] w (fun ee w'=>ee=.returned (.bool (qB s))/\Mem Φ K w'):=by
 refine zL func158 ntmps158 fun Q hQ a J=>?_
 refine zT call184 (fun w N a J=>?_) (c:=q7v G N)
 refine Qq (fun a J=>?_) (o:=by exact fun J O=>mX J rfl rfl)
 refine zD ?_
 exact ⟨rfl,N⟩
end
theorem tI {Φ:Fz} {K:List Res} {w:World} {s:Bs} (G:Glob Φ) (N:Mem Φ K w):Calls Tryz.prog 161 #[.string s] w (fun ee w'=>ee=.returned (.bool (yQ s))/\Mem Φ K w'):=j2d G N
theorem mK {Φ:Fz} {K:List Res} {w:World} {s:Bs} (G:Glob Φ) (N:Mem Φ K w):Calls Tryz.prog 158 #[.string s] w (fun ee w'=>ee=.returned (.bool (qB s))/\Mem Φ K w'):=j9v G N
def aB (n:Nat):List PanicEntry:=[{ v:=.iface 206 (.agg #[.int .i64 n]),recovered:=false }]
section
variable {P:Program} {n:Nat} {E:List (Nat×Value)} {D:List Deferred} {a:Act} {Φ Ψ:Fz} {K:List Res} {w:World}
variable {Kn:Value->World->Prop} {Qp:List PanicEntry->World->Prop} {dst:Option Tmp} {ty:TypeId} {pos:String} {aft:Array Edge} {g:Option (Nat×Bool)}
theorem gM {f:FuncId} {xs:Array Operand} {ts:Array TypeId} {vs:List Value} {c:List PanicEntry} {b:Fz} {KE:List Res}
  (J:EnvR n E D a) (j:evs E xs.toList=some vs) (i:∀args w,(callFunc f args).run P w=.ok (.enter f args) w)
  (d:Calls P f vs.toArray w (fun e w'=>e=.panicked c/\Mem b KE w')) (kp:∀w',Mem b KE w'->Qp c w') :
  Oper.eff P ⟨dst,.call { callee:=.value (.func f),args:=xs,argTypes:=ts },ty,pos,aft,g⟩ a w Kn Qp :=
 aR J j i d (fun v w' h=>by cases h.1) (fun c w' h=>by cases h.1;exact kp _ h.2) (fun w' h=>by cases h.1)
end
theorem j9u {s:Bs} {v:Int} (h:oW s=.ok v) (a:aU v=s):sV s=some v:=by simp [sV,h,a]
theorem intP_ne {s:Bs} {v:Int} (h:oW s=.ok v) (a:¬aU v=s):sV s=none:=by simp [sV,h,a]
theorem x6m {s:Bs} {u:Unit} (h:oW s=.error u):sV s=none:=by simp [sV,h]
theorem x6n {s:Bs} {v:Int} (h:sV s=some v):I64 v:=by
 unfold sV at h
 split at h
 ·rename_i v' a
  split at h
  ·simp only [Option.some.injEq] at h;subst h;exact y3g a
  ·cases h
 ·cases h
theorem xE {ws:List Bs} {i:Nat} {p:Bs->Bool} {x:Bs×Nat} (h:nK ws p i=.ok x):x.2=i+1/\x.2<=ws.length:=by have:=z9m h;omega
theorem pJ {ws:List Bs} {i:Nat} {w:Bs} {x:Unit×Nat} (h:wZ ws w i=.ok x):x.2=i+1/\x.2<=ws.length:=by have:=q1r h;omega
def uH (ws:List Bs) (d:Nat):Prop:=∀{Φ:Fz} {K:List Res} {w:World} {r i:Nat} {rs:Value},Glob Φ->SliceOf RStr Φ 1 rs ws->i<=ws.length ->
  Mem Φ (.blk r (ob [rs,.int .i64 i] 210)::K) w ->
  Calls Tryz.prog 180 #[.pointer (some ⟨r,0,none⟩),.int .i64 d] w (fun ee w'=>Out (zY ws d i)
   (fun x=>∃y:Fz×List Value,ee=.returned (.agg y.2.toArray)/\(Φ.Le y.1/\REx y.1 y.2 x.1)/\Mem y.1 (.blk r (ob [rs,.int .i64 ((x.2:Nat):Int)] 210)::K) w')
   (fun c=>ee=.panicked (aB c)/\Mem Φ K w'))
theorem q0q:I64 0:=⟨by decide,by decide⟩
theorem REx.leaf {Φ:Fz} {k n:Int} {s:Bs} (h:I64 n):REx Φ [.int .i64 k,.int .i64 n,.string s,.slice none 0 0,.slice none 0 0] (.mk k n s [] []) :=
 REx.iff.2 ⟨_,_,rfl,h,SliceOf.nil 5,SliceOf.nil 7⟩
theorem REx.node {Φ:Fz} {k:Int} {s:Bs} {v:Value} {l:List Ex} (h:SliceOf REx Φ 5 v l):REx Φ [.int .i64 k,.int .i64 0,.string s,v,.slice none 0 0] (.mk k 0 s l []) :=
 REx.iff.2 ⟨_,_,rfl,q0q,h,SliceOf.nil 7⟩
theorem REx.full {Φ:Fz} {k:Int} {s:Bs} {v u:Value} {l:List Ex} {m:List Arm} (h:SliceOf REx Φ 5 v l) (a:SliceOf RArm Φ 7 u m):REx Φ [.int .i64 k,.int .i64 0,.string s,v,u] (.mk k 0 s l m) :=
 REx.iff.2 ⟨_,_,rfl,q0q,h,a⟩
theorem Chunks.one {α:Type} {R:List Value->α->Prop} {k:Nat} {a:List Value} {x:α} (la:a.length=k) (b:R a x):Chunks R k a [x]:=⟨a,[],by simp,la,b,rfl⟩
theorem Chunks.two {α:Type} {R:List Value->α->Prop} {k:Nat} {a b:List Value} {x y:α} (la:a.length=k) (c:R a x) (lb:b.length=k) (hb:R b y):Chunks R k (a++b) [x,y]:=⟨a,b,rfl,la,c,Chunks.one lb hb⟩
section
variable {P:Program} {n:Nat} {E:List (Nat×Value)} {D:List Deferred} {a:Act} {Φ:Fz} {K:List Res} {w:World} {ty:TypeId}
theorem j0x (i m:Nat) {x:Operand} {t e T:TypeId} {k:Nat} {v:Value} {cs:List Value} (J:EnvR n E D a) (O:Sees Φ K w) (g:ev E x=some v) (d:qU K i=some (.gs v T k cs)) (hl:cs.length=m * k) (b:0 < k) (f:Under P t (.slice e)) :
  Ok P a (.call { callee:=.builtin .len,args:=#[x],argTypes:=#[t] }) ty w (.int .i64 m):=by
 obtain ⟨p,m',c,rfl,h1,_⟩:=O.gsForm d
 have:m'=m:=Nat.eq_of_mul_eq_mul_right b (h1.symm.trans hl)
 subst this
 exact y1e J g f
end
section
variable {ws:List Bs} {i d:Nat}
theorem q0e:zY ws 0 i=.error (i+1):=rfl
theorem expr_no (h:zF ws i=⟨#[]⟩):zY ws (d+1) i=.error (i+1):=by rw [zY,if_pos (show zF ws i=sNo from h)]
theorem x4e {n:Int} (h:¬zF ws i=⟨#[]⟩) (a:sV (zF ws i)=some n):zY ws (d+1) i=.ok (.mk 1 n sNo [] [],i+1):=by
 rw [zY,if_neg (show ¬zF ws i=sNo from h),a]
theorem expr_fe {c:Nat} (h:¬zF ws i=⟨#[]⟩) (b:sV (zF ws i)=none) (e:zF ws i=⟨#[40]⟩) (a:qF ws (zY ws d) (i+1)=.error c):zY ws (d+1) i=.error c:=by
 rw [zY,if_neg (show ¬zF ws i=sNo from h),b];show (if zF ws i=gJ then _ else _)=_;rw [if_pos (show zF ws i=gJ from e),zO a]
theorem expr_fc {c:Nat} {x:Ex×Nat} (h:¬zF ws i=⟨#[]⟩) (e:sV (zF ws i)=none) (f:zF ws i=⟨#[40]⟩) (b:qF ws (zY ws d) (i+1)=.ok x) (a:wZ ws ⟨#[41]⟩ x.2=.error c):zY ws (d+1) i=.error c:=by
 rw [zY,if_neg (show ¬zF ws i=sNo from h),e];show (if zF ws i=gJ then _ else _)=_;rw [if_pos (show zF ws i=gJ from f),zE b];exact zO a
theorem j9b {x:Ex×Nat} {y:Unit×Nat} (h:¬zF ws i=⟨#[]⟩) (c:sV (zF ws i)=none) (e:zF ws i=⟨#[40]⟩) (b:qF ws (zY ws d) (i+1)=.ok x) (a:wZ ws ⟨#[41]⟩ x.2=.ok y):zY ws (d+1) i=.ok (x.1,y.2):=by
 rw [zY,if_neg (show ¬zF ws i=sNo from h),c];show (if zF ws i=gJ then _ else _)=_;rw [if_pos (show zF ws i=gJ from e),zE b];exact zE a
theorem x4d {x:Bs×Nat} (h:¬zF ws i=⟨#[]⟩) (b:sV (zF ws i)=none) (c:¬zF ws i=⟨#[40]⟩) (a:qB (zF ws i)=true) (e:z0e ws i=.ok x):zY ws (d+1) i=.ok (.mk 4 0 x.1 [] [],x.2):=by
 have hx':=(y7y h a).symm.trans e
 simp only [Except.ok.injEq] at hx';subst hx'
 rw [zY,if_neg (show ¬zF ws i=sNo from h),b];show (if zF ws i=gJ then _ else _)=_;rw [if_neg (show ¬zF ws i=gJ from c),if_pos a]
theorem j9a {c:Nat} {Q:Prop} (h:¬zF ws i=⟨#[]⟩) (a:qB (zF ws i)=true) (b:z0e ws i=.error c):Q:=by cases (y7y h a).symm.trans b
theorem j1v (h:¬zF ws i=⟨#[]⟩) (c:sV (zF ws i)=none) (e:¬zF ws i=⟨#[40]⟩) (a:qB (zF ws i)=false) (hb:zG (zF ws i) 0=33) (b:yQ ((zF ws i).extract 1 (zF ws i).size)=true) :
  zY ws (d+1) i=.ok (.mk 3 0 ((zF ws i).extract 1 (zF ws i).size) [] [],i+1):=by
 rw [zY,if_neg (show ¬zF ws i=sNo from h),c];show (if zF ws i=gJ then _ else _)=_;rw [if_neg (show ¬zF ws i=gJ from e),if_neg (by rw [a];decide),if_pos ⟨hb,b⟩]
theorem z3a (h:¬zF ws i=⟨#[]⟩) (b:sV (zF ws i)=none) (c:¬zF ws i=⟨#[40]⟩) (a:qB (zF ws i)=false) (hb:¬(zG (zF ws i) 0=33/\yQ ((zF ws i).extract 1 (zF ws i).size)=true)) :
  zY ws (d+1) i=yY (aY ws i) fun x j=>.ok (.mk 2 0 x [] [],j):=by
 rw [zY,if_neg (show ¬zF ws i=sNo from h),b];show (if zF ws i=gJ then _ else _)=_;rw [if_neg (show ¬zF ws i=gJ from c),if_neg (by rw [a];decide),if_neg hb]
theorem x8y {s:Bs} (h:¬s=⟨#[]⟩):0 < s.size:=by
 refine Nat.pos_of_ne_zero fun e=>h ?_
 apply ByteArray.ext
 exact Array.eq_empty_of_size_eq_zero e
variable {ex:Nat->Rd Ex} {f least:Nat}
theorem x6u (h:¬0 < least) (b:zF ws i=⟨#[41]⟩):wP ws ex (f+1) least i=.ok ([],i):=by
 rw [wP,if_neg];rintro (a | a);exact h a;exact a b
theorem j6u (h:0 < least∨¬zF ws i=⟨#[41]⟩):wP ws ex (f+1) least i=yY (ex i) fun e i=>yY (wP ws ex f (least - 1) i) fun l i=>.ok (e::l,i):=by
 rw [wP,if_pos];exact h.imp_right fun h=>h
end
def wD {α:Type} (xs:List α) (r:Rd (List α)):Rd (List α):=yY r fun l k=>.ok (xs++l,k)
theorem oJ {α:Type} (r:Rd (List α)):r=wD [] r:=by
 unfold wD;cases r with
 | ok x=>rfl
 | error c=>rfl
theorem pre1_ok {α:Type} (xs:List α) (l:List α) (k:Nat):wD xs (.ok (l,k))=.ok (xs++l,k):=rfl
theorem gQ {α:Type} (xs:List α) (x:α) (r:Rd (List α)):wD xs (yY r fun l k=>.ok (x::l,k))=wD (xs++[x]) r:=by
 unfold wD;cases r with
 | ok y=>simp [yY]
 | error c=>rfl
section
variable {ws:List Bs} {ex:Nat->Rd Ex} {f m j:Nat} {r:Rd (List Ex)} {xs:List Ex}
theorem x6v (b:r=wD xs (wP ws ex f (m - xs.length) j)) (c:0 < f) (h:¬xs.length < m) (a:zF ws j=⟨#[41]⟩):r=.ok (xs,j):=by
 obtain ⟨f,rfl⟩:∃k,f=k+1:=⟨f - 1,by omega⟩
 rw [b,x6u (by omega) a,pre1_ok,List.append_nil]
theorem q0z {c:Nat} (a:r=wD xs (wP ws ex f (m - xs.length) j)) (b:0 < f) (h:xs.length < m∨¬zF ws j=⟨#[41]⟩) (J:ex j=.error c):r=.error c:=by
 obtain ⟨f,rfl⟩:∃k,f=k+1:=⟨f - 1,by omega⟩
 rw [a,j6u (h.imp_left fun h=>by omega),zO J];rfl
theorem q1a {x:Ex×Nat} (a:r=wD xs (wP ws ex f (m - xs.length) j)) (b:0 < f) (h:xs.length < m∨¬zF ws j=⟨#[41]⟩) (J:ex j=.ok x) :
  r=wD (xs++[x.1]) (wP ws ex (f - 1) (m - (xs++[x.1]).length) x.2):=by
 obtain ⟨f,rfl⟩:∃k,f=k+1:=⟨f - 1,by omega⟩
 rw [a,j6u (h.imp_left fun h=>by omega),zE J,gQ,Nat.add_sub_cancel,laQ,Nat.sub_sub];rfl
end
section
variable {ws:List Bs} {ex:Nat->Rd Ex} {f j:Nat} {r:Rd (List Arm)} {xs:List Arm}
theorem x3c (c:r=wD xs (gU ws ex f (decide (xs.length=0)) j)) (d:0 < f) (h:¬xs.length=0) (b:¬zF ws j=⟨#[40]⟩):r=.ok (xs,j):=by
 obtain ⟨f,rfl⟩:∃k,f=k+1:=⟨f - 1,by omega⟩
 rw [c,gU,if_neg (by rintro (a | a);exact h (of_decide_eq_true a);exact b a)];simp [wD,yY]
theorem kD {c:Nat} (a:r=wD xs (gU ws ex f (decide (xs.length=0)) j)) (b:0 < f) (h:xs.length=0∨zF ws j=⟨#[40]⟩) (J:armP ws ex j=.error c):r=.error c:=by
 obtain ⟨f,rfl⟩:∃k,f=k+1:=⟨f - 1,by omega⟩
 rw [a,gU,if_pos (show decide (xs.length=0)=true∨zF ws j=gJ from h.imp_left fun h=>decide_eq_true h),zO J];rfl
theorem y9j {x:Arm×Nat} (a:r=wD xs (gU ws ex f (decide (xs.length=0)) j)) (b:0 < f) (h:xs.length=0∨zF ws j=⟨#[40]⟩) (J:armP ws ex j=.ok x):r=wD (xs++[x.1]) (gU ws ex (f - 1) (decide ((xs++[x.1]).length=0)) x.2):=by
 obtain ⟨f,rfl⟩:∃k,f=k+1:=⟨f - 1,by omega⟩
 rw [a,gU,if_pos (show decide (xs.length=0)=true∨zF ws j=gJ from h.imp_left fun h=>decide_eq_true h),zE J,gQ,Nat.add_sub_cancel];simp
end
section
variable {ws:List Bs} {f j:Nat} {r:Rd (List Bs)} {xs:List Bs}
theorem j0l (b:r=wD xs (gB ws f j)) (c:0 < f) (h:zF ws j=⟨#[45,62]⟩):r=.ok (xs,j):=by
 obtain ⟨f,rfl⟩:∃k,f=k+1:=⟨f - 1,by omega⟩
 rw [b,gB,if_neg (fun a=>a h)];simp [wD,yY]
theorem q2s {c:Nat} (a:r=wD xs (gB ws f j)) (b:0 < f) (h:¬zF ws j=⟨#[45,62]⟩) (J:aY ws j=.error c):r=.error c:=by
 obtain ⟨f,rfl⟩:∃k,f=k+1:=⟨f - 1,by omega⟩
 rw [a,gB,if_pos (show zF ws j≠y7n from h),zO J];rfl
theorem q2t {x:Bs×Nat} (a:r=wD xs (gB ws f j)) (b:0 < f) (h:¬zF ws j=⟨#[45,62]⟩) (J:aY ws j=.ok x):r=wD (xs++[x.1]) (gB ws (f - 1) x.2):=by
 obtain ⟨f,rfl⟩:∃k,f=k+1:=⟨f - 1,by omega⟩
 rw [a,gB,if_pos (show zF ws j≠y7n from h),zE J,gQ,Nat.add_sub_cancel]
end
section
variable {ws:List Bs} {f j:Nat} {r:Rd (List Bs)} {xs:List Bs}
theorem j1w (a:r=wD xs (kN ws f j)) (b:0 < f) (h:qB (zF ws j)=false):r=.ok (xs,j):=by
 obtain ⟨f,rfl⟩:∃k,f=k+1:=⟨f - 1,by omega⟩
 rw [a,kN,if_neg (by rw [h];decide)];simp [wD,yY]
theorem q6u {c:Nat} (a:r=wD xs (kN ws f j)) (b:0 < f) (h:qB (zF ws j)=true) (J:z0e ws j=.error c):r=.error c:=by
 obtain ⟨f,rfl⟩:∃k,f=k+1:=⟨f - 1,by omega⟩
 rw [a,kN,if_pos h,zO J];rfl
theorem q6v {x:Bs×Nat} (a:r=wD xs (kN ws f j)) (b:0 < f) (h:qB (zF ws j)=true) (J:z0e ws j=.ok x):r=wD (xs++[x.1]) (kN ws (f - 1) x.2):=by
 obtain ⟨f,rfl⟩:∃k,f=k+1:=⟨f - 1,by omega⟩
 rw [a,kN,if_pos h,zE J,gQ,Nat.add_sub_cancel]
end
section
variable {ws:List Bs} {ex:Nat->Rd Ex} {i:Nat}
theorem j6a (h:z0x (zF ws i)=true):qF ws ex i=yY (z7l ex (i+1)) fun l j=>.ok (.mk 8 0 (zF ws i) l [],j):=by rw [qF,if_pos h]
theorem y4q (h:z0x (zF ws i)=false) (a:zF ws i=⟨#[108,101,116]⟩):qF ws ex i=yY (aY ws (i+1)) fun x j=>yY (z7l ex j) fun l j=>.ok (.mk 6 0 x l [],j):=by
 rw [qF,if_neg (by rw [h];decide)];exact if_pos a
theorem vF (h:z0x (zF ws i)=false) (b:¬zF ws i=⟨#[108,101,116]⟩) (c:zF ws i=⟨#[99,97,115,101]⟩) :
  qF ws ex i=yY (ex (i+1)) fun a j=>yY (gU ws ex (ws.length+1) true j) fun l j=>.ok (.mk 7 0 sNo [a] l,j):=by
 rw [qF,if_neg (by rw [h];decide)];exact (if_neg b).trans (if_pos c)
theorem q7f (h:z0x (zF ws i)=false) (a:¬zF ws i=⟨#[108,101,116]⟩) (b:¬zF ws i=⟨#[99,97,115,101]⟩) (c:qB (zF ws i)=true) :
  qF ws ex i=yY (wP ws ex (ws.length+1) 1 (i+1)) fun l j=>.ok (.mk 4 0 (zF ws i) l [],j):=by
 rw [qF,if_neg (by rw [h];decide)];exact (if_neg a).trans ((if_neg b).trans (if_pos c))
theorem z8k (h:z0x (zF ws i)=false) (a:¬zF ws i=⟨#[108,101,116]⟩) (b:¬zF ws i=⟨#[99,97,115,101]⟩) (c:qB (zF ws i)=false) :
  qF ws ex i=yY (aY ws i) fun x j=>yY (wP ws ex (ws.length+1) 0 j) fun l j=>.ok (.mk 5 0 x l [],j):=by
 rw [qF,if_neg (by rw [h];decide)];exact (if_neg a).trans ((if_neg b).trans (if_neg (by rw [c];decide)))
theorem isOp_no {s:Bs} (h1:¬s=⟨#[43]⟩) (a:¬s=⟨#[45]⟩) (b:¬s=⟨#[42]⟩) (c:¬s=⟨#[47]⟩) (d:¬s=⟨#[37]⟩) (e:¬s=⟨#[60]⟩) (f:¬s=⟨#[61]⟩):z0x s=false:=by
 simp [z0x,h1,a,b,c,d,e,f]
theorem hU {s:Bs} (h:s=⟨#[43]⟩∨s=⟨#[45]⟩∨s=⟨#[42]⟩∨s=⟨#[47]⟩∨s=⟨#[37]⟩∨s=⟨#[60]⟩∨s=⟨#[61]⟩):z0x s=true:=by
 rcases h with h | h | h | h | h | h | h <;> subst h <;> rfl
end
theorem RArm.of {Φ:Fz} {c:Bs} {v:Value} {b:List Value} {vs:List Bs} {e:Ex} (h:SliceOf RStr Φ 1 v vs) (hb:REx Φ b e):RArm Φ (.string c::v::b) (.mk c vs e):=RArm.iff.2 ⟨_,_,rfl,h,hb⟩
theorem z0b {ws:List Bs} {i:Nat} {s:Bs} (h:zF ws i=s) (O:s≠⟨#[]⟩):i < ws.length:=pX fun e=>O (h.symm.trans e)
theorem isOp_lt {ws:List Bs} {i:Nat} (h:z0x (zF ws i)=true):i < ws.length:=pX fun e=>by rw [e] at h;revert h;decide
theorem x6p {ws:List Bs} {i:Nat} (h:qB (zF ws i)=true):i < ws.length:=pX fun e=>by rw [e] at h;revert h;decide
theorem two_le {ws:List Bs} {d i:Nat} {x:List Ex×Nat} (h:z7l (zY ws d) i=.ok x):i < x.2/\x.2<=ws.length:=y8h (vW d) i x h
theorem j6t {ws:List Bs} {d i f m:Nat} {x:List Ex×Nat} (a:i<=ws.length) (h:wP ws (zY ws d) f m i=.ok x):i<=x.2/\x.2<=ws.length:=uU (vW d) f m i x a h
theorem form_le {ws:List Bs} {d i:Nat} {x:Ex×Nat} (h:qF ws (zY ws d) i=.ok x):i < x.2/\x.2<=ws.length:=q0j (vW d) i x h
section
variable {ws:List Bs} {f j:Nat} {xs:List Con} {r:Rd (List Con)} {n:Bs×Nat} {l:List Bs} {k c:Nat}
theorem j1l (a:r=wD xs (gV ws f j)) (b:0 < f) (J:z0e ws j=.error c):r=.error c:=by
 obtain ⟨f,rfl⟩:∃k,f=k+1:=⟨f - 1,by omega⟩
 rw [a,gV,zO J];rfl
theorem j1m (a:r=wD xs (gV ws f j)) (b:0 < f) (h1:z0e ws j=.ok n) (J:kN ws (ws.length+1) n.2=.error c):r=.error c:=by
 obtain ⟨f,rfl⟩:∃k,f=k+1:=⟨f - 1,by omega⟩
 rw [a,gV,zE h1,zO J];rfl
theorem x3n (b:r=wD xs (gV ws f j)) (c:0 < f) (h1:z0e ws j=.ok n) (a:kN ws (ws.length+1) n.2=.ok (l,k)) (hb:¬zF ws k=⟨#[124]⟩):r=.ok (xs++[⟨n.1,l⟩],k):=by
 obtain ⟨f,rfl⟩:∃k,f=k+1:=⟨f - 1,by omega⟩
 rw [b,gV,zE h1,zE a,if_pos (show zF ws k≠sBar from hb)];rfl
theorem j8j (b:r=wD xs (gV ws f j)) (c:0 < f) (h1:z0e ws j=.ok n) (a:kN ws (ws.length+1) n.2=.ok (l,k)) (hb:zF ws k=⟨#[124]⟩):r=wD (xs++[⟨n.1,l⟩]) (gV ws (f - 1) (k+1)):=by
 obtain ⟨f,rfl⟩:∃k,f=k+1:=⟨f - 1,by omega⟩
 rw [b,gV,zE h1,zE a,if_neg (show ¬zF ws k≠sBar from fun h=>h hb),gQ,Nat.add_sub_cancel]
end
section
variable {ws:List Bs} {f j:Nat} {xs:List Param} {r:Rd (List Param)} {p:Param×Nat} {y:Unit×Nat} {c:Nat}
theorem j2x (a:r=wD xs (wK ws f j)) (b:0 < f) (h:¬zF ws j=⟨#[40]⟩):r=.ok (xs,j):=by
 obtain ⟨f,rfl⟩:∃k,f=k+1:=⟨f - 1,by omega⟩
 rw [a,wK,if_neg (show ¬zF ws j=gJ from h)];simp [wD,yY]
theorem q4s (a:r=wD xs (wK ws f j)) (b:0 < f) (h:zF ws j=⟨#[40]⟩) (J:pG ws (j+1)=.error c):r=.error c:=by
 obtain ⟨f,rfl⟩:∃k,f=k+1:=⟨f - 1,by omega⟩
 rw [a,wK,if_pos (show zF ws j=gJ from h),zO J];rfl
theorem q4t (a:r=wD xs (wK ws f j)) (b:0 < f) (h:zF ws j=⟨#[40]⟩) (h1:pG ws (j+1)=.ok p) (J:wZ ws ⟨#[41]⟩ p.2=.error c):r=.error c:=by
 obtain ⟨f,rfl⟩:∃k,f=k+1:=⟨f - 1,by omega⟩
 rw [a,wK,if_pos (show zF ws j=gJ from h),zE h1,zO (show wZ ws sCls p.2=_ from J)];rfl
theorem q8q (b:r=wD xs (wK ws f j)) (c:0 < f) (h:zF ws j=⟨#[40]⟩) (h1:pG ws (j+1)=.ok p) (a:wZ ws ⟨#[41]⟩ p.2=.ok y):r=wD (xs++[p.1]) (wK ws (f - 1) y.2):=by
 obtain ⟨f,rfl⟩:∃k,f=k+1:=⟨f - 1,by omega⟩
 rw [b,wK,if_pos (show zF ws j=gJ from h),zE h1,zE (show wZ ws sCls p.2=_ from a),gQ,Nat.add_sub_cancel]
end
theorem q8p {ws:List Bs} {i:Nat} {x:Param×Nat} (h:pG ws i=.ok x):i < x.2/\x.2<=ws.length:=j2v i x h
theorem data_le {ws:List Bs} {i:Nat} {x:Data×Nat} (h:cW ws i=.ok x):i < x.2/\x.2<=ws.length:=j8m i x h
theorem fun_le {ws:List Bs} {i:Nat} {x:Fun×Nat} (h:hH ws i=.ok x):i < x.2/\x.2<=ws.length:=x6b i x h
theorem tX (p:Nat->Bool) (t:Bs):∀(f i j:Nat),j < yS p t f i->i+j < t.size/\p (zG t (i+j))=true
 | 0,i,j,h=>by simp [yS] at h
 | f+1,i,j,h=>by
  simp only [yS] at h
  split at h
  ·rename_i h1
   cases j with
   | zero=>exact h1
   | succ j=>
    have:=tX p t f (i+1) j (by omega)
    rw [show i+(j+1)=i+1+j by omega];exact this
  ·omega
theorem q9o (p:Nat->Bool) (t:Bs):∀(f i:Nat),t.size<=i+f->i+yS p t f i < t.size->p (zG t (i+yS p t f i))=false
 | 0,i,h,a=>by simp only [yS] at a ⊢;omega
 | f+1,i,h,a=>by
  by_cases h1:i < t.size/\p (zG t i)=true
  ·have e:yS p t (f+1) i=yS p t f (i+1)+1:=by simp only [yS];rw [if_pos h1]
   rw [e] at a ⊢
   have:=q9o p t f (i+1) (by omega) (by omega)
   rw [show i+(yS p t f (i+1)+1)=i+1+yS p t f (i+1) by omega];exact this
  ·have e:yS p t (f+1) i=0:=by simp only [yS];rw [if_neg h1]
   rw [e] at a ⊢
   cases b:p (zG t (i+0)) with
   | false=>rfl
   | true=>exact absurd ⟨by omega,b⟩ h1
theorem byte_eq (b k:UInt8):(b==k)=decide (b.toNat=k.toNat):=by
 rw [Bool.eq_iff_iff];simp [UInt8.toNat_inj]
theorem cA (b:UInt8):([32,10,40,41]:List UInt8).contains b=y7s b.toNat:=by
 simp only [List.contains_cons,List.contains_nil,y7s,byte_eq,Bool.or_false]
 simp [Bool.or_assoc]
theorem y4j {t:Bs} {i j:Nat} (c:i+j < t.size):(t.extract i t.size).data.toList[j]? = some t[i+j]:=by
 rw [Array.getElem?_toList]
 have h:=ByteArray.data_extract (a:=t) (b:=i) (e:=t.size)
 rw [h,Array.getElem?_extract]
 have:t.data.size=t.size:=rfl
 rw [if_pos (by omega),Array.getElem?_eq_getElem (by omega)]
 rfl
theorem pM {t:Bs} {i:Nat} (h:i < t.size):zG t i=t[i].toNat:=by simp [zG,h]
theorem q6t {t:Bs} {i:Nat} {x:UInt8} {j:Nat} (h:(t.extract i t.size).data.toList[j]? = some x):i+j < t.size:=by
 have h1:=(List.getElem?_eq_some_iff.1 h).1
 have c:(t.extract i t.size).data.toList.length=(t.extract i t.size).size:=by rw [Array.length_toList];rfl
 have d:=ByteArray.size_extract (a:=t) (b:=i) (e:=t.size)
 omega
theorem z5j {t:Bs} {i:Nat} (h:i<=t.size):i+qT t i<=t.size:=kU _ t t.size i h
theorem j8b {t:Bs} {i:Nat} (g:i<=t.size):Lib.indexAny (t.extract i t.size).data.toList [32,10,40,41]=if i+qT t i < t.size then ((qT t i:Nat):Int) else -1:=by
 have f:∀n,n<=qT t i->Lib.NoAny (t.extract i t.size).data.toList [32,10,40,41] n:=fun n k j b m hb=>by
  have h1:=q6t hb
  rw [y4j h1] at hb
  simp only [Option.some.injEq] at hb
  have d:=(tX (fun c=> !y7s c) t t.size i j (by unfold qT at k;omega)).2
  rw [cA,<- hb,<- pM h1]
  simpa using d
 split
 ·rename_i h
  have d:=q9o (fun c=> !y7s c) t t.size i (by omega) h
  refine Lib.indexAny_hit (x:=t[i+qT t i]) (f _ (Nat.le_refl _)) (y4j h) ?_
  rw [cA,<- pM h]
  simpa [qT] using d
 ·rename_i h
  refine Lib.indexAny_none ?_
  have h1:=z5j g
  have d:(t.extract i t.size).data.toList.length=(t.extract i t.size).size:=by rw [Array.length_toList];rfl
  have l:=ByteArray.size_extract (a:=t) (b:=i) (e:=t.size)
  exact f _ (by omega)
theorem v0b {t:Bs} {i:Nat} (a:i<=t.size) (h:(if i+qT t i < t.size then ((qT t i:Nat):Int) else -1) < 0):i+qT t i=t.size:=by
 have:=z5j a
 split at h <;> omega
theorem v0c {t:Bs} {i:Nat} (h:¬(if i+qT t i < t.size then ((qT t i:Nat):Int) else -1) < 0):(if i+qT t i < t.size then ((qT t i:Nat):Int) else -1)=((qT t i:Nat):Int):=by
 split at h
 ·rename_i h1;rw [if_pos h1]
 ·omega
theorem x2q {t:Bs} {f i:Nat} (h:¬i < t.size):wE t f i=[]:=by cases f with
 | zero=>rfl
 | succ f=>rw [wE,if_neg h]
theorem v0e {t:Bs} {f i:Nat} (h:i < t.size) (a:t.size<=i+f) (hb:zG t i=32∨zG t i=10):wE t f i=wE t (f - 1) (i+1):=by
 obtain ⟨f,rfl⟩:∃k,f=k+1:=⟨f - 1,by omega⟩
 rw [wE,if_pos h,if_pos hb];rfl
theorem x2r {t:Bs} {f i:Nat} (h:i < t.size) (b:t.size<=i+f) (a:¬(zG t i=32∨zG t i=10)) (hb:zG t i=40∨zG t i=41):wE t f i=t.extract i (i+1)::wE t (f - 1) (i+1):=by
 obtain ⟨f,rfl⟩:∃k,f=k+1:=⟨f - 1,by omega⟩
 rw [wE,if_pos h,if_neg a,if_pos hb];rfl
theorem j4w {t:Bs} {f i:Nat} (h:i < t.size) (b:t.size<=i+f) (a:¬(zG t i=32∨zG t i=10)) (hb:¬(zG t i=40∨zG t i=41)):wE t f i=t.extract i (i+qT t i)::wE t (f - 1) (i+qT t i):=by
 obtain ⟨f,rfl⟩:∃k,f=k+1:=⟨f - 1,by omega⟩
 rw [wE,if_pos h,if_neg a,if_neg hb];rfl
theorem j0p {t:Bs} {i:Nat} (h:i < t.size) (a:¬(zG t i=32∨zG t i=10)) (hb:¬(zG t i=40∨zG t i=41)):0 < qT t i:=by
 unfold qT
 rw [xV,if_pos]
 ·omega
 ·refine ⟨h,?_⟩
  simp only [y7s]
  simp only [not_or] at a hb
  simp [a.1,a.2,hb.1,hb.2]
theorem sO {t:Bs}:∀f i s,s∈wE t f i->s.size<=t.size
 | 0,i,s,h=>by cases h
 | f+1,i,s,h=>by
  have c:∀a b,(t.extract a b).size<=t.size:=fun a b=>by have:=ByteArray.size_extract (a:=t) (b:=a) (e:=b);omega
  simp only [wE] at h
  split at h
  ·split at h
   ·exact sO f _ s h
   ·split at h
    ·rcases List.mem_cons.1 h with rfl | h
     ·exact c _ _
     ·exact sO f _ s h
    ·rcases List.mem_cons.1 h with rfl | h
     ·exact c _ _
     ·exact sO f _ s h
  ·cases h
theorem sN {t:Bs}:∀f i,(wE t f i).length<=f
 | 0,i=>by simp [wE]
 | f+1,i=>by
  simp only [wE]
  split
  ·split
   ·exact Nat.le_succ_of_le (sN f _)
   ·split
    ·simpa using sN f _
    ·simpa using sN f _
  ·simp
theorem x1j {ws:List Bs} {n:Nat} (h:∀s∈ws,s.size<=n) (j:Nat):(zF ws j).size<=n:=by
 unfold zF
 rw [List.getD_eq_getElem?_getD]
 cases a:ws[j]? with
 | none=>exact Nat.zero_le _
 | some x=>exact h _ (mgQ a)
section
variable {Φ:Fz} {K:List Res} {w:World}
theorem mL {r i:Nat} {rs:Value} {ws:List Bs} (rl:SliceOf RStr Φ 1 rs ws) (k:ws.length<=1000000) (m:i<=ws.length) (N:Mem Φ (.blk r (ob [rs,.int .i64 i] 210)::K) w) :
  Calls prog 179 #[.pointer (some ⟨r,0,none⟩)] w (fun ee w'=>ee=.returned (.string (zF ws i))/\Mem Φ (.blk r (ob [rs,.int .i64 i] 210)::K) w'):=by
 obtain ⟨pw,cw,rfl,j,d⟩:=rl.fm
 refine zL func179 ntmps179 fun Q hQ a J=>?_
 refine Reg [1,1,1,2,1,1,1,2,1,1] [0] fun w N a J=>?_
 by_cases f:i < ws.length
 refine Reg [1,1,1,2,1,1,1,2,1,2,1] [0] fun w N a J=>?_
 refine go fun a J=>?_
 obtain ⟨n,rfl,l,e,c,h,g,b⟩:=rl.el d f
 obtain rfl:c=[.string l]:=b
 refine zD ?_
 rw [xA e];exact ⟨rfl,N⟩
 refine zD ?_
 rw [x7s f];exact ⟨rfl,N⟩
theorem tU {r i:Nat} {rs:Value} {ws:List Bs} (rl:SliceOf RStr Φ 1 rs ws) (e:ws.length<=1000000) (f:i<=ws.length) (N:Mem Φ (.blk r (ob [rs,.int .i64 i] 210)::K) w) :
  Calls prog 143 #[.pointer (some ⟨r,0,none⟩)] w (fun ee w'=>ee=.panicked (aB (i+1))/\Mem Φ K w'):=by
 obtain ⟨pw,cw,rfl,c,d⟩:=rl.fm
 refine zL func143 ntmps143 fun Q hQ a J=>?_
 refine qO fun a J=>?_
 refine Qq (fun a J=>?_) (o:=by exact fun J O=>qZ J rfl runUnderlying206 (by intro ms h;cases h))
 refine st0 J rfl rfl (kF J rfl (kH _) (fun a b=>hQ _ _ _ (qL b ?_)))
 replace N:=N.dl [0]
 exact ⟨rfl,N⟩
theorem y7l {r i:Nat} {rs:Value} {ws:List Bs} {g:Nat} {fs cs:List Value} {p:Bs->Bool} (k:∀args w,(callFunc g args).run prog w=.ok (.enter g args) w)
  (j:∀{w:World} (s:Bs),Mem Φ (.blk r (ob [rs,.int .i64 i] 210)::K) w->Calls prog g (fs++[Value.string s]++cs).toArray w (fun ee w'=>ee=.returned (.bool (p s))/\Mem Φ (.blk r (ob [rs,.int .i64 i] 210)::K) w')) (rl:SliceOf RStr Φ 1 rs ws) (d:ws.length<=1000000) (n:i<=ws.length) (N:Mem Φ (.blk r (ob [rs,.int .i64 i] 210)::K) w) :
  Calls prog 181 #[.pointer (some ⟨r,0,none⟩),.func (.func g) fs.toArray cs.toArray] w (fun ee w'=>Out (nK ws p i) (fun x=>ee=.returned (.string x.1)/\Mem Φ (.blk r (ob [rs,.int .i64 ((x.2:Nat):Int)] 210)::K) w') (fun c=>ee=.panicked (aB c)/\Mem Φ K w')):=by
 obtain ⟨pw,cw,rfl,l,m⟩:=rl.fm
 refine zL func181 ntmps181 fun Q hQ a J=>?_
 refine zT call179 (fun w N a J=>?_) (c:=mL (i:=i) rl d (by omega) N)
 by_cases e:(zF ws i)=(⟨#[]⟩:Bs)
 refine go fun a J=>?_
 refine st J rfl rfl rfl (gM J rfl call143 (tU (i:=i) rl d (by omega) N) (fun w N=>fun a f=>hQ _ _ _ (qL f ?_)))
 show Out (nK ws p i) _ _
 rw [x9l e];exact ⟨rfl,N⟩
 refine q3b k (fun b w N a J=>?_) (fun b w N a J=>?_) (c:=by exact j _ N)
 have h:=pX e
 refine Sto 0 fun w N a J=>?_
 refine zD ?_
 show Out (nK ws p i) _ _
 rw [y7y e b];exact ⟨rfl,N⟩
 refine go fun a J=>?_
 refine st J rfl rfl rfl (gM J rfl call143 (tU (i:=i) rl d (by omega) N) (fun w N=>fun a f=>hQ _ _ _ (qL f ?_)))
 show Out (nK ws p i) _ _
 rw [x2g b];exact ⟨rfl,N⟩
theorem x7h {b:Nat} {s x:Bs} (N:Mem Φ (.blk b (ob [.string x] 9)::K) w) :
  Calls prog 191 #[.string s,.pointer (some ⟨b,0,none⟩)] w (fun ee w'=>ee=.returned (.bool (decide (s=x)))/\Mem Φ (.blk b (ob [.string x] 9)::K) w'):=by
 refine zL func191 ntmps191 fun Q hQ a J=>?_
 refine Qq (fun a J=>?_) (o:=by exact fun J O=>z7s J rfl rfl)
 refine zD ?_
 exact ⟨rfl,N⟩
theorem pL {r i:Nat} {rs:Value} {ws:List Bs} {x:Bs} (rl:SliceOf RStr Φ 1 rs ws) (e:ws.length<=1000000) (l:i<=ws.length) (N:Mem Φ (.blk r (ob [rs,.int .i64 i] 210)::K) w) :
  Calls prog 178 #[.pointer (some ⟨r,0,none⟩),.string x] w (fun ee w'=>Out (wZ ws x i) (fun x=>ee=.returned (.tuple #[])/\Mem Φ (.blk r (ob [rs,.int .i64 ((x.2:Nat):Int)] 210)::K) w') (fun c=>ee=.panicked (aB c)/\Mem Φ K w')):=by
 obtain ⟨pw,cw,rfl,g,j⟩:=rl.fm
 refine zL func178 ntmps178 fun Q hQ a J=>?_
 refine Bx fun f w N a J=>?_
 replace N:=N.ar [] [1,1,1]
 refine jN call181 (fun k w b N a J=>?_) (fun k w b N=>?_) (c:=y7l (p:=fun s=>decide (s=x)) (fs:=[]) (cs:=[.pointer (some ⟨f,0,none⟩)]) call191 (fun s N=>(x7h (N.pull (i:=1) rfl)).mono fun _ _ h=>⟨h.1,h.2.pull (i:=1) rfl⟩) (i:=i) rl e (by omega) N)
 have d:=xE b
 refine go fun a J=>?_
 replace N:=N.dl [1]
 refine hQ _ _ _ (q2a J results178 ?_)
 show Out (wZ ws x i) _ _
 rw [x7i b];exact ⟨rfl,N⟩
 replace N:=N.dl [0]
 show Out (wZ ws x i) _ _
 rw [x0q b];exact ⟨rfl,N⟩
theorem sJ {r i:Nat} {rs:Value} {ws:List Bs} (G:Glob Φ) (rl:SliceOf RStr Φ 1 rs ws) (e:ws.length<=1000000) (j:i<=ws.length) (N:Mem Φ (.blk r (ob [rs,.int .i64 i] 210)::K) w) :
  Calls prog 177 #[.pointer (some ⟨r,0,none⟩)] w (fun ee w'=>Out (z0e ws i) (fun x=>ee=.returned (.string x.1)/\Mem Φ (.blk r (ob [rs,.int .i64 ((x.2:Nat):Int)] 210)::K) w') (fun c=>ee=.panicked (aB c)/\Mem Φ K w')):=by
 obtain ⟨pw,cw,rfl,g,h⟩:=rl.fm
 refine zL func177 ntmps177 fun Q hQ a J=>?_
 refine jN call181 (fun f w b N a J=>?_) (fun f w b N=>?_) (c:=y7l (p:=qB) (fs:=[]) (cs:=[]) call158 (fun s N=>mK G N) (i:=i) rl e (by omega) N)
 have d:=xE b
 refine zD ?_
 show Out (z0e ws i) _ _
 rw [show z0e ws i=.ok f from b];exact ⟨rfl,N⟩
 show Out (z0e ws i) _ _
 rw [show z0e ws i=_ from b];exact ⟨rfl,N⟩
theorem aZ {r i:Nat} {rs:Value} {ws:List Bs} (G:Glob Φ) (rl:SliceOf RStr Φ 1 rs ws) (e:ws.length<=1000000) (j:i<=ws.length) (N:Mem Φ (.blk r (ob [rs,.int .i64 i] 210)::K) w) :
  Calls prog 142 #[.pointer (some ⟨r,0,none⟩)] w (fun ee w'=>Out (aY ws i) (fun x=>ee=.returned (.string x.1)/\Mem Φ (.blk r (ob [rs,.int .i64 ((x.2:Nat):Int)] 210)::K) w') (fun c=>ee=.panicked (aB c)/\Mem Φ K w')):=by
 obtain ⟨pw,cw,rfl,g,h⟩:=rl.fm
 refine zL func142 ntmps142 fun Q hQ a J=>?_
 refine jN call181 (fun f w b N a J=>?_) (fun f w b N=>?_) (c:=y7l (p:=yQ) (fs:=[]) (cs:=[]) call161 (fun s N=>tI G N) (i:=i) rl e (by omega) N)
 have d:=xE b
 refine zD ?_
 show Out (aY ws i) _ _
 rw [show aY ws i=.ok f from b];exact ⟨rfl,N⟩
 show Out (aY ws i) _ _
 rw [show aY ws i=_ from b];exact ⟨rfl,N⟩
theorem j2a {s:Bs} (O:s.size<=1000000) (G:Glob Φ) (N:Mem Φ K w) :
  Calls prog 192 #[.string s] w (fun ee w'=>∃y:Int,ee=.returned (.tuple #[.int .i64 y,.bool (sV s).isSome])/\(∀v,sV s=some v->y=v)/\Mem Φ K w'):=by
 refine zL func192 ntmps192 fun Q hQ a J=>?_
 refine go fun a J=>?_
 refine st J rfl rfl rfl (q0a J rfl call203 (j5k (by exact O) G N) (fun e w b N a J=>?_) (fun e f w b N a J=>?_))
 replace N:=N.nf
 refine Qq (fun a J=>?_) (o:=by exact fun J O=>oR (v:=.bool true) J rfl rfl rfl (by kernel_rfl))
 refine zT call99 (fun w N a J=>?_) (c:=q4f (y3g b) G.tabs N)
 refine Qq (fun a J=>?_) (o:=by exact fun J O=>z7s J rfl rfl)
 refine jB ?_
 by_cases d:aU e=s
 rw [j9u b d,decide_eq_true d];exact ⟨_,rfl,(fun v h=>by injection h),N⟩
 rw [intP_ne b d,decide_eq_false d];exact ⟨_,rfl,(fun v h=>by cases h),N⟩
 replace N:=N.nf
 refine Qq (fun a J=>?_) (o:=by exact fun J O=>oR (v:=.bool false) J rfl rfl rfl (by kernel_rfl))
 refine jB ?_
 rw [x6m b];exact ⟨_,rfl,(fun v h=>by cases h),N⟩
end
theorem j7g {Φ:Fz} {K:List Res} {w:World} {r i:Nat} {rs:Value} {ws:List Bs} {d:Nat} (hd:d<=1000) (E:uH ws d) (G:Glob Φ) (rl:SliceOf RStr Φ 1 rs ws) (k0:ws.length<=1000000) (hi:i<=ws.length) (N:Mem Φ (.blk r (ob [rs,.int .i64 i] 210)::K) w) :
  Calls prog 204 #[.pointer (some ⟨r,0,none⟩),.int .i64 ((d+1:Nat):Int)] w (fun ee w'=>Out (z7l (zY ws d) i) (fun x=>∃y:Fz×Value,ee=.returned y.2/\(Φ.Le y.1/\SliceOf REx y.1 5 y.2 x.1)/\Mem y.1 (.blk r (ob [rs,.int .i64 ((x.2:Nat):Int)] 210)::K) w') (fun c=>ee=.panicked (aB c)/\Mem Φ K w')):=by
 obtain ⟨pw,cw,rfl,i0,j0⟩:=rl.fm
 refine zL func204 ntmps204 fun Q hQ a J=>?_
 refine Qq (fun a J=>?_) (o:=by exact fun J O=>wG ((d:Nat):Int) J rfl rfl (by rw [jI (by omega)];omega))
 refine gS call180 (fun v y4 w j z N a J=>?_) (fun v w j N=>?_) (c:=E G rl (i:=i) (by omega) N)
 obtain ⟨s0,d8⟩:=y4
 obtain ⟨m,b⟩:=z
 simp only at m b N J
 have A:=vW d _ _ j
 replace rl:=rl.up m
 replace G:=G.mono m
 replace N:=N.nf
 obtain ⟨l0,Z,m0,c21,rfl,F,e0,f0,I,S,L,T⟩:=REx.fm b
 refine Alc fun Y w N a J=>?_
 refine Sto 0 fun w N a J=>?_
 refine Reg [2,1,1,1,0,0,1] [0] fun w N a J=>?_
 refine Qq (fun a J=>?_) (o:=by exact fun J O=>wG ((d:Nat):Int) J rfl rfl (by rw [jI (by omega)];omega))
 replace N:=N.pl 1
 refine gS call180 (fun p D w f u N a J=>?_) (fun p w f N=>?_) (c:=E G rl (i:=v.2) (by omega) N)
 obtain ⟨X,d0⟩:=D
 obtain ⟨g,e⟩:=u
 simp only at g e N J
 have B:=vW d _ _ f
 replace G:=G.mono g
 replace b:=REx.mono _ _ _ _ g b
 replace N:=N.nf
 obtain ⟨n0,a0,o0,b0,rfl,H,g0,h0,M,U,P,V⟩:=REx.fm e
 refine jQ fun q0 w N a J=>?_
 refine go fun a J=>?_
 have q:=N
 clear N
 obtain ⟨t,h,N,n⟩:=q.freezeRow (i:=0) rfl
 clear q
 replace G:=G.mono h
 replace b:=REx.mono _ _ _ _ h b
 replace e:=REx.mono _ _ _ _ h e
 replace N:=N.nf
 have l:SliceOf REx t 5 _ ([v.1,p.1]):=⟨_,n,(Chunks.two (k:=5) rfl b rfl e :)⟩
 obtain ⟨p0,c0,C,R,W⟩:=l.form (by decide)
 have s:=N
 clear N
 subst C
 have N:=s
 clear s
 replace N:=N.dl [1]
 refine zD ?_
 show Out (z7l (zY ws d) i) _ _
 rw [show z7l (zY ws d) i=.ok ([v.1,p.1],p.2) from (zE j).trans ((zE f).trans (rfl))]
 exact ⟨(t,_),rfl,⟨((m).trans g).trans h,l⟩,N⟩
 replace N:=N.dl [0]
 show Out (z7l (zY ws d) i) _ _
 rw [show z7l (zY ws d) i=.error _ from (zE j).trans (zO f)]
 exact ⟨rfl,N.le (m)⟩
 show Out (z7l (zY ws d) i) _ _
 rw [show z7l (zY ws d) i=.error _ from zO j]
 exact ⟨rfl,N.le (Fz.Le.refl _)⟩
theorem q9j {Φ:Fz} {K:List Res} {w:World} {r i:Nat} {rs:Value} {ws:List Bs} {m:Nat} {d:Nat} (hd:d<=1000) (hE:uH ws d) (G:Glob Φ) (rl:SliceOf RStr Φ 1 rs ws) (a0:ws.length<=1000000) (hi:i<=ws.length) (N:Mem Φ (.blk r (ob [rs,.int .i64 i] 210)::K) w) :
  Calls prog 205 #[.pointer (some ⟨r,0,none⟩),.int .i64 m,.int .i64 ((d+1:Nat):Int)] w (fun ee w'=>Out (wP ws (zY ws d) (ws.length+1) m i) (fun x=>∃y:Fz×Value,ee=.returned y.2/\(Φ.Le y.1/\SliceOf REx y.1 5 y.2 x.1)/\Mem y.1 (.blk r (ob [rs,.int .i64 ((x.2:Nat):Int)] 210)::K) w') (fun c=>ee=.panicked (aB c)/\Mem Φ K w')):=by
 obtain ⟨pw,cw,rfl,F0,G0⟩:=rl.fm
 refine zL func205 ntmps205 fun Q hQ a J=>?_
 refine go fun a J=>?_
 replace N:=N.nilRow 110 5
 replace N:=N.nf
 refine zU (J.ks [0,1,2]) N (fun R mm a w=>∃(B:Fz) (j:Nat) (u:Value) (cs:List Value) (xs:List Ex) (f:Nat),mm=ws.length - j/\R B [(7,u)] [(0,.gs (u) 110 5 cs),(1,.blk r (ob [.slice pw ws.length cw,.int .i64 j] 210))] a w/\(Φ.Le B/\(Chunks (REx B) 5 cs xs/\xs.length<=j/\j<=ws.length/\xs.length+f=ws.length+1/\wP ws (zY ws d) (ws.length+1) m i=wD xs (wP ws (zY ws d) f (m - xs.length) j)))) (ws.length - i) ⟨Φ,i,.slice none 0 0,[],[],ws.length+1,rfl,⟨J.pk,N⟩,⟨Fz.Le.refl _,⟨rfl,Nat.zero_le _,hi,Nat.zero_add _,oJ _⟩⟩⟩ ?_
 clear N J
 rintro mm a w ⟨B,j,u,cs,xs,f,S,⟨J,N⟩,I⟩ L6 P
 replace N:=N.nf
 obtain ⟨k,I⟩:=I
 replace rl:=rl.up k
 replace G:=G.mono k
 obtain ⟨hch,H0,hj,D0,s⟩:=I
 refine Qq (fun a J=>?_) (o:=by exact fun J O=>j0x 0 (xs.length) J O rfl rfl (hch.length) (by decide) runUnderlying107)
 refine go fun a J=>?_
 by_cases F:xs.length < m
 refine Qq (fun a J=>?_) (o:=by exact fun J O=>wG ((d:Nat):Int) J rfl rfl (by rw [jI (by omega)];omega))
 replace N:=N.pl 1
 refine gS call180 (fun e h0 w l L N a J=>?_) (fun e w l N=>?_) (c:=hE G rl (i:=j) (by omega) N)
 obtain ⟨T,x0⟩:=h0
 obtain ⟨b,t⟩:=L
 simp only at b t N J
 have X:=vW d _ _ l
 replace rl:=rl.up b
 replace G:=G.mono b
 replace hch:=hch.mono fun _ _ h=>REx.mono _ _ _ _ b h
 replace N:=N.nf
 obtain ⟨b0,c23,c0,V,rfl,k0,z0,A0,m0,r0,n0,s0⟩:=REx.fm t
 refine jQ fun J0 w N a J=>?_
 refine vH 2 rt_107 (fun f0 w N a J=>?_)
 refine go fun a J=>?_
 replace N:=N.ar [0] [1]
 refine P _ _ _ (by subst S;omega) ⟨(T),(e.2),(f0),((cs++[.int .i64 (e.1.kind),.int .i64 (e.1.num),.string e.1.name,.slice b0 e.1.args.length c23,.slice c0 e.1.arms.length V])),(xs++[e.1]),(f - 1),rfl,⟨J.pk,by exact N⟩,?_⟩
 refine ⟨(k).trans b,?_⟩
 exact ⟨hch.snoc rfl t,by simp only [laQ,lcQ,lnQ];omega,by omega,by simp only [laQ,lcQ,lnQ];omega,q1a s (by omega) (.inl F) l⟩
 replace N:=N.dl [0]
 show Out (wP ws (zY ws d) (ws.length+1) m i) _ _
 rw [show wP ws (zY ws d) (ws.length+1) m i=.error _ from q0z s (by omega) (.inl F) l]
 exact ⟨rfl,N.le (k)⟩
 replace N:=N.pl 1
 refine zT call179 (fun w N a J=>?_) (c:=mL (i:=j) rl a0 (by omega) N)
 by_cases H:(zF ws j)=(⟨#[41]⟩:Bs)
 refine go fun a J=>?_
 have C:=N
 clear N
 obtain ⟨E,p,N,A⟩:=C.freezeRow (i:=1) rfl
 clear C
 replace rl:=rl.up p
 replace G:=G.mono p
 replace hch:=hch.mono fun _ _ h=>REx.mono _ _ _ _ p h
 replace N:=N.nf
 have z:SliceOf REx E 5 _ (xs):=⟨_,A,hch⟩
 obtain ⟨I0,c42,Z,o0,t0⟩:=z.form (by decide)
 have D:=N
 clear N
 subst Z
 have N:=D
 clear D
 refine zD ?_
 show Out (wP ws (zY ws d) (ws.length+1) m i) _ _
 rw [show wP ws (zY ws d) (ws.length+1) m i=.ok (xs,j) from x6v s (by omega) F H]
 exact ⟨(E,_),rfl,⟨(k).trans p,z⟩,N⟩
 refine Qq (fun a J=>?_) (o:=by exact fun J O=>wG ((d:Nat):Int) J rfl rfl (by rw [jI (by omega)];omega))
 refine gS call180 (fun g i0 w n M N a J=>?_) (fun g w n N=>?_) (c:=hE G rl (i:=j) (by omega) N)
 obtain ⟨U,y0⟩:=i0
 obtain ⟨q,v⟩:=M
 simp only at q v N J
 have Y:=vW d _ _ n
 replace G:=G.mono q
 replace hch:=hch.mono fun _ _ h=>REx.mono _ _ _ _ q h
 replace N:=N.nf
 obtain ⟨d0,W,e0,c63,rfl,l0,B0,C0,p0,u0,q0,w0⟩:=REx.fm v
 refine jQ fun K0 w N a J=>?_
 refine vH 2 rt_107 (fun g0 w N a J=>?_)
 refine go fun a J=>?_
 replace N:=N.ar [0] [1]
 refine P _ _ _ (by subst S;omega) ⟨(U),(g.2),(g0),((cs++[.int .i64 (g.1.kind),.int .i64 (g.1.num),.string g.1.name,.slice d0 g.1.args.length W,.slice e0 g.1.arms.length c63])),(xs++[g.1]),(f - 1),rfl,⟨J.pk,by exact N⟩,?_⟩
 refine ⟨(k).trans q,?_⟩
 exact ⟨hch.snoc rfl v,by simp only [laQ,lcQ,lnQ];omega,by omega,by simp only [laQ,lcQ,lnQ];omega,q1a s (by omega) (.inr H) n⟩
 replace N:=N.dl [0]
 show Out (wP ws (zY ws d) (ws.length+1) m i) _ _
 rw [show wP ws (zY ws d) (ws.length+1) m i=.error _ from q0z s (by omega) (.inr H) n]
 exact ⟨rfl,N.le (k)⟩
end Go.Sw
