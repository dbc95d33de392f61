import GoSem.Builtin.Delete
import Derived.Defers
import Derived.Lib.AtoiAll
import Derived.Lib.Replace
import Derived.Shelf.Strings.Builder1
import Derived.Shelf.LaysM
import Derived.Shelf.LaysC
import Derived.Shelf.Strconv.Itoa3
import Derived.Shelf.Strconv.AtoiAll
import Derived.Shelf.Strings.Search1
import Derived.Shelf.Strings.Replace
import Derived.Shelf.Strings.IndexAny
import Derived.Shelf.Strings.IndexAnyAll
import Derived.Lib.ItoaLen
import Derived.Lib.SplitLaws
import Derived.RangeFuncRecord
import Derived.RangeFuncSeq
import Derived.RangeFuncLeaves
import Derived.Recover
import Derived.Test.YtlfobekmmndchaaGreatDoorY01
set_option linter.unusedVariables false
set_option linter.unusedSimpArgs false
namespace Go.Sw
open Go.Proofs.Tryz
open Go.Proofs
set_option maxRecDepth 20000 in
theorem q4m:RowT prog 24 50 11 176:=⟨underlying24,⟨_,_,Tryz.type50,rfl,rfl,rfl,rfl⟩,by decide,by decide⟩
set_option maxRecDepth 20000 in
theorem rt_27:RowT prog 27 36 4 48:=⟨underlying27,⟨_,_,Tryz.type36,rfl,rfl,rfl,rfl⟩,by decide,by decide⟩
set_option maxRecDepth 20000 in
theorem j2v:RowT prog 44 75 2 24:=⟨underlying44,⟨_,_,Tryz.type75,rfl,rfl,rfl,rfl⟩,by decide,by decide⟩
set_option maxRecDepth 20000 in
theorem q4n:RowT prog 45 79 10 168:=⟨underlying45,⟨_,_,Tryz.type79,rfl,rfl,rfl,rfl⟩,by decide,by decide⟩
set_option maxRecDepth 20000 in
theorem rt_46:RowT prog 46 48 8 128:=⟨underlying46,⟨_,_,Tryz.type48,rfl,rfl,rfl,rfl⟩,by decide,by decide⟩
set_option maxRecDepth 20000 in
theorem aR:RowT prog 87 88 1 8:=⟨underlying87,⟨_,_,Tryz.type88,rfl,rfl,rfl,rfl⟩,by decide,by decide⟩
end Go.Sw

namespace Go.Sw
open Go.Proofs
theorem x0i:zH Tryz.prog 180 0 0:=zD Tryz.runUnderlying180 rfl Tryz.sizeOf3 (by decide) rfl
set_option maxRecDepth 20000 in
theorem rt_22:RowT Tryz.prog 22 85 3 56:=⟨Tryz.underlying22,⟨_,_,Tryz.type85,rfl,rfl,rfl,rfl⟩,by decide,by decide⟩
end Go.Sw

namespace Go.Sw
structure Atom where
 name:Bs
 num:Int
deriving DecidableEq
mutual
inductive TE where
 | mk (kind:Int) (name op:Bs) (num site:Int) (args:List Atom) (arms:List TA) (body:List TE)
inductive TA where
 | mk (con:Bs) (vars:List Bs) (body:TE)
end
namespace TE
def kind:TE->Int | .mk k _ _ _ _ _ _ _=>k
def name:TE->Bs | .mk _ s _ _ _ _ _ _=>s
def op:TE->Bs | .mk _ _ s _ _ _ _ _=>s
def num:TE->Int | .mk _ _ _ n _ _ _ _=>n
def site:TE->Int | .mk _ _ _ _ n _ _ _=>n
def args:TE->List Atom | .mk _ _ _ _ _ a _ _=>a
def arms:TE->List TA | .mk _ _ _ _ _ _ a _=>a
def body:TE->List TE | .mk _ _ _ _ _ _ _ b=>b
end TE
namespace TA
def con:TA->Bs | .mk c _ _=>c
def vars:TA->List Bs | .mk _ v _=>v
def body:TA->TE | .mk _ _ b=>b
end TA
structure TCon where
 name:Bs
 type:Bs
 fields:List Bool
structure TPar where
 name:Bs
 mod:Bool
structure TFn where
 name:Bs
 chg:Bool
 params:List TPar
 body:TE
structure Trc where
 cons:List TCon
 inputs:List Bs
 funs:List TFn
 outputs:List Bs
structure Rw where
 rule:Int
 fn:Int
 path:List Int
 num:Int
def RBoo (_:Fz) (cs:List Value) (x:Bool):Prop:=cs=[.bool x]
theorem RBoo.mono (Φ Ψ:Fz) (c:List Value) (x:Bool) (_:Φ.Le Ψ) (h:RBoo Φ c x):RBoo Ψ c x:=h
def RAtom (_:Fz) (cs:List Value) (x:Atom):Prop:=cs=[.string x.name,.int .i64 x.num]/\I64 x.num
theorem RAtom.mono (Φ Ψ:Fz) (c:List Value) (x:Atom) (_:Φ.Le Ψ) (h:RAtom Φ c x):RAtom Ψ c x:=h
mutual
def RTE' (Φ:Fz):TE->List Value->Prop
 | .mk kind name op num site args arms body,cs=>∃s t u f g,cs=[.int .i64 kind,.string name,.string op,.int .i64 num,.int .i64 site,s,t,u]/\I64 num/\I64 site/\SliceOf RAtom Φ 2 s args/\Row Φ t 10 f/\RTAs' Φ arms f/\Row Φ u 8 g/\RTEs' Φ body g
def RTEs' (Φ:Fz):List TE->List Value->Prop
 | [],cs=>cs=[]
 | x::xs,cs=>∃c rest,cs=c++rest/\c.length=8/\RTE' Φ x c/\RTEs' Φ xs rest
def RTA' (Φ:Fz):TA->List Value->Prop
 | .mk con vars body,cs=>∃s b,cs=.string con::s::b/\b.length=8/\SliceOf RStr Φ 1 s vars/\RTE' Φ body b
def RTAs' (Φ:Fz):List TA->List Value->Prop
 | [],cs=>cs=[]
 | x::xs,cs=>∃c rest,cs=c++rest/\c.length=10/\RTA' Φ x c/\RTAs' Φ xs rest
end
def RTE (Φ:Fz) (cs:List Value) (x:TE):Prop:=RTE' Φ x cs
def RTA (Φ:Fz) (cs:List Value) (x:TA):Prop:=RTA' Φ x cs
theorem RTEs'.iff {Φ:Fz}:∀{xs:List TE} {cs:List Value},RTEs' Φ xs cs↔Chunks (RTE Φ) 8 cs xs
 | [],cs=>by simp only [RTEs',Chunks]
 | x::xs,cs=>by simp only [RTEs',Chunks,RTEs'.iff (xs:=xs),RTE]
theorem RTAs'.iff {Φ:Fz}:∀{xs:List TA} {cs:List Value},RTAs' Φ xs cs↔Chunks (RTA Φ) 10 cs xs
 | [],cs=>by simp only [RTAs',Chunks]
 | x::xs,cs=>by simp only [RTAs',Chunks,RTAs'.iff (xs:=xs),RTA]
theorem RTE.iff {Φ:Fz} {cs:List Value} {x:TE}:RTE Φ cs x↔∃s t u,cs=[.int .i64 x.kind,.string x.name,.string x.op,.int .i64 x.num,.int .i64 x.site,s,t,u]/\I64 x.num/\I64 x.site/\SliceOf RAtom Φ 2 s x.args/\SliceOf RTA Φ 10 t x.arms/\SliceOf RTE Φ 8 u x.body:=by
 cases x with
 | mk kind name op num site args arms body=>
  simp only [RTE,RTE',RTEs'.iff,RTAs'.iff,TE.kind,TE.num,TE.name,TE.op,TE.site,TE.args,TE.arms,TE.body,SliceOf];constructor
  ·rintro ⟨s,t,u,f,g,a,b,c,d,e,h,i,j⟩;exact ⟨s,t,u,a,b,c,d,⟨f,e,h⟩,g,i,j⟩
  ·rintro ⟨s,t,u,a,b,c,d,⟨f,e,h⟩,g,i,j⟩;exact ⟨s,t,u,f,g,a,b,c,d,e,h,i,j⟩
theorem RTA.iff {Φ:Fz} {cs:List Value} {x:TA}:RTA Φ cs x↔∃s b,cs=.string x.con::s::b/\SliceOf RStr Φ 1 s x.vars/\RTE Φ b x.body:=by
 cases x with
 | mk con vars body=>
  simp only [RTA,RTA',TA.con,TA.vars,TA.body,RTE];constructor
  ·rintro ⟨s,b,c,_,d,a⟩;exact ⟨s,b,c,d,a⟩
  ·rintro ⟨s,b,c,d,a⟩
   refine ⟨s,b,c,?_,d,a⟩;obtain ⟨s,t,u,rfl,_⟩:=RTE.iff.1 (show RTE Φ b body from a);rfl
mutual
theorem RTE'.mono {Φ Ψ:Fz} (hl:Φ.Le Ψ):∀{x:TE} {cs:List Value},RTE' Φ x cs->RTE' Ψ x cs
 | .mk _ _ _ _ _ _ _ _,_,⟨s,t,u,f,g,a,d,e,i,j,k,l,m⟩=>⟨s,t,u,f,g,a,d,e,i.mono RAtom.mono hl,j.mono hl,RTAs'.mono hl k,l.mono hl,RTEs'.mono hl m⟩
theorem RTEs'.mono {Φ Ψ:Fz} (hl:Φ.Le Ψ):∀{xs:List TE} {cs:List Value},RTEs' Φ xs cs->RTEs' Ψ xs cs
 | [],_,h=>h
 | _::_,_,⟨c,rest,a,d,e,i⟩=>⟨c,rest,a,d,RTE'.mono hl e,RTEs'.mono hl i⟩
theorem RTA'.mono {Φ Ψ:Fz} (hl:Φ.Le Ψ):∀{x:TA} {cs:List Value},RTA' Φ x cs->RTA' Ψ x cs
 | .mk _ _ _,_,⟨s,b,a,d,e,i⟩=>⟨s,b,a,d,e.mono RStr.mono hl,RTE'.mono hl i⟩
theorem RTAs'.mono {Φ Ψ:Fz} (hl:Φ.Le Ψ):∀{xs:List TA} {cs:List Value},RTAs' Φ xs cs->RTAs' Ψ xs cs
 | [],_,h=>h
 | _::_,_,⟨c,rest,a,d,e,i⟩=>⟨c,rest,a,d,RTA'.mono hl e,RTAs'.mono hl i⟩
end
theorem RTE.mono (Φ Ψ:Fz) (c:List Value) (x:TE) (hl:Φ.Le Ψ) (h:RTE Φ c x):RTE Ψ c x:=RTE'.mono hl h
theorem RTA.mono (Φ Ψ:Fz) (c:List Value) (x:TA) (hl:Φ.Le Ψ) (h:RTA Φ c x):RTA Ψ c x:=RTA'.mono hl h
def RTCon (Φ:Fz) (cs:List Value) (x:TCon):Prop:=∃s,cs=[.string x.name,.string x.type,s]/\SliceOf RBoo Φ 1 s x.fields
theorem RTCon.mono (Φ Ψ:Fz) (c:List Value) (x:TCon) (hl:Φ.Le Ψ) (h:RTCon Φ c x):RTCon Ψ c x:=let ⟨s,a,b⟩:=h;⟨s,a,b.mono RBoo.mono hl⟩
def RTPar (_:Fz) (cs:List Value) (x:TPar):Prop:=cs=[.string x.name,.bool x.mod]
theorem RTPar.mono (Φ Ψ:Fz) (c:List Value) (x:TPar) (_:Φ.Le Ψ) (h:RTPar Φ c x):RTPar Ψ c x:=h
def RTFn (Φ:Fz) (cs:List Value) (x:TFn):Prop:=∃s b,cs=.string x.name::.bool x.chg::s::b/\SliceOf RTPar Φ 2 s x.params/\RTE Φ b x.body
theorem RTFn.mono (Φ Ψ:Fz) (c:List Value) (x:TFn) (hl:Φ.Le Ψ) (h:RTFn Φ c x):RTFn Ψ c x:=let ⟨s,b,a,d,e⟩:=h;⟨s,b,a,d.mono RTPar.mono hl,RTE.mono _ _ _ _ hl e⟩
def z2a:Value->Prop
 | .slice _ m c=>m<=c
 | _=>False
def RTrc (Φ:Fz) (cs:List Value) (x:Trc):Prop :=
 ∃s t u v,cs=[s,t,u,v]/\z2a t/\SliceOf RTCon Φ 3 s x.cons/\SliceOf RStr Φ 1 t x.inputs/\SliceOf RTFn Φ 11 u x.funs/\SliceOf RStr Φ 1 v x.outputs
theorem RTrc.mono (Φ Ψ:Fz) (c:List Value) (x:Trc) (hl:Φ.Le Ψ) (h:RTrc Φ c x):RTrc Ψ c x :=
 let ⟨s,t,u,v,b,a,d,e,f,g⟩:=h;⟨s,t,u,v,b,a,d.mono RTCon.mono hl,e.mono RStr.mono hl,f.mono RTFn.mono hl,g.mono RStr.mono hl⟩
end Go.Sw

namespace Go.Sw
abbrev Scope:=List (Bs×Bs)
def sNo:Bs:=⟨#[]⟩
end Go.Sw

namespace Go.Sw
variable {P:Program} {n:Nat} {E:List (Nat×Value)} {D:List Deferred} {a:Act} {Φ Ψ:Fz} {K:List Res} {w:World}
variable {dst:Option Tmp} {ty:TypeId} {pos:String} {aft:Array Edge} {g:Option (Nat×Bool)}
variable {Kn:Value->World->Prop} {Qp:List PanicEntry->World->Prop}
end Go.Sw

namespace Go.Sw
end Go.Sw

namespace Go.Sw
variable {P:Program}
section
variable {n:Nat} {E:List (Nat×Value)} {D:List Deferred} {a:Act} {w:World} {ops:Array Oper} {rest:List Oper} {Q:Exit->Act->World->Prop} {ty:TypeId} {pos:String} {aft:Array Edge}
end
section
variable {n:Nat} {E:List (Nat×Value)} {a:Act} {w:World} {Φ:Fz} {K:List Res}
end
end Go.Sw

namespace Go.Sw
open Go.Proofs
def q2k (n:Int):Bs:=⟨(Lib.itoa n).toArray⟩
def y1z (s old new:Bs):Bs:=⟨(Lib.replace s.data.toList old.data.toList new.data.toList 1).toArray⟩
def z5x (s:Bs):Except Unit Int:=match Lib.atoiAll s.data.toList with
 | .ok v=>.ok v
 | _=>.error ()
def z2f (n:Int):Bs:=y1z (q2k n) ⟨#[45]⟩ ⟨#[126]⟩
def dM (s:Bs):Option Int:=match z5x (y1z s ⟨#[126]⟩ ⟨#[45]⟩) with
 | .ok v=>if z2f v=s then some v else none
 | .error _=>none
def vD (t:Bs) (pos:Nat):Nat:=if yW t pos=126 then 1 else 0
def xV (t:Bs) (pos:Nat):Nat:=qH yT t t.size (pos+vD t pos)
def pJ (t:Bs) (pos:Nat):Bs:=t.extract pos (pos+(vD t pos+xV t pos))
def tK (t:Bs) (pos:Nat):Except (Nat×Int) Tok :=
 match dM (pJ t pos) with
 | none=>.error (pos,13)
 | some v=>
  if qX (yW t (pos+(vD t pos+xV t pos)))=true∨yW t (pos+(vD t pos+xV t pos))=39 then .error (pos,13)
  else .ok ⟨1,v,pJ t pos,pos⟩
def z6m (c:Nat):Bool:=[40,41,44,59,58,124,61,60,43,45,42,47,37,95].contains c
def zV (t:Bs) (pos:Nat):Except (Nat×Int) Tok :=
 if yT (yW t pos)=true∨yW t pos=126 then tK t pos
 else if nI (yW t pos)=true then kU t pos 2
 else if dX (yW t pos)=true then kU t pos 3
 else if yW t pos=39/\nI (yW t (pos+1))=true then vT t pos 4 (1+qH qX t t.size (pos+1))
 else if kD (t.extract pos t.size) ⟨#[61,62]⟩=true∨kD (t.extract pos t.size) ⟨#[45,62]⟩=true then vT t pos 6 2
 else if z6m (yW t pos)=true then vT t pos 6 1
 else .error (pos,11)
def hM (t:Bs):Nat->Nat->Except (Nat×Int) (List Tok)
 | 0,_=>.ok []
 | f+1,i=>
  match cR t i with
  | .error c=>.error c
  | .ok q=>if q < t.size then
    match zV t q with
    | .error c=>.error c
    | .ok k=>match hM t f (q+k.text.size) with
     | .error c=>.error c
     | .ok l=>.ok (k::l)
   else .ok []
def pN (t:Bs):Except (Nat×Int) (List Tok):=hM t (t.size+1) 0
def gS (s:Bs):Int :=
 if 24 < s.size then 0 else
 match pN s with
 | .ok [k]=>if k.text=s then k.kind else 0
 | _=>0
def vC (s:Bs):Bool:=decide (gS s=2)
def z0s (s:Bs):Bool:=decide (gS s=3)
end Go.Sw

namespace Go.Sw
end Go.Sw

namespace Go.Sw
open Go.Proofs
set_option maxRecDepth 20000
set_option maxHeartbeats 4000000
end Go.Sw

namespace Go.Sw
open Go.Proofs.Tryz
open Go.Proofs
set_option maxRecDepth 20000
set_option maxHeartbeats 4000000
variable {Φ:Fz} {K:List Res} {w:World}
theorem z9z {c:UInt8}  (N:Mem Φ K w) :
  Calls prog 206 #[.int .u8 c.toNat] w (fun ee w'=>ee=.returned (.bool (nI c.toNat))/\Mem Φ K w'):=by
 refine zJ func206 ntmps206 fun Q hQ a J=>?_;by_cases b:97<=c.toNat;refine Qq (fun a J=>?_) (o:=by exact fun J O=>mZ (i:=c.toNat) (j:=122) J rfl rfl);refine yG ?_;exact mV N (by simp [nI, *]);refine yG ?_;exact mV N (by simp [nI, *])
theorem z9y {c:UInt8}  (N:Mem Φ K w) :
  Calls prog 208 #[.int .u8 c.toNat] w (fun ee w'=>ee=.returned (.bool (dX c.toNat))/\Mem Φ K w'):=by
 refine zJ func208 ntmps208 fun Q hQ a J=>?_;by_cases b:65<=c.toNat;refine Qq (fun a J=>?_) (o:=by exact fun J O=>mZ (i:=c.toNat) (j:=90) J rfl rfl);refine yG ?_;exact mV N (by simp [dX, *]);refine yG ?_;exact mV N (by simp [dX, *])
theorem cP {c:UInt8}  (N:Mem Φ K w) :
  Calls prog 204 #[.int .u8 c.toNat] w (fun ee w'=>ee=.returned (.bool (yT c.toNat))/\Mem Φ K w'):=by
 refine zJ func204 ntmps204 fun Q hQ a J=>?_;by_cases b:48<=c.toNat;refine Qq (fun a J=>?_) (o:=by exact fun J O=>mZ (i:=c.toNat) (j:=57) J rfl rfl);refine yG ?_;exact mV N (by simp [yT, *]);refine yG ?_;exact mV N (by simp [yT, *])
theorem z4w {c:UInt8}  (N:Mem Φ K w) :
  Calls prog 210 #[.int .u8 c.toNat] w (fun ee w'=>ee=.returned (.bool (qX c.toNat))/\Mem Φ K w'):=by
 refine zJ func210 ntmps210 fun Q hQ a J=>?_;refine nQ call206 (fun b w N a J=>?_) (fun b w N a J=>?_) (c:=z9z N)
 rotate_left
 refine nQ call208 (fun d w N a J=>?_) (fun d w N a J=>?_) (c:=z9y N)
 rotate_left
 refine nQ call204 (fun e w N a J=>?_) (fun e w N a J=>?_) (c:=cP N)
 rotate_left
 refine Qq (fun a J=>?_) (o:=by exact fun J O=>wE (i:=c.toNat) (j:=95) J rfl rfl)
 rotate_left
 all_goals (refine yG ?_;exact mV N (by simp [qX, *]))
theorem q8b {c:UInt8}  (N:Mem Φ K w) :
  Calls prog 200 #[.int .u8 c.toNat] w (fun ee w'=>ee=.returned (.bool (jU c.toNat))/\Mem Φ K w'):=by
 refine zJ func200 ntmps200 fun Q hQ a J=>?_;by_cases b:c.toNat=32
 rotate_left
 by_cases d:c.toNat=9
 rotate_left
 by_cases e:c.toNat=10
 rotate_left
 refine Qq (fun a J=>?_) (o:=by exact fun J O=>wE (i:=c.toNat) (j:=13) J rfl rfl)
 rotate_left
 all_goals (refine yG ?_;exact mV N (by simp [jU, *]))
theorem y3u {s:Bs} {p:Bs}  (N:Mem Φ K w) :
  Calls prog 223 #[.string s,.string p] w (fun ee w'=>ee=.returned (.bool (kD s p))/\Mem Φ K w'):=by
 refine zJ func223 ntmps223 fun Q hQ a J=>?_;by_cases b:p.size<=s.size;refine Qq (fun a J=>?_) (o:=by exact fun J O=>aI 0 (p.size) J rfl runUnderlying9 rfl ⟨_,rfl⟩ (by omega) (by omega));refine Qq (fun a J=>?_) (o:=by exact fun J O=>z4e J rfl rfl);refine yG ?_;exact mV N (by simp [kD, *]);refine yG ?_;exact mV N (by simp [kD, *])
theorem y8s {s:Bs} {p:Bs}  (N:Mem Φ K w) :
  Calls prog 219 #[.string s,.string p] w (fun ee w'=>ee=.returned (.bool (kD s p))/\Mem Φ K w'):=by
 refine zJ func219 ntmps219 fun Q hQ a J=>?_;refine zE call223 (fun w N a J=>?_) (c:=y3u N);refine yG ?_;exact mV N (by rfl)
theorem z3j {t:Bs} {pos:Nat} {b:Nat} {rest:List Value} {T0:TypeId} {k:Nat}  (g:pos+k<=1000000000) (N:Mem Φ (.blk b (ob (.string t::.int .i64 pos::rest) T0)::K) w) :
  Calls prog 203 #[.pointer (some ⟨b,0,none⟩),.int .i64 (k:Int)] w (fun ee w'=>ee=.returned (.int .u8 ((yW t (pos+k):Nat):Int))/\Mem Φ (.blk b (ob (.string t::.int .i64 pos::rest) T0)::K) w'):=by
 refine zJ func203 ntmps203 fun Q hQ a J=>?_;refine Reg [1,1,1,2,1,1,1,1,1,2,1,1] [0] fun w N a J=>?_;refine Qq (fun a J=>?_) (o:=by exact fun J O=>xJ (i:=pos) (j:=k) J rfl rfl (by omega));by_cases f:t.size<=(pos+k);refine yG ?_;exact ⟨congrArg (fun x=>Ending.returned (.int .u8 ((x:Nat):Int))) (show 0=yW t (pos+k) by rw [z6a (by omega)]),N⟩;refine Reg [1,1,1,2,1,1,1,2,1,1,1,1] [0] fun w N a J=>?_;refine Qq (fun a J=>?_) (o:=by exact fun J O=>xJ (i:=pos) (j:=k) J rfl rfl (by omega));have d:(pos+k) < t.size:=by omega
 obtain ⟨e,c⟩:=z8s d;refine Qq (fun a J=>?_) (o:=by exact fun J O=>z6r (pos+k) e J rfl rfl runUnderlying9 c);refine yG ?_;exact ⟨congrArg (fun x=>Ending.returned (.int .u8 ((x:Nat):Int))) (show e.toNat=yW t (pos+k) by rw [sT c]),N⟩
theorem nJ {t:Bs} {pos:Nat} {b:Nat} {rest:List Value} {T0:TypeId} {s:Bs}  (d:pos<=t.size) (N:Mem Φ (.blk b (ob (.string t::.int .i64 pos::rest) T0)::K) w) :
  Calls prog 201 #[.pointer (some ⟨b,0,none⟩),.string s] w (fun ee w'=>ee=.returned (.bool (kD (t.extract pos t.size) s))/\Mem Φ (.blk b (ob (.string t::.int .i64 pos::rest) T0)::K) w'):=by
 refine zJ func201 ntmps201 fun Q hQ a J=>?_;refine Reg [1,1,1,2,1,1,1,2,1,1,0,1] [0] fun w N a J=>?_;refine Qq (fun a J=>?_) (o:=by exact fun J O=>aI pos (t.size) J rfl runUnderlying9 ⟨_,rfl⟩ rfl (by omega) (by exact Nat.le_refl _));refine zE call219 (fun w N a J=>?_) (c:=y8s N);refine yG ?_;exact mV N (by rfl)
end Go.Sw

namespace Go.Sw
open Go.Proofs.Tryz
open Go.Proofs
set_option maxRecDepth 20000
set_option maxHeartbeats 4000000
theorem y9s {Φ:Fz} {K:List Res} {w:World} {t:Bs} {pos b k g:Nat} {rest fs cs:List Value} {T0:TypeId} {p:Nat->Bool} (s:∀args w,(callFunc g args).run prog w=.ok (.enter g args) w)
  (r:∀{w:World} (c:UInt8),Mem Φ (.blk b (ob (.string t::.int .i64 pos::rest) T0)::K) w->Calls prog g (fs++[Value.int .u8 c.toNat]++cs).toArray w (fun ee w'=>ee=.returned (.bool (p c.toNat))/\Mem Φ (.blk b (ob (.string t::.int .i64 pos::rest) T0)::K) w'))
  (x:pos+k<=t.size) (y:t.size<=1000000) (N:Mem Φ (.blk b (ob (.string t::.int .i64 pos::rest) T0)::K) w) :
  Calls prog 199 #[.pointer (some ⟨b,0,none⟩),.int .i64 k,.func (.func g) fs.toArray cs.toArray] w (fun ee w'=>ee=.returned (.int .i64 ((qH p t t.size (pos+k):Nat):Int))/\Mem Φ (.blk b (ob (.string t::.int .i64 pos::rest) T0)::K) w'):=by
 refine zJ func199 ntmps199 fun Q hQ a J=>?_;refine go fun a J=>?_;refine yO (J.ks [0,1,2]) N (fun R mm a w=>∃(j:Nat),mm=t.size - (pos+k+j)/\R Φ [(7,.int .i64 j)] [] a w/\(pos+k+j<=t.size/\qH p t t.size (pos+k)=qH p t t.size (pos+k+j)+j)) (t.size - (pos+k+0)) ⟨0,rfl,⟨J.pk,N⟩,by exact ⟨by omega,rfl⟩⟩ ?_;clear N J;rintro mm a w ⟨j,n,⟨J,N⟩,l⟩ v m;obtain ⟨u,f⟩:=l;refine Reg [1,1,1,2,1,1,1,1,1,1,1,2,1,1,1,1,1,1,1,2,1,1,1,2,1,1,1,1,1,0,1] [0] fun w N a J=>?_;refine Qq (fun a J=>?_) (o:=by exact fun J O=>xJ (i:=pos) (j:=k) J rfl rfl (by omega));refine Qq (fun a J=>?_) (o:=by exact fun J O=>xJ (i:=(pos+k)) (j:=j) J rfl rfl (by omega));by_cases q:((pos+k)+j) < t.size;refine Qq (fun a J=>?_) (o:=by exact fun J O=>xJ (i:=pos) (j:=k) J rfl rfl (by omega));refine Qq (fun a J=>?_) (o:=by exact fun J O=>xJ (i:=(pos+k)) (j:=j) J rfl rfl (by omega));obtain ⟨c9,e⟩:=z8s q;refine Qq (fun a J=>?_) (o:=by exact fun J O=>z6r ((pos+k)+j) c9 J rfl rfl runUnderlying9 e);refine FunB s (fun d w N a J=>?_) (fun d w N a J=>?_) (c:=by exact r _ N);refine go fun a J=>?_;refine m _ _ _ (by subst n;omega) ⟨(j+1),rfl,⟨J.pk,N⟩,?_⟩;refine ⟨by omega,?_⟩;rw [f,uM p t (pos+k+j),if_pos ⟨by omega,by rw [sT e];exact d⟩,show pos+k+(j+1)=pos+k+j+1 from rfl];omega;refine yG ?_;exact y6q N (by rw [f,uM,if_neg (by rintro ⟨_,h⟩;rw [sT e,d] at h;cases h)];omega);refine yG ?_;exact y6q N (by rw [f,uM,if_neg (by omega)];omega)
theorem y9r {Φ:Fz} {K:List Res} {w:World} {t:Bs} {pos b g:Nat} {rest fs cs:List Value} {T0:TypeId} {p:Nat->Bool} (e:∀args w,(callFunc g args).run prog w=.ok (.enter g args) w)
  (d:∀{w:World} (c:UInt8),Mem Φ (.blk b (ob (.string t::.int .i64 pos::rest) T0)::K) w->Calls prog g (fs++[Value.int .u8 c.toNat]++cs).toArray w (fun ee w'=>ee=.returned (.bool (p c.toNat))/\Mem Φ (.blk b (ob (.string t::.int .i64 pos::rest) T0)::K) w'))
  (f:pos<=t.size) (a:t.size<=1000000) (N:Mem Φ (.blk b (ob (.string t::.int .i64 pos::rest) T0)::K) w) :
  Calls prog 199 #[.pointer (some ⟨b,0,none⟩),ZA,.func (.func g) fs.toArray cs.toArray] w (fun ee w'=>ee=.returned (.int .i64 ((qH p t t.size pos:Nat):Int))/\Mem Φ (.blk b (ob (.string t::.int .i64 pos::rest) T0)::K) w') :=
 y9s (k:=0) e d (by omega) a N
theorem q7b {Φ:Fz} {K:List Res} {w:World} {t:Bs} {pos b:Nat} {rest:List Value} {T0:TypeId} (s:pos<=t.size) (z:t.size<=1000000) (N:Mem Φ (.blk b (ob (.string t::.int .i64 pos::rest) T0)::K) w) :
  Calls prog 202 #[.pointer (some ⟨b,0,none⟩)] w (fun ee w'=>Out (vH t pos pos 0)
   (fun q=>ee=.returned (.tuple #[])/\Mem Φ (.blk b (ob (.string t::.int .i64 ((q:Nat):Int)::rest) T0)::K) w')
   (fun c=>ee=.panicked (gD c)/\Mem Φ K w')):=by
 refine zJ func202 ntmps202 fun Q hQ a J=>?_;refine go fun a J=>?_;refine yO (J.ks [0,2]) N (fun R mm a w=>∃(i:Nat) (o:Int),mm=t.size - i/\R Φ [(3,.int .i64 (o))] [(0,.blk b (ob (.string t::.int .i64 i::rest) T0))] a w/\(i<=t.size/\-(i:Int)<=o/\o<=100/\vH t pos pos 0=vH t pos i o)) (t.size - pos) ⟨pos,0,rfl,⟨J.pk,N⟩,by exact ⟨s,by omega,by omega,rfl⟩⟩ ?_;clear N J;rintro mm a w ⟨i,o,k,⟨J,N⟩,p⟩ y g;replace N:=N.nf;obtain ⟨u,v,x,e⟩:=p;refine Reg [1,1,1,1,2,1,1,1,1,2,1,1,1] [0] fun w N a J=>?_;by_cases l:t.size<=i;refine yE fun a J=>?_;refine Qq (fun a J=>?_) (o:=by exact fun J O=>yL J rfl runUnderlying180 (by intro ms h;cases h));refine st0 J rfl rfl (xG J rfl (xH _) (fun a r=>hQ _ _ _ (zT r ?_)));replace N:=N.dl [0];show Out (vH t pos pos 0) _ _;rw [e,mB,if_pos l];exact ⟨rfl,N⟩;refine nQ call201 (fun f w N a J=>?_) (fun f w N a J=>?_) (c:=nJ (by omega) N);by_cases m:100<=o;refine yE fun a J=>?_;refine Qq (fun a J=>?_) (o:=by exact fun J O=>yL J rfl runUnderlying180 (by intro ms h;cases h));refine st0 J rfl rfl (xG J rfl (xH _) (fun a r=>hQ _ _ _ (zT r ?_)));replace N:=N.dl [0];show Out (vH t pos pos 0) _ _;rw [e,mB,if_neg l,if_pos f,if_pos m];exact ⟨rfl,N⟩;refine Qq (fun a J=>?_) (o:=by exact fun J O=>tW (o+1) J rfl rfl (by rw [aM (by omega)]));refine Qq (fun a J=>?_) (o:=by exact fun J O=>xJ (i:=i) (j:=2) J rfl rfl (by omega));refine Sto 0 fun w N a J=>?_;refine go fun a J=>?_
 refine g (t.size - ((i+2))) _ _ (by subst k;first | omega | (have h:=jY f;have:(⟨#[40,42]⟩:Bs).size=2:=rfl;have:(⟨#[42,41]⟩:Bs).size=2:=rfl;omega)) ⟨((i+2)),(o+1),rfl,⟨J.pk,N⟩,?_⟩;refine ⟨by first | omega | (have h:=jY f;have:(⟨#[40,42]⟩:Bs).size=2:=rfl;have:(⟨#[42,41]⟩:Bs).size=2:=rfl;omega),by omega,by omega,?_⟩;rw [e,mB,if_neg l]
 simp [*]
 refine nQ call201 (fun d w N a J=>?_) (fun d w N a J=>?_) (c:=nJ (by omega) N);refine Qq (fun a J=>?_) (o:=by exact fun J O=>z4f (o - 1) J rfl rfl (by rw [aM (by omega)]));refine Qq (fun a J=>?_) (o:=by exact fun J O=>xJ (i:=i) (j:=2) J rfl rfl (by omega));refine Sto 0 fun w N a J=>?_;by_cases n:o - 1=0;refine go fun a J=>?_;refine hQ _ _ _ (ret0 J results202 ?_);show Out (vH t pos pos 0) _ _;rw [e,mB,if_neg l,if_neg (by simp [*]),if_pos d,if_pos n];exact ⟨rfl,N⟩;refine go fun a J=>?_;refine g (t.size - ((i+2))) _ _ (by subst k;first | omega | (have h:=jY d;have:(⟨#[40,42]⟩:Bs).size=2:=rfl;have:(⟨#[42,41]⟩:Bs).size=2:=rfl;omega)) ⟨((i+2)),(o - 1),rfl,⟨J.pk,N⟩,?_⟩;refine ⟨by first | omega | (have h:=jY d;have:(⟨#[40,42]⟩:Bs).size=2:=rfl;have:(⟨#[42,41]⟩:Bs).size=2:=rfl;omega),by omega,by omega,?_⟩;rw [e,mB,if_neg l]
 simp [*]
 refine Sto 0 fun w N a J=>?_;refine go fun a J=>?_;refine g (t.size - ((i+1))) _ _ (by subst k;first | omega | (have h:=jY d;have:(⟨#[40,42]⟩:Bs).size=2:=rfl;have:(⟨#[42,41]⟩:Bs).size=2:=rfl;omega)) ⟨((i+1)),(o),rfl,⟨J.pk,N⟩,?_⟩;refine ⟨by first | omega | (have h:=jY d;have:(⟨#[40,42]⟩:Bs).size=2:=rfl;have:(⟨#[42,41]⟩:Bs).size=2:=rfl;omega),by omega,by omega,?_⟩;rw [e,mB,if_neg l]
 simp [*]
theorem j2o {Φ:Fz} {K:List Res} {w:World} {t:Bs} {pos b:Nat} {mv cv:Value} {cs:List Value} (s:pos<=t.size) (C:t.size<=1000000) (v:cs.length<=2 * pos) (N:Mem Φ (.blk b (ob [.string t,.int .i64 pos,mv,cv] 235)::.gs cv 260 2 cs::K) w) :
  Calls prog 180 #[.pointer (some ⟨b,0,none⟩)] w (fun ee w'=>Out (cR t pos)
   (fun q=>∃y:Value×List Value,ee=.returned (.tuple #[])/\y.2.length<=2 * q/\Mem Φ (.blk b (ob [.string t,.int .i64 ((q:Nat):Int),mv,y.1] 235)::.gs y.1 260 2 y.2::K) w')
   (fun c=>ee=.panicked (gD c)/\Mem Φ K w')):=by
 refine zJ func180 ntmps180 fun Q hQ a J=>?_;refine go fun a J=>?_;refine yO (J.ks [0]) N (fun R mm a w=>∃(i:Nat) (u:Value) (ds:List Value),mm=t.size - i/\R Φ [] [(0,.blk b (ob [.string t,.int .i64 i,mv,u] 235)),(1,.gs (u) 260 2 ds)] a w/\(i<=t.size/\ds.length<=2 * i/\cR t pos=cR t i)) (t.size - pos) ⟨pos,cv,cs,rfl,⟨J.pk,N⟩,by exact ⟨s,v,rfl⟩⟩ ?_;clear N J;rintro mm a w ⟨i,u,ds,n,⟨J,N⟩,l⟩ B m;replace N:=N.nf;obtain ⟨e,x,g⟩:=l;have z:=wC jU t t.size i e;refine Reg [1,1,1,1,2,1,1,1,0,1,1,1,1,0] [0,1] fun w N a J=>?_;refine zE call199 (fun w N a J=>?_) (c:=y9r (p:=jU) (pos:=i) (fs:=[]) (cs:=[]) call200 (fun c N=>q8b N) (by omega) (by omega) N);refine Qq (fun a J=>?_) (o:=by exact fun J O=>xJ (i:=i) (j:=(qH jU t t.size i)) J rfl rfl (by omega));refine Sto 0 fun w N a J=>?_;refine nQ call201 (fun f w N a J=>?_) (fun f w N a J=>?_) (c:=nJ (by omega) N);refine yF call202 (fun k w d N a J=>?_) (fun k w d N=>?_) (c:=q7b (pos:=((i+(qH jU t t.size i)))) (by omega) (by omega) N);refine Reg [1,1,1,1,2,1,1,1,1,1,2,1,0,0,1,1,0] [0] fun w N a J=>?_;refine yE fun a J=>?_;refine qR fun A w N a J=>?_;refine vU 2 rt_233 (fun r w N a J=>?_);refine Sto 1 fun w N a J=>?_;refine go fun a J=>?_;replace N:=N.dl [0];refine m (t.size - k) _ _ (by subst n;have h:=wW _ _ _ _ _ _ d;omega) ⟨(k),(r),((ds++[.int .i64 ((((i+(qH jU t t.size i))):Nat):Int),.int .i64 k])),rfl,⟨J.pk,by exact N⟩,?_⟩;have h:=wW _ _ _ _ _ _ d;refine ⟨h.2,by simp only [laQ,lcQ,lnQ];omega,?_⟩;rw [g,z3h t i e,if_pos f,d]
 replace N:=N.dl [0];show Out (cR t pos) _ _;rw [g,z3h t i e,if_pos f,d];exact ⟨rfl,N⟩;refine go fun a J=>?_;refine hQ _ _ _ (ret0 J results180 ?_);show Out (cR t pos) _ _;rw [g,z3h t i e,if_neg (by simp [*])];exact ⟨⟨u,ds⟩,rfl,by simp only;omega,N⟩
theorem aW {Φ:Fz} {K:List Res} {w:World} {t:Bs} {pos b:Nat} {rest:List Value} {T0:TypeId} {kd:Int} {n:Nat} (k:pos+n<=t.size) (l:t.size<=1000000) (N:Mem Φ (.blk b (ob (.string t::.int .i64 pos::rest) T0)::K) w) :
  Calls prog 209 #[.pointer (some ⟨b,0,none⟩),.int .i64 kd,.int .i64 n] w (fun ee w'=>Out (vT t pos kd n) (fun q=>ee=.returned (y2t q)/\Mem Φ (.blk b (ob (.string t::.int .i64 pos::rest) T0)::K) w') (fun c=>ee=.panicked (gD c)/\Mem Φ K w')):=by
 refine zJ func209 ntmps209 fun Q hQ a J=>?_;refine Alc fun g w N a J=>?_;by_cases e:24 < n;refine yE fun a J=>?_;refine Qq (fun a J=>?_) (o:=by exact fun J O=>yL J rfl runUnderlying180 (by intro ms h;cases h));refine st0 J rfl rfl (xG J rfl (xH _) (fun a f=>hQ _ _ _ (zT f ?_)));replace N:=N.dl [1,0];show Out (vT t pos kd n) _ _;rw [vT,if_pos e];exact ⟨rfl,N⟩;refine Reg [1,1,1,1,1,2,1,1,1,1,2,1,1,1,1,2,1,1,1,1,1,1,1,2,1,0] [0,1] fun w N a J=>?_;refine Qq (fun a J=>?_) (o:=by exact fun J O=>xJ (i:=pos) (j:=n) J rfl rfl (by omega));refine Qq (fun a J=>?_) (o:=by exact fun J O=>aI pos ((pos+n)) J rfl runUnderlying9 ⟨_,rfl⟩ ⟨_,rfl⟩ (by omega) (by omega));refine yE fun a J=>?_;refine Sto 0 fun w N a J=>?_;refine go fun a J=>?_;have d:=N;replace N:=N.dl [0];refine kN (N:=d) ?_;show Out (vT t pos kd n) _ _;rw [vT,if_neg e];exact ⟨rfl,N⟩
theorem j2i {Φ:Fz} {K:List Res} {w:World} {t:Bs} {pos b mb:Nat} {cv:Value} {kd:Int} (h:MapAt Φ mb wordsM) (H:pos<=t.size) (P:t.size<=1000000) (N:Mem Φ (.blk b (ob [.string t,.int .i64 pos,.map (some mb),cv] 235)::K) w) :
  Calls prog 207 #[.pointer (some ⟨b,0,none⟩),.int .i64 kd] w (fun ee w'=>Out (kU t pos kd) (fun q=>ee=.returned (y2t q)/\Mem Φ (.blk b (ob [.string t,.int .i64 pos,.map (some mb),cv] 235)::K) w') (fun c=>ee=.panicked (gD c)/\Mem Φ K w')):=by
 refine zJ func207 ntmps207 fun Q hQ a J=>?_;refine Alc fun M w N a J=>?_;refine go fun a J=>?_;have I:=wC qX t t.size pos H;replace N:=N.pl 1;refine zE call199 (fun w N a J=>?_) (c:=y9r (p:=qX) (pos:=pos) (fs:=[]) (cs:=[]) call210 (fun c N=>z4w N) (by omega) (by omega) N);refine zE call203 (fun w N a J=>?_) (c:=z3j (by omega) N);by_cases R:yW t (pos+((qH qX t t.size pos)))=39;have A:=uC (t:=t) (i:=pos+qH qX t t.size pos) (by omega);have L:=wC yT t t.size (pos+(qH qX t t.size pos+1)) (by omega);refine zE call199 (fun w N a J=>?_) (c:=y9s (p:=yT) (pos:=pos) (k:=((qH qX t t.size pos)+1)) (fs:=[]) (cs:=[]) call204 (fun c N=>cP N) (by omega) (by omega) N);by_cases S:0 < (qH yT t t.size (pos+((qH qX t t.size pos)+1)));refine Qq (fun a J=>?_) (o:=by exact fun J O=>xJ (i:=1) (j:=(qH yT t t.size (pos+((qH qX t t.size pos)+1)))) J rfl rfl (by omega));refine Qq (fun a J=>?_) (o:=by exact fun J O=>xJ (i:=(qH qX t t.size pos)) (j:=(1+(qH yT t t.size (pos+((qH qX t t.size pos)+1))))) J rfl rfl (by omega));refine yF call209 (fun x w l N a J=>?_) (fun x w l N=>?_) (c:=aW (pos:=pos) (kd:=kd) (n:=((qH qX t t.size pos)+(1+(qH yT t t.size (pos+((qH qX t t.size pos)+1)))))) (by omega) (by omega) N);refine Alc fun E w N a J=>?_;refine Sto 0 fun w N a J=>?_;refine Reg [1,1,1,2,1,2,2,1,1,1,1,1] [0,1,2] fun w N a J=>?_;refine go fun a J=>?_;rcases d:jR (wordsM) x.text with _ | B
 have s:=congrArg (yA true (ZA)) d;refine Qq (fun a J=>?_) (o:=by exact fun J O=>Ok.cast (yS runUnderlying98 runUnderlying9 zeroValue3 J O rfl rfl h) (show yA true (ZA) (jR (wordsM) x.text)=.tuple #[ZA,.bool false] from s));refine Sto 2 fun w N a J=>?_;refine go fun a J=>?_;have g:=N;replace N:=N.dl [2,0];refine kN (N:=g) ?_;show Out (kU t pos kd) _ _
 first | rw [gW l d (by simp [jM, *])] | rw [gX l d (by simp [jM, *])]
 exact ⟨rfl,N⟩;obtain rfl:=z1p d;have s:=congrArg (yA true (ZA)) d;refine Qq (fun a J=>?_) (o:=by exact fun J O=>Ok.cast (yS runUnderlying98 runUnderlying9 zeroValue3 J O rfl rfl h) (show yA true (ZA) (jR (wordsM) x.text)=.tuple #[.int .i64 ((5:Nat):Int),.bool true] from s));refine Sto 0 fun w N a J=>?_;refine Sto 2 fun w N a J=>?_;refine go fun a J=>?_;have g:=N;replace N:=N.dl [2,0];refine kN (N:=g) ?_;show Out (kU t pos kd) _ _
 first | rw [gW l d (by simp [jM, *])] | rw [gX l d (by simp [jM, *])]
 exact ⟨rfl,N⟩;replace N:=N.dl [0];show Out (kU t pos kd) _ _;rw [y0k l (by simp [jM, *])];exact ⟨rfl,N⟩;refine yF call209 (fun y w m N a J=>?_) (fun y w m N=>?_) (c:=aW (pos:=pos) (kd:=kd) (n:=(qH qX t t.size pos)) (by omega) (by omega) N);refine Alc fun F w N a J=>?_;refine Sto 0 fun w N a J=>?_;refine Reg [1,1,1,2,1,2,2,1,1,1,1,1] [0,1,2] fun w N a J=>?_;refine go fun a J=>?_;rcases e:jR (wordsM) y.text with _ | C
 have u:=congrArg (yA true (ZA)) e;refine Qq (fun a J=>?_) (o:=by exact fun J O=>Ok.cast (yS runUnderlying98 runUnderlying9 zeroValue3 J O rfl rfl h) (show yA true (ZA) (jR (wordsM) y.text)=.tuple #[ZA,.bool false] from u));refine Sto 2 fun w N a J=>?_;refine go fun a J=>?_;have g:=N;replace N:=N.dl [2,0];refine kN (N:=g) ?_;show Out (kU t pos kd) _ _
 first | rw [gW m e (by simp [jM, *])] | rw [gX m e (by simp [jM, *])]
 exact ⟨rfl,N⟩;obtain rfl:=z1p e;have u:=congrArg (yA true (ZA)) e;refine Qq (fun a J=>?_) (o:=by exact fun J O=>Ok.cast (yS runUnderlying98 runUnderlying9 zeroValue3 J O rfl rfl h) (show yA true (ZA) (jR (wordsM) y.text)=.tuple #[.int .i64 ((5:Nat):Int),.bool true] from u));refine Sto 0 fun w N a J=>?_;refine Sto 2 fun w N a J=>?_;refine go fun a J=>?_;have g:=N;replace N:=N.dl [2,0];refine kN (N:=g) ?_;show Out (kU t pos kd) _ _
 first | rw [gW m e (by simp [jM, *])] | rw [gX m e (by simp [jM, *])]
 exact ⟨rfl,N⟩;replace N:=N.dl [0];show Out (kU t pos kd) _ _;rw [y0k m (by simp [jM, *])];exact ⟨rfl,N⟩;refine yF call209 (fun z w r N a J=>?_) (fun z w r N=>?_) (c:=aW (pos:=pos) (kd:=kd) (n:=(qH qX t t.size pos)) (by omega) (by omega) N);refine Alc fun G w N a J=>?_;refine Sto 0 fun w N a J=>?_;refine Reg [1,1,1,2,1,2,2,1,1,1,1,1] [0,1,2] fun w N a J=>?_;refine go fun a J=>?_;rcases f:jR (wordsM) z.text with _ | D
 have v:=congrArg (yA true (ZA)) f;refine Qq (fun a J=>?_) (o:=by exact fun J O=>Ok.cast (yS runUnderlying98 runUnderlying9 zeroValue3 J O rfl rfl h) (show yA true (ZA) (jR (wordsM) z.text)=.tuple #[ZA,.bool false] from v));refine Sto 2 fun w N a J=>?_;refine go fun a J=>?_;have g:=N;replace N:=N.dl [2,0];refine kN (N:=g) ?_;show Out (kU t pos kd) _ _
 first | rw [gW r f (by simp [jM, *])] | rw [gX r f (by simp [jM, *])]
 exact ⟨rfl,N⟩;obtain rfl:=z1p f;have v:=congrArg (yA true (ZA)) f;refine Qq (fun a J=>?_) (o:=by exact fun J O=>Ok.cast (yS runUnderlying98 runUnderlying9 zeroValue3 J O rfl rfl h) (show yA true (ZA) (jR (wordsM) z.text)=.tuple #[.int .i64 ((5:Nat):Int),.bool true] from v));refine Sto 0 fun w N a J=>?_;refine Sto 2 fun w N a J=>?_;refine go fun a J=>?_;have g:=N;replace N:=N.dl [2,0];refine kN (N:=g) ?_;show Out (kU t pos kd) _ _
 first | rw [gW r f (by simp [jM, *])] | rw [gX r f (by simp [jM, *])]
 exact ⟨rfl,N⟩;replace N:=N.dl [0];show Out (kU t pos kd) _ _;rw [y0k r (by simp [jM, *])];exact ⟨rfl,N⟩
end Go.Sw

namespace Go.Proofs
open Go.Shelf
def Tryz.lays137_ren:Go.Shelf.Ren:=⟨fun | 137=>211 | 217=>221 | 266=>227 | n=>n,fun | 9=>9 | 5=>5 | 3=>3 | n=>n,fun | n=>n⟩
theorem Tryz.lays137:Go.Proofs.Lays.n137 Tryz.prog Tryz.lays137_ren:={
 mixed:=by kernel_rfl
 f137:=Tryz.func211.trans (congrArg some (by kernel_rfl))
 f217:=Tryz.func221.trans (congrArg some (by kernel_rfl))
 f266:=Tryz.func227.trans (congrArg some (by kernel_rfl))
 t3:=Tryz.underlying3
 a3:=Tryz.isAgg3
 z3:=Tryz.sizeOf3
 v3:=Tryz.zeroValue3
 t5:=Tryz.underlying5
 a5:=Tryz.isAgg5
 z5:=Tryz.sizeOf5
 v5:=Tryz.zeroValue5
 t9:=Tryz.underlying9
 a9:=Tryz.isAgg9
 z9:=Tryz.sizeOf9
 v9:=Tryz.zeroValue9 }
open Go.RowKit in
theorem Tryz.strings_IndexByte (s:ByteArray) (c:Int) (w:World) :
  Calls Tryz.prog 211 #[.string s,.int .u8 c] w fun e w'=>e=.returned (.int .i64 (Lib.indexByte s.data.toList c.toNat.toUInt8))/\w'=w:=Any.strings_IndexByte Tryz.lays137 s c w
def Tryz.laysM171_ren:Go.Shelf.Ren:=⟨fun | 171=>192 | 243=>216 | 246=>222 | 283=>228 | 284=>229 | 285=>230 | 286=>231 | 129=>241 | 317=>240 | 318=>242 | 319=>243 | 320=>244 | 337=>256 | 338=>257 | n=>n,fun | 3=>3 | 9=>9 | 2=>2 | 4=>4 | 171=>278 | 0=>0 | 53=>230 | 37=>257 | 5=>5 | 173=>281 | 212=>292 | 51=>293 | 20=>20 | 213=>294 | 46=>295 | 232=>318 | 233=>319 | n=>n,fun | 17=>1 | 18=>6 | 19=>7 | n=>n⟩
theorem Tryz.laysM171:Go.Proofs.LaysM.n171 Tryz.prog Tryz.laysM171_ren:={
 mixed:=by kernel_rfl
 f129:=Tryz.func241.trans (congrArg some (by kernel_rfl))
 f171:=Tryz.func192.trans (congrArg some (by kernel_rfl))
 f243:=Tryz.func216.trans (congrArg some (by kernel_rfl))
 f246:=Tryz.func222.trans (congrArg some (by kernel_rfl))
 f283:=Tryz.func228.trans (congrArg some (by kernel_rfl))
 f284:=Tryz.func229.trans (congrArg some (by kernel_rfl))
 f285:=Tryz.func230.trans (congrArg some (by kernel_rfl))
 f286:=Tryz.func231.trans (congrArg some (by kernel_rfl))
 f317:=Tryz.func240.trans (congrArg some (by kernel_rfl))
 f318:=Tryz.func242.trans (congrArg some (by kernel_rfl))
 f319:=Tryz.func243.trans (congrArg some (by kernel_rfl))
 f320:=Tryz.func244.trans (congrArg some (by kernel_rfl))
 f337:=Tryz.func256.trans (congrArg some (by kernel_rfl))
 f338:=Tryz.func257.trans (congrArg some (by kernel_rfl))
 t0:=Tryz.underlying0
 a0:=Tryz.isAgg0
 z0:=Tryz.sizeOf0
 v0:=Tryz.zeroValue0
 t2:=Tryz.underlying2
 a2:=Tryz.isAgg2
 z2:=Tryz.sizeOf2
 v2:=Tryz.zeroValue2
 t3:=Tryz.underlying3
 a3:=Tryz.isAgg3
 z3:=Tryz.sizeOf3
 v3:=Tryz.zeroValue3
 t4:=Tryz.underlying4
 a4:=Tryz.isAgg4
 z4:=Tryz.sizeOf4
 v4:=Tryz.zeroValue4
 t5:=Tryz.underlying5
 a5:=Tryz.isAgg5
 z5:=Tryz.sizeOf5
 v5:=Tryz.zeroValue5
 t9:=Tryz.underlying9
 a9:=Tryz.isAgg9
 z9:=Tryz.sizeOf9
 v9:=Tryz.zeroValue9
 t20:=Tryz.underlying20
 a20:=Tryz.isAgg20
 z20:=Tryz.sizeOf20
 v20:=Tryz.zeroValue20
 t37:=Tryz.underlying257
 a37:=Tryz.isAgg257
 z37:=Tryz.sizeOf257
 v37:=Tryz.zeroValue257
 t46:=Tryz.underlying295
 a46:=Tryz.isAgg295
 z46:=Tryz.sizeOf295
 v46:=Tryz.zeroValue295
 t51:=Tryz.underlying293
 a51:=Tryz.isAgg293
 z51:=Tryz.sizeOf293
 v51:=Tryz.zeroValue293
 t53:=Tryz.underlying230
 a53:=Tryz.isAgg230
 z53:=Tryz.sizeOf230
 v53:=Tryz.zeroValue230
 t171:=Tryz.underlying278
 a171:=Tryz.isAgg278
 z171:=Tryz.sizeOf278
 v171:=Tryz.zeroValue278
 t173:=Tryz.underlying281
 a173:=Tryz.isAgg281
 z173:=Tryz.sizeOf281
 v173:=Tryz.zeroValue281
 t212:=Tryz.underlying292
 a212:=Tryz.isAgg292
 z212:=Tryz.sizeOf292
 v212:=Tryz.zeroValue292
 t213:=Tryz.underlying294
 a213:=Tryz.isAgg294
 z213:=Tryz.sizeOf294
 t232:=Tryz.underlying318
 a232:=Tryz.isAgg318
 z232:=Tryz.sizeOf318
 v232:=Tryz.zeroValue318
 t233:=Tryz.underlying319
 a233:=Tryz.isAgg319
 z233:=Tryz.sizeOf319
 v233:=Tryz.zeroValue319
 g17:=by kernel_rfl
 g18:=by kernel_rfl
 g19:=by kernel_rfl
 i0:=by kernel_rfl
 i2:=by kernel_rfl
 i3:=by kernel_rfl
 i4:=by kernel_rfl
 i5:=by kernel_rfl
 i9:=by kernel_rfl
 i20:=by kernel_rfl
 i37:=by kernel_rfl
 i46:=by kernel_rfl
 i51:=by kernel_rfl
 i53:=by kernel_rfl
 i171:=by kernel_rfl
 i173:=by kernel_rfl
 i212:=by kernel_rfl
 i232:=by kernel_rfl
 i233:=by kernel_rfl
 m17:=by kernel_rfl
 m18:=by kernel_rfl
 m19:=by kernel_rfl }
open Go.RowKit Go.Sort Go.Lib in
theorem Tryz.strconv_Itoa (n:Int) (b:-9223372036854775808<=n) (c:n<=9223372036854775807) (w:World) (a:Lib.TabIs Tryz.prog w "internal/strconv.uint64pow10" .u64 Lib.pow10Tab) :
  Calls Tryz.prog 192 #[.int .i64 n] w fun e w'=>e=.returned (.string ⟨(Lib.itoa n).toArray⟩)/\∃k os,w'=grow (w.drewN k) os:=Any.strconv_Itoa Tryz.laysM171 n b c w a
def Tryz.laysC172_ren:Go.Shelf.Ren:=⟨fun | 172=>224 | 244=>232 | 245=>233 | 247=>245 | 279=>246 | 280=>247 | 281=>248 | 282=>249 | 287=>258 | 316=>259 | 171=>192 | 205=>260 | 321=>266 | 322=>267 | 243=>216 | 246=>222 | 283=>228 | 284=>229 | 285=>230 | 286=>231 | 129=>241 | 317=>240 | 318=>242 | 319=>243 | 320=>244 | 337=>256 | 338=>257 | n=>n,fun | 9=>9 | 3=>3 | 75=>274 | 76=>275 | 4=>4 | 5=>5 | 167=>297 | 37=>257 | 0=>0 | 85=>298 | 2=>2 | 168=>300 | 53=>230 | 175=>305 | 46=>295 | 210=>309 | 127=>303 | 145=>323 | 143=>321 | 21=>21 | 171=>278 | 173=>281 | 212=>292 | 51=>293 | 20=>20 | 213=>294 | 232=>318 | 233=>319 | 80=>73 | n=>n,fun | 15=>2 | 16=>3 | 17=>1 | 18=>6 | 19=>7 | n=>n⟩
theorem Tryz.laysC172:Go.Proofs.LaysC.n172 Tryz.prog Tryz.laysC172_ren:={
 mixed:=by kernel_rfl
 f129:=Tryz.func241.trans (congrArg some (by kernel_rfl))
 f171:=Tryz.func192.trans (congrArg some (by kernel_rfl))
 f172:=Tryz.func224.trans (congrArg some (by kernel_rfl))
 f205:=Tryz.func260.trans (congrArg some (by kernel_rfl))
 f243:=Tryz.func216.trans (congrArg some (by kernel_rfl))
 f244:=Tryz.func232.trans (congrArg some (by kernel_rfl))
 f245:=Tryz.func233.trans (congrArg some (by kernel_rfl))
 f246:=Tryz.func222.trans (congrArg some (by kernel_rfl))
 f247:=Tryz.func245.trans (congrArg some (by kernel_rfl))
 f279:=Tryz.func246.trans (congrArg some (by kernel_rfl))
 f280:=Tryz.func247.trans (congrArg some (by kernel_rfl))
 f281:=Tryz.func248.trans (congrArg some (by kernel_rfl))
 f282:=Tryz.func249.trans (congrArg some (by kernel_rfl))
 f283:=Tryz.func228.trans (congrArg some (by kernel_rfl))
 f284:=Tryz.func229.trans (congrArg some (by kernel_rfl))
 f285:=Tryz.func230.trans (congrArg some (by kernel_rfl))
 f286:=Tryz.func231.trans (congrArg some (by kernel_rfl))
 f287:=Tryz.func258.trans (congrArg some (by kernel_rfl))
 f316:=Tryz.func259.trans (congrArg some (by kernel_rfl))
 f317:=Tryz.func240.trans (congrArg some (by kernel_rfl))
 f318:=Tryz.func242.trans (congrArg some (by kernel_rfl))
 f319:=Tryz.func243.trans (congrArg some (by kernel_rfl))
 f320:=Tryz.func244.trans (congrArg some (by kernel_rfl))
 f321:=Tryz.func266.trans (congrArg some (by kernel_rfl))
 f322:=Tryz.func267.trans (congrArg some (by kernel_rfl))
 f337:=Tryz.func256.trans (congrArg some (by kernel_rfl))
 f338:=Tryz.func257.trans (congrArg some (by kernel_rfl))
 t0:=Tryz.underlying0
 a0:=Tryz.isAgg0
 z0:=Tryz.sizeOf0
 v0:=Tryz.zeroValue0
 t2:=Tryz.underlying2
 a2:=Tryz.isAgg2
 z2:=Tryz.sizeOf2
 v2:=Tryz.zeroValue2
 t3:=Tryz.underlying3
 a3:=Tryz.isAgg3
 z3:=Tryz.sizeOf3
 v3:=Tryz.zeroValue3
 t4:=Tryz.underlying4
 a4:=Tryz.isAgg4
 z4:=Tryz.sizeOf4
 v4:=Tryz.zeroValue4
 t5:=Tryz.underlying5
 a5:=Tryz.isAgg5
 z5:=Tryz.sizeOf5
 v5:=Tryz.zeroValue5
 t9:=Tryz.underlying9
 a9:=Tryz.isAgg9
 z9:=Tryz.sizeOf9
 v9:=Tryz.zeroValue9
 t20:=Tryz.underlying20
 a20:=Tryz.isAgg20
 z20:=Tryz.sizeOf20
 v20:=Tryz.zeroValue20
 t21:=Tryz.underlying21
 a21:=Tryz.isAgg21
 z21:=Tryz.sizeOf21
 v21:=Tryz.zeroValue21
 t37:=Tryz.underlying257
 a37:=Tryz.isAgg257
 z37:=Tryz.sizeOf257
 v37:=Tryz.zeroValue257
 t46:=Tryz.underlying295
 a46:=Tryz.isAgg295
 z46:=Tryz.sizeOf295
 v46:=Tryz.zeroValue295
 t51:=Tryz.underlying293
 a51:=Tryz.isAgg293
 z51:=Tryz.sizeOf293
 v51:=Tryz.zeroValue293
 t53:=Tryz.underlying230
 a53:=Tryz.isAgg230
 z53:=Tryz.sizeOf230
 v53:=Tryz.zeroValue230
 t75:=Tryz.underlying274
 a75:=Tryz.isAgg274
 z75:=Tryz.sizeOf274
 v75:=Tryz.zeroValue274
 t76:=Tryz.underlying275
 a76:=Tryz.isAgg275
 z76:=Tryz.sizeOf275
 v76:=Tryz.zeroValue275
 t85:=Tryz.underlying298
 a85:=Tryz.isAgg298
 z85:=Tryz.sizeOf298
 v85:=Tryz.zeroValue298
 t127:=Tryz.underlying303
 a127:=Tryz.isAgg303
 z127:=Tryz.sizeOf303
 v127:=Tryz.zeroValue303
 t143:=Tryz.underlying321
 a143:=Tryz.isAgg321
 z143:=Tryz.sizeOf321
 v143:=Tryz.zeroValue321
 t145:=Tryz.underlying323
 a145:=Tryz.isAgg323
 z145:=Tryz.sizeOf323
 v145:=Tryz.zeroValue323
 t167:=Tryz.underlying297
 a167:=Tryz.isAgg297
 z167:=Tryz.sizeOf297
 v167:=Tryz.zeroValue297
 t168:=Tryz.underlying300
 a168:=Tryz.isAgg300
 z168:=Tryz.sizeOf300
 v168:=Tryz.zeroValue300
 t171:=Tryz.underlying278
 a171:=Tryz.isAgg278
 z171:=Tryz.sizeOf278
 v171:=Tryz.zeroValue278
 t173:=Tryz.underlying281
 a173:=Tryz.isAgg281
 z173:=Tryz.sizeOf281
 v173:=Tryz.zeroValue281
 t175:=Tryz.underlying305
 a175:=Tryz.isAgg305
 z175:=Tryz.sizeOf305
 v175:=Tryz.zeroValue305
 t210:=Tryz.underlying309
 a210:=Tryz.isAgg309
 z210:=Tryz.sizeOf309
 v210:=Tryz.zeroValue309
 t212:=Tryz.underlying292
 a212:=Tryz.isAgg292
 z212:=Tryz.sizeOf292
 v212:=Tryz.zeroValue292
 t213:=Tryz.underlying294
 a213:=Tryz.isAgg294
 z213:=Tryz.sizeOf294
 t232:=Tryz.underlying318
 a232:=Tryz.isAgg318
 z232:=Tryz.sizeOf318
 v232:=Tryz.zeroValue318
 t233:=Tryz.underlying319
 a233:=Tryz.isAgg319
 z233:=Tryz.sizeOf319
 v233:=Tryz.zeroValue319
 g15:=by kernel_rfl
 g16:=by kernel_rfl
 g17:=by kernel_rfl
 g18:=by kernel_rfl
 g19:=by kernel_rfl
 t80:=Tryz.underlying73
 a80:=Tryz.isAgg73
 z80:=Tryz.sizeOf73
 v80:=Tryz.zeroValue73
 i0:=by kernel_rfl
 i2:=by kernel_rfl
 i3:=by kernel_rfl
 i4:=by kernel_rfl
 i5:=by kernel_rfl
 i9:=by kernel_rfl
 i20:=by kernel_rfl
 i21:=by kernel_rfl
 i37:=by kernel_rfl
 i46:=by kernel_rfl
 i51:=by kernel_rfl
 i53:=by kernel_rfl
 i75:=by kernel_rfl
 i76:=by kernel_rfl
 i80:=by kernel_rfl
 i85:=by kernel_rfl
 i127:=by kernel_rfl
 i143:=by kernel_rfl
 i145:=by kernel_rfl
 i167:=by kernel_rfl
 i168:=by kernel_rfl
 i171:=by kernel_rfl
 i173:=by kernel_rfl
 i175:=by kernel_rfl
 i210:=by kernel_rfl
 i212:=by kernel_rfl
 i232:=by kernel_rfl
 i233:=by kernel_rfl
 m15:=by kernel_rfl
 m16:=by kernel_rfl
 m17:=by kernel_rfl
 m18:=by kernel_rfl
 m19:=by kernel_rfl
 c0:=by kernel_rfl
 c2:=by kernel_rfl
 c3:=by kernel_rfl
 c4:=by kernel_rfl
 c5:=by kernel_rfl
 c9:=by kernel_rfl
 c20:=by kernel_rfl
 c21:=by kernel_rfl
 c37:=by kernel_rfl
 c46:=by kernel_rfl
 c51:=by kernel_rfl
 c53:=by kernel_rfl
 c75:=by kernel_rfl
 c76:=by kernel_rfl
 c80:=by kernel_rfl
 c85:=by kernel_rfl
 c127:=by kernel_rfl
 c143:=by kernel_rfl
 c145:=by kernel_rfl
 c167:=by kernel_rfl
 c168:=by kernel_rfl
 c171:=by kernel_rfl
 c173:=by kernel_rfl
 c175:=by kernel_rfl
 c210:=by kernel_rfl
 c212:=by kernel_rfl
 c213:=by kernel_rfl
 c232:=by kernel_rfl
 c233:=by kernel_rfl }
def Tryz.lays154_ren:Go.Shelf.Ren:=⟨fun | 154=>225 | 138=>234 | 165=>235 | 143=>236 | 166=>237 | 197=>238 | 169=>239 | 195=>250 | 218=>251 | 240=>252 | 241=>253 | 219=>254 | 260=>255 | 276=>261 | 277=>262 | 217=>221 | 225=>263 | 224=>264 | 267=>265 | 266=>227 | 314=>268 | n=>n,fun | 9=>9 | 3=>3 | 4=>4 | 72=>287 | 0=>0 | 76=>275 | 105=>289 | 21=>21 | 5=>5 | 70=>285 | 20=>20 | 37=>257 | 75=>274 | 127=>303 | 164=>311 | 46=>295 | 119=>314 | 139=>317 | 138=>316 | 146=>324 | 51=>293 | 80=>73 | n=>n,fun | 1=>0 | 3=>4 | 4=>5 | n=>n⟩
theorem Tryz.lays154:Go.Proofs.Lays.n154 Tryz.prog Tryz.lays154_ren:={
 mixed:=by kernel_rfl
 f138:=Tryz.func234.trans (congrArg some (by kernel_rfl))
 f143:=Tryz.func236.trans (congrArg some (by kernel_rfl))
 f154:=Tryz.func225.trans (congrArg some (by kernel_rfl))
 f165:=Tryz.func235.trans (congrArg some (by kernel_rfl))
 f166:=Tryz.func237.trans (congrArg some (by kernel_rfl))
 f169:=Tryz.func239.trans (congrArg some (by kernel_rfl))
 f195:=Tryz.func250.trans (congrArg some (by kernel_rfl))
 f197:=Tryz.func238.trans (congrArg some (by kernel_rfl))
 f217:=Tryz.func221.trans (congrArg some (by kernel_rfl))
 f218:=Tryz.func251.trans (congrArg some (by kernel_rfl))
 f219:=Tryz.func254.trans (congrArg some (by kernel_rfl))
 f224:=Tryz.func264.trans (congrArg some (by kernel_rfl))
 f225:=Tryz.func263.trans (congrArg some (by kernel_rfl))
 f240:=Tryz.func252.trans (congrArg some (by kernel_rfl))
 f241:=Tryz.func253.trans (congrArg some (by kernel_rfl))
 f260:=Tryz.func255.trans (congrArg some (by kernel_rfl))
 f266:=Tryz.func227.trans (congrArg some (by kernel_rfl))
 f267:=Tryz.func265.trans (congrArg some (by kernel_rfl))
 f276:=Tryz.func261.trans (congrArg some (by kernel_rfl))
 f277:=Tryz.func262.trans (congrArg some (by kernel_rfl))
 f314:=Tryz.func268.trans (congrArg some (by kernel_rfl))
 t0:=Tryz.underlying0
 a0:=Tryz.isAgg0
 z0:=Tryz.sizeOf0
 v0:=Tryz.zeroValue0
 t3:=Tryz.underlying3
 a3:=Tryz.isAgg3
 z3:=Tryz.sizeOf3
 v3:=Tryz.zeroValue3
 t4:=Tryz.underlying4
 a4:=Tryz.isAgg4
 z4:=Tryz.sizeOf4
 v4:=Tryz.zeroValue4
 t5:=Tryz.underlying5
 a5:=Tryz.isAgg5
 z5:=Tryz.sizeOf5
 v5:=Tryz.zeroValue5
 t9:=Tryz.underlying9
 a9:=Tryz.isAgg9
 z9:=Tryz.sizeOf9
 v9:=Tryz.zeroValue9
 t20:=Tryz.underlying20
 a20:=Tryz.isAgg20
 z20:=Tryz.sizeOf20
 v20:=Tryz.zeroValue20
 t21:=Tryz.underlying21
 a21:=Tryz.isAgg21
 z21:=Tryz.sizeOf21
 v21:=Tryz.zeroValue21
 t37:=Tryz.underlying257
 a37:=Tryz.isAgg257
 z37:=Tryz.sizeOf257
 v37:=Tryz.zeroValue257
 t46:=Tryz.underlying295
 a46:=Tryz.isAgg295
 z46:=Tryz.sizeOf295
 v46:=Tryz.zeroValue295
 t51:=Tryz.underlying293
 a51:=Tryz.isAgg293
 z51:=Tryz.sizeOf293
 v51:=Tryz.zeroValue293
 t70:=Tryz.underlying285
 a70:=Tryz.isAgg285
 z70:=Tryz.sizeOf285
 v70:=Tryz.zeroValue285
 t72:=Tryz.underlying287
 a72:=Tryz.isAgg287
 z72:=Tryz.sizeOf287
 v72:=Tryz.zeroValue287
 t75:=Tryz.underlying274
 a75:=Tryz.isAgg274
 z75:=Tryz.sizeOf274
 v75:=Tryz.zeroValue274
 t76:=Tryz.underlying275
 a76:=Tryz.isAgg275
 z76:=Tryz.sizeOf275
 v76:=Tryz.zeroValue275
 t105:=Tryz.underlying289
 a105:=Tryz.isAgg289
 z105:=Tryz.sizeOf289
 v105:=Tryz.zeroValue289
 t119:=Tryz.underlying314
 a119:=Tryz.isAgg314
 z119:=Tryz.sizeOf314
 t127:=Tryz.underlying303
 a127:=Tryz.isAgg303
 z127:=Tryz.sizeOf303
 v127:=Tryz.zeroValue303
 t138:=Tryz.underlying316
 a138:=Tryz.isAgg316
 z138:=Tryz.sizeOf316
 v138:=Tryz.zeroValue316
 t139:=Tryz.underlying317
 a139:=Tryz.isAgg317
 z139:=Tryz.sizeOf317
 v139:=Tryz.zeroValue317
 t146:=Tryz.underlying324
 a146:=Tryz.isAgg324
 z146:=Tryz.sizeOf324
 v146:=Tryz.zeroValue324
 t164:=Tryz.underlying311
 a164:=Tryz.isAgg311
 z164:=Tryz.sizeOf311
 v164:=Tryz.zeroValue311
 g1:=by kernel_rfl
 g3:=by kernel_rfl
 g4:=by kernel_rfl }
theorem Tryz.Builder_Extra_154:Builder.Extra Tryz.prog Tryz.lays154_ren:={
 sizeBuilder:=by kernel_rfl
 liesBuilder:=by kernel_rfl
 t5:=Tryz.underlying5
 a5:=Tryz.isAgg5
 z5:=Tryz.sizeOf5
 v5:=Tryz.zeroValue5
 infoByte:=by kernel_rfl
 cellsByte:=by kernel_rfl
 sizeByte:=by kernel_rfl
 neB5:=by decide }
open Go.RowKit Go.Lib in
theorem Tryz.strings_Replace (s old new:ByteArray) (n:Int) (m:Int) (w:World) (O:s.size < 4294967281) (N:w.cell? ⟨0,0,none⟩=some (.int .i64 m)) (b:1<=old.size) (a:s.size+Lib.countB s old * new.size<=140737488355328) :
  Calls Tryz.prog 225 #[.string s,.string old,.string new,.int .i64 n] w fun e w'=>
   e=.returned (.string ⟨(Lib.replace s.data.toList old.data.toList new.data.toList n).toArray⟩)/\Below w.heap.size w w':=Any.strings_Replace Tryz.lays154 Tryz.Builder_Extra_154 s old new n m w O N b a
end Go.Proofs

namespace Go.Sw
open Go.Proofs.Tryz
open Go.Proofs
theorem Mem.below {Φ:Fz} {K:List Res} {w w':World} (N:Mem Φ K w) (h:RowKit.Below w.heap.size w w'):Mem Φ K w':=by
 have a:Mem Φ (.gs (.slice none 0 0) 0 0 []::K) w':=N.more (r:=.gs (.slice none 0 0) 0 0 []) h.os h.output (fun b hb=>h.block b hb) ⟨0,World.ownsRow_nil w' 0 0 0⟩ (fun b hb=>by cases hb);exact a.del 0
theorem j1y {Φ:Fz} {K:List Res} {w:World} {n:Int} (h:I64 n) (G:Tabs Φ) (N:Mem Φ K w) :
  Calls prog 192 #[.int .i64 n] w (fun ee w'=>ee=.returned (.string (q2k n))/\Mem Φ K w'):=by
 refine (Tryz.strconv_Itoa n (by have:=h;unfold I64 at this;omega) (by have:=h;unfold I64 at this;omega) w (G w ⟨N.fz,by simp⟩)).mono fun e w' J=>?_;obtain ⟨rfl,k,os,rfl⟩:=J;refine ⟨rfl,N.below ⟨rfl,rfl,rfl,by simp [Go.Sort.grow,World.drewN],fun b hb=>?_⟩⟩;simp only [Go.Sort.grow,World.drewN];rw [Array.getElem?_append_left hb]
theorem At.cell {Φ:Fz} {K:List Res} {w:World} {g:Nat} {v:Value} (h:At Φ ⟨g,0,none⟩ [v]) (N:Mem Φ K w):w.cell? ⟨g,0,none⟩=some v:=by
 obtain ⟨arr,T,fr,a,b⟩:=h.ex;have c:=N.fz _ _ a;have d:=b 0 v rfl;simp only [World.cell?,c]
 simpa using d
theorem z3l (old new:List UInt8):∀(k:Nat) (s:List UInt8),(Lib.replaceK old new k s).length<=s.length+k * new.length
 | 0,s=>by simp [Lib.replaceK]
 | k+1,s=>by
  unfold Lib.replaceK;split
  ·omega
  ·have h:=z3l old new k (s.drop ((Lib.index s old).toNat+old.length))
   simp only [laQ,List.length_take,List.length_drop,Nat.add_mul] at h ⊢;omega
theorem q9d (s old new:Bs):(y1z s old new).size<=s.size+new.size:=by
 have a:∀b:Bs,b.data.toList.length=b.size:=fun b=>by rw [Array.length_toList];rfl
 show (Lib.replace s.data.toList old.data.toList new.data.toList 1).toArray.size<=_;rw [List.size_toArray,<- a s,<- a new];unfold Lib.replace;split
 ·omega
 ·have h:=z3l old.data.toList new.data.toList (Lib.replaceNum s.data.toList old.data.toList 1) s.data.toList
  have c:Lib.replaceNum s.data.toList old.data.toList 1<=1:=by unfold Lib.replaceNum;split <;> omega
  have:=Nat.mul_le_mul_right new.data.toList.length c;omega
theorem z0u {n:Int} (h:I64 n):(q2k n).size<=21:=by
 show (Lib.itoa n).toArray.size<=_;rw [List.size_toArray];exact Lib.itoa_length_le n (by have:=h;unfold I64 at this;omega) (by have:=h;unfold I64 at this;omega)
theorem y2c {Φ:Fz} {K:List Res} {w:World} {s old new:Bs} (O:s.size<=1000000) (a:1<=old.size) (c:new.size=1) (G:Glob Φ) (N:Mem Φ K w) :
  Calls prog 225 #[.string s,.string old,.string new,.int .i64 ((1:Nat):Int)] w (fun ee w'=>ee=.returned (.string (y1z s old new))/\Mem Φ K w'):=by
 obtain ⟨m,b⟩:=G.maxLen;have d:=Lib.countB_le old a s.size s (Nat.le_refl _);refine (Tryz.strings_Replace s old new 1 m w (by omega) (b.cell N) a (by rw [c];omega)).mono fun e w' J=>⟨J.1,N.below J.2⟩
theorem atoi_ok {Φ:Fz} {K:List Res} {w:World} {s:Bs} (O:s.size<=1000000) (G:Glob Φ) (N:Mem Φ K w) :
  Calls prog 224 #[.string s] w (fun ee w'=>Out (z5x s) (fun v=>ee=.returned (.tuple #[.int .i64 v,.nilIface])/\Mem Φ K w')
   (fun _=>∃y:Int×Nat,ee=.returned (.tuple #[.int .i64 y.1,.iface 300 (.pointer (some ⟨y.2,0,none⟩))])/\Mem Φ K w')):=by
 have hbelow:∀w':World,(w'=w∨∃t,w'=Lib.bytesWorld w 5 t)->Mem Φ K w':=fun w' h=>by
  rcases h with rfl | ⟨t,rfl⟩
  ·exact N
  ·exact N.below (Lib.bytesWorld_below w 5 t)
 unfold z5x;cases h:Lib.atoiAll s.data.toList
 ·exact (Any.strconv_Atoi_ok Tryz.laysC172 s (by omega) _ h w).mono fun e w' J=>⟨J.1,hbelow w' J.2⟩
 ·obtain ⟨ev,a,b⟩:=G.err4
  exact (Any.strconv_Atoi_syntax Tryz.laysC172 s (by omega) h ev w (a.cell N) b).mono fun e w' ⟨NN,c,_,_,d⟩=>⟨(_,NN),c,N.below d⟩
 ·obtain ⟨ev,a,b⟩:=G.err5
  exact (Any.strconv_Atoi_range Tryz.laysC172 s (by omega) h ev w (a.cell N) b).mono fun e w' ⟨NN,c,_,_,d⟩=>⟨(_,NN),c,N.below d⟩
theorem z2r {Φ:Fz} {K:List Res} {w:World} {s:Bs} {c:Nat} (N:Mem Φ K w) :
  Calls prog 211 #[.string s,.int .u8 c] w (fun ee w'=>ee=.returned (.int .i64 (Lib.indexByte s.data.toList ((c:Int)).toNat.toUInt8))/\Mem Φ K w'):=by
 exact (Tryz.strings_IndexByte s c w).mono fun e w' J=>by obtain ⟨a,rfl⟩:=J;exact ⟨a,N⟩
theorem q5u {P:Program} {n:Nat} {E:List (Nat×Value)} {D:List Deferred} {a:Act} {w:World} {ty:TypeId} (i m:Nat) {x ix:Operand} {t e:TypeId} {kk:IntKind} {cs:List Value} {s:Bs} (J:EnvR n E D a) (g:ev E x=some (.agg cs.toArray))
  (hi:ev E ix=some (.int kk (i:Int))) (f:Under P t (.array m e)) (O:SizeT P e 1) (d:Scalar P e) (hl:cs.length=m) (c:cs[i]? = some (.string s)):Ok P a (.index t x ix) ty w (.string s):=fun _ _ _ _=>by
 have b:i < m:=by rw [<- hl];exact (List.getElem?_eq_some_iff.1 c).1
 simp only [execOp,J.ev g,J.ev hi];have h:cs[i]'(by rw [hl];exact b)=.string s:=(List.getElem?_eq_some_iff.1 c).2
 simp [Instr.index,asIntOf,Sem.run_bind,f w,O w,Result.andThen,b]
 simp [part,Sem.run_bind,d w,Result.andThen,c]
theorem j5n {P:Program} {n:Nat} {E:List (Nat×Value)} {D:List Deferred} {a:Act} {w:World} {Kn:Value->World->Prop} {Qp:List PanicEntry->World->Prop} {dst:Option Tmp} {ty:TypeId} {pos:String} {aft:Array Edge} {g:Option (Nat×Bool)}
  {α β ε:Type} {f:FuncId} {xs:Array Operand} {ts:Array TypeId} {vs:List Value} {r:Except ε α} {X:α->Value} {Z:ε->β->Value} {d i:Fz} {KO:α->List Res} {KE:ε->β->List Res}
  (J:EnvR n E D a) (o:evs E xs.toList=some vs) (m:∀args w,(callFunc f args).run P w=.ok (.enter f args) w)
  (l:Calls P f vs.toArray w (fun e w'=>Out r (fun x=>e=.returned (X x)/\Mem d (KO x) w') (fun c=>∃y,e=.returned (Z c y)/\Mem i (KE c y) w')))
  (k:∀x w',r=.ok x->Mem d (KO x) w'->Kn (X x) w') (kp:∀c y w',r=.error c->Mem i (KE c y) w'->Kn (Z c y) w') :
  Oper.eff P ⟨dst,.call { callee:=.value (.func f),args:=xs,argTypes:=ts },ty,pos,aft,g⟩ a w Kn Qp:=by
 refine mQ J o m l (fun v w' h=>?_) (fun c w' h=>?_) (fun w' h=>?_)
 ·cases r with
  | ok x=>obtain ⟨b,j⟩:=h;cases b;exact k _ _ rfl j
  | error c=>obtain ⟨y,b,j⟩:=h;cases b;exact kp _ _ _ rfl j
 ·cases r with
  | ok x=>obtain ⟨b,_⟩:=h;cases b
  | error c=>obtain ⟨y,b,_⟩:=h;cases b
 ·cases r with
  | ok x=>obtain ⟨b,_⟩:=h;cases b
  | error c=>obtain ⟨y,b,_⟩:=h;cases b
def y9d (s:Bs):Int:=(dM s).getD 0
def y0m (s:Bs):Int:=match dM s with | some _=>0 | none=>13
theorem num_ok {s:Bs} {v:Int} (h:z5x (y1z s ⟨#[126]⟩ ⟨#[45]⟩)=.ok v) (a:z2f v=s):y9d s=v/\y0m s=0:=by
 simp [y9d,y0m,dM,h,a]
theorem num_no {s:Bs} {v:Int} (h:z5x (y1z s ⟨#[126]⟩ ⟨#[45]⟩)=.ok v) (a:¬z2f v=s):y9d s=0/\y0m s=13:=by
 simp [y9d,y0m,dM,h,a]
theorem num_err {s:Bs} {u:Unit} (h:z5x (y1z s ⟨#[126]⟩ ⟨#[45]⟩)=.error u):y9d s=0/\y0m s=13:=by
 simp [y9d,y0m,dM,h]
theorem j8r {s:Bs} {v:Int} (h:z5x s=.ok v):I64 v:=by
 unfold z5x at h;unfold Lib.atoiAll at h;split at h
 ·rename_i v' a
  simp only [Except.ok.injEq] at h;subst h;split at a
  ·cases a
  ·simp only at a
   split at a
   ·cases a
   ·cases a
   ·split at a
    ·cases a
    ·split at a
     ·cases a
     ·rename_i c d
      simp only [Lib.NumEnd.ok.injEq] at a;subst a;unfold I64;split <;> rename_i b
      ·simp only [b,true_and] at d;omega
      ·simp only [b,not_false_eq_true,true_and] at c;omega
 ·cases h
theorem wT (t:Bs) (i:Nat):yW t i < 256:=by
 unfold yW;split
 ·exact UInt8.toNat_lt _
 ·decide
theorem z7r {n:Nat} (h:n < 256):(n.toUInt8).toNat=n:=by simp [Nat.toUInt8,UInt8.toNat_ofNat,Nat.mod_eq_of_lt h]
section
variable {Φ:Fz} {K:List Res} {w:World} {n:Nat}
theorem q2j (h:n < 256) (N:Mem Φ K w):Calls prog 210 #[.int .u8 n] w (fun ee w'=>ee=.returned (.bool (qX n))/\Mem Φ K w'):=by
 have:=z4w (c:=n.toUInt8) N;rwa [z7r h] at this
theorem j6a (h:n < 256) (N:Mem Φ K w):Calls prog 204 #[.int .u8 n] w (fun ee w'=>ee=.returned (.bool (yT n))/\Mem Φ K w'):=by
 have:=cP (c:=n.toUInt8) N;rwa [z7r h] at this
theorem y5t (h:n < 256) (N:Mem Φ K w):Calls prog 206 #[.int .u8 n] w (fun ee w'=>ee=.returned (.bool (nI n))/\Mem Φ K w'):=by
 have:=z9z (c:=n.toUInt8) N;rwa [z7r h] at this
theorem j6b (h:n < 256) (N:Mem Φ K w):Calls prog 208 #[.int .u8 n] w (fun ee w'=>ee=.returned (.bool (dX n))/\Mem Φ K w'):=by
 have:=z9y (c:=n.toUInt8) N;rwa [z7r h] at this
end
theorem y7l:wordsL.length=15:=rfl
theorem j7o {i:Nat} {x:Bs} (h:wordsL[i]? = some x):z0y (wordsM.take i) x (.int .i64 ((5:Nat):Int))=wordsM.take (i+1):=by
 have hi:i < 15:=by have:=(List.getElem?_eq_some_iff.1 h).1;rwa [y7l] at this
 have a:x=wordsL[i]'(by rw [y7l];exact hi):=(List.getElem?_eq_some_iff.1 h).2.symm;subst a
 match i,hi with
 | 0,_=>rfl
 | 1,_=>rfl
 | 2,_=>rfl
 | 3,_=>rfl
 | 4,_=>rfl
 | 5,_=>rfl
 | 6,_=>rfl
 | 7,_=>rfl
 | 8,_=>rfl
 | 9,_=>rfl
 | 10,_=>rfl
 | 11,_=>rfl
 | 12,_=>rfl
 | 13,_=>rfl
 | 14,_=>rfl
theorem j0f {i:Nat} (h:¬i < 15):wordsM.take i=wordsM:=List.take_of_length_le (by show 15<=i;omega)
theorem q4a {Φ:Fz} {K:List Res} {w:World} {t:Bs} {pos:Nat} {b:Nat} {rest:List Value} {T0:TypeId} (a:pos<=1000000000) (N:Mem Φ (.blk b (ob (.string t::.int .i64 pos::rest) T0)::K) w) :
  Calls prog 203 #[.pointer (some ⟨b,0,none⟩),ZA] w (fun ee w'=>ee=.returned (.int .u8 ((yW t pos:Nat):Int))/\Mem Φ (.blk b (ob (.string t::.int .i64 pos::rest) T0)::K) w') :=
 z3j (k:=0) a N
theorem aX (t:Bs) (pos:Nat):tK t pos=if y0m (pJ t pos)=0 then
   (if qX (yW t (pos+(vD t pos+xV t pos)))=true∨yW t (pos+(vD t pos+xV t pos))=39 then .error (pos,13) else .ok ⟨1,y9d (pJ t pos),pJ t pos,pos⟩)
  else .error (pos,13):=by
 unfold tK y0m y9d;cases dM (pJ t pos) with
 | none=>rfl
 | some v=>rfl
set_option maxRecDepth 10000 in
theorem j2x:∀c < 256,decide ((0:Int)<=Lib.indexByte [40,41,44,59,58,124,61,60,43,45,42,47,37,95] ((c:Nat):Int).toNat.toUInt8)=z6m c:=by decide
end Go.Sw

namespace Go.Sw
theorem q3y (t:Bs):∀(f i q:Nat),i<=t.size->z3i t f i=.ok q->i<=q/\q<=t.size
 | 0,i,q,h,a=>by simp only [z3i,Except.ok.injEq] at a;omega
 | f+1,i,q,h,a=>by
  have j:=wC jU t t.size i h;simp only [z3i] at a;split at a
  ·cases b:vH t (i+qH jU t t.size i) (i+qH jU t t.size i) 0 with
   | error c=>rw [b] at a;cases a
   | ok e=>
    rw [b] at a;have d:=wW _ _ _ _ _ _ b;have g:=q3y t f e q d.2 a;omega
  ·simp only [Except.ok.injEq] at a;omega
theorem y1t {t:Bs} {i q:Nat} (h:i<=t.size) (a:cR t i=.ok q):i<=q/\q<=t.size:=q3y t _ i q h a
theorem z9h (t:Bs) (i n:Nat) (h:i+n<=t.size):(t.extract i (i+n)).size=n:=by
 rw [ByteArray.size_extract];omega
theorem q5j {t:Bs} {pos:Nat} {k:Tok} (g:pos < t.size) (h:zV t pos=.ok k):1<=k.text.size/\pos+k.text.size<=t.size:=by
 have b:∀p:Nat->Bool,p (yW t pos)=true->1<=qH p t t.size pos:=fun p d=>by
  rw [uM,if_pos ⟨g,d⟩];omega
 have name:∀kd,nI (yW t pos)=true∨dX (yW t pos)=true->kU t pos kd=.ok k->1<=k.text.size/\pos+k.text.size<=t.size:=fun kd O c=>by
  unfold kU at c;split at c
  ·cases c
  ·simp only [Except.ok.injEq] at c
   subst c;have e:=q8i t pos (by omega);have f:=b qX (by unfold qX;rcases O with h | h <;> simp [h])
   have o:qH qX t t.size pos<=jM t pos:=by
    unfold jM;split
    ·split <;> omega
    ·omega
   simp only;rw [z9h t pos _ e];omega
 have made:∀kd n,1<=n->pos+n<=t.size->vT t pos kd n=.ok k->1<=k.text.size/\pos+k.text.size<=t.size:=fun kd n e f c=>by
  obtain ⟨_,rfl⟩:=y0j c;simp only;rw [z9h t pos _ f];omega
 unfold zV at h;split at h
 ·rename_i j
  have i:1<=vD t pos+xV t pos/\pos+(vD t pos+xV t pos)<=t.size:=by
   unfold xV;by_cases a:yW t pos=126
   ·have:vD t pos=1:=by simp [vD,a]
    have:=wC yT t t.size (pos+vD t pos) (by omega);omega
   ·have O:vD t pos=0:=by simp [vD,a]
    have l:yT (yW t pos)=true:=j.resolve_right a;have e:=b yT l;have f:=wC yT t t.size pos (by omega);rw [O,Nat.add_zero];omega
  rw [aX] at h;split at h
  ·split at h
   ·cases h
   ·simp only [Except.ok.injEq] at h
    subst h;simp only [pJ];rw [z9h t pos _ i.2];omega
  ·cases h
 split at h
 ·rename_i O;exact name _ (.inl O) h
 split at h
 ·rename_i O;exact name _ (.inr O) h
 split at h
 ·have:=wC qX t t.size (pos+1) (by omega)
  exact made _ _ (by omega) (by omega) h
 split at h
 ·rename_i d
  have m:(⟨#[61,62]⟩:Bs).size=2:=rfl;have e2:(⟨#[45,62]⟩:Bs).size=2:=rfl
  have:2<=t.size - pos:=by
   rcases d with d | d
   ·have:=jY d;omega
   ·have:=jY d;omega
  exact made _ _ (by omega) (by omega) h
 split at h
 ·exact made _ _ (by omega) (by omega) h
 ·cases h
theorem y2u (t:Bs):∀(f g i:Nat),i<=t.size->t.size < i+f->t.size < i+g->hM t f i=hM t g i
 | 0,_,i,a,h,_=>by omega
 | _+1,0,i,a,_,h=>by omega
 | f+1,g+1,i,a,h,h'=>by
  simp only [hM];cases e:cR t i with
  | error c=>rfl
  | ok q=>
   simp only;split
   ·rename_i hq
    cases d:zV t q with
    | error c=>rfl
    | ok k=>
     simp only;have j:=y1t a e;have b:=q5j hq d;rw [y2u t f g (q+k.text.size) b.2 (by omega) (by omega)]
   ·rfl
def z3w (t:Bs) (q:Nat):Except (Nat×Int) (List Tok):=if q < t.size then
  match zV t q with
  | .error c=>.error c
  | .ok k=>match hM t (t.size+1) (q+k.text.size) with
   | .error c=>.error c
   | .ok l=>.ok (k::l)
 else .ok []
theorem j3d {t:Bs} {i:Nat} (h:i<=t.size):hM t (t.size+1) i=match cR t i with
  | .error c=>.error c
  | .ok q=>z3w t q:=by
 rw [y2u t (t.size+1) (t.size+2) i h (by omega) (by omega)];rfl
def y1x (pre:List Tok) (r:Except (Nat×Int) (List Tok)):Except (Nat×Int) (List Tok):=match r with
 | .ok l=>.ok (pre++l)
 | .error c=>.error c
theorem q4b (r:Except (Nat×Int) (List Tok)):y1x [] r=r:=by cases r <;> rfl
theorem y7e {t:Bs} {i q:Nat} {pre:List Tok} (h:i<=t.size) (a:cR t i=.ok q):y1x pre (hM t (t.size+1) i)=y1x pre (z3w t q):=by
 rw [j3d h,a]
theorem y7f {t:Bs} {i:Nat} {pre:List Tok} {c:Nat×Int} (h:i<=t.size) (a:cR t i=.error c):y1x pre (hM t (t.size+1) i)=.error c:=by
 rw [j3d h,a];rfl
theorem y7g {t:Bs} {q:Nat} {pre:List Tok} {k:Tok} (h:q < t.size) (a:zV t q=.ok k):y1x pre (z3w t q)=y1x (pre++[k]) (hM t (t.size+1) (q+k.text.size)):=by
 unfold z3w;rw [if_pos h,a];simp only;cases hM t (t.size+1) (q+k.text.size) <;> simp [y1x]
theorem j7k {t:Bs} {q:Nat} {pre:List Tok} {c:Nat×Int} (h:q < t.size) (a:zV t q=.error c):y1x pre (z3w t q)=.error c:=by
 unfold z3w;rw [if_pos h,a];rfl
theorem x4u {t:Bs} {q:Nat} {pre:List Tok} (h:¬q < t.size):y1x pre (z3w t q)=.ok pre:=by
 unfold z3w;rw [if_neg h];simp [y1x]
section
variable {P:Program} {n m:Nat} {E:List (Nat×Value)} {D:List Deferred} {a:Act} {w:World} {ops:Array Oper} {rest:List Oper} {Q:Exit->Act->World->Prop} {r:Option Nat} {d:Nat} {v:Value} {op:Op} {ty:TypeId} {pos:String} {aft:Array Edge}
theorem z6p {o:Oper} {K:Act->World->Prop} (b:∀c,o.op≠.defer c)
  (h:Oper.eff P o a w (fun v w'=>K (a.put o.dst v) w') (fun c w'=>Q (.panic c) a w')):o.wpIn (FO r) m P a w K Q:=by
 refine ⟨fun f _=>FO.fn f,?_⟩;rw [Oper.semAt_plain _ _ _ b];unfold Oper.eff at h;generalize (execOp a.eval o).run P w=q at *;cases q with
 | ok x w'=>
  cases x <;> simp only [kK] at h <;> simp only [Oper.uponIn]
  case value=>exact h
  case skip=>exact h
  case enter f args=>exact ⟨fun d=>(FO.depth d).elim,FO.calls (h.mono fun e w'' J=>by cases e <;> first | exact J | exact J.elim)⟩
 | halt x w'=>cases x <;> simp only [kK] at h;simp only [Oper.uponIn];exact h
theorem kA {o:Oper} (J:EnvR n E D a) (i:o.dst=some d) (b:Nat.blt d n=true) (j:o.guard=none) (e:∀c,o.op≠.defer c)
  (h:Oper.eff P o a w (fun v w'=>∀a,EnvR n ((d,v)::E) D a->wpListIn (FO r) m P ops Q rest a w') (fun _ _=>False)):wpListIn (FO r) m P ops Q (o::rest) a w:=by
 refine wpListIn_plain j fun L f=>z6p e (xE h (fun v w' k=>f _ _ ?_) (fun c w' g=>g.elim));rw [i];exact k _ (J.put b)
theorem xF {o:Oper} (J:EnvR n E D a) (f:o.dst=none) (g:o.guard=none) (b:∀c,o.op≠.defer c)
  (h:Oper.eff P o a w (fun _ w'=>∀a,EnvR n E D a->wpListIn (FO r) m P ops Q rest a w') (fun _ _=>False)):wpListIn (FO r) m P ops Q (o::rest) a w:=by
 refine wpListIn_plain g fun L d=>z6p b (xE h (fun v w' i=>d _ _ ?_) (fun c w' e=>e.elim));rw [f];exact i _ J.put_none
theorem zG (J:EnvR n E D a) (b:∀c,op≠.defer c) (f:Ok P a op ty w v) (e:Nat.blt d n=true) (k:∀a,EnvR n ((d,v)::E) D a->wpListIn (FO r) m P ops Q rest a w) :
  wpListIn (FO r) m P ops Q (⟨some d,op,ty,pos,aft,none⟩::rest) a w :=
 kA J rfl e rfl b (pO f k)
theorem mX {id:Nat} {l:List Oper} (h:wpListIn (FO none) 3 P l.toArray Q l a w):(Code.region id l.toArray false).wp P Q a w:=wpIn_wide.1 (wpIn_region_lit h)
theorem x1z {y x:Operand} {ts:Array TypeId} {l:Nat} {JJ:World->Prop} (J:EnvR n E D a) (b:Nat.blt d n=true) (s:ev E y=some (.func (.yield l) #[] #[])) (r:ev E x=some v)
  (q:YieldAt Fence.wide 2 P l #[v] w (fun e w'=>e=.returned (.bool true)/\JJ w')) (k:∀w',JJ w'->∀a,EnvR n ((d,.bool true)::E) D a->wpListIn (FO none) 3 P ops Q rest a w') :
  wpListIn (FO none) 3 P ops Q (⟨some d,.call { callee:=.value y,args:=#[x],argTypes:=ts },ty,pos,aft,none⟩::rest) a w:=by
 obtain ⟨fn,tmps,assign,body,g,i⟩:=q;refine wpListIn_plain rfl fun L o=>⟨fun f _=>trivial,?_⟩;rw [Oper.semAt_plain _ _ _ (by intro c h;cases h)]
 have j:(execOp a.eval ⟨some d,.call { callee:=.value y,args:=#[x],argTypes:=ts },ty,pos,aft,none⟩).run P w=.ok (.round l fn tmps assign body) w:=by
  simp only [execOp,resolve,Sem.run_bind,List.map_toArray,List.map_cons,List.map_nil,J.ev r,J.ev s,Deferred.ofValue]
  simp [invoke,Sem.run_bind,Result.andThen,g]
 rw [j,Oper.uponIn_round];refine ⟨fun p=>(by cases p),i.mono fun e w' he'=>?_⟩;obtain ⟨rfl,m⟩:=he';exact o _ _ (k _ m _ (J.put b))
end
section
variable {P:Program} {Φ Ψ:Fz} {K:List Res} {w:World}
theorem Mem.putObj {i l:Nat} {o o':Obj} (N:Mem Φ K w) (b:yU K i=some (.blk l o)):Mem Φ (wA K i (.blk l o')) (w.putObj l o'):=by
 have hb:l < w.heap.size:=(Array.getElem?_eq_some_iff.1 (N.own _ (yR b))).1;exact N.upd b rfl rfl (fun c d a=>World.putObj_heap_other (fun e=>a (by simp [Res.foot,e]))) (World.putObj_heap_same hb) (.inl rfl)
theorem x3s {β γ:Type} {l n:Nat} {r:Loop} {tmps:Array Value} {E:List (Nat×Value)} {E1:β->List (Nat×Value)} {K1:β->List Res} {KO:γ->List Res} (N:Mem Φ (.blk l (.loop r)::K) w) (b:r.state=.ready) (d:r.pending=none)
  (J:EnvR n E [] ⟨tmps,[]⟩)
  (t:∀a,EnvR n E [] a->r.assign.wpIn (FO (some l)) 2 P (Exit.then (fun j g=>∃y,EnvR n (E1 y) [] j/\Mem Φ (.blk l (.loop r)::K1 y) g) (fun _ _ _=>False)) a w)
  (u:∀y a w,EnvR n (E1 y) [] a->Mem Φ (.blk l (.loop { r with state:=.busy })::K1 y) w->r.body.wpIn (FO (some l)) 2 P (fun e _ w=>e=.normal/\∃z,Mem Φ (.blk l (.loop { r with state:=.busy })::KO z) w) a w) :
  RoundIn Fence.wide 2 P l r.fn tmps r.assign r.body w (fun e w'=>e=.returned (.bool true)/\∃z,Mem Φ (.blk l (.loop r)::KO z) w'):=by
 refine roundIn_of_wpIn trivial (Code.wpIn_mono (fun e j g h=>?_) (t _ J));cases e with
 | normal=>
  obtain ⟨y,q,k⟩:=h;have hl:g.heap[l]? = some (.loop r):=k.own _ msQ;refine ⟨_,run_beginRound hl b,?_⟩;have s:=k.putObj (i:=0) (o':=.loop { r with state:=.busy }) rfl;refine Code.wpIn_mono (fun e a2 v h=>?_) (u y _ _ q s);obtain ⟨rfl,z,m⟩:=h;have f:v.heap[l]? = some (.loop { r with state:=.busy }):=m.own _ msQ;refine ⟨_,_,run_endRound none f,rfl,z,?_⟩;have o:=m.putObj (i:=0) (o':=.loop { ({ r with state:=.busy }:Loop) with state:=.ready,pending:=none }) rfl;have p:({ ({ r with state:=.busy }:Loop) with state:=.ready,pending:=none }:Loop)=r:=by cases r;simp only at b d;subst b;subst d;rfl
  simp only [wA,p] at o;simpa [p] using o
 | exit id=>exact h.elim
 | goto l=>exact h.elim
 | ret=>exact h.elim
 | panic c=>exact h.elim
 | outgrown=>exact h.elim
theorem x5a {β δ:Type} {n gf:Nat} {E:List (Nat×Value)} {Dd:List Deferred} {a:Act} {g:Operand} {ps:Array Tmp} {assign body:Code} {Q:Exit->Act->World->Prop} {fs cs:List Value} {F1:β->Fz} {KO:β->List Res} {KE:δ->List Res} {G:β->Prop} {B:δ->List PanicEntry->Prop}
  (J:EnvR n E Dd a) (N:Mem Φ K w) (A:ev E g=some (.func (.func gf) fs.toArray cs.toArray)) (x:∀args w,(callFunc gf args).run P w=.ok (.enter gf args) w)
  (t:∀Dk l r w,r.params=ps->r.assign=assign->r.body=body->r.state=.ready->r.pending=none->EnvR n E [] ⟨r.tmps,[]⟩->Mem Φ (.blk l (.loop r)::.blk Dk (.deferred (some []))::K) w ->
   Calls P gf (fs++[Value.func (.yield l) #[] #[]]++cs).toArray w (fun e w'=>(∃v y,e=.returned v/\G y/\Mem (F1 y) (.blk l (.loop r)::.blk Dk (.deferred (some []))::KO y) w')∨(∃c z,e=.panicked c/\B z c/\Mem Φ (.blk Dk (.deferred (some []))::KE z) w')))
  (kn:∀Dk y a w,G y->EnvR n E ({ target:=.collected Dk,args:=#[] }::Dd) a->Mem (F1 y) (.blk Dk (.deferred (some []))::KO y) w->Q .normal a w)
  (kp:∀Dk z c a w,B z c->EnvR n E ({ target:=.collected Dk,args:=#[] }::Dd) a->Mem Φ (.blk Dk (.deferred (some []))::KE z) w->Q (.panic c) a w):(Code.rangeFunc g ps assign body).wp P Q a w:=by
 refine (wpIn_wide (n:=3)).1 (wpIn_rangeFunc fun fn _=>?_);generalize j:((w.alloc (.deferred (some []))).alloc (.loop { state:=.ready,pending:=none,fn,tmps:=a.tmps,params:=ps,assign,body,defers:=w.heap.size }))=f
 have o:Mem Φ (.blk (w.heap.size+1) (.loop { state:=.ready,pending:=none,fn,tmps:=a.tmps,params:=ps,assign,body,defers:=w.heap.size })::.blk w.heap.size (.deferred (some []))::K) f:=by
  have m:=N.push (.deferred (some []));have k:=m.push (.loop { state:=.ready,pending:=none,fn,tmps:=a.tmps,params:=ps,assign,body,defers:=w.heap.size });have q:({ w with heap:=w.heap.push (.deferred (some [])) }:World).heap.size=w.heap.size+1:=Array.size_push _;rw [q] at k;rw [<- j];exact k
 have p:EnvR n E ({ target:=.collected w.heap.size,args:=#[] }::Dd) { a with defers:=[{ target:=.collected w.heap.size,args:=#[] }]++a.defers }:=⟨J.size,J.env,by simp [J.defs]⟩;have d:=t w.heap.size (w.heap.size+1) { state:=.ready,pending:=none,fn,tmps:=a.tmps,params:=ps,assign,body,defers:=w.heap.size } f rfl rfl rfl rfl rfl ⟨J.size,J.env,rfl⟩ o;refine ⟨w.heap.size+1,[{ target:=.collected w.heap.size,args:=#[] }],f,{ target:=.fn (.func gf) cs.toArray,args:=(fs++[Value.func (.yield (w.heap.size+1)) #[] #[]]).toArray },f,gf,(fs++[Value.func (.yield (w.heap.size+1)) #[] #[]]++cs).toArray,f,?_,?_,fun f' _=>trivial,?_,fun u=>(by cases u),?_⟩
 ·rw [show Fence.wide.round=none from rfl,run_enterLoop_outer,j]
 ·have m:=J.ev A
  have k:a.eval (.const (.func (.yield (w.heap.size+1)) #[] #[]))=.func (.yield (w.heap.size+1)) #[] #[]:=rfl;simp only [resolve,Sem.run_bind,m,k,List.map_toArray,List.map_cons,List.map_nil]
  simp [Deferred.ofValue]
 ·have:=x (fs++[Value.func (.yield (w.heap.size+1)) #[] #[]]++cs).toArray f
  simp only [invoke]
  simpa using this
 ·refine callsIn_wide.2 (d.mono fun e C h=>?_)
  rcases h with ⟨v,y,rfl,hG,b⟩ | ⟨c,z,rfl,s,b⟩
  ·have hl:C.heap[w.heap.size+1]? = _:=b.own _ msQ
   refine ⟨_,_,run_endLoop hl (by intro h;cases h),?_⟩;exact kn _ y _ _ hG p (b.putObj (i:=0) rfl).tail
  ·exact kp _ z c _ _ s p b
def mL (P:Program) (fn:Func) (tmps:Array Value) (R:Ending->World->Prop) (ds:List Deferred) (u:FrameMode) (w:World):Prop :=
 ∀(fr:Frame) (cs:List Frame),fr.mode=u->fr.defers=ds->fr.tmps=tmps->P.funcs[fr.fn]? = some fn->fr.kind=.normal ->
  ∃e w' fr',R e w'/\Comes P (lone fr cs w) (lone fr' cs w') e/\fr'.fn=fr.fn/\fr'.leaving P w' e
theorem z0v {fn:Func} {tmps:Array Value} {R:Ending->World->Prop} {ds:List Deferred} {u:FrameMode} (h:Leaves P fn tmps R ds u w):mL P fn tmps R ds u w :=
 fun fr cs a b c d e=>leaves_steps ds u w fr cs a b c d e h
theorem oN {fn:Func} {tmps:Array Value} {R:Ending->World->Prop} {Dk:Nat} {ds:List Deferred} {u:FrameMode} (k:u≠.run) (l:w.heap[Dk]? = some (.deferred (some [])))
  (h:mL P fn tmps R ds u (w.putObj Dk (.deferred none))):mL P fn tmps R ({ target:=.collected Dk,args:=#[] }::ds) u w:=by
 intro fr cs b c d f g;have O:=step_collected (P:=P) (cs:=cs) (b▸k) c rfl (run_takeDeferred l);obtain ⟨e,w',fr',i,j,a,hl⟩:=h { fr with defers:=[]++ds } cs b rfl d f g;exact ⟨e,w',fr',i,Comes.of_steps (.one O) j,a,hl⟩
def xU (P:Program) (fn:Func) (R:Ending->World->Prop):Exit->Act->World->Prop
 | .normal,a,w | .ret,a,w=>mL P fn a.tmps R a.defers .returning w
 | .panic chain,a,w=>mL P fn a.tmps R a.defers (.panicking chain) w
 | .outgrown,_,w=>R .outgrown w
 | _,_,_=>False
theorem y3r {f:FuncId} {fn:Func} {c:Code} {args:Array Value} {w:World} {R:Ending->World->Prop}
  (i:P.funcs[f]? = some fn) (hb:fn.body=some c)
  (h:c.wp P (xU P fn R) { tmps:=args++Array.replicate (fn.ntmps - args.size) undef,defers:=[] } w):Calls P f args w R:=by
 intro cs
 let b:Frame:={ (default:Frame) with fn:=f,kind:=.normal }
 have henter:Frame.enter P f args .normal =
   b.at { tmps:=args++Array.replicate (fn.ntmps - args.size) undef,defers:=[] } [.code c]:=by
  simp [Frame.enter,Frame.at,i,hb,b]
 obtain ⟨e,a',w',hq,a⟩:=h b [] cs;rw [<- henter] at a;cases e with
 | normal=>
  obtain ⟨e',w'',fr',g,O,d,hl⟩:=hq { b.at a' [] with mode:=.returning } cs rfl rfl rfl i rfl;exact ⟨e',w'',fr',g,Comes.of_steps (Steps.trans a (.one step_end)) O,d,hl⟩
 | ret=>
  obtain ⟨todo,hs₀⟩:=a;obtain ⟨e',w'',fr',g,O,d,hl⟩:=hq { b.at a' todo with mode:=.returning } cs rfl rfl rfl i rfl;exact ⟨e',w'',fr',g,Comes.of_steps hs₀ O,d,hl⟩
 | panic chain=>
  obtain ⟨todo,hs₀⟩:=a;obtain ⟨e',w'',fr',g,O,d,hl⟩:=hq { b.at a' todo with mode:=.panicking chain } cs rfl rfl rfl i rfl;exact ⟨e',w'',fr',g,Comes.of_steps hs₀ O,d,hl⟩
 | exit id=>exact hq.elim
 | goto l=>exact hq.elim
 | outgrown=>exact ⟨.outgrown,w',b,hq,a.resolve_left (by simp [b]),rfl,trivial⟩
theorem sX {n:Nat} {f:FuncId} {fn:Func} {c:Code} {vs:List Value} {R:Ending->World->Prop} (g:P.funcs[f]? = some fn) (hb:fn.body=some c) (i:fn.ntmps=n) (hl:Nat.ble vs.length n=true)
  (k:∀Q:Exit->Act->World->Prop,(∀e a w,xU P fn R e a w->Q e a w)->∀a,EnvR n (aT 0 vs) [] a->c.wp P Q a w):Calls P f vs.toArray w R:=by
 have hl':vs.length<=n:=by simpa using hl
 refine y3r g hb (k _ (fun _ _ _ h=>h) _ ⟨by simp [i];omega,fun t v j=>?_,rfl⟩);obtain ⟨_,b⟩:=nR vs 0 t v j;simp only [Nat.sub_zero] at b;have d:t < vs.length:=(List.getElem?_eq_some_iff.1 b).1;simp only [List.getElem?_toArray,Array.getElem?_append,List.size_toArray,d,↓reduceIte];exact b
end
theorem yN {P:Program} {n:Nat} {E:List (Nat×Value)} {a:Act} {w:World} {fn:Func} {R:Ending->World->Prop} (J:EnvR n E [] a) (b:fn.results=#[]) (h:R (.returned (.tuple #[])) w):bodyPost P fn R .normal a w :=
 ⟨J.defs,.tuple #[],by simp [results,b],h⟩
section
variable {P:Program} {n:Nat} {E:List (Nat×Value)} {D:List Deferred} {a:Act} {w:World} {ops:Array Oper} {rest:List Oper} {Q:Exit->Act->World->Prop} {ty:TypeId} {pos:String} {aft:Array Edge}
theorem tT {y:Operand} {fv:Fn} {fs cs vs:List Value} {xs:Array Operand} {ts:Array TypeId} (J:EnvR n E D a) (d:ev E y=some (.func fv fs.toArray cs.toArray)) (c:evs E xs.toList=some vs)
  (k:∀a,EnvR n E ({ target:=.fn fv cs.toArray,args:=(fs++vs).toArray }::D) a->wpList P ops Q rest a w) :
  wpList P ops Q (⟨none,.defer { callee:=.value y,args:=xs,argTypes:=ts },ty,pos,aft,none⟩::rest) a w:=by
 refine wpList_plain rfl fun L b=>?_;unfold Oper.wp;simp only [execOp,resolve,J.evsA c,J.ev d,Deferred.ofValue];refine b _ _ (k _ ⟨J.size,J.env,?_⟩)
 simp [Act.put,J.defs]
end
section
variable {P:Program} {n:Nat} {E:List (Nat×Value)} {D:List Deferred} {a:Act} {w:World} {ty:TypeId}
theorem y3l {x:Operand} {t t0:TypeId} {d:TypeDesc} {v:Value} (J:EnvR n E D a) (e:ev E x=some (.iface t v)) (c:Under P t d) (b:∀ms,d≠.interface ms) :
  Ok P a (.typeAssert x t0 t true) ty w (.tuple #[v,.bool true]):=fun _ _ _ _=>by
 simp only [execOp,J.ev e,Instr.typeAssert];simp only [Sem.run_bind,c _,Result.andThen,if_true];cases d <;> first | (exact absurd rfl (b _)) | simp [Sem.run_bind,Result.andThen]
end
section
variable {P:Program} {n:Nat} {E:List (Nat×Value)} {D:List Deferred} {a:Act} {w:World} {d:Nat} {ops:Array Oper} {rest:List Oper} {Q:Exit->Act->World->Prop}
theorem stP {o:Oper} (J:EnvR n E D a) (g:o.dst=some d) (b:Nat.blt d n=true) (i:o.guard=none)
  (h:Oper.eff P o a w (fun v w'=>∀a,EnvR n ((d,v)::E) D a->wpList P ops Q rest a w') (fun c w'=>∀a,EnvR n E D a->Q (.panic c) a w')):wpList P ops Q (o::rest) a w:=by
 refine wpList_plain i fun L e=>hY (xE h (fun v w' j=>e _ _ ?_) (fun c w' f=>f _ J));rw [g];exact j _ (J.put b)
end
theorem y9o {P:Program} {fn:Func} {n:Nat} {E:List (Nat×Value)} {D:List Deferred} {a:Act} {Φ:Fz} {K:List Res} {w:World} {t T b i:Nat} {cs:List Value} {T0:TypeId} {v:Value} (J:EnvR n E D a) (N:Sees Φ K w) (g:fn.results=#[.cell t T]) (h:get E t=some (.pointer (some ⟨b,0,none⟩)))
  (f:yU K i=some (.blk b (ob cs T0))) (e:nth cs 0=some v) (d:Scalar P T):(results fn a.tmps).run P w=.ok v w:=by
 have c:=N.cell f 0;rw [e] at c
 simp [results,g,Array.getD_eq_getD_getElem?,J.env t _ h,asAddr,loadVar,Sem.run_bind,d w,Result.andThen,load,Sem.run,c]
section
variable {P:Program} {n:Nat} {E:List (Nat×Value)} {D:List Deferred} {a:Act} {Φ:Fz} {K:List Res} {w:World}
theorem q1a {t T b k i:Nat} {cs:List Value} {T0:TypeId} (J:EnvR n E D a) (N:Sees Φ K w) (m:get E t=some (.pointer (some ⟨b,0,none⟩)))
  (l:yU K i=some (.blk b (ob cs T0))) (f:AggT P T) (e:SizeT P T k) (hl:cs.length=k):(loadVar T ⟨b,0,none⟩).run P w=.ok (.agg cs.toArray) w:=by
 have g:∀j v,cs[j]? = some v->w.cell? ((⟨b,0,none⟩:Addr).add j)=some v:=fun j v h=>by
  have c:=N.cell l j;rw [tJ,h] at c;unfold Addr.add;split
  ·subst_vars;exact c
  ·simpa using c
 have d:=run_loadCells_list (P:=P) (w:=w) ⟨b,0,none⟩ cs g;rw [hl] at d
 simp [loadVar,Sem.run_bind,f w,e w,d,Result.andThen]
end
section
variable {P:Program} {n:Nat} {E:List (Nat×Value)} {D:List Deferred} {a:Act} {Φ Ψ:Fz} {K:List Res} {w:World}
theorem Mem.freezeMap {b i:Nat} {m:List (Bs×Value)} (N:Mem Φ K w) (c:yU K i=some (.mp b m)):∃Ψ,Φ.Le Ψ/\Mem Ψ (cZ K i) w/\MapAt Ψ b m:=by
 have h:=N.pull c;obtain ⟨es,clock,d,a⟩:=N.own _ (yR c);exact ⟨_,Fz.le_add (h.no rfl) _,h.freezeHead (b:=b) rfl d,es,clock,by simp [Fz.add],a⟩
theorem q4i {fn:Func} {t u x T U k i j b c:Nat} {v y:Value} {cs:List Value} {T0 g:TypeId} (J:EnvR n E D a) (N:Sees Φ K w) (r:fn.results=#[.tmp x,.cell t T,.cell u U]) (z:get E x=some y) (s:get E t=some (.pointer (some ⟨b,0,none⟩)))
  (q:yU K i=some (.blk b (ob [v] T0))) (p:Scalar P T) (f:get E u=some (.pointer (some ⟨c,0,none⟩))) (e:yU K j=some (.blk c (ob cs g))) (d:AggT P U) (o:SizeT P U k) (hl:cs.length=k) :
  (results fn a.tmps).run P w=.ok (.tuple #[y,v,.agg cs.toArray]) w:=by
 have h:w.cell? ⟨b,0,none⟩=some v:=N.cell q 0;have l:=q1a (P:=P) J N f e d o hl;have m:(loadVar T ⟨b,0,none⟩).run P w=.ok v w:=by simp [loadVar,Sem.run_bind,p w,Result.andThen,load,Sem.run,h]
 simp [results,r,Array.getD_eq_getD_getElem?,J.env t _ s,J.env u _ f,J.env x _ z,asAddr,l,m,Sem.run_bind,Result.andThen]
end
theorem j5m {P:Program} {n:Nat} {E:List (Nat×Value)} {D:List Deferred} {a:Act} {w:World} {Kn:Value->World->Prop} {Qp:List PanicEntry->World->Prop} {dst:Option Tmp} {ty:TypeId} {pos:String} {aft:Array Edge} {g:Option (Nat×Bool)}
  {α β ε δ:Type} {f:FuncId} {xs:Array Operand} {ts:Array TypeId} {vs:List Value} {r:Except ε α} {X:α->β->Value} {Z:ε->δ->Value} {d i:Fz} {KO:α->β->List Res} {KE:ε->δ->List Res}
  (J:EnvR n E D a) (o:evs E xs.toList=some vs) (m:∀args w,(callFunc f args).run P w=.ok (.enter f args) w)
  (l:Calls P f vs.toArray w (fun e w'=>Out r (fun x=>∃y,e=.returned (X x y)/\Mem d (KO x y) w') (fun c=>∃y,e=.returned (Z c y)/\Mem i (KE c y) w')))
  (k:∀x y w',r=.ok x->Mem d (KO x y) w'->Kn (X x y) w') (kp:∀c y w',r=.error c->Mem i (KE c y) w'->Kn (Z c y) w') :
  Oper.eff P ⟨dst,.call { callee:=.value (.func f),args:=xs,argTypes:=ts },ty,pos,aft,g⟩ a w Kn Qp:=by
 refine mQ J o m l (fun v w' h=>?_) (fun c w' h=>?_) (fun w' h=>?_)
 ·cases r with
  | ok x=>obtain ⟨y,b,j⟩:=h;cases b;exact k _ _ _ rfl j
  | error c=>obtain ⟨y,b,j⟩:=h;cases b;exact kp _ _ _ rfl j
 ·cases r with
  | ok x=>obtain ⟨y,b,_⟩:=h;cases b
  | error c=>obtain ⟨y,b,_⟩:=h;cases b
 ·cases r with
  | ok x=>obtain ⟨y,b,_⟩:=h;cases b
  | error c=>obtain ⟨y,b,_⟩:=h;cases b
end Go.Sw

namespace Go.Sw
open Go.Proofs.Tryz
open Go.Proofs
set_option maxRecDepth 20000
set_option maxHeartbeats 4000000
variable {Φ:Fz} {K:List Res} {w:World}
theorem j5g {n:Int}  (b:I64 n) (G:Glob Φ) (N:Mem Φ K w) :
  Calls prog 226 #[.int .i64 n] w (fun ee w'=>ee=.returned (.string (z2f n))/\Mem Φ K w'):=by
 refine zJ func226 ntmps226 fun Q hQ a J=>?_;refine zE call192 (fun w N a J=>?_) (c:=j1y b G.tabs N);refine zE call225 (fun w N a J=>?_) (c:=y2c (by have h_:=z0u b;omega) (by decide) rfl G N);refine yG ?_;exact ret_s N (by rfl)
theorem y0n {s:Bs} (O:s.size<=900000) (G:Glob Φ) (N:Mem Φ K w) :
  Calls prog 220 #[.string s] w (fun ee w'=>ee=.returned (.tuple #[.int .i64 (y9d s),.int .i64 (y0m s)])/\Mem Φ K w'):=by
 refine zJ func220 ntmps220 fun Q hQ a J=>?_;refine zE call225 (fun w N a J=>?_) (c:=y2c (by omega) (by decide) rfl G N);refine st J rfl rfl rfl (j5n J rfl call224 (atoi_ok (by have h_:=q9d s ⟨#[126]⟩ ⟨#[45]⟩;have b:(⟨#[45]⟩:Bs).size=1:=rfl;omega) G N) (fun g w e N a J=>?_) (fun g h w e N a J=>?_));replace N:=N.nf;refine Qq (fun a J=>?_) (o:=by exact fun J O=>jB (v:=.bool false) J rfl rfl rfl (by kernel_rfl));refine zE call226 (fun w N a J=>?_) (c:=j5g (j8r e) G N);by_cases f:(z2f g)=s;refine z4g ?_;obtain ⟨d,b⟩:=num_ok e f;rw [d,b];exact ⟨rfl,N⟩;refine z4g ?_;obtain ⟨d,b⟩:=num_no e f;rw [d,b];exact ⟨rfl,N⟩;replace N:=N.nf;refine Qq (fun a J=>?_) (o:=by exact fun J O=>jB (v:=.bool true) J rfl rfl rfl (by kernel_rfl));refine z4g ?_;obtain ⟨d,b⟩:=num_err e;rw [d,b];exact ⟨rfl,N⟩
theorem y6f {t:Bs} {pos b:Nat} {rest:List Value} {T0:TypeId} (G:Glob Φ) (A:pos<=t.size) (C:t.size<=800000) (N:Mem Φ (.blk b (ob (.string t::.int .i64 pos::rest) T0)::K) w) :
  Calls prog 205 #[.pointer (some ⟨b,0,none⟩)] w (fun ee w'=>Out (tK t pos) (fun q=>ee=.returned (y2t q)/\Mem Φ (.blk b (ob (.string t::.int .i64 pos::rest) T0)::K) w') (fun c=>ee=.panicked (gD c)/\Mem Φ K w')):=by
 refine zJ func205 ntmps205 fun Q hQ a J=>?_;refine Alc fun B w N a J=>?_;replace N:=N.pl 1;refine zE call203 (fun w N a J=>?_) (c:=q4a (by omega) N);by_cases D:yW t pos=126;have z:=uC (t:=t) (i:=pos) (by omega);refine zE call199 (fun w N a J=>?_) (c:=y9s (p:=yT) (pos:=pos) (k:=1) (fs:=[]) (cs:=[]) call204 (fun c N=>cP N) (by omega) (by omega) N);have z:=uC (t:=t) (i:=pos) (by omega);have hr_:=wC yT t t.size (pos+1) (by omega);have f:vD t pos+xV t pos=(1+(qH yT t t.size (pos+1))):=by simp [vD,xV, *]
 refine Qq (fun a J=>?_) (o:=by exact fun J O=>xJ (i:=1) (j:=(qH yT t t.size (pos+1))) J rfl rfl (by omega));refine zE call203 (fun w N a J=>?_) (c:=z3j (k:=(1+(qH yT t t.size (pos+1)))) (by omega) N);refine Reg [1,1,1,1,2,1,1,1,1,2,1,1,1,1,2,1,1,1,1,1,1] [0,1] fun w N a J=>?_;refine Qq (fun a J=>?_) (o:=by exact fun J O=>xJ (i:=(pos+1)) (j:=(qH yT t t.size (pos+1))) J rfl rfl (by omega));refine Qq (fun a J=>?_) (o:=by exact fun J O=>aI pos (((pos+1)+(qH yT t t.size (pos+1)))) J rfl runUnderlying9 ⟨_,rfl⟩ ⟨_,rfl⟩ (by omega) (by omega));have d:(t.extract pos ((pos+1)+(qH yT t t.size (pos+1))))=pJ t pos:=by unfold pJ;rw [f];simp only [Nat.add_assoc]
 refine zE call220 (fun w N a J=>?_) (c:=y0n (s:=(t.extract pos ((pos+1)+(qH yT t t.size (pos+1))))) (by have h_:=ByteArray.size_extract (a:=t) (b:=pos) (e:=(pos+1)+(qH yT t t.size (pos+1)));omega) G N);by_cases n:y0m (t.extract pos ((pos+1)+(qH yT t t.size (pos+1))))=0;refine nQ call210 (fun g w N a J=>?_) (fun g w N a J=>?_) (c:=q2j (wT _ _) N);refine yE fun a J=>?_;refine Qq (fun a J=>?_) (o:=by exact fun J O=>yL J rfl runUnderlying180 (by intro ms h;cases h));refine st0 J rfl rfl (xG J rfl (xH _) (fun a m=>hQ _ _ _ (zT m ?_)));replace N:=N.dl [1,0];show Out (tK t pos) _ _;rw [aX,f,<- d,if_pos n,if_pos (.inl g)];exact ⟨rfl,N⟩;by_cases x:yW t (pos+(1+(qH yT t t.size (pos+1))))=39;refine yE fun a J=>?_;refine Qq (fun a J=>?_) (o:=by exact fun J O=>yL J rfl runUnderlying180 (by intro ms h;cases h));refine st0 J rfl rfl (xG J rfl (xH _) (fun a m=>hQ _ _ _ (zT m ?_)));replace N:=N.dl [1,0];show Out (tK t pos) _ _;rw [aX,f,<- d,if_pos n,if_pos (.inr x)];exact ⟨rfl,N⟩;refine yE fun a J=>?_;refine Sto 1 fun w N a J=>?_;refine go fun a J=>?_;have v:=N;replace N:=N.dl [1];refine kN (N:=v) ?_;show Out (tK t pos) _ _;rw [aX,f,<- d,if_pos n,if_neg (fun u=>u.elim (fun h_=>absurd (h_.symm.trans g) (by decide)) x)];exact ⟨rfl,N⟩;refine yE fun a J=>?_;refine Qq (fun a J=>?_) (o:=by exact fun J O=>yL J rfl runUnderlying180 (by intro ms h;cases h));refine st0 J rfl rfl (xG J rfl (xH _) (fun a m=>hQ _ _ _ (zT m ?_)));replace N:=N.dl [1,0];show Out (tK t pos) _ _
 rw [aX,f,<- d,if_neg n];exact ⟨rfl,N⟩;refine zE call199 (fun w N a J=>?_) (c:=y9r (p:=yT) (pos:=pos) (fs:=[]) (cs:=[]) call204 (fun c N=>cP N) (by omega) (by omega) N);have hr_:=wC yT t t.size pos A;have f:vD t pos+xV t pos=(0+(qH yT t t.size pos)):=by simp [vD,xV, *]
 refine Qq (fun a J=>?_) (o:=by exact fun J O=>xJ (i:=0) (j:=(qH yT t t.size pos)) J rfl rfl (by omega));refine zE call203 (fun w N a J=>?_) (c:=z3j (k:=(0+(qH yT t t.size pos))) (by omega) N);refine Reg [1,1,1,1,2,1,1,1,1,2,1,1,1,1,2,1,1,1,1,1,1] [0,1] fun w N a J=>?_;refine Qq (fun a J=>?_) (o:=by exact fun J O=>xJ (i:=pos) (j:=0) J rfl rfl (by omega));refine Qq (fun a J=>?_) (o:=by exact fun J O=>xJ (i:=(pos+0)) (j:=(qH yT t t.size pos)) J rfl rfl (by omega));refine Qq (fun a J=>?_) (o:=by exact fun J O=>aI pos (((pos+0)+(qH yT t t.size pos))) J rfl runUnderlying9 ⟨_,rfl⟩ ⟨_,rfl⟩ (by omega) (by omega));have d:(t.extract pos ((pos+0)+(qH yT t t.size pos)))=pJ t pos:=by unfold pJ;rw [f];simp only [Nat.add_assoc]
 refine zE call220 (fun w N a J=>?_) (c:=y0n (s:=(t.extract pos ((pos+0)+(qH yT t t.size pos)))) (by have h_:=ByteArray.size_extract (a:=t) (b:=pos) (e:=(pos+0)+(qH yT t t.size pos));omega) G N);by_cases r:y0m (t.extract pos ((pos+0)+(qH yT t t.size pos)))=0;refine nQ call210 (fun l w N a J=>?_) (fun l w N a J=>?_) (c:=q2j (wT _ _) N);refine yE fun a J=>?_;refine Qq (fun a J=>?_) (o:=by exact fun J O=>yL J rfl runUnderlying180 (by intro ms h;cases h));refine st0 J rfl rfl (xG J rfl (xH _) (fun a m=>hQ _ _ _ (zT m ?_)));replace N:=N.dl [1,0];show Out (tK t pos) _ _;rw [aX,f,<- d,if_pos r,if_pos (.inl l)];exact ⟨rfl,N⟩;by_cases y:yW t (pos+(0+(qH yT t t.size pos)))=39;refine yE fun a J=>?_;refine Qq (fun a J=>?_) (o:=by exact fun J O=>yL J rfl runUnderlying180 (by intro ms h;cases h));refine st0 J rfl rfl (xG J rfl (xH _) (fun a m=>hQ _ _ _ (zT m ?_)));replace N:=N.dl [1,0];show Out (tK t pos) _ _;rw [aX,f,<- d,if_pos r,if_pos (.inr y)];exact ⟨rfl,N⟩;refine yE fun a J=>?_;refine Sto 1 fun w N a J=>?_;refine go fun a J=>?_;have v:=N;replace N:=N.dl [1];refine kN (N:=v) ?_;show Out (tK t pos) _ _;rw [aX,f,<- d,if_pos r,if_neg (fun u=>u.elim (fun h_=>absurd (h_.symm.trans l) (by decide)) y)];exact ⟨rfl,N⟩;refine yE fun a J=>?_;refine Qq (fun a J=>?_) (o:=by exact fun J O=>yL J rfl runUnderlying180 (by intro ms h;cases h));refine st0 J rfl rfl (xG J rfl (xH _) (fun a m=>hQ _ _ _ (zT m ?_)));replace N:=N.dl [1,0];show Out (tK t pos) _ _;rw [aX,f,<- d,if_neg r];exact ⟨rfl,N⟩
end Go.Sw
