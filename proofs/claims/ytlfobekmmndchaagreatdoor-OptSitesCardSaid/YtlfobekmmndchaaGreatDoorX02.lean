import GoSem.Builtin.Delete
import Derived.Defers
import Derived.Lib.AtoiAll
import Derived.Lib.Replace
import Derived.Test.YtlfobekmmndchaaGreatDoorX01
set_option linter.unusedVariables false
set_option linter.unusedSimpArgs false
namespace Go.Sw
open Go.Proofs.Tryz
open Go.Proofs
set_option maxRecDepth 20000
class ScT (t:TypeId):Prop where h:Scalar prog t
class AgT (t:TypeId):Prop where h:AggT prog t
class SzT (t:TypeId) (k:outParam Nat):Prop where h:SizeT prog t k
class SlT (t:TypeId) (e:outParam TypeId):Prop where h:Under prog t (.slice e)
class StT (t:TypeId):Prop where h:Under prog t .string
class FoT (s:TypeId) (f:Nat) (o:outParam Nat):Prop where h:zG prog s f o
instance:ScT 3:=⟨isAgg3⟩
instance:ScT 9:=⟨isAgg9⟩
instance:ScT 23:=⟨isAgg23⟩
instance:ScT 28:=⟨isAgg28⟩
instance:ScT 207:=⟨isAgg207⟩
instance:AgT 209:=⟨isAgg209⟩
instance:ScT 34:=⟨isAgg34⟩
instance:ScT 113:=⟨isAgg113⟩
instance:ScT 285:=⟨isAgg285⟩
instance:ScT 257:=⟨isAgg257⟩
instance:ScT 178:=⟨isAgg178⟩
instance:AgT 204:=⟨isAgg204⟩
instance:ScT 98:=⟨isAgg98⟩
instance:ScT 233:=⟨isAgg233⟩
instance:SzT 3 1:=⟨sizeOf3⟩
instance:SzT 5 1:=⟨sizeOf5⟩
instance:SzT 9 1:=⟨sizeOf9⟩
instance:SzT 23 1:=⟨sizeOf23⟩
instance:SzT 28 1:=⟨sizeOf28⟩
instance:SzT 207 1:=⟨sizeOf207⟩
instance:SzT 209 3:=⟨sizeOf209⟩
instance:SzT 34 1:=⟨sizeOf34⟩
instance:SzT 113 1:=⟨sizeOf113⟩
instance:SzT 285 1:=⟨sizeOf285⟩
instance:SzT 257 1:=⟨sizeOf257⟩
instance:SzT 180 2:=⟨sizeOf180⟩
instance:SzT 204 4:=⟨sizeOf204⟩
instance:SzT 232 2:=⟨sizeOf232⟩
instance:SzT 98 1:=⟨sizeOf98⟩
instance:SzT 233 1:=⟨sizeOf233⟩
instance:SzT 260 2:=⟨sizeOf260⟩
instance:FoT 209 0 0:=⟨j8t⟩
instance:FoT 209 1 1:=⟨j8u⟩
instance:FoT 209 2 2:=⟨j8v⟩
instance:FoT 287 0 0:=⟨j9b⟩
instance:FoT 287 1 1:=⟨j9c⟩
instance:FoT 180 1 1:=⟨j8j⟩
instance:FoT 204 0 0:=⟨j8p⟩
instance:FoT 204 2 2:=⟨j8r⟩
instance:FoT 232 0 0:=⟨j8w⟩
instance:FoT 232 1 1:=⟨j8x⟩
instance:FoT 235 0 0:=⟨j8y⟩
instance:FoT 235 1 2:=⟨j8z⟩
instance:FoT 235 2 3:=⟨j9a⟩
instance:StT 9:=⟨runUnderlying9⟩
instance:SlT 23 9:=⟨runUnderlying23⟩
instance:SlT 207 209:=⟨runUnderlying207⟩
instance:SlT 34 3:=⟨runUnderlying34⟩
instance:SlT 257 5:=⟨runUnderlying257⟩
instance:SlT 130 204:=⟨runUnderlying130⟩
instance:SlT 233 260:=⟨runUnderlying233⟩
section
variable {P:Program} {n:Nat} {E:List (Nat×Value)} {D:List Deferred} {a:Act} {w:World} {ty:TypeId} {Φ:Fz} {K:List Res}
structure OkS (a:Act) (op:Op) (ty:TypeId) (w:World) (v:Value):Prop where
 h:Ok prog a op ty w v
theorem s_move {x:Operand} {v:Value} (J:EnvR n E D a) (b:ev E x=some v):OkS a (.move x) ty w v:=⟨yX J b⟩
theorem x1w {x:Operand} {v:Value} (J:EnvR n E D a) (b:ev E x=some v):OkS a (.assign x) ty w v:=⟨qW J b⟩
theorem s_pick {c x y:Operand} {v:Value} {b:Bool} (J:EnvR n E D a) (d:ev E c=some (.bool b)) (e:ev E (if b then x else y)=some v):OkS a (.pick c x y) ty w v:=⟨z4p J d e⟩
theorem j5b {x:Operand} {i:Nat} {vs:List Value} {v:Value} (J:EnvR n E D a) (b:ev E x=some (.tuple vs.toArray)) (hi:vs[i]? = some v):OkS a (.extract x i) ty w v:=⟨xJ J b hi⟩
theorem s_not {x:Operand} {t:TypeId} {b:Bool} (J:EnvR n E D a) (c:ev E x=some (.bool b)):OkS a (.unOp .not t x) ty w (.bool (!b)):=⟨z5v J c⟩
theorem q7l {x:Operand} {p:Addr} (J:EnvR n E D a) (b:ev E x=some (.pointer (some p))):OkS a (.nilCheck x) ty w (.pointer (some p)):=⟨z1f J b⟩
structure FaV (s f:Nat) (u v:Value):Prop where
 h:∀{n:Nat} {E:List (Nat×Value)} {D:List Deferred} {a:Act} {x:Operand} {ty:TypeId} {w:World},EnvR n E D a->ev E x=some u->Ok prog a (.fieldAddr s x f) ty w v
theorem s_fav {x:Operand} {s f:Nat} {u v:Value} (J:EnvR n E D a) (b:ev E x=some u) (h:FaV s f u v):OkS a (.fieldAddr s x f) ty w v:=⟨h.h J b⟩
theorem f_own {s f off b o z:Nat} [FoT s f off] (c:o+off=z):FaV s f (.pointer (some ⟨b,o,none⟩)) (.pointer (some ⟨b,z,none⟩)):=⟨fun J a=>qK J a FoT.h c⟩
theorem f_at {s f off j z:Nat} {p:Addr} {cs:List Value} [FoT s f off] (a:At Φ p cs) (c:j+off=z):FaV s f (.pointer (some (p.add j))) (.pointer (some (p.add z))):=⟨fun J b=>y1m J b a FoT.h c⟩
theorem f_p {s f off:Nat} {p:Addr} [FoT s f off]:FaV s f (.pointer (some p)) (.pointer (some (p.add off))):=⟨fun J a=>aB J a FoT.h⟩
structure LdV (T:TypeId) (w:World) (u v:Value):Prop where
 h:∀{n:Nat} {E:List (Nat×Value)} {D:List Deferred} {a:Act} {x:Operand} {ty:TypeId},EnvR n E D a->ev E x=some u->Ok prog a (.load T x) ty w v
theorem s_ldv {x:Operand} {T:TypeId} {u v:Value} (J:EnvR n E D a) (b:ev E x=some u) (h:LdV T w u v):OkS a (.load T x) ty w v:=⟨h.h J b⟩
theorem o_own {T:TypeId} {b off:Nat} {v:Value} (h:LdV T w (.pointer (some ⟨b,off,none⟩)) v):LdV T w (.pointer (some ⟨b,off,none⟩)) v:=h
theorem o_sc {T:TypeId} {u v:Value} [ScT T] (h:LdV T w u v):LdV T w u v:=h
theorem o_ag {T:TypeId} {u v:Value} [AgT T] (h:LdV T w u v):LdV T w u v:=h
theorem z3d (i:Nat) {T:TypeId} {b off:Nat} {cs:List Value} {t:TypeId} {v:Value} [ScT T] (N:Sees Φ K w) (a:yV K i=some (.blk b (ob cs t))) (c:nth cs off=some v):LdV T w (.pointer (some ⟨b,off,none⟩)) v:=⟨fun J d=>yH i J N d a c ScT.h⟩
theorem oM (i:Nat) {T:TypeId} {b off k:Nat} {cs vs:List Value} {t:TypeId} [AgT T] [SzT T k] (N:Sees Φ K w) (a:yV K i=some (.blk b (ob cs t))) (c:uP (uN cs off) k=vs) (hl:vs.length=k):LdV T w (.pointer (some ⟨b,off,none⟩)) (.agg vs.toArray):=⟨fun J d=>qA i J N d a AgT.h SzT.h c hl⟩
theorem v_at {T:TypeId} {p:Addr} {cs:List Value} {v:Value} {j:Nat} [ScT T] (N:Sees Φ K w) (a:At Φ p cs) (b:nth cs j=some v):LdV T w (.pointer (some (p.add j))) v:=⟨fun J c=>uE j J N c a b ScT.h⟩
theorem v_at0 {T:TypeId} {p:Addr} {cs:List Value} {v:Value} [ScT T] (N:Sees Φ K w) (a:At Φ p cs) (b:nth cs 0=some v):LdV T w (.pointer (some p)) v:=⟨fun J c=>pO J N c a b ScT.h⟩
theorem v_atA {T:TypeId} {p:Addr} {k:Nat} {cs:List Value} [AgT T] [SzT T k] (N:Sees Φ K w) (a:At Φ p cs) (hl:cs.length=k):LdV T w (.pointer (some p)) (.agg cs.toArray):=⟨fun J b=>tL J N b a AgT.h SzT.h hl⟩
theorem s_len {x:Operand} {t e:TypeId} {p:Option Addr} {len cap:Nat} [SlT t e] (J:EnvR n E D a) (b:ev E x=some (.slice p len cap)):OkS a (.call { callee:=.builtin .len,args:=#[x],argTypes:=#[t] }) ty w (.int .i64 (len:Int)):=⟨aC J b SlT.h⟩
theorem s_lens {x:Operand} {t:TypeId} {s:ByteArray} [StT t] (J:EnvR n E D a) (b:ev E x=some (.string s)):OkS a (.call { callee:=.builtin .len,args:=#[x],argTypes:=#[t] }) ty w (.int .i64 (s.size:Int)):=⟨j5n J b StT.h⟩
theorem s_index {x ix:Operand} {t e:TypeId} {kk:IntKind} {p:Addr} {len cap k i:Nat} [SlT t e] [SzT e k] (J:EnvR n E D a) (b:ev E x=some (.slice (some p) len cap)) (hi:ev E ix=some (.int kk (i:Int))) (hb:i < len):OkS a (.indexAddr t x ix) ty w (.pointer (some (p.add (i * k)))):=⟨xO i J b hi SlT.h SzT.h hb⟩
theorem s_inc {t t':TypeId} {x y:Operand} {i:Nat} (J:EnvR n E D a) (b:ev E x=some (.int .i64 (i:Int))) (c:ev E y=some (.int .i64 ((1:Nat):Int))) (d:i+1<=9223372036854775807):OkS a (.binOp .add t x y t') ty w (.int .i64 ((i+1:Nat):Int)):=⟨vH J b c d⟩
theorem s_func {fn:Fn} {fs cs:Array Operand} {vfs vcs:List Value} (J:EnvR n E D a) (c:evs E fs.toList=some vfs) (b:evs E cs.toList=some vcs):OkS a (.makeFunc fn fs cs) ty w (.func fn vfs.toArray vcs.toArray):=⟨z1e J c b⟩
section
variable {t t':TypeId} {x y:Operand} {k:IntKind}
theorem s_lssNt {i j:Nat} (J:EnvR n E D a) (b:ev E x=some (.int k ((i:Nat):Int))) (c:ev E y=some (.int k ((j:Nat):Int))) (h:i < j):OkS a (.binOp .lss t x y t') ty w (.bool true):=⟨oX true J b c (decide_eq_true (Int.ofNat_lt.2 h))⟩
theorem s_lssNf {i j:Nat} (J:EnvR n E D a) (c:ev E x=some (.int k ((i:Nat):Int))) (d:ev E y=some (.int k ((j:Nat):Int))) (h:¬i < j):OkS a (.binOp .lss t x y t') ty w (.bool false):=⟨oX false J c d (decide_eq_false (fun b=>h (Int.ofNat_lt.1 b)))⟩
theorem s_lssIt {i j:Int} (J:EnvR n E D a) (b:ev E x=some (.int k i)) (c:ev E y=some (.int k j)) (h:i < j):OkS a (.binOp .lss t x y t') ty w (.bool true):=⟨oX true J b c (decide_eq_true (h))⟩
theorem s_lssIf {i j:Int} (J:EnvR n E D a) (b:ev E x=some (.int k i)) (c:ev E y=some (.int k j)) (h:¬i < j):OkS a (.binOp .lss t x y t') ty w (.bool false):=⟨oX false J b c (decide_eq_false (h))⟩
theorem s_gtrNt {i j:Nat} (J:EnvR n E D a) (b:ev E x=some (.int k ((i:Nat):Int))) (c:ev E y=some (.int k ((j:Nat):Int))) (h:j < i):OkS a (.binOp .gtr t x y t') ty w (.bool true):=⟨y1n true J b c (decide_eq_true (Int.ofNat_lt.2 h))⟩
theorem s_gtrNf {i j:Nat} (J:EnvR n E D a) (c:ev E x=some (.int k ((i:Nat):Int))) (d:ev E y=some (.int k ((j:Nat):Int))) (h:¬j < i):OkS a (.binOp .gtr t x y t') ty w (.bool false):=⟨y1n false J c d (decide_eq_false (fun b=>h (Int.ofNat_lt.1 b)))⟩
theorem s_gtrIt {i j:Int} (J:EnvR n E D a) (b:ev E x=some (.int k i)) (c:ev E y=some (.int k j)) (h:j < i):OkS a (.binOp .gtr t x y t') ty w (.bool true):=⟨y1n true J b c (decide_eq_true (h))⟩
theorem s_gtrIf {i j:Int} (J:EnvR n E D a) (b:ev E x=some (.int k i)) (c:ev E y=some (.int k j)) (h:¬j < i):OkS a (.binOp .gtr t x y t') ty w (.bool false):=⟨y1n false J b c (decide_eq_false (h))⟩
theorem s_leqNt {i j:Nat} (J:EnvR n E D a) (b:ev E x=some (.int k ((i:Nat):Int))) (c:ev E y=some (.int k ((j:Nat):Int))) (h:i<=j):OkS a (.binOp .leq t x y t') ty w (.bool true):=⟨z5s true J b c (decide_eq_true (Int.ofNat_le.2 h))⟩
theorem s_leqNf {i j:Nat} (J:EnvR n E D a) (c:ev E x=some (.int k ((i:Nat):Int))) (d:ev E y=some (.int k ((j:Nat):Int))) (h:¬i<=j):OkS a (.binOp .leq t x y t') ty w (.bool false):=⟨z5s false J c d (decide_eq_false (fun b=>h (Int.ofNat_le.1 b)))⟩
theorem s_leqIt {i j:Int} (J:EnvR n E D a) (b:ev E x=some (.int k i)) (c:ev E y=some (.int k j)) (h:i<=j):OkS a (.binOp .leq t x y t') ty w (.bool true):=⟨z5s true J b c (decide_eq_true (h))⟩
theorem s_leqIf {i j:Int} (J:EnvR n E D a) (b:ev E x=some (.int k i)) (c:ev E y=some (.int k j)) (h:¬i<=j):OkS a (.binOp .leq t x y t') ty w (.bool false):=⟨z5s false J b c (decide_eq_false (h))⟩
theorem s_geqNt {i j:Nat} (J:EnvR n E D a) (b:ev E x=some (.int k ((i:Nat):Int))) (c:ev E y=some (.int k ((j:Nat):Int))) (h:j<=i):OkS a (.binOp .geq t x y t') ty w (.bool true):=⟨y5h true J b c (decide_eq_true (Int.ofNat_le.2 h))⟩
theorem s_geqNf {i j:Nat} (J:EnvR n E D a) (c:ev E x=some (.int k ((i:Nat):Int))) (d:ev E y=some (.int k ((j:Nat):Int))) (h:¬j<=i):OkS a (.binOp .geq t x y t') ty w (.bool false):=⟨y5h false J c d (decide_eq_false (fun b=>h (Int.ofNat_le.1 b)))⟩
theorem s_geqIt {i j:Int} (J:EnvR n E D a) (b:ev E x=some (.int k i)) (c:ev E y=some (.int k j)) (h:j<=i):OkS a (.binOp .geq t x y t') ty w (.bool true):=⟨y5h true J b c (decide_eq_true (h))⟩
theorem s_geqIf {i j:Int} (J:EnvR n E D a) (b:ev E x=some (.int k i)) (c:ev E y=some (.int k j)) (h:¬j<=i):OkS a (.binOp .geq t x y t') ty w (.bool false):=⟨y5h false J b c (decide_eq_false (h))⟩
theorem x2a {i j:Nat} (J:EnvR n E D a) (b:ev E x=some (.int k ((i:Nat):Int))) (c:ev E y=some (.int k ((j:Nat):Int))) (h:i=j):OkS a (.binOp .eql t x y t') ty w (.bool true):=⟨xY true J b c (decide_eq_true (congrArg Int.ofNat h))⟩
theorem x1z {i j:Nat} (J:EnvR n E D a) (c:ev E x=some (.int k ((i:Nat):Int))) (d:ev E y=some (.int k ((j:Nat):Int))) (h:¬i=j):OkS a (.binOp .eql t x y t') ty w (.bool false):=⟨xY false J c d (decide_eq_false (fun b=>h (Int.ofNat.inj b)))⟩
theorem x1y {i j:Int} (J:EnvR n E D a) (b:ev E x=some (.int k i)) (c:ev E y=some (.int k j)) (h:i=j):OkS a (.binOp .eql t x y t') ty w (.bool true):=⟨xY true J b c (decide_eq_true (h))⟩
theorem x1x {i j:Int} (J:EnvR n E D a) (b:ev E x=some (.int k i)) (c:ev E y=some (.int k j)) (h:¬i=j):OkS a (.binOp .eql t x y t') ty w (.bool false):=⟨xY false J b c (decide_eq_false (h))⟩
theorem x2e {i j:Nat} (J:EnvR n E D a) (b:ev E x=some (.int k ((i:Nat):Int))) (c:ev E y=some (.int k ((j:Nat):Int))) (h:i=j):OkS a (.binOp .neq t x y t') ty w (.bool false):=⟨jG false J b c (congrArg Bool.not (decide_eq_true (congrArg Int.ofNat h)))⟩
theorem x2d {i j:Nat} (J:EnvR n E D a) (c:ev E x=some (.int k ((i:Nat):Int))) (d:ev E y=some (.int k ((j:Nat):Int))) (h:¬i=j):OkS a (.binOp .neq t x y t') ty w (.bool true):=⟨jG true J c d (congrArg Bool.not (decide_eq_false (fun b=>h (Int.ofNat.inj b))))⟩
theorem x2c {i j:Int} (J:EnvR n E D a) (b:ev E x=some (.int k i)) (c:ev E y=some (.int k j)) (h:i=j):OkS a (.binOp .neq t x y t') ty w (.bool false):=⟨jG false J b c (congrArg Bool.not (decide_eq_true (h)))⟩
theorem x2b {i j:Int} (J:EnvR n E D a) (b:ev E x=some (.int k i)) (c:ev E y=some (.int k j)) (h:¬i=j):OkS a (.binOp .neq t x y t') ty w (.bool true):=⟨jG true J b c (congrArg Bool.not (decide_eq_false (h)))⟩
theorem s_seqlt {s u:ByteArray} (J:EnvR n E D a) (b:ev E x=some (.string s)) (c:ev E y=some (.string u)) (h:s=u):OkS a (.binOp .eql t x y t') ty w (.bool true):=⟨q8k true J b c (decide_eq_true h)⟩
theorem s_seqlf {s u:ByteArray} (J:EnvR n E D a) (b:ev E x=some (.string s)) (c:ev E y=some (.string u)) (h:¬s=u):OkS a (.binOp .eql t x y t') ty w (.bool false):=⟨q8k false J b c (decide_eq_false h)⟩
theorem s_sneqt {s u:ByteArray} (J:EnvR n E D a) (b:ev E x=some (.string s)) (c:ev E y=some (.string u)) (h:s=u):OkS a (.binOp .neq t x y t') ty w (.bool false):=⟨y1o false J b c (congrArg Bool.not (decide_eq_true h))⟩
theorem s_sneqf {s u:ByteArray} (J:EnvR n E D a) (b:ev E x=some (.string s)) (c:ev E y=some (.string u)) (h:¬s=u):OkS a (.binOp .neq t x y t') ty w (.bool true):=⟨y1o true J b c (congrArg Bool.not (decide_eq_false h))⟩
end
end
section
variable {a:Act} {w:World} {ty:TypeId} {v:Value} {x y c:Operand} {t s:TypeId} {i f:Nat} {fn:Fn} {fs cs:Array Operand} {c0:Call}
theorem d_move (h:OkS a (.move x) ty w v):OkS a (.move x) ty w v:=h
theorem j7d (h:OkS a (.assign x) ty w v):OkS a (.assign x) ty w v:=h
theorem d_pick (h:OkS a (.pick c x y) ty w v):OkS a (.pick c x y) ty w v:=h
theorem j3a (h:OkS a (.extract x i) ty w v):OkS a (.extract x i) ty w v:=h
theorem d_not (h:OkS a (.unOp .not t x) ty w v):OkS a (.unOp .not t x) ty w v:=h
theorem d_nilc (h:OkS a (.nilCheck x) ty w v):OkS a (.nilCheck x) ty w v:=h
theorem d_fld (h:OkS a (.fieldAddr s x f) ty w v):OkS a (.fieldAddr s x f) ty w v:=h
theorem d_idx (h:OkS a (.indexAddr t x y) ty w v):OkS a (.indexAddr t x y) ty w v:=h
theorem d_call (h:OkS a (.call c0) ty w v):OkS a (.call c0) ty w v:=h
theorem d_func (h:OkS a (.makeFunc fn fs cs) ty w v):OkS a (.makeFunc fn fs cs) ty w v:=h
theorem d_add (h:OkS a (.binOp .add t x y s) ty w v):OkS a (.binOp .add t x y s) ty w v:=h
theorem d_lss (h:OkS a (.binOp .lss t x y s) ty w v):OkS a (.binOp .lss t x y s) ty w v:=h
theorem d_gtr (h:OkS a (.binOp .gtr t x y s) ty w v):OkS a (.binOp .gtr t x y s) ty w v:=h
theorem d_leq (h:OkS a (.binOp .leq t x y s) ty w v):OkS a (.binOp .leq t x y s) ty w v:=h
theorem d_geq (h:OkS a (.binOp .geq t x y s) ty w v):OkS a (.binOp .geq t x y s) ty w v:=h
theorem d_eql (h:OkS a (.binOp .eql t x y s) ty w v):OkS a (.binOp .eql t x y s) ty w v:=h
theorem d_neq (h:OkS a (.binOp .neq t x y s) ty w v):OkS a (.binOp .neq t x y s) ty w v:=h
end
section
variable {n:Nat} {E:List (Nat×Value)} {D:List Deferred} {a:Act} {w:World} {ty:TypeId} {Φ:Fz} {K:List Res} {op:Op} {v:Value}
theorem gZ {cs vs:List Value} {off k:Nat} (h:uP (uN cs off) k=vs:=by first | (dsimp only [uP,uN,List.tail,Nat.zero_add,Nat.reduceAdd];try rfl;all_goals fail) | fail):uP (uN cs off) k=vs:=h
theorem z0s (J:EnvR n E D a) (h:OkS a op ty w v:=by first | ((with_reducible apply d_move);first | exact s_move J rfl) | ((with_reducible apply j7d);first | exact x1w J rfl) | ((with_reducible apply d_pick);first | exact s_pick J rfl rfl) | ((with_reducible apply j3a);first | exact j5b J rfl rfl) | ((with_reducible apply d_not);first | exact s_not J rfl) | ((with_reducible apply d_nilc);first | exact q7l J rfl) | ((with_reducible apply d_fld);first | ((with_reducible apply s_fav J);(exact rfl);first | ((with_reducible apply f_own);(exact rfl)) | exact f_at (by with_reducible assumption) (by rfl) | exact f_p)) | ((with_reducible apply d_idx);first | exact s_index J rfl rfl (by first | with_reducible assumption | assumption)) | ((with_reducible apply d_call);first | exact s_len J rfl | exact s_lens J rfl) | ((with_reducible apply d_func);first | exact s_func J rfl rfl) | ((with_reducible apply d_add);first | exact s_inc J rfl rfl (by omega)) | ((with_reducible apply d_lss);first | exact s_lssNt J rfl rfl (by first | with_reducible assumption | assumption) | exact s_lssNf J rfl rfl (by first | with_reducible assumption | assumption) | exact s_lssIt J rfl rfl (by first | with_reducible assumption | assumption) | exact s_lssIf J rfl rfl (by first | with_reducible assumption | assumption)) | ((with_reducible apply d_gtr);first | exact s_gtrNt J rfl rfl (by first | with_reducible assumption | assumption) | exact s_gtrNf J rfl rfl (by first | with_reducible assumption | assumption) | exact s_gtrIt J rfl rfl (by first | with_reducible assumption | assumption) | exact s_gtrIf J rfl rfl (by first | with_reducible assumption | assumption)) | ((with_reducible apply d_leq);first | exact s_leqNt J rfl rfl (by first | with_reducible assumption | assumption) | exact s_leqNf J rfl rfl (by first | with_reducible assumption | assumption) | exact s_leqIt J rfl rfl (by first | with_reducible assumption | assumption) | exact s_leqIf J rfl rfl (by first | with_reducible assumption | assumption)) | ((with_reducible apply d_geq);first | exact s_geqNt J rfl rfl (by first | with_reducible assumption | assumption) | exact s_geqNf J rfl rfl (by first | with_reducible assumption | assumption) | exact s_geqIt J rfl rfl (by first | with_reducible assumption | assumption) | exact s_geqIf J rfl rfl (by first | with_reducible assumption | assumption)) | ((with_reducible apply d_eql);first | exact x2a J rfl rfl (by first | with_reducible assumption | assumption) | exact x1z J rfl rfl (by first | with_reducible assumption | assumption) | exact x1y J rfl rfl (by first | with_reducible assumption | assumption) | exact x1x J rfl rfl (by first | with_reducible assumption | assumption) | exact s_seqlt J rfl rfl (by first | with_reducible assumption | assumption) | exact s_seqlf J rfl rfl (by first | with_reducible assumption | assumption)) | ((with_reducible apply d_neq);first | exact x2e J rfl rfl (by first | with_reducible assumption | assumption) | exact x2d J rfl rfl (by first | with_reducible assumption | assumption) | exact x2c J rfl rfl (by first | with_reducible assumption | assumption) | exact x2b J rfl rfl (by first | with_reducible assumption | assumption) | exact s_sneqt J rfl rfl (by first | with_reducible assumption | assumption) | exact s_sneqf J rfl rfl (by first | with_reducible assumption | assumption))):OkS a op ty w v:=h
theorem z0t (J:EnvR n E D a) (O:Sees Φ K w) (h:OkS a op ty w v:=by ((with_reducible apply s_ldv J);(exact rfl);first | ((with_reducible apply o_sc);first | ((with_reducible apply o_own);first | exact z3d 0 O rfl rfl | exact z3d 1 O rfl rfl | exact z3d 2 O rfl rfl | exact z3d 3 O rfl rfl | exact z3d 4 O rfl rfl | exact z3d 5 O rfl rfl | exact z3d 6 O rfl rfl | exact z3d 7 O rfl rfl | exact z3d 8 O rfl rfl) | exact v_at O (by with_reducible assumption) (by rfl) | exact v_at0 O (by with_reducible assumption) (by rfl)) | ((with_reducible apply o_ag);first | ((with_reducible apply o_own);first | exact oM 0 O rfl (by exact gZ) (by rfl) | exact oM 1 O rfl (by exact gZ) (by rfl) | exact oM 2 O rfl (by exact gZ) (by rfl) | exact oM 3 O rfl (by exact gZ) (by rfl) | exact oM 4 O rfl (by exact gZ) (by rfl) | exact oM 5 O rfl (by exact gZ) (by rfl) | exact oM 6 O rfl (by exact gZ) (by rfl) | exact oM 7 O rfl (by exact gZ) (by rfl) | exact oM 8 O rfl (by exact gZ) (by rfl)) | exact v_atA O (by with_reducible assumption) (by rfl)))):OkS a op ty w v:=h
theorem z4e (J:EnvR n E D a) (O:Sees Φ K w) (h:OkS a op ty w v:=by first | exact z0s J | exact z0t J O):OkS a op ty w v:=h
end
def y5z:Code->Nat
 | .region i _ _=>i
 | .seq x y=>if y5z x=0 then y5z y else y5z x
 | .cond _ x y=>if y5z x=0 then y5z y else y5z x
 | .block _ x=>y5z x
 | .loop x=>y5z x
 | _=>0
def Stop (_:Nat):Prop:=True
structure Go2 (n:Nat) (D:List Deferred) (Φ:Fz) (K:List Res) (w:World) (A:Act->World->Prop) (E:List (Nat×Value)) (B:Act->World->Prop) (E':List (Nat×Value)):Prop where
 h:Sees Φ K w->(∀a,EnvR n E' D a->B a w)->∀a,EnvR n E D a->A a w
section
variable {n:Nat} {E E':List (Nat×Value)} {D:List Deferred} {w:World} {Φ:Fz} {K:List Res} {B:Act->World->Prop} {d t j i:Nat} {v u:Value} {b:Bool} {op:Op} {ty:TypeId} {pos:String} {aft:Array Edge} {rest:List Oper} {ops:Array Oper}
 {Q Q0:Exit->Act->World->Prop} {x y:Code} {c:Operand} {f:Act->World->Prop} {id:Nat}
theorem q6k:Go2 n D Φ K w B E B E:=⟨fun _ k=>k⟩
theorem g_op (c:∀a,EnvR n E D a->Sees Φ K w->OkS a op ty w v) (b:Nat.blt d n=true) (h:Go2 n D Φ K w (wpList prog ops Q rest) ((d,v)::E) B E') :
  Go2 n D Φ K w (wpList prog ops Q (⟨some d,op,ty,pos,aft,none⟩::rest)) E B E':=⟨fun O k a J=>xK J (c a J O).h b fun a J=>h.h O k a J⟩
theorem g_gy (e:ops[j]?.bind (·.dst)=some t) (g:get E t=some (.bool b)) (f:∀a,EnvR n E D a->Sees Φ K w->OkS a op ty w v) (c:Nat.blt d n=true) (h:Go2 n D Φ K w (wpList prog ops Q rest) ((d,v)::E) B E') :
  Go2 n D Φ K w (wpList prog ops Q (⟨some d,op,ty,pos,aft,some (j,b)⟩::rest)) E B E':=⟨fun O k a J=>g_yes J rfl rfl c e g (pE (f a J O).h fun a J=>h.h O k a J)⟩
theorem g_gn (e:ops[j]?.bind (·.dst)=some t) (f:get E t=some u) (hb:y6q u b=true) (c:Nat.blt d n=true) (h:Go2 n D Φ K w (wpList prog ops Q rest) ((d,undef)::E) B E') :
  Go2 n D Φ K w (wpList prog ops Q (⟨some d,op,ty,pos,aft,some (j,b)⟩::rest)) E B E':=⟨fun O k a J=>g_no J rfl rfl c e f hb fun a J=>h.h O k a J⟩
theorem g_nil (h:Go2 n D Φ K w (Q .normal) E B E'):Go2 n D Φ K w (wpList prog ops Q []) E B E':=⟨fun O k a J=>wpList_nil (h.h O k a J)⟩
theorem g_thn (h:Go2 n D Φ K w (f) E B E'):Go2 n D Φ K w (Exit.then f Q .normal) E B E':=⟨fun O k a J=>h.h O k a J⟩
theorem g_the (h:Go2 n D Φ K w (Q (.exit i)) E B E'):Go2 n D Φ K w (Exit.then f Q (.exit i)) E B E':=⟨fun O k a J=>h.h O k a J⟩
theorem g_thr (h:Go2 n D Φ K w (Q .ret) E B E'):Go2 n D Φ K w (Exit.then f Q .ret) E B E':=⟨fun O k a J=>h.h O k a J⟩
theorem g_bn (h:Go2 n D Φ K w (Q .normal) E B E'):Go2 n D Φ K w (Exit.inBlock i Q .normal) E B E':=⟨fun O k a J=>h.h O k a J⟩
theorem g_bx (hi:(if id=i then True else False)=True) (h:Go2 n D Φ K w (Q .normal) E B E'):Go2 n D Φ K w (Exit.inBlock i Q (.exit id)) E B E':=⟨fun O k a J=>by
 have e:id=i:=by by_cases h:id=i;exact h;rw [if_neg h] at hi;exact (of_eq_true hi).elim
 subst e
 have:=h.h O k a J
 simp only [Exit.inBlock]
 simpa using this⟩
theorem g_bo (hi:Nat.beq id i=false) (h:Go2 n D Φ K w (Q (.exit id)) E B E'):Go2 n D Φ K w (Exit.inBlock i Q (.exit id)) E B E':=⟨fun O k a J=>by
 have e:¬id=i:=Nat.ne_of_beq_eq_false hi
 have:=h.h O k a J
 simp only [Exit.inBlock]
 simpa [e,Ne.symm e] using this⟩
theorem g_br (h:Go2 n D Φ K w (Q .ret) E B E'):Go2 n D Φ K w (Exit.inBlock i Q .ret) E B E':=⟨fun O k a J=>h.h O k a J⟩
theorem g_seq (h:Go2 n D Φ K w (x.wp prog (Exit.then (y.wp prog Q) Q)) E B E'):Go2 n D Φ K w ((Code.seq x y).wp prog Q) E B E':=⟨fun O k a J=>wp_seq (h.h O k a J)⟩
theorem g_seqJ {r:Nat} (_:Stop r) (_:Nat.beq (y5z y) r=false) (h:Go2 n D Φ K w (x.wp prog (Exit.then (y.wp prog Q) Q)) E B E'):Go2 n D Φ K w ((Code.seq x y).wp prog Q) E B E':=g_seq h
theorem g_reg {l:List Oper} (h:Go2 n D Φ K w (wpList prog l.toArray Q l) E B E'):Go2 n D Φ K w ((Code.region id l.toArray false).wp prog Q) E B E':=⟨fun O k a J=>wp_region_lit (h.h O k a J)⟩
theorem g_ift (b:ev E c=some (.bool true)) (h:Go2 n D Φ K w (x.wp prog Q) E B E'):Go2 n D Φ K w ((Code.cond c x y).wp prog Q) E B E':=⟨fun O k a J=>if_t J b (h.h O k a J)⟩
theorem g_iff (b:ev E c=some (.bool false)) (h:Go2 n D Φ K w (y.wp prog Q) E B E'):Go2 n D Φ K w ((Code.cond c x y).wp prog Q) E B E':=⟨fun O k a J=>if_f J b (h.h O k a J)⟩
theorem q6l (h:Go2 n D Φ K w (Q .normal) E B E'):Go2 n D Φ K w (Code.skip.wp prog Q) E B E':=⟨fun O k a J=>wp_skip (h.h O k a J)⟩
theorem y6b (h:Go2 n D Φ K w (x.wp prog (Exit.inBlock id Q)) E B E'):Go2 n D Φ K w ((Code.block id x).wp prog Q) E B E':=⟨fun O k a J=>wp_block (h.h O k a J)⟩
theorem q6j (h:Go2 n D Φ K w (Q (.exit id)) E B E'):Go2 n D Φ K w ((Code.exit id).wp prog Q) E B E':=⟨fun O k a J=>wp_exit (h.h O k a J)⟩
theorem g_ret (h:Go2 n D Φ K w (Q .ret) E B E'):Go2 n D Φ K w (Code.ret.wp prog Q) E B E':=⟨fun O k a J=>wp_ret (h.h O k a J)⟩
section
variable {B':World->Prop} {kd:List Nat} {Qp:List PanicEntry->World->Prop} {q:Act->World->Prop} {p:Plan} {Φ':Fz} {K':List Res}
theorem g_dd (h:Go2 n D Φ K w (q) E B E'):Go2 n D Φ K w (zU prog .any ops B' kd Qp q .done) E B E':=⟨fun O k a J=>h.h O k a J⟩
theorem g_dq (hi:ops[i]? = some ⟨some d,op,ty,pos,aft,none⟩) (c:yR kd i=2) (e:∀a w,EnvR n E D a->Sees Φ' K' w->OkS a op ty w v) (b:Nat.blt d n=true)
  (h:Go2 n D Φ K w (zU prog .any ops (Sees Φ' K') kd Qp q p) ((d,v)::E) B E'):Go2 n D Φ K w (zU prog .any ops (Sees Φ' K') kd Qp q (.q i p)) E B E' :=
 ⟨fun O k a J=>d_q J hi c (fun w f=>(e a w J f).h) b fun a J=>h.h O k a J⟩
theorem g_dq1 (hi:ops[i]? = some ⟨some d,op,ty,pos,aft,none⟩) (c:yR kd i=1) (e:∀a w,EnvR n E D a->OkS a op ty w v) (b:Nat.blt d n=true)
  (h:Go2 n D Φ K w (zU prog .any ops B' kd Qp q p) ((d,v)::E) B E'):Go2 n D Φ K w (zU prog .any ops B' kd Qp q (.q i p)) E B E' :=
 ⟨fun O k a J=>d_q1 J hi c (fun w=>(e a w J).h) b fun a J=>h.h O k a J⟩
theorem g_dqg (hi:ops[i]? = some ⟨some d,op,ty,pos,aft,some (j,b)⟩) (e:ops[j]?.bind (·.dst)=some t) (l:get E t=some (.bool b)) (f:yR kd i=2) (g:∀a w,EnvR n E D a->Sees Φ' K' w->OkS a op ty w v) (c:Nat.blt d n=true)
  (h:Go2 n D Φ K w (zU prog .any ops (Sees Φ' K') kd Qp q p) ((d,v)::E) B E'):Go2 n D Φ K w (zU prog .any ops (Sees Φ' K') kd Qp q (.q i p)) E B E' :=
 ⟨fun O k a J=>d_qg J hi e l f (fun w m=>(g a w J m).h) c fun a J=>h.h O k a J⟩
theorem q6i (hi:ops[i]? = some ⟨some d,op,ty,pos,aft,some (j,b)⟩) (e:ops[j]?.bind (·.dst)=some t) (l:get E t=some (.bool b)) (f:yR kd i=1) (g:∀a w,EnvR n E D a->OkS a op ty w v) (c:Nat.blt d n=true)
  (h:Go2 n D Φ K w (zU prog .any ops B' kd Qp q p) ((d,v)::E) B E'):Go2 n D Φ K w (zU prog .any ops B' kd Qp q (.q i p)) E B E' :=
 ⟨fun O k a J=>d_qg1 J hi e l f (fun w=>(g a w J).h) c fun a J=>h.h O k a J⟩
theorem g_dn (hi:ops[i]? = some ⟨some d,op,ty,pos,aft,some (j,b)⟩) (e:ops[j]?.bind (·.dst)=some t) (f:get E t=some u) (hb:y6q u b=true) (c:Nat.blt d n=true)
  (h:Go2 n D Φ K w (zU prog .any ops B' kd Qp q p) ((d,undef)::E) B E'):Go2 n D Φ K w (zU prog .any ops B' kd Qp q (.q i p)) E B E' :=
 ⟨fun O k a J=>d_no J hi e f hb c fun a J=>h.h O k a J⟩
theorem g_dne (hi:ops[i]? = some ⟨some d,op,ty,pos,aft,some (j,b)⟩) (f:ops[j]?.bind (·.dst)=some t) (g:get E t=some u) (hb:y6q u b=true) (c:Nat.blt d n=true)
  (h:Go2 n D Φ K w (zU prog .any ops B' kd Qp q p) ((d,undef)::E) B E'):Go2 n D Φ K w (zU prog .any ops B' kd Qp q (.e i p)) E B E' :=
 ⟨fun O k a J=>d_no_e J hi f g hb c fun a J=>h.h O k a J⟩
end
theorem goGo {A:Act->World->Prop} (h:Go2 n D Φ K w A E B E':=by ((repeat first | ((with_reducible apply g_op);(exact fun _ J O=>z4e J O);rfl) | with_reducible apply g_nil | with_reducible apply g_thn | with_reducible apply g_seq | with_reducible apply g_reg | ((with_reducible apply g_ift);rfl) | ((with_reducible apply g_iff);rfl) | with_reducible apply q6l | with_reducible apply g_bn | with_reducible apply y6b | ((with_reducible apply g_gy);rfl;rfl;(exact fun _ J O=>z4e J O);rfl) | ((with_reducible apply g_gn);rfl;rfl;rfl;rfl) | ((with_reducible apply g_dq1);rfl;rfl;(exact fun _ _ J=>z0s J);rfl) | ((with_reducible apply g_dq);rfl;rfl;(exact fun _ _ J O=>z0t J O);rfl) | with_reducible apply g_dd | ((with_reducible apply g_dn);rfl;rfl;rfl;rfl;rfl) | ((with_reducible apply g_dne);rfl;rfl;rfl;rfl;rfl) | ((with_reducible apply q6i);rfl;rfl;rfl;rfl;(exact fun _ _ J=>z0s J);rfl) | ((with_reducible apply g_dqg);rfl;rfl;rfl;rfl;(exact fun _ _ J O=>z0t J O);rfl) | with_reducible apply q6j | with_reducible apply g_the | ((with_reducible apply g_bx);rfl) | ((with_reducible apply g_bo);rfl) | with_reducible apply g_ret | with_reducible apply g_thr | with_reducible apply g_br);exact q6k)):Go2 n D Φ K w A E B E':=h
theorem go {a:Act} {A:Act->World->Prop} (k:∀a,EnvR n E' D a->B a w) (J:EnvR n E D a:=by exact J) (N:Mem Φ K w:=by exact N) (h:Go2 n D Φ K w A E B E':=by exact goGo):A a w:=h.h N.toSees k a J
theorem goJ (r:Nat) {a:Act} {A:Act->World->Prop} (k:∀a,EnvR n E' D a->B a w) (J:EnvR n E D a:=by exact J) (N:Mem Φ K w:=by exact N) (h:Stop r->Go2 n D Φ K w A E B E':=by (intro hr_;(repeat first | ((with_reducible apply g_op);(exact fun _ J O=>z4e J O);rfl) | with_reducible apply g_nil | with_reducible apply g_thn | ((with_reducible apply g_seqJ hr_);rfl) | with_reducible apply g_reg | ((with_reducible apply g_ift);rfl) | ((with_reducible apply g_iff);rfl) | with_reducible apply q6l | with_reducible apply g_bn | with_reducible apply y6b | ((with_reducible apply g_gy);rfl;rfl;(exact fun _ J O=>z4e J O);rfl) | ((with_reducible apply g_gn);rfl;rfl;rfl;rfl) | ((with_reducible apply g_dq1);rfl;rfl;(exact fun _ _ J=>z0s J);rfl) | ((with_reducible apply g_dq);rfl;rfl;(exact fun _ _ J O=>z0t J O);rfl) | with_reducible apply g_dd | ((with_reducible apply g_dn);rfl;rfl;rfl;rfl;rfl) | ((with_reducible apply g_dne);rfl;rfl;rfl;rfl;rfl) | ((with_reducible apply q6i);rfl;rfl;rfl;rfl;(exact fun _ _ J=>z0s J);rfl) | ((with_reducible apply g_dqg);rfl;rfl;rfl;rfl;(exact fun _ _ J O=>z0t J O);rfl) | with_reducible apply q6j | with_reducible apply g_the | ((with_reducible apply g_bx);rfl) | ((with_reducible apply g_bo);rfl) | with_reducible apply g_ret | with_reducible apply g_thr | with_reducible apply g_br);exact q6k)):A a w:=(h trivial).h N.toSees k a J
theorem go1 {a:Act} {A:Act->World->Prop} (k:∀a,EnvR n E' D a->B a w) (J:EnvR n E D a:=by exact J) (N:Mem Φ K w:=by exact N) (h:Go2 n D Φ K w A E B E':=by ((repeat first | ((with_reducible apply g_op);(exact fun _ J O=>z4e J O);rfl) | with_reducible apply g_nil | with_reducible apply g_thn | with_reducible apply g_seq | ((with_reducible apply g_ift);rfl) | ((with_reducible apply g_iff);rfl) | with_reducible apply q6l | with_reducible apply g_bn | with_reducible apply y6b | ((with_reducible apply g_gy);rfl;rfl;(exact fun _ J O=>z4e J O);rfl) | ((with_reducible apply g_gn);rfl;rfl;rfl;rfl) | ((with_reducible apply g_dq1);rfl;rfl;(exact fun _ _ J=>z0s J);rfl) | ((with_reducible apply g_dq);rfl;rfl;(exact fun _ _ J O=>z0t J O);rfl) | with_reducible apply g_dd | ((with_reducible apply g_dn);rfl;rfl;rfl;rfl;rfl) | ((with_reducible apply g_dne);rfl;rfl;rfl;rfl;rfl) | ((with_reducible apply q6i);rfl;rfl;rfl;rfl;(exact fun _ _ J=>z0s J);rfl) | ((with_reducible apply g_dqg);rfl;rfl;rfl;rfl;(exact fun _ _ J O=>z0t J O);rfl) | with_reducible apply q6j | with_reducible apply g_the | ((with_reducible apply g_bx);rfl) | ((with_reducible apply g_bo);rfl) | with_reducible apply g_ret | with_reducible apply g_thr | with_reducible apply g_br);exact q6k)):A a w:=h.h N.toSees k a J
end
def uM:List Res->List (Nat×Res)->List Res
 | K,[]=>K
 | K,(i,r)::l=>uM (kS K i r) l
def uL:List Res->List Nat->List Res
 | K,[]=>K
 | K,i::l=>uL (cX K i) l
def z9v (K:List Res):List Nat->List Res
 | []=>[]
 | i::l=>match yV K i with
  | some r=>r::z9v K l
  | none=>z9v K l
theorem tW {K:List Res}:∀{l:List Nat} {r:Res},r∈z9v K l->r∈K
 | [],_,h=>by cases h
 | i::l,r,h=>by
  unfold z9v at h
  split at h
  ·rename_i r' a
   rcases List.mem_cons.1 h with rfl | h
   ·exact yS a
   ·exact tW h
  ·exact tW h
class ZeT (t:TypeId) (cs:outParam (List Value)):Prop where h:∃z,ZeroT prog t z/\z.cells.toList=cs
instance:ZeT 3 [.int .i64 ((0:Nat):Int)]:=⟨_,zeroValue3,rfl⟩
instance:ZeT 4 [.bool false]:=⟨_,zeroValue4,rfl⟩
instance:ZeT 5 [.int .u8 ((0:Nat):Int)]:=⟨_,zeroValue5,rfl⟩
instance:ZeT 9 [.string ⟨#[]⟩]:=⟨_,zeroValue9,rfl⟩
instance:ZeT 207 [.slice none 0 0]:=⟨_,zeroValue207,rfl⟩
instance:ZeT 209 [.string ⟨#[]⟩,.int .i64 ((0:Nat):Int),.slice none 0 0]:=⟨_,zeroValue209,rfl⟩
instance:ZeT 34 [.slice none 0 0]:=⟨_,zeroValue34,rfl⟩
instance:ZeT 287 [.pointer none,.slice none 0 0]:=⟨_,zeroValue287,rfl⟩
instance:ZeT 180 [.int .i64 ((0:Nat):Int),.int .i64 ((0:Nat):Int)]:=⟨_,zeroValue180,rfl⟩
instance:ZeT 204 [.int .i64 ((0:Nat):Int),.int .i64 ((0:Nat):Int),.string ⟨#[]⟩,.int .i64 ((0:Nat):Int)]:=⟨_,zeroValue204,rfl⟩
instance:ZeT 260 [.int .i64 ((0:Nat):Int),.int .i64 ((0:Nat):Int)]:=⟨_,zeroValue260,rfl⟩
theorem q8v (l:List Value):(Value.agg (List.toArray l)).cells.toList=l:=rfl
theorem q8x (k:IntKind) (i:Int):(Value.int k i).cells.toList=[.int k i]:=rfl
theorem y5o (b:Bool):(Value.bool b).cells.toList=[.bool b]:=rfl
theorem q9a (s:ByteArray):(Value.string s).cells.toList=[.string s]:=rfl
theorem q8z (p:Option Addr):(Value.pointer p).cells.toList=[.pointer p]:=rfl
theorem c_sl (p:Option Addr) (n c:Nat):(Value.slice p n c).cells.toList=[.slice p n c]:=rfl
theorem q8y (b:Option Nat):(Value.map b).cells.toList=[.map b]:=rfl
theorem q8w (f:Fn) (x y:Array Value):(Value.func f x y).cells.toList=[.func f x y]:=rfl
section
variable {n:Nat} {E:List (Nat×Value)} {D:List Deferred} {a:Act} {w:World} {Φ:Fz} {K K':List Res} {d:Nat} {ty:TypeId} {pos:String} {aft:Array Edge} {rest:List Oper} {ops:Array Oper} {Q:Exit->Act->World->Prop}
theorem Mem.nf (N:Mem Φ K w) (h:K=K':=by first | (dsimp only [kS,uM,cX,uL,jI,z0r];try rfl;all_goals fail) | rfl):Mem Φ K' w:=h▸N
theorem Mem.pl {r:Res} (N:Mem Φ K w) (i:Nat) (a:yV K i=some r:=by rfl) (h:r::cX K i=K':=by first | (dsimp only [kS,uM,cX,uL,jI,z0r];try rfl;all_goals fail) | rfl):Mem Φ K' w:=h▸N.pull a
theorem y3m (N:Mem Φ K w):∀(l:List Nat),Mem Φ (uL K l) w:=fun l=>by
 induction l generalizing K with
 | nil=>exact N
 | cons i l a=>exact a (N.del i)
theorem Mem.dl (N:Mem Φ K w) (l:List Nat) (h:uL K l=K':=by first | (dsimp only [kS,uM,cX,uL,jI,z0r];try rfl;all_goals fail) | rfl):Mem Φ K' w:=h▸y3m N l
theorem yN {id:Nat} {l:List Oper} (kd:List Nat) (p:Plan) (is:List Nat) (J:EnvR n E D a) (N:Mem Φ K w) (h:∀w,Mem Φ K w->zU prog .any l.toArray (Sees Φ (z9v K is)) kd (fun c w=>∀a,a.defers=D->Q (.panic c) a w) (Q .normal) p a w)
  (b:sZ l.toArray kd p=true:=by kernel_rfl):(Code.region id l.toArray true).wp prog Q a w:=dN kd p _ J N mixed b (fun r d=>tW d) h
theorem Mem.sn {Ψ:Fz} {X:List Res} (N:Mem Ψ K w) (hl:Φ.Le Ψ) (a:∀r∈X,r∈K:=by first | (simp [z9v,yV,kS,uM,cX,uL,jI,z0r];all_goals fail) | fail):Sees Φ X w:=N.seesIn hl a
theorem z4m (l:List Bs) (x:Bs):strs l++[.string x]=strs (l++[x]):=by rw [q3y];rfl
end
structure AtE (n:Nat) (D:List Deferred) (Φ:Fz) (K:List Res) (w:World) (A:Act->World->Prop) (E E':List (Nat×Value)) (d:Nat) (op:Op) (S:World->Prop) (B:Act->World->Prop) (Qp:List PanicEntry->World->Prop):Prop where
 h:Sees Φ K w->(∀a ty pos aft g,EnvR n E' D a->Oper.eff prog ⟨some d,op,ty,pos,aft,g⟩ a w (fun v w'=>S w'/\∀a,EnvR n ((d,v)::E') D a->B a w') Qp)->∀a,EnvR n E D a->A a w
structure AtE0 (n:Nat) (D:List Deferred) (Φ:Fz) (K:List Res) (w:World) (A:Act->World->Prop) (E E':List (Nat×Value)) (op:Op) (S:World->Prop) (B:Act->World->Prop) (Qp:List PanicEntry->World->Prop):Prop where
 h:Sees Φ K w->(∀a ty pos aft g,EnvR n E' D a->Oper.eff prog ⟨none,op,ty,pos,aft,g⟩ a w (fun _ w'=>S w'/\∀a,EnvR n E' D a->B a w') Qp)->∀a,EnvR n E D a->A a w
structure AtQ (n:Nat) (D:List Deferred) (Φ:Fz) (K:List Res) (w:World) (A:Act->World->Prop) (E E':List (Nat×Value)) (d:Nat) (op:Op) (W:World->Prop) (B:Act->World->Prop):Prop where
 h:Sees Φ K w->∀v,(∀a ty w,EnvR n E' D a->W w->Ok prog a op ty w v)->(∀a,EnvR n ((d,v)::E') D a->B a w)->∀a,EnvR n E D a->A a w
section
variable {n:Nat} {D:List Deferred} {Φ Φ':Fz} {K K':List Res} {w:World} {A B B0 q:Act->World->Prop} {E E' E1:List (Nat×Value)} {d i j t:Nat} {b:Bool} {op:Op} {S W B':World->Prop} {Qp:List PanicEntry->World->Prop} {ty:TypeId} {pos:String} {aft:Array Edge} {rest:List Oper} {ops:Array Oper} {Q:Exit->Act->World->Prop} {kd:List Nat} {p:Plan}
theorem e_go (b:Go2 n D Φ K w A E B0 E1) (c:AtE n D Φ K w B0 E1 E' d op S B Qp):AtE n D Φ K w A E E' d op S B Qp:=⟨fun O k a J=>b.h O (fun a J=>c.h O k a J) a J⟩
theorem e0_go (b:Go2 n D Φ K w A E B0 E1) (c:AtE0 n D Φ K w B0 E1 E' op S B Qp):AtE0 n D Φ K w A E E' op S B Qp:=⟨fun O k a J=>b.h O (fun a J=>c.h O k a J) a J⟩
theorem q_go (b:Go2 n D Φ K w A E B0 E1) (c:AtQ n D Φ K w B0 E1 E' d op W B):AtQ n D Φ K w A E E' d op W B:=⟨fun O v e k a J=>b.h O (fun a J=>c.h O v e k a J) a J⟩
theorem e_st (b:Nat.blt d n=true):AtE n D Φ K w (wpList prog ops Q (⟨some d,op,ty,pos,aft,none⟩::rest)) E E d op (fun _=>True) (wpList prog ops Q rest) (fun c w'=>∀a,a.defers=D->Q (.panic c) a w') :=
 ⟨fun _ h a J=>st J rfl b rfl (jX (h a ty pos aft none J) (fun _ _ h=>h.2) (fun _ _ h=>h))⟩
theorem e_gy (f:ops[j]?.bind (·.dst)=some t) (g:get E t=some (.bool b)) (e:Nat.blt d n=true):AtE n D Φ K w (wpList prog ops Q (⟨some d,op,ty,pos,aft,some (j,b)⟩::rest)) E E d op (fun _=>True) (wpList prog ops Q rest) (fun c w'=>∀a,a.defers=D->Q (.panic c) a w') :=
 ⟨fun _ h a J=>g_yes J rfl rfl e f g (jX (h a ty pos aft (some (j,b)) J) (fun _ _ h=>h.2) (fun _ _ h=>h))⟩
theorem e_dp (hi:ops[i]? = some ⟨some d,op,ty,pos,aft,none⟩) (c:yR kd i=0) (b:Nat.blt d n=true):AtE n D Φ K w (zU prog .any ops B' kd Qp q (.e i p)) E E d op (fun w'=>dI .any kd ⟨some d,op,ty,pos,aft,none⟩=true->B' w') (zU prog .any ops B' kd Qp q p) Qp :=
 ⟨fun _ h a J=>d_e J hi c b (h a ty pos aft none J)⟩
theorem e_dg (hi:ops[i]? = some ⟨some d,op,ty,pos,aft,some (j,b)⟩) (f:ops[j]?.bind (·.dst)=some t) (k:get E t=some (.bool b)) (g:yR kd i=0) (c:Nat.blt d n=true):AtE n D Φ K w (zU prog .any ops B' kd Qp q (.e i p)) E E d op (fun w'=>dI .any kd ⟨some d,op,ty,pos,aft,some (j,b)⟩=true->B' w') (zU prog .any ops B' kd Qp q p) Qp :=
 ⟨fun _ h a J=>d_eg J hi f k g c (h a ty pos aft (some (j,b)) J)⟩
theorem e0_st:AtE0 n D Φ K w (wpList prog ops Q (⟨none,op,ty,pos,aft,none⟩::rest)) E E op (fun _=>True) (wpList prog ops Q rest) (fun c w'=>∀a,a.defers=D->Q (.panic c) a w') :=
 ⟨fun _ h a J=>st0 J rfl rfl (jX (h a ty pos aft none J) (fun _ _ h=>h.2) (fun _ _ h=>h))⟩
theorem e0_gy (d:ops[j]?.bind (·.dst)=some t) (e:get E t=some (.bool b)):AtE0 n D Φ K w (wpList prog ops Q (⟨none,op,ty,pos,aft,some (j,b)⟩::rest)) E E op (fun _=>True) (wpList prog ops Q rest) (fun c w'=>∀a,a.defers=D->Q (.panic c) a w') :=
 ⟨fun _ h a J=>g_yes0 J rfl rfl d e (jX (h a ty pos aft (some (j,b)) J) (fun _ _ h=>h.2) (fun _ _ h=>h))⟩
theorem e0_dp (hi:ops[i]? = some ⟨none,op,ty,pos,aft,none⟩) (b:yR kd i=0):AtE0 n D Φ K w (zU prog .any ops B' kd Qp q (.e i p)) E E op (fun w'=>dI .any kd ⟨none,op,ty,pos,aft,none⟩=true->B' w') (zU prog .any ops B' kd Qp q p) Qp :=
 ⟨fun _ h a J=>aE J hi b (h a ty pos aft none J)⟩
theorem q_st (b:Nat.blt d n=true):AtQ n D Φ K w (wpList prog ops Q (⟨some d,op,ty,pos,aft,none⟩::rest)) E E d op (Sees Φ K) (wpList prog ops Q rest):=⟨fun O _ c k a J=>xK J (c a ty w J O) b k⟩
theorem q_gy (e:ops[j]?.bind (·.dst)=some t) (g:get E t=some (.bool b)) (c:Nat.blt d n=true):AtQ n D Φ K w (wpList prog ops Q (⟨some d,op,ty,pos,aft,some (j,b)⟩::rest)) E E d op (Sees Φ K) (wpList prog ops Q rest):=⟨fun O _ f k a J=>g_yes J rfl rfl c e g (pE (f a ty w J O) k)⟩
theorem q_d1 (hi:ops[i]? = some ⟨some d,op,ty,pos,aft,none⟩) (c:yR kd i=1) (b:Nat.blt d n=true):AtQ n D Φ K w (zU prog .any ops B' kd Qp q (.q i p)) E E d op (fun _=>True) (zU prog .any ops B' kd Qp q p):=⟨fun _ _ e k a J=>d_q1 J hi c (fun w=>e a ty w J trivial) b k⟩
theorem q_d2 (hi:ops[i]? = some ⟨some d,op,ty,pos,aft,none⟩) (c:yR kd i=2) (b:Nat.blt d n=true):AtQ n D Φ K w (zU prog .any ops B' kd Qp q (.q i p)) E E d op B' (zU prog .any ops B' kd Qp q p):=⟨fun _ _ e k a J=>d_q J hi c (fun w f=>e a ty w J f) b k⟩
theorem q_d1g (hi:ops[i]? = some ⟨some d,op,ty,pos,aft,some (j,b)⟩) (e:ops[j]?.bind (·.dst)=some t) (h:get E t=some (.bool b)) (f:yR kd i=1) (c:Nat.blt d n=true):AtQ n D Φ K w (zU prog .any ops B' kd Qp q (.q i p)) E E d op (fun _=>True) (zU prog .any ops B' kd Qp q p):=⟨fun _ _ g k a J=>d_qg1 J hi e h f (fun w=>g a ty w J trivial) c k⟩
theorem q_d2g (hi:ops[i]? = some ⟨some d,op,ty,pos,aft,some (j,b)⟩) (e:ops[j]?.bind (·.dst)=some t) (h:get E t=some (.bool b)) (f:yR kd i=2) (c:Nat.blt d n=true):AtQ n D Φ K w (zU prog .any ops B' kd Qp q (.q i p)) E E d op B' (zU prog .any ops B' kd Qp q p):=⟨fun _ _ g k a J=>d_qg J hi e h f (fun w l=>g a ty w J l) c k⟩
end
def q1y:List Nat->Nat->Nat
 | [],_=>0
 | x::_,0=>x
 | _::l,i+1=>q1y l i
def setAt:List Value->Nat->Value->List Value
 | [],_,_=>[]
 | _::l,0,v=>v::l
 | x::l,i+1,v=>x::setAt l i v
def q6z (zs:List Value) (os:List Nat):List (Nat×Value)->List Value
 | []=>zs
 | (i,v)::l=>q6z (setAt zs (q1y os i) v) os l
def j0p (zs:List Value) (os:List Nat):List (Nat×Value)->List Value
 | []=>zs
 | (i,v)::l=>j0p (jI zs (q1y os i) v.cells.toList) os l
def q0r (E:List (Nat×Value)):List Nat->Option (List (Nat×Value))
 | []=>some []
 | t::l=>match get E t,q0r E l with
  | some v,some r=>some ((t,v)::r)
  | _,_=>none
theorem y2x {E:List (Nat×Value)}:∀{ks:List Nat} {E1:List (Nat×Value)},q0r E ks=some E1->∀t v,get E1 t=some v->get E t=some v
 | [],E1,h,t,v,a=>by simp only [q0r,Option.some.injEq] at h;subst h;cases a
 | k::ks,E1,h,t,v,a=>by
  simp only [q0r] at h
  split at h
  ·rename_i u r b c
   simp only [Option.some.injEq] at h
   subst h
   rcases xR a with ⟨rfl,rfl⟩ | ⟨_,a⟩
   ·exact b
   ·exact y2x c t v a
  ·cases h
def eput:List (Nat×Value)->List (Nat×Value)->List (Nat×Value)
 | [],E=>E
 | x::X,E=>x::eput X E
def q1q:List Res->Nat->Option (Res×List Res)
 | [],_=>none
 | r::K,0=>some (r,K)
 | r::K,i+1=>match q1q K i with
  | some (x,K')=>some (x,r::K')
  | none=>none
theorem j4d {K:List Res} {i:Nat} {r:Res} {K':List Res} (h:q1q K i=some (r,K')):yV K i=some r/\K'=cX K i:=by
 induction K generalizing i K' with
 | nil=>cases h
 | cons x K c=>cases i with
  | zero=>simp only [q1q,Option.some.injEq,Prod.mk.injEq] at h;exact ⟨by rw [<- h.1];rfl,h.2.symm⟩
  | succ i=>
   simp only [q1q] at h
   split at h
   ·rename_i y K1 a
    simp only [Option.some.injEq,Prod.mk.injEq] at h
    obtain ⟨rfl,rfl⟩:=h
    obtain ⟨b,rfl⟩:=c a
    exact ⟨b,rfl⟩
   ·cases h
def z8z:List Res->List Nat->Option (List Res)
 | K,[]=>some K
 | K,i::l=>match q1q K i with
  | some (r,K')=>z8z (r::K') l
  | none=>none
theorem q6r {Φ:Fz} {K K':List Res} {w:World} (l:List Nat) (h:z8z K l=some K') (N:Mem Φ K w):Mem Φ K' w:=by
 induction l generalizing K with
 | nil=>simp only [z8z,Option.some.injEq] at h;exact h▸N
 | cons i l c=>
  simp only [z8z] at h
  split at h
  ·rename_i r K1 a
   obtain ⟨b,rfl⟩:=j4d a
   exact c h (N.pull b)
  ·cases h
def flat:List (Nat×Value)->List Value
 | []=>[]
 | (_,v)::l=>v.cells.toList++flat l
def planOp:Nat->Nat->Plan->Plan
 | 0,i,p=>.e i p
 | _+1,i,p=>.q i p
class BzT (t:TypeId) (zs:outParam (List Value)) (os:outParam (List Nat)):Prop where h:True
instance:BzT 180 [.int .i64 ((0:Nat):Int),.int .i64 ((0:Nat):Int)] [0,1]:=⟨trivial⟩
instance:BzT 204 [.int .i64 ((0:Nat):Int),.int .i64 ((0:Nat):Int),.string ⟨#[]⟩,.int .i64 ((0:Nat):Int)] [0,1,2,3]:=⟨trivial⟩
instance:BzT 292 [.int .u64 ((0:Nat):Int),.int .u64 ((0:Nat):Int),.int .u64 ((0:Nat):Int),.int .u64 ((0:Nat):Int),.int .u64 ((0:Nat):Int),.int .u64 ((0:Nat):Int),.int .u64 ((0:Nat):Int),.int .u64 ((0:Nat):Int),.int .u64 ((0:Nat):Int),.int .u64 ((0:Nat):Int),.int .u64 ((0:Nat):Int),.int .u64 ((0:Nat):Int),.int .u64 ((0:Nat):Int),.int .u64 ((0:Nat):Int),.int .u64 ((0:Nat):Int),.int .u64 ((0:Nat):Int),.int .u64 ((0:Nat):Int),.int .u64 ((0:Nat):Int),.int .u64 ((0:Nat):Int),.int .u64 ((0:Nat):Int)] [0,1,2,3,4,5,6,7,8,9,10,11,12,13,14,15,16,17,18,19]:=⟨trivial⟩
instance:BzT 232 [.string ⟨#[]⟩,.int .i64 ((0:Nat):Int)] [0,1]:=⟨trivial⟩
instance:BzT 235 [.string ⟨#[]⟩,.int .i64 ((0:Nat):Int),.map none,.slice none 0 0] [0,2,3]:=⟨trivial⟩
instance:BzT 236 [.string ⟨#[]⟩,.string ⟨#[]⟩,.string ⟨#[]⟩,.string ⟨#[]⟩,.string ⟨#[]⟩,.string ⟨#[]⟩,.string ⟨#[]⟩,.string ⟨#[]⟩,.string ⟨#[]⟩,.string ⟨#[]⟩,.string ⟨#[]⟩,.string ⟨#[]⟩,.string ⟨#[]⟩,.string ⟨#[]⟩,.string ⟨#[]⟩] [0,1,2,3,4,5,6,7,8,9,10,11,12,13,14]:=⟨trivial⟩
instance:BzT 260 [.int .i64 ((0:Nat):Int),.int .i64 ((0:Nat):Int)] [0,1]:=⟨trivial⟩
instance:BzT 318 [.int .u8 ((0:Nat):Int),.int .u8 ((0:Nat):Int),.int .u8 ((0:Nat):Int),.int .u8 ((0:Nat):Int),.int .u8 ((0:Nat):Int),.int .u8 ((0:Nat):Int),.int .u8 ((0:Nat):Int),.int .u8 ((0:Nat):Int),.int .u8 ((0:Nat):Int),.int .u8 ((0:Nat):Int),.int .u8 ((0:Nat):Int),.int .u8 ((0:Nat):Int),.int .u8 ((0:Nat):Int),.int .u8 ((0:Nat):Int),.int .u8 ((0:Nat):Int),.int .u8 ((0:Nat):Int),.int .u8 ((0:Nat):Int),.int .u8 ((0:Nat):Int),.int .u8 ((0:Nat):Int),.int .u8 ((0:Nat):Int),.int .u8 ((0:Nat):Int),.int .u8 ((0:Nat):Int),.int .u8 ((0:Nat):Int),.int .u8 ((0:Nat):Int),.int .u8 ((0:Nat):Int),.int .u8 ((0:Nat):Int),.int .u8 ((0:Nat):Int),.int .u8 ((0:Nat):Int),.int .u8 ((0:Nat):Int),.int .u8 ((0:Nat):Int),.int .u8 ((0:Nat):Int),.int .u8 ((0:Nat):Int)] [0,1,2,3,4,5,6,7,8,9,10,11,12,13,14,15,16,17,18,19,20,21,22,23,24,25,26,27,28,29,30,31]:=⟨trivial⟩
instance:BzT 319 [.int .u8 ((0:Nat):Int),.int .u8 ((0:Nat):Int),.int .u8 ((0:Nat):Int),.int .u8 ((0:Nat):Int),.int .u8 ((0:Nat):Int),.int .u8 ((0:Nat):Int),.int .u8 ((0:Nat):Int),.int .u8 ((0:Nat):Int),.int .u8 ((0:Nat):Int),.int .u8 ((0:Nat):Int),.int .u8 ((0:Nat):Int),.int .u8 ((0:Nat):Int),.int .u8 ((0:Nat):Int),.int .u8 ((0:Nat):Int),.int .u8 ((0:Nat):Int),.int .u8 ((0:Nat):Int),.int .u8 ((0:Nat):Int),.int .u8 ((0:Nat):Int),.int .u8 ((0:Nat):Int),.int .u8 ((0:Nat):Int),.int .u8 ((0:Nat):Int),.int .u8 ((0:Nat):Int),.int .u8 ((0:Nat):Int),.int .u8 ((0:Nat):Int),.int .u8 ((0:Nat):Int),.int .u8 ((0:Nat):Int),.int .u8 ((0:Nat):Int),.int .u8 ((0:Nat):Int),.int .u8 ((0:Nat):Int),.int .u8 ((0:Nat):Int),.int .u8 ((0:Nat):Int),.int .u8 ((0:Nat):Int),.int .u8 ((0:Nat):Int),.int .u8 ((0:Nat):Int),.int .u8 ((0:Nat):Int),.int .u8 ((0:Nat):Int),.int .u8 ((0:Nat):Int),.int .u8 ((0:Nat):Int),.int .u8 ((0:Nat):Int),.int .u8 ((0:Nat):Int),.int .u8 ((0:Nat):Int),.int .u8 ((0:Nat):Int),.int .u8 ((0:Nat):Int),.int .u8 ((0:Nat):Int),.int .u8 ((0:Nat):Int),.int .u8 ((0:Nat):Int),.int .u8 ((0:Nat):Int),.int .u8 ((0:Nat):Int),.int .u8 ((0:Nat):Int),.int .u8 ((0:Nat):Int),.int .u8 ((0:Nat):Int),.int .u8 ((0:Nat):Int),.int .u8 ((0:Nat):Int),.int .u8 ((0:Nat):Int),.int .u8 ((0:Nat):Int),.int .u8 ((0:Nat):Int),.int .u8 ((0:Nat):Int),.int .u8 ((0:Nat):Int),.int .u8 ((0:Nat):Int),.int .u8 ((0:Nat):Int),.int .u8 ((0:Nat):Int),.int .u8 ((0:Nat):Int),.int .u8 ((0:Nat):Int),.int .u8 ((0:Nat):Int)] [0,1,2,3,4,5,6,7,8,9,10,11,12,13,14,15,16,17,18,19,20,21,22,23,24,25,26,27,28,29,30,31,32,33,34,35,36,37,38,39,40,41,42,43,44,45,46,47,48,49,50,51,52,53,54,55,56,57,58,59,60,61,62,63]:=⟨trivial⟩
instance:BzT 309 [.string ⟨#[]⟩,.string ⟨#[]⟩,.nilIface] [0,1,2]:=⟨trivial⟩
instance:BzT 323 [.string ⟨#[]⟩] [0]:=⟨trivial⟩
instance:BzT 316 [.int .u8 ((0:Nat):Int),.int .u8 ((0:Nat):Int)] [0,1]:=⟨trivial⟩
instance:BzT 317 [.int .u8 ((0:Nat):Int),.int .u8 ((0:Nat):Int),.int .u8 ((0:Nat):Int),.int .u8 ((0:Nat):Int),.int .u8 ((0:Nat):Int),.int .u8 ((0:Nat):Int),.int .u8 ((0:Nat):Int),.int .u8 ((0:Nat):Int),.int .u8 ((0:Nat):Int),.int .u8 ((0:Nat):Int),.int .u8 ((0:Nat):Int),.int .u8 ((0:Nat):Int),.int .u8 ((0:Nat):Int),.int .u8 ((0:Nat):Int),.int .u8 ((0:Nat):Int),.int .u8 ((0:Nat):Int),.int .u8 ((0:Nat):Int),.int .u8 ((0:Nat):Int),.int .u8 ((0:Nat):Int),.int .u8 ((0:Nat):Int),.int .u8 ((0:Nat):Int),.int .u8 ((0:Nat):Int),.int .u8 ((0:Nat):Int),.int .u8 ((0:Nat):Int),.int .u8 ((0:Nat):Int),.int .u8 ((0:Nat):Int),.int .u8 ((0:Nat):Int),.int .u8 ((0:Nat):Int),.int .u8 ((0:Nat):Int),.int .u8 ((0:Nat):Int),.int .u8 ((0:Nat):Int),.int .u8 ((0:Nat):Int)] [0,2,4,6,8,10,12,14,16,18,20,22,24,26,28,30]:=⟨trivial⟩
instance:BzT 209 [.string ⟨#[]⟩,.int .i64 ((0:Nat):Int),.slice none 0 0] [0,1,2]:=⟨trivial⟩
def y8z:Nat->List Nat->Plan
 | _,[]=>.done
 | i,k::l=>planOp k i (y8z (i+1) l)
section
variable {n:Nat} {D:List Deferred} {Φ Φ':Fz} {K K':List Res} {a:Act} {w:World} {A B:Act->World->Prop} {E E':List (Nat×Value)} {d:Nat} {b:Bool} {op:Op} {S W:World->Prop} {Qp:List PanicEntry->World->Prop} {f:FuncId} {X:Value} {xs:Array Operand} {ts:Array TypeId} {vs fs cs:List Value} {y0:Operand} {R:Ending->World->Prop}
theorem nfK {K K':List Res} (h:K=K':=by first | (dsimp only [kS,uM,cX,uL,jI,z0r];try rfl;all_goals fail) | rfl):K=K':=h
theorem lnS {S:Prop} (h:S:=by first | exact trivial | (intro hl;first | exact N.sn (Fz.Le.refl _) | exact N.sn (by first | assumption | exact Fz.Le.trans (by assumption) (by assumption)) | exact jM (by kernel_rfl) hl)):S:=h
theorem lnG {S:Prop} (h:S:=by first | exact trivial | (intro hl;first | exact N.sn (Fz.Le.refl _) | exact N.sn hG | exact N.sn hG.1 | exact N.sn (Fz.Le.trans (by assumption) hG) | exact N.sn (Fz.Le.trans (by assumption) hG.1) | exact N.sn (by first | assumption | exact Fz.Le.trans (by assumption) (by assumption)) | exact jM (by kernel_rfl) hl)):S:=h
theorem y5r {v:Value} (h:v.cells.toList=vs:=by first | with_reducible exact q8v _ | with_reducible exact q8x _ _ | with_reducible exact y5o _ | with_reducible exact q9a _ | with_reducible exact q8z _ | with_reducible exact c_sl _ _ _ | with_reducible exact q8y _ | with_reducible exact q8w _ _ _ | exact Sees.gsCells (i:=0) N.toSees rfl | exact Sees.gsCells (i:=1) N.toSees rfl | exact Sees.gsCells (i:=2) N.toSees rfl | exact Sees.gsCells (i:=3) N.toSees rfl | exact Sees.gsCells (i:=4) N.toSees rfl | exact Sees.gsCells (i:=5) N.toSees rfl | exact Sees.gsCells (i:=6) N.toSees rfl | exact Sees.gsCells (i:=7) N.toSees rfl | exact Sees.gsCells (i:=8) N.toSees rfl | exact Sees.gsCells (i:=9) N.toSees rfl | exact Sees.gsCells (i:=10) N.toSees rfl | exact Sees.gsCells (i:=11) N.toSees rfl | exact q8v _ | exact q8x _ _ | exact y5o _ | exact q9a _ | exact q8z _ | exact c_sl _ _ _ | exact q8y _ | exact q8w _ _ _):v.cells.toList=vs:=h
theorem oneC (h:vs.all Value.oneCell'=true:=by first | rfl | exact Sees.gsOne (i:=0) N.toSees rfl | exact Sees.gsOne (i:=1) N.toSees rfl | exact Sees.gsOne (i:=2) N.toSees rfl | exact Sees.gsOne (i:=3) N.toSees rfl | exact Sees.gsOne (i:=4) N.toSees rfl | exact Sees.gsOne (i:=5) N.toSees rfl | exact Sees.gsOne (i:=6) N.toSees rfl | exact Sees.gsOne (i:=7) N.toSees rfl | exact Sees.gsOne (i:=8) N.toSees rfl | exact Sees.gsOne (i:=9) N.toSees rfl | exact Sees.gsOne (i:=10) N.toSees rfl | exact Sees.gsOne (i:=11) N.toSees rfl):vs.all Value.oneCell'=true:=h
theorem mV (a:AtE n D Φ K w A E E' d op S B Qp:=by ((with_reducible apply e_go);(exact goGo);first | ((with_reducible apply e_st);rfl) | ((with_reducible apply e_dp);rfl;rfl;rfl) | ((with_reducible apply e_gy);rfl;rfl;rfl) | ((with_reducible apply e_dg);rfl;rfl;rfl;rfl;rfl))):AtE n D Φ K w A E E' d op S B Qp:=a
theorem y5m (a:AtE0 n D Φ K w A E E' op S B Qp:=by ((with_reducible apply e0_go);(exact goGo);first | (with_reducible apply e0_st) | ((with_reducible apply e0_dp);rfl;rfl) | ((with_reducible apply e0_gy);rfl;rfl) | ((with_reducible apply e0_dg);rfl;rfl;rfl;rfl))):AtE0 n D Φ K w A E E' op S B Qp:=a
theorem q4w (a:AtQ n D Φ K w A E E' d op W B:=by ((with_reducible apply q_go);(exact goGo);first | ((with_reducible apply q_st);rfl) | ((with_reducible apply q_d1);rfl;rfl;rfl) | ((with_reducible apply q_d2);rfl;rfl;rfl) | ((with_reducible apply q_gy);rfl;rfl;rfl) | ((with_reducible apply q_d1g);rfl;rfl;rfl;rfl;rfl) | ((with_reducible apply q_d2g);rfl;rfl;rfl;rfl;rfl))):AtQ n D Φ K w A E E' d op W B:=a
theorem zF (j:∀args w,(callFunc f args).run prog w=.ok (.enter f args) w) (k:∀w,Mem Φ' K' w->∀a,EnvR n ((d,X)::E') D a->B a w) (J:EnvR n E D a:=by exact J) (N:Mem Φ K w:=by exact N) (b:AtE n D Φ K w A E E' d (.call { callee:=.value (.func f),args:=xs,argTypes:=ts }) S B Qp:=by exact mV) (l:evs E' xs.toList=some vs:=by rfl) (c:Calls prog f vs.toArray w (fun e w'=>e=.returned X/\Mem Φ' K' w')) (i:∀w,Mem Φ' K' w->S w:=by intro w N;exact lnS):A a w :=
 b.h N.toSees (fun a ty pos aft g J=>z3q J l j c fun w N=>⟨i w N,fun a J=>k w N a J⟩) a J
theorem nL (k:∀args w,(callFunc f args).run prog w=.ok (.enter f args) w) (kt:b=true->∀w,Mem Φ' K' w->∀a,EnvR n ((d,.bool true)::E') D a->B a w) (kf:b=false->∀w,Mem Φ' K' w->∀a,EnvR n ((d,.bool false)::E') D a->B a w) (J:EnvR n E D a:=by exact J) (N:Mem Φ K w:=by exact N) (j:AtE n D Φ K w A E E' d (.call { callee:=.value (.func f),args:=xs,argTypes:=ts }) S B Qp:=by exact mV) (l:evs E' xs.toList=some vs:=by rfl) (c:Calls prog f vs.toArray w (fun e w'=>e=.returned (.bool b)/\Mem Φ' K' w')) (i:∀w,Mem Φ' K' w->S w:=by intro w N;exact lnS):A a w :=
 j.h N.toSees (fun a ty pos aft g J=>j3i J l k c (fun hb w N=>⟨i w N,fun a J=>kt hb w N a J⟩) (fun hb w N=>⟨i w N,fun a J=>kf hb w N a J⟩)) a J
theorem FunB (k:∀args w,(callFunc f args).run prog w=.ok (.enter f args) w) (kt:b=true->∀w,Mem Φ' K' w->∀a,EnvR n ((d,.bool true)::E') D a->B a w) (kf:b=false->∀w,Mem Φ' K' w->∀a,EnvR n ((d,.bool false)::E') D a->B a w) (J:EnvR n E D a:=by exact J) (N:Mem Φ K w:=by exact N) (j:AtE n D Φ K w A E E' d (.call { callee:=.value y0,args:=xs,argTypes:=ts }) S B Qp:=by exact mV) (m:ev E' y0=some (.func (.func f) fs.toArray cs.toArray):=by rfl) (l:evs E' xs.toList=some vs:=by rfl) (c:Calls prog f (fs++vs++cs).toArray w (fun e w'=>e=.returned (.bool b)/\Mem Φ' K' w')) (i:∀w,Mem Φ' K' w->S w:=by intro w N;exact lnS):A a w :=
 j.h N.toSees (fun a ty pos aft g J=>q5y J m l k c (fun hb w N=>⟨i w N,fun a J=>kt hb w N a J⟩) (fun hb w N=>⟨i w N,fun a J=>kf hb w N a J⟩)) a J
theorem yF {β:Type} {X:β->Value} {F1:β->Fz} {KO:β->List Res} {G:β->Prop} (j:∀args w,(callFunc f args).run prog w=.ok (.enter f args) w) (k:∀y w,G y->Mem (F1 y) (KO y) w->∀a,EnvR n ((d,X y)::E') D a->B a w) (J:EnvR n E D a:=by exact J) (N:Mem Φ K w:=by exact N) (b:AtE n D Φ K w A E E' d (.call { callee:=.value (.func f),args:=xs,argTypes:=ts }) S B Qp:=by exact mV) (l:evs E' xs.toList=some vs:=by rfl) (c:Calls prog f vs.toArray w (fun e w'=>∃y,e=.returned (X y)/\G y/\Mem (F1 y) (KO y) w')) (i:∀y w,G y->Mem (F1 y) (KO y) w->S w:=by intro y w hG N;exact lnG):A a w :=
 b.h N.toSees (fun a ty pos aft g J=>tR J l j c fun y w hG N=>⟨i y w hG N,fun a J=>k y w hG N a J⟩) a J
theorem yG {α ε:Type} {r:Except ε α} {X:α->Value} {C:ε->List PanicEntry} {b i:Fz} {KO:α->List Res} {KE:List Res} (p:∀args w,(callFunc f args).run prog w=.ok (.enter f args) w) (k:∀x w,r=.ok x->Mem b (KO x) w->∀a,EnvR n ((d,X x)::E') D a->B a w) (kp:∀c w,r=.error c->Mem i KE w->R (.panicked (C c)) w) {fn:Func} {Q0:Exit->Act->World->Prop} (hQ:∀e a w,bodyPost prog fn R e a w->Q0 e a w:=by exact hQ) (J:EnvR n E D a:=by exact J) (N:Mem Φ K w:=by exact N) (j:AtE n D Φ K w A E E' d (.call { callee:=.value (.func f),args:=xs,argTypes:=ts }) S B Qp:=by exact mV) (q:evs E' xs.toList=some vs:=by rfl)
  (c:Calls prog f vs.toArray w (fun e w'=>Out r (fun x=>e=.returned (X x)/\Mem b (KO x) w') (fun c=>e=.panicked (C c)/\Mem i KE w'))) (m:∀x w,r=.ok x->Mem b (KO x) w->S w:=by intro x w hq N;exact lnS) (l:∀c w,(∀a,a.defers=[]->Q0 (.panic c) a w)->Qp c w:=by exact fun _ _ h=>h):A a w :=
 j.h N.toSees (fun a ty pos aft g J=>aZ J q p c (fun x w hq N=>⟨m x w hq N,fun a J=>k x w hq N a J⟩) (fun c w hq N=>l _ _ fun _ o=>hQ _ _ _ (zS o (kp c w hq N)))) a J
theorem cZ {α β ε:Type} {r:Except ε α} {X:α->β->Value} {C:ε->List PanicEntry} {F1:α->β->Fz} {b:Fz} {KO:α->β->List Res} {KE:List Res} {G:α->β->Prop} (o:∀args w,(callFunc f args).run prog w=.ok (.enter f args) w) (k:∀x y w,r=.ok x->G x y->Mem (F1 x y) (KO x y) w->∀a,EnvR n ((d,X x y)::E') D a->B a w) (kp:∀c w,r=.error c->Mem b KE w->R (.panicked (C c)) w) {fn:Func} {Q0:Exit->Act->World->Prop} (hQ:∀e a w,bodyPost prog fn R e a w->Q0 e a w:=by exact hQ) (J:EnvR n E D a:=by exact J) (N:Mem Φ K w:=by exact N) (i:AtE n D Φ K w A E E' d (.call { callee:=.value (.func f),args:=xs,argTypes:=ts }) S B Qp:=by exact mV) (p:evs E' xs.toList=some vs:=by rfl)
  (c:Calls prog f vs.toArray w (fun e w'=>Out r (fun x=>∃y,e=.returned (X x y)/\G x y/\Mem (F1 x y) (KO x y) w') (fun c=>e=.panicked (C c)/\Mem b KE w'))) (l:∀x y w,r=.ok x->G x y->Mem (F1 x y) (KO x y) w->S w:=by intro x y w hq hG N;exact lnG) (j:∀c w,(∀a,a.defers=[]->Q0 (.panic c) a w)->Qp c w:=by exact fun _ _ h=>h):A a w :=
 i.h N.toSees (fun a ty pos aft g J=>wA J p o c (fun x y w hq hG N=>⟨l x y w hq hG N,fun a J=>k x y w hq hG N a J⟩) (fun c w hq N=>j _ _ fun _ m=>hQ _ _ _ (zS m (kp c w hq N)))) a J
theorem Sto (i:Nat) {x y:Operand} {T T0:TypeId} {b off k:Nat} {v:Value} (kk:∀w,Mem Φ K' w->∀a,EnvR n E' D a->B a w) (J:EnvR n E D a:=by exact J) (N:Mem Φ K w:=by exact N) (e:AtE0 n D Φ K w A E E' (.store T x y) S B Qp:=by exact y5m) (j:SzT T k:=by infer_instance)
  (p:ev E' x=some (.pointer (some ⟨b,off,none⟩)):=by rfl) (q:ev E' y=some v:=by rfl) (o:yV K i=some (.blk b (ob cs T0)):=by rfl) (l:v.cells.toList=vs:=by exact y5r) (hl:vs.length=k:=by rfl)
  (d:vs.all Value.oneCell'=true:=by exact oneC) (m:Nat.ble (off+vs.length) cs.length=true:=by rfl) (c:kS K i (.blk b (ob (jI cs off vs) T0))=K':=by exact nfK) (f:∀w,Mem Φ K' w->S w:=by intro w N;exact lnS):A a w :=
 e.h N.toSees (fun a ty pos aft g J=>zQ i J N p q o l j.h hl d m fun w N=>⟨f w (c▸N),fun a J=>kk w (c▸N) a J⟩) a J
theorem Alc {T:TypeId} (k:∀b w,Mem Φ (.blk b (ob cs T)::K) w->∀a,EnvR n ((d,.pointer (some ⟨b,0,none⟩))::E') D a->B a w) (J:EnvR n E D a:=by exact J) (N:Mem Φ K w:=by exact N) (f:AtE n D Φ K w A E E' d (.alloc T) S B Qp:=by exact mV) (j:ZeT T cs:=by infer_instance) (i:∀b w,Mem Φ (.blk b (ob cs T)::K) w->S w:=by intro y w N;exact lnS):A a w :=
 let ⟨_,c,e⟩:=j.h
 f.h N.toSees (fun a ty pos aft g J=>qP N c e fun b w N=>⟨i b w N,fun a J=>k b w N a J⟩) a J
theorem Bx {T:TypeId} {x:Operand} {v:Value} (k:∀b w,Mem Φ (.blk b (ob cs T)::K) w->∀a,EnvR n ((d,.pointer (some ⟨b,0,none⟩))::E') D a->B a w) (J:EnvR n E D a:=by exact J) (N:Mem Φ K w:=by exact N) (c:AtE n D Φ K w A E E' d (.box T x) S B Qp:=by exact mV) (i:ev E' x=some v:=by rfl) (f:v.cells.toList=cs:=by exact y5r)
  (e:∀b w,Mem Φ (.blk b (ob cs T)::K) w->S w:=by intro y w N;exact lnS):A a w:=c.h N.toSees (fun a ty pos aft g J=>eff_box J N i f fun b w N=>⟨e b w N,fun a J=>k b w N a J⟩) a J
theorem MkM {t:TypeId} (k:∀b w,Mem Φ (.mp b []::K) w->∀a,EnvR n ((d,.map (some b))::E') D a->B a w) (J:EnvR n E D a:=by exact J) (N:Mem Φ K w:=by exact N) (c:AtE n D Φ K w A E E' d (.makeMap t none) S B Qp:=by exact mV) (e:∀b w,Mem Φ (.mp b []::K) w->S w:=by intro y w N;exact lnS):A a w :=
 c.h N.toSees (fun a ty pos aft g J=>q0p N fun b w N=>⟨e b w N,fun a J=>k b w N a J⟩) a J
theorem uF (i:Nat) {t kt et:TypeId} {x y z:Operand} {b:Nat} {m:List (Bs×Value)} {s:Bs} {v:Value} (l:Under prog t (.map kt et)) (c:Under prog kt .string) (k:∀w,Mem Φ K' w->∀a,EnvR n E' D a->B a w) (J:EnvR n E D a:=by exact J) (N:Mem Φ K w:=by exact N) (e:AtE0 n D Φ K w A E E' (.mapUpdate t x y z) S B Qp:=by exact y5m)
  (o:ev E' x=some (.map (some b)):=by rfl) (p:ev E' y=some (.string s):=by rfl) (q:ev E' z=some v:=by rfl) (j:yV K i=some (.mp b m):=by rfl) (d:kS K i (.mp b (z0p m s v))=K':=by exact nfK) (f:∀w,Mem Φ K' w->S w:=by intro w N;exact lnS):A a w :=
 e.h N.toSees (fun a ty pos aft g J=>uI i l c J N o p q j fun w N=>⟨f w (d▸N),fun a J=>k w (d▸N) a J⟩) a J
theorem vL (i:Nat) {s x:Operand} {t e:TypeId} {size bytes:Nat} {v vx:Value} {rs news:List Value} {K':Value->List Res} (l:RowT prog t e size bytes) (k:∀v w,Mem Φ (K' v) w->∀a,EnvR n ((d,v)::E') D a->B a w) (J:EnvR n E D a:=by exact J) (N:Mem Φ K w:=by exact N) (f:AtE n D Φ K w A E E' d (.call { callee:=.builtin .append,args:=#[s,x],argTypes:=#[t,t] }) S B Qp:=by exact mV)
  (O:ev E' s=some v:=by rfl) (m:yV K i=some (.gs v e size rs):=by rfl) (p:ev E' x=some vx:=by rfl) (o:y2i w vx size news:=by first | exact Sees.rowIn (i:=0) N.toSees rfl | exact Sees.rowIn (i:=1) N.toSees rfl | exact Sees.rowIn (i:=2) N.toSees rfl | exact Sees.rowIn (i:=3) N.toSees rfl) (c:news.all Value.oneCell'=true:=by rfl) (hb:(rs.length+news.length) * bytes<=140737488355328:=by first | (rw [jR];simp only [lcQ,lnQ];omega) | (have h_:=hch.length;rw [h_];simp only [lcQ,lnQ];omega) | (simp only [wT,lcQ,lnQ];omega) | (simp only [lcQ,lnQ];omega)) (b:∀v,kS K i (.gs v e size (rs++news))=K' v:=by intro v;exact nfK)
  (j:∀v w,Mem Φ (K' v) w->S w:=by intro y w N;exact lnS):A a w:=f.h N.toSees (fun a ty pos aft g J=>wM i l J N O m p o c hb fun v w N=>⟨j v w (b v▸N),fun a J=>k v w (b v▸N) a J⟩) a J
theorem qG {t e:TypeId} {len sz:Nat} {ps:Array (Nat×Operand)} {vs:List (Nat×Value)} {zs:List Value} (k:∀v w,Mem Φ (.gs v e sz cs::K) w->∀a,EnvR n ((d,v)::E') D a->B a w) (J:EnvR n E D a:=by exact J) (N:Mem Φ K w:=by exact N) (l:AtE n D Φ K w A E E' d (.buildSlice t len ps) S B Qp:=by exact mV) (r:SlT t e:=by infer_instance) (O:SzT e sz:=by infer_instance) (u:ZeT e zs:=by infer_instance)
  (q:evp E' ps.toList=some vs:=by rfl) (C:flat vs=cs:=by first | (simp only [flat,q8v,q8x,y5o,q9a,q8z,c_sl,q8y,q8w,List.cons_append,List.nil_append,List.append_nil];try rfl;all_goals fail) | fail) (p:Nat.ble (len * sz) 16777216=true:=by rfl) (b:len * sz≠0:=by decide)
  (o:Instr.fill (fun i=>some (i * sz,sz)) ((List.range (len * sz)).map (fun x=>zs[x % zs.length]!)).toArray vs=some cs.toArray:=by kernel_rfl) (hl:cs.length=len * sz:=by rfl) (s:len<=maxLen:=by decide)
  (m:∀v w,Mem Φ (.gs v e sz cs::K) w->S w:=by intro y w N;exact lnS):A a w:=by
 obtain ⟨z,c,f⟩:=u.h
 have j:z.cells=zs.toArray:=by rw [<- f]
 exact l.h N.toSees (fun a ty pos aft g J=>yY J N q (pG r.h O.h c p b (by rw [j];simpa using o)) hl s fun v w N _=>⟨m v w N,fun a J=>k v w N a J⟩) a J
theorem Qq {v:Value} (k:∀a,EnvR n ((d,v)::E') D a->B a w) (J:EnvR n E D a:=by exact J) (N:Mem Φ K w:=by exact N) (e:AtQ n D Φ K w A E E' d op W B:=by exact q4w) (o:∀{a ty w},EnvR n E' D a->W w->Ok prog a op ty w v):A a w:=e.h N.toSees v (fun _ _ _ b c=>o b c) k a J
theorem BldT {t:TypeId} {ps:Array (Nat×Operand)} {vs:List (Nat×Value)} {zs:List Value} {os:List Nat} (k:∀a,EnvR n ((d,.agg cs.toArray)::E') D a->B a w) (J:EnvR n E D a:=by exact J) (N:Mem Φ K w:=by exact N) (b:AtQ n D Φ K w A E E' d (.build t ps) W B:=by exact q4w) (f:BzT t zs os:=by infer_instance) (c:evp E' ps.toList=some vs:=by rfl)
  (e:j0p zs os vs=cs:=by first | (simp only [j0p,q1y,q8v,q8x,y5o,q9a,q8z,c_sl,q8y,q8w,jI,z0r];try rfl;all_goals fail) | (simp only [j0p];try rfl;all_goals fail) | fail) (hb:prog.built t vs=some cs.toArray:=by kernel_rfl):A a w:=b.h N.toSees _ (fun _ _ _ J _=>jP J c hb) k a J
theorem yE {t:TypeId} {ps:Array (Nat×Operand)} {vs:List (Nat×Value)} {zs:List Value} {os:List Nat} (k:∀a,EnvR n ((d,.agg cs.toArray)::E') D a->B a w) (J:EnvR n E D a:=by exact J) (N:Mem Φ K w:=by exact N) (b:AtQ n D Φ K w A E E' d (.build t ps) W B:=by exact q4w) (f:BzT t zs os:=by infer_instance) (c:evp E' ps.toList=some vs:=by rfl)
  (e:q6z zs os vs=cs:=by first | (dsimp only [q6z,q1y,setAt];try rfl;all_goals fail) | fail) (hb:prog.built t vs=some cs.toArray:=by kernel_rfl):A a w:=b.h N.toSees _ (fun _ _ _ J _=>jP J c hb) k a J
theorem Reg {id:Nat} {l:List Oper} {p:Plan} {Q:Exit->Act->World->Prop} (kd:List Nat) (is:List Nat) (h:∀w,Mem Φ K w->∀a,EnvR n E' D a->zU prog .any l.toArray (Sees Φ (z9v K is)) kd (fun c w=>∀a,a.defers=D->Q (.panic c) a w) (Q .normal) p a w) (J:EnvR n E D a:=by exact J) (N:Mem Φ K w:=by exact N)
  (d:Go2 n D Φ K w A E ((Code.region id l.toArray true).wp prog Q) E':=by exact goGo) (f:y8z 0 kd=p:=by first | (dsimp only [y8z,planOp];try rfl;all_goals fail) | fail) (b:sZ l.toArray kd p=true:=by kernel_rfl):A a w :=
 d.h N.toSees (fun a J=>dN kd p _ J N mixed b (fun r e=>tW e) (fun w N=>h w N a J)) a J
theorem yK {fn:Func} {t:Nat} {v:Value} {Q:Exit->Act->World->Prop} (h:R (.returned v) w) (hQ:∀e a w,bodyPost prog fn R e a w->Q e a w:=by exact hQ) (J:EnvR n E [] a:=by exact J) (N:Mem Φ K w:=by exact N) (b:Go2 n [] Φ K w A E (Q .ret) E':=by exact goGo) (c:fn.results=#[.tmp t]:=by rfl) (d:get E' t=some v:=by rfl):A a w:=b.h N.toSees (fun a J=>hQ _ _ _ (ret1 J c d h)) a J
theorem z3k {fn:Func} {t u:Nat} {v x:Value} {Q:Exit->Act->World->Prop} (h:R (.returned (.tuple #[v,x])) w) (hQ:∀e a w,bodyPost prog fn R e a w->Q e a w:=by exact hQ) (J:EnvR n E [] a:=by exact J) (N:Mem Φ K w:=by exact N) (b:Go2 n [] Φ K w A E (Q .ret) E':=by exact goGo) (c:fn.results=#[.tmp t,.tmp u]:=by rfl) (d:get E' t=some v:=by rfl) (f:get E' u=some x:=by rfl):A a w:=b.h N.toSees (fun a J=>hQ _ _ _ (ret2 J c d f h)) a J
theorem kE {fn:Func} {t T b k i:Nat} {T0:TypeId} {Q:Exit->Act->World->Prop} (h:R (.returned (.agg cs.toArray)) w) (hQ:∀e a w,bodyPost prog fn R e a w->Q e a w:=by exact hQ) (J:EnvR n E [] a:=by exact J) (N:Mem Φ K w:=by exact N) (c:Go2 n [] Φ K w A E (Q .ret) E':=by exact goGo) (j:fn.results=#[.cell t T]:=by rfl) (l:get E' t=some (.pointer (some ⟨b,0,none⟩)):=by rfl)
  (g:yV K i=some (.blk b (ob cs T0)):=by first | exact (rfl:yV _ 0=_) | exact (rfl:yV _ 1=_) | exact (rfl:yV _ 2=_) | exact (rfl:yV _ 3=_) | exact (rfl:yV _ 4=_) | exact (rfl:yV _ 5=_) | exact (rfl:yV _ 6=_) | exact (rfl:yV _ 7=_) | exact (rfl:yV _ 8=_) | exact (rfl:yV _ 9=_) | exact (rfl:yV _ 10=_) | exact (rfl:yV _ 11=_)) (f:AgT T:=by infer_instance) (d:SzT T k:=by infer_instance) (hl:cs.length=k:=by rfl):A a w:=c.h N.toSees (fun a J=>hQ _ _ _ (retcA J N.toSees j l g f.h d.h hl h)) a J
theorem zJ {fn:Func} {f:FuncId} {cd:Code} (b:prog.funcs[f]? = some fn) (c:fn.ntmps=n) (k:∀Q:Exit->Act->World->Prop,(∀e a w,bodyPost prog fn R e a w->Q e a w)->∀a,EnvR n (aO 0 vs) [] a->cd.wp prog Q a w) (hb:fn.body=some cd:=by rfl) (hl:Nat.ble vs.length n=true:=by rfl):Calls prog f vs.toArray w R:=enter b hb c hl k
theorem EnvR.pk {E0:List (Nat×Value)} (J:EnvR n E D a) (h:Sub E0 E:=by repeat' (first | exact trivial | rfl | constructor)):EnvR n E0 D a:=J.of_sub h
theorem EnvR.ks (J:EnvR n E D a) (ks:List Nat) {E1:List (Nat×Value)} (h:q0r E ks=some E1:=by rfl):EnvR n E1 D a:=J.sub (y2x h)
theorem qD {Q:Exit->Act->World->Prop} {c:Code} {E1:List (Nat×Value)} (_:EnvR n E1 D a) (_:Mem Φ K w) (I:(Fz->List (Nat×Value)->List (Nat×Res)->Act->World->Prop)->Nat->Act->World->Prop) (b:Nat)
  (d:I (fun Ψ X Y a w=>EnvR n (eput X E1) D a/\Mem Ψ (uM K Y) w) b a w)
  (hb:∀m a w,I (fun Ψ X Y a w=>EnvR n (eput X E1) D a/\Mem Ψ (uM K Y) w) m a w->∀L:Act->World->Prop,(∀m' a w,m' < m->I (fun Ψ X Y a w=>EnvR n (eput X E1) D a/\Mem Ψ (uM K Y) w) m' a w->L a w)->c.wp prog (Exit.then L Q) a w) :
  (Code.loop c).wp prog Q a w:=pX (I _) b d hb
theorem Mem.ar (N:Mem Φ K w) (ds is:List Nat) (h:z8z (uL K ds) is=some K':=by rfl):Mem Φ K' w:=q6r is h (y3m N ds)
theorem mN {x y:Bool} {M:Prop} (N:M) (h:x=y):Ending.returned (.bool x)=Ending.returned (.bool y)/\M:=⟨h▸rfl,N⟩
theorem ret_s {x y:Bs} {M:Prop} (N:M) (h:x=y):Ending.returned (.string x)=Ending.returned (.string y)/\M:=⟨h▸rfl,N⟩
theorem y4i {x y:Int} {k:IntKind} {M:Prop} (N:M) (h:x=y):Ending.returned (.int k x)=Ending.returned (.int k y)/\M:=⟨h▸rfl,N⟩
end
section
variable {Φ Ψ:Fz}
class MonoF {α:Type} (R:Fz->List Value->α->Prop):Prop where h:∀Φ Ψ c x,Φ.Le Ψ->R Φ c x->R Ψ c x
instance:MonoF RVal:=⟨RVal.mono⟩
instance:MonoF REx:=⟨REx.mono⟩
instance:MonoF RArm:=⟨RArm.mono⟩
instance:MonoF RStr:=⟨RStr.mono⟩
instance:MonoF RParam:=⟨RParam.mono⟩
instance:MonoF RCon:=⟨RCon.mono⟩
instance:MonoF RData:=⟨RData.mono⟩
instance:MonoF RFun:=⟨RFun.mono⟩
instance:MonoF RMaker:=⟨RMaker.mono⟩
instance:MonoF RNamed:=⟨RNamed.mono⟩
theorem SliceOf.up {α:Type} {R:Fz->List Value->α->Prop} [MonoF R] {k:Nat} {v:Value} {xs:List α} (h:SliceOf R Φ k v xs) (hl:Φ.Le Ψ):SliceOf R Ψ k v xs:=h.mono MonoF.h hl
theorem SliceOf.fm {α:Type} {R:Fz->List Value->α->Prop} {k:Nat} {v:Value} {xs:List α} (h:SliceOf R Φ k v xs) (a:0 < k:=by decide):∃p c,v=.slice p xs.length c/\xs.length<=9223372036854775807/\(xs≠[]->∃q,p=some q):=h.form a
theorem REx.fm {cs:List Value} {x:Ex} (h:REx Φ cs x):∃p c q d,cs=[.int .i64 x.kind,.int .i64 x.num,.string x.name,.slice p x.args.length c,.slice q x.arms.length d]/\I64 x.num/\SliceOf REx Φ 5 (.slice p x.args.length c) x.args/\SliceOf RArm Φ 7 (.slice q x.arms.length d) x.arms /\
  x.args.length<=9223372036854775807/\(x.args≠[]->∃q,p=some q)/\x.arms.length<=9223372036854775807/\(x.arms≠[]->∃p,q=some p):=by
 obtain ⟨s,t,rfl,e,a,b⟩:=REx.iff.1 h
 obtain ⟨p,c,rfl,f,g⟩:=a.fm
 obtain ⟨q,d,rfl,i,j⟩:=b.fm
 exact ⟨p,c,q,d,rfl,e,a,b,f,g,i,j⟩
theorem RVal.fm {cs:List Value} {x:Val} (h:RVal Φ cs x):∃p c,cs=[.string x.con,.int .i64 x.num,.slice p x.args.length c]/\I64 x.num/\SliceOf RVal Φ 3 (.slice p x.args.length c) x.args/\x.args.length<=9223372036854775807/\(x.args≠[]->∃q,p=some q):=by
 obtain ⟨s,rfl,b,a⟩:=RVal.iff.1 h
 obtain ⟨p,c,rfl,d,e⟩:=a.fm
 exact ⟨p,c,rfl,b,a,d,e⟩
theorem RCore.fm {cs:List Value} {x:Core} (h:RCore Φ cs x):∃p1 c p2 c2 a c3 b c4,cs=[.slice p1 x.datas.length c,.slice p2 x.inputs.length c2,.slice a x.funs.length c3,.slice b x.outputs.length c4] /\
  SliceOf RData Φ 2 (.slice p1 x.datas.length c) x.datas/\SliceOf RParam Φ 2 (.slice p2 x.inputs.length c2) x.inputs/\SliceOf RFun Φ 8 (.slice a x.funs.length c3) x.funs/\SliceOf RStr Φ 1 (.slice b x.outputs.length c4) x.outputs /\
  x.datas.length<=9223372036854775807/\(x.datas≠[]->∃q,p1=some q)/\x.inputs.length<=9223372036854775807/\(x.inputs≠[]->∃q,p2=some q)/\x.funs.length<=9223372036854775807/\(x.funs≠[]->∃q,a=some q)/\x.outputs.length<=9223372036854775807/\(x.outputs≠[]->∃q,b=some q):=by
 obtain ⟨s,t,u,v,rfl,d,e,f,g⟩:=h
 obtain ⟨p1,c,rfl,i,j⟩:=d.fm
 obtain ⟨p2,c2,rfl,a2,k⟩:=e.fm
 obtain ⟨a,c3,rfl,a3,l⟩:=f.fm
 obtain ⟨b,c4,rfl,a4,m⟩:=g.fm
 exact ⟨p1,c,p2,c2,a,c3,b,c4,rfl,d,e,f,g,i,j,a2,k,a3,l,a4,m⟩
theorem SliceOf.el {α:Type} {R:Fz->List Value->α->Prop} {k m c i:Nat} {p:Option Addr} {xs:List α} (h:SliceOf R Φ k (.slice p m c) xs) (e:xs≠[]->∃q,p=some q) (a:i < xs.length) (d:0 < k:=by decide) :
  ∃q,p=some q/\∃x,xs[i]? = some x/\∃cs,cs.length=k/\At Φ (q.add (i * k)) cs/\R Φ cs x:=by
 obtain ⟨q,rfl⟩:=e (zO a)
 obtain ⟨x,b⟩:=zW a
 exact ⟨q,rfl,x,b,h.elem b d⟩
end
end Go.Sw

namespace Go.Sw
open Go.Proofs
instance:ScT 4:=⟨Tryz.isAgg4⟩
instance:SzT 4 1:=⟨Tryz.sizeOf4⟩
end Go.Sw

namespace Go.Sw
open Go.Proofs.Tryz
open Go.Proofs
theorem fo_26_0:zG prog 26 0 0:=zA runUnderlying26 rfl sizeOf22 (by decide) rfl
theorem fo_26_1:zG prog 26 1 1:=zA runUnderlying26 rfl sizeOf23 (by decide) rfl
theorem fo_26_2:zG prog 26 2 2:=zA runUnderlying26 rfl sizeOf24 (by decide) rfl
theorem fo_26_3:zG prog 26 3 3:=zA runUnderlying26 rfl sizeOf23 (by decide) rfl
theorem fo_36_0:zG prog 36 0 0:=zA runUnderlying36 rfl sizeOf3 (by decide) rfl
theorem fo_36_1:zG prog 36 1 1:=zA runUnderlying36 rfl sizeOf3 (by decide) rfl
theorem fo_36_2:zG prog 36 2 2:=zA runUnderlying36 rfl sizeOf34 (by decide) rfl
theorem fo_36_3:zG prog 36 3 3:=zA runUnderlying36 rfl sizeOf3 (by decide) rfl
theorem q9i:zG prog 48 0 0:=zA runUnderlying48 rfl sizeOf3 (by decide) rfl
theorem fo_48_1:zG prog 48 1 1:=zA runUnderlying48 rfl sizeOf9 (by decide) rfl
theorem fo_48_2:zG prog 48 2 2:=zA runUnderlying48 rfl sizeOf9 (by decide) rfl
theorem fo_48_3:zG prog 48 3 3:=zA runUnderlying48 rfl sizeOf3 (by decide) rfl
theorem fo_48_4:zG prog 48 4 4:=zA runUnderlying48 rfl sizeOf3 (by decide) rfl
theorem q9j:zG prog 48 5 5:=zA runUnderlying48 rfl sizeOf44 (by decide) rfl
theorem fo_48_6:zG prog 48 6 6:=zA runUnderlying48 rfl sizeOf45 (by decide) rfl
theorem q9k:zG prog 48 7 7:=zA runUnderlying48 rfl sizeOf46 (by decide) rfl
theorem fo_50_0:zG prog 50 0 0:=zA runUnderlying50 rfl sizeOf9 (by decide) rfl
theorem fo_50_1:zG prog 50 1 1:=zA runUnderlying50 rfl sizeOf4 (by decide) rfl
theorem fo_50_2:zG prog 50 2 2:=zA runUnderlying50 rfl sizeOf43 (by decide) rfl
theorem fo_50_3:zG prog 50 3 3:=zA runUnderlying50 rfl sizeOf48 (by decide) rfl
theorem fo_68_0:zG prog 68 0 0:=zA runUnderlying68 rfl sizeOf27 (by decide) rfl
theorem q9l:zG prog 75 0 0:=zA runUnderlying75 rfl sizeOf9 (by decide) rfl
theorem fo_75_1:zG prog 75 1 1:=zA runUnderlying75 rfl sizeOf3 (by decide) rfl
theorem y5x:zG prog 79 0 0:=zA runUnderlying79 rfl sizeOf9 (by decide) rfl
theorem y5y:zG prog 79 1 1:=zA runUnderlying79 rfl sizeOf23 (by decide) rfl
theorem fo_79_2:zG prog 79 2 2:=zA runUnderlying79 rfl sizeOf48 (by decide) rfl
theorem fo_85_0:zG prog 85 0 0:=zA runUnderlying85 rfl sizeOf9 (by decide) rfl
theorem fo_85_1:zG prog 85 1 1:=zA runUnderlying85 rfl sizeOf9 (by decide) rfl
theorem fo_85_2:zG prog 85 2 2:=zA runUnderlying85 rfl sizeOf83 (by decide) rfl
theorem q9m:zG prog 90 0 0:=zA runUnderlying90 rfl sizeOf34 (by decide) rfl
theorem q9n:zG prog 90 1 1:=zA runUnderlying90 rfl sizeOf87 (by decide) rfl
theorem z6r:zG prog 90 2 2:=zA runUnderlying90 rfl sizeOf88 (by decide) rfl
theorem j7l:zG prog 101 0 0:=zA runUnderlying101 rfl sizeOf97 (by decide) rfl
theorem j7m:zG prog 101 1 1:=zA runUnderlying101 rfl sizeOf63 (by decide) rfl
theorem j7n:zG prog 101 2 2:=zA runUnderlying101 rfl sizeOf98 (by decide) rfl
theorem j7o:zG prog 101 3 3:=zA runUnderlying101 rfl sizeOf99 (by decide) rfl
theorem j7p:zG prog 109 0 0:=zA runUnderlying109 rfl sizeOf26 (by decide) rfl
theorem j7q:zG prog 109 1 4:=zA runUnderlying109 rfl sizeOf98 (by decide) rfl
theorem j7r:zG prog 118 0 0:=zA runUnderlying118 rfl sizeOf26 (by decide) rfl
theorem j7s:zG prog 118 1 4:=zA runUnderlying118 rfl sizeOf3 (by decide) rfl
theorem j7t:zG prog 118 2 5:=zA runUnderlying118 rfl sizeOf83 (by decide) rfl
theorem j7u:zG prog 125 0 0:=zA runUnderlying125 rfl sizeOf9 (by decide) rfl
theorem j7v:zG prog 125 1 1:=zA runUnderlying125 rfl sizeOf4 (by decide) rfl
theorem j7w:zG prog 135 0 0:=zA runUnderlying135 rfl sizeOf130 (by decide) rfl
theorem j7x:zG prog 135 1 1:=zA runUnderlying135 rfl sizeOf3 (by decide) rfl
theorem j7y:zG prog 135 2 2:=zA runUnderlying135 rfl sizeOf3 (by decide) rfl
theorem j7z:zG prog 137 0 0:=zA runUnderlying137 rfl sizeOf28 (by decide) rfl
theorem j8a:zG prog 137 1 1:=zA runUnderlying137 rfl sizeOf3 (by decide) rfl
theorem j8b:zG prog 160 0 0:=zA runUnderlying160 rfl sizeOf26 (by decide) rfl
theorem j8c:zG prog 160 1 4:=zA runUnderlying160 rfl sizeOf98 (by decide) rfl
theorem j8d:zG prog 160 2 5:=zA runUnderlying160 rfl sizeOf98 (by decide) rfl
theorem j8e:zG prog 160 3 6:=zA runUnderlying160 rfl sizeOf158 (by decide) rfl
theorem j8f:zG prog 168 0 0:=zA runUnderlying168 rfl sizeOf9 (by decide) rfl
theorem j8g:zG prog 168 1 1:=zA runUnderlying168 rfl sizeOf4 (by decide) rfl
theorem j8h:zG prog 168 2 2:=zA runUnderlying168 rfl sizeOf122 (by decide) rfl
theorem j8k:zG prog 199 0 0:=zA runUnderlying199 rfl sizeOf105 (by decide) rfl
theorem j8l:zG prog 199 1 1:=zA runUnderlying199 rfl sizeOf97 (by decide) rfl
theorem j8m:zG prog 199 2 2:=zA runUnderlying199 rfl sizeOf98 (by decide) rfl
theorem j8n:zG prog 199 3 3:=zA runUnderlying199 rfl sizeOf98 (by decide) rfl
theorem j8o:zG prog 199 4 4:=zA runUnderlying199 rfl sizeOf43 (by decide) rfl
theorem j8q:zG prog 204 1 1:=zA runUnderlying204 rfl sizeOf3 (by decide) rfl
theorem j8s:zG prog 204 3 3:=zA runUnderlying204 rfl sizeOf3 (by decide) rfl
set_option maxRecDepth 20000 in
theorem j0t:RowT prog 43 125 2 24:=⟨underlying43,⟨_,_,Tryz.type125,rfl,rfl,rfl,rfl⟩,by decide,by decide⟩
set_option maxRecDepth 20000 in
theorem j0v:RowT prog 83 4 1 1:=⟨underlying83,⟨_,_,Tryz.type4,rfl,rfl,rfl,rfl⟩,by decide,by decide⟩
set_option maxRecDepth 20000 in
theorem q3i:RowT prog 24 50 11 176:=⟨underlying24,⟨_,_,Tryz.type50,rfl,rfl,rfl,rfl⟩,by decide,by decide⟩
set_option maxRecDepth 20000 in
theorem rt_27:RowT prog 27 36 4 48:=⟨underlying27,⟨_,_,Tryz.type36,rfl,rfl,rfl,rfl⟩,by decide,by decide⟩
set_option maxRecDepth 20000 in
theorem j0u:RowT prog 44 75 2 24:=⟨underlying44,⟨_,_,Tryz.type75,rfl,rfl,rfl,rfl⟩,by decide,by decide⟩
set_option maxRecDepth 20000 in
theorem q3j:RowT prog 45 79 10 168:=⟨underlying45,⟨_,_,Tryz.type79,rfl,rfl,rfl,rfl⟩,by decide,by decide⟩
set_option maxRecDepth 20000 in
theorem rt_46:RowT prog 46 48 8 128:=⟨underlying46,⟨_,_,Tryz.type48,rfl,rfl,rfl,rfl⟩,by decide,by decide⟩
set_option maxRecDepth 20000 in
theorem aM:RowT prog 87 88 1 8:=⟨underlying87,⟨_,_,Tryz.type88,rfl,rfl,rfl,rfl⟩,by decide,by decide⟩
end Go.Sw

namespace Go.Sw
open Go.Proofs
theorem j8i:zG Tryz.prog 180 0 0:=zA Tryz.runUnderlying180 rfl Tryz.sizeOf3 (by decide) rfl
set_option maxRecDepth 20000 in
theorem rt_22:RowT Tryz.prog 22 85 3 56:=⟨Tryz.underlying22,⟨_,_,Tryz.type85,rfl,rfl,rfl,rfl⟩,by decide,by decide⟩
end Go.Sw

namespace Go.Sw
structure Atom where
 name:Bs
 num:Int
deriving DecidableEq
mutual
inductive TE where
 | mk (kind:Int) (name op:Bs) (num site:Int) (args:List Atom) (arms:List TA) (body:List TE)
inductive TA where
 | mk (con:Bs) (vars:List Bs) (body:TE)
end
namespace TE
def kind:TE->Int | .mk k _ _ _ _ _ _ _=>k
def name:TE->Bs | .mk _ s _ _ _ _ _ _=>s
def op:TE->Bs | .mk _ _ s _ _ _ _ _=>s
def num:TE->Int | .mk _ _ _ n _ _ _ _=>n
def site:TE->Int | .mk _ _ _ _ n _ _ _=>n
def args:TE->List Atom | .mk _ _ _ _ _ a _ _=>a
def arms:TE->List TA | .mk _ _ _ _ _ _ a _=>a
def body:TE->List TE | .mk _ _ _ _ _ _ _ b=>b
end TE
namespace TA
def con:TA->Bs | .mk c _ _=>c
def vars:TA->List Bs | .mk _ v _=>v
def body:TA->TE | .mk _ _ b=>b
end TA
structure TCon where
 name:Bs
 type:Bs
 fields:List Bool
structure TPar where
 name:Bs
 mod:Bool
structure TFn where
 name:Bs
 chg:Bool
 params:List TPar
 body:TE
structure Trc where
 cons:List TCon
 inputs:List Bs
 funs:List TFn
 outputs:List Bs
structure Rw where
 rule:Int
 fn:Int
 path:List Int
 num:Int
def RBoo (_:Fz) (cs:List Value) (x:Bool):Prop:=cs=[.bool x]
theorem RBoo.mono (Φ Ψ:Fz) (c:List Value) (x:Bool) (_:Φ.Le Ψ) (h:RBoo Φ c x):RBoo Ψ c x:=h
def RAtom (_:Fz) (cs:List Value) (x:Atom):Prop:=cs=[.string x.name,.int .i64 x.num]/\I64 x.num
theorem RAtom.mono (Φ Ψ:Fz) (c:List Value) (x:Atom) (_:Φ.Le Ψ) (h:RAtom Φ c x):RAtom Ψ c x:=h
mutual
def RTE' (Φ:Fz):TE->List Value->Prop
 | .mk kind name op num site args arms body,cs=>∃s t u f g,cs=[.int .i64 kind,.string name,.string op,.int .i64 num,.int .i64 site,s,t,u]/\I64 num/\I64 site/\SliceOf RAtom Φ 2 s args/\Row Φ t 10 f/\RTAs' Φ arms f/\Row Φ u 8 g/\RTEs' Φ body g
def RTEs' (Φ:Fz):List TE->List Value->Prop
 | [],cs=>cs=[]
 | x::xs,cs=>∃c rest,cs=c++rest/\c.length=8/\RTE' Φ x c/\RTEs' Φ xs rest
def RTA' (Φ:Fz):TA->List Value->Prop
 | .mk con vars body,cs=>∃s b,cs=.string con::s::b/\b.length=8/\SliceOf RStr Φ 1 s vars/\RTE' Φ body b
def RTAs' (Φ:Fz):List TA->List Value->Prop
 | [],cs=>cs=[]
 | x::xs,cs=>∃c rest,cs=c++rest/\c.length=10/\RTA' Φ x c/\RTAs' Φ xs rest
end
def RTE (Φ:Fz) (cs:List Value) (x:TE):Prop:=RTE' Φ x cs
def RTA (Φ:Fz) (cs:List Value) (x:TA):Prop:=RTA' Φ x cs
theorem RTEs'.iff {Φ:Fz}:∀{xs:List TE} {cs:List Value},RTEs' Φ xs cs↔Chunks (RTE Φ) 8 cs xs
 | [],cs=>by simp only [RTEs',Chunks]
 | x::xs,cs=>by simp only [RTEs',Chunks,RTEs'.iff (xs:=xs),RTE]
theorem RTAs'.iff {Φ:Fz}:∀{xs:List TA} {cs:List Value},RTAs' Φ xs cs↔Chunks (RTA Φ) 10 cs xs
 | [],cs=>by simp only [RTAs',Chunks]
 | x::xs,cs=>by simp only [RTAs',Chunks,RTAs'.iff (xs:=xs),RTA]
theorem RTE.iff {Φ:Fz} {cs:List Value} {x:TE}:RTE Φ cs x↔∃s t u,cs=[.int .i64 x.kind,.string x.name,.string x.op,.int .i64 x.num,.int .i64 x.site,s,t,u]/\I64 x.num/\I64 x.site/\SliceOf RAtom Φ 2 s x.args/\SliceOf RTA Φ 10 t x.arms/\SliceOf RTE Φ 8 u x.body:=by
 cases x with
 | mk kind name op num site args arms body=>
  simp only [RTE,RTE',RTEs'.iff,RTAs'.iff,TE.kind,TE.num,TE.name,TE.op,TE.site,TE.args,TE.arms,TE.body,SliceOf]
  constructor
  ·rintro ⟨s,t,u,f,g,a,b,c,d,e,h,i,j⟩;exact ⟨s,t,u,a,b,c,d,⟨f,e,h⟩,g,i,j⟩
  ·rintro ⟨s,t,u,a,b,c,d,⟨f,e,h⟩,g,i,j⟩;exact ⟨s,t,u,f,g,a,b,c,d,e,h,i,j⟩
theorem RTA.iff {Φ:Fz} {cs:List Value} {x:TA}:RTA Φ cs x↔∃s b,cs=.string x.con::s::b/\SliceOf RStr Φ 1 s x.vars/\RTE Φ b x.body:=by
 cases x with
 | mk con vars body=>
  simp only [RTA,RTA',TA.con,TA.vars,TA.body,RTE]
  constructor
  ·rintro ⟨s,b,c,_,d,a⟩;exact ⟨s,b,c,d,a⟩
  ·rintro ⟨s,b,c,d,a⟩
   refine ⟨s,b,c,?_,d,a⟩
   obtain ⟨s,t,u,rfl,_⟩:=RTE.iff.1 (show RTE Φ b body from a)
   rfl
mutual
theorem RTE'.mono {Φ Ψ:Fz} (hl:Φ.Le Ψ):∀{x:TE} {cs:List Value},RTE' Φ x cs->RTE' Ψ x cs
 | .mk _ _ _ _ _ _ _ _,_,⟨s,t,u,f,g,a,d,e,i,j,k,l,m⟩=>⟨s,t,u,f,g,a,d,e,i.mono RAtom.mono hl,j.mono hl,RTAs'.mono hl k,l.mono hl,RTEs'.mono hl m⟩
theorem RTEs'.mono {Φ Ψ:Fz} (hl:Φ.Le Ψ):∀{xs:List TE} {cs:List Value},RTEs' Φ xs cs->RTEs' Ψ xs cs
 | [],_,h=>h
 | _::_,_,⟨c,rest,a,d,e,i⟩=>⟨c,rest,a,d,RTE'.mono hl e,RTEs'.mono hl i⟩
theorem RTA'.mono {Φ Ψ:Fz} (hl:Φ.Le Ψ):∀{x:TA} {cs:List Value},RTA' Φ x cs->RTA' Ψ x cs
 | .mk _ _ _,_,⟨s,b,a,d,e,i⟩=>⟨s,b,a,d,e.mono RStr.mono hl,RTE'.mono hl i⟩
theorem RTAs'.mono {Φ Ψ:Fz} (hl:Φ.Le Ψ):∀{xs:List TA} {cs:List Value},RTAs' Φ xs cs->RTAs' Ψ xs cs
 | [],_,h=>h
 | _::_,_,⟨c,rest,a,d,e,i⟩=>⟨c,rest,a,d,RTA'.mono hl e,RTAs'.mono hl i⟩
end
theorem RTE.mono (Φ Ψ:Fz) (c:List Value) (x:TE) (hl:Φ.Le Ψ) (h:RTE Φ c x):RTE Ψ c x:=RTE'.mono hl h
theorem RTA.mono (Φ Ψ:Fz) (c:List Value) (x:TA) (hl:Φ.Le Ψ) (h:RTA Φ c x):RTA Ψ c x:=RTA'.mono hl h
def RTCon (Φ:Fz) (cs:List Value) (x:TCon):Prop:=∃s,cs=[.string x.name,.string x.type,s]/\SliceOf RBoo Φ 1 s x.fields
theorem RTCon.mono (Φ Ψ:Fz) (c:List Value) (x:TCon) (hl:Φ.Le Ψ) (h:RTCon Φ c x):RTCon Ψ c x:=let ⟨s,a,b⟩:=h;⟨s,a,b.mono RBoo.mono hl⟩
def RTPar (_:Fz) (cs:List Value) (x:TPar):Prop:=cs=[.string x.name,.bool x.mod]
theorem RTPar.mono (Φ Ψ:Fz) (c:List Value) (x:TPar) (_:Φ.Le Ψ) (h:RTPar Φ c x):RTPar Ψ c x:=h
def RTFn (Φ:Fz) (cs:List Value) (x:TFn):Prop:=∃s b,cs=.string x.name::.bool x.chg::s::b/\SliceOf RTPar Φ 2 s x.params/\RTE Φ b x.body
theorem RTFn.mono (Φ Ψ:Fz) (c:List Value) (x:TFn) (hl:Φ.Le Ψ) (h:RTFn Φ c x):RTFn Ψ c x:=let ⟨s,b,a,d,e⟩:=h;⟨s,b,a,d.mono RTPar.mono hl,RTE.mono _ _ _ _ hl e⟩
def z0c:Value->Prop
 | .slice _ m c=>m<=c
 | _=>False
def RTrc (Φ:Fz) (cs:List Value) (x:Trc):Prop :=
 ∃s t u v,cs=[s,t,u,v]/\z0c t/\SliceOf RTCon Φ 3 s x.cons/\SliceOf RStr Φ 1 t x.inputs/\SliceOf RTFn Φ 11 u x.funs/\SliceOf RStr Φ 1 v x.outputs
theorem RTrc.mono (Φ Ψ:Fz) (c:List Value) (x:Trc) (hl:Φ.Le Ψ) (h:RTrc Φ c x):RTrc Ψ c x :=
 let ⟨s,t,u,v,b,a,d,e,f,g⟩:=h;⟨s,t,u,v,b,a,d.mono RTCon.mono hl,e.mono RStr.mono hl,f.mono RTFn.mono hl,g.mono RStr.mono hl⟩
end Go.Sw

namespace Go.Sw
abbrev Scope:=List (Bs×Bs)
def sNo:Bs:=⟨#[]⟩
end Go.Sw

namespace Go.Sw
variable {P:Program} {n:Nat} {E:List (Nat×Value)} {D:List Deferred} {a:Act} {Φ Ψ:Fz} {K:List Res} {w:World}
variable {dst:Option Tmp} {ty:TypeId} {pos:String} {aft:Array Edge} {g:Option (Nat×Bool)}
variable {Kn:Value->World->Prop} {Qp:List PanicEntry->World->Prop}
end Go.Sw

namespace Go.Sw
end Go.Sw

namespace Go.Sw
variable {P:Program}
section
variable {n:Nat} {E:List (Nat×Value)} {D:List Deferred} {a:Act} {w:World} {ops:Array Oper} {rest:List Oper} {Q:Exit->Act->World->Prop} {ty:TypeId} {pos:String} {aft:Array Edge}
end
section
variable {n:Nat} {E:List (Nat×Value)} {a:Act} {w:World} {Φ:Fz} {K:List Res}
end
end Go.Sw

namespace Go.Sw
open Go.Proofs
def q1m (n:Int):Bs:=⟨(Lib.itoa n).toArray⟩
def z9y (s old new:Bs):Bs:=⟨(Lib.replace s.data.toList old.data.toList new.data.toList 1).toArray⟩
def z4t (s:Bs):Except Unit Int:=match Lib.atoiAll s.data.toList with
 | .ok v=>.ok v
 | _=>.error ()
def z1p (n:Int):Bs:=z9y (q1m n) ⟨#[45]⟩ ⟨#[126]⟩
def dJ (s:Bs):Option Int:=match z4t (z9y s ⟨#[126]⟩ ⟨#[45]⟩) with
 | .ok v=>if z1p v=s then some v else none
 | .error _=>none
def vC (t:Bs) (pos:Nat):Nat:=if yW t pos=126 then 1 else 0
def xQ (t:Bs) (pos:Nat):Nat:=qB yU t t.size (pos+vC t pos)
def wZ (t:Bs) (pos:Nat):Bs:=t.extract pos (pos+(vC t pos+xQ t pos))
def sW (t:Bs) (pos:Nat):Except (Nat×Int) Tok :=
 match dJ (wZ t pos) with
 | none=>.error (pos,13)
 | some v=>
  if qQ (yW t (pos+(vC t pos+xQ t pos)))=true∨yW t (pos+(vC t pos+xQ t pos))=39 then .error (pos,13)
  else .ok ⟨1,v,wZ t pos,pos⟩
def z5j (c:Nat):Bool:=[40,41,44,59,58,124,61,60,43,45,42,47,37,95].contains c
def zV (t:Bs) (pos:Nat):Except (Nat×Int) Tok :=
 if yU (yW t pos)=true∨yW t pos=126 then sW t pos
 else if nD (yW t pos)=true then kK t pos 2
 else if dR (yW t pos)=true then kK t pos 3
 else if yW t pos=39/\nD (yW t (pos+1))=true then vO t pos 4 (1+qB qQ t t.size (pos+1))
 else if vV (t.extract pos t.size) ⟨#[61,62]⟩=true∨vV (t.extract pos t.size) ⟨#[45,62]⟩=true then vO t pos 6 2
 else if z5j (yW t pos)=true then vO t pos 6 1
 else .error (pos,11)
def gP (t:Bs):Nat->Nat->Except (Nat×Int) (List Tok)
 | 0,_=>.ok []
 | f+1,i=>
  match cM t i with
  | .error c=>.error c
  | .ok q=>if q < t.size then
    match zV t q with
    | .error c=>.error c
    | .ok k=>match gP t f (q+k.text.size) with
     | .error c=>.error c
     | .ok l=>.ok (k::l)
   else .ok []
def pC (t:Bs):Except (Nat×Int) (List Tok):=gP t (t.size+1) 0
def gI (s:Bs):Int :=
 if 24 < s.size then 0 else
 match pC s with
 | .ok [k]=>if k.text=s then k.kind else 0
 | _=>0
def wY (s:Bs):Bool:=decide (gI s=2)
def z0j (s:Bs):Bool:=decide (gI s=3)
end Go.Sw

namespace Go.Sw
def RCoreX (Φ:Fz) (cs:List Value) (x:Core) (v:Value):Prop :=
 ∃s t u q c,v=.slice q x.outputs.length c/\cs=[s,t,u,v]/\SliceOf RData Φ 2 s x.datas/\SliceOf RParam Φ 2 t x.inputs/\SliceOf RFun Φ 8 u x.funs
theorem RCore.x {Φ:Fz} {cs:List Value} {x:Core} (h:RCore Φ cs x):∃v,RCoreX Φ cs x v/\SliceOf RStr Φ 1 v x.outputs:=by
 obtain ⟨s,t,u,v,rfl,b,d,e,a⟩:=h
 obtain ⟨q,c,rfl,f,g⟩:=a.form (by decide)
 exact ⟨_,⟨s,t,u,q,c,rfl,rfl,b,d,e⟩,a⟩
theorem RCoreX.full {Φ:Fz} {cs:List Value} {x:Core} {v:Value} (h:RCoreX Φ cs x v) (e:SliceOf RStr Φ 1 v x.outputs):RCore Φ cs x:=by
 obtain ⟨s,t,u,q,c,_,rfl,a,b,d⟩:=h
 exact ⟨s,t,u,v,rfl,a,b,d,e⟩
theorem RCoreX.mono {Φ Ψ:Fz} {cs:List Value} {x:Core} {v:Value} (hl:Φ.Le Ψ) (h:RCoreX Φ cs x v):RCoreX Ψ cs x v:=by
 obtain ⟨s,t,u,q,c,e,rfl,a,b,d⟩:=h
 exact ⟨s,t,u,q,c,e,rfl,a.mono RData.mono hl,b.mono RParam.mono hl,d.mono RFun.mono hl⟩
end Go.Sw

namespace Go.Sw
open Go.Proofs
set_option maxRecDepth 20000
set_option maxHeartbeats 4000000
end Go.Sw

namespace Go.Sw
open Go.Proofs.Tryz
open Go.Proofs
set_option maxRecDepth 20000
set_option maxHeartbeats 4000000
variable {Φ:Fz} {K:List Res} {w:World}
theorem z8x {c:UInt8}  (N:Mem Φ K w) :
  Calls prog 206 #[.int .u8 c.toNat] w (fun ee w'=>ee=.returned (.bool (nD c.toNat))/\Mem Φ K w'):=by
 refine zJ func206 ntmps206 fun Q hQ a J=>?_
 by_cases b:97<=c.toNat
 refine Qq (fun a J=>?_) (o:=by exact fun J O=>mS (i:=c.toNat) (j:=122) J rfl rfl)
 refine yK ?_
 exact mN N (by simp [nD, *])
 refine yK ?_
 exact mN N (by simp [nD, *])
theorem z8w {c:UInt8}  (N:Mem Φ K w) :
  Calls prog 208 #[.int .u8 c.toNat] w (fun ee w'=>ee=.returned (.bool (dR c.toNat))/\Mem Φ K w'):=by
 refine zJ func208 ntmps208 fun Q hQ a J=>?_
 by_cases b:65<=c.toNat
 refine Qq (fun a J=>?_) (o:=by exact fun J O=>mS (i:=c.toNat) (j:=90) J rfl rfl)
 refine yK ?_
 exact mN N (by simp [dR, *])
 refine yK ?_
 exact mN N (by simp [dR, *])
theorem cK {c:UInt8}  (N:Mem Φ K w) :
  Calls prog 204 #[.int .u8 c.toNat] w (fun ee w'=>ee=.returned (.bool (yU c.toNat))/\Mem Φ K w'):=by
 refine zJ func204 ntmps204 fun Q hQ a J=>?_
 by_cases b:48<=c.toNat
 refine Qq (fun a J=>?_) (o:=by exact fun J O=>mS (i:=c.toNat) (j:=57) J rfl rfl)
 refine yK ?_
 exact mN N (by simp [yU, *])
 refine yK ?_
 exact mN N (by simp [yU, *])
theorem z3w {c:UInt8}  (N:Mem Φ K w) :
  Calls prog 210 #[.int .u8 c.toNat] w (fun ee w'=>ee=.returned (.bool (qQ c.toNat))/\Mem Φ K w'):=by
 refine zJ func210 ntmps210 fun Q hQ a J=>?_
 refine nL call206 (fun b w N a J=>?_) (fun b w N a J=>?_) (c:=z8x N)
 rotate_left
 refine nL call208 (fun d w N a J=>?_) (fun d w N a J=>?_) (c:=z8w N)
 rotate_left
 refine nL call204 (fun e w N a J=>?_) (fun e w N a J=>?_) (c:=cK N)
 rotate_left
 refine Qq (fun a J=>?_) (o:=by exact fun J O=>kW (i:=c.toNat) (j:=95) J rfl rfl)
 rotate_left
 all_goals (refine yK ?_;exact mN N (by simp [qQ, *]))
theorem q6o {c:UInt8}  (N:Mem Φ K w) :
  Calls prog 200 #[.int .u8 c.toNat] w (fun ee w'=>ee=.returned (.bool (jN c.toNat))/\Mem Φ K w'):=by
 refine zJ func200 ntmps200 fun Q hQ a J=>?_
 by_cases b:c.toNat=32
 rotate_left
 by_cases d:c.toNat=9
 rotate_left
 by_cases e:c.toNat=10
 rotate_left
 refine Qq (fun a J=>?_) (o:=by exact fun J O=>kW (i:=c.toNat) (j:=13) J rfl rfl)
 rotate_left
 all_goals (refine yK ?_;exact mN N (by simp [jN, *]))
theorem y1u {s:Bs} {p:Bs}  (N:Mem Φ K w) :
  Calls prog 223 #[.string s,.string p] w (fun ee w'=>ee=.returned (.bool (vV s p))/\Mem Φ K w'):=by
 refine zJ func223 ntmps223 fun Q hQ a J=>?_
 by_cases b:p.size<=s.size
 refine Qq (fun a J=>?_) (o:=by exact fun J O=>aD 0 (p.size) J rfl runUnderlying9 rfl ⟨_,rfl⟩ (by omega) (by omega))
 refine Qq (fun a J=>?_) (o:=by exact fun J O=>z3j J rfl rfl)
 refine yK ?_
 exact mN N (by simp [vV, *])
 refine yK ?_
 exact mN N (by simp [vV, *])
theorem y6g {s:Bs} {p:Bs}  (N:Mem Φ K w) :
  Calls prog 219 #[.string s,.string p] w (fun ee w'=>ee=.returned (.bool (vV s p))/\Mem Φ K w'):=by
 refine zJ func219 ntmps219 fun Q hQ a J=>?_
 refine zF call223 (fun w N a J=>?_) (c:=y1u N)
 refine yK ?_
 exact mN N (by rfl)
theorem z2n {t:Bs} {pos:Nat} {b:Nat} {rest:List Value} {T0:TypeId} {k:Nat}  (g:pos+k<=1000000000) (N:Mem Φ (.blk b (ob (.string t::.int .i64 pos::rest) T0)::K) w) :
  Calls prog 203 #[.pointer (some ⟨b,0,none⟩),.int .i64 (k:Int)] w (fun ee w'=>ee=.returned (.int .u8 ((yW t (pos+k):Nat):Int))/\Mem Φ (.blk b (ob (.string t::.int .i64 pos::rest) T0)::K) w'):=by
 refine zJ func203 ntmps203 fun Q hQ a J=>?_
 refine Reg [1,1,1,2,1,1,1,1,1,2,1,1] [0] fun w N a J=>?_
 refine Qq (fun a J=>?_) (o:=by exact fun J O=>vH (i:=pos) (j:=k) J rfl rfl (by omega))
 by_cases f:t.size<=(pos+k)
 refine yK ?_
 exact ⟨congrArg (fun x=>Ending.returned (.int .u8 ((x:Nat):Int))) (show 0=yW t (pos+k) by rw [z4w (by omega)]),N⟩
 refine Reg [1,1,1,2,1,1,1,2,1,1,1,1] [0] fun w N a J=>?_
 refine Qq (fun a J=>?_) (o:=by exact fun J O=>vH (i:=pos) (j:=k) J rfl rfl (by omega))
 have d:(pos+k) < t.size:=by omega
 obtain ⟨e,c⟩:=z7w d
 refine Qq (fun a J=>?_) (o:=by exact fun J O=>z5r (pos+k) e J rfl rfl runUnderlying9 c)
 refine yK ?_
 exact ⟨congrArg (fun x=>Ending.returned (.int .u8 ((x:Nat):Int))) (show e.toNat=yW t (pos+k) by rw [sG c]),N⟩
theorem nE {t:Bs} {pos:Nat} {b:Nat} {rest:List Value} {T0:TypeId} {s:Bs}  (d:pos<=t.size) (N:Mem Φ (.blk b (ob (.string t::.int .i64 pos::rest) T0)::K) w) :
  Calls prog 201 #[.pointer (some ⟨b,0,none⟩),.string s] w (fun ee w'=>ee=.returned (.bool (vV (t.extract pos t.size) s))/\Mem Φ (.blk b (ob (.string t::.int .i64 pos::rest) T0)::K) w'):=by
 refine zJ func201 ntmps201 fun Q hQ a J=>?_
 refine Reg [1,1,1,2,1,1,1,2,1,1,0,1] [0] fun w N a J=>?_
 refine Qq (fun a J=>?_) (o:=by exact fun J O=>aD pos (t.size) J rfl runUnderlying9 ⟨_,rfl⟩ rfl (by omega) (by exact Nat.le_refl _))
 refine zF call219 (fun w N a J=>?_) (c:=y6g N)
 refine yK ?_
 exact mN N (by rfl)
end Go.Sw

namespace Go.Sw
open Go.Proofs.Tryz
open Go.Proofs
set_option maxRecDepth 20000
set_option maxHeartbeats 4000000
theorem y8y {Φ:Fz} {K:List Res} {w:World} {t:Bs} {pos b k g:Nat} {rest fs cs:List Value} {T0:TypeId} {p:Nat->Bool} (s:∀args w,(callFunc g args).run prog w=.ok (.enter g args) w)
  (r:∀{w:World} (c:UInt8),Mem Φ (.blk b (ob (.string t::.int .i64 pos::rest) T0)::K) w->Calls prog g (fs++[Value.int .u8 c.toNat]++cs).toArray w (fun ee w'=>ee=.returned (.bool (p c.toNat))/\Mem Φ (.blk b (ob (.string t::.int .i64 pos::rest) T0)::K) w'))
  (y:pos+k<=t.size) (z:t.size<=1000000) (N:Mem Φ (.blk b (ob (.string t::.int .i64 pos::rest) T0)::K) w) :
  Calls prog 199 #[.pointer (some ⟨b,0,none⟩),.int .i64 k,.func (.func g) fs.toArray cs.toArray] w (fun ee w'=>ee=.returned (.int .i64 ((qB p t t.size (pos+k):Nat):Int))/\Mem Φ (.blk b (ob (.string t::.int .i64 pos::rest) T0)::K) w'):=by
 refine zJ func199 ntmps199 fun Q hQ a J=>?_
 refine go fun a J=>?_
 refine qD (J.ks [0,1,2]) N (fun R mm a w=>∃(j:Nat),mm=t.size - (pos+k+j)/\R Φ [(7,.int .i64 j)] [] a w/\(pos+k+j<=t.size/\qB p t t.size (pos+k)=qB p t t.size (pos+k+j)+j)) (t.size - (pos+k+0)) ⟨0,rfl,⟨J.pk,N⟩,by exact ⟨by omega,rfl⟩⟩ ?_
 clear N J
 rintro mm a w ⟨j,n,⟨J,N⟩,l⟩ v m
 obtain ⟨u,f⟩:=l
 refine Reg [1,1,1,2,1,1,1,1,1,1,1,2,1,1,1,1,1,1,1,2,1,1,1,2,1,1,1,1,1,0,1] [0] fun w N a J=>?_
 refine Qq (fun a J=>?_) (o:=by exact fun J O=>vH (i:=pos) (j:=k) J rfl rfl (by omega))
 refine Qq (fun a J=>?_) (o:=by exact fun J O=>vH (i:=(pos+k)) (j:=j) J rfl rfl (by omega))
 by_cases q:((pos+k)+j) < t.size
 refine Qq (fun a J=>?_) (o:=by exact fun J O=>vH (i:=pos) (j:=k) J rfl rfl (by omega))
 refine Qq (fun a J=>?_) (o:=by exact fun J O=>vH (i:=(pos+k)) (j:=j) J rfl rfl (by omega))
 obtain ⟨c9,e⟩:=z7w q
 refine Qq (fun a J=>?_) (o:=by exact fun J O=>z5r ((pos+k)+j) c9 J rfl rfl runUnderlying9 e)
 refine FunB s (fun d w N a J=>?_) (fun d w N a J=>?_) (c:=by exact r _ N)
 refine go fun a J=>?_
 refine m _ _ _ (by subst n;omega) ⟨(j+1),rfl,⟨J.pk,N⟩,?_⟩
 refine ⟨by omega,?_⟩
 rw [f,tX p t (pos+k+j),if_pos ⟨by omega,by rw [sG e];exact d⟩,show pos+k+(j+1)=pos+k+j+1 from rfl];omega
 refine yK ?_
 exact y4i N (by rw [f,tX,if_neg (by rintro ⟨_,h⟩;rw [sG e,d] at h;cases h)];omega)
 refine yK ?_
 exact y4i N (by rw [f,tX,if_neg (by omega)];omega)
theorem y8x {Φ:Fz} {K:List Res} {w:World} {t:Bs} {pos b g:Nat} {rest fs cs:List Value} {T0:TypeId} {p:Nat->Bool} (e:∀args w,(callFunc g args).run prog w=.ok (.enter g args) w)
  (d:∀{w:World} (c:UInt8),Mem Φ (.blk b (ob (.string t::.int .i64 pos::rest) T0)::K) w->Calls prog g (fs++[Value.int .u8 c.toNat]++cs).toArray w (fun ee w'=>ee=.returned (.bool (p c.toNat))/\Mem Φ (.blk b (ob (.string t::.int .i64 pos::rest) T0)::K) w'))
  (f:pos<=t.size) (a:t.size<=1000000) (N:Mem Φ (.blk b (ob (.string t::.int .i64 pos::rest) T0)::K) w) :
  Calls prog 199 #[.pointer (some ⟨b,0,none⟩),.int .i64 ((0:Nat):Int),.func (.func g) fs.toArray cs.toArray] w (fun ee w'=>ee=.returned (.int .i64 ((qB p t t.size pos:Nat):Int))/\Mem Φ (.blk b (ob (.string t::.int .i64 pos::rest) T0)::K) w') :=
 y8y (k:=0) e d (by omega) a N
end Go.Sw
