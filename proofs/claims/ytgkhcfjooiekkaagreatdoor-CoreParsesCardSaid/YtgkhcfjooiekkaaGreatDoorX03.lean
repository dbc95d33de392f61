import Derived.Test.YtgkhcfjooiekkaaGreatDoorX02
set_option linter.unusedVariables false
set_option linter.unusedSimpArgs false
namespace Go.Sw
open Go.Proofs Go.Proofs.Tryz
set_option maxRecDepth 20000
set_option maxHeartbeats 4000000
class ScT (t:TypeId):Prop where h:Scalar prog t
class AgT (t:TypeId):Prop where h:AggT prog t
class SzT (t:TypeId) (k:outParam Nat):Prop where h:SizeT prog t k
class SlT (t:TypeId) (e:outParam TypeId):Prop where h:Under prog t (.slice e)
class StT (t:TypeId):Prop where h:Under prog t .string
class FoT (s:TypeId) (f:Nat) (o:outParam Nat):Prop where h:zM prog s f o
instance:ScT 3:=⟨isAgg3⟩
instance:ScT 9:=⟨isAgg9⟩
instance:ScT 22:=⟨isAgg22⟩
instance:ScT 23:=⟨isAgg23⟩
instance:ScT 24:=⟨isAgg24⟩
instance:ScT 25:=⟨isAgg25⟩
instance:AgT 27:=⟨isAgg27⟩
instance:ScT 28:=⟨isAgg28⟩
instance:AgT 30:=⟨isAgg30⟩
instance:ScT 31:=⟨isAgg31⟩
instance:ScT 38:=⟨isAgg38⟩
instance:AgT 42:=⟨isAgg42⟩
instance:AgT 62:=⟨isAgg62⟩
instance:ScT 63:=⟨isAgg63⟩
instance:ScT 64:=⟨isAgg64⟩
instance:AgT 66:=⟨isAgg66⟩
instance:AgT 68:=⟨isAgg68⟩
instance:AgT 72:=⟨isAgg72⟩
instance:ScT 89:=⟨isAgg89⟩
instance:ScT 93:=⟨isAgg93⟩
instance:ScT 94:=⟨isAgg94⟩
instance:ScT 96:=⟨isAgg96⟩
instance:AgT 99:=⟨isAgg99⟩
instance:ScT 101:=⟨isAgg101⟩
instance:ScT 102:=⟨isAgg102⟩
instance:ScT 103:=⟨isAgg103⟩
instance:ScT 104:=⟨isAgg104⟩
instance:ScT 108:=⟨isAgg108⟩
instance:ScT 127:=⟨isAgg127⟩
instance:ScT 128:=⟨isAgg128⟩
instance:ScT 131:=⟨isAgg131⟩
instance:AgT 133:=⟨isAgg133⟩
instance:AgT 135:=⟨isAgg135⟩
instance:ScT 179:=⟨isAgg179⟩
instance:AgT 190:=⟨isAgg190⟩
instance:AgT 195:=⟨isAgg195⟩
instance:ScT 206:=⟨isAgg206⟩
instance:ScT 267:=⟨isAgg267⟩
instance:AgT 274:=⟨isAgg274⟩
instance:ScT 298:=⟨isAgg298⟩
instance:ScT 299:=⟨isAgg299⟩
instance:SzT 3 1:=⟨sizeOf3⟩
instance:SzT 5 1:=⟨sizeOf5⟩
instance:SzT 9 1:=⟨sizeOf9⟩
instance:SzT 22 1:=⟨sizeOf22⟩
instance:SzT 23 1:=⟨sizeOf23⟩
instance:SzT 24 1:=⟨sizeOf24⟩
instance:SzT 25 1:=⟨sizeOf25⟩
instance:SzT 27 4:=⟨sizeOf27⟩
instance:SzT 28 1:=⟨sizeOf28⟩
instance:SzT 30 2:=⟨sizeOf30⟩
instance:SzT 38 1:=⟨sizeOf38⟩
instance:SzT 42 3:=⟨sizeOf42⟩
instance:SzT 62 4:=⟨sizeOf62⟩
instance:SzT 63 1:=⟨sizeOf63⟩
instance:SzT 64 1:=⟨sizeOf64⟩
instance:SzT 66 5:=⟨sizeOf66⟩
instance:SzT 68 8:=⟨sizeOf68⟩
instance:SzT 72 2:=⟨sizeOf72⟩
instance:SzT 89 1:=⟨sizeOf89⟩
instance:SzT 93 1:=⟨sizeOf93⟩
instance:SzT 94 1:=⟨sizeOf94⟩
instance:SzT 99 4:=⟨sizeOf99⟩
instance:SzT 108 1:=⟨sizeOf108⟩
instance:SzT 127 1:=⟨sizeOf127⟩
instance:SzT 128 1:=⟨sizeOf128⟩
instance:SzT 131 1:=⟨sizeOf131⟩
instance:SzT 133 2:=⟨sizeOf133⟩
instance:SzT 135 2:=⟨sizeOf135⟩
instance:SzT 190 3:=⟨sizeOf190⟩
instance:SzT 195 7:=⟨sizeOf195⟩
instance:SzT 270 2:=⟨sizeOf270⟩
instance:SzT 274 4:=⟨sizeOf274⟩
instance:SzT 299 1:=⟨sizeOf299⟩
instance:SzT 314 2:=⟨sizeOf314⟩
instance:FoT 27 0 0:=⟨fo_27_0⟩
instance:FoT 27 1 1:=⟨fo_27_1⟩
instance:FoT 27 2 2:=⟨fo_27_2⟩
instance:FoT 27 3 3:=⟨fo_27_3⟩
instance:FoT 30 0 0:=⟨fo_30_0⟩
instance:FoT 30 1 1:=⟨fo_30_1⟩
instance:FoT 42 0 0:=⟨fo_42_0⟩
instance:FoT 42 1 1:=⟨fo_42_1⟩
instance:FoT 42 2 2:=⟨fo_42_2⟩
instance:FoT 62 0 0:=⟨fo_62_0⟩
instance:FoT 62 1 1:=⟨fo_62_1⟩
instance:FoT 66 0 0:=⟨fo_66_0⟩
instance:FoT 66 1 1:=⟨fo_66_1⟩
instance:FoT 66 2 2:=⟨fo_66_2⟩
instance:FoT 66 3 3:=⟨fo_66_3⟩
instance:FoT 66 4 4:=⟨fo_66_4⟩
instance:FoT 68 0 0:=⟨fo_68_0⟩
instance:FoT 68 1 1:=⟨fo_68_1⟩
instance:FoT 68 2 2:=⟨fo_68_2⟩
instance:FoT 68 3 3:=⟨fo_68_3⟩
instance:FoT 72 0 0:=⟨fo_72_0⟩
instance:FoT 72 1 1:=⟨fo_72_1⟩
instance:FoT 99 0 0:=⟨fo_99_0⟩
instance:FoT 99 1 1:=⟨fo_99_1⟩
instance:FoT 99 2 2:=⟨fo_99_2⟩
instance:FoT 99 3 3:=⟨fo_99_3⟩
instance:FoT 106 0 0:=⟨x3m⟩
instance:FoT 106 1 4:=⟨x3n⟩
instance:FoT 106 2 5:=⟨x3o⟩
instance:FoT 106 3 6:=⟨x3p⟩
instance:FoT 106 4 7:=⟨x3q⟩
instance:FoT 130 0 0:=⟨x3t⟩
instance:FoT 130 1 1:=⟨x3u⟩
instance:FoT 133 0 0:=⟨x3v⟩
instance:FoT 133 1 1:=⟨x3w⟩
instance:FoT 135 0 0:=⟨x3x⟩
instance:FoT 135 1 1:=⟨x3y⟩
instance:FoT 181 0 0:=⟨x4c⟩
instance:FoT 181 1 1:=⟨x4d⟩
instance:FoT 181 2 4:=⟨x4e⟩
instance:FoT 190 0 0:=⟨x4f⟩
instance:FoT 190 1 1:=⟨x4g⟩
instance:FoT 195 0 0:=⟨x4h⟩
instance:FoT 195 1 1:=⟨x4i⟩
instance:FoT 195 2 2:=⟨x4j⟩
instance:FoT 270 1 1:=⟨x4m⟩
instance:FoT 274 0 0:=⟨x4n⟩
instance:FoT 274 2 2:=⟨x4o⟩
instance:FoT 297 0 0:=⟨x4p⟩
instance:FoT 297 1 1:=⟨x4q⟩
instance:FoT 301 0 0:=⟨x4r⟩
instance:FoT 301 1 2:=⟨x4s⟩
instance:FoT 301 2 3:=⟨x4t⟩
instance:FoT 208 0 0:=⟨y4n⟩
instance:FoT 208 1 1:=⟨x4l⟩
instance:StT 9:=⟨runUnderlying9⟩
instance:SlT 22 133:=⟨runUnderlying22⟩
instance:SlT 23 72:=⟨runUnderlying23⟩
instance:SlT 24 68:=⟨runUnderlying24⟩
instance:SlT 25 9:=⟨runUnderlying25⟩
instance:SlT 28 62:=⟨runUnderlying28⟩
instance:SlT 38 42:=⟨runUnderlying38⟩
instance:SlT 63 66:=⟨runUnderlying63⟩
instance:SlT 64 195:=⟨runUnderlying64⟩
instance:SlT 93 3:=⟨runUnderlying93⟩
instance:SlT 128 5:=⟨runUnderlying128⟩
instance:SlT 131 135:=⟨runUnderlying131⟩
instance:SlT 268 274:=⟨runUnderlying268⟩
instance:SlT 299 314:=⟨runUnderlying299⟩
section
variable {P:Program} {n:Nat} {E:List (Nat×Value)} {D:List Deferred} {a:Act} {w:World} {ty:TypeId} {V:Fz} {K:List Res}
structure OkS (a:Act) (op:Op) (ty:TypeId) (w:World) (v:Value):Prop where
 h:Ok prog a op ty w v
theorem s_move {x:Operand} {v:Value} (J:EnvR n E D a) (b:ev E x=some v):OkS a (.move x) ty w v:=⟨xZ J b⟩
theorem x6t {x:Operand} {v:Value} (J:EnvR n E D a) (b:ev E x=some v):OkS a (.assign x) ty w v:=⟨dV J b⟩
theorem s_pick {c x y:Operand} {v:Value} {b:Bool} (J:EnvR n E D a) (d:ev E c=some (.bool b)) (e:ev E (if b then x else y)=some v):OkS a (.pick c x y) ty w v:=⟨y_pick J d e⟩
theorem x1l {x:Operand} {i:Nat} {vs:List Value} {v:Value} (J:EnvR n E D a) (c:ev E x=some (.tuple vs.toArray)) (b:vs[i]? = some v):OkS a (.extract x i) ty w v:=⟨cV J c b⟩
theorem s_not {x:Operand} {t:TypeId} {b:Bool} (J:EnvR n E D a) (c:ev E x=some (.bool b)):OkS a (.unOp .not t x) ty w (.bool (!b)):=⟨q3a J c⟩
theorem j3y {x:Operand} {p:Addr} (J:EnvR n E D a) (b:ev E x=some (.pointer (some p))):OkS a (.nilCheck x) ty w (.pointer (some p)):=⟨z5e J b⟩
structure FaV (s f:Nat) (u v:Value):Prop where
 h:∀{n:Nat} {E:List (Nat×Value)} {D:List Deferred} {a:Act} {x:Operand} {ty:TypeId} {w:World},EnvR n E D a->ev E x=some u->Ok prog a (.fieldAddr s x f) ty w v
theorem s_fav {x:Operand} {s f:Nat} {u v:Value} (J:EnvR n E D a) (b:ev E x=some u) (h:FaV s f u v):OkS a (.fieldAddr s x f) ty w v:=⟨h.h J b⟩
theorem f_own {s f off b o z:Nat} [FoT s f off] (c:o+off=z):FaV s f (.pointer (some ⟨b,o,none⟩)) (.pointer (some ⟨b,z,none⟩)):=⟨fun J a=>mZ J a FoT.h c⟩
theorem f_at {s f off j z:Nat} {p:Addr} {cs:List Value} [FoT s f off] (a:At V p cs) (c:j+off=z):FaV s f (.pointer (some (p.add j))) (.pointer (some (p.add z))):=⟨fun J b=>y7x J b a FoT.h c⟩
theorem f_p {s f off:Nat} {p:Addr} [FoT s f off]:FaV s f (.pointer (some p)) (.pointer (some (p.add off))):=⟨fun J a=>z2f J a FoT.h⟩
structure LdV (T:TypeId) (w:World) (u v:Value):Prop where
 h:∀{n:Nat} {E:List (Nat×Value)} {D:List Deferred} {a:Act} {x:Operand} {ty:TypeId},EnvR n E D a->ev E x=some u->Ok prog a (.load T x) ty w v
theorem s_ldv {x:Operand} {T:TypeId} {u v:Value} (J:EnvR n E D a) (b:ev E x=some u) (h:LdV T w u v):OkS a (.load T x) ty w v:=⟨h.h J b⟩
theorem o_own {T:TypeId} {b off:Nat} {v:Value} (h:LdV T w (.pointer (some ⟨b,off,none⟩)) v):LdV T w (.pointer (some ⟨b,off,none⟩)) v:=h
theorem o_sc {T:TypeId} {u v:Value} [ScT T] (h:LdV T w u v):LdV T w u v:=h
theorem o_ag {T:TypeId} {u v:Value} [AgT T] (h:LdV T w u v):LdV T w u v:=h
theorem z7e (i:Nat) {T:TypeId} {b off:Nat} {cs:List Value} {t:TypeId} {v:Value} [ScT T] (N:Sees V K w) (a:qH K i=some (.blk b (ob cs t))) (c:nth cs off=some v):LdV T w (.pointer (some ⟨b,off,none⟩)) v:=⟨fun J d=>pC i J N d a c ScT.h⟩
theorem z0h (i:Nat) {T:TypeId} {b off k:Nat} {cs vs:List Value} {t:TypeId} [AgT T] [SzT T k] (N:Sees V K w) (a:qH K i=some (.blk b (ob cs t))) (c:z3p (z3o cs off) k=vs) (hl:vs.length=k):LdV T w (.pointer (some ⟨b,off,none⟩)) (.agg vs.toArray):=⟨fun J d=>qY i J N d a AgT.h SzT.h c hl⟩
theorem v_at {T:TypeId} {p:Addr} {cs:List Value} {v:Value} {j:Nat} [ScT T] (N:Sees V K w) (a:At V p cs) (b:nth cs j=some v):LdV T w (.pointer (some (p.add j))) v:=⟨fun J c=>q2z j J N c a b ScT.h⟩
theorem v_at0 {T:TypeId} {p:Addr} {cs:List Value} {v:Value} [ScT T] (N:Sees V K w) (a:At V p cs) (b:nth cs 0=some v):LdV T w (.pointer (some p)) v:=⟨fun J c=>j5e J N c a b ScT.h⟩
theorem v_atA {T:TypeId} {p:Addr} {k:Nat} {cs:List Value} [AgT T] [SzT T k] (N:Sees V K w) (a:At V p cs) (hl:cs.length=k):LdV T w (.pointer (some p)) (.agg cs.toArray):=⟨fun J b=>j0w J N b a AgT.h SzT.h hl⟩
theorem s_len {x:Operand} {t e:TypeId} {p:Option Addr} {len cap:Nat} [SlT t e] (J:EnvR n E D a) (b:ev E x=some (.slice p len cap)):OkS a (.call { callee:=.builtin .len,args:=#[x],argTypes:=#[t] }) ty w (.int .i64 (len:Int)):=⟨y0w J b SlT.h⟩
theorem s_lens {x:Operand} {t:TypeId} {s:ByteArray} [StT t] (J:EnvR n E D a) (b:ev E x=some (.string s)):OkS a (.call { callee:=.builtin .len,args:=#[x],argTypes:=#[t] }) ty w (.int .i64 (s.size:Int)):=⟨x2f J b StT.h⟩
theorem s_index {x ix:Operand} {t e:TypeId} {kk:IntKind} {p:Addr} {len cap k i:Nat} [SlT t e] [SzT e k] (J:EnvR n E D a) (c:ev E x=some (.slice (some p) len cap)) (b:ev E ix=some (.int kk (i:Int))) (hb:i < len):OkS a (.indexAddr t x ix) ty w (.pointer (some (p.add (i * k)))):=⟨z2g i J c b SlT.h SzT.h hb⟩
theorem s_inc {t t':TypeId} {x y:Operand} {i:Nat} (J:EnvR n E D a) (b:ev E x=some (.int .i64 (i:Int))) (c:ev E y=some (.int .i64 ((1:Nat):Int))) (d:i+1<=9223372036854775807):OkS a (.binOp .add t x y t') ty w (.int .i64 ((i+1:Nat):Int)):=⟨pH J b c d⟩
theorem s_func {fn:Fn} {fs cs:Array Operand} {vfs vcs:List Value} (J:EnvR n E D a) (c:evs E fs.toList=some vfs) (b:evs E cs.toList=some vcs):OkS a (.makeFunc fn fs cs) ty w (.func fn vfs.toArray vcs.toArray):=⟨z0k J c b⟩
section
variable {t t':TypeId} {x y:Operand} {k:IntKind}
theorem s_lssNt {i j:Nat} (J:EnvR n E D a) (b:ev E x=some (.int k ((i:Nat):Int))) (c:ev E y=some (.int k ((j:Nat):Int))) (h:i < j):OkS a (.binOp .lss t x y t') ty w (.bool true):=⟨j0x true J b c (decide_eq_true (Int.ofNat_lt.2 h))⟩
theorem s_lssNf {i j:Nat} (J:EnvR n E D a) (c:ev E x=some (.int k ((i:Nat):Int))) (d:ev E y=some (.int k ((j:Nat):Int))) (h:¬i < j):OkS a (.binOp .lss t x y t') ty w (.bool false):=⟨j0x false J c d (decide_eq_false (fun b=>h (Int.ofNat_lt.1 b)))⟩
theorem s_lssIt {i j:Int} (J:EnvR n E D a) (b:ev E x=some (.int k i)) (c:ev E y=some (.int k j)) (h:i < j):OkS a (.binOp .lss t x y t') ty w (.bool true):=⟨j0x true J b c (decide_eq_true (h))⟩
theorem s_lssIf {i j:Int} (J:EnvR n E D a) (b:ev E x=some (.int k i)) (c:ev E y=some (.int k j)) (h:¬i < j):OkS a (.binOp .lss t x y t') ty w (.bool false):=⟨j0x false J b c (decide_eq_false (h))⟩
theorem s_gtrNt {i j:Nat} (J:EnvR n E D a) (b:ev E x=some (.int k ((i:Nat):Int))) (c:ev E y=some (.int k ((j:Nat):Int))) (h:j < i):OkS a (.binOp .gtr t x y t') ty w (.bool true):=⟨q2x true J b c (decide_eq_true (Int.ofNat_lt.2 h))⟩
theorem s_gtrNf {i j:Nat} (J:EnvR n E D a) (c:ev E x=some (.int k ((i:Nat):Int))) (d:ev E y=some (.int k ((j:Nat):Int))) (h:¬j < i):OkS a (.binOp .gtr t x y t') ty w (.bool false):=⟨q2x false J c d (decide_eq_false (fun b=>h (Int.ofNat_lt.1 b)))⟩
theorem s_gtrIt {i j:Int} (J:EnvR n E D a) (b:ev E x=some (.int k i)) (c:ev E y=some (.int k j)) (h:j < i):OkS a (.binOp .gtr t x y t') ty w (.bool true):=⟨q2x true J b c (decide_eq_true (h))⟩
theorem s_gtrIf {i j:Int} (J:EnvR n E D a) (b:ev E x=some (.int k i)) (c:ev E y=some (.int k j)) (h:¬j < i):OkS a (.binOp .gtr t x y t') ty w (.bool false):=⟨q2x false J b c (decide_eq_false (h))⟩
theorem s_leqNt {i j:Nat} (J:EnvR n E D a) (b:ev E x=some (.int k ((i:Nat):Int))) (c:ev E y=some (.int k ((j:Nat):Int))) (h:i<=j):OkS a (.binOp .leq t x y t') ty w (.bool true):=⟨q2y true J b c (decide_eq_true (Int.ofNat_le.2 h))⟩
theorem s_leqNf {i j:Nat} (J:EnvR n E D a) (c:ev E x=some (.int k ((i:Nat):Int))) (d:ev E y=some (.int k ((j:Nat):Int))) (h:¬i<=j):OkS a (.binOp .leq t x y t') ty w (.bool false):=⟨q2y false J c d (decide_eq_false (fun b=>h (Int.ofNat_le.1 b)))⟩
theorem s_leqIt {i j:Int} (J:EnvR n E D a) (b:ev E x=some (.int k i)) (c:ev E y=some (.int k j)) (h:i<=j):OkS a (.binOp .leq t x y t') ty w (.bool true):=⟨q2y true J b c (decide_eq_true (h))⟩
theorem s_leqIf {i j:Int} (J:EnvR n E D a) (b:ev E x=some (.int k i)) (c:ev E y=some (.int k j)) (h:¬i<=j):OkS a (.binOp .leq t x y t') ty w (.bool false):=⟨q2y false J b c (decide_eq_false (h))⟩
theorem s_geqNt {i j:Nat} (J:EnvR n E D a) (b:ev E x=some (.int k ((i:Nat):Int))) (c:ev E y=some (.int k ((j:Nat):Int))) (h:j<=i):OkS a (.binOp .geq t x y t') ty w (.bool true):=⟨j0u true J b c (decide_eq_true (Int.ofNat_le.2 h))⟩
theorem s_geqNf {i j:Nat} (J:EnvR n E D a) (c:ev E x=some (.int k ((i:Nat):Int))) (d:ev E y=some (.int k ((j:Nat):Int))) (h:¬j<=i):OkS a (.binOp .geq t x y t') ty w (.bool false):=⟨j0u false J c d (decide_eq_false (fun b=>h (Int.ofNat_le.1 b)))⟩
theorem s_geqIt {i j:Int} (J:EnvR n E D a) (b:ev E x=some (.int k i)) (c:ev E y=some (.int k j)) (h:j<=i):OkS a (.binOp .geq t x y t') ty w (.bool true):=⟨j0u true J b c (decide_eq_true (h))⟩
theorem s_geqIf {i j:Int} (J:EnvR n E D a) (b:ev E x=some (.int k i)) (c:ev E y=some (.int k j)) (h:¬j<=i):OkS a (.binOp .geq t x y t') ty w (.bool false):=⟨j0u false J b c (decide_eq_false (h))⟩
theorem x6x {i j:Nat} (J:EnvR n E D a) (b:ev E x=some (.int k ((i:Nat):Int))) (c:ev E y=some (.int k ((j:Nat):Int))) (h:i=j):OkS a (.binOp .eql t x y t') ty w (.bool true):=⟨xH true J b c (decide_eq_true (congrArg Int.ofNat h))⟩
theorem x6w {i j:Nat} (J:EnvR n E D a) (c:ev E x=some (.int k ((i:Nat):Int))) (d:ev E y=some (.int k ((j:Nat):Int))) (h:¬i=j):OkS a (.binOp .eql t x y t') ty w (.bool false):=⟨xH false J c d (decide_eq_false (fun b=>h (Int.ofNat.inj b)))⟩
theorem x6v {i j:Int} (J:EnvR n E D a) (b:ev E x=some (.int k i)) (c:ev E y=some (.int k j)) (h:i=j):OkS a (.binOp .eql t x y t') ty w (.bool true):=⟨xH true J b c (decide_eq_true (h))⟩
theorem x6u {i j:Int} (J:EnvR n E D a) (b:ev E x=some (.int k i)) (c:ev E y=some (.int k j)) (h:¬i=j):OkS a (.binOp .eql t x y t') ty w (.bool false):=⟨xH false J b c (decide_eq_false (h))⟩
theorem x7b {i j:Nat} (J:EnvR n E D a) (b:ev E x=some (.int k ((i:Nat):Int))) (c:ev E y=some (.int k ((j:Nat):Int))) (h:i=j):OkS a (.binOp .neq t x y t') ty w (.bool false):=⟨oV false J b c (congrArg Bool.not (decide_eq_true (congrArg Int.ofNat h)))⟩
theorem x7a {i j:Nat} (J:EnvR n E D a) (c:ev E x=some (.int k ((i:Nat):Int))) (d:ev E y=some (.int k ((j:Nat):Int))) (h:¬i=j):OkS a (.binOp .neq t x y t') ty w (.bool true):=⟨oV true J c d (congrArg Bool.not (decide_eq_false (fun b=>h (Int.ofNat.inj b))))⟩
theorem x6z {i j:Int} (J:EnvR n E D a) (b:ev E x=some (.int k i)) (c:ev E y=some (.int k j)) (h:i=j):OkS a (.binOp .neq t x y t') ty w (.bool false):=⟨oV false J b c (congrArg Bool.not (decide_eq_true (h)))⟩
theorem x6y {i j:Int} (J:EnvR n E D a) (b:ev E x=some (.int k i)) (c:ev E y=some (.int k j)) (h:¬i=j):OkS a (.binOp .neq t x y t') ty w (.bool true):=⟨oV true J b c (congrArg Bool.not (decide_eq_false (h)))⟩
theorem s_seqlt {s u:ByteArray} (J:EnvR n E D a) (b:ev E x=some (.string s)) (c:ev E y=some (.string u)) (h:s=u):OkS a (.binOp .eql t x y t') ty w (.bool true):=⟨q5r true J b c (decide_eq_true h)⟩
theorem s_seqlf {s u:ByteArray} (J:EnvR n E D a) (b:ev E x=some (.string s)) (c:ev E y=some (.string u)) (h:¬s=u):OkS a (.binOp .eql t x y t') ty w (.bool false):=⟨q5r false J b c (decide_eq_false h)⟩
theorem s_sneqt {s u:ByteArray} (J:EnvR n E D a) (b:ev E x=some (.string s)) (c:ev E y=some (.string u)) (h:s=u):OkS a (.binOp .neq t x y t') ty w (.bool false):=⟨j5f false J b c (congrArg Bool.not (decide_eq_true h))⟩
theorem s_sneqf {s u:ByteArray} (J:EnvR n E D a) (b:ev E x=some (.string s)) (c:ev E y=some (.string u)) (h:¬s=u):OkS a (.binOp .neq t x y t') ty w (.bool true):=⟨j5f true J b c (congrArg Bool.not (decide_eq_false h))⟩
end
end
section
variable {a:Act} {w:World} {ty:TypeId} {v:Value} {x y c:Operand} {t s:TypeId} {i f:Nat} {fn:Fn} {fs cs:Array Operand} {c0:Call}
theorem d_move (h:OkS a (.move x) ty w v):OkS a (.move x) ty w v:=h
theorem x2x (h:OkS a (.assign x) ty w v):OkS a (.assign x) ty w v:=h
theorem d_pick (h:OkS a (.pick c x y) ty w v):OkS a (.pick c x y) ty w v:=h
theorem j8p (h:OkS a (.extract x i) ty w v):OkS a (.extract x i) ty w v:=h
theorem d_not (h:OkS a (.unOp .not t x) ty w v):OkS a (.unOp .not t x) ty w v:=h
theorem d_nilc (h:OkS a (.nilCheck x) ty w v):OkS a (.nilCheck x) ty w v:=h
theorem d_fld (h:OkS a (.fieldAddr s x f) ty w v):OkS a (.fieldAddr s x f) ty w v:=h
theorem d_idx (h:OkS a (.indexAddr t x y) ty w v):OkS a (.indexAddr t x y) ty w v:=h
theorem d_call (h:OkS a (.call c0) ty w v):OkS a (.call c0) ty w v:=h
theorem d_func (h:OkS a (.makeFunc fn fs cs) ty w v):OkS a (.makeFunc fn fs cs) ty w v:=h
theorem d_add (h:OkS a (.binOp .add t x y s) ty w v):OkS a (.binOp .add t x y s) ty w v:=h
theorem d_lss (h:OkS a (.binOp .lss t x y s) ty w v):OkS a (.binOp .lss t x y s) ty w v:=h
theorem d_gtr (h:OkS a (.binOp .gtr t x y s) ty w v):OkS a (.binOp .gtr t x y s) ty w v:=h
theorem d_leq (h:OkS a (.binOp .leq t x y s) ty w v):OkS a (.binOp .leq t x y s) ty w v:=h
theorem d_geq (h:OkS a (.binOp .geq t x y s) ty w v):OkS a (.binOp .geq t x y s) ty w v:=h
theorem d_eql (h:OkS a (.binOp .eql t x y s) ty w v):OkS a (.binOp .eql t x y s) ty w v:=h
theorem d_neq (h:OkS a (.binOp .neq t x y s) ty w v):OkS a (.binOp .neq t x y s) ty w v:=h
end
section
variable {n:Nat} {E:List (Nat×Value)} {D:List Deferred} {a:Act} {w:World} {ty:TypeId} {V:Fz} {K:List Res} {op:Op} {v:Value}
theorem tX {cs vs:List Value} {off k:Nat} (h:z3p (z3o cs off) k=vs:=by first | (dsimp only [z3p,z3o,List.tail,Nat.zero_add,Nat.reduceAdd];try rfl;all_goals fail) | fail):z3p (z3o cs off) k=vs:=h
theorem uM (J:EnvR n E D a) (h:OkS a op ty w v:=by first | ((with_reducible apply d_move);first | exact s_move J rfl) | ((with_reducible apply x2x);first | exact x6t J rfl) | ((with_reducible apply d_pick);first | exact s_pick J rfl rfl) | ((with_reducible apply j8p);first | exact x1l J rfl rfl) | ((with_reducible apply d_not);first | exact s_not J rfl) | ((with_reducible apply d_nilc);first | exact j3y J rfl) | ((with_reducible apply d_fld);first | ((with_reducible apply s_fav J);(exact rfl);first | ((with_reducible apply f_own);(exact rfl)) | exact f_at (by with_reducible assumption) (by rfl) | exact f_p)) | ((with_reducible apply d_idx);first | exact s_index J rfl rfl (by first | with_reducible assumption | assumption)) | ((with_reducible apply d_call);first | exact s_len J rfl | exact s_lens J rfl) | ((with_reducible apply d_func);first | exact s_func J rfl rfl) | ((with_reducible apply d_add);first | exact s_inc J rfl rfl (by omega)) | ((with_reducible apply d_lss);first | exact s_lssNt J rfl rfl (by first | with_reducible assumption | assumption) | exact s_lssNf J rfl rfl (by first | with_reducible assumption | assumption) | exact s_lssIt J rfl rfl (by first | with_reducible assumption | assumption) | exact s_lssIf J rfl rfl (by first | with_reducible assumption | assumption)) | ((with_reducible apply d_gtr);first | exact s_gtrNt J rfl rfl (by first | with_reducible assumption | assumption) | exact s_gtrNf J rfl rfl (by first | with_reducible assumption | assumption) | exact s_gtrIt J rfl rfl (by first | with_reducible assumption | assumption) | exact s_gtrIf J rfl rfl (by first | with_reducible assumption | assumption)) | ((with_reducible apply d_leq);first | exact s_leqNt J rfl rfl (by first | with_reducible assumption | assumption) | exact s_leqNf J rfl rfl (by first | with_reducible assumption | assumption) | exact s_leqIt J rfl rfl (by first | with_reducible assumption | assumption) | exact s_leqIf J rfl rfl (by first | with_reducible assumption | assumption)) | ((with_reducible apply d_geq);first | exact s_geqNt J rfl rfl (by first | with_reducible assumption | assumption) | exact s_geqNf J rfl rfl (by first | with_reducible assumption | assumption) | exact s_geqIt J rfl rfl (by first | with_reducible assumption | assumption) | exact s_geqIf J rfl rfl (by first | with_reducible assumption | assumption)) | ((with_reducible apply d_eql);first | exact x6x J rfl rfl (by first | with_reducible assumption | assumption) | exact x6w J rfl rfl (by first | with_reducible assumption | assumption) | exact x6v J rfl rfl (by first | with_reducible assumption | assumption) | exact x6u J rfl rfl (by first | with_reducible assumption | assumption) | exact s_seqlt J rfl rfl (by first | with_reducible assumption | assumption) | exact s_seqlf J rfl rfl (by first | with_reducible assumption | assumption)) | ((with_reducible apply d_neq);first | exact x7b J rfl rfl (by first | with_reducible assumption | assumption) | exact x7a J rfl rfl (by first | with_reducible assumption | assumption) | exact x6z J rfl rfl (by first | with_reducible assumption | assumption) | exact x6y J rfl rfl (by first | with_reducible assumption | assumption) | exact s_sneqt J rfl rfl (by first | with_reducible assumption | assumption) | exact s_sneqf J rfl rfl (by first | with_reducible assumption | assumption))):OkS a op ty w v:=h
theorem uN (J:EnvR n E D a) (O:Sees V K w) (h:OkS a op ty w v:=by ((with_reducible apply s_ldv J);(exact rfl);first | ((with_reducible apply o_sc);first | ((with_reducible apply o_own);first | exact z7e 0 O rfl rfl | exact z7e 1 O rfl rfl | exact z7e 2 O rfl rfl | exact z7e 3 O rfl rfl | exact z7e 4 O rfl rfl | exact z7e 5 O rfl rfl | exact z7e 6 O rfl rfl | exact z7e 7 O rfl rfl | exact z7e 8 O rfl rfl) | exact v_at O (by with_reducible assumption) (by rfl) | exact v_at0 O (by with_reducible assumption) (by rfl)) | ((with_reducible apply o_ag);first | ((with_reducible apply o_own);first | exact z0h 0 O rfl (by exact tX) (by rfl) | exact z0h 1 O rfl (by exact tX) (by rfl) | exact z0h 2 O rfl (by exact tX) (by rfl) | exact z0h 3 O rfl (by exact tX) (by rfl) | exact z0h 4 O rfl (by exact tX) (by rfl) | exact z0h 5 O rfl (by exact tX) (by rfl) | exact z0h 6 O rfl (by exact tX) (by rfl) | exact z0h 7 O rfl (by exact tX) (by rfl) | exact z0h 8 O rfl (by exact tX) (by rfl)) | exact v_atA O (by with_reducible assumption) (by rfl)))):OkS a op ty w v:=h
theorem z1r (J:EnvR n E D a) (O:Sees V K w) (h:OkS a op ty w v:=by first | exact uM J | exact uN J O):OkS a op ty w v:=h
end
def q3x:Code->Nat
 | .region i _ _=>i
 | .seq x y=>if q3x x=0 then q3x y else q3x x
 | .cond _ x y=>if q3x x=0 then q3x y else q3x x
 | .block _ x=>q3x x
 | .loop x=>q3x x
 | _=>0
def Stop (_:Nat):Prop:=True
structure Go2 (n:Nat) (D:List Deferred) (V:Fz) (K:List Res) (w:World) (A:Act->World->Prop) (E:List (Nat×Value)) (B:Act->World->Prop) (E':List (Nat×Value)):Prop where
 h:Sees V K w->(∀a,EnvR n E' D a->B a w)->∀a,EnvR n E D a->A a w
section
variable {n:Nat} {E E':List (Nat×Value)} {D:List Deferred} {w:World} {V:Fz} {K:List Res} {B:Act->World->Prop} {d t j i:Nat} {v u:Value} {b:Bool} {op:Op} {ty:TypeId} {pos:String} {aft:Array Edge} {rest:List Oper} {ops:Array Oper}
 {Q Q0:Exit->Act->World->Prop} {x y:Code} {c:Operand} {f:Act->World->Prop} {id:Nat}
theorem q4a:Go2 n D V K w B E B E:=⟨fun _ k=>k⟩
theorem g_op (c:∀a,EnvR n E D a->Sees V K w->OkS a op ty w v) (b:Nat.blt d n=true) (h:Go2 n D V K w (wpList prog ops Q rest) ((d,v)::E) B E') :
  Go2 n D V K w (wpList prog ops Q (⟨some d,op,ty,pos,aft,none⟩::rest)) E B E':=⟨fun O k a J=>jS J (c a J O).h b fun a J=>h.h O k a J⟩
theorem g_gy (e:ops[j]?.bind (·.dst)=some t) (g:get E t=some (.bool b)) (f:∀a,EnvR n E D a->Sees V K w->OkS a op ty w v) (c:Nat.blt d n=true) (h:Go2 n D V K w (wpList prog ops Q rest) ((d,v)::E) B E') :
  Go2 n D V K w (wpList prog ops Q (⟨some d,op,ty,pos,aft,some (j,b)⟩::rest)) E B E':=⟨fun O k a J=>j6q J rfl rfl c e g (pY (f a J O).h fun a J=>h.h O k a J)⟩
theorem g_gn (e:ops[j]?.bind (·.dst)=some t) (f:get E t=some u) (hb:notB u b=true) (c:Nat.blt d n=true) (h:Go2 n D V K w (wpList prog ops Q rest) ((d,undef)::E) B E') :
  Go2 n D V K w (wpList prog ops Q (⟨some d,op,ty,pos,aft,some (j,b)⟩::rest)) E B E':=⟨fun O k a J=>g_no J rfl rfl c e f hb fun a J=>h.h O k a J⟩
theorem j6k (h:Go2 n D V K w (Q .normal) E B E'):Go2 n D V K w (wpList prog ops Q []) E B E':=⟨fun O k a J=>wpList_nil (h.h O k a J)⟩
theorem j6o (h:Go2 n D V K w (f) E B E'):Go2 n D V K w (Exit.then f Q .normal) E B E':=⟨fun O k a J=>h.h O k a J⟩
theorem j6n (h:Go2 n D V K w (Q (.exit i)) E B E'):Go2 n D V K w (Exit.then f Q (.exit i)) E B E':=⟨fun O k a J=>h.h O k a J⟩
theorem j6p (h:Go2 n D V K w (Q .ret) E B E'):Go2 n D V K w (Exit.then f Q .ret) E B E':=⟨fun O k a J=>h.h O k a J⟩
theorem g_bn (h:Go2 n D V K w (Q .normal) E B E'):Go2 n D V K w (Exit.inBlock i Q .normal) E B E':=⟨fun O k a J=>h.h O k a J⟩
theorem g_bx (b:(if id=i then True else False)=True) (h:Go2 n D V K w (Q .normal) E B E'):Go2 n D V K w (Exit.inBlock i Q (.exit id)) E B E':=⟨fun O k a J=>by
 have e:id=i:=by by_cases h:id=i;exact h;rw [if_neg h] at b;exact (of_eq_true b).elim
 subst e
 have:=h.h O k a J
 simp only [Exit.inBlock]
 simpa using this⟩
theorem g_bo (b:Nat.beq id i=false) (h:Go2 n D V K w (Q (.exit id)) E B E'):Go2 n D V K w (Exit.inBlock i Q (.exit id)) E B E':=⟨fun O k a J=>by
 have e:¬id=i:=Nat.ne_of_beq_eq_false b
 have:=h.h O k a J
 simp only [Exit.inBlock]
 simpa [e,Ne.symm e] using this⟩
theorem g_br (h:Go2 n D V K w (Q .ret) E B E'):Go2 n D V K w (Exit.inBlock i Q .ret) E B E':=⟨fun O k a J=>h.h O k a J⟩
theorem j6m (h:Go2 n D V K w (x.wp prog (Exit.then (y.wp prog Q) Q)) E B E'):Go2 n D V K w ((Code.seq x y).wp prog Q) E B E':=⟨fun O k a J=>wp_seq (h.h O k a J)⟩
theorem g_seqJ {r:Nat} (_:Stop r) (_:Nat.beq (q3x y) r=false) (h:Go2 n D V K w (x.wp prog (Exit.then (y.wp prog Q) Q)) E B E'):Go2 n D V K w ((Code.seq x y).wp prog Q) E B E':=j6m h
theorem g_reg {l:List Oper} (h:Go2 n D V K w (wpList prog l.toArray Q l) E B E'):Go2 n D V K w ((Code.region id l.toArray false).wp prog Q) E B E':=⟨fun O k a J=>wp_region_lit (h.h O k a J)⟩
theorem g_regJ {r:Nat} (_:Stop r) (_:Nat.beq id r=false) {l:List Oper} (h:Go2 n D V K w (wpList prog l.toArray Q l) E B E'):Go2 n D V K w ((Code.region id l.toArray false).wp prog Q) E B E':=⟨fun O k a J=>wp_region_lit (h.h O k a J)⟩
theorem j6j (b:ev E c=some (.bool true)) (h:Go2 n D V K w (x.wp prog Q) E B E'):Go2 n D V K w ((Code.cond c x y).wp prog Q) E B E':=⟨fun O k a J=>if_t J b (h.h O k a J)⟩
theorem j6i (b:ev E c=some (.bool false)) (h:Go2 n D V K w (y.wp prog Q) E B E'):Go2 n D V K w ((Code.cond c x y).wp prog Q) E B E':=⟨fun O k a J=>if_f J b (h.h O k a J)⟩
theorem q4b (h:Go2 n D V K w (Q .normal) E B E'):Go2 n D V K w (Code.skip.wp prog Q) E B E':=⟨fun O k a J=>wp_skip (h.h O k a J)⟩
theorem y1l (h:Go2 n D V K w (x.wp prog (Exit.inBlock id Q)) E B E'):Go2 n D V K w ((Code.block id x).wp prog Q) E B E':=⟨fun O k a J=>wp_block (h.h O k a J)⟩
theorem q3z (h:Go2 n D V K w (Q (.exit id)) E B E'):Go2 n D V K w ((Code.exit id).wp prog Q) E B E':=⟨fun O k a J=>wp_exit (h.h O k a J)⟩
theorem j6l (h:Go2 n D V K w (Q .ret) E B E'):Go2 n D V K w (Code.ret.wp prog Q) E B E':=⟨fun O k a J=>wp_ret (h.h O k a J)⟩
section
variable {B':World->Prop} {kd:List Nat} {Qp:List PanicEntry->World->Prop} {q:Act->World->Prop} {p:Plan} {Φ':Fz} {K':List Res}
theorem g_dd (h:Go2 n D V K w (q) E B E'):Go2 n D V K w (yF prog .any ops B' kd Qp q .done) E B E':=⟨fun O k a J=>h.h O k a J⟩
theorem g_dq (c:ops[i]? = some ⟨some d,op,ty,pos,aft,none⟩) (e:qC kd i=2) (f:∀a w,EnvR n E D a->Sees Φ' K' w->OkS a op ty w v) (b:Nat.blt d n=true)
  (h:Go2 n D V K w (yF prog .any ops (Sees Φ' K') kd Qp q p) ((d,v)::E) B E'):Go2 n D V K w (yF prog .any ops (Sees Φ' K') kd Qp q (.q i p)) E B E' :=
 ⟨fun O k a J=>d_q J c e (fun w g=>(f a w J g).h) b fun a J=>h.h O k a J⟩
theorem j6g (c:ops[i]? = some ⟨some d,op,ty,pos,aft,none⟩) (e:qC kd i=1) (f:∀a w,EnvR n E D a->OkS a op ty w v) (b:Nat.blt d n=true)
  (h:Go2 n D V K w (yF prog .any ops B' kd Qp q p) ((d,v)::E) B E'):Go2 n D V K w (yF prog .any ops B' kd Qp q (.q i p)) E B E' :=
 ⟨fun O k a J=>y3n J c e (fun w=>(f a w J).h) b fun a J=>h.h O k a J⟩
theorem j6h (e:ops[i]? = some ⟨some d,op,ty,pos,aft,some (j,b)⟩) (f:ops[j]?.bind (·.dst)=some t) (m:get E t=some (.bool b)) (g:qC kd i=2) (l:∀a w,EnvR n E D a->Sees Φ' K' w->OkS a op ty w v) (c:Nat.blt d n=true)
  (h:Go2 n D V K w (yF prog .any ops (Sees Φ' K') kd Qp q p) ((d,v)::E) B E'):Go2 n D V K w (yF prog .any ops (Sees Φ' K') kd Qp q (.q i p)) E B E' :=
 ⟨fun O k a J=>d_qg J e f m g (fun w o=>(l a w J o).h) c fun a J=>h.h O k a J⟩
theorem q3y (e:ops[i]? = some ⟨some d,op,ty,pos,aft,some (j,b)⟩) (f:ops[j]?.bind (·.dst)=some t) (m:get E t=some (.bool b)) (g:qC kd i=1) (l:∀a w,EnvR n E D a->OkS a op ty w v) (c:Nat.blt d n=true)
  (h:Go2 n D V K w (yF prog .any ops B' kd Qp q p) ((d,v)::E) B E'):Go2 n D V K w (yF prog .any ops B' kd Qp q (.q i p)) E B E' :=
 ⟨fun O k a J=>d_qg1 J e f m g (fun w=>(l a w J).h) c fun a J=>h.h O k a J⟩
theorem g_dn (e:ops[i]? = some ⟨some d,op,ty,pos,aft,some (j,b)⟩) (f:ops[j]?.bind (·.dst)=some t) (g:get E t=some u) (hb:notB u b=true) (c:Nat.blt d n=true)
  (h:Go2 n D V K w (yF prog .any ops B' kd Qp q p) ((d,undef)::E) B E'):Go2 n D V K w (yF prog .any ops B' kd Qp q (.q i p)) E B E' :=
 ⟨fun O k a J=>d_no J e f g hb c fun a J=>h.h O k a J⟩
theorem j6f (f:ops[i]? = some ⟨some d,op,ty,pos,aft,some (j,b)⟩) (g:ops[j]?.bind (·.dst)=some t) (l:get E t=some u) (hb:notB u b=true) (c:Nat.blt d n=true)
  (h:Go2 n D V K w (yF prog .any ops B' kd Qp q p) ((d,undef)::E) B E'):Go2 n D V K w (yF prog .any ops B' kd Qp q (.e i p)) E B E' :=
 ⟨fun O k a J=>d_no_e J f g l hb c fun a J=>h.h O k a J⟩
end
theorem goGo {A:Act->World->Prop} (h:Go2 n D V K w A E B E':=by ((repeat first | ((with_reducible apply g_op);(exact fun _ J O=>z1r J O);rfl) | with_reducible apply j6k | with_reducible apply j6o | with_reducible apply j6m | with_reducible apply g_reg | ((with_reducible apply j6j);rfl) | ((with_reducible apply j6i);rfl) | with_reducible apply q4b | with_reducible apply g_bn | with_reducible apply y1l | ((with_reducible apply g_gy);rfl;rfl;(exact fun _ J O=>z1r J O);rfl) | ((with_reducible apply g_gn);rfl;rfl;rfl;rfl) | ((with_reducible apply j6g);rfl;rfl;(exact fun _ _ J=>uM J);rfl) | ((with_reducible apply g_dq);rfl;rfl;(exact fun _ _ J O=>uN J O);rfl) | with_reducible apply g_dd | ((with_reducible apply g_dn);rfl;rfl;rfl;rfl;rfl) | ((with_reducible apply j6f);rfl;rfl;rfl;rfl;rfl) | ((with_reducible apply q3y);rfl;rfl;rfl;rfl;(exact fun _ _ J=>uM J);rfl) | ((with_reducible apply j6h);rfl;rfl;rfl;rfl;(exact fun _ _ J O=>uN J O);rfl) | with_reducible apply q3z | with_reducible apply j6n | ((with_reducible apply g_bx);rfl) | ((with_reducible apply g_bo);rfl) | with_reducible apply j6l | with_reducible apply j6p | with_reducible apply g_br);exact q4a)):Go2 n D V K w A E B E':=h
theorem go {a:Act} {A:Act->World->Prop} (k:∀a,EnvR n E' D a->B a w) (J:EnvR n E D a:=by exact J) (N:Mem V K w:=by exact N) (h:Go2 n D V K w A E B E':=by exact goGo):A a w:=h.h N.toSees k a J
theorem goJ (r:Nat) {a:Act} {A:Act->World->Prop} (k:∀a,EnvR n E' D a->B a w) (J:EnvR n E D a:=by exact J) (N:Mem V K w:=by exact N) (h:Stop r->Go2 n D V K w A E B E':=by (intro hr_;(repeat first | ((with_reducible apply g_op);(exact fun _ J O=>z1r J O);rfl) | with_reducible apply j6k | with_reducible apply j6o | ((with_reducible apply g_seqJ hr_);rfl) | with_reducible apply g_reg | ((with_reducible apply j6j);rfl) | ((with_reducible apply j6i);rfl) | with_reducible apply q4b | with_reducible apply g_bn | with_reducible apply y1l | ((with_reducible apply g_gy);rfl;rfl;(exact fun _ J O=>z1r J O);rfl) | ((with_reducible apply g_gn);rfl;rfl;rfl;rfl) | ((with_reducible apply j6g);rfl;rfl;(exact fun _ _ J=>uM J);rfl) | ((with_reducible apply g_dq);rfl;rfl;(exact fun _ _ J O=>uN J O);rfl) | with_reducible apply g_dd | ((with_reducible apply g_dn);rfl;rfl;rfl;rfl;rfl) | ((with_reducible apply j6f);rfl;rfl;rfl;rfl;rfl) | ((with_reducible apply q3y);rfl;rfl;rfl;rfl;(exact fun _ _ J=>uM J);rfl) | ((with_reducible apply j6h);rfl;rfl;rfl;rfl;(exact fun _ _ J O=>uN J O);rfl) | with_reducible apply q3z | with_reducible apply j6n | ((with_reducible apply g_bx);rfl) | ((with_reducible apply g_bo);rfl) | with_reducible apply j6l | with_reducible apply j6p | with_reducible apply g_br);exact q4a)):A a w:=(h trivial).h N.toSees k a J
theorem goR (r:Nat) {a:Act} {A:Act->World->Prop} (k:∀a,EnvR n E' D a->B a w) (J:EnvR n E D a:=by exact J) (N:Mem V K w:=by exact N) (h:Stop r->Go2 n D V K w A E B E':=by (intro hr_;(repeat first | ((with_reducible apply g_op);(exact fun _ J O=>z1r J O);rfl) | with_reducible apply j6k | with_reducible apply j6o | with_reducible apply j6m | ((with_reducible apply g_regJ hr_);rfl) | ((with_reducible apply j6j);rfl) | ((with_reducible apply j6i);rfl) | with_reducible apply q4b | with_reducible apply g_bn | with_reducible apply y1l | ((with_reducible apply g_gy);rfl;rfl;(exact fun _ J O=>z1r J O);rfl) | ((with_reducible apply g_gn);rfl;rfl;rfl;rfl) | ((with_reducible apply j6g);rfl;rfl;(exact fun _ _ J=>uM J);rfl) | ((with_reducible apply g_dq);rfl;rfl;(exact fun _ _ J O=>uN J O);rfl) | with_reducible apply g_dd | ((with_reducible apply g_dn);rfl;rfl;rfl;rfl;rfl) | ((with_reducible apply j6f);rfl;rfl;rfl;rfl;rfl) | ((with_reducible apply q3y);rfl;rfl;rfl;rfl;(exact fun _ _ J=>uM J);rfl) | ((with_reducible apply j6h);rfl;rfl;rfl;rfl;(exact fun _ _ J O=>uN J O);rfl) | with_reducible apply q3z | with_reducible apply j6n | ((with_reducible apply g_bx);rfl) | ((with_reducible apply g_bo);rfl) | with_reducible apply j6l | with_reducible apply j6p | with_reducible apply g_br);exact q4a)):A a w:=(h trivial).h N.toSees k a J
theorem go1 {a:Act} {A:Act->World->Prop} (k:∀a,EnvR n E' D a->B a w) (J:EnvR n E D a:=by exact J) (N:Mem V K w:=by exact N) (h:Go2 n D V K w A E B E':=by ((repeat first | ((with_reducible apply g_op);(exact fun _ J O=>z1r J O);rfl) | with_reducible apply j6k | with_reducible apply j6o | with_reducible apply j6m | ((with_reducible apply j6j);rfl) | ((with_reducible apply j6i);rfl) | with_reducible apply q4b | with_reducible apply g_bn | with_reducible apply y1l | ((with_reducible apply g_gy);rfl;rfl;(exact fun _ J O=>z1r J O);rfl) | ((with_reducible apply g_gn);rfl;rfl;rfl;rfl) | ((with_reducible apply j6g);rfl;rfl;(exact fun _ _ J=>uM J);rfl) | ((with_reducible apply g_dq);rfl;rfl;(exact fun _ _ J O=>uN J O);rfl) | with_reducible apply g_dd | ((with_reducible apply g_dn);rfl;rfl;rfl;rfl;rfl) | ((with_reducible apply j6f);rfl;rfl;rfl;rfl;rfl) | ((with_reducible apply q3y);rfl;rfl;rfl;rfl;(exact fun _ _ J=>uM J);rfl) | ((with_reducible apply j6h);rfl;rfl;rfl;rfl;(exact fun _ _ J O=>uN J O);rfl) | with_reducible apply q3z | with_reducible apply j6n | ((with_reducible apply g_bx);rfl) | ((with_reducible apply g_bo);rfl) | with_reducible apply j6l | with_reducible apply j6p | with_reducible apply g_br);exact q4a)):A a w:=h.h N.toSees k a J
end
def z6d:List Res->List (Nat×Res)->List Res
 | K,[]=>K
 | K,(i,r)::l=>z6d (wI K i r) l
def z6b:List Res->List Nat->List Res
 | K,[]=>K
 | K,i::l=>z6b (dJ K i) l
def y6h (K:List Res):List Nat->List Res
 | []=>[]
 | i::l=>match qH K i with
  | some r=>r::y6h K l
  | none=>y6h K l
theorem z2z {K:List Res}:∀{l:List Nat} {r:Res},r∈y6h K l->r∈K
 | [],_,h=>by cases h
 | i::l,r,h=>by
  unfold y6h at h
  split at h
  ·rename_i r' hr
   rcases List.mem_cons.1 h with rfl | h
   ·exact yQ hr
   ·exact z2z h
  ·exact z2z h
class ZeT (t:TypeId) (cs:outParam (List Value)):Prop where h:∃z,ZeroT prog t z/\z.cells.toList=cs
instance:ZeT 3 [.int .i64 ((0:Nat):Int)]:=⟨_,zeroValue3,rfl⟩
instance:ZeT 5 [.int .u8 ((0:Nat):Int)]:=⟨_,zeroValue5,rfl⟩
instance:ZeT 9 [.string ⟨#[]⟩]:=⟨_,zeroValue9,rfl⟩
instance:ZeT 27 [.slice none 0 0,.slice none 0 0,.slice none 0 0,.slice none 0 0]:=⟨_,zeroValue27,rfl⟩
instance:ZeT 30 [.slice none 0 0,.int .i64 ((0:Nat):Int)]:=⟨_,zeroValue30,rfl⟩
instance:ZeT 38 [.slice none 0 0]:=⟨_,zeroValue38,rfl⟩
instance:ZeT 42 [.string ⟨#[]⟩,.int .i64 ((0:Nat):Int),.slice none 0 0]:=⟨_,zeroValue42,rfl⟩
instance:ZeT 62 [.string ⟨#[]⟩,.string ⟨#[]⟩,.int .i64 ((0:Nat):Int),.slice none 0 0]:=⟨_,zeroValue62,rfl⟩
instance:ZeT 66 [.int .i64 ((0:Nat):Int),.int .i64 ((0:Nat):Int),.string ⟨#[]⟩,.slice none 0 0,.slice none 0 0]:=⟨_,zeroValue66,rfl⟩
instance:ZeT 68 [.string ⟨#[]⟩,.slice none 0 0,.string ⟨#[]⟩,.int .i64 ((0:Nat):Int),.int .i64 ((0:Nat):Int),.string ⟨#[]⟩,.slice none 0 0,.slice none 0 0]:=⟨_,zeroValue68,rfl⟩
instance:ZeT 72 [.string ⟨#[]⟩,.string ⟨#[]⟩]:=⟨_,zeroValue72,rfl⟩
instance:ZeT 89 [.pointer none]:=⟨_,zeroValue89,rfl⟩
instance:ZeT 93 [.slice none 0 0]:=⟨_,zeroValue93,rfl⟩
instance:ZeT 94 [.map none]:=⟨_,zeroValue94,rfl⟩
instance:ZeT 99 [.pointer none,.map none,.pointer none,.int .i64 ((0:Nat):Int)]:=⟨_,zeroValue99,rfl⟩
instance:ZeT 108 [.nilFunc]:=⟨_,zeroValue108,rfl⟩
instance:ZeT 130 [.pointer none,.slice none 0 0]:=⟨_,zeroValue130,rfl⟩
instance:ZeT 133 [.string ⟨#[]⟩,.slice none 0 0]:=⟨_,zeroValue133,rfl⟩
instance:ZeT 135 [.string ⟨#[]⟩,.slice none 0 0]:=⟨_,zeroValue135,rfl⟩
instance:ZeT 190 [.string ⟨#[]⟩,.string ⟨#[]⟩,.slice none 0 0]:=⟨_,zeroValue190,rfl⟩
instance:ZeT 195 [.string ⟨#[]⟩,.slice none 0 0,.int .i64 ((0:Nat):Int),.int .i64 ((0:Nat):Int),.string ⟨#[]⟩,.slice none 0 0,.slice none 0 0]:=⟨_,zeroValue195,rfl⟩
instance:ZeT 270 [.int .i64 ((0:Nat):Int),.int .i64 ((0:Nat):Int)]:=⟨_,zeroValue270,rfl⟩
instance:ZeT 274 [.int .i64 ((0:Nat):Int),.int .i64 ((0:Nat):Int),.string ⟨#[]⟩,.int .i64 ((0:Nat):Int)]:=⟨_,zeroValue274,rfl⟩
instance:ZeT 314 [.int .i64 ((0:Nat):Int),.int .i64 ((0:Nat):Int)]:=⟨_,zeroValue314,rfl⟩
theorem j5p (l:List Value):(Value.agg (List.toArray l)).cells.toList=l:=rfl
theorem j5r (k:IntKind) (i:Int):(Value.int k i).cells.toList=[.int k i]:=rfl
theorem q3h (b:Bool):(Value.bool b).cells.toList=[.bool b]:=rfl
theorem j5u (s:ByteArray):(Value.string s).cells.toList=[.string s]:=rfl
theorem j5t (p:Option Addr):(Value.pointer p).cells.toList=[.pointer p]:=rfl
theorem c_sl (p:Option Addr) (n c:Nat):(Value.slice p n c).cells.toList=[.slice p n c]:=rfl
theorem j5s (b:Option Nat):(Value.map b).cells.toList=[.map b]:=rfl
theorem j5q (f:Fn) (x y:Array Value):(Value.func f x y).cells.toList=[.func f x y]:=rfl
section
variable {n:Nat} {E:List (Nat×Value)} {D:List Deferred} {a:Act} {w:World} {V:Fz} {K K':List Res} {d:Nat} {ty:TypeId} {pos:String} {aft:Array Edge} {rest:List Oper} {ops:Array Oper} {Q:Exit->Act->World->Prop}
theorem Mem.nf (N:Mem V K w) (h:K=K':=by first | (dsimp only [wI,z6d,dJ,z6b,nH,y1f];try rfl;all_goals fail) | rfl):Mem V K' w:=h▸N
theorem Mem.pl {r:Res} (N:Mem V K w) (i:Nat) (a:qH K i=some r:=by rfl) (h:r::dJ K i=K':=by first | (dsimp only [wI,z6d,dJ,z6b,nH,y1f];try rfl;all_goals fail) | rfl):Mem V K' w:=h▸N.pull a
theorem q1i (N:Mem V K w):∀(l:List Nat),Mem V (z6b K l) w:=fun l=>by
 induction l generalizing K with
 | nil=>exact N
 | cons i l a=>exact a (N.del i)
theorem Mem.dl (N:Mem V K w) (l:List Nat) (h:z6b K l=K':=by first | (dsimp only [wI,z6d,dJ,z6b,nH,y1f];try rfl;all_goals fail) | rfl):Mem V K' w:=h▸q1i N l
theorem qP {id:Nat} {l:List Oper} (kd:List Nat) (p:Plan) (is:List Nat) (J:EnvR n E D a) (N:Mem V K w) (h:∀w,Mem V K w->yF prog .any l.toArray (Sees V (y6h K is)) kd (fun c w=>∀a,a.defers=D->Q (.panic c) a w) (Q .normal) p a w)
  (b:z6m l.toArray kd p=true:=by kernel_rfl):(Code.region id l.toArray true).wp prog Q a w:=dL kd p _ J N mixed b (fun r hr=>z2z hr) h
theorem Mem.sn {Ψ:Fz} {X:List Res} (N:Mem Ψ K w) (hl:V.Le Ψ) (a:∀r∈X,r∈K:=by first | (simp [y6h,qH,wI,z6d,dJ,z6b,nH,y1f];all_goals fail) | fail):Sees V X w:=N.seesIn hl a
theorem qM (l:List Bs) (x:Bs):strs l++[.string x]=strs (l++[x]):=by rw [yE];rfl
end
structure AtE (n:Nat) (D:List Deferred) (V:Fz) (K:List Res) (w:World) (A:Act->World->Prop) (E E':List (Nat×Value)) (d:Nat) (op:Op) (S:World->Prop) (B:Act->World->Prop) (Qp:List PanicEntry->World->Prop):Prop where
 h:Sees V K w->(∀a ty pos aft g,EnvR n E' D a->Oper.eff prog ⟨some d,op,ty,pos,aft,g⟩ a w (fun v w'=>S w'/\∀a,EnvR n ((d,v)::E') D a->B a w') Qp)->∀a,EnvR n E D a->A a w
structure AtE0 (n:Nat) (D:List Deferred) (V:Fz) (K:List Res) (w:World) (A:Act->World->Prop) (E E':List (Nat×Value)) (op:Op) (S:World->Prop) (B:Act->World->Prop) (Qp:List PanicEntry->World->Prop):Prop where
 h:Sees V K w->(∀a ty pos aft g,EnvR n E' D a->Oper.eff prog ⟨none,op,ty,pos,aft,g⟩ a w (fun _ w'=>S w'/\∀a,EnvR n E' D a->B a w') Qp)->∀a,EnvR n E D a->A a w
structure AtQ (n:Nat) (D:List Deferred) (V:Fz) (K:List Res) (w:World) (A:Act->World->Prop) (E E':List (Nat×Value)) (d:Nat) (op:Op) (W:World->Prop) (B:Act->World->Prop):Prop where
 h:Sees V K w->∀v,(∀a ty w,EnvR n E' D a->W w->Ok prog a op ty w v)->(∀a,EnvR n ((d,v)::E') D a->B a w)->∀a,EnvR n E D a->A a w
section
variable {n:Nat} {D:List Deferred} {V Φ':Fz} {K K':List Res} {w:World} {A B B0 q:Act->World->Prop} {E E' E1:List (Nat×Value)} {d i j t:Nat} {b:Bool} {op:Op} {S W B':World->Prop} {Qp:List PanicEntry->World->Prop} {ty:TypeId} {pos:String} {aft:Array Edge} {rest:List Oper} {ops:Array Oper} {Q:Exit->Act->World->Prop} {kd:List Nat} {p:Plan}
theorem e_go (h1:Go2 n D V K w A E B0 E1) (h2:AtE n D V K w B0 E1 E' d op S B Qp):AtE n D V K w A E E' d op S B Qp:=⟨fun O k a J=>h1.h O (fun a J=>h2.h O k a J) a J⟩
theorem e0_go (h1:Go2 n D V K w A E B0 E1) (h2:AtE0 n D V K w B0 E1 E' op S B Qp):AtE0 n D V K w A E E' op S B Qp:=⟨fun O k a J=>h1.h O (fun a J=>h2.h O k a J) a J⟩
theorem q_go (h1:Go2 n D V K w A E B0 E1) (h2:AtQ n D V K w B0 E1 E' d op W B):AtQ n D V K w A E E' d op W B:=⟨fun O v b k a J=>h1.h O (fun a J=>h2.h O v b k a J) a J⟩
theorem e_st (b:Nat.blt d n=true):AtE n D V K w (wpList prog ops Q (⟨some d,op,ty,pos,aft,none⟩::rest)) E E d op (fun _=>True) (wpList prog ops Q rest) (fun c w'=>∀a,a.defers=D->Q (.panic c) a w') :=
 ⟨fun _ h a J=>st J rfl b rfl (qB (h a ty pos aft none J) (fun _ _ h=>h.2) (fun _ _ h=>h))⟩
theorem e_gy (f:ops[j]?.bind (·.dst)=some t) (g:get E t=some (.bool b)) (e:Nat.blt d n=true):AtE n D V K w (wpList prog ops Q (⟨some d,op,ty,pos,aft,some (j,b)⟩::rest)) E E d op (fun _=>True) (wpList prog ops Q rest) (fun c w'=>∀a,a.defers=D->Q (.panic c) a w') :=
 ⟨fun _ h a J=>j6q J rfl rfl e f g (qB (h a ty pos aft (some (j,b)) J) (fun _ _ h=>h.2) (fun _ _ h=>h))⟩
theorem e_dp (c:ops[i]? = some ⟨some d,op,ty,pos,aft,none⟩) (f:qC kd i=0) (b:Nat.blt d n=true):AtE n D V K w (yF prog .any ops B' kd Qp q (.e i p)) E E d op (fun w'=>oN .any kd ⟨some d,op,ty,pos,aft,none⟩=true->B' w') (yF prog .any ops B' kd Qp q p) Qp :=
 ⟨fun _ h a J=>d_e J c f b (h a ty pos aft none J)⟩
theorem e_dg (f:ops[i]? = some ⟨some d,op,ty,pos,aft,some (j,b)⟩) (g:ops[j]?.bind (·.dst)=some t) (l:get E t=some (.bool b)) (k:qC kd i=0) (c:Nat.blt d n=true):AtE n D V K w (yF prog .any ops B' kd Qp q (.e i p)) E E d op (fun w'=>oN .any kd ⟨some d,op,ty,pos,aft,some (j,b)⟩=true->B' w') (yF prog .any ops B' kd Qp q p) Qp :=
 ⟨fun _ h a J=>d_eg J f g l k c (h a ty pos aft (some (j,b)) J)⟩
theorem e0_st:AtE0 n D V K w (wpList prog ops Q (⟨none,op,ty,pos,aft,none⟩::rest)) E E op (fun _=>True) (wpList prog ops Q rest) (fun c w'=>∀a,a.defers=D->Q (.panic c) a w') :=
 ⟨fun _ h a J=>st0 J rfl rfl (qB (h a ty pos aft none J) (fun _ _ h=>h.2) (fun _ _ h=>h))⟩
theorem e0_gy (d:ops[j]?.bind (·.dst)=some t) (e:get E t=some (.bool b)):AtE0 n D V K w (wpList prog ops Q (⟨none,op,ty,pos,aft,some (j,b)⟩::rest)) E E op (fun _=>True) (wpList prog ops Q rest) (fun c w'=>∀a,a.defers=D->Q (.panic c) a w') :=
 ⟨fun _ h a J=>g_yes0 J rfl rfl d e (qB (h a ty pos aft (some (j,b)) J) (fun _ _ h=>h.2) (fun _ _ h=>h))⟩
theorem e0_dp (b:ops[i]? = some ⟨none,op,ty,pos,aft,none⟩) (c:qC kd i=0):AtE0 n D V K w (yF prog .any ops B' kd Qp q (.e i p)) E E op (fun w'=>oN .any kd ⟨none,op,ty,pos,aft,none⟩=true->B' w') (yF prog .any ops B' kd Qp q p) Qp :=
 ⟨fun _ h a J=>y8u J b c (h a ty pos aft none J)⟩
theorem q_st (b:Nat.blt d n=true):AtQ n D V K w (wpList prog ops Q (⟨some d,op,ty,pos,aft,none⟩::rest)) E E d op (Sees V K) (wpList prog ops Q rest):=⟨fun O _ c k a J=>jS J (c a ty w J O) b k⟩
theorem q_gy (e:ops[j]?.bind (·.dst)=some t) (g:get E t=some (.bool b)) (c:Nat.blt d n=true):AtQ n D V K w (wpList prog ops Q (⟨some d,op,ty,pos,aft,some (j,b)⟩::rest)) E E d op (Sees V K) (wpList prog ops Q rest):=⟨fun O _ f k a J=>j6q J rfl rfl c e g (pY (f a ty w J O) k)⟩
theorem q_d1 (c:ops[i]? = some ⟨some d,op,ty,pos,aft,none⟩) (e:qC kd i=1) (b:Nat.blt d n=true):AtQ n D V K w (yF prog .any ops B' kd Qp q (.q i p)) E E d op (fun _=>True) (yF prog .any ops B' kd Qp q p):=⟨fun _ _ f k a J=>y3n J c e (fun w=>f a ty w J trivial) b k⟩
theorem q_d2 (c:ops[i]? = some ⟨some d,op,ty,pos,aft,none⟩) (e:qC kd i=2) (b:Nat.blt d n=true):AtQ n D V K w (yF prog .any ops B' kd Qp q (.q i p)) E E d op B' (yF prog .any ops B' kd Qp q p):=⟨fun _ _ f k a J=>d_q J c e (fun w g=>f a ty w J g) b k⟩
theorem q_d1g (e:ops[i]? = some ⟨some d,op,ty,pos,aft,some (j,b)⟩) (f:ops[j]?.bind (·.dst)=some t) (l:get E t=some (.bool b)) (g:qC kd i=1) (c:Nat.blt d n=true):AtQ n D V K w (yF prog .any ops B' kd Qp q (.q i p)) E E d op (fun _=>True) (yF prog .any ops B' kd Qp q p):=⟨fun _ _ h k a J=>d_qg1 J e f l g (fun w=>h a ty w J trivial) c k⟩
theorem q_d2g (e:ops[i]? = some ⟨some d,op,ty,pos,aft,some (j,b)⟩) (f:ops[j]?.bind (·.dst)=some t) (l:get E t=some (.bool b)) (g:qC kd i=2) (c:Nat.blt d n=true):AtQ n D V K w (yF prog .any ops B' kd Qp q (.q i p)) E E d op B' (yF prog .any ops B' kd Qp q p):=⟨fun _ _ h k a J=>d_qg J e f l g (fun w m=>h a ty w J m) c k⟩
end
def q8m:List Nat->Nat->Nat
 | [],_=>0
 | x::_,0=>x
 | _::l,i+1=>q8m l i
def setAt:List Value->Nat->Value->List Value
 | [],_,_=>[]
 | _::l,0,v=>v::l
 | x::l,i+1,v=>x::setAt l i v
def j3f (zs:List Value) (os:List Nat):List (Nat×Value)->List Value
 | []=>zs
 | (i,v)::l=>j3f (setAt zs (q8m os i) v) os l
def j7f (zs:List Value) (os:List Nat):List (Nat×Value)->List Value
 | []=>zs
 | (i,v)::l=>j7f (nH zs (q8m os i) v.cells.toList) os l
def q7a (E:List (Nat×Value)):List Nat->Option (List (Nat×Value))
 | []=>some []
 | t::l=>match get E t,q7a E l with
  | some v,some r=>some ((t,v)::r)
  | _,_=>none
theorem q0r {E:List (Nat×Value)}:∀{ks:List Nat} {E1:List (Nat×Value)},q7a E ks=some E1->∀t v,get E1 t=some v->get E t=some v
 | [],E1,h,t,v,a=>by simp only [q7a,Option.some.injEq] at h;subst h;cases a
 | k::ks,E1,h,t,v,a=>by
  simp only [q7a] at h
  split at h
  ·rename_i u r h1 h2
   simp only [Option.some.injEq] at h
   subst h
   rcases wK a with ⟨rfl,rfl⟩ | ⟨_,a⟩
   ·exact h1
   ·exact q0r h2 t v a
  ·cases h
def eput:List (Nat×Value)->List (Nat×Value)->List (Nat×Value)
 | [],E=>E
 | x::X,E=>x::eput X E
def q8b:List Res->Nat->Option (Res×List Res)
 | [],_=>none
 | r::K,0=>some (r,K)
 | r::K,i+1=>match q8b K i with
  | some (x,K')=>some (x,r::K')
  | none=>none
theorem x0e {K:List Res} {i:Nat} {r:Res} {K':List Res} (h:q8b K i=some (r,K')):qH K i=some r/\K'=dJ K i:=by
 induction K generalizing i K' with
 | nil=>cases h
 | cons x K a=>cases i with
  | zero=>simp only [q8b,Option.some.injEq,Prod.mk.injEq] at h;exact ⟨by rw [<- h.1];rfl,h.2.symm⟩
  | succ i=>
   simp only [q8b] at h
   split at h
   ·rename_i y K1 h1
    simp only [Option.some.injEq,Prod.mk.injEq] at h
    obtain ⟨rfl,rfl⟩:=h
    obtain ⟨h2,rfl⟩:=a h1
    exact ⟨h2,rfl⟩
   ·cases h
def y5h:List Res->List Nat->Option (List Res)
 | K,[]=>some K
 | K,i::l=>match q8b K i with
  | some (r,K')=>y5h (r::K') l
  | none=>none
theorem j2l {V:Fz} {K K':List Res} {w:World} (l:List Nat) (h:y5h K l=some K') (N:Mem V K w):Mem V K' w:=by
 induction l generalizing K with
 | nil=>simp only [y5h,Option.some.injEq] at h;exact h▸N
 | cons i l a=>
  simp only [y5h] at h
  split at h
  ·rename_i r K1 h1
   obtain ⟨h2,rfl⟩:=x0e h1
   exact a h (N.pull h2)
  ·cases h
def flat:List (Nat×Value)->List Value
 | []=>[]
 | (_,v)::l=>v.cells.toList++flat l
def planOp:Nat->Nat->Plan->Plan
 | 0,i,p=>.e i p
 | _+1,i,p=>.q i p
class BzT (t:TypeId) (zs:outParam (List Value)) (os:outParam (List Nat)):Prop where h:True
instance:BzT 106 [.slice none 0 0,.slice none 0 0,.slice none 0 0,.slice none 0 0,.map none,.map none,.map none,.map none] [0,4,5,6,7]:=⟨trivial⟩
instance:BzT 133 [.string ⟨#[]⟩,.slice none 0 0] [0,1]:=⟨trivial⟩
instance:BzT 135 [.string ⟨#[]⟩,.slice none 0 0] [0,1]:=⟨trivial⟩
instance:BzT 150 [.slice none 0 0,.int .i64 ((0:Nat):Int),.bool false] [0,1,2]:=⟨trivial⟩
instance:BzT 177 [] []:=⟨trivial⟩
instance:BzT 181 [.string ⟨#[]⟩,.string ⟨#[]⟩,.int .i64 ((0:Nat):Int),.slice none 0 0,.pointer none] [0,1,4]:=⟨trivial⟩
instance:BzT 190 [.string ⟨#[]⟩,.string ⟨#[]⟩,.slice none 0 0] [0,1]:=⟨trivial⟩
instance:BzT 195 [.string ⟨#[]⟩,.slice none 0 0,.int .i64 ((0:Nat):Int),.int .i64 ((0:Nat):Int),.string ⟨#[]⟩,.slice none 0 0,.slice none 0 0] [0,1,2]:=⟨trivial⟩
instance:BzT 204 [.int .i64 ((0:Nat):Int)] [0]:=⟨trivial⟩
instance:BzT 27 [.slice none 0 0,.slice none 0 0,.slice none 0 0,.slice none 0 0] [0,1,2,3]:=⟨trivial⟩
instance:BzT 270 [.int .i64 ((0:Nat):Int),.int .i64 ((0:Nat):Int)] [0,1]:=⟨trivial⟩
instance:BzT 274 [.int .i64 ((0:Nat):Int),.int .i64 ((0:Nat):Int),.string ⟨#[]⟩,.int .i64 ((0:Nat):Int)] [0,1,2,3]:=⟨trivial⟩
instance:BzT 297 [.string ⟨#[]⟩,.int .i64 ((0:Nat):Int)] [0,1]:=⟨trivial⟩
instance:BzT 30 [.slice none 0 0,.int .i64 ((0:Nat):Int)] [0,1]:=⟨trivial⟩
instance:BzT 301 [.string ⟨#[]⟩,.int .i64 ((0:Nat):Int),.map none,.slice none 0 0] [0,2,3]:=⟨trivial⟩
instance:BzT 302 [.string ⟨#[]⟩,.string ⟨#[]⟩,.string ⟨#[]⟩,.string ⟨#[]⟩,.string ⟨#[]⟩,.string ⟨#[]⟩,.string ⟨#[]⟩,.string ⟨#[]⟩,.string ⟨#[]⟩,.string ⟨#[]⟩,.string ⟨#[]⟩,.string ⟨#[]⟩,.string ⟨#[]⟩,.string ⟨#[]⟩,.string ⟨#[]⟩] [0,1,2,3,4,5,6,7,8,9,10,11,12,13,14]:=⟨trivial⟩
instance:BzT 314 [.int .i64 ((0:Nat):Int),.int .i64 ((0:Nat):Int)] [0,1]:=⟨trivial⟩
instance:BzT 42 [.string ⟨#[]⟩,.int .i64 ((0:Nat):Int),.slice none 0 0] [0,1,2]:=⟨trivial⟩
instance:BzT 62 [.string ⟨#[]⟩,.string ⟨#[]⟩,.int .i64 ((0:Nat):Int),.slice none 0 0] [0,1]:=⟨trivial⟩
instance:BzT 66 [.int .i64 ((0:Nat):Int),.int .i64 ((0:Nat):Int),.string ⟨#[]⟩,.slice none 0 0,.slice none 0 0] [0,1,2,3,4]:=⟨trivial⟩
instance:BzT 68 [.string ⟨#[]⟩,.slice none 0 0,.string ⟨#[]⟩,.int .i64 ((0:Nat):Int),.int .i64 ((0:Nat):Int),.string ⟨#[]⟩,.slice none 0 0,.slice none 0 0] [0,1,2,3]:=⟨trivial⟩
instance:BzT 72 [.string ⟨#[]⟩,.string ⟨#[]⟩] [0,1]:=⟨trivial⟩
instance:BzT 99 [.pointer none,.map none,.pointer none,.int .i64 ((0:Nat):Int)] [0,1,2,3]:=⟨trivial⟩
def q5f:Nat->List Nat->Plan
 | _,[]=>.done
 | i,k::l=>planOp k i (q5f (i+1) l)
section
variable {n:Nat} {D:List Deferred} {V Φ':Fz} {K K':List Res} {a:Act} {w:World} {A B:Act->World->Prop} {E E':List (Nat×Value)} {d:Nat} {b:Bool} {op:Op} {S W:World->Prop} {Qp:List PanicEntry->World->Prop} {f:FuncId} {X:Value} {xs:Array Operand} {ts:Array TypeId} {vs fs cs:List Value} {y0:Operand} {R:Ending->World->Prop}
theorem nfK {K K':List Res} (h:K=K':=by first | (dsimp only [wI,z6d,dJ,z6b,nH,y1f];try rfl;all_goals fail) | rfl):K=K':=h
theorem lnS {S:Prop} (h:S:=by first | exact trivial | (intro hl;first | exact N.sn (Fz.Le.refl _) | exact N.sn (by first | assumption | exact Fz.Le.trans (by assumption) (by assumption)) | exact dK (by kernel_rfl) hl)):S:=h
theorem lnG {S:Prop} (h:S:=by first | exact trivial | (intro hl;first | exact N.sn (Fz.Le.refl _) | exact N.sn hG | exact N.sn hG.1 | exact N.sn (Fz.Le.trans (by assumption) hG) | exact N.sn (Fz.Le.trans (by assumption) hG.1) | exact N.sn (by first | assumption | exact Fz.Le.trans (by assumption) (by assumption)) | exact dK (by kernel_rfl) hl)):S:=h
theorem cellsC {v:Value} (h:v.cells.toList=vs:=by first | with_reducible exact j5p _ | with_reducible exact j5r _ _ | with_reducible exact q3h _ | with_reducible exact j5u _ | with_reducible exact j5t _ | with_reducible exact c_sl _ _ _ | with_reducible exact j5s _ | with_reducible exact j5q _ _ _ | exact Sees.gsCells (i:=0) N.toSees rfl | exact Sees.gsCells (i:=1) N.toSees rfl | exact Sees.gsCells (i:=2) N.toSees rfl | exact Sees.gsCells (i:=3) N.toSees rfl | exact Sees.gsCells (i:=4) N.toSees rfl | exact Sees.gsCells (i:=5) N.toSees rfl | exact Sees.gsCells (i:=6) N.toSees rfl | exact Sees.gsCells (i:=7) N.toSees rfl | exact Sees.gsCells (i:=8) N.toSees rfl | exact Sees.gsCells (i:=9) N.toSees rfl | exact Sees.gsCells (i:=10) N.toSees rfl | exact Sees.gsCells (i:=11) N.toSees rfl | exact j5p _ | exact j5r _ _ | exact q3h _ | exact j5u _ | exact j5t _ | exact c_sl _ _ _ | exact j5s _ | exact j5q _ _ _):v.cells.toList=vs:=h
theorem oneC (h:vs.all Value.oneCell'=true:=by first | rfl | exact Sees.gsOne (i:=0) N.toSees rfl | exact Sees.gsOne (i:=1) N.toSees rfl | exact Sees.gsOne (i:=2) N.toSees rfl | exact Sees.gsOne (i:=3) N.toSees rfl | exact Sees.gsOne (i:=4) N.toSees rfl | exact Sees.gsOne (i:=5) N.toSees rfl | exact Sees.gsOne (i:=6) N.toSees rfl | exact Sees.gsOne (i:=7) N.toSees rfl | exact Sees.gsOne (i:=8) N.toSees rfl | exact Sees.gsOne (i:=9) N.toSees rfl | exact Sees.gsOne (i:=10) N.toSees rfl | exact Sees.gsOne (i:=11) N.toSees rfl):vs.all Value.oneCell'=true:=h
theorem dW (a:AtE n D V K w A E E' d op S B Qp:=by ((with_reducible apply e_go);(exact goGo);first | ((with_reducible apply e_st);rfl) | ((with_reducible apply e_dp);rfl;rfl;rfl) | ((with_reducible apply e_gy);rfl;rfl;rfl) | ((with_reducible apply e_dg);rfl;rfl;rfl;rfl;rfl))):AtE n D V K w A E E' d op S B Qp:=a
theorem atAct0 (a:AtE0 n D V K w A E E' op S B Qp:=by ((with_reducible apply e0_go);(exact goGo);first | (with_reducible apply e0_st) | ((with_reducible apply e0_dp);rfl;rfl) | ((with_reducible apply e0_gy);rfl;rfl) | ((with_reducible apply e0_dg);rfl;rfl;rfl;rfl))):AtE0 n D V K w A E E' op S B Qp:=a
theorem j1b (a:AtQ n D V K w A E E' d op W B:=by ((with_reducible apply q_go);(exact goGo);first | ((with_reducible apply q_st);rfl) | ((with_reducible apply q_d1);rfl;rfl;rfl) | ((with_reducible apply q_d2);rfl;rfl;rfl) | ((with_reducible apply q_gy);rfl;rfl;rfl) | ((with_reducible apply q_d1g);rfl;rfl;rfl;rfl;rfl) | ((with_reducible apply q_d2g);rfl;rfl;rfl;rfl;rfl))):AtQ n D V K w A E E' d op W B:=a
theorem zO (j:∀args w,(callFunc f args).run prog w=.ok (.enter f args) w) (k:∀w,Mem Φ' K' w->∀a,EnvR n ((d,X)::E') D a->B a w) (J:EnvR n E D a:=by exact J) (N:Mem V K w:=by exact N) (b:AtE n D V K w A E E' d (.call { callee:=.value (.func f),args:=xs,argTypes:=ts }) S B Qp:=by exact dW) (l:evs E' xs.toList=some vs:=by rfl) (c:Calls prog f vs.toArray w (fun e w'=>e=.returned X/\Mem Φ' K' w')) (i:∀w,Mem Φ' K' w->S w:=by intro w N;exact lnS):A a w :=
 b.h N.toSees (fun a ty pos aft g J=>q0o J l j c fun w N=>⟨i w N,fun a J=>k w N a J⟩) a J
theorem zX (k:∀args w,(callFunc f args).run prog w=.ok (.enter f args) w) (kt:b=true->∀w,Mem Φ' K' w->∀a,EnvR n ((d,.bool true)::E') D a->B a w) (kf:b=false->∀w,Mem Φ' K' w->∀a,EnvR n ((d,.bool false)::E') D a->B a w) (J:EnvR n E D a:=by exact J) (N:Mem V K w:=by exact N) (j:AtE n D V K w A E E' d (.call { callee:=.value (.func f),args:=xs,argTypes:=ts }) S B Qp:=by exact dW) (l:evs E' xs.toList=some vs:=by rfl) (c:Calls prog f vs.toArray w (fun e w'=>e=.returned (.bool b)/\Mem Φ' K' w')) (i:∀w,Mem Φ' K' w->S w:=by intro w N;exact lnS):A a w :=
 j.h N.toSees (fun a ty pos aft g J=>j9b J l k c (fun hb w N=>⟨i w N,fun a J=>kt hb w N a J⟩) (fun hb w N=>⟨i w N,fun a J=>kf hb w N a J⟩)) a J
theorem q3b (j:∀args w,(callFunc f args).run prog w=.ok (.enter f args) w) (k:∀w,Mem Φ' K' w->∀a,EnvR n ((d,X)::E') D a->B a w) (J:EnvR n E D a:=by exact J) (N:Mem V K w:=by exact N) (b:AtE n D V K w A E E' d (.call { callee:=.value y0,args:=xs,argTypes:=ts }) S B Qp:=by exact dW) (m:ev E' y0=some (.func (.func f) fs.toArray cs.toArray):=by rfl) (l:evs E' xs.toList=some vs:=by rfl) (c:Calls prog f (fs++vs++cs).toArray w (fun e w'=>e=.returned X/\Mem Φ' K' w')) (i:∀w,Mem Φ' K' w->S w:=by intro w N;exact lnS):A a w :=
 b.h N.toSees (fun a ty pos aft g J=>y3y J m l j c fun w N=>⟨i w N,fun a J=>k w N a J⟩) a J
theorem y1u (k:∀args w,(callFunc f args).run prog w=.ok (.enter f args) w) (kt:b=true->∀w,Mem Φ' K' w->∀a,EnvR n ((d,.bool true)::E') D a->B a w) (kf:b=false->∀w,Mem Φ' K' w->∀a,EnvR n ((d,.bool false)::E') D a->B a w) (J:EnvR n E D a:=by exact J) (N:Mem V K w:=by exact N) (j:AtE n D V K w A E E' d (.call { callee:=.value y0,args:=xs,argTypes:=ts }) S B Qp:=by exact dW) (m:ev E' y0=some (.func (.func f) fs.toArray cs.toArray):=by rfl) (l:evs E' xs.toList=some vs:=by rfl) (c:Calls prog f (fs++vs++cs).toArray w (fun e w'=>e=.returned (.bool b)/\Mem Φ' K' w')) (i:∀w,Mem Φ' K' w->S w:=by intro w N;exact lnS):A a w :=
 j.h N.toSees (fun a ty pos aft g J=>j1t J m l k c (fun hb w N=>⟨i w N,fun a J=>kt hb w N a J⟩) (fun hb w N=>⟨i w N,fun a J=>kf hb w N a J⟩)) a J
theorem zV {β:Type} {X:β->Value} {F1:β->Fz} {KO:β->List Res} {G:β->Prop} (j:∀args w,(callFunc f args).run prog w=.ok (.enter f args) w) (k:∀y w,G y->Mem (F1 y) (KO y) w->∀a,EnvR n ((d,X y)::E') D a->B a w) (J:EnvR n E D a:=by exact J) (N:Mem V K w:=by exact N) (b:AtE n D V K w A E E' d (.call { callee:=.value (.func f),args:=xs,argTypes:=ts }) S B Qp:=by exact dW) (l:evs E' xs.toList=some vs:=by rfl) (c:Calls prog f vs.toArray w (fun e w'=>∃y,e=.returned (X y)/\G y/\Mem (F1 y) (KO y) w')) (i:∀y w,G y->Mem (F1 y) (KO y) w->S w:=by intro y w hG N;exact lnG):A a w :=
 b.h N.toSees (fun a ty pos aft g J=>z2p J l j c fun y w hG N=>⟨i y w hG N,fun a J=>k y w hG N a J⟩) a J
theorem jE {α ε:Type} {r:Except ε α} {X:α->Value} {C:ε->List PanicEntry} {b i:Fz} {KO:α->List Res} {KE:List Res} (p:∀args w,(callFunc f args).run prog w=.ok (.enter f args) w) (k:∀x w,r=.ok x->Mem b (KO x) w->∀a,EnvR n ((d,X x)::E') D a->B a w) (kp:∀c w,r=.error c->Mem i KE w->R (.panicked (C c)) w) {fn:Func} {Q0:Exit->Act->World->Prop} (hQ:∀e a w,bodyPost prog fn R e a w->Q0 e a w:=by exact hQ) (J:EnvR n E D a:=by exact J) (N:Mem V K w:=by exact N) (j:AtE n D V K w A E E' d (.call { callee:=.value (.func f),args:=xs,argTypes:=ts }) S B Qp:=by exact dW) (q:evs E' xs.toList=some vs:=by rfl)
  (c:Calls prog f vs.toArray w (fun e w'=>Out r (fun x=>e=.returned (X x)/\Mem b (KO x) w') (fun c=>e=.panicked (C c)/\Mem i KE w'))) (m:∀x w,r=.ok x->Mem b (KO x) w->S w:=by intro x w hq N;exact lnS) (l:∀c w,(∀a,a.defers=[]->Q0 (.panic c) a w)->Qp c w:=by exact fun _ _ h=>h):A a w :=
 j.h N.toSees (fun a ty pos aft g J=>z7z J q p c (fun x w hq N=>⟨m x w hq N,fun a J=>k x w hq N a J⟩) (fun c w hq N=>l _ _ fun _ o=>hQ _ _ _ (yY o (kp c w hq N)))) a J
theorem xV {α β ε:Type} {r:Except ε α} {X:α->β->Value} {C:ε->List PanicEntry} {F1:α->β->Fz} {b:Fz} {KO:α->β->List Res} {KE:List Res} {G:α->β->Prop} (o:∀args w,(callFunc f args).run prog w=.ok (.enter f args) w) (k:∀x y w,r=.ok x->G x y->Mem (F1 x y) (KO x y) w->∀a,EnvR n ((d,X x y)::E') D a->B a w) (kp:∀c w,r=.error c->Mem b KE w->R (.panicked (C c)) w) {fn:Func} {Q0:Exit->Act->World->Prop} (hQ:∀e a w,bodyPost prog fn R e a w->Q0 e a w:=by exact hQ) (J:EnvR n E D a:=by exact J) (N:Mem V K w:=by exact N) (i:AtE n D V K w A E E' d (.call { callee:=.value (.func f),args:=xs,argTypes:=ts }) S B Qp:=by exact dW) (p:evs E' xs.toList=some vs:=by rfl)
  (c:Calls prog f vs.toArray w (fun e w'=>Out r (fun x=>∃y,e=.returned (X x y)/\G x y/\Mem (F1 x y) (KO x y) w') (fun c=>e=.panicked (C c)/\Mem b KE w'))) (l:∀x y w,r=.ok x->G x y->Mem (F1 x y) (KO x y) w->S w:=by intro x y w hq hG N;exact lnG) (j:∀c w,(∀a,a.defers=[]->Q0 (.panic c) a w)->Qp c w:=by exact fun _ _ h=>h):A a w :=
 i.h N.toSees (fun a ty pos aft g J=>z8b J p o c (fun x y w hq hG N=>⟨l x y w hq hG N,fun a J=>k x y w hq hG N a J⟩) (fun c w hq N=>j _ _ fun _ m=>hQ _ _ _ (yY m (kp c w hq N)))) a J
theorem Sto (i:Nat) {x y:Operand} {T c:TypeId} {b off k:Nat} {v:Value} (kk:∀w,Mem V K' w->∀a,EnvR n E' D a->B a w) (J:EnvR n E D a:=by exact J) (N:Mem V K w:=by exact N) (e:AtE0 n D V K w A E E' (.store T x y) S B Qp:=by exact atAct0) (j:SzT T k:=by infer_instance)
  (p:ev E' x=some (.pointer (some ⟨b,off,none⟩)):=by rfl) (q:ev E' y=some v:=by rfl) (o:qH K i=some (.blk b (ob cs c)):=by rfl) (l:v.cells.toList=vs:=by exact cellsC) (hl:vs.length=k:=by rfl)
  (h1:vs.all Value.oneCell'=true:=by exact oneC) (m:Nat.ble (off+vs.length) cs.length=true:=by rfl) (d:wI K i (.blk b (ob (nH cs off vs) c))=K':=by exact nfK) (f:∀w,Mem V K' w->S w:=by intro w N;exact lnS):A a w :=
 e.h N.toSees (fun a ty pos aft g J=>qF i J N p q o l j.h hl h1 m fun w N=>⟨f w (d▸N),fun a J=>kk w (d▸N) a J⟩) a J
theorem Alc {T:TypeId} (k:∀b w,Mem V (.blk b (ob cs T)::K) w->∀a,EnvR n ((d,.pointer (some ⟨b,0,none⟩))::E') D a->B a w) (J:EnvR n E D a:=by exact J) (N:Mem V K w:=by exact N) (c:AtE n D V K w A E E' d (.alloc T) S B Qp:=by exact dW) (f:ZeT T cs:=by infer_instance) (e:∀b w,Mem V (.blk b (ob cs T)::K) w->S w:=by intro y w N;exact lnS):A a w :=
 let ⟨_,h1,h2⟩:=f.h
 c.h N.toSees (fun a ty pos aft g J=>wN N h1 h2 fun b w N=>⟨e b w N,fun a J=>k b w N a J⟩) a J
theorem Bx {T:TypeId} {x:Operand} {v:Value} (k:∀b w,Mem V (.blk b (ob cs T)::K) w->∀a,EnvR n ((d,.pointer (some ⟨b,0,none⟩))::E') D a->B a w) (J:EnvR n E D a:=by exact J) (N:Mem V K w:=by exact N) (c:AtE n D V K w A E E' d (.box T x) S B Qp:=by exact dW) (i:ev E' x=some v:=by rfl) (f:v.cells.toList=cs:=by exact cellsC)
  (e:∀b w,Mem V (.blk b (ob cs T)::K) w->S w:=by intro y w N;exact lnS):A a w:=c.h N.toSees (fun a ty pos aft g J=>j6a J N i f fun b w N=>⟨e b w N,fun a J=>k b w N a J⟩) a J
theorem MkM {t:TypeId} (k:∀b w,Mem V (.mp b []::K) w->∀a,EnvR n ((d,.map (some b))::E') D a->B a w) (J:EnvR n E D a:=by exact J) (N:Mem V K w:=by exact N) (c:AtE n D V K w A E E' d (.makeMap t none) S B Qp:=by exact dW) (e:∀b w,Mem V (.mp b []::K) w->S w:=by intro y w N;exact lnS):A a w :=
 c.h N.toSees (fun a ty pos aft g J=>q6x N fun b w N=>⟨e b w N,fun a J=>k b w N a J⟩) a J
theorem z5h (i:Nat) {t kt et:TypeId} {x y z:Operand} {b:Nat} {m:List (Bs×Value)} {s:Bs} {v:Value} (l:Under prog t (.map kt et)) (c:Under prog kt .string) (k:∀w,Mem V K' w->∀a,EnvR n E' D a->B a w) (J:EnvR n E D a:=by exact J) (N:Mem V K w:=by exact N) (e:AtE0 n D V K w A E E' (.mapUpdate t x y z) S B Qp:=by exact atAct0)
  (o:ev E' x=some (.map (some b)):=by rfl) (p:ev E' y=some (.string s):=by rfl) (q:ev E' z=some v:=by rfl) (j:qH K i=some (.mp b m):=by rfl) (d:wI K i (.mp b (nX m s v))=K':=by exact nfK) (f:∀w,Mem V K' w->S w:=by intro w N;exact lnS):A a w :=
 e.h N.toSees (fun a ty pos aft g J=>y8v i l c J N o p q j fun w N=>⟨f w (d▸N),fun a J=>k w (d▸N) a J⟩) a J
theorem yU (i:Nat) {s x:Operand} {t e:TypeId} {size bytes:Nat} {v vx:Value} {rs news:List Value} {K':Value->List Res} (j:RowT prog t e size bytes) (k:∀v w,Mem V (K' v) w->∀a,EnvR n ((d,v)::E') D a->B a w) (J:EnvR n E D a:=by exact J) (N:Mem V K w:=by exact N) (c:AtE n D V K w A E E' d (.call { callee:=.builtin .append,args:=#[s,x],argTypes:=#[t,t] }) S B Qp:=by exact dW)
  (O:ev E' s=some v:=by rfl) (l:qH K i=some (.gs v e size rs):=by rfl) (m:ev E' x=some vx:=by rfl) (hr:y9p w vx size news:=by first | exact Sees.rowIn (i:=0) N.toSees rfl | exact Sees.rowIn (i:=1) N.toSees rfl | exact Sees.rowIn (i:=2) N.toSees rfl | exact Sees.rowIn (i:=3) N.toSees rfl) (h1:news.all Value.oneCell'=true:=by rfl) (hb:(rs.length+news.length) * bytes<=140737488355328:=by first | (rw [z9x];simp only [lcQ,lnQ];omega) | (have h_:=hch.length;rw [h_];simp only [lcQ,lnQ];omega) | (simp only [zZ,lcQ,lnQ];omega) | (simp only [lcQ,lnQ];omega)) (b:∀v,wI K i (.gs v e size (rs++news))=K' v:=by intro v;exact nfK)
  (f:∀v w,Mem V (K' v) w->S w:=by intro y w N;exact lnS):A a w:=c.h N.toSees (fun a ty pos aft g J=>z4c i j J N O l m hr h1 hb fun v w N=>⟨f v w (b v▸N),fun a J=>k v w (b v▸N) a J⟩) a J
theorem yK {t e:TypeId} {len sz:Nat} {ps:Array (Nat×Operand)} {vs:List (Nat×Value)} {zs:List Value} (k:∀v w,Mem V (.gs v e sz cs::K) w->∀a,EnvR n ((d,v)::E') D a->B a w) (J:EnvR n E D a:=by exact J) (N:Mem V K w:=by exact N) (f:AtE n D V K w A E E' d (.buildSlice t len ps) S B Qp:=by exact dW) (p:SlT t e:=by infer_instance) (O:SzT e sz:=by infer_instance) (r:ZeT e zs:=by infer_instance)
  (o:evp E' ps.toList=some vs:=by rfl) (s:flat vs=cs:=by first | (simp only [flat,j5p,j5r,q3h,j5u,j5t,c_sl,j5s,j5q,List.cons_append,List.nil_append,List.append_nil];try rfl;all_goals fail) | fail) (m:Nat.ble (len * sz) 16777216=true:=by rfl) (b:len * sz≠0:=by decide)
  (l:Instr.fill (fun i=>some (i * sz,sz)) ((List.range (len * sz)).map (fun x=>zs[x % zs.length]!)).toArray vs=some cs.toArray:=by kernel_rfl) (hl:cs.length=len * sz:=by rfl) (q:len<=maxLen:=by decide)
  (j:∀v w,Mem V (.gs v e sz cs::K) w->S w:=by intro y w N;exact lnS):A a w:=by
 obtain ⟨z,h1,h2⟩:=r.h
 have c:z.cells=zs.toArray:=by rw [<- h2]
 exact f.h N.toSees (fun a ty pos aft g J=>mK J N o (y2h p.h O.h h1 m b (by rw [c];simpa using l)) hl q fun v w N _=>⟨j v w N,fun a J=>k v w N a J⟩) a J
theorem Qq {v:Value} (k:∀a,EnvR n ((d,v)::E') D a->B a w) (J:EnvR n E D a:=by exact J) (N:Mem V K w:=by exact N) (b:AtQ n D V K w A E E' d op W B:=by exact j1b) (o:∀{a ty w},EnvR n E' D a->W w->Ok prog a op ty w v):A a w:=b.h N.toSees v (fun _ _ _ h1 h2=>o h1 h2) k a J
theorem z3v {t:TypeId} {ps:Array (Nat×Operand)} {vs:List (Nat×Value)} {zs:List Value} {os:List Nat} (k:∀a,EnvR n ((d,.agg cs.toArray)::E') D a->B a w) (J:EnvR n E D a:=by exact J) (N:Mem V K w:=by exact N) (b:AtQ n D V K w A E E' d (.build t ps) W B:=by exact j1b) (f:BzT t zs os:=by infer_instance) (c:evp E' ps.toList=some vs:=by rfl)
  (e:j7f zs os vs=cs:=by first | (simp only [j7f,q8m,j5p,j5r,q3h,j5u,j5t,c_sl,j5s,j5q,nH,y1f];try rfl;all_goals fail) | (simp only [j7f];try rfl;all_goals fail) | fail) (hb:prog.built t vs=some cs.toArray:=by kernel_rfl):A a w:=b.h N.toSees _ (fun _ _ _ J _=>z3e J c hb) k a J
theorem zU {t:TypeId} {ps:Array (Nat×Operand)} {vs:List (Nat×Value)} {zs:List Value} {os:List Nat} (k:∀a,EnvR n ((d,.agg cs.toArray)::E') D a->B a w) (J:EnvR n E D a:=by exact J) (N:Mem V K w:=by exact N) (b:AtQ n D V K w A E E' d (.build t ps) W B:=by exact j1b) (f:BzT t zs os:=by infer_instance) (c:evp E' ps.toList=some vs:=by rfl)
  (e:j3f zs os vs=cs:=by first | (dsimp only [j3f,q8m,setAt];try rfl;all_goals fail) | fail) (hb:prog.built t vs=some cs.toArray:=by kernel_rfl):A a w:=b.h N.toSees _ (fun _ _ _ J _=>z3e J c hb) k a J
theorem Reg {id:Nat} {l:List Oper} {p:Plan} {Q:Exit->Act->World->Prop} (kd:List Nat) (is:List Nat) (h:∀w,Mem V K w->∀a,EnvR n E' D a->yF prog .any l.toArray (Sees V (y6h K is)) kd (fun c w=>∀a,a.defers=D->Q (.panic c) a w) (Q .normal) p a w) (J:EnvR n E D a:=by exact J) (N:Mem V K w:=by exact N)
  (d:Go2 n D V K w A E ((Code.region id l.toArray true).wp prog Q) E':=by exact goGo) (e:q5f 0 kd=p:=by first | (dsimp only [q5f,planOp];try rfl;all_goals fail) | fail) (b:z6m l.toArray kd p=true:=by kernel_rfl):A a w :=
 d.h N.toSees (fun a J=>dL kd p _ J N mixed b (fun r hr=>z2z hr) (fun w N=>h w N a J)) a J
theorem zF {fn:Func} {t:Nat} {v:Value} {Q:Exit->Act->World->Prop} (h:R (.returned v) w) (hQ:∀e a w,bodyPost prog fn R e a w->Q e a w:=by exact hQ) (J:EnvR n E [] a:=by exact J) (N:Mem V K w:=by exact N) (b:Go2 n [] V K w A E (Q .ret) E':=by exact goGo) (hr:fn.results=#[.tmp t]:=by rfl) (c:get E' t=some v:=by rfl):A a w:=b.h N.toSees (fun a J=>hQ _ _ _ (ret1 J hr c h)) a J
theorem jO {fn:Func} {t u:Nat} {v x:Value} {Q:Exit->Act->World->Prop} (h:R (.returned (.tuple #[v,x])) w) (hQ:∀e a w,bodyPost prog fn R e a w->Q e a w:=by exact hQ) (J:EnvR n E [] a:=by exact J) (N:Mem V K w:=by exact N) (b:Go2 n [] V K w A E (Q .ret) E':=by exact goGo) (hr:fn.results=#[.tmp t,.tmp u]:=by rfl) (c:get E' t=some v:=by rfl) (d:get E' u=some x:=by rfl):A a w:=b.h N.toSees (fun a J=>hQ _ _ _ (ret2 J hr c d h)) a J
theorem qI {fn:Func} {t T b k i:Nat} {c:TypeId} {Q:Exit->Act->World->Prop} (h:R (.returned (.agg cs.toArray)) w) (hQ:∀e a w,bodyPost prog fn R e a w->Q e a w:=by exact hQ) (J:EnvR n E [] a:=by exact J) (N:Mem V K w:=by exact N) (d:Go2 n [] V K w A E (Q .ret) E':=by exact goGo) (hr:fn.results=#[.cell t T]:=by rfl) (l:get E' t=some (.pointer (some ⟨b,0,none⟩)):=by rfl)
  (j:qH K i=some (.blk b (ob cs c)):=by first | exact (rfl:qH _ 0=_) | exact (rfl:qH _ 1=_) | exact (rfl:qH _ 2=_) | exact (rfl:qH _ 3=_) | exact (rfl:qH _ 4=_) | exact (rfl:qH _ 5=_) | exact (rfl:qH _ 6=_) | exact (rfl:qH _ 7=_) | exact (rfl:qH _ 8=_) | exact (rfl:qH _ 9=_) | exact (rfl:qH _ 10=_) | exact (rfl:qH _ 11=_)) (g:AgT T:=by infer_instance) (f:SzT T k:=by infer_instance) (hl:cs.length=k:=by rfl):A a w:=d.h N.toSees (fun a J=>hQ _ _ _ (retcA J N.toSees hr l j g.h f.h hl h)) a J
theorem zI {fn:Func} {f:FuncId} {cd:Code} (b:prog.funcs[f]? = some fn) (c:fn.ntmps=n) (k:∀Q:Exit->Act->World->Prop,(∀e a w,bodyPost prog fn R e a w->Q e a w)->∀a,EnvR n (gO 0 vs) [] a->cd.wp prog Q a w) (hb:fn.body=some cd:=by rfl) (hl:Nat.ble vs.length n=true:=by rfl):Calls prog f vs.toArray w R:=enter b hb c hl k
theorem EnvR.pk {E0:List (Nat×Value)} (J:EnvR n E D a) (h:Sub E0 E:=by repeat' (first | exact trivial | rfl | constructor)):EnvR n E0 D a:=J.of_sub h
theorem EnvR.ks (J:EnvR n E D a) (ks:List Nat) {E1:List (Nat×Value)} (h:q7a E ks=some E1:=by rfl):EnvR n E1 D a:=J.sub (q0r h)
theorem zR {Q:Exit->Act->World->Prop} {c:Code} {E1:List (Nat×Value)} (_:EnvR n E1 D a) (_:Mem V K w) (I:(Fz->List (Nat×Value)->List (Nat×Res)->Act->World->Prop)->Nat->Act->World->Prop) (b:Nat)
  (d:I (fun Ψ X Y a w=>EnvR n (eput X E1) D a/\Mem Ψ (z6d K Y) w) b a w)
  (hb:∀m a w,I (fun Ψ X Y a w=>EnvR n (eput X E1) D a/\Mem Ψ (z6d K Y) w) m a w->∀L:Act->World->Prop,(∀m' a w,m' < m->I (fun Ψ X Y a w=>EnvR n (eput X E1) D a/\Mem Ψ (z6d K Y) w) m' a w->L a w)->c.wp prog (Exit.then L Q) a w) :
  (Code.loop c).wp prog Q a w:=mN (I _) b d hb
theorem Mem.ar (N:Mem V K w) (ds is:List Nat) (h:y5h (z6b K ds) is=some K':=by rfl):Mem V K' w:=j2l is h (q1i N ds)
theorem zJ {x y:Bool} {M:Prop} (N:M) (h:x=y):Ending.returned (.bool x)=Ending.returned (.bool y)/\M:=⟨h▸rfl,N⟩
theorem tO {x y:Bs} {M:Prop} (N:M) (h:x=y):Ending.returned (.string x)=Ending.returned (.string y)/\M:=⟨h▸rfl,N⟩
theorem pF {x y:Int} {k:IntKind} {M:Prop} (N:M) (h:x=y):Ending.returned (.int k x)=Ending.returned (.int k y)/\M:=⟨h▸rfl,N⟩
end
section
variable {V Ψ:Fz}
class MonoF {α:Type} (R:Fz->List Value->α->Prop):Prop where h:∀V Ψ c x,V.Le Ψ->R V c x->R Ψ c x
instance:MonoF RVal:=⟨RVal.mono⟩
instance:MonoF REx:=⟨REx.mono⟩
instance:MonoF RArm:=⟨RArm.mono⟩
instance:MonoF RStr:=⟨RStr.mono⟩
instance:MonoF RParam:=⟨RParam.mono⟩
instance:MonoF RData:=⟨RData.mono⟩
instance:MonoF RFun:=⟨RFun.mono⟩
instance:MonoF RMaker:=⟨RMaker.mono⟩
instance:MonoF RNamed:=⟨RNamed.mono⟩
theorem SliceOf.up {α:Type} {R:Fz->List Value->α->Prop} [MonoF R] {k:Nat} {v:Value} {xs:List α} (h:SliceOf R V k v xs) (hl:V.Le Ψ):SliceOf R Ψ k v xs:=h.mono MonoF.h hl
theorem MapRel.up {α:Type} {R:Fz->List Value->α->Prop} [MonoF R] {m:List (Bs×Value)} {l:List (Bs×α)} (h:MapRel (RVa R V) m l) (hl:V.Le Ψ):MapRel (RVa R Ψ) m l:=h.mono (RVa.mono MonoF.h hl)
theorem SliceOf.fm {α:Type} {R:Fz->List Value->α->Prop} {k:Nat} {v:Value} {xs:List α} (h:SliceOf R V k v xs) (a:0 < k:=by decide):∃p c,v=.slice p xs.length c/\xs.length<=9223372036854775807/\(xs≠[]->∃q,p=some q):=h.form a
theorem REx.fm {cs:List Value} {x:Ex} (h:REx V cs x):∃p c q d,cs=[.int .i64 x.kind,.int .i64 x.num,.string x.name,.slice p x.args.length c,.slice q x.arms.length d]/\I64 x.num/\SliceOf REx V 5 (.slice p x.args.length c) x.args/\SliceOf RArm V 7 (.slice q x.arms.length d) x.arms /\
  x.args.length<=9223372036854775807/\(x.args≠[]->∃q,p=some q)/\x.arms.length<=9223372036854775807/\(x.arms≠[]->∃p,q=some p):=by
 obtain ⟨s,t,rfl,a,h1,h2⟩:=REx.iff.1 h
 obtain ⟨p,c,rfl,b,e⟩:=h1.fm
 obtain ⟨q,d,rfl,f,g⟩:=h2.fm
 exact ⟨p,c,q,d,rfl,a,h1,h2,b,e,f,g⟩
theorem RVal.fm {cs:List Value} {x:Val} (h:RVal V cs x):∃p c,cs=[.string x.con,.int .i64 x.num,.slice p x.args.length c]/\I64 x.num/\SliceOf RVal V 3 (.slice p x.args.length c) x.args/\x.args.length<=9223372036854775807/\(x.args≠[]->∃q,p=some q):=by
 obtain ⟨s,rfl,a,h1⟩:=RVal.iff.1 h
 obtain ⟨p,c,rfl,b,d⟩:=h1.fm
 exact ⟨p,c,rfl,a,h1,b,d⟩
theorem RCore.fm {cs:List Value} {x:Core} (h:RCore V cs x):∃a e b c2 c c3 d c4,cs=[.slice a x.datas.length e,.slice b x.inputs.length c2,.slice c x.funs.length c3,.slice d x.outputs.length c4] /\
  SliceOf RData V 2 (.slice a x.datas.length e) x.datas/\SliceOf RParam V 2 (.slice b x.inputs.length c2) x.inputs/\SliceOf RFun V 8 (.slice c x.funs.length c3) x.funs/\SliceOf RStr V 1 (.slice d x.outputs.length c4) x.outputs /\
  x.datas.length<=9223372036854775807/\(x.datas≠[]->∃q,a=some q)/\x.inputs.length<=9223372036854775807/\(x.inputs≠[]->∃q,b=some q)/\x.funs.length<=9223372036854775807/\(x.funs≠[]->∃q,c=some q)/\x.outputs.length<=9223372036854775807/\(x.outputs≠[]->∃q,d=some q):=by
 obtain ⟨s,t,u,v,rfl,h1,h2,f,g⟩:=h
 obtain ⟨a,e,rfl,i,j⟩:=h1.fm
 obtain ⟨b,c2,rfl,a2,k⟩:=h2.fm
 obtain ⟨c,c3,rfl,a3,l⟩:=f.fm
 obtain ⟨d,c4,rfl,a4,m⟩:=g.fm
 exact ⟨a,e,b,c2,c,c3,d,c4,rfl,h1,h2,f,g,i,j,a2,k,a3,l,a4,m⟩
theorem SliceOf.el {α:Type} {R:Fz->List Value->α->Prop} {k m c i:Nat} {p:Option Addr} {xs:List α} (h:SliceOf R V k (.slice p m c) xs) (e:xs≠[]->∃q,p=some q) (a:i < xs.length) (d:0 < k:=by decide) :
  ∃q,p=some q/\∃x,xs[i]? = some x/\∃cs,cs.length=k/\At V (q.add (i * k)) cs/\R V cs x:=by
 obtain ⟨q,rfl⟩:=e (q4r a)
 obtain ⟨x,b⟩:=jC a
 exact ⟨q,rfl,x,b,h.elem b d⟩
end
structure RTableW (V:Fz) (p:Addr) (T:Table):Prop where
 ex:∃s0 s1 s2 s3 m1 m2 m3 m4 d3,At V p [s0,s1,s2,s3,m1,m2,.map (some m3),m4]/\SliceOf RFun V 8 s2 T.core.funs/\MapAt V m3 d3/\MapRel (RVa RFun V) d3 T.funs
theorem RTable.weak {V:Fz} {p:Addr} {T:Table} (h:RTable V p T):RTableW V p T:=by
 obtain ⟨cs,m1,m2,m3,m4,d1,d2,d3,d4,b,h1,h2,c,d,a2,e,a3,a,a4,f⟩:=h.ex
 obtain ⟨s,t,u,v,rfl,g,c2,c3,c4⟩:=h2
 exact ⟨s,t,u,v,_,_,m3,_,d3,b,c3,a3,a⟩
def RCoreX (V:Fz) (cs:List Value) (x:Core) (v:Value):Prop :=
 ∃s t u q c,v=.slice q x.outputs.length c/\cs=[s,t,u,v]/\SliceOf RData V 2 s x.datas/\SliceOf RParam V 2 t x.inputs/\SliceOf RFun V 8 u x.funs
theorem RCore.x {V:Fz} {cs:List Value} {x:Core} (h:RCore V cs x):∃v,RCoreX V cs x v/\SliceOf RStr V 1 v x.outputs:=by
 obtain ⟨s,t,u,v,rfl,h1,h2,b,a⟩:=h
 obtain ⟨q,c,rfl,d,e⟩:=a.form (by decide)
 exact ⟨_,⟨s,t,u,q,c,rfl,rfl,h1,h2,b⟩,a⟩
theorem RCoreX.full {V:Fz} {cs:List Value} {x:Core} {v:Value} (h:RCoreX V cs x v) (b:SliceOf RStr V 1 v x.outputs):RCore V cs x:=by
 obtain ⟨s,t,u,q,c,_,rfl,h1,h2,a⟩:=h
 exact ⟨s,t,u,v,rfl,h1,h2,a,b⟩
theorem RCoreX.mono {V Ψ:Fz} {cs:List Value} {x:Core} {v:Value} (hl:V.Le Ψ) (h:RCoreX V cs x v):RCoreX Ψ cs x v:=by
 obtain ⟨s,t,u,q,c,e,rfl,h1,h2,a⟩:=h
 exact ⟨s,t,u,q,c,e,rfl,h1.mono RData.mono hl,h2.mono RParam.mono hl,a.mono RFun.mono hl⟩
structure RTableX (V:Fz) (p:Addr) (T:Table) (v:Value):Prop where
 ex:∃cs m1 m2 m3 m4 d1 d2 d3 d4,At V p (cs++[.map (some m1),.map (some m2),.map (some m3),.map (some m4)])/\cs.length=4/\RCoreX V cs T.core v /\
  MapAt V m1 d1/\MapRel (RVa RData V) d1 T.datas/\MapAt V m2 d2/\MapRel (RVa RMaker V) d2 T.cons/\MapAt V m3 d3/\MapRel (RVa RFun V) d3 T.funs/\MapAt V m4 d4/\MapRel RVs d4 T.inputs
theorem RTableX.full {V:Fz} {p:Addr} {T:Table} {v:Value} (h:RTableX V p T v) (g:SliceOf RStr V 1 v T.core.outputs):RTable V p T :=
 let ⟨cs,m1,m2,m3,m4,d1,d2,d3,d4,f,h1,h2,a,b,a2,c,a3,d,a4,e⟩:=h.ex
 ⟨cs,m1,m2,m3,m4,d1,d2,d3,d4,f,h1,h2.full g,a,b,a2,c,a3,d,a4,e⟩
theorem RTableX.mono {V Ψ:Fz} {p:Addr} {T:Table} {v:Value} (h:RTableX V p T v) (hl:V.Le Ψ):RTableX Ψ p T v :=
 let ⟨cs,m1,m2,m3,m4,d1,d2,d3,d4,f,h1,h2,a,b,a2,c,a3,d,a4,e⟩:=h.ex
 ⟨cs,m1,m2,m3,m4,d1,d2,d3,d4,f.mono hl,h1,h2.mono hl,a.mono hl,b.mono (RVa.mono RData.mono hl),a2.mono hl,c.mono (RVa.mono RMaker.mono hl),a3.mono hl,d.mono (RVa.mono RFun.mono hl),a4.mono hl,e⟩
theorem RTableX.weak {V:Fz} {p:Addr} {T:Table} {v:Value} (h:RTableX V p T v):RTableW V p T:=by
 obtain ⟨cs,m1,m2,m3,m4,d1,d2,d3,d4,b,h1,h2,d,e,a2,f,a3,a,a4,g⟩:=h.ex
 obtain ⟨s,t,u,q,c,_,rfl,i,c2,c3⟩:=h2
 exact ⟨s,t,u,v,_,_,m3,_,d3,b,c3,a3,a⟩
section
variable {V:Fz} {K:List Res} {w:World}
theorem Mem.freezeRowT {v:Value} {T:TypeId} {k i:Nat} {cs:List Value} (N:Mem V K w) (q:qH K i=some (.gs v T k cs)) :
  ∃Ψ,V.Le Ψ/\Mem Ψ (dJ K i) w/\Row Ψ v k cs/\∀K' w',Mem Ψ K' w'->Mem V (.gs v T k cs::K') w':=by
 have h:=N.pull q
 obtain ⟨m,hl,h2⟩:=N.own _ (yQ q)
 rcases h2 with ⟨rfl,rfl⟩ | ⟨b,cap,cur,rfl,s,t,a,g,n,d⟩
 ·refine ⟨V,Fz.Le.refl V,h.tail,.inl ⟨rfl,List.eq_nil_of_length_eq_zero (by simpa using hl)⟩,fun K' w' h'=>?_⟩
  have:cs=[]:=List.eq_nil_of_length_eq_zero (by simpa using hl)
  subst this
  exact h'.nilRow T k
 ·have f:=h.no (b:=b) rfl
  refine ⟨_,Fz.le_add f _,h.freezeHead (b:=b) rfl t,.inr ⟨_,m,cap,rfl,hl,Nat.le_trans a g,fun _=>⟨rfl,cur,T,(0,0),by simp [Fz.add],fun j v l=>?_⟩⟩,fun K' w' h'=>?_⟩
  ·rw [<- d,List.getElem?_take] at l
   split at l
   ·simpa using l
   ·cases l
  ·have hb:w'.heap[b]? = some (.cells cur T (0,0)):=h'.fz b _ (by simp [Fz.add])
   have hk':∀c∈cK K',c≠b:=fun c a e=>by
    have:=h'.apart c a
    subst e
    simp [Fz.add] at this
   refine { fz:=fun c o a=>h'.fz c o ((Fz.le_add f _).obj c o a),own:=fun r hr=>?_,os:=h'.os,out:=h'.out,nodup := ?_,apart:=fun c a=>?_ }
   ·rcases List.mem_cons.1 hr with rfl | hr
    ·exact ⟨m,hl,.inr ⟨b,cap,cur,rfl,s,hb,a,g,n,d⟩⟩
    ·exact h'.own r hr
   ·show (cK (.gs _ _ _ _::K')).Nodup
    simp only [cK,List.filterMap_cons,Res.foot,Value.ownBlock,List.nodup_cons]
    exact ⟨fun a=>hk' _ a rfl,h'.nodup⟩
   ·simp only [cK,List.filterMap_cons,Res.foot,Value.ownBlock,List.mem_cons] at a
    rcases a with rfl | a
    ·exact f
    ·have p:=h'.apart c a
     simp only [Fz.add,if_neg (hk' c a)] at p
     exact p
theorem SliceOf.formO {α:Type} {R:Fz->List Value->α->Prop} {V:Fz} {k c:Nat} {q:Option Addr} {xs:List α} (h:SliceOf R V k (.slice q xs.length c) xs) (b:0 < k) :
  xs.length<=9223372036854775807/\(xs≠[]->∃p,q=some p):=by
 obtain ⟨p,c',e,h1,h2⟩:=h.form b
 injection e with a e2 d
 subst a
 exact ⟨h1,h2⟩
def Thaw (R:List Res) (V:Fz) (v:Value) (l:List Bs):Prop :=
 ∀(Ψ:Fz) (K:List Res) (w:World),V.Le Ψ->Mem Ψ (R++K) w->∃Ψ2,Ψ.Le Ψ2/\Mem Ψ2 K w/\SliceOf RStr Ψ2 1 v l/\∀K' w',Mem Ψ2 K' w'->Mem Ψ (R++K') w'
theorem Thaw.none {V:Fz} {v:Value} {l:List Bs} (h:SliceOf RStr V 1 v l):Thaw [] V v l :=
 fun Ψ _ _ hl N=>⟨Ψ,Fz.Le.refl _,N,h.mono RStr.mono hl,fun _ _ h=>h⟩
theorem Thaw.own {V:Fz} {v:Value} {l:List Bs}:Thaw [.gs v 9 1 (strs l)] V v l:=fun _ _ _ _ N=>
 let ⟨Ψ2,h1,h2,a,b⟩:=N.freezeRowT (i:=0) rfl
 ⟨Ψ2,h1,h2,SliceOf.strs.2 a,b⟩
def NewRow (V:Fz) (v:Value):Prop:=∀p n c,v=.slice (some p) n c->V.obj p.block=none
theorem NewRow.nil {V:Fz}:NewRow V (.slice none 0 0):=fun _ _ _ h=>by cases h
theorem NewRow.anti {V Ψ:Fz} {v:Value} (h:NewRow Ψ v) (hl:V.Le Ψ):NewRow V v:=fun p n c e=>by
 cases a:V.obj p.block with
 | none=>rfl
 | some o=>exact absurd (hl.obj _ _ a) (by rw [h p n c e];simp)
theorem Mem.freezeRowN {v:Value} {T:TypeId} {k i:Nat} {cs:List Value} (N:Mem V K w) (d:qH K i=some (.gs v T k cs)) :
  ∃Ψ,V.Le Ψ/\Mem Ψ (dJ K i) w/\Row Ψ v k cs/\NewRow V v:=by
 obtain ⟨Ψ,h1,h2,j⟩:=N.freezeRow d
 refine ⟨Ψ,h1,h2,j,fun p n c e=>?_⟩
 have h:=N.pull d
 obtain ⟨m,hl,h2⟩:=N.own _ (yQ d)
 rcases h2 with ⟨rfl,rfl⟩ | ⟨b,cap,cur,rfl,q,s,r,o,l,g⟩
 ·cases e
 ·have f:=h.no (b:=b) rfl
  injection e with a _ _
  injection a with a
  subst a
  exact f
def Fz.del (V:Fz) (b:Nat):Fz:={ V with obj:=fun c=>if c=b then none else V.obj c }
theorem At.del {V:Fz} {p:Addr} {cs:List Value} {b:Nat} (h:At V p cs) (hb:p.block≠b):At (V.del b) p cs:=by
 obtain ⟨h1,cur,T,o,h2,a⟩:=h
 exact ⟨h1,cur,T,o,by simp only [Fz.del,if_neg hb];exact h2,a⟩
structure Frozen (V Ψ:Fz) (b:Nat) (r:Res):Prop where
 le:V.Le Ψ
 has:∃o,Ψ.obj b=some o
 back:∀Ψ2 K w,Ψ.Le Ψ2->Mem Ψ2 K w->V.Le (Ψ2.del b)/\Mem (Ψ2.del b) (r::K) w
theorem Mem.freezeRowD {v:Value} {T:TypeId} {k i:Nat} {cs:List Value} (N:Mem V K w) (u:qH K i=some (.gs v T k cs)) (t:cs≠[]) :
  ∃Ψ b,Mem Ψ (dJ K i) w/\Row Ψ v k cs/\Frozen V Ψ b (.gs v T k cs):=by
 have h:=N.pull u
 obtain ⟨m,hl,h2⟩:=N.own _ (yQ u)
 rcases h2 with ⟨rfl,rfl⟩ | ⟨b,cap,cur,rfl,y,z,a,p,s,d⟩
 ·exact absurd (List.eq_nil_of_length_eq_zero (by simpa using hl)) t
 ·have l:=h.no (b:=b) rfl
  refine ⟨_,b,h.freezeHead (b:=b) rfl z,.inr ⟨_,m,cap,rfl,hl,Nat.le_trans a p,fun _=>⟨rfl,cur,T,(0,0),by simp [Fz.add],fun j v q=>?_⟩⟩,⟨Fz.le_add l _,⟨.cells cur T (0,0),by simp [Fz.add]⟩,fun Ψ2 K' w' f h'=>?_⟩⟩
  ·rw [<- d,List.getElem?_take] at q
   split at q
   ·simpa using q
   ·cases q
  ·have n:Ψ2.obj b=some (.cells cur T (0,0)):=f.obj b _ (by simp [Fz.add])
   have hb:w'.heap[b]? = some (.cells cur T (0,0)):=h'.fz b _ n
   have hk':∀c∈cK K',c≠b:=fun c a e=>by
    have:=h'.apart c a
    subst e
    rw [n] at this
    cases this
   refine ⟨⟨fun c o a=>?_,(f.os).trans rfl,(f.out).trans rfl⟩,{ fz:=fun c o a=>?_,own:=fun r hr=>?_,os:=h'.os,out:=h'.out,nodup := ?_,apart:=fun c a=>?_ }⟩
   ·have g:c≠b:=fun e=>by subst e;rw [l] at a;cases a
    simp only [Fz.del,if_neg g]
    exact f.obj c o ((Fz.le_add l _).obj c o a)
   ·simp only [Fz.del] at a
    split at a
    ·cases a
    ·exact h'.fz c o a
   ·rcases List.mem_cons.1 hr with rfl | hr
    ·exact ⟨m,hl,.inr ⟨b,cap,cur,rfl,y,hb,a,p,s,d⟩⟩
    ·exact h'.own r hr
   ·show (cK (.gs _ _ _ _::K')).Nodup
    simp only [cK,List.filterMap_cons,Res.foot,Value.ownBlock,List.nodup_cons]
    exact ⟨fun a=>hk' _ a rfl,h'.nodup⟩
   ·simp only [cK,List.filterMap_cons,Res.foot,Value.ownBlock,List.mem_cons] at a
    simp only [Fz.del]
    split
    ·rfl
    ·rename_i g
     rcases a with rfl | a
     ·exact absurd rfl g
     ·exact h'.apart c a
theorem Frozen.ne {V Ψ Ψ2:Fz} {b:Nat} {r:Res} {v:Value} {p:Addr} {n c:Nat} (h:Frozen V Ψ b r) (hl:Ψ.Le Ψ2) (a:NewRow Ψ2 v) (e:v=.slice (some p) n c):p.block≠b:=fun hb=>by
 obtain ⟨o,d⟩:=h.has
 have h1:=a p n c e
 rw [hb,hl.obj _ _ d] at h1
 cases h1
end
end Go.Sw
