import Derived.Test.YtghdfphedgcpdaaGreatDoorY02
set_option linter.unusedVariables false
set_option linter.unusedSimpArgs false
namespace Go.Sw
open Go.Proofs Go.Proofs.Tryz
set_option maxRecDepth 20000
set_option maxHeartbeats 4000000
class ScT (t:TypeId):Prop where h:Scalar prog t
class AgT (t:TypeId):Prop where h:AggT prog t
class SzT (t:TypeId) (k:outParam Nat):Prop where h:SizeT prog t k
class SlT (t:TypeId) (e:outParam TypeId):Prop where h:Under prog t (.slice e)
class StT (t:TypeId):Prop where h:Under prog t .string
class FoT (s:TypeId) (f:Nat) (o:outParam Nat):Prop where h:zM prog s f o
instance:ScT 3:=⟨isAgg3⟩
instance:ScT 9:=⟨isAgg9⟩
instance:ScT 22:=⟨isAgg22⟩
instance:ScT 23:=⟨isAgg23⟩
instance:ScT 24:=⟨isAgg24⟩
instance:ScT 25:=⟨isAgg25⟩
instance:AgT 27:=⟨isAgg27⟩
instance:ScT 51:=⟨isAgg51⟩
instance:AgT 53:=⟨isAgg53⟩
instance:ScT 29:=⟨isAgg29⟩
instance:ScT 56:=⟨isAgg56⟩
instance:AgT 58:=⟨isAgg58⟩
instance:AgT 60:=⟨isAgg60⟩
instance:ScT 107:=⟨isAgg107⟩
instance:ScT 108:=⟨isAgg108⟩
instance:AgT 110:=⟨isAgg110⟩
instance:AgT 112:=⟨isAgg112⟩
instance:AgT 36:=⟨isAgg36⟩
instance:ScT 96:=⟨isAgg96⟩
instance:ScT 84:=⟨isAgg84⟩
instance:ScT 100:=⟨isAgg100⟩
instance:ScT 102:=⟨isAgg102⟩
instance:AgT 105:=⟨isAgg105⟩
instance:ScT 113:=⟨isAgg113⟩
instance:ScT 114:=⟨isAgg114⟩
instance:ScT 115:=⟨isAgg115⟩
instance:ScT 70:=⟨isAgg70⟩
instance:ScT 119:=⟨isAgg119⟩
instance:ScT 322:=⟨isAgg322⟩
instance:ScT 237:=⟨isAgg237⟩
instance:ScT 124:=⟨isAgg124⟩
instance:AgT 126:=⟨isAgg126⟩
instance:AgT 128:=⟨isAgg128⟩
instance:ScT 162:=⟨isAgg162⟩
instance:AgT 201:=⟨isAgg201⟩
instance:AgT 174:=⟨isAgg174⟩
instance:ScT 208:=⟨isAgg208⟩
instance:ScT 254:=⟨isAgg254⟩
instance:AgT 261:=⟨isAgg261⟩
instance:ScT 286:=⟨isAgg286⟩
instance:ScT 287:=⟨isAgg287⟩
instance:SzT 3 1:=⟨sizeOf3⟩
instance:SzT 5 1:=⟨sizeOf5⟩
instance:SzT 9 1:=⟨sizeOf9⟩
instance:SzT 22 1:=⟨sizeOf22⟩
instance:SzT 23 1:=⟨sizeOf23⟩
instance:SzT 24 1:=⟨sizeOf24⟩
instance:SzT 25 1:=⟨sizeOf25⟩
instance:SzT 27 4:=⟨sizeOf27⟩
instance:SzT 51 1:=⟨sizeOf51⟩
instance:SzT 53 2:=⟨sizeOf53⟩
instance:SzT 29 1:=⟨sizeOf29⟩
instance:SzT 56 1:=⟨sizeOf56⟩
instance:SzT 58 3:=⟨sizeOf58⟩
instance:SzT 60 4:=⟨sizeOf60⟩
instance:SzT 107 1:=⟨sizeOf107⟩
instance:SzT 108 1:=⟨sizeOf108⟩
instance:SzT 110 5:=⟨sizeOf110⟩
instance:SzT 112 8:=⟨sizeOf112⟩
instance:SzT 36 2:=⟨sizeOf36⟩
instance:SzT 96 1:=⟨sizeOf96⟩
instance:SzT 84 1:=⟨sizeOf84⟩
instance:SzT 100 1:=⟨sizeOf100⟩
instance:SzT 102 1:=⟨sizeOf102⟩
instance:SzT 105 4:=⟨sizeOf105⟩
instance:SzT 113 1:=⟨sizeOf113⟩
instance:SzT 114 1:=⟨sizeOf114⟩
instance:SzT 115 1:=⟨sizeOf115⟩
instance:SzT 70 1:=⟨sizeOf70⟩
instance:SzT 119 1:=⟨sizeOf119⟩
instance:SzT 322 1:=⟨sizeOf322⟩
instance:SzT 237 1:=⟨sizeOf237⟩
instance:SzT 124 1:=⟨sizeOf124⟩
instance:SzT 126 2:=⟨sizeOf126⟩
instance:SzT 128 2:=⟨sizeOf128⟩
instance:SzT 162 1:=⟨sizeOf162⟩
instance:SzT 201 3:=⟨sizeOf201⟩
instance:SzT 174 7:=⟨sizeOf174⟩
instance:SzT 257 2:=⟨sizeOf257⟩
instance:SzT 261 4:=⟨sizeOf261⟩
instance:SzT 285 2:=⟨sizeOf285⟩
instance:SzT 286 1:=⟨sizeOf286⟩
instance:SzT 287 1:=⟨sizeOf287⟩
instance:SzT 303 2:=⟨sizeOf303⟩
instance:FoT 27 0 0:=⟨fo_27_0⟩
instance:FoT 27 1 1:=⟨fo_27_1⟩
instance:FoT 27 2 2:=⟨fo_27_2⟩
instance:FoT 27 3 3:=⟨fo_27_3⟩
instance:FoT 53 0 0:=⟨fo_53_0⟩
instance:FoT 53 1 1:=⟨fo_53_1⟩
instance:FoT 58 0 0:=⟨fo_58_0⟩
instance:FoT 58 1 1:=⟨fo_58_1⟩
instance:FoT 58 2 2:=⟨fo_58_2⟩
instance:FoT 60 0 0:=⟨fo_60_0⟩
instance:FoT 60 1 1:=⟨fo_60_1⟩
instance:FoT 110 0 0:=⟨q7b⟩
instance:FoT 110 1 1:=⟨x4n⟩
instance:FoT 110 2 2:=⟨z1m⟩
instance:FoT 110 3 3:=⟨x4o⟩
instance:FoT 110 4 4:=⟨x4p⟩
instance:FoT 112 0 0:=⟨q7c⟩
instance:FoT 112 1 1:=⟨x4q⟩
instance:FoT 112 2 2:=⟨x4r⟩
instance:FoT 112 3 3:=⟨x4s⟩
instance:FoT 36 0 0:=⟨fo_36_0⟩
instance:FoT 36 1 1:=⟨fo_36_1⟩
instance:FoT 105 0 0:=⟨x4j⟩
instance:FoT 105 1 1:=⟨x4k⟩
instance:FoT 105 2 2:=⟨x4l⟩
instance:FoT 105 3 3:=⟨x4m⟩
instance:FoT 117 0 0:=⟨x4t⟩
instance:FoT 117 1 4:=⟨x4u⟩
instance:FoT 117 2 5:=⟨x4v⟩
instance:FoT 117 3 6:=⟨x4w⟩
instance:FoT 117 4 7:=⟨x4x⟩
instance:FoT 324 0 0:=⟨x5w⟩
instance:FoT 324 1 1:=⟨x5x⟩
instance:FoT 126 0 0:=⟨x4y⟩
instance:FoT 126 1 1:=⟨x4z⟩
instance:FoT 128 0 0:=⟨x5a⟩
instance:FoT 128 1 1:=⟨x5b⟩
instance:FoT 164 0 0:=⟨x5d⟩
instance:FoT 164 1 1:=⟨x5e⟩
instance:FoT 164 2 4:=⟨x5f⟩
instance:FoT 201 0 0:=⟨x5j⟩
instance:FoT 201 1 1:=⟨x5k⟩
instance:FoT 174 0 0:=⟨x5g⟩
instance:FoT 174 1 1:=⟨x5h⟩
instance:FoT 174 2 2:=⟨x5i⟩
instance:FoT 257 1 1:=⟨x5m⟩
instance:FoT 261 0 0:=⟨x5n⟩
instance:FoT 261 2 2:=⟨x5p⟩
instance:FoT 285 0 0:=⟨x5r⟩
instance:FoT 285 1 1:=⟨x5s⟩
instance:FoT 289 0 0:=⟨x5t⟩
instance:FoT 289 1 2:=⟨x5u⟩
instance:FoT 289 2 3:=⟨x5v⟩
instance:FoT 210 0 0:=⟨y4p⟩
instance:FoT 210 1 1:=⟨x5l⟩
instance:StT 9:=⟨runUnderlying9⟩
instance:SlT 22 126:=⟨runUnderlying22⟩
instance:SlT 23 36:=⟨runUnderlying23⟩
instance:SlT 24 112:=⟨runUnderlying24⟩
instance:SlT 25 9:=⟨runUnderlying25⟩
instance:SlT 51 60:=⟨runUnderlying51⟩
instance:SlT 56 58:=⟨runUnderlying56⟩
instance:SlT 107 110:=⟨runUnderlying107⟩
instance:SlT 108 174:=⟨runUnderlying108⟩
instance:SlT 84 3:=⟨runUnderlying84⟩
instance:SlT 237 5:=⟨runUnderlying237⟩
instance:SlT 124 128:=⟨runUnderlying124⟩
instance:SlT 255 261:=⟨runUnderlying255⟩
instance:SlT 287 303:=⟨runUnderlying287⟩
section
variable {P:Program} {n:Nat} {E:List (Nat×Value)} {D:List Deferred} {a:Act} {w:World} {ty:TypeId} {Φ:Fz} {K:List Res}
structure OkS (a:Act) (op:Op) (ty:TypeId) (w:World) (v:Value):Prop where
 h:Ok prog a op ty w v
theorem s_move {x:Operand} {v:Value} (J:EnvR n E D a) (b:ev E x=some v):OkS a (.move x) ty w v:=⟨jY J b⟩
theorem x8l {x:Operand} {v:Value} (J:EnvR n E D a) (b:ev E x=some v):OkS a (.assign x) ty w v:=⟨kZ J b⟩
theorem s_pick {c x y:Operand} {v:Value} {b:Bool} (J:EnvR n E D a) (d:ev E c=some (.bool b)) (e:ev E (if b then x else y)=some v):OkS a (.pick c x y) ty w v:=⟨j5c J d e⟩
theorem x1x {x:Operand} {i:Nat} {vs:List Value} {v:Value} (J:EnvR n E D a) (c:ev E x=some (.tuple vs.toArray)) (b:vs[i]? = some v):OkS a (.extract x i) ty w v:=⟨uG J c b⟩
theorem s_not {x:Operand} {t:TypeId} {b:Bool} (J:EnvR n E D a) (c:ev E x=some (.bool b)):OkS a (.unOp .not t x) ty w (.bool (!b)):=⟨z4c J c⟩
theorem j3v {x:Operand} {p:Addr} (J:EnvR n E D a) (b:ev E x=some (.pointer (some p))):OkS a (.nilCheck x) ty w (.pointer (some p)):=⟨z5n J b⟩
structure FaV (s f:Nat) (u v:Value):Prop where
 h:∀{n:Nat} {E:List (Nat×Value)} {D:List Deferred} {a:Act} {x:Operand} {ty:TypeId} {w:World},EnvR n E D a->ev E x=some u->Ok prog a (.fieldAddr s x f) ty w v
theorem s_fav {x:Operand} {s f:Nat} {u v:Value} (J:EnvR n E D a) (b:ev E x=some u) (h:FaV s f u v):OkS a (.fieldAddr s x f) ty w v:=⟨h.h J b⟩
theorem f_own {s f off b o z:Nat} [FoT s f off] (c:o+off=z):FaV s f (.pointer (some ⟨b,o,none⟩)) (.pointer (some ⟨b,z,none⟩)):=⟨fun J a=>jE J a FoT.h c⟩
theorem f_at {s f off j z:Nat} {p:Addr} {cs:List Value} [FoT s f off] (a:At Φ p cs) (c:j+off=z):FaV s f (.pointer (some (p.add j))) (.pointer (some (p.add z))):=⟨fun J b=>y8o J b a FoT.h c⟩
theorem f_p {s f off:Nat} {p:Addr} [FoT s f off]:FaV s f (.pointer (some p)) (.pointer (some (p.add off))):=⟨fun J a=>z2r J a FoT.h⟩
structure LdV (T:TypeId) (w:World) (u v:Value):Prop where
 h:∀{n:Nat} {E:List (Nat×Value)} {D:List Deferred} {a:Act} {x:Operand} {ty:TypeId},EnvR n E D a->ev E x=some u->Ok prog a (.load T x) ty w v
theorem s_ldv {x:Operand} {T:TypeId} {u v:Value} (J:EnvR n E D a) (b:ev E x=some u) (h:LdV T w u v):OkS a (.load T x) ty w v:=⟨h.h J b⟩
theorem o_own {T:TypeId} {b off:Nat} {v:Value} (h:LdV T w (.pointer (some ⟨b,off,none⟩)) v):LdV T w (.pointer (some ⟨b,off,none⟩)) v:=h
theorem o_sc {T:TypeId} {u v:Value} [ScT T] (h:LdV T w u v):LdV T w u v:=h
theorem o_ag {T:TypeId} {u v:Value} [AgT T] (h:LdV T w u v):LdV T w u v:=h
theorem z7o (i:Nat) {T:TypeId} {b off:Nat} {cs:List Value} {t:TypeId} {v:Value} [ScT T] (N:Sees Φ K w) (a:qU K i=some (.blk b (ob cs t))) (c:nth cs off=some v):LdV T w (.pointer (some ⟨b,off,none⟩)) v:=⟨fun J d=>qD i J N d a c ScT.h⟩
theorem z0r (i:Nat) {T:TypeId} {b off k:Nat} {cs vs:List Value} {t:TypeId} [AgT T] [SzT T k] (N:Sees Φ K w) (a:qU K i=some (.blk b (ob cs t))) (c:z6r (z6l cs off) k=vs) (hl:vs.length=k):LdV T w (.pointer (some ⟨b,off,none⟩)) (.agg vs.toArray):=⟨fun J d=>vS i J N d a AgT.h SzT.h c hl⟩
theorem v_at {T:TypeId} {p:Addr} {cs:List Value} {v:Value} {j:Nat} [ScT T] (N:Sees Φ K w) (a:At Φ p cs) (b:nth cs j=some v):LdV T w (.pointer (some (p.add j))) v:=⟨fun J c=>q2z j J N c a b ScT.h⟩
theorem v_at0 {T:TypeId} {p:Addr} {cs:List Value} {v:Value} [ScT T] (N:Sees Φ K w) (a:At Φ p cs) (b:nth cs 0=some v):LdV T w (.pointer (some p)) v:=⟨fun J c=>j5b J N c a b ScT.h⟩
theorem v_atA {T:TypeId} {p:Addr} {k:Nat} {cs:List Value} [AgT T] [SzT T k] (N:Sees Φ K w) (a:At Φ p cs) (hl:cs.length=k):LdV T w (.pointer (some p)) (.agg cs.toArray):=⟨fun J b=>j0y J N b a AgT.h SzT.h hl⟩
theorem s_len {x:Operand} {t e:TypeId} {p:Option Addr} {len cap:Nat} [SlT t e] (J:EnvR n E D a) (b:ev E x=some (.slice p len cap)):OkS a (.call { callee:=.builtin .len,args:=#[x],argTypes:=#[t] }) ty w (.int .i64 (len:Int)):=⟨y1e J b SlT.h⟩
theorem s_lens {x:Operand} {t:TypeId} {s:ByteArray} [StT t] (J:EnvR n E D a) (b:ev E x=some (.string s)):OkS a (.call { callee:=.builtin .len,args:=#[x],argTypes:=#[t] }) ty w (.int .i64 (s.size:Int)):=⟨x2t J b StT.h⟩
theorem s_index {x ix:Operand} {t e:TypeId} {kk:IntKind} {p:Addr} {len cap k i:Nat} [SlT t e] [SzT e k] (J:EnvR n E D a) (c:ev E x=some (.slice (some p) len cap)) (b:ev E ix=some (.int kk (i:Int))) (hb:i < len):OkS a (.indexAddr t x ix) ty w (.pointer (some (p.add (i * k)))):=⟨qX i J c b SlT.h SzT.h hb⟩
theorem s_inc {t t':TypeId} {x y:Operand} {i:Nat} (J:EnvR n E D a) (b:ev E x=some (.int .i64 (i:Int))) (c:ev E y=some (.int .i64 ((1:Nat):Int))) (d:i+1<=9223372036854775807):OkS a (.binOp .add t x y t') ty w (.int .i64 ((i+1:Nat):Int)):=⟨nA J b c d⟩
theorem s_func {fn:Fn} {fs cs:Array Operand} {vfs vcs:List Value} (J:EnvR n E D a) (c:evs E fs.toList=some vfs) (b:evs E cs.toList=some vcs):OkS a (.makeFunc fn fs cs) ty w (.func fn vfs.toArray vcs.toArray):=⟨z5m J c b⟩
section
variable {t t':TypeId} {x y:Operand} {k:IntKind}
theorem s_lssNt {i j:Nat} (J:EnvR n E D a) (b:ev E x=some (.int k ((i:Nat):Int))) (c:ev E y=some (.int k ((j:Nat):Int))) (h:i < j):OkS a (.binOp .lss t x y t') ty w (.bool true):=⟨j7w true J b c (decide_eq_true (Int.ofNat_lt.2 h))⟩
theorem s_lssNf {i j:Nat} (J:EnvR n E D a) (c:ev E x=some (.int k ((i:Nat):Int))) (d:ev E y=some (.int k ((j:Nat):Int))) (h:¬i < j):OkS a (.binOp .lss t x y t') ty w (.bool false):=⟨j7w false J c d (decide_eq_false (fun b=>h (Int.ofNat_lt.1 b)))⟩
theorem s_lssIt {i j:Int} (J:EnvR n E D a) (b:ev E x=some (.int k i)) (c:ev E y=some (.int k j)) (h:i < j):OkS a (.binOp .lss t x y t') ty w (.bool true):=⟨j7w true J b c (decide_eq_true (h))⟩
theorem s_lssIf {i j:Int} (J:EnvR n E D a) (b:ev E x=some (.int k i)) (c:ev E y=some (.int k j)) (h:¬i < j):OkS a (.binOp .lss t x y t') ty w (.bool false):=⟨j7w false J b c (decide_eq_false (h))⟩
theorem s_gtrNt {i j:Nat} (J:EnvR n E D a) (b:ev E x=some (.int k ((i:Nat):Int))) (c:ev E y=some (.int k ((j:Nat):Int))) (h:j < i):OkS a (.binOp .gtr t x y t') ty w (.bool true):=⟨q2x true J b c (decide_eq_true (Int.ofNat_lt.2 h))⟩
theorem s_gtrNf {i j:Nat} (J:EnvR n E D a) (c:ev E x=some (.int k ((i:Nat):Int))) (d:ev E y=some (.int k ((j:Nat):Int))) (h:¬j < i):OkS a (.binOp .gtr t x y t') ty w (.bool false):=⟨q2x false J c d (decide_eq_false (fun b=>h (Int.ofNat_lt.1 b)))⟩
theorem s_gtrIt {i j:Int} (J:EnvR n E D a) (b:ev E x=some (.int k i)) (c:ev E y=some (.int k j)) (h:j < i):OkS a (.binOp .gtr t x y t') ty w (.bool true):=⟨q2x true J b c (decide_eq_true (h))⟩
theorem s_gtrIf {i j:Int} (J:EnvR n E D a) (b:ev E x=some (.int k i)) (c:ev E y=some (.int k j)) (h:¬j < i):OkS a (.binOp .gtr t x y t') ty w (.bool false):=⟨q2x false J b c (decide_eq_false (h))⟩
theorem s_leqNt {i j:Nat} (J:EnvR n E D a) (b:ev E x=some (.int k ((i:Nat):Int))) (c:ev E y=some (.int k ((j:Nat):Int))) (h:i<=j):OkS a (.binOp .leq t x y t') ty w (.bool true):=⟨q2y true J b c (decide_eq_true (Int.ofNat_le.2 h))⟩
theorem s_leqNf {i j:Nat} (J:EnvR n E D a) (c:ev E x=some (.int k ((i:Nat):Int))) (d:ev E y=some (.int k ((j:Nat):Int))) (h:¬i<=j):OkS a (.binOp .leq t x y t') ty w (.bool false):=⟨q2y false J c d (decide_eq_false (fun b=>h (Int.ofNat_le.1 b)))⟩
theorem s_leqIt {i j:Int} (J:EnvR n E D a) (b:ev E x=some (.int k i)) (c:ev E y=some (.int k j)) (h:i<=j):OkS a (.binOp .leq t x y t') ty w (.bool true):=⟨q2y true J b c (decide_eq_true (h))⟩
theorem s_leqIf {i j:Int} (J:EnvR n E D a) (b:ev E x=some (.int k i)) (c:ev E y=some (.int k j)) (h:¬i<=j):OkS a (.binOp .leq t x y t') ty w (.bool false):=⟨q2y false J b c (decide_eq_false (h))⟩
theorem s_geqNt {i j:Nat} (J:EnvR n E D a) (b:ev E x=some (.int k ((i:Nat):Int))) (c:ev E y=some (.int k ((j:Nat):Int))) (h:j<=i):OkS a (.binOp .geq t x y t') ty w (.bool true):=⟨j0v true J b c (decide_eq_true (Int.ofNat_le.2 h))⟩
theorem s_geqNf {i j:Nat} (J:EnvR n E D a) (c:ev E x=some (.int k ((i:Nat):Int))) (d:ev E y=some (.int k ((j:Nat):Int))) (h:¬j<=i):OkS a (.binOp .geq t x y t') ty w (.bool false):=⟨j0v false J c d (decide_eq_false (fun b=>h (Int.ofNat_le.1 b)))⟩
theorem s_geqIt {i j:Int} (J:EnvR n E D a) (b:ev E x=some (.int k i)) (c:ev E y=some (.int k j)) (h:j<=i):OkS a (.binOp .geq t x y t') ty w (.bool true):=⟨j0v true J b c (decide_eq_true (h))⟩
theorem s_geqIf {i j:Int} (J:EnvR n E D a) (b:ev E x=some (.int k i)) (c:ev E y=some (.int k j)) (h:¬j<=i):OkS a (.binOp .geq t x y t') ty w (.bool false):=⟨j0v false J b c (decide_eq_false (h))⟩
theorem x8p {i j:Nat} (J:EnvR n E D a) (b:ev E x=some (.int k ((i:Nat):Int))) (c:ev E y=some (.int k ((j:Nat):Int))) (h:i=j):OkS a (.binOp .eql t x y t') ty w (.bool true):=⟨vO true J b c (decide_eq_true (congrArg Int.ofNat h))⟩
theorem x8o {i j:Nat} (J:EnvR n E D a) (c:ev E x=some (.int k ((i:Nat):Int))) (d:ev E y=some (.int k ((j:Nat):Int))) (h:¬i=j):OkS a (.binOp .eql t x y t') ty w (.bool false):=⟨vO false J c d (decide_eq_false (fun b=>h (Int.ofNat.inj b)))⟩
theorem x8n {i j:Int} (J:EnvR n E D a) (b:ev E x=some (.int k i)) (c:ev E y=some (.int k j)) (h:i=j):OkS a (.binOp .eql t x y t') ty w (.bool true):=⟨vO true J b c (decide_eq_true (h))⟩
theorem x8m {i j:Int} (J:EnvR n E D a) (b:ev E x=some (.int k i)) (c:ev E y=some (.int k j)) (h:¬i=j):OkS a (.binOp .eql t x y t') ty w (.bool false):=⟨vO false J b c (decide_eq_false (h))⟩
theorem x8t {i j:Nat} (J:EnvR n E D a) (b:ev E x=some (.int k ((i:Nat):Int))) (c:ev E y=some (.int k ((j:Nat):Int))) (h:i=j):OkS a (.binOp .neq t x y t') ty w (.bool false):=⟨nF false J b c (congrArg Bool.not (decide_eq_true (congrArg Int.ofNat h)))⟩
theorem x8s {i j:Nat} (J:EnvR n E D a) (c:ev E x=some (.int k ((i:Nat):Int))) (d:ev E y=some (.int k ((j:Nat):Int))) (h:¬i=j):OkS a (.binOp .neq t x y t') ty w (.bool true):=⟨nF true J c d (congrArg Bool.not (decide_eq_false (fun b=>h (Int.ofNat.inj b))))⟩
theorem x8r {i j:Int} (J:EnvR n E D a) (b:ev E x=some (.int k i)) (c:ev E y=some (.int k j)) (h:i=j):OkS a (.binOp .neq t x y t') ty w (.bool false):=⟨nF false J b c (congrArg Bool.not (decide_eq_true (h)))⟩
theorem x8q {i j:Int} (J:EnvR n E D a) (b:ev E x=some (.int k i)) (c:ev E y=some (.int k j)) (h:¬i=j):OkS a (.binOp .neq t x y t') ty w (.bool true):=⟨nF true J b c (congrArg Bool.not (decide_eq_false (h)))⟩
theorem s_seqlt {s u:ByteArray} (J:EnvR n E D a) (b:ev E x=some (.string s)) (c:ev E y=some (.string u)) (h:s=u):OkS a (.binOp .eql t x y t') ty w (.bool true):=⟨j5d true J b c (decide_eq_true h)⟩
theorem s_seqlf {s u:ByteArray} (J:EnvR n E D a) (b:ev E x=some (.string s)) (c:ev E y=some (.string u)) (h:¬s=u):OkS a (.binOp .eql t x y t') ty w (.bool false):=⟨j5d false J b c (decide_eq_false h)⟩
theorem s_sneqt {s u:ByteArray} (J:EnvR n E D a) (b:ev E x=some (.string s)) (c:ev E y=some (.string u)) (h:s=u):OkS a (.binOp .neq t x y t') ty w (.bool false):=⟨j5e false J b c (congrArg Bool.not (decide_eq_true h))⟩
theorem s_sneqf {s u:ByteArray} (J:EnvR n E D a) (b:ev E x=some (.string s)) (c:ev E y=some (.string u)) (h:¬s=u):OkS a (.binOp .neq t x y t') ty w (.bool true):=⟨j5e true J b c (congrArg Bool.not (decide_eq_false h))⟩
end
end
section
variable {a:Act} {w:World} {ty:TypeId} {v:Value} {x y c:Operand} {t s:TypeId} {i f:Nat} {fn:Fn} {fs cs:Array Operand} {c0:Call}
theorem d_move (h:OkS a (.move x) ty w v):OkS a (.move x) ty w v:=h
theorem x3s (h:OkS a (.assign x) ty w v):OkS a (.assign x) ty w v:=h
theorem d_pick (h:OkS a (.pick c x y) ty w v):OkS a (.pick c x y) ty w v:=h
theorem j8l (h:OkS a (.extract x i) ty w v):OkS a (.extract x i) ty w v:=h
theorem d_not (h:OkS a (.unOp .not t x) ty w v):OkS a (.unOp .not t x) ty w v:=h
theorem d_nilc (h:OkS a (.nilCheck x) ty w v):OkS a (.nilCheck x) ty w v:=h
theorem d_fld (h:OkS a (.fieldAddr s x f) ty w v):OkS a (.fieldAddr s x f) ty w v:=h
theorem d_idx (h:OkS a (.indexAddr t x y) ty w v):OkS a (.indexAddr t x y) ty w v:=h
theorem d_call (h:OkS a (.call c0) ty w v):OkS a (.call c0) ty w v:=h
theorem d_func (h:OkS a (.makeFunc fn fs cs) ty w v):OkS a (.makeFunc fn fs cs) ty w v:=h
theorem d_add (h:OkS a (.binOp .add t x y s) ty w v):OkS a (.binOp .add t x y s) ty w v:=h
theorem d_lss (h:OkS a (.binOp .lss t x y s) ty w v):OkS a (.binOp .lss t x y s) ty w v:=h
theorem d_gtr (h:OkS a (.binOp .gtr t x y s) ty w v):OkS a (.binOp .gtr t x y s) ty w v:=h
theorem d_leq (h:OkS a (.binOp .leq t x y s) ty w v):OkS a (.binOp .leq t x y s) ty w v:=h
theorem d_geq (h:OkS a (.binOp .geq t x y s) ty w v):OkS a (.binOp .geq t x y s) ty w v:=h
theorem d_eql (h:OkS a (.binOp .eql t x y s) ty w v):OkS a (.binOp .eql t x y s) ty w v:=h
theorem d_neq (h:OkS a (.binOp .neq t x y s) ty w v):OkS a (.binOp .neq t x y s) ty w v:=h
end
section
variable {n:Nat} {E:List (Nat×Value)} {D:List Deferred} {a:Act} {w:World} {ty:TypeId} {Φ:Fz} {K:List Res} {op:Op} {v:Value}
theorem uK {cs vs:List Value} {off k:Nat} (h:z6r (z6l cs off) k=vs:=by first | (dsimp only [z6r,z6l,List.tail,Nat.zero_add,Nat.reduceAdd];try rfl;all_goals fail) | fail):z6r (z6l cs off) k=vs:=h
theorem z0c (J:EnvR n E D a) (h:OkS a op ty w v:=by first | ((with_reducible apply d_move);first | exact s_move J rfl) | ((with_reducible apply x3s);first | exact x8l J rfl) | ((with_reducible apply d_pick);first | exact s_pick J rfl rfl) | ((with_reducible apply j8l);first | exact x1x J rfl rfl) | ((with_reducible apply d_not);first | exact s_not J rfl) | ((with_reducible apply d_nilc);first | exact j3v J rfl) | ((with_reducible apply d_fld);first | ((with_reducible apply s_fav J);(exact rfl);first | ((with_reducible apply f_own);(exact rfl)) | exact f_at (by with_reducible assumption) (by rfl) | exact f_p)) | ((with_reducible apply d_idx);first | exact s_index J rfl rfl (by first | with_reducible assumption | assumption)) | ((with_reducible apply d_call);first | exact s_len J rfl | exact s_lens J rfl) | ((with_reducible apply d_func);first | exact s_func J rfl rfl) | ((with_reducible apply d_add);first | exact s_inc J rfl rfl (by omega)) | ((with_reducible apply d_lss);first | exact s_lssNt J rfl rfl (by first | with_reducible assumption | assumption) | exact s_lssNf J rfl rfl (by first | with_reducible assumption | assumption) | exact s_lssIt J rfl rfl (by first | with_reducible assumption | assumption) | exact s_lssIf J rfl rfl (by first | with_reducible assumption | assumption)) | ((with_reducible apply d_gtr);first | exact s_gtrNt J rfl rfl (by first | with_reducible assumption | assumption) | exact s_gtrNf J rfl rfl (by first | with_reducible assumption | assumption) | exact s_gtrIt J rfl rfl (by first | with_reducible assumption | assumption) | exact s_gtrIf J rfl rfl (by first | with_reducible assumption | assumption)) | ((with_reducible apply d_leq);first | exact s_leqNt J rfl rfl (by first | with_reducible assumption | assumption) | exact s_leqNf J rfl rfl (by first | with_reducible assumption | assumption) | exact s_leqIt J rfl rfl (by first | with_reducible assumption | assumption) | exact s_leqIf J rfl rfl (by first | with_reducible assumption | assumption)) | ((with_reducible apply d_geq);first | exact s_geqNt J rfl rfl (by first | with_reducible assumption | assumption) | exact s_geqNf J rfl rfl (by first | with_reducible assumption | assumption) | exact s_geqIt J rfl rfl (by first | with_reducible assumption | assumption) | exact s_geqIf J rfl rfl (by first | with_reducible assumption | assumption)) | ((with_reducible apply d_eql);first | exact x8p J rfl rfl (by first | with_reducible assumption | assumption) | exact x8o J rfl rfl (by first | with_reducible assumption | assumption) | exact x8n J rfl rfl (by first | with_reducible assumption | assumption) | exact x8m J rfl rfl (by first | with_reducible assumption | assumption) | exact s_seqlt J rfl rfl (by first | with_reducible assumption | assumption) | exact s_seqlf J rfl rfl (by first | with_reducible assumption | assumption)) | ((with_reducible apply d_neq);first | exact x8t J rfl rfl (by first | with_reducible assumption | assumption) | exact x8s J rfl rfl (by first | with_reducible assumption | assumption) | exact x8r J rfl rfl (by first | with_reducible assumption | assumption) | exact x8q J rfl rfl (by first | with_reducible assumption | assumption) | exact s_sneqt J rfl rfl (by first | with_reducible assumption | assumption) | exact s_sneqf J rfl rfl (by first | with_reducible assumption | assumption))):OkS a op ty w v:=h
theorem z0d (J:EnvR n E D a) (O:Sees Φ K w) (h:OkS a op ty w v:=by ((with_reducible apply s_ldv J);(exact rfl);first | ((with_reducible apply o_sc);first | ((with_reducible apply o_own);first | exact z7o 0 O rfl rfl | exact z7o 1 O rfl rfl | exact z7o 2 O rfl rfl | exact z7o 3 O rfl rfl | exact z7o 4 O rfl rfl | exact z7o 5 O rfl rfl | exact z7o 6 O rfl rfl | exact z7o 7 O rfl rfl | exact z7o 8 O rfl rfl) | exact v_at O (by with_reducible assumption) (by rfl) | exact v_at0 O (by with_reducible assumption) (by rfl)) | ((with_reducible apply o_ag);first | ((with_reducible apply o_own);first | exact z0r 0 O rfl (by exact uK) (by rfl) | exact z0r 1 O rfl (by exact uK) (by rfl) | exact z0r 2 O rfl (by exact uK) (by rfl) | exact z0r 3 O rfl (by exact uK) (by rfl) | exact z0r 4 O rfl (by exact uK) (by rfl) | exact z0r 5 O rfl (by exact uK) (by rfl) | exact z0r 6 O rfl (by exact uK) (by rfl) | exact z0r 7 O rfl (by exact uK) (by rfl) | exact z0r 8 O rfl (by exact uK) (by rfl)) | exact v_atA O (by with_reducible assumption) (by rfl)))):OkS a op ty w v:=h
theorem z2f (J:EnvR n E D a) (O:Sees Φ K w) (h:OkS a op ty w v:=by first | exact z0c J | exact z0d J O):OkS a op ty w v:=h
end
def q3s:Code->Nat
 | .region i _ _=>i
 | .seq x y=>if q3s x=0 then q3s y else q3s x
 | .cond _ x y=>if q3s x=0 then q3s y else q3s x
 | .block _ x=>q3s x
 | .loop x=>q3s x
 | _=>0
def Stop (_:Nat):Prop:=True
structure Go2 (n:Nat) (D:List Deferred) (Φ:Fz) (K:List Res) (w:World) (A:Act->World->Prop) (E:List (Nat×Value)) (B:Act->World->Prop) (E':List (Nat×Value)):Prop where
 h:Sees Φ K w->(∀a,EnvR n E' D a->B a w)->∀a,EnvR n E D a->A a w
section
variable {n:Nat} {E E':List (Nat×Value)} {D:List Deferred} {w:World} {Φ:Fz} {K:List Res} {B:Act->World->Prop} {d t j i:Nat} {v u:Value} {b:Bool} {op:Op} {ty:TypeId} {pos:String} {aft:Array Edge} {rest:List Oper} {ops:Array Oper}
 {Q Q0:Exit->Act->World->Prop} {x y:Code} {c:Operand} {f:Act->World->Prop} {id:Nat}
theorem q3v:Go2 n D Φ K w B E B E:=⟨fun _ k=>k⟩
theorem g_op (c:∀a,EnvR n E D a->Sees Φ K w->OkS a op ty w v) (b:Nat.blt d n=true) (h:Go2 n D Φ K w (wpList prog ops Q rest) ((d,v)::E) B E') :
  Go2 n D Φ K w (wpList prog ops Q (⟨some d,op,ty,pos,aft,none⟩::rest)) E B E':=⟨fun O k a J=>kB J (c a J O).h b fun a J=>h.h O k a J⟩
theorem g_gy (e:ops[j]?.bind (·.dst)=some t) (g:get E t=some (.bool b)) (f:∀a,EnvR n E D a->Sees Φ K w->OkS a op ty w v) (c:Nat.blt d n=true) (h:Go2 n D Φ K w (wpList prog ops Q rest) ((d,v)::E) B E') :
  Go2 n D Φ K w (wpList prog ops Q (⟨some d,op,ty,pos,aft,some (j,b)⟩::rest)) E B E':=⟨fun O k a J=>j6n J rfl rfl c e g (dO (f a J O).h fun a J=>h.h O k a J)⟩
theorem g_gn (e:ops[j]?.bind (·.dst)=some t) (f:get E t=some u) (hb:q4p u b=true) (c:Nat.blt d n=true) (h:Go2 n D Φ K w (wpList prog ops Q rest) ((d,undef)::E) B E') :
  Go2 n D Φ K w (wpList prog ops Q (⟨some d,op,ty,pos,aft,some (j,b)⟩::rest)) E B E':=⟨fun O k a J=>g_no J rfl rfl c e f hb fun a J=>h.h O k a J⟩
theorem j6h (h:Go2 n D Φ K w (Q .normal) E B E'):Go2 n D Φ K w (wpList prog ops Q []) E B E':=⟨fun O k a J=>wpList_nil (h.h O k a J)⟩
theorem j6l (h:Go2 n D Φ K w (f) E B E'):Go2 n D Φ K w (Exit.then f Q .normal) E B E':=⟨fun O k a J=>h.h O k a J⟩
theorem j6k (h:Go2 n D Φ K w (Q (.exit i)) E B E'):Go2 n D Φ K w (Exit.then f Q (.exit i)) E B E':=⟨fun O k a J=>h.h O k a J⟩
theorem j6m (h:Go2 n D Φ K w (Q .ret) E B E'):Go2 n D Φ K w (Exit.then f Q .ret) E B E':=⟨fun O k a J=>h.h O k a J⟩
theorem g_bn (h:Go2 n D Φ K w (Q .normal) E B E'):Go2 n D Φ K w (Exit.inBlock i Q .normal) E B E':=⟨fun O k a J=>h.h O k a J⟩
theorem g_bx (b:(if id=i then True else False)=True) (h:Go2 n D Φ K w (Q .normal) E B E'):Go2 n D Φ K w (Exit.inBlock i Q (.exit id)) E B E':=⟨fun O k a J=>by
 have e:id=i:=by by_cases h:id=i;exact h;rw [if_neg h] at b;exact (of_eq_true b).elim
 subst e
 have:=h.h O k a J
 simp only [Exit.inBlock]
 simpa using this⟩
theorem g_bo (b:Nat.beq id i=false) (h:Go2 n D Φ K w (Q (.exit id)) E B E'):Go2 n D Φ K w (Exit.inBlock i Q (.exit id)) E B E':=⟨fun O k a J=>by
 have e:¬id=i:=Nat.ne_of_beq_eq_false b
 have:=h.h O k a J
 simp only [Exit.inBlock]
 simpa [e,Ne.symm e] using this⟩
theorem g_br (h:Go2 n D Φ K w (Q .ret) E B E'):Go2 n D Φ K w (Exit.inBlock i Q .ret) E B E':=⟨fun O k a J=>h.h O k a J⟩
theorem j6j (h:Go2 n D Φ K w (x.wp prog (Exit.then (y.wp prog Q) Q)) E B E'):Go2 n D Φ K w ((Code.seq x y).wp prog Q) E B E':=⟨fun O k a J=>wp_seq (h.h O k a J)⟩
theorem g_seqJ {r:Nat} (_:Stop r) (_:Nat.beq (q3s y) r=false) (h:Go2 n D Φ K w (x.wp prog (Exit.then (y.wp prog Q) Q)) E B E'):Go2 n D Φ K w ((Code.seq x y).wp prog Q) E B E':=j6j h
theorem g_reg {l:List Oper} (h:Go2 n D Φ K w (wpList prog l.toArray Q l) E B E'):Go2 n D Φ K w ((Code.region id l.toArray false).wp prog Q) E B E':=⟨fun O k a J=>wp_region_lit (h.h O k a J)⟩
theorem g_regJ {r:Nat} (_:Stop r) (_:Nat.beq id r=false) {l:List Oper} (h:Go2 n D Φ K w (wpList prog l.toArray Q l) E B E'):Go2 n D Φ K w ((Code.region id l.toArray false).wp prog Q) E B E':=⟨fun O k a J=>wp_region_lit (h.h O k a J)⟩
theorem j6g (b:ev E c=some (.bool true)) (h:Go2 n D Φ K w (x.wp prog Q) E B E'):Go2 n D Φ K w ((Code.cond c x y).wp prog Q) E B E':=⟨fun O k a J=>if_t J b (h.h O k a J)⟩
theorem j6f (b:ev E c=some (.bool false)) (h:Go2 n D Φ K w (y.wp prog Q) E B E'):Go2 n D Φ K w ((Code.cond c x y).wp prog Q) E B E':=⟨fun O k a J=>if_f J b (h.h O k a J)⟩
theorem q3w (h:Go2 n D Φ K w (Q .normal) E B E'):Go2 n D Φ K w (Code.skip.wp prog Q) E B E':=⟨fun O k a J=>wp_skip (h.h O k a J)⟩
theorem y2r (h:Go2 n D Φ K w (x.wp prog (Exit.inBlock id Q)) E B E'):Go2 n D Φ K w ((Code.block id x).wp prog Q) E B E':=⟨fun O k a J=>wp_block (h.h O k a J)⟩
theorem q3u (h:Go2 n D Φ K w (Q (.exit id)) E B E'):Go2 n D Φ K w ((Code.exit id).wp prog Q) E B E':=⟨fun O k a J=>wp_exit (h.h O k a J)⟩
theorem j6i (h:Go2 n D Φ K w (Q .ret) E B E'):Go2 n D Φ K w (Code.ret.wp prog Q) E B E':=⟨fun O k a J=>wp_ret (h.h O k a J)⟩
section
variable {B':World->Prop} {kd:List Nat} {Qp:List PanicEntry->World->Prop} {q:Act->World->Prop} {p:Plan} {Φ':Fz} {K':List Res}
theorem g_dd (h:Go2 n D Φ K w (q) E B E'):Go2 n D Φ K w (yE prog .any ops B' kd Qp q .done) E B E':=⟨fun O k a J=>h.h O k a J⟩
theorem g_dq (c:ops[i]? = some ⟨some d,op,ty,pos,aft,none⟩) (e:qM kd i=2) (f:∀a w,EnvR n E D a->Sees Φ' K' w->OkS a op ty w v) (b:Nat.blt d n=true)
  (h:Go2 n D Φ K w (yE prog .any ops (Sees Φ' K') kd Qp q p) ((d,v)::E) B E'):Go2 n D Φ K w (yE prog .any ops (Sees Φ' K') kd Qp q (.q i p)) E B E' :=
 ⟨fun O k a J=>d_q J c e (fun w g=>(f a w J g).h) b fun a J=>h.h O k a J⟩
theorem j6d (c:ops[i]? = some ⟨some d,op,ty,pos,aft,none⟩) (e:qM kd i=1) (f:∀a w,EnvR n E D a->OkS a op ty w v) (b:Nat.blt d n=true)
  (h:Go2 n D Φ K w (yE prog .any ops B' kd Qp q p) ((d,v)::E) B E'):Go2 n D Φ K w (yE prog .any ops B' kd Qp q (.q i p)) E B E' :=
 ⟨fun O k a J=>y3u J c e (fun w=>(f a w J).h) b fun a J=>h.h O k a J⟩
theorem j6e (e:ops[i]? = some ⟨some d,op,ty,pos,aft,some (j,b)⟩) (f:ops[j]?.bind (·.dst)=some t) (m:get E t=some (.bool b)) (g:qM kd i=2) (l:∀a w,EnvR n E D a->Sees Φ' K' w->OkS a op ty w v) (c:Nat.blt d n=true)
  (h:Go2 n D Φ K w (yE prog .any ops (Sees Φ' K') kd Qp q p) ((d,v)::E) B E'):Go2 n D Φ K w (yE prog .any ops (Sees Φ' K') kd Qp q (.q i p)) E B E' :=
 ⟨fun O k a J=>d_qg J e f m g (fun w o=>(l a w J o).h) c fun a J=>h.h O k a J⟩
theorem q3t (e:ops[i]? = some ⟨some d,op,ty,pos,aft,some (j,b)⟩) (f:ops[j]?.bind (·.dst)=some t) (m:get E t=some (.bool b)) (g:qM kd i=1) (l:∀a w,EnvR n E D a->OkS a op ty w v) (c:Nat.blt d n=true)
  (h:Go2 n D Φ K w (yE prog .any ops B' kd Qp q p) ((d,v)::E) B E'):Go2 n D Φ K w (yE prog .any ops B' kd Qp q (.q i p)) E B E' :=
 ⟨fun O k a J=>d_qg1 J e f m g (fun w=>(l a w J).h) c fun a J=>h.h O k a J⟩
theorem g_dn (e:ops[i]? = some ⟨some d,op,ty,pos,aft,some (j,b)⟩) (f:ops[j]?.bind (·.dst)=some t) (g:get E t=some u) (hb:q4p u b=true) (c:Nat.blt d n=true)
  (h:Go2 n D Φ K w (yE prog .any ops B' kd Qp q p) ((d,undef)::E) B E'):Go2 n D Φ K w (yE prog .any ops B' kd Qp q (.q i p)) E B E' :=
 ⟨fun O k a J=>d_no J e f g hb c fun a J=>h.h O k a J⟩
theorem j6c (f:ops[i]? = some ⟨some d,op,ty,pos,aft,some (j,b)⟩) (g:ops[j]?.bind (·.dst)=some t) (l:get E t=some u) (hb:q4p u b=true) (c:Nat.blt d n=true)
  (h:Go2 n D Φ K w (yE prog .any ops B' kd Qp q p) ((d,undef)::E) B E'):Go2 n D Φ K w (yE prog .any ops B' kd Qp q (.e i p)) E B E' :=
 ⟨fun O k a J=>d_no_e J f g l hb c fun a J=>h.h O k a J⟩
end
theorem goGo {A:Act->World->Prop} (h:Go2 n D Φ K w A E B E':=by ((repeat first | ((with_reducible apply g_op);(exact fun _ J O=>z2f J O);rfl) | with_reducible apply j6h | with_reducible apply j6l | with_reducible apply j6j | with_reducible apply g_reg | ((with_reducible apply j6g);rfl) | ((with_reducible apply j6f);rfl) | with_reducible apply q3w | with_reducible apply g_bn | with_reducible apply y2r | ((with_reducible apply g_gy);rfl;rfl;(exact fun _ J O=>z2f J O);rfl) | ((with_reducible apply g_gn);rfl;rfl;rfl;rfl) | ((with_reducible apply j6d);rfl;rfl;(exact fun _ _ J=>z0c J);rfl) | ((with_reducible apply g_dq);rfl;rfl;(exact fun _ _ J O=>z0d J O);rfl) | with_reducible apply g_dd | ((with_reducible apply g_dn);rfl;rfl;rfl;rfl;rfl) | ((with_reducible apply j6c);rfl;rfl;rfl;rfl;rfl) | ((with_reducible apply q3t);rfl;rfl;rfl;rfl;(exact fun _ _ J=>z0c J);rfl) | ((with_reducible apply j6e);rfl;rfl;rfl;rfl;(exact fun _ _ J O=>z0d J O);rfl) | with_reducible apply q3u | with_reducible apply j6k | ((with_reducible apply g_bx);rfl) | ((with_reducible apply g_bo);rfl) | with_reducible apply j6i | with_reducible apply j6m | with_reducible apply g_br);exact q3v)):Go2 n D Φ K w A E B E':=h
theorem go {a:Act} {A:Act->World->Prop} (k:∀a,EnvR n E' D a->B a w) (J:EnvR n E D a:=by exact J) (N:Mem Φ K w:=by exact N) (h:Go2 n D Φ K w A E B E':=by exact goGo):A a w:=h.h N.toSees k a J
theorem goJ (r:Nat) {a:Act} {A:Act->World->Prop} (k:∀a,EnvR n E' D a->B a w) (J:EnvR n E D a:=by exact J) (N:Mem Φ K w:=by exact N) (h:Stop r->Go2 n D Φ K w A E B E':=by (intro hr_;(repeat first | ((with_reducible apply g_op);(exact fun _ J O=>z2f J O);rfl) | with_reducible apply j6h | with_reducible apply j6l | ((with_reducible apply g_seqJ hr_);rfl) | with_reducible apply g_reg | ((with_reducible apply j6g);rfl) | ((with_reducible apply j6f);rfl) | with_reducible apply q3w | with_reducible apply g_bn | with_reducible apply y2r | ((with_reducible apply g_gy);rfl;rfl;(exact fun _ J O=>z2f J O);rfl) | ((with_reducible apply g_gn);rfl;rfl;rfl;rfl) | ((with_reducible apply j6d);rfl;rfl;(exact fun _ _ J=>z0c J);rfl) | ((with_reducible apply g_dq);rfl;rfl;(exact fun _ _ J O=>z0d J O);rfl) | with_reducible apply g_dd | ((with_reducible apply g_dn);rfl;rfl;rfl;rfl;rfl) | ((with_reducible apply j6c);rfl;rfl;rfl;rfl;rfl) | ((with_reducible apply q3t);rfl;rfl;rfl;rfl;(exact fun _ _ J=>z0c J);rfl) | ((with_reducible apply j6e);rfl;rfl;rfl;rfl;(exact fun _ _ J O=>z0d J O);rfl) | with_reducible apply q3u | with_reducible apply j6k | ((with_reducible apply g_bx);rfl) | ((with_reducible apply g_bo);rfl) | with_reducible apply j6i | with_reducible apply j6m | with_reducible apply g_br);exact q3v)):A a w:=(h trivial).h N.toSees k a J
theorem goR (r:Nat) {a:Act} {A:Act->World->Prop} (k:∀a,EnvR n E' D a->B a w) (J:EnvR n E D a:=by exact J) (N:Mem Φ K w:=by exact N) (h:Stop r->Go2 n D Φ K w A E B E':=by (intro hr_;(repeat first | ((with_reducible apply g_op);(exact fun _ J O=>z2f J O);rfl) | with_reducible apply j6h | with_reducible apply j6l | with_reducible apply j6j | ((with_reducible apply g_regJ hr_);rfl) | ((with_reducible apply j6g);rfl) | ((with_reducible apply j6f);rfl) | with_reducible apply q3w | with_reducible apply g_bn | with_reducible apply y2r | ((with_reducible apply g_gy);rfl;rfl;(exact fun _ J O=>z2f J O);rfl) | ((with_reducible apply g_gn);rfl;rfl;rfl;rfl) | ((with_reducible apply j6d);rfl;rfl;(exact fun _ _ J=>z0c J);rfl) | ((with_reducible apply g_dq);rfl;rfl;(exact fun _ _ J O=>z0d J O);rfl) | with_reducible apply g_dd | ((with_reducible apply g_dn);rfl;rfl;rfl;rfl;rfl) | ((with_reducible apply j6c);rfl;rfl;rfl;rfl;rfl) | ((with_reducible apply q3t);rfl;rfl;rfl;rfl;(exact fun _ _ J=>z0c J);rfl) | ((with_reducible apply j6e);rfl;rfl;rfl;rfl;(exact fun _ _ J O=>z0d J O);rfl) | with_reducible apply q3u | with_reducible apply j6k | ((with_reducible apply g_bx);rfl) | ((with_reducible apply g_bo);rfl) | with_reducible apply j6i | with_reducible apply j6m | with_reducible apply g_br);exact q3v)):A a w:=(h trivial).h N.toSees k a J
theorem go1 {a:Act} {A:Act->World->Prop} (k:∀a,EnvR n E' D a->B a w) (J:EnvR n E D a:=by exact J) (N:Mem Φ K w:=by exact N) (h:Go2 n D Φ K w A E B E':=by ((repeat first | ((with_reducible apply g_op);(exact fun _ J O=>z2f J O);rfl) | with_reducible apply j6h | with_reducible apply j6l | with_reducible apply j6j | ((with_reducible apply j6g);rfl) | ((with_reducible apply j6f);rfl) | with_reducible apply q3w | with_reducible apply g_bn | with_reducible apply y2r | ((with_reducible apply g_gy);rfl;rfl;(exact fun _ J O=>z2f J O);rfl) | ((with_reducible apply g_gn);rfl;rfl;rfl;rfl) | ((with_reducible apply j6d);rfl;rfl;(exact fun _ _ J=>z0c J);rfl) | ((with_reducible apply g_dq);rfl;rfl;(exact fun _ _ J O=>z0d J O);rfl) | with_reducible apply g_dd | ((with_reducible apply g_dn);rfl;rfl;rfl;rfl;rfl) | ((with_reducible apply j6c);rfl;rfl;rfl;rfl;rfl) | ((with_reducible apply q3t);rfl;rfl;rfl;rfl;(exact fun _ _ J=>z0c J);rfl) | ((with_reducible apply j6e);rfl;rfl;rfl;rfl;(exact fun _ _ J O=>z0d J O);rfl) | with_reducible apply q3u | with_reducible apply j6k | ((with_reducible apply g_bx);rfl) | ((with_reducible apply g_bo);rfl) | with_reducible apply j6i | with_reducible apply j6m | with_reducible apply g_br);exact q3v)):A a w:=h.h N.toSees k a J
end
def z6k:List Res->List (Nat×Res)->List Res
 | K,[]=>K
 | K,(i,r)::l=>z6k (pU K i r) l
def z6j:List Res->List Nat->List Res
 | K,[]=>K
 | K,i::l=>z6j (tJ K i) l
def y7c (K:List Res):List Nat->List Res
 | []=>[]
 | i::l=>match qU K i with
  | some r=>r::y7c K l
  | none=>y7c K l
theorem z3j {K:List Res}:∀{l:List Nat} {r:Res},r∈y7c K l->r∈K
 | [],_,h=>by cases h
 | i::l,r,h=>by
  unfold y7c at h
  split at h
  ·rename_i r' hr
   rcases List.mem_cons.1 h with rfl | h
   ·exact qV hr
   ·exact z3j h
  ·exact z3j h
class ZeT (t:TypeId) (cs:outParam (List Value)):Prop where h:∃z,ZeroT prog t z/\z.cells.toList=cs
instance:ZeT 3 [.int .i64 ((0:Nat):Int)]:=⟨_,zeroValue3,rfl⟩
instance:ZeT 4 [.bool false]:=⟨_,zeroValue4,rfl⟩
instance:ZeT 5 [.int .u8 ((0:Nat):Int)]:=⟨_,zeroValue5,rfl⟩
instance:ZeT 9 [.string ⟨#[]⟩]:=⟨_,zeroValue9,rfl⟩
instance:ZeT 27 [.slice none 0 0,.slice none 0 0,.slice none 0 0,.slice none 0 0]:=⟨_,zeroValue27,rfl⟩
instance:ZeT 53 [.slice none 0 0,.int .i64 ((0:Nat):Int)]:=⟨_,zeroValue53,rfl⟩
instance:ZeT 56 [.slice none 0 0]:=⟨_,zeroValue56,rfl⟩
instance:ZeT 58 [.string ⟨#[]⟩,.int .i64 ((0:Nat):Int),.slice none 0 0]:=⟨_,zeroValue58,rfl⟩
instance:ZeT 60 [.string ⟨#[]⟩,.string ⟨#[]⟩,.int .i64 ((0:Nat):Int),.slice none 0 0]:=⟨_,zeroValue60,rfl⟩
instance:ZeT 110 [.int .i64 ((0:Nat):Int),.int .i64 ((0:Nat):Int),.string ⟨#[]⟩,.slice none 0 0,.slice none 0 0]:=⟨_,zeroValue110,rfl⟩
instance:ZeT 112 [.string ⟨#[]⟩,.slice none 0 0,.string ⟨#[]⟩,.int .i64 ((0:Nat):Int),.int .i64 ((0:Nat):Int),.string ⟨#[]⟩,.slice none 0 0,.slice none 0 0]:=⟨_,zeroValue112,rfl⟩
instance:ZeT 36 [.string ⟨#[]⟩,.string ⟨#[]⟩]:=⟨_,zeroValue36,rfl⟩
instance:ZeT 96 [.pointer none]:=⟨_,zeroValue96,rfl⟩
instance:ZeT 84 [.slice none 0 0]:=⟨_,zeroValue84,rfl⟩
instance:ZeT 100 [.map none]:=⟨_,zeroValue100,rfl⟩
instance:ZeT 105 [.pointer none,.map none,.pointer none,.int .i64 ((0:Nat):Int)]:=⟨_,zeroValue105,rfl⟩
instance:ZeT 119 [.nilFunc]:=⟨_,zeroValue119,rfl⟩
instance:ZeT 324 [.pointer none,.slice none 0 0]:=⟨_,zeroValue324,rfl⟩
instance:ZeT 126 [.string ⟨#[]⟩,.slice none 0 0]:=⟨_,zeroValue126,rfl⟩
instance:ZeT 128 [.string ⟨#[]⟩,.slice none 0 0]:=⟨_,zeroValue128,rfl⟩
instance:ZeT 197 [.nilFunc]:=⟨_,zeroValue197,rfl⟩
instance:ZeT 201 [.string ⟨#[]⟩,.string ⟨#[]⟩,.slice none 0 0]:=⟨_,zeroValue201,rfl⟩
instance:ZeT 174 [.string ⟨#[]⟩,.slice none 0 0,.int .i64 ((0:Nat):Int),.int .i64 ((0:Nat):Int),.string ⟨#[]⟩,.slice none 0 0,.slice none 0 0]:=⟨_,zeroValue174,rfl⟩
instance:ZeT 257 [.int .i64 ((0:Nat):Int),.int .i64 ((0:Nat):Int)]:=⟨_,zeroValue257,rfl⟩
instance:ZeT 261 [.int .i64 ((0:Nat):Int),.int .i64 ((0:Nat):Int),.string ⟨#[]⟩,.int .i64 ((0:Nat):Int)]:=⟨_,zeroValue261,rfl⟩
instance:ZeT 303 [.int .i64 ((0:Nat):Int),.int .i64 ((0:Nat):Int)]:=⟨_,zeroValue303,rfl⟩
theorem j5l (l:List Value):(Value.agg (List.toArray l)).cells.toList=l:=rfl
theorem j5n (k:IntKind) (i:Int):(Value.int k i).cells.toList=[.int k i]:=rfl
theorem q3i (b:Bool):(Value.bool b).cells.toList=[.bool b]:=rfl
theorem j5q (s:ByteArray):(Value.string s).cells.toList=[.string s]:=rfl
theorem j5p (p:Option Addr):(Value.pointer p).cells.toList=[.pointer p]:=rfl
theorem c_sl (p:Option Addr) (n c:Nat):(Value.slice p n c).cells.toList=[.slice p n c]:=rfl
theorem j5o (b:Option Nat):(Value.map b).cells.toList=[.map b]:=rfl
theorem j5m (f:Fn) (x y:Array Value):(Value.func f x y).cells.toList=[.func f x y]:=rfl
section
variable {n:Nat} {E:List (Nat×Value)} {D:List Deferred} {a:Act} {w:World} {Φ:Fz} {K K':List Res} {d:Nat} {ty:TypeId} {pos:String} {aft:Array Edge} {rest:List Oper} {ops:Array Oper} {Q:Exit->Act->World->Prop}
theorem Mem.nf (N:Mem Φ K w) (h:K=K':=by first | (dsimp only [pU,z6k,tJ,z6j,mN,y2i];try rfl;all_goals fail) | rfl):Mem Φ K' w:=h▸N
theorem Mem.pl {r:Res} (N:Mem Φ K w) (i:Nat) (a:qU K i=some r:=by rfl) (h:r::tJ K i=K':=by first | (dsimp only [pU,z6k,tJ,z6j,mN,y2i];try rfl;all_goals fail) | rfl):Mem Φ K' w:=h▸N.pull a
theorem q0y (N:Mem Φ K w):∀(l:List Nat),Mem Φ (z6j K l) w:=fun l=>by
 induction l generalizing K with
 | nil=>exact N
 | cons i l a=>exact a (N.del i)
theorem Mem.dl (N:Mem Φ K w) (l:List Nat) (h:z6j K l=K':=by first | (dsimp only [pU,z6k,tJ,z6j,mN,y2i];try rfl;all_goals fail) | rfl):Mem Φ K' w:=h▸q0y N l
theorem yI {id:Nat} {l:List Oper} (kd:List Nat) (p:Plan) (is:List Nat) (J:EnvR n E D a) (N:Mem Φ K w) (h:∀w,Mem Φ K w->yE prog .any l.toArray (Sees Φ (y7c K is)) kd (fun c w=>∀a,a.defers=D->Q (.panic c) a w) (Q .normal) p a w)
  (b:z6z l.toArray kd p=true:=by kernel_rfl):(Code.region id l.toArray true).wp prog Q a w:=dE kd p _ J N mixed b (fun r hr=>z3j hr) h
theorem Mem.sn {Ψ:Fz} {X:List Res} (N:Mem Ψ K w) (hl:Φ.Le Ψ) (a:∀r∈X,r∈K:=by first | (simp [y7c,qU,pU,z6k,tJ,z6j,mN,y2i];all_goals fail) | fail):Sees Φ X w:=N.seesIn hl a
theorem qI (l:List Bs) (x:Bs):strs l++[.string x]=strs (l++[x]):=by rw [yN];rfl
end
structure AtE (n:Nat) (D:List Deferred) (Φ:Fz) (K:List Res) (w:World) (A:Act->World->Prop) (E E':List (Nat×Value)) (d:Nat) (op:Op) (S:World->Prop) (B:Act->World->Prop) (Qp:List PanicEntry->World->Prop):Prop where
 h:Sees Φ K w->(∀a ty pos aft g,EnvR n E' D a->Oper.eff prog ⟨some d,op,ty,pos,aft,g⟩ a w (fun v w'=>S w'/\∀a,EnvR n ((d,v)::E') D a->B a w') Qp)->∀a,EnvR n E D a->A a w
structure AtE0 (n:Nat) (D:List Deferred) (Φ:Fz) (K:List Res) (w:World) (A:Act->World->Prop) (E E':List (Nat×Value)) (op:Op) (S:World->Prop) (B:Act->World->Prop) (Qp:List PanicEntry->World->Prop):Prop where
 h:Sees Φ K w->(∀a ty pos aft g,EnvR n E' D a->Oper.eff prog ⟨none,op,ty,pos,aft,g⟩ a w (fun _ w'=>S w'/\∀a,EnvR n E' D a->B a w') Qp)->∀a,EnvR n E D a->A a w
structure AtQ (n:Nat) (D:List Deferred) (Φ:Fz) (K:List Res) (w:World) (A:Act->World->Prop) (E E':List (Nat×Value)) (d:Nat) (op:Op) (W:World->Prop) (B:Act->World->Prop):Prop where
 h:Sees Φ K w->∀v,(∀a ty w,EnvR n E' D a->W w->Ok prog a op ty w v)->(∀a,EnvR n ((d,v)::E') D a->B a w)->∀a,EnvR n E D a->A a w
section
variable {n:Nat} {D:List Deferred} {Φ Φ':Fz} {K K':List Res} {w:World} {A B B0 q:Act->World->Prop} {E E' E1:List (Nat×Value)} {d i j t:Nat} {b:Bool} {op:Op} {S W B':World->Prop} {Qp:List PanicEntry->World->Prop} {ty:TypeId} {pos:String} {aft:Array Edge} {rest:List Oper} {ops:Array Oper} {Q:Exit->Act->World->Prop} {kd:List Nat} {p:Plan}
theorem e_go (h1:Go2 n D Φ K w A E B0 E1) (b:AtE n D Φ K w B0 E1 E' d op S B Qp):AtE n D Φ K w A E E' d op S B Qp:=⟨fun O k a J=>h1.h O (fun a J=>b.h O k a J) a J⟩
theorem e0_go (h1:Go2 n D Φ K w A E B0 E1) (b:AtE0 n D Φ K w B0 E1 E' op S B Qp):AtE0 n D Φ K w A E E' op S B Qp:=⟨fun O k a J=>h1.h O (fun a J=>b.h O k a J) a J⟩
theorem q_go (h1:Go2 n D Φ K w A E B0 E1) (b:AtQ n D Φ K w B0 E1 E' d op W B):AtQ n D Φ K w A E E' d op W B:=⟨fun O v c k a J=>h1.h O (fun a J=>b.h O v c k a J) a J⟩
theorem e_st (b:Nat.blt d n=true):AtE n D Φ K w (wpList prog ops Q (⟨some d,op,ty,pos,aft,none⟩::rest)) E E d op (fun _=>True) (wpList prog ops Q rest) (fun c w'=>∀a,a.defers=D->Q (.panic c) a w') :=
 ⟨fun _ h a J=>st J rfl b rfl (xL (h a ty pos aft none J) (fun _ _ h=>h.2) (fun _ _ h=>h))⟩
theorem e_gy (f:ops[j]?.bind (·.dst)=some t) (g:get E t=some (.bool b)) (e:Nat.blt d n=true):AtE n D Φ K w (wpList prog ops Q (⟨some d,op,ty,pos,aft,some (j,b)⟩::rest)) E E d op (fun _=>True) (wpList prog ops Q rest) (fun c w'=>∀a,a.defers=D->Q (.panic c) a w') :=
 ⟨fun _ h a J=>j6n J rfl rfl e f g (xL (h a ty pos aft (some (j,b)) J) (fun _ _ h=>h.2) (fun _ _ h=>h))⟩
theorem e_dp (c:ops[i]? = some ⟨some d,op,ty,pos,aft,none⟩) (f:qM kd i=0) (b:Nat.blt d n=true):AtE n D Φ K w (yE prog .any ops B' kd Qp q (.e i p)) E E d op (fun w'=>oA .any kd ⟨some d,op,ty,pos,aft,none⟩=true->B' w') (yE prog .any ops B' kd Qp q p) Qp :=
 ⟨fun _ h a J=>d_e J c f b (h a ty pos aft none J)⟩
theorem e_dg (f:ops[i]? = some ⟨some d,op,ty,pos,aft,some (j,b)⟩) (g:ops[j]?.bind (·.dst)=some t) (l:get E t=some (.bool b)) (k:qM kd i=0) (c:Nat.blt d n=true):AtE n D Φ K w (yE prog .any ops B' kd Qp q (.e i p)) E E d op (fun w'=>oA .any kd ⟨some d,op,ty,pos,aft,some (j,b)⟩=true->B' w') (yE prog .any ops B' kd Qp q p) Qp :=
 ⟨fun _ h a J=>d_eg J f g l k c (h a ty pos aft (some (j,b)) J)⟩
theorem e0_st:AtE0 n D Φ K w (wpList prog ops Q (⟨none,op,ty,pos,aft,none⟩::rest)) E E op (fun _=>True) (wpList prog ops Q rest) (fun c w'=>∀a,a.defers=D->Q (.panic c) a w') :=
 ⟨fun _ h a J=>st0 J rfl rfl (xL (h a ty pos aft none J) (fun _ _ h=>h.2) (fun _ _ h=>h))⟩
theorem e0_gy (d:ops[j]?.bind (·.dst)=some t) (e:get E t=some (.bool b)):AtE0 n D Φ K w (wpList prog ops Q (⟨none,op,ty,pos,aft,some (j,b)⟩::rest)) E E op (fun _=>True) (wpList prog ops Q rest) (fun c w'=>∀a,a.defers=D->Q (.panic c) a w') :=
 ⟨fun _ h a J=>g_yes0 J rfl rfl d e (xL (h a ty pos aft (some (j,b)) J) (fun _ _ h=>h.2) (fun _ _ h=>h))⟩
theorem e0_dp (b:ops[i]? = some ⟨none,op,ty,pos,aft,none⟩) (c:qM kd i=0):AtE0 n D Φ K w (yE prog .any ops B' kd Qp q (.e i p)) E E op (fun w'=>oA .any kd ⟨none,op,ty,pos,aft,none⟩=true->B' w') (yE prog .any ops B' kd Qp q p) Qp :=
 ⟨fun _ h a J=>wA J b c (h a ty pos aft none J)⟩
theorem q_st (b:Nat.blt d n=true):AtQ n D Φ K w (wpList prog ops Q (⟨some d,op,ty,pos,aft,none⟩::rest)) E E d op (Sees Φ K) (wpList prog ops Q rest):=⟨fun O _ c k a J=>kB J (c a ty w J O) b k⟩
theorem q_gy (e:ops[j]?.bind (·.dst)=some t) (g:get E t=some (.bool b)) (c:Nat.blt d n=true):AtQ n D Φ K w (wpList prog ops Q (⟨some d,op,ty,pos,aft,some (j,b)⟩::rest)) E E d op (Sees Φ K) (wpList prog ops Q rest):=⟨fun O _ f k a J=>j6n J rfl rfl c e g (dO (f a ty w J O) k)⟩
theorem q_d1 (c:ops[i]? = some ⟨some d,op,ty,pos,aft,none⟩) (e:qM kd i=1) (b:Nat.blt d n=true):AtQ n D Φ K w (yE prog .any ops B' kd Qp q (.q i p)) E E d op (fun _=>True) (yE prog .any ops B' kd Qp q p):=⟨fun _ _ f k a J=>y3u J c e (fun w=>f a ty w J trivial) b k⟩
theorem q_d2 (c:ops[i]? = some ⟨some d,op,ty,pos,aft,none⟩) (e:qM kd i=2) (b:Nat.blt d n=true):AtQ n D Φ K w (yE prog .any ops B' kd Qp q (.q i p)) E E d op B' (yE prog .any ops B' kd Qp q p):=⟨fun _ _ f k a J=>d_q J c e (fun w g=>f a ty w J g) b k⟩
theorem q_d1g (e:ops[i]? = some ⟨some d,op,ty,pos,aft,some (j,b)⟩) (f:ops[j]?.bind (·.dst)=some t) (l:get E t=some (.bool b)) (g:qM kd i=1) (c:Nat.blt d n=true):AtQ n D Φ K w (yE prog .any ops B' kd Qp q (.q i p)) E E d op (fun _=>True) (yE prog .any ops B' kd Qp q p):=⟨fun _ _ h k a J=>d_qg1 J e f l g (fun w=>h a ty w J trivial) c k⟩
theorem q_d2g (e:ops[i]? = some ⟨some d,op,ty,pos,aft,some (j,b)⟩) (f:ops[j]?.bind (·.dst)=some t) (l:get E t=some (.bool b)) (g:qM kd i=2) (c:Nat.blt d n=true):AtQ n D Φ K w (yE prog .any ops B' kd Qp q (.q i p)) E E d op B' (yE prog .any ops B' kd Qp q p):=⟨fun _ _ h k a J=>d_qg J e f l g (fun w m=>h a ty w J m) c k⟩
end
def q8l:List Nat->Nat->Nat
 | [],_=>0
 | x::_,0=>x
 | _::l,i+1=>q8l l i
def setAt:List Value->Nat->Value->List Value
 | [],_,_=>[]
 | _::l,0,v=>v::l
 | x::l,i+1,v=>x::setAt l i v
def j3c (zs:List Value) (os:List Nat):List (Nat×Value)->List Value
 | []=>zs
 | (i,v)::l=>j3c (setAt zs (q8l os i) v) os l
def j7d (zs:List Value) (os:List Nat):List (Nat×Value)->List Value
 | []=>zs
 | (i,v)::l=>j7d (mN zs (q8l os i) v.cells.toList) os l
def q6r (E:List (Nat×Value)):List Nat->Option (List (Nat×Value))
 | []=>some []
 | t::l=>match get E t,q6r E l with
  | some v,some r=>some ((t,v)::r)
  | _,_=>none
theorem q0d {E:List (Nat×Value)}:∀{ks:List Nat} {E1:List (Nat×Value)},q6r E ks=some E1->∀t v,get E1 t=some v->get E t=some v
 | [],E1,h,t,v,a=>by simp only [q6r,Option.some.injEq] at h;subst h;cases a
 | k::ks,E1,h,t,v,a=>by
  simp only [q6r] at h
  split at h
  ·rename_i u r h1 b
   simp only [Option.some.injEq] at h
   subst h
   rcases nO a with ⟨rfl,rfl⟩ | ⟨_,a⟩
   ·exact h1
   ·exact q0d b t v a
  ·cases h
def eput:List (Nat×Value)->List (Nat×Value)->List (Nat×Value)
 | [],E=>E
 | x::X,E=>x::eput X E
def q7z:List Res->Nat->Option (Res×List Res)
 | [],_=>none
 | r::K,0=>some (r,K)
 | r::K,i+1=>match q7z K i with
  | some (x,K')=>some (x,r::K')
  | none=>none
theorem x0c {K:List Res} {i:Nat} {r:Res} {K':List Res} (h:q7z K i=some (r,K')):qU K i=some r/\K'=tJ K i:=by
 induction K generalizing i K' with
 | nil=>cases h
 | cons x K b=>cases i with
  | zero=>simp only [q7z,Option.some.injEq,Prod.mk.injEq] at h;exact ⟨by rw [<- h.1];rfl,h.2.symm⟩
  | succ i=>
   simp only [q7z] at h
   split at h
   ·rename_i y K1 h1
    simp only [Option.some.injEq,Prod.mk.injEq] at h
    obtain ⟨rfl,rfl⟩:=h
    obtain ⟨a,rfl⟩:=b h1
    exact ⟨a,rfl⟩
   ·cases h
def y5p:List Res->List Nat->Option (List Res)
 | K,[]=>some K
 | K,i::l=>match q7z K i with
  | some (r,K')=>y5p (r::K') l
  | none=>none
theorem j2g {Φ:Fz} {K K':List Res} {w:World} (l:List Nat) (h:y5p K l=some K') (N:Mem Φ K w):Mem Φ K' w:=by
 induction l generalizing K with
 | nil=>simp only [y5p,Option.some.injEq] at h;exact h▸N
 | cons i l b=>
  simp only [y5p] at h
  split at h
  ·rename_i r K1 h1
   obtain ⟨a,rfl⟩:=x0c h1
   exact b h (N.pull a)
  ·cases h
def flat:List (Nat×Value)->List Value
 | []=>[]
 | (_,v)::l=>v.cells.toList++flat l
def planOp:Nat->Nat->Plan->Plan
 | 0,i,p=>.e i p
 | _+1,i,p=>.q i p
class BzT (t:TypeId) (zs:outParam (List Value)) (os:outParam (List Nat)):Prop where h:True
instance:BzT 117 [.slice none 0 0,.slice none 0 0,.slice none 0 0,.slice none 0 0,.map none,.map none,.map none,.map none] [0,4,5,6,7]:=⟨trivial⟩
instance:BzT 126 [.string ⟨#[]⟩,.slice none 0 0] [0,1]:=⟨trivial⟩
instance:BzT 128 [.string ⟨#[]⟩,.slice none 0 0] [0,1]:=⟨trivial⟩
instance:BzT 160 [] []:=⟨trivial⟩
instance:BzT 164 [.string ⟨#[]⟩,.string ⟨#[]⟩,.int .i64 ((0:Nat):Int),.slice none 0 0,.pointer none] [0,1,4]:=⟨trivial⟩
instance:BzT 201 [.string ⟨#[]⟩,.string ⟨#[]⟩,.slice none 0 0] [0,1]:=⟨trivial⟩
instance:BzT 174 [.string ⟨#[]⟩,.slice none 0 0,.int .i64 ((0:Nat):Int),.int .i64 ((0:Nat):Int),.string ⟨#[]⟩,.slice none 0 0,.slice none 0 0] [0,1,2]:=⟨trivial⟩
instance:BzT 206 [.int .i64 ((0:Nat):Int)] [0]:=⟨trivial⟩
instance:BzT 210 [.slice none 0 0,.int .i64 ((0:Nat):Int)] [0,1]:=⟨trivial⟩
instance:BzT 27 [.slice none 0 0,.slice none 0 0,.slice none 0 0,.slice none 0 0] [0,1,2,3]:=⟨trivial⟩
instance:BzT 257 [.int .i64 ((0:Nat):Int),.int .i64 ((0:Nat):Int)] [0,1]:=⟨trivial⟩
instance:BzT 261 [.int .i64 ((0:Nat):Int),.int .i64 ((0:Nat):Int),.string ⟨#[]⟩,.int .i64 ((0:Nat):Int)] [0,1,2,3]:=⟨trivial⟩
instance:BzT 274 [.int .u64 ((0:Nat):Int),.int .u64 ((0:Nat):Int),.int .u64 ((0:Nat):Int),.int .u64 ((0:Nat):Int),.int .u64 ((0:Nat):Int),.int .u64 ((0:Nat):Int),.int .u64 ((0:Nat):Int),.int .u64 ((0:Nat):Int),.int .u64 ((0:Nat):Int),.int .u64 ((0:Nat):Int),.int .u64 ((0:Nat):Int),.int .u64 ((0:Nat):Int),.int .u64 ((0:Nat):Int),.int .u64 ((0:Nat):Int),.int .u64 ((0:Nat):Int),.int .u64 ((0:Nat):Int),.int .u64 ((0:Nat):Int),.int .u64 ((0:Nat):Int),.int .u64 ((0:Nat):Int),.int .u64 ((0:Nat):Int)] [0,1,2,3,4,5,6,7,8,9,10,11,12,13,14,15,16,17,18,19]:=⟨trivial⟩
instance:BzT 285 [.string ⟨#[]⟩,.int .i64 ((0:Nat):Int)] [0,1]:=⟨trivial⟩
instance:BzT 53 [.slice none 0 0,.int .i64 ((0:Nat):Int)] [0,1]:=⟨trivial⟩
instance:BzT 289 [.string ⟨#[]⟩,.int .i64 ((0:Nat):Int),.map none,.slice none 0 0] [0,2,3]:=⟨trivial⟩
instance:BzT 290 [.string ⟨#[]⟩,.string ⟨#[]⟩,.string ⟨#[]⟩,.string ⟨#[]⟩,.string ⟨#[]⟩,.string ⟨#[]⟩,.string ⟨#[]⟩,.string ⟨#[]⟩,.string ⟨#[]⟩,.string ⟨#[]⟩,.string ⟨#[]⟩,.string ⟨#[]⟩,.string ⟨#[]⟩,.string ⟨#[]⟩,.string ⟨#[]⟩] [0,1,2,3,4,5,6,7,8,9,10,11,12,13,14]:=⟨trivial⟩
instance:BzT 303 [.int .i64 ((0:Nat):Int),.int .i64 ((0:Nat):Int)] [0,1]:=⟨trivial⟩
instance:BzT 299 [.int .u8 ((0:Nat):Int),.int .u8 ((0:Nat):Int),.int .u8 ((0:Nat):Int),.int .u8 ((0:Nat):Int),.int .u8 ((0:Nat):Int),.int .u8 ((0:Nat):Int),.int .u8 ((0:Nat):Int),.int .u8 ((0:Nat):Int),.int .u8 ((0:Nat):Int),.int .u8 ((0:Nat):Int),.int .u8 ((0:Nat):Int),.int .u8 ((0:Nat):Int),.int .u8 ((0:Nat):Int),.int .u8 ((0:Nat):Int),.int .u8 ((0:Nat):Int),.int .u8 ((0:Nat):Int),.int .u8 ((0:Nat):Int),.int .u8 ((0:Nat):Int),.int .u8 ((0:Nat):Int),.int .u8 ((0:Nat):Int),.int .u8 ((0:Nat):Int),.int .u8 ((0:Nat):Int),.int .u8 ((0:Nat):Int),.int .u8 ((0:Nat):Int),.int .u8 ((0:Nat):Int),.int .u8 ((0:Nat):Int),.int .u8 ((0:Nat):Int),.int .u8 ((0:Nat):Int),.int .u8 ((0:Nat):Int),.int .u8 ((0:Nat):Int),.int .u8 ((0:Nat):Int),.int .u8 ((0:Nat):Int)] [0,1,2,3,4,5,6,7,8,9,10,11,12,13,14,15,16,17,18,19,20,21,22,23,24,25,26,27,28,29,30,31]:=⟨trivial⟩
instance:BzT 300 [.int .u8 ((0:Nat):Int),.int .u8 ((0:Nat):Int),.int .u8 ((0:Nat):Int),.int .u8 ((0:Nat):Int),.int .u8 ((0:Nat):Int),.int .u8 ((0:Nat):Int),.int .u8 ((0:Nat):Int),.int .u8 ((0:Nat):Int),.int .u8 ((0:Nat):Int),.int .u8 ((0:Nat):Int),.int .u8 ((0:Nat):Int),.int .u8 ((0:Nat):Int),.int .u8 ((0:Nat):Int),.int .u8 ((0:Nat):Int),.int .u8 ((0:Nat):Int),.int .u8 ((0:Nat):Int),.int .u8 ((0:Nat):Int),.int .u8 ((0:Nat):Int),.int .u8 ((0:Nat):Int),.int .u8 ((0:Nat):Int),.int .u8 ((0:Nat):Int),.int .u8 ((0:Nat):Int),.int .u8 ((0:Nat):Int),.int .u8 ((0:Nat):Int),.int .u8 ((0:Nat):Int),.int .u8 ((0:Nat):Int),.int .u8 ((0:Nat):Int),.int .u8 ((0:Nat):Int),.int .u8 ((0:Nat):Int),.int .u8 ((0:Nat):Int),.int .u8 ((0:Nat):Int),.int .u8 ((0:Nat):Int),.int .u8 ((0:Nat):Int),.int .u8 ((0:Nat):Int),.int .u8 ((0:Nat):Int),.int .u8 ((0:Nat):Int),.int .u8 ((0:Nat):Int),.int .u8 ((0:Nat):Int),.int .u8 ((0:Nat):Int),.int .u8 ((0:Nat):Int),.int .u8 ((0:Nat):Int),.int .u8 ((0:Nat):Int),.int .u8 ((0:Nat):Int),.int .u8 ((0:Nat):Int),.int .u8 ((0:Nat):Int),.int .u8 ((0:Nat):Int),.int .u8 ((0:Nat):Int),.int .u8 ((0:Nat):Int),.int .u8 ((0:Nat):Int),.int .u8 ((0:Nat):Int),.int .u8 ((0:Nat):Int),.int .u8 ((0:Nat):Int),.int .u8 ((0:Nat):Int),.int .u8 ((0:Nat):Int),.int .u8 ((0:Nat):Int),.int .u8 ((0:Nat):Int),.int .u8 ((0:Nat):Int),.int .u8 ((0:Nat):Int),.int .u8 ((0:Nat):Int),.int .u8 ((0:Nat):Int),.int .u8 ((0:Nat):Int),.int .u8 ((0:Nat):Int),.int .u8 ((0:Nat):Int),.int .u8 ((0:Nat):Int)] [0,1,2,3,4,5,6,7,8,9,10,11,12,13,14,15,16,17,18,19,20,21,22,23,24,25,26,27,28,29,30,31,32,33,34,35,36,37,38,39,40,41,42,43,44,45,46,47,48,49,50,51,52,53,54,55,56,57,58,59,60,61,62,63]:=⟨trivial⟩
instance:BzT 310 [.string ⟨#[]⟩,.string ⟨#[]⟩,.nilIface] [0,1,2]:=⟨trivial⟩
instance:BzT 320 [.string ⟨#[]⟩] [0]:=⟨trivial⟩
instance:BzT 333 [.int .u8 ((0:Nat):Int),.int .u8 ((0:Nat):Int)] [0,1]:=⟨trivial⟩
instance:BzT 334 [.int .u8 ((0:Nat):Int),.int .u8 ((0:Nat):Int),.int .u8 ((0:Nat):Int),.int .u8 ((0:Nat):Int),.int .u8 ((0:Nat):Int),.int .u8 ((0:Nat):Int),.int .u8 ((0:Nat):Int),.int .u8 ((0:Nat):Int),.int .u8 ((0:Nat):Int),.int .u8 ((0:Nat):Int),.int .u8 ((0:Nat):Int),.int .u8 ((0:Nat):Int),.int .u8 ((0:Nat):Int),.int .u8 ((0:Nat):Int),.int .u8 ((0:Nat):Int),.int .u8 ((0:Nat):Int),.int .u8 ((0:Nat):Int),.int .u8 ((0:Nat):Int),.int .u8 ((0:Nat):Int),.int .u8 ((0:Nat):Int),.int .u8 ((0:Nat):Int),.int .u8 ((0:Nat):Int),.int .u8 ((0:Nat):Int),.int .u8 ((0:Nat):Int),.int .u8 ((0:Nat):Int),.int .u8 ((0:Nat):Int),.int .u8 ((0:Nat):Int),.int .u8 ((0:Nat):Int),.int .u8 ((0:Nat):Int),.int .u8 ((0:Nat):Int),.int .u8 ((0:Nat):Int),.int .u8 ((0:Nat):Int)] [0,2,4,6,8,10,12,14,16,18,20,22,24,26,28,30]:=⟨trivial⟩
instance:BzT 58 [.string ⟨#[]⟩,.int .i64 ((0:Nat):Int),.slice none 0 0] [0,1,2]:=⟨trivial⟩
instance:BzT 60 [.string ⟨#[]⟩,.string ⟨#[]⟩,.int .i64 ((0:Nat):Int),.slice none 0 0] [0,1]:=⟨trivial⟩
instance:BzT 110 [.int .i64 ((0:Nat):Int),.int .i64 ((0:Nat):Int),.string ⟨#[]⟩,.slice none 0 0,.slice none 0 0] [0,1,2,3,4]:=⟨trivial⟩
instance:BzT 112 [.string ⟨#[]⟩,.slice none 0 0,.string ⟨#[]⟩,.int .i64 ((0:Nat):Int),.int .i64 ((0:Nat):Int),.string ⟨#[]⟩,.slice none 0 0,.slice none 0 0] [0,1,2,3]:=⟨trivial⟩
instance:BzT 36 [.string ⟨#[]⟩,.string ⟨#[]⟩] [0,1]:=⟨trivial⟩
instance:BzT 105 [.pointer none,.map none,.pointer none,.int .i64 ((0:Nat):Int)] [0,1,2,3]:=⟨trivial⟩
def q5a:Nat->List Nat->Plan
 | _,[]=>.done
 | i,k::l=>planOp k i (q5a (i+1) l)
section
variable {n:Nat} {D:List Deferred} {Φ Φ':Fz} {K K':List Res} {a:Act} {w:World} {A B:Act->World->Prop} {E E':List (Nat×Value)} {d:Nat} {b:Bool} {op:Op} {S W:World->Prop} {Qp:List PanicEntry->World->Prop} {f:FuncId} {X:Value} {xs:Array Operand} {ts:Array TypeId} {vs fs cs:List Value} {y0:Operand} {R:Ending->World->Prop}
theorem nfK {K K':List Res} (h:K=K':=by first | (dsimp only [pU,z6k,tJ,z6j,mN,y2i];try rfl;all_goals fail) | rfl):K=K':=h
theorem lnS {S:Prop} (h:S:=by first | exact trivial | (intro hl;first | exact N.sn (Fz.Le.refl _) | exact N.sn (by first | assumption | exact Fz.Le.trans (by assumption) (by assumption)) | exact yJ (by kernel_rfl) hl)):S:=h
theorem lnG {S:Prop} (h:S:=by first | exact trivial | (intro hl;first | exact N.sn (Fz.Le.refl _) | exact N.sn hG | exact N.sn hG.1 | exact N.sn (Fz.Le.trans (by assumption) hG) | exact N.sn (Fz.Le.trans (by assumption) hG.1) | exact N.sn (by first | assumption | exact Fz.Le.trans (by assumption) (by assumption)) | exact yJ (by kernel_rfl) hl)):S:=h
theorem cellsC {v:Value} (h:v.cells.toList=vs:=by first | with_reducible exact j5l _ | with_reducible exact j5n _ _ | with_reducible exact q3i _ | with_reducible exact j5q _ | with_reducible exact j5p _ | with_reducible exact c_sl _ _ _ | with_reducible exact j5o _ | with_reducible exact j5m _ _ _ | exact Sees.gsCells (i:=0) N.toSees rfl | exact Sees.gsCells (i:=1) N.toSees rfl | exact Sees.gsCells (i:=2) N.toSees rfl | exact Sees.gsCells (i:=3) N.toSees rfl | exact Sees.gsCells (i:=4) N.toSees rfl | exact Sees.gsCells (i:=5) N.toSees rfl | exact Sees.gsCells (i:=6) N.toSees rfl | exact Sees.gsCells (i:=7) N.toSees rfl | exact Sees.gsCells (i:=8) N.toSees rfl | exact Sees.gsCells (i:=9) N.toSees rfl | exact Sees.gsCells (i:=10) N.toSees rfl | exact Sees.gsCells (i:=11) N.toSees rfl | exact j5l _ | exact j5n _ _ | exact q3i _ | exact j5q _ | exact j5p _ | exact c_sl _ _ _ | exact j5o _ | exact j5m _ _ _):v.cells.toList=vs:=h
theorem oneC (h:vs.all Value.oneCell'=true:=by first | rfl | exact Sees.gsOne (i:=0) N.toSees rfl | exact Sees.gsOne (i:=1) N.toSees rfl | exact Sees.gsOne (i:=2) N.toSees rfl | exact Sees.gsOne (i:=3) N.toSees rfl | exact Sees.gsOne (i:=4) N.toSees rfl | exact Sees.gsOne (i:=5) N.toSees rfl | exact Sees.gsOne (i:=6) N.toSees rfl | exact Sees.gsOne (i:=7) N.toSees rfl | exact Sees.gsOne (i:=8) N.toSees rfl | exact Sees.gsOne (i:=9) N.toSees rfl | exact Sees.gsOne (i:=10) N.toSees rfl | exact Sees.gsOne (i:=11) N.toSees rfl):vs.all Value.oneCell'=true:=h
theorem dM (a:AtE n D Φ K w A E E' d op S B Qp:=by ((with_reducible apply e_go);(exact goGo);first | ((with_reducible apply e_st);rfl) | ((with_reducible apply e_dp);rfl;rfl;rfl) | ((with_reducible apply e_gy);rfl;rfl;rfl) | ((with_reducible apply e_dg);rfl;rfl;rfl;rfl;rfl))):AtE n D Φ K w A E E' d op S B Qp:=a
theorem atAct0 (a:AtE0 n D Φ K w A E E' op S B Qp:=by ((with_reducible apply e0_go);(exact goGo);first | (with_reducible apply e0_st) | ((with_reducible apply e0_dp);rfl;rfl) | ((with_reducible apply e0_gy);rfl;rfl) | ((with_reducible apply e0_dg);rfl;rfl;rfl;rfl))):AtE0 n D Φ K w A E E' op S B Qp:=a
theorem j1c (a:AtQ n D Φ K w A E E' d op W B:=by ((with_reducible apply q_go);(exact goGo);first | ((with_reducible apply q_st);rfl) | ((with_reducible apply q_d1);rfl;rfl;rfl) | ((with_reducible apply q_d2);rfl;rfl;rfl) | ((with_reducible apply q_gy);rfl;rfl;rfl) | ((with_reducible apply q_d1g);rfl;rfl;rfl;rfl;rfl) | ((with_reducible apply q_d2g);rfl;rfl;rfl;rfl;rfl))):AtQ n D Φ K w A E E' d op W B:=a
theorem zT (j:∀args w,(callFunc f args).run prog w=.ok (.enter f args) w) (k:∀w,Mem Φ' K' w->∀a,EnvR n ((d,X)::E') D a->B a w) (J:EnvR n E D a:=by exact J) (N:Mem Φ K w:=by exact N) (b:AtE n D Φ K w A E E' d (.call { callee:=.value (.func f),args:=xs,argTypes:=ts }) S B Qp:=by exact dM) (l:evs E' xs.toList=some vs:=by rfl) (c:Calls prog f vs.toArray w (fun e w'=>e=.returned X/\Mem Φ' K' w')) (i:∀w,Mem Φ' K' w->S w:=by intro w N;exact lnS):A a w :=
 b.h N.toSees (fun a ty pos aft g J=>tE J l j c fun w N=>⟨i w N,fun a J=>k w N a J⟩) a J
theorem yH (k:∀args w,(callFunc f args).run prog w=.ok (.enter f args) w) (kt:b=true->∀w,Mem Φ' K' w->∀a,EnvR n ((d,.bool true)::E') D a->B a w) (kf:b=false->∀w,Mem Φ' K' w->∀a,EnvR n ((d,.bool false)::E') D a->B a w) (J:EnvR n E D a:=by exact J) (N:Mem Φ K w:=by exact N) (j:AtE n D Φ K w A E E' d (.call { callee:=.value (.func f),args:=xs,argTypes:=ts }) S B Qp:=by exact dM) (l:evs E' xs.toList=some vs:=by rfl) (c:Calls prog f vs.toArray w (fun e w'=>e=.returned (.bool b)/\Mem Φ' K' w')) (i:∀w,Mem Φ' K' w->S w:=by intro w N;exact lnS):A a w :=
 j.h N.toSees (fun a ty pos aft g J=>j8x J l k c (fun hb w N=>⟨i w N,fun a J=>kt hb w N a J⟩) (fun hb w N=>⟨i w N,fun a J=>kf hb w N a J⟩)) a J
theorem FunR (j:∀args w,(callFunc f args).run prog w=.ok (.enter f args) w) (k:∀w,Mem Φ' K' w->∀a,EnvR n ((d,X)::E') D a->B a w) (J:EnvR n E D a:=by exact J) (N:Mem Φ K w:=by exact N) (b:AtE n D Φ K w A E E' d (.call { callee:=.value y0,args:=xs,argTypes:=ts }) S B Qp:=by exact dM) (m:ev E' y0=some (.func (.func f) fs.toArray cs.toArray):=by rfl) (l:evs E' xs.toList=some vs:=by rfl) (c:Calls prog f (fs++vs++cs).toArray w (fun e w'=>e=.returned X/\Mem Φ' K' w')) (i:∀w,Mem Φ' K' w->S w:=by intro w N;exact lnS):A a w :=
 b.h N.toSees (fun a ty pos aft g J=>y4d J m l j c fun w N=>⟨i w N,fun a J=>k w N a J⟩) a J
theorem q3b (k:∀args w,(callFunc f args).run prog w=.ok (.enter f args) w) (kt:b=true->∀w,Mem Φ' K' w->∀a,EnvR n ((d,.bool true)::E') D a->B a w) (kf:b=false->∀w,Mem Φ' K' w->∀a,EnvR n ((d,.bool false)::E') D a->B a w) (J:EnvR n E D a:=by exact J) (N:Mem Φ K w:=by exact N) (j:AtE n D Φ K w A E E' d (.call { callee:=.value y0,args:=xs,argTypes:=ts }) S B Qp:=by exact dM) (m:ev E' y0=some (.func (.func f) fs.toArray cs.toArray):=by rfl) (l:evs E' xs.toList=some vs:=by rfl) (c:Calls prog f (fs++vs++cs).toArray w (fun e w'=>e=.returned (.bool b)/\Mem Φ' K' w')) (i:∀w,Mem Φ' K' w->S w:=by intro w N;exact lnS):A a w :=
 j.h N.toSees (fun a ty pos aft g J=>j1u J m l k c (fun hb w N=>⟨i w N,fun a J=>kt hb w N a J⟩) (fun hb w N=>⟨i w N,fun a J=>kf hb w N a J⟩)) a J
theorem yO {β:Type} {X:β->Value} {F1:β->Fz} {KO:β->List Res} {G:β->Prop} (j:∀args w,(callFunc f args).run prog w=.ok (.enter f args) w) (k:∀y w,G y->Mem (F1 y) (KO y) w->∀a,EnvR n ((d,X y)::E') D a->B a w) (J:EnvR n E D a:=by exact J) (N:Mem Φ K w:=by exact N) (b:AtE n D Φ K w A E E' d (.call { callee:=.value (.func f),args:=xs,argTypes:=ts }) S B Qp:=by exact dM) (l:evs E' xs.toList=some vs:=by rfl) (c:Calls prog f vs.toArray w (fun e w'=>∃y,e=.returned (X y)/\G y/\Mem (F1 y) (KO y) w')) (i:∀y w,G y->Mem (F1 y) (KO y) w->S w:=by intro y w hG N;exact lnG):A a w :=
 b.h N.toSees (fun a ty pos aft g J=>jG J l j c fun y w hG N=>⟨i y w hG N,fun a J=>k y w hG N a J⟩) a J
theorem jN {α ε:Type} {r:Except ε α} {X:α->Value} {C:ε->List PanicEntry} {b i:Fz} {KO:α->List Res} {KE:List Res} (p:∀args w,(callFunc f args).run prog w=.ok (.enter f args) w) (k:∀x w,r=.ok x->Mem b (KO x) w->∀a,EnvR n ((d,X x)::E') D a->B a w) (kp:∀c w,r=.error c->Mem i KE w->R (.panicked (C c)) w) {fn:Func} {Q0:Exit->Act->World->Prop} (hQ:∀e a w,bodyPost prog fn R e a w->Q0 e a w:=by exact hQ) (J:EnvR n E D a:=by exact J) (N:Mem Φ K w:=by exact N) (j:AtE n D Φ K w A E E' d (.call { callee:=.value (.func f),args:=xs,argTypes:=ts }) S B Qp:=by exact dM) (q:evs E' xs.toList=some vs:=by rfl)
  (c:Calls prog f vs.toArray w (fun e w'=>Out r (fun x=>e=.returned (X x)/\Mem b (KO x) w') (fun c=>e=.panicked (C c)/\Mem i KE w'))) (m:∀x w,r=.ok x->Mem b (KO x) w->S w:=by intro x w hq N;exact lnS) (l:∀c w,(∀a,a.defers=[]->Q0 (.panic c) a w)->Qp c w:=by exact fun _ _ h=>h):A a w :=
 j.h N.toSees (fun a ty pos aft g J=>z8f J q p c (fun x w hq N=>⟨m x w hq N,fun a J=>k x w hq N a J⟩) (fun c w hq N=>l _ _ fun _ o=>hQ _ _ _ (qL o (kp c w hq N)))) a J
theorem gS {α β ε:Type} {r:Except ε α} {X:α->β->Value} {C:ε->List PanicEntry} {F1:α->β->Fz} {b:Fz} {KO:α->β->List Res} {KE:List Res} {G:α->β->Prop} (o:∀args w,(callFunc f args).run prog w=.ok (.enter f args) w) (k:∀x y w,r=.ok x->G x y->Mem (F1 x y) (KO x y) w->∀a,EnvR n ((d,X x y)::E') D a->B a w) (kp:∀c w,r=.error c->Mem b KE w->R (.panicked (C c)) w) {fn:Func} {Q0:Exit->Act->World->Prop} (hQ:∀e a w,bodyPost prog fn R e a w->Q0 e a w:=by exact hQ) (J:EnvR n E D a:=by exact J) (N:Mem Φ K w:=by exact N) (i:AtE n D Φ K w A E E' d (.call { callee:=.value (.func f),args:=xs,argTypes:=ts }) S B Qp:=by exact dM) (p:evs E' xs.toList=some vs:=by rfl)
  (c:Calls prog f vs.toArray w (fun e w'=>Out r (fun x=>∃y,e=.returned (X x y)/\G x y/\Mem (F1 x y) (KO x y) w') (fun c=>e=.panicked (C c)/\Mem b KE w'))) (l:∀x y w,r=.ok x->G x y->Mem (F1 x y) (KO x y) w->S w:=by intro x y w hq hG N;exact lnG) (j:∀c w,(∀a,a.defers=[]->Q0 (.panic c) a w)->Qp c w:=by exact fun _ _ h=>h):A a w :=
 i.h N.toSees (fun a ty pos aft g J=>z8g J p o c (fun x y w hq hG N=>⟨l x y w hq hG N,fun a J=>k x y w hq hG N a J⟩) (fun c w hq N=>j _ _ fun _ m=>hQ _ _ _ (qL m (kp c w hq N)))) a J
theorem Sto (i:Nat) {x y:Operand} {T c:TypeId} {b off k:Nat} {v:Value} (kk:∀w,Mem Φ K' w->∀a,EnvR n E' D a->B a w) (J:EnvR n E D a:=by exact J) (N:Mem Φ K w:=by exact N) (e:AtE0 n D Φ K w A E E' (.store T x y) S B Qp:=by exact atAct0) (j:SzT T k:=by infer_instance)
  (p:ev E' x=some (.pointer (some ⟨b,off,none⟩)):=by rfl) (q:ev E' y=some v:=by rfl) (o:qU K i=some (.blk b (ob cs c)):=by rfl) (l:v.cells.toList=vs:=by exact cellsC) (hl:vs.length=k:=by rfl)
  (h1:vs.all Value.oneCell'=true:=by exact oneC) (m:Nat.ble (off+vs.length) cs.length=true:=by rfl) (d:pU K i (.blk b (ob (mN cs off vs) c))=K':=by exact nfK) (f:∀w,Mem Φ K' w->S w:=by intro w N;exact lnS):A a w :=
 e.h N.toSees (fun a ty pos aft g J=>yA i J N p q o l j.h hl h1 m fun w N=>⟨f w (d▸N),fun a J=>kk w (d▸N) a J⟩) a J
theorem Alc {T:TypeId} (k:∀b w,Mem Φ (.blk b (ob cs T)::K) w->∀a,EnvR n ((d,.pointer (some ⟨b,0,none⟩))::E') D a->B a w) (J:EnvR n E D a:=by exact J) (N:Mem Φ K w:=by exact N) (e:AtE n D Φ K w A E E' d (.alloc T) S B Qp:=by exact dM) (i:ZeT T cs:=by infer_instance) (f:∀b w,Mem Φ (.blk b (ob cs T)::K) w->S w:=by intro y w N;exact lnS):A a w :=
 let ⟨_,h1,c⟩:=i.h
 e.h N.toSees (fun a ty pos aft g J=>yT N h1 c fun b w N=>⟨f b w N,fun a J=>k b w N a J⟩) a J
theorem Bx {T:TypeId} {x:Operand} {v:Value} (k:∀b w,Mem Φ (.blk b (ob cs T)::K) w->∀a,EnvR n ((d,.pointer (some ⟨b,0,none⟩))::E') D a->B a w) (J:EnvR n E D a:=by exact J) (N:Mem Φ K w:=by exact N) (c:AtE n D Φ K w A E E' d (.box T x) S B Qp:=by exact dM) (i:ev E' x=some v:=by rfl) (f:v.cells.toList=cs:=by exact cellsC)
  (e:∀b w,Mem Φ (.blk b (ob cs T)::K) w->S w:=by intro y w N;exact lnS):A a w:=c.h N.toSees (fun a ty pos aft g J=>jA J N i f fun b w N=>⟨e b w N,fun a J=>k b w N a J⟩) a J
theorem MkM {t:TypeId} (k:∀b w,Mem Φ (.mp b []::K) w->∀a,EnvR n ((d,.map (some b))::E') D a->B a w) (J:EnvR n E D a:=by exact J) (N:Mem Φ K w:=by exact N) (c:AtE n D Φ K w A E E' d (.makeMap t none) S B Qp:=by exact dM) (e:∀b w,Mem Φ (.mp b []::K) w->S w:=by intro y w N;exact lnS):A a w :=
 c.h N.toSees (fun a ty pos aft g J=>yD N fun b w N=>⟨e b w N,fun a J=>k b w N a J⟩) a J
theorem z4d (i:Nat) {t kt et:TypeId} {x y z:Operand} {b:Nat} {m:List (Bs×Value)} {s:Bs} {v:Value} (l:Under prog t (.map kt et)) (c:Under prog kt .string) (k:∀w,Mem Φ K' w->∀a,EnvR n E' D a->B a w) (J:EnvR n E D a:=by exact J) (N:Mem Φ K w:=by exact N) (e:AtE0 n D Φ K w A E E' (.mapUpdate t x y z) S B Qp:=by exact atAct0)
  (o:ev E' x=some (.map (some b)):=by rfl) (p:ev E' y=some (.string s):=by rfl) (q:ev E' z=some v:=by rfl) (j:qU K i=some (.mp b m):=by rfl) (d:pU K i (.mp b (cF m s v))=K':=by exact nfK) (f:∀w,Mem Φ K' w->S w:=by intro w N;exact lnS):A a w :=
 e.h N.toSees (fun a ty pos aft g J=>sS i l c J N o p q j fun w N=>⟨f w (d▸N),fun a J=>k w (d▸N) a J⟩) a J
theorem vH (i:Nat) {s x:Operand} {t e:TypeId} {size bytes:Nat} {v vx:Value} {rs news:List Value} {K':Value->List Res} (j:RowT prog t e size bytes) (k:∀v w,Mem Φ (K' v) w->∀a,EnvR n ((d,v)::E') D a->B a w) (J:EnvR n E D a:=by exact J) (N:Mem Φ K w:=by exact N) (c:AtE n D Φ K w A E E' d (.call { callee:=.builtin .append,args:=#[s,x],argTypes:=#[t,t] }) S B Qp:=by exact dM)
  (O:ev E' s=some v:=by rfl) (l:qU K i=some (.gs v e size rs):=by rfl) (m:ev E' x=some vx:=by rfl) (hr:y9g w vx size news:=by first | exact Sees.rowIn (i:=0) N.toSees rfl | exact Sees.rowIn (i:=1) N.toSees rfl | exact Sees.rowIn (i:=2) N.toSees rfl | exact Sees.rowIn (i:=3) N.toSees rfl) (h1:news.all Value.oneCell'=true:=by rfl) (hb:(rs.length+news.length) * bytes<=140737488355328:=by first | (rw [wY];simp only [lcQ,lnQ];omega) | (have h_:=hch.length;rw [h_];simp only [lcQ,lnQ];omega) | (simp only [zR,lcQ,lnQ];omega) | (simp only [lcQ,lnQ];omega)) (b:∀v,pU K i (.gs v e size (rs++news))=K' v:=by intro v;exact nfK)
  (f:∀v w,Mem Φ (K' v) w->S w:=by intro y w N;exact lnS):A a w:=c.h N.toSees (fun a ty pos aft g J=>gZ i j J N O l m hr h1 hb fun v w N=>⟨f v w (b v▸N),fun a J=>k v w (b v▸N) a J⟩) a J
theorem jQ {t e:TypeId} {len sz:Nat} {ps:Array (Nat×Operand)} {vs:List (Nat×Value)} {zs:List Value} (k:∀v w,Mem Φ (.gs v e sz cs::K) w->∀a,EnvR n ((d,v)::E') D a->B a w) (J:EnvR n E D a:=by exact J) (N:Mem Φ K w:=by exact N) (j:AtE n D Φ K w A E E' d (.buildSlice t len ps) S B Qp:=by exact dM) (q:SlT t e:=by infer_instance) (O:SzT e sz:=by infer_instance) (s:ZeT e zs:=by infer_instance)
  (p:evp E' ps.toList=some vs:=by rfl) (u:flat vs=cs:=by first | (simp only [flat,j5l,j5n,q3i,j5q,j5p,c_sl,j5o,j5m,List.cons_append,List.nil_append,List.append_nil];try rfl;all_goals fail) | fail) (o:Nat.ble (len * sz) 16777216=true:=by rfl) (b:len * sz≠0:=by decide)
  (m:Instr.fill (fun i=>some (i * sz,sz)) ((List.range (len * sz)).map (fun x=>zs[x % zs.length]!)).toArray vs=some cs.toArray:=by kernel_rfl) (hl:cs.length=len * sz:=by rfl) (r:len<=maxLen:=by decide)
  (l:∀v w,Mem Φ (.gs v e sz cs::K) w->S w:=by intro y w N;exact lnS):A a w:=by
 obtain ⟨z,h1,c⟩:=s.h
 have f:z.cells=zs.toArray:=by rw [<- c]
 exact j.h N.toSees (fun a ty pos aft g J=>kL J N p (z1e q.h O.h h1 o b (by rw [f];simpa using m)) hl r fun v w N _=>⟨l v w N,fun a J=>k v w N a J⟩) a J
theorem Qq {v:Value} (k:∀a,EnvR n ((d,v)::E') D a->B a w) (J:EnvR n E D a:=by exact J) (N:Mem Φ K w:=by exact N) (c:AtQ n D Φ K w A E E' d op W B:=by exact j1c) (o:∀{a ty w},EnvR n E' D a->W w->Ok prog a op ty w v):A a w:=c.h N.toSees v (fun _ _ _ h1 b=>o h1 b) k a J
theorem mP {t:TypeId} {ps:Array (Nat×Operand)} {vs:List (Nat×Value)} {zs:List Value} {os:List Nat} (k:∀a,EnvR n ((d,.agg cs.toArray)::E') D a->B a w) (J:EnvR n E D a:=by exact J) (N:Mem Φ K w:=by exact N) (b:AtQ n D Φ K w A E E' d (.build t ps) W B:=by exact j1c) (f:BzT t zs os:=by infer_instance) (c:evp E' ps.toList=some vs:=by rfl)
  (e:j7d zs os vs=cs:=by first | (simp only [j7d,q8l,j5l,j5n,q3i,j5q,j5p,c_sl,j5o,j5m,mN,y2i];try rfl;all_goals fail) | (simp only [j7d];try rfl;all_goals fail) | fail) (hb:prog.built t vs=some cs.toArray:=by kernel_rfl):A a w:=b.h N.toSees _ (fun _ _ _ J _=>z0u J c hb) k a J
theorem qO {t:TypeId} {ps:Array (Nat×Operand)} {vs:List (Nat×Value)} {zs:List Value} {os:List Nat} (k:∀a,EnvR n ((d,.agg cs.toArray)::E') D a->B a w) (J:EnvR n E D a:=by exact J) (N:Mem Φ K w:=by exact N) (b:AtQ n D Φ K w A E E' d (.build t ps) W B:=by exact j1c) (f:BzT t zs os:=by infer_instance) (c:evp E' ps.toList=some vs:=by rfl)
  (e:j3c zs os vs=cs:=by first | (dsimp only [j3c,q8l,setAt];try rfl;all_goals fail) | fail) (hb:prog.built t vs=some cs.toArray:=by kernel_rfl):A a w:=b.h N.toSees _ (fun _ _ _ J _=>z0u J c hb) k a J
theorem Reg {id:Nat} {l:List Oper} {p:Plan} {Q:Exit->Act->World->Prop} (kd:List Nat) (is:List Nat) (h:∀w,Mem Φ K w->∀a,EnvR n E' D a->yE prog .any l.toArray (Sees Φ (y7c K is)) kd (fun c w=>∀a,a.defers=D->Q (.panic c) a w) (Q .normal) p a w) (J:EnvR n E D a:=by exact J) (N:Mem Φ K w:=by exact N)
  (d:Go2 n D Φ K w A E ((Code.region id l.toArray true).wp prog Q) E':=by exact goGo) (e:q5a 0 kd=p:=by first | (dsimp only [q5a,planOp];try rfl;all_goals fail) | fail) (b:z6z l.toArray kd p=true:=by kernel_rfl):A a w :=
 d.h N.toSees (fun a J=>dE kd p _ J N mixed b (fun r hr=>z3j hr) (fun w N=>h w N a J)) a J
theorem zD {fn:Func} {t:Nat} {v:Value} {Q:Exit->Act->World->Prop} (h:R (.returned v) w) (hQ:∀e a w,bodyPost prog fn R e a w->Q e a w:=by exact hQ) (J:EnvR n E [] a:=by exact J) (N:Mem Φ K w:=by exact N) (b:Go2 n [] Φ K w A E (Q .ret) E':=by exact goGo) (hr:fn.results=#[.tmp t]:=by rfl) (c:get E' t=some v:=by rfl):A a w:=b.h N.toSees (fun a J=>hQ _ _ _ (ret1 J hr c h)) a J
theorem jB {fn:Func} {t u:Nat} {v x:Value} {Q:Exit->Act->World->Prop} (h:R (.returned (.tuple #[v,x])) w) (hQ:∀e a w,bodyPost prog fn R e a w->Q e a w:=by exact hQ) (J:EnvR n E [] a:=by exact J) (N:Mem Φ K w:=by exact N) (b:Go2 n [] Φ K w A E (Q .ret) E':=by exact goGo) (hr:fn.results=#[.tmp t,.tmp u]:=by rfl) (c:get E' t=some v:=by rfl) (d:get E' u=some x:=by rfl):A a w:=b.h N.toSees (fun a J=>hQ _ _ _ (ret2 J hr c d h)) a J
theorem pS {fn:Func} {t T b k i:Nat} {c:TypeId} {Q:Exit->Act->World->Prop} (h:R (.returned (.agg cs.toArray)) w) (hQ:∀e a w,bodyPost prog fn R e a w->Q e a w:=by exact hQ) (J:EnvR n E [] a:=by exact J) (N:Mem Φ K w:=by exact N) (d:Go2 n [] Φ K w A E (Q .ret) E':=by exact goGo) (hr:fn.results=#[.cell t T]:=by rfl) (l:get E' t=some (.pointer (some ⟨b,0,none⟩)):=by rfl)
  (j:qU K i=some (.blk b (ob cs c)):=by first | exact (rfl:qU _ 0=_) | exact (rfl:qU _ 1=_) | exact (rfl:qU _ 2=_) | exact (rfl:qU _ 3=_) | exact (rfl:qU _ 4=_) | exact (rfl:qU _ 5=_) | exact (rfl:qU _ 6=_) | exact (rfl:qU _ 7=_) | exact (rfl:qU _ 8=_) | exact (rfl:qU _ 9=_) | exact (rfl:qU _ 10=_) | exact (rfl:qU _ 11=_)) (g:AgT T:=by infer_instance) (f:SzT T k:=by infer_instance) (hl:cs.length=k:=by rfl):A a w:=d.h N.toSees (fun a J=>hQ _ _ _ (retcA J N.toSees hr l j g.h f.h hl h)) a J
theorem zL {fn:Func} {f:FuncId} {cd:Code} (b:prog.funcs[f]? = some fn) (c:fn.ntmps=n) (k:∀Q:Exit->Act->World->Prop,(∀e a w,bodyPost prog fn R e a w->Q e a w)->∀a,EnvR n (oU 0 vs) [] a->cd.wp prog Q a w) (hb:fn.body=some cd:=by rfl) (hl:Nat.ble vs.length n=true:=by rfl):Calls prog f vs.toArray w R:=enter b hb c hl k
theorem EnvR.pk {E0:List (Nat×Value)} (J:EnvR n E D a) (h:Sub E0 E:=by repeat' (first | exact trivial | rfl | constructor)):EnvR n E0 D a:=J.of_sub h
theorem EnvR.ks (J:EnvR n E D a) (ks:List Nat) {E1:List (Nat×Value)} (h:q6r E ks=some E1:=by rfl):EnvR n E1 D a:=J.sub (q0d h)
theorem zU {Q:Exit->Act->World->Prop} {c:Code} {E1:List (Nat×Value)} (_:EnvR n E1 D a) (_:Mem Φ K w) (I:(Fz->List (Nat×Value)->List (Nat×Res)->Act->World->Prop)->Nat->Act->World->Prop) (m0:Nat)
  (b:I (fun Ψ X Y a w=>EnvR n (eput X E1) D a/\Mem Ψ (z6k K Y) w) m0 a w)
  (hb:∀m a w,I (fun Ψ X Y a w=>EnvR n (eput X E1) D a/\Mem Ψ (z6k K Y) w) m a w->∀L:Act->World->Prop,(∀m' a w,m' < m->I (fun Ψ X Y a w=>EnvR n (eput X E1) D a/\Mem Ψ (z6k K Y) w) m' a w->L a w)->c.wp prog (Exit.then L Q) a w) :
  (Code.loop c).wp prog Q a w:=jS (I _) m0 b hb
theorem Mem.ar (N:Mem Φ K w) (ds is:List Nat) (h:y5p (z6j K ds) is=some K':=by rfl):Mem Φ K' w:=j2g is h (q0y N ds)
theorem zP {x y:Bool} {M:Prop} (N:M) (h:x=y):Ending.returned (.bool x)=Ending.returned (.bool y)/\M:=⟨h▸rfl,N⟩
theorem tT {x y:Bs} {M:Prop} (N:M) (h:x=y):Ending.returned (.string x)=Ending.returned (.string y)/\M:=⟨h▸rfl,N⟩
theorem pY {x y:Int} {k:IntKind} {M:Prop} (N:M) (h:x=y):Ending.returned (.int k x)=Ending.returned (.int k y)/\M:=⟨h▸rfl,N⟩
end
section
variable {Φ Ψ:Fz}
class MonoF {α:Type} (R:Fz->List Value->α->Prop):Prop where h:∀Φ Ψ c x,Φ.Le Ψ->R Φ c x->R Ψ c x
instance:MonoF RVal:=⟨RVal.mono⟩
instance:MonoF REx:=⟨REx.mono⟩
instance:MonoF RArm:=⟨RArm.mono⟩
instance:MonoF RStr:=⟨RStr.mono⟩
instance:MonoF RParam:=⟨RParam.mono⟩
instance:MonoF RCon:=⟨RCon.mono⟩
instance:MonoF RData:=⟨RData.mono⟩
instance:MonoF RFun:=⟨RFun.mono⟩
instance:MonoF RMaker:=⟨RMaker.mono⟩
instance:MonoF RNamed:=⟨RNamed.mono⟩
theorem SliceOf.up {α:Type} {R:Fz->List Value->α->Prop} [MonoF R] {k:Nat} {v:Value} {xs:List α} (h:SliceOf R Φ k v xs) (hl:Φ.Le Ψ):SliceOf R Ψ k v xs:=h.mono MonoF.h hl
theorem MapRel.up {α:Type} {R:Fz->List Value->α->Prop} [MonoF R] {m:List (Bs×Value)} {l:List (Bs×α)} (h:MapRel (RVa R Φ) m l) (hl:Φ.Le Ψ):MapRel (RVa R Ψ) m l:=h.mono (RVa.mono MonoF.h hl)
theorem SliceOf.fm {α:Type} {R:Fz->List Value->α->Prop} {k:Nat} {v:Value} {xs:List α} (h:SliceOf R Φ k v xs) (a:0 < k:=by decide):∃p c,v=.slice p xs.length c/\xs.length<=9223372036854775807/\(xs≠[]->∃q,p=some q):=h.form a
theorem REx.fm {cs:List Value} {x:Ex} (h:REx Φ cs x):∃p c q d,cs=[.int .i64 x.kind,.int .i64 x.num,.string x.name,.slice p x.args.length c,.slice q x.arms.length d]/\I64 x.num/\SliceOf REx Φ 5 (.slice p x.args.length c) x.args/\SliceOf RArm Φ 7 (.slice q x.arms.length d) x.arms /\
  x.args.length<=9223372036854775807/\(x.args≠[]->∃q,p=some q)/\x.arms.length<=9223372036854775807/\(x.arms≠[]->∃p,q=some p):=by
 obtain ⟨s,t,rfl,b,h1,a⟩:=REx.iff.1 h
 obtain ⟨p,c,rfl,e,f⟩:=h1.fm
 obtain ⟨q,d,rfl,g,i⟩:=a.fm
 exact ⟨p,c,q,d,rfl,b,h1,a,e,f,g,i⟩
theorem RVal.fm {cs:List Value} {x:Val} (h:RVal Φ cs x):∃p c,cs=[.string x.con,.int .i64 x.num,.slice p x.args.length c]/\I64 x.num/\SliceOf RVal Φ 3 (.slice p x.args.length c) x.args/\x.args.length<=9223372036854775807/\(x.args≠[]->∃q,p=some q):=by
 obtain ⟨s,rfl,a,h1⟩:=RVal.iff.1 h
 obtain ⟨p,c,rfl,b,d⟩:=h1.fm
 exact ⟨p,c,rfl,a,h1,b,d⟩
theorem RCore.fm {cs:List Value} {x:Core} (h:RCore Φ cs x):∃a e b c2 c c3 d c4,cs=[.slice a x.datas.length e,.slice b x.inputs.length c2,.slice c x.funs.length c3,.slice d x.outputs.length c4] /\
  SliceOf RData Φ 2 (.slice a x.datas.length e) x.datas/\SliceOf RParam Φ 2 (.slice b x.inputs.length c2) x.inputs/\SliceOf RFun Φ 8 (.slice c x.funs.length c3) x.funs/\SliceOf RStr Φ 1 (.slice d x.outputs.length c4) x.outputs /\
  x.datas.length<=9223372036854775807/\(x.datas≠[]->∃q,a=some q)/\x.inputs.length<=9223372036854775807/\(x.inputs≠[]->∃q,b=some q)/\x.funs.length<=9223372036854775807/\(x.funs≠[]->∃q,c=some q)/\x.outputs.length<=9223372036854775807/\(x.outputs≠[]->∃q,d=some q):=by
 obtain ⟨s,t,u,v,rfl,h1,f,g,i⟩:=h
 obtain ⟨a,e,rfl,j,k⟩:=h1.fm
 obtain ⟨b,c2,rfl,a2,l⟩:=f.fm
 obtain ⟨c,c3,rfl,a3,m⟩:=g.fm
 obtain ⟨d,c4,rfl,a4,n⟩:=i.fm
 exact ⟨a,e,b,c2,c,c3,d,c4,rfl,h1,f,g,i,j,k,a2,l,a3,m,a4,n⟩
theorem SliceOf.el {α:Type} {R:Fz->List Value->α->Prop} {k m c i:Nat} {p:Option Addr} {xs:List α} (h:SliceOf R Φ k (.slice p m c) xs) (e:xs≠[]->∃q,p=some q) (a:i < xs.length) (d:0 < k:=by decide) :
  ∃q,p=some q/\∃x,xs[i]? = some x/\∃cs,cs.length=k/\At Φ (q.add (i * k)) cs/\R Φ cs x:=by
 obtain ⟨q,rfl⟩:=e (q4n a)
 obtain ⟨x,b⟩:=zZ a
 exact ⟨q,rfl,x,b,h.elem b d⟩
end
instance:ScT 4:=⟨Tryz.isAgg4⟩
instance:SzT 4 1:=⟨Tryz.sizeOf4⟩
section
variable {ws:List Bs} {i:Nat}
theorem y7e {α β:Type} {r:Rd α} {f:α->Nat->Rd β} {y:β×Nat} (h:yY r f=.ok y):∃x j,r=.ok (x,j)/\f x j=.ok y:=by
 unfold yY at h
 split at h
 ·exact ⟨_,_,rfl,h⟩
 ·cases h
theorem zE {α β:Type} {r:Rd α} {f:α->Nat->Rd β} {x:α×Nat} (h:r=.ok x):yY r f=f x.1 x.2:=by subst h;rfl
theorem zO {α β:Type} {r:Rd α} {f:α->Nat->Rd β} {n:Nat} (h:r=.error n):yY r f=.error n:=by subst h;rfl
theorem pX (h:¬zF ws i=⟨#[]⟩):i < ws.length:=by
 refine Classical.byContradiction fun a=>h ?_
 unfold zF
 rw [List.getD_eq_getElem?_getD,List.getElem?_eq_none (by omega)];rfl
theorem xA {x:Bs} (h:ws[i]? = some x):zF ws i=x:=by unfold zF;rw [List.getD_eq_getElem?_getD,h];rfl
theorem x7s (h:¬i < ws.length):zF ws i=⟨#[]⟩:=by unfold zF;rw [List.getD_eq_getElem?_getD,List.getElem?_eq_none (by omega)];rfl
theorem y7y {p:Bs->Bool} (h:¬zF ws i=⟨#[]⟩) (b:p (zF ws i)=true):nK ws p i=.ok (zF ws i,i+1):=by
 unfold nK;rw [if_neg];rintro (a | a);exact h a;rw [b] at a;cases a
theorem x9l {p:Bs->Bool} (h:zF ws i=⟨#[]⟩):nK ws p i=.error (i+1):=by unfold nK;rw [if_pos (.inl h)]
theorem x2g {p:Bs->Bool} (h:p (zF ws i)=false):nK ws p i=.error (i+1):=by unfold nK;rw [if_pos (.inr h)]
theorem z9m {p:Bs->Bool} {x:Bs×Nat} (h:nK ws p i=.ok x):x.2=i+1/\i < ws.length/\p x.1=true:=by
 unfold nK at h
 split at h
 ·cases h
 ·rename_i a
  simp only [Except.ok.injEq] at h
  subst h
  exact ⟨rfl,pX fun e=>a (.inl e),by cases b:p (zF ws i) with | true=>rfl | false=>exact absurd (.inr b) a⟩
theorem x7i {w:Bs} {x:Bs×Nat} (h:nK ws (fun s=>decide (s=w)) i=.ok x):wZ ws w i=.ok ((),x.2):=by unfold wZ;rw [zE h]
theorem x0q {w:Bs} {n:Nat} (h:nK ws (fun s=>decide (s=w)) i=.error n):wZ ws w i=.error n:=by unfold wZ;rw [zO h]
theorem q1r {w:Bs} {x:Unit×Nat} (h:wZ ws w i=.ok x):x.2=i+1/\i < ws.length:=by
 obtain ⟨y,j,h1,a⟩:=y7e h
 have:=z9m h1
 simp only [Except.ok.injEq] at a
 subst a;exact ⟨this.1,this.2.1⟩
def Goes (ws:List Bs) {α:Type} (f:Nat->Rd α):Prop:=∀i x,f i=.ok x->i < x.2/\x.2<=ws.length
def Stays (ws:List Bs) {α:Type} (f:Nat->Rd α):Prop:=∀i x,i<=ws.length->f i=.ok x->i<=x.2/\x.2<=ws.length
theorem Goes.stays {α:Type} {f:Nat->Rd α} (h:Goes ws f):Stays ws f:=fun i x _ a=>⟨Nat.le_of_lt (h i x a).1,(h i x a).2⟩
theorem vG (p:Bs->Bool):Goes ws (nK ws p):=fun i x h=>by have:=z9m h;omega
theorem pP (w:Bs):Goes ws (wZ ws w):=fun i x h=>by have:=q1r h;omega
theorem Goes.bind {α β:Type} {f:Nat->Rd α} {g:α->Nat->Rd β} (c:Goes ws f) (d:∀x,Stays ws (g x)):Goes ws (fun i=>yY (f i) g):=fun i y h=>by
 obtain ⟨x,j,h1,b⟩:=y7e h
 have a:=c i _ h1
 have e:=d x j y a.2 b
 simp only at a;omega
theorem Stays.bind {α β:Type} {f:Nat->Rd α} {g:α->Nat->Rd β} (c:Stays ws f) (d:∀x,Stays ws (g x)):Stays ws (fun i=>yY (f i) g):=fun i y e h=>by
 obtain ⟨x,j,h1,b⟩:=y7e h
 have a:=c i _ e h1
 have k:=d x j y a.2 b
 simp only at a;omega
theorem Stays.ok {α:Type} (x:α):Stays ws (fun i=>.ok (x,i)):=fun i y a h=>by simp only [Except.ok.injEq] at h;subst h;exact ⟨Nat.le_refl _,a⟩
theorem Stays.from {α:Type} {f:Nat->Rd α} (h:Stays ws f) {j:Nat} {y:α×Nat} (b:i < j) (hl:j<=ws.length) (a:f j=.ok y):i < y.2/\y.2<=ws.length:=by
 have:=h j y hl a;omega
theorem uU {ex:Nat->Rd Ex} (J:Goes ws ex):∀f least,Stays ws (wP ws ex f least)
 | 0,_=>fun i x _ h=>by cases h
 | f+1,least=>fun i x a h=>by
  simp only [wP] at h
  split at h
  ·exact (J.bind fun e=>(uU J f (least - 1)).bind fun l=>Stays.ok _).stays i x a h
  ·exact Stays.ok _ i x a h
theorem y8h {ex:Nat->Rd Ex} (J:Goes ws ex):Goes ws (z7l ex):=J.bind fun _=>(J.bind fun _=>Stays.ok _).stays
theorem y8m:∀f,Stays ws (gB ws f)
 | 0=>fun i x _ h=>by cases h
 | f+1=>fun i x a h=>by
  simp only [gB] at h
  split at h
  ·exact ((vG yQ).bind fun e=>(y8m f).bind fun l=>Stays.ok _).stays i x a h
  ·exact Stays.ok _ i x a h
theorem x3b {ex:Nat->Rd Ex} (J:Goes ws ex):Goes ws (armP ws ex) :=
 (pP _).bind fun _=>(vG qB).stays.bind fun _=>(y8m _).bind fun _=>(pP _).stays.bind fun _=>J.stays.bind fun _=>(pP _).stays.bind fun _=>Stays.ok _
theorem y3f {ex:Nat->Rd Ex} (J:Goes ws ex):∀f b,Stays ws (gU ws ex f b)
 | 0,_=>fun i x _ h=>by cases h
 | f+1,b=>fun i x a h=>by
  simp only [gU] at h
  split at h
  ·exact ((x3b J).bind fun e=>(y3f J f false).bind fun l=>Stays.ok _).stays i x a h
  ·exact Stays.ok _ i x a h
theorem q0j {ex:Nat->Rd Ex} (J:Goes ws ex):Goes ws (qF ws ex):=fun i x h=>by
 have lt:∀{s:Bs},s≠⟨#[]⟩->zF ws i=s->i+1<=ws.length:=fun O e=>pX (by rw [e];exact O)
 unfold qF at h
 split at h
 ·rename_i a
  have:i+1<=ws.length:=pX fun e=>by rw [e] at a;exact absurd a (by decide)
  exact Stays.from (i:=i) ((y8h J).stays.bind fun _=>Stays.ok _) (Nat.lt_succ_self _) this h
 split at h
 ·rename_i e
  exact Stays.from (i:=i) ((vG yQ).stays.bind fun _=>(y8h J).stays.bind fun _=>Stays.ok _) (Nat.lt_succ_self _) (lt (by decide) e) h
 split at h
 ·rename_i e
  exact Stays.from (i:=i) (J.stays.bind fun _=>(y3f J _ _).bind fun _=>Stays.ok _) (Nat.lt_succ_self _) (lt (by decide) e) h
 split at h
 ·rename_i b
  have:i+1<=ws.length:=pX fun e=>by rw [e] at b;exact absurd b (by decide)
  exact Stays.from (i:=i) ((uU J _ _).bind fun _=>Stays.ok _) (Nat.lt_succ_self _) this h
 ·exact ((vG yQ).bind fun _=>(uU J _ _).bind fun _=>Stays.ok _) i x h
theorem vW:∀d,Goes ws (zY ws d)
 | 0=>fun i x h=>by cases h
 | d+1=>fun i x h=>by
  simp only [zY] at h
  split at h
  ·cases h
  rename_i a
  have hl:i+1<=ws.length:=pX a
  split at h
  ·simp only [Except.ok.injEq] at h;subst h;exact ⟨Nat.lt_succ_self _,hl⟩
  split at h
  ·exact Stays.from (i:=i) ((q0j (vW d)).stays.bind fun _=>(pP _).stays.bind fun _=>Stays.ok _) (Nat.lt_succ_self _) hl h
  split at h
  ·simp only [Except.ok.injEq] at h;subst h;exact ⟨Nat.lt_succ_self _,hl⟩
  split at h
  ·simp only [Except.ok.injEq] at h;subst h;exact ⟨Nat.lt_succ_self _,hl⟩
  ·exact ((vG yQ).bind fun _=>Stays.ok _) i x h
theorem z5z:∀f,Stays ws (kN ws f)
 | 0=>fun i x _ h=>by cases h
 | f+1=>fun i x a h=>by
  simp only [kN] at h
  split at h
  ·exact ((vG qB).bind fun e=>(z5z f).bind fun l=>Stays.ok _).stays i x a h
  ·exact Stays.ok _ i x a h
theorem z6x:∀f,Stays ws (wK ws f)
 | 0=>fun i x _ h=>by cases h
 | f+1=>fun i x a h=>by
  simp only [wK] at h
  split at h
  ·rename_i e
   have hl:i+1<=ws.length:=pX (by rw [e];decide)
   have:=Stays.from (i:=i) (((vG yQ).bind fun n=>((pP j3u).bind fun _=>((vG qB).bind fun t=>Stays.ok (⟨n,t⟩:Param)).stays).stays).stays.bind fun _=>(pP sCls).stays.bind fun _=>(z6x f).bind fun _=>Stays.ok _) (Nat.lt_succ_self _) hl h
   omega
  ·exact Stays.ok _ i x a h
theorem j2v:Goes ws (pG ws):=(vG yQ).bind fun _=>(pP _).stays.bind fun _=>(vG qB).stays.bind fun _=>Stays.ok _
theorem y9t:∀f,Goes ws (gV ws f)
 | 0=>fun i x h=>by cases h
 | f+1=>by
  refine (vG qB).bind fun n=>(z5z _).bind fun l=>?_
  intro i x b h
  simp only at h
  split at h
  ·exact Stays.ok _ i x b h
  ·rename_i e
   have e':zF ws i=sBar:=Classical.byContradiction fun a=>e a
   have hl:i+1<=ws.length:=pX (by rw [e'];decide)
   have:=Stays.from (i:=i) ((y9t f).stays.bind fun _=>Stays.ok _) (Nat.lt_succ_self _) hl h
   omega
theorem j8m:Goes ws (cW ws):=(vG qB).bind fun _=>(pP _).stays.bind fun _=>(y9t _).stays.bind fun _=>Stays.ok _
theorem x6b:Goes ws (hH ws):=(vG yQ).bind fun _=>(z6x _).bind fun _=>(pP _).stays.bind fun _=>(vG qB).stays.bind fun _=>(pP _).stays.bind fun _=>(vW _).stays.bind fun _=>Stays.ok _
end
def RCoreX (Φ:Fz) (cs:List Value) (x:Core) (v:Value):Prop :=
 ∃s t u q c,v=.slice q x.outputs.length c/\cs=[s,t,u,v]/\SliceOf RData Φ 2 s x.datas/\SliceOf RParam Φ 2 t x.inputs/\SliceOf RFun Φ 8 u x.funs
theorem RCore.x {Φ:Fz} {cs:List Value} {x:Core} (h:RCore Φ cs x):∃v,RCoreX Φ cs x v/\SliceOf RStr Φ 1 v x.outputs:=by
 obtain ⟨s,t,u,v,rfl,h1,b,d,a⟩:=h
 obtain ⟨q,c,rfl,e,f⟩:=a.form (by decide)
 exact ⟨_,⟨s,t,u,q,c,rfl,rfl,h1,b,d⟩,a⟩
theorem RCoreX.full {Φ:Fz} {cs:List Value} {x:Core} {v:Value} (h:RCoreX Φ cs x v) (d:SliceOf RStr Φ 1 v x.outputs):RCore Φ cs x:=by
 obtain ⟨s,t,u,q,c,_,rfl,h1,a,b⟩:=h
 exact ⟨s,t,u,v,rfl,h1,a,b,d⟩
theorem RCoreX.mono {Φ Ψ:Fz} {cs:List Value} {x:Core} {v:Value} (hl:Φ.Le Ψ) (h:RCoreX Φ cs x v):RCoreX Ψ cs x v:=by
 obtain ⟨s,t,u,q,c,e,rfl,h1,a,b⟩:=h
 exact ⟨s,t,u,q,c,e,rfl,h1.mono RData.mono hl,a.mono RParam.mono hl,b.mono RFun.mono hl⟩
structure RTableX (Φ:Fz) (p:Addr) (T:Table) (v:Value):Prop where
 ex:∃cs m1 m2 m3 m4 d1 d2 d3 d4,At Φ p (cs++[.map (some m1),.map (some m2),.map (some m3),.map (some m4)])/\cs.length=4/\RCoreX Φ cs T.core v /\
  MapAt Φ m1 d1/\MapRel (RVa RData Φ) d1 T.datas/\MapAt Φ m2 d2/\MapRel (RVa RMaker Φ) d2 T.cons/\MapAt Φ m3 d3/\MapRel (RVa RFun Φ) d3 T.funs/\MapAt Φ m4 d4/\MapRel RVs d4 T.inputs
theorem RTableX.full {Φ:Fz} {p:Addr} {T:Table} {v:Value} (h:RTableX Φ p T v) (i:SliceOf RStr Φ 1 v T.core.outputs):RTable Φ p T :=
 let ⟨cs,m1,m2,m3,m4,d1,d2,d3,d4,f,h1,g,a,b,a2,c,a3,d,a4,e⟩:=h.ex
 ⟨cs,m1,m2,m3,m4,d1,d2,d3,d4,f,h1,g.full i,a,b,a2,c,a3,d,a4,e⟩
theorem RTableX.mono {Φ Ψ:Fz} {p:Addr} {T:Table} {v:Value} (h:RTableX Φ p T v) (hl:Φ.Le Ψ):RTableX Ψ p T v :=
 let ⟨cs,m1,m2,m3,m4,d1,d2,d3,d4,f,h1,g,a,b,a2,c,a3,d,a4,e⟩:=h.ex
 ⟨cs,m1,m2,m3,m4,d1,d2,d3,d4,f.mono hl,h1,g.mono hl,a.mono hl,b.mono (RVa.mono RData.mono hl),a2.mono hl,c.mono (RVa.mono RMaker.mono hl),a3.mono hl,d.mono (RVa.mono RFun.mono hl),a4.mono hl,e⟩
end Go.Sw
