import Derived.Test.YtghdfphedgcpdaaGreatDoorProg
import Derived.Test.YtghdfphedgcpdaaGreatDoorZ01
import Derived.Test.YtghdfphedgcpdaaGreatDoorZ02
import Derived.Test.YtghdfphedgcpdaaGreatDoorZ03
set_option linter.unusedVariables false
set_option linter.unusedSimpArgs false
namespace Go.Sw
open Go.Proofs.Tryz
open Go.Proofs
set_option maxRecDepth 20000
class ScT (t:TypeId):Prop where h:Scalar prog t
class AgT (t:TypeId):Prop where h:AggT prog t
class SzT (t:TypeId) (k:outParam Nat):Prop where h:SizeT prog t k
class SlT (t:TypeId) (e:outParam TypeId):Prop where h:Under prog t (.slice e)
class StT (t:TypeId):Prop where h:Under prog t .string
class FoT (s:TypeId) (f:Nat) (o:outParam Nat):Prop where h:zK prog s f o
instance:ScT 3:=⟨isAgg3⟩
instance:ScT 9:=⟨isAgg9⟩
instance:ScT 22:=⟨isAgg22⟩
instance:ScT 23:=⟨isAgg23⟩
instance:ScT 24:=⟨isAgg24⟩
instance:ScT 25:=⟨isAgg25⟩
instance:AgT 27:=⟨isAgg27⟩
instance:ScT 51:=⟨isAgg51⟩
instance:AgT 53:=⟨isAgg53⟩
instance:ScT 29:=⟨isAgg29⟩
instance:ScT 56:=⟨isAgg56⟩
instance:AgT 58:=⟨isAgg58⟩
instance:AgT 60:=⟨isAgg60⟩
instance:ScT 107:=⟨isAgg107⟩
instance:ScT 108:=⟨isAgg108⟩
instance:AgT 110:=⟨isAgg110⟩
instance:AgT 112:=⟨isAgg112⟩
instance:AgT 36:=⟨isAgg36⟩
instance:ScT 96:=⟨isAgg96⟩
instance:ScT 84:=⟨isAgg84⟩
instance:ScT 100:=⟨isAgg100⟩
instance:ScT 102:=⟨isAgg102⟩
instance:AgT 105:=⟨isAgg105⟩
instance:ScT 113:=⟨isAgg113⟩
instance:ScT 114:=⟨isAgg114⟩
instance:ScT 115:=⟨isAgg115⟩
instance:ScT 70:=⟨isAgg70⟩
instance:ScT 119:=⟨isAgg119⟩
instance:ScT 322:=⟨isAgg322⟩
instance:ScT 237:=⟨isAgg237⟩
instance:ScT 124:=⟨isAgg124⟩
instance:AgT 126:=⟨isAgg126⟩
instance:AgT 128:=⟨isAgg128⟩
instance:ScT 162:=⟨isAgg162⟩
instance:AgT 201:=⟨isAgg201⟩
instance:AgT 174:=⟨isAgg174⟩
instance:ScT 208:=⟨isAgg208⟩
instance:ScT 254:=⟨isAgg254⟩
instance:AgT 261:=⟨isAgg261⟩
instance:ScT 286:=⟨isAgg286⟩
instance:ScT 287:=⟨isAgg287⟩
instance:SzT 3 1:=⟨sizeOf3⟩
instance:SzT 5 1:=⟨sizeOf5⟩
instance:SzT 9 1:=⟨sizeOf9⟩
instance:SzT 22 1:=⟨sizeOf22⟩
instance:SzT 23 1:=⟨sizeOf23⟩
instance:SzT 24 1:=⟨sizeOf24⟩
instance:SzT 25 1:=⟨sizeOf25⟩
instance:SzT 27 4:=⟨sizeOf27⟩
instance:SzT 51 1:=⟨sizeOf51⟩
instance:SzT 53 2:=⟨sizeOf53⟩
instance:SzT 29 1:=⟨sizeOf29⟩
instance:SzT 56 1:=⟨sizeOf56⟩
instance:SzT 58 3:=⟨sizeOf58⟩
instance:SzT 60 4:=⟨sizeOf60⟩
instance:SzT 107 1:=⟨sizeOf107⟩
instance:SzT 108 1:=⟨sizeOf108⟩
instance:SzT 110 5:=⟨sizeOf110⟩
instance:SzT 112 8:=⟨sizeOf112⟩
instance:SzT 36 2:=⟨sizeOf36⟩
instance:SzT 96 1:=⟨sizeOf96⟩
instance:SzT 84 1:=⟨sizeOf84⟩
instance:SzT 100 1:=⟨sizeOf100⟩
instance:SzT 102 1:=⟨sizeOf102⟩
instance:SzT 105 4:=⟨sizeOf105⟩
instance:SzT 113 1:=⟨sizeOf113⟩
instance:SzT 114 1:=⟨sizeOf114⟩
instance:SzT 115 1:=⟨sizeOf115⟩
instance:SzT 70 1:=⟨sizeOf70⟩
instance:SzT 119 1:=⟨sizeOf119⟩
instance:SzT 322 1:=⟨sizeOf322⟩
instance:SzT 237 1:=⟨sizeOf237⟩
instance:SzT 124 1:=⟨sizeOf124⟩
instance:SzT 126 2:=⟨sizeOf126⟩
instance:SzT 128 2:=⟨sizeOf128⟩
instance:SzT 162 1:=⟨sizeOf162⟩
instance:SzT 201 3:=⟨sizeOf201⟩
instance:SzT 174 7:=⟨sizeOf174⟩
instance:SzT 257 2:=⟨sizeOf257⟩
instance:SzT 261 4:=⟨sizeOf261⟩
instance:SzT 285 2:=⟨sizeOf285⟩
instance:SzT 286 1:=⟨sizeOf286⟩
instance:SzT 287 1:=⟨sizeOf287⟩
instance:SzT 303 2:=⟨sizeOf303⟩
instance:FoT 27 0 0:=⟨fo_27_0⟩
instance:FoT 27 1 1:=⟨fo_27_1⟩
instance:FoT 27 2 2:=⟨fo_27_2⟩
instance:FoT 27 3 3:=⟨fo_27_3⟩
instance:FoT 53 0 0:=⟨fo_53_0⟩
instance:FoT 53 1 1:=⟨fo_53_1⟩
instance:FoT 58 0 0:=⟨fo_58_0⟩
instance:FoT 58 1 1:=⟨fo_58_1⟩
instance:FoT 58 2 2:=⟨fo_58_2⟩
instance:FoT 60 0 0:=⟨fo_60_0⟩
instance:FoT 60 1 1:=⟨fo_60_1⟩
instance:FoT 110 0 0:=⟨q0x⟩
instance:FoT 110 1 1:=⟨j5w⟩
instance:FoT 110 2 2:=⟨tD⟩
instance:FoT 110 3 3:=⟨j5x⟩
instance:FoT 110 4 4:=⟨j5y⟩
instance:FoT 112 0 0:=⟨q0y⟩
instance:FoT 112 1 1:=⟨j5z⟩
instance:FoT 112 2 2:=⟨j6a⟩
instance:FoT 112 3 3:=⟨j6b⟩
instance:FoT 36 0 0:=⟨fo_36_0⟩
instance:FoT 36 1 1:=⟨fo_36_1⟩
instance:FoT 105 0 0:=⟨j5s⟩
instance:FoT 105 1 1:=⟨j5t⟩
instance:FoT 105 2 2:=⟨j5u⟩
instance:FoT 105 3 3:=⟨j5v⟩
instance:FoT 117 0 0:=⟨j6c⟩
instance:FoT 117 1 4:=⟨j6d⟩
instance:FoT 117 2 5:=⟨j6e⟩
instance:FoT 117 3 6:=⟨j6f⟩
instance:FoT 117 4 7:=⟨j6g⟩
instance:FoT 324 0 0:=⟨j7f⟩
instance:FoT 324 1 1:=⟨j7g⟩
instance:FoT 126 0 0:=⟨j6h⟩
instance:FoT 126 1 1:=⟨j6i⟩
instance:FoT 128 0 0:=⟨j6j⟩
instance:FoT 128 1 1:=⟨j6k⟩
instance:FoT 164 0 0:=⟨j6m⟩
instance:FoT 164 1 1:=⟨j6n⟩
instance:FoT 164 2 4:=⟨j6o⟩
instance:FoT 201 0 0:=⟨j6s⟩
instance:FoT 201 1 1:=⟨j6t⟩
instance:FoT 174 0 0:=⟨j6p⟩
instance:FoT 174 1 1:=⟨j6q⟩
instance:FoT 174 2 2:=⟨j6r⟩
instance:FoT 257 1 1:=⟨j6v⟩
instance:FoT 261 0 0:=⟨j6w⟩
instance:FoT 261 2 2:=⟨j6y⟩
instance:FoT 285 0 0:=⟨j7a⟩
instance:FoT 285 1 1:=⟨j7b⟩
instance:FoT 289 0 0:=⟨j7c⟩
instance:FoT 289 1 2:=⟨j7d⟩
instance:FoT 289 2 3:=⟨j7e⟩
instance:FoT 210 0 0:=⟨z9n⟩
instance:FoT 210 1 1:=⟨j6u⟩
instance:StT 9:=⟨runUnderlying9⟩
instance:SlT 22 126:=⟨runUnderlying22⟩
instance:SlT 23 36:=⟨runUnderlying23⟩
instance:SlT 24 112:=⟨runUnderlying24⟩
instance:SlT 25 9:=⟨runUnderlying25⟩
instance:SlT 51 60:=⟨runUnderlying51⟩
instance:SlT 56 58:=⟨runUnderlying56⟩
instance:SlT 107 110:=⟨runUnderlying107⟩
instance:SlT 108 174:=⟨runUnderlying108⟩
instance:SlT 84 3:=⟨runUnderlying84⟩
instance:SlT 237 5:=⟨runUnderlying237⟩
instance:SlT 124 128:=⟨runUnderlying124⟩
instance:SlT 255 261:=⟨runUnderlying255⟩
instance:SlT 287 303:=⟨runUnderlying287⟩
section
variable {P:Program} {n:Nat} {E:List (Nat×Value)} {D:List Deferred} {a:Act} {w:World} {ty:TypeId} {Φ:Fz} {K:List Res}
structure OkS (a:Act) (op:Op) (ty:TypeId) (w:World) (v:Value):Prop where
 h:Ok prog a op ty w v
theorem s_move {x:Operand} {v:Value} (he:EnvR n E D a) (hx:ev E x=some v):OkS a (.move x) ty w v:=⟨qQ he hx⟩
theorem x0a {x:Operand} {v:Value} (he:EnvR n E D a) (hx:ev E x=some v):OkS a (.assign x) ty w v:=⟨vJ he hx⟩
theorem s_pick {c x y:Operand} {v:Value} {b:Bool} (he:EnvR n E D a) (hc:ev E c=some (.bool b)) (hx:ev E (if b then x else y)=some v):OkS a (.pick c x y) ty w v:=⟨q7x he hc hx⟩
theorem j3o {x:Operand} {i:Nat} {vs:List Value} {v:Value} (he:EnvR n E D a) (hx:ev E x=some (.tuple vs.toArray)) (hi:vs[i]? = some v):OkS a (.extract x i) ty w v:=⟨nU he hx hi⟩
theorem s_not {x:Operand} {t:TypeId} {b:Bool} (he:EnvR n E D a) (hx:ev E x=some (.bool b)):OkS a (.unOp .not t x) ty w (.bool (!b)):=⟨uC he hx⟩
theorem q6r {x:Operand} {p:Addr} (he:EnvR n E D a) (hx:ev E x=some (.pointer (some p))):OkS a (.nilCheck x) ty w (.pointer (some p)):=⟨z1k he hx⟩
structure FaV (s f:Nat) (u v:Value):Prop where
 h:∀{n:Nat} {E:List (Nat×Value)} {D:List Deferred} {a:Act} {x:Operand} {ty:TypeId} {w:World},EnvR n E D a→ev E x=some u→Ok prog a (.fieldAddr s x f) ty w v
theorem s_fav {x:Operand} {s f:Nat} {u v:Value} (he:EnvR n E D a) (hx:ev E x=some u) (h:FaV s f u v):OkS a (.fieldAddr s x f) ty w v:=⟨h.h he hx⟩
theorem f_own {s f off b o z:Nat} [FoT s f off] (hz:o+off=z):FaV s f (.pointer (some ⟨b,o,none⟩)) (.pointer (some ⟨b,z,none⟩)):=⟨fun he hx=>qP he hx FoT.h hz⟩
theorem f_at {s f off j z:Nat} {p:Addr} {cs:List Value} [FoT s f off] (hp:At Φ p cs) (hz:j+off=z):FaV s f (.pointer (some (p.add j))) (.pointer (some (p.add z))):=⟨fun he hx=>y2z he hx hp FoT.h hz⟩
theorem f_p {s f off:Nat} {p:Addr} [FoT s f off]:FaV s f (.pointer (some p)) (.pointer (some (p.add off))):=⟨fun he hx=>uA he hx FoT.h⟩
structure LdV (T:TypeId) (w:World) (u v:Value):Prop where
 h:∀{n:Nat} {E:List (Nat×Value)} {D:List Deferred} {a:Act} {x:Operand} {ty:TypeId},EnvR n E D a→ev E x=some u→Ok prog a (.load T x) ty w v
theorem s_ldv {x:Operand} {T:TypeId} {u v:Value} (he:EnvR n E D a) (hx:ev E x=some u) (h:LdV T w u v):OkS a (.load T x) ty w v:=⟨h.h he hx⟩
theorem o_own {T:TypeId} {b off:Nat} {v:Value} (h:LdV T w (.pointer (some ⟨b,off,none⟩)) v):LdV T w (.pointer (some ⟨b,off,none⟩)) v:=h
theorem o_sc {T:TypeId} {u v:Value} [ScT T] (h:LdV T w u v):LdV T w u v:=h
theorem o_ag {T:TypeId} {u v:Value} [AgT T] (h:LdV T w u v):LdV T w u v:=h
theorem z3l (i:Nat) {T:TypeId} {b off:Nat} {cs:List Value} {t:TypeId} {v:Value} [ScT T] (hm:Sees Φ K w) (hk:qJ K i=some (.blk b (ob cs t))) (hv:nth cs off=some v):LdV T w (.pointer (some ⟨b,off,none⟩)) v:=⟨fun he hx=>yS i he hm hx hk hv ScT.h⟩
theorem sK (i:Nat) {T:TypeId} {b off k:Nat} {cs vs:List Value} {t:TypeId} [AgT T] [SzT T k] (hm:Sees Φ K w) (hk:qJ K i=some (.blk b (ob cs t))) (hv:z2n (z2f cs off) k=vs) (hl:vs.length=k):LdV T w (.pointer (some ⟨b,off,none⟩)) (.agg vs.toArray):=⟨fun he hx=>yU i he hm hx hk AgT.h SzT.h hv hl⟩
theorem v_at {T:TypeId} {p:Addr} {cs:List Value} {v:Value} {j:Nat} [ScT T] (hm:Sees Φ K w) (hp:At Φ p cs) (hv:nth cs j=some v):LdV T w (.pointer (some (p.add j))) v:=⟨fun he hx=>y6v j he hm hx hp hv ScT.h⟩
theorem v_at0 {T:TypeId} {p:Addr} {cs:List Value} {v:Value} [ScT T] (hm:Sees Φ K w) (hp:At Φ p cs) (hv:nth cs 0=some v):LdV T w (.pointer (some p)) v:=⟨fun he hx=>q7w he hm hx hp hv ScT.h⟩
theorem v_atA {T:TypeId} {p:Addr} {k:Nat} {cs:List Value} [AgT T] [SzT T k] (hm:Sees Φ K w) (hp:At Φ p cs) (hl:cs.length=k):LdV T w (.pointer (some p)) (.agg cs.toArray):=⟨fun he hx=>q3r he hm hx hp AgT.h SzT.h hl⟩
theorem s_len {x:Operand} {t e:TypeId} {p:Option Addr} {len cap:Nat} [SlT t e] (he:EnvR n E D a) (hx:ev E x=some (.slice p len cap)):OkS a (.call { callee:=.builtin .len,args:=#[x],argTypes:=#[t] }) ty w (.int .i64 (len:Int)):=⟨z6m he hx SlT.h⟩
theorem s_lens {x:Operand} {t:TypeId} {s:ByteArray} [StT t] (he:EnvR n E D a) (hx:ev E x=some (.string s)):OkS a (.call { callee:=.builtin .len,args:=#[x],argTypes:=#[t] }) ty w (.int .i64 (s.size:Int)):=⟨j4g he hx StT.h⟩
theorem s_index {x ix:Operand} {t e:TypeId} {kk:IntKind} {p:Addr} {len cap k i:Nat} [SlT t e] [SzT e k] (he:EnvR n E D a) (hx:ev E x=some (.slice (some p) len cap)) (hi:ev E ix=some (.int kk (i:Int))) (hb:i < len):OkS a (.indexAddr t x ix) ty w (.pointer (some (p.add (i * k)))):=⟨vU i he hx hi SlT.h SzT.h hb⟩
theorem s_inc {t t':TypeId} {x y:Operand} {i:Nat} (he:EnvR n E D a) (hx:ev E x=some (.int .i64 (i:Int))) (hy:ev E y=some (.int .i64 ((1:Nat):Int))) (hz:i+1≤9223372036854775807):OkS a (.binOp .add t x y t') ty w (.int .i64 ((i+1:Nat):Int)):=⟨pM he hx hy hz⟩
theorem s_func {fn:Fn} {fs cs:Array Operand} {vfs vcs:List Value} (he:EnvR n E D a) (hf:evs E fs.toList=some vfs) (hc:evs E cs.toList=some vcs):OkS a (.makeFunc fn fs cs) ty w (.func fn vfs.toArray vcs.toArray):=⟨sP he hf hc⟩
section
variable {t t':TypeId} {x y:Operand} {k:IntKind}
theorem s_lssNt {i j:Nat} (he:EnvR n E D a) (hx:ev E x=some (.int k ((i:Nat):Int))) (hy:ev E y=some (.int k ((j:Nat):Int))) (h:i < j):OkS a (.binOp .lss t x y t') ty w (.bool true):=⟨q3s true he hx hy (decide_eq_true (Int.ofNat_lt.2 h))⟩
theorem s_lssNf {i j:Nat} (he:EnvR n E D a) (hx:ev E x=some (.int k ((i:Nat):Int))) (hy:ev E y=some (.int k ((j:Nat):Int))) (h:¬i < j):OkS a (.binOp .lss t x y t') ty w (.bool false):=⟨q3s false he hx hy (decide_eq_false (fun hh=>h (Int.ofNat_lt.1 hh)))⟩
theorem s_lssIt {i j:Int} (he:EnvR n E D a) (hx:ev E x=some (.int k i)) (hy:ev E y=some (.int k j)) (h:i < j):OkS a (.binOp .lss t x y t') ty w (.bool true):=⟨q3s true he hx hy (decide_eq_true (h))⟩
theorem s_lssIf {i j:Int} (he:EnvR n E D a) (hx:ev E x=some (.int k i)) (hy:ev E y=some (.int k j)) (h:¬i < j):OkS a (.binOp .lss t x y t') ty w (.bool false):=⟨q3s false he hx hy (decide_eq_false (h))⟩
theorem s_gtrNt {i j:Nat} (he:EnvR n E D a) (hx:ev E x=some (.int k ((i:Nat):Int))) (hy:ev E y=some (.int k ((j:Nat):Int))) (h:j < i):OkS a (.binOp .gtr t x y t') ty w (.bool true):=⟨y6t true he hx hy (decide_eq_true (Int.ofNat_lt.2 h))⟩
theorem s_gtrNf {i j:Nat} (he:EnvR n E D a) (hx:ev E x=some (.int k ((i:Nat):Int))) (hy:ev E y=some (.int k ((j:Nat):Int))) (h:¬j < i):OkS a (.binOp .gtr t x y t') ty w (.bool false):=⟨y6t false he hx hy (decide_eq_false (fun hh=>h (Int.ofNat_lt.1 hh)))⟩
theorem s_gtrIt {i j:Int} (he:EnvR n E D a) (hx:ev E x=some (.int k i)) (hy:ev E y=some (.int k j)) (h:j < i):OkS a (.binOp .gtr t x y t') ty w (.bool true):=⟨y6t true he hx hy (decide_eq_true (h))⟩
theorem s_gtrIf {i j:Int} (he:EnvR n E D a) (hx:ev E x=some (.int k i)) (hy:ev E y=some (.int k j)) (h:¬j < i):OkS a (.binOp .gtr t x y t') ty w (.bool false):=⟨y6t false he hx hy (decide_eq_false (h))⟩
theorem s_leqNt {i j:Nat} (he:EnvR n E D a) (hx:ev E x=some (.int k ((i:Nat):Int))) (hy:ev E y=some (.int k ((j:Nat):Int))) (h:i≤j):OkS a (.binOp .leq t x y t') ty w (.bool true):=⟨y6u true he hx hy (decide_eq_true (Int.ofNat_le.2 h))⟩
theorem s_leqNf {i j:Nat} (he:EnvR n E D a) (hx:ev E x=some (.int k ((i:Nat):Int))) (hy:ev E y=some (.int k ((j:Nat):Int))) (h:¬i≤j):OkS a (.binOp .leq t x y t') ty w (.bool false):=⟨y6u false he hx hy (decide_eq_false (fun hh=>h (Int.ofNat_le.1 hh)))⟩
theorem s_leqIt {i j:Int} (he:EnvR n E D a) (hx:ev E x=some (.int k i)) (hy:ev E y=some (.int k j)) (h:i≤j):OkS a (.binOp .leq t x y t') ty w (.bool true):=⟨y6u true he hx hy (decide_eq_true (h))⟩
theorem s_leqIf {i j:Int} (he:EnvR n E D a) (hx:ev E x=some (.int k i)) (hy:ev E y=some (.int k j)) (h:¬i≤j):OkS a (.binOp .leq t x y t') ty w (.bool false):=⟨y6u false he hx hy (decide_eq_false (h))⟩
theorem s_geqNt {i j:Nat} (he:EnvR n E D a) (hx:ev E x=some (.int k ((i:Nat):Int))) (hy:ev E y=some (.int k ((j:Nat):Int))) (h:j≤i):OkS a (.binOp .geq t x y t') ty w (.bool true):=⟨q3o true he hx hy (decide_eq_true (Int.ofNat_le.2 h))⟩
theorem s_geqNf {i j:Nat} (he:EnvR n E D a) (hx:ev E x=some (.int k ((i:Nat):Int))) (hy:ev E y=some (.int k ((j:Nat):Int))) (h:¬j≤i):OkS a (.binOp .geq t x y t') ty w (.bool false):=⟨q3o false he hx hy (decide_eq_false (fun hh=>h (Int.ofNat_le.1 hh)))⟩
theorem s_geqIt {i j:Int} (he:EnvR n E D a) (hx:ev E x=some (.int k i)) (hy:ev E y=some (.int k j)) (h:j≤i):OkS a (.binOp .geq t x y t') ty w (.bool true):=⟨q3o true he hx hy (decide_eq_true (h))⟩
theorem s_geqIf {i j:Int} (he:EnvR n E D a) (hx:ev E x=some (.int k i)) (hy:ev E y=some (.int k j)) (h:¬j≤i):OkS a (.binOp .geq t x y t') ty w (.bool false):=⟨q3o false he hx hy (decide_eq_false (h))⟩
theorem x0e {i j:Nat} (he:EnvR n E D a) (hx:ev E x=some (.int k ((i:Nat):Int))) (hy:ev E y=some (.int k ((j:Nat):Int))) (h:i=j):OkS a (.binOp .eql t x y t') ty w (.bool true):=⟨wL true he hx hy (decide_eq_true (congrArg Int.ofNat h))⟩
theorem x0d {i j:Nat} (he:EnvR n E D a) (hx:ev E x=some (.int k ((i:Nat):Int))) (hy:ev E y=some (.int k ((j:Nat):Int))) (h:¬i=j):OkS a (.binOp .eql t x y t') ty w (.bool false):=⟨wL false he hx hy (decide_eq_false (fun hh=>h (Int.ofNat.inj hh)))⟩
theorem x0c {i j:Int} (he:EnvR n E D a) (hx:ev E x=some (.int k i)) (hy:ev E y=some (.int k j)) (h:i=j):OkS a (.binOp .eql t x y t') ty w (.bool true):=⟨wL true he hx hy (decide_eq_true (h))⟩
theorem x0b {i j:Int} (he:EnvR n E D a) (hx:ev E x=some (.int k i)) (hy:ev E y=some (.int k j)) (h:¬i=j):OkS a (.binOp .eql t x y t') ty w (.bool false):=⟨wL false he hx hy (decide_eq_false (h))⟩
theorem x0i {i j:Nat} (he:EnvR n E D a) (hx:ev E x=some (.int k ((i:Nat):Int))) (hy:ev E y=some (.int k ((j:Nat):Int))) (h:i=j):OkS a (.binOp .neq t x y t') ty w (.bool false):=⟨nL false he hx hy (congrArg Bool.not (decide_eq_true (congrArg Int.ofNat h)))⟩
theorem x0h {i j:Nat} (he:EnvR n E D a) (hx:ev E x=some (.int k ((i:Nat):Int))) (hy:ev E y=some (.int k ((j:Nat):Int))) (h:¬i=j):OkS a (.binOp .neq t x y t') ty w (.bool true):=⟨nL true he hx hy (congrArg Bool.not (decide_eq_false (fun hh=>h (Int.ofNat.inj hh))))⟩
theorem x0g {i j:Int} (he:EnvR n E D a) (hx:ev E x=some (.int k i)) (hy:ev E y=some (.int k j)) (h:i=j):OkS a (.binOp .neq t x y t') ty w (.bool false):=⟨nL false he hx hy (congrArg Bool.not (decide_eq_true (h)))⟩
theorem x0f {i j:Int} (he:EnvR n E D a) (hx:ev E x=some (.int k i)) (hy:ev E y=some (.int k j)) (h:¬i=j):OkS a (.binOp .neq t x y t') ty w (.bool true):=⟨nL true he hx hy (congrArg Bool.not (decide_eq_false (h)))⟩
theorem s_seqlt {s u:ByteArray} (he:EnvR n E D a) (hx:ev E x=some (.string s)) (hy:ev E y=some (.string u)) (h:s=u):OkS a (.binOp .eql t x y t') ty w (.bool true):=⟨q7y true he hx hy (decide_eq_true h)⟩
theorem s_seqlf {s u:ByteArray} (he:EnvR n E D a) (hx:ev E x=some (.string s)) (hy:ev E y=some (.string u)) (h:¬s=u):OkS a (.binOp .eql t x y t') ty w (.bool false):=⟨q7y false he hx hy (decide_eq_false h)⟩
theorem s_sneqt {s u:ByteArray} (he:EnvR n E D a) (hx:ev E x=some (.string s)) (hy:ev E y=some (.string u)) (h:s=u):OkS a (.binOp .neq t x y t') ty w (.bool false):=⟨q7z false he hx hy (congrArg Bool.not (decide_eq_true h))⟩
theorem s_sneqf {s u:ByteArray} (he:EnvR n E D a) (hx:ev E x=some (.string s)) (hy:ev E y=some (.string u)) (h:¬s=u):OkS a (.binOp .neq t x y t') ty w (.bool true):=⟨q7z true he hx hy (congrArg Bool.not (decide_eq_false h))⟩
end
end
section
variable {a:Act} {w:World} {ty:TypeId} {v:Value} {x y c:Operand} {t s:TypeId} {i f:Nat} {fn:Fn} {fs cs:Array Operand} {c0:Call}
theorem d_move (h:OkS a (.move x) ty w v):OkS a (.move x) ty w v:=h
theorem j5a (h:OkS a (.assign x) ty w v):OkS a (.assign x) ty w v:=h
theorem d_pick (h:OkS a (.pick c x y) ty w v):OkS a (.pick c x y) ty w v:=h
theorem j0k (h:OkS a (.extract x i) ty w v):OkS a (.extract x i) ty w v:=h
theorem d_not (h:OkS a (.unOp .not t x) ty w v):OkS a (.unOp .not t x) ty w v:=h
theorem d_nilc (h:OkS a (.nilCheck x) ty w v):OkS a (.nilCheck x) ty w v:=h
theorem d_fld (h:OkS a (.fieldAddr s x f) ty w v):OkS a (.fieldAddr s x f) ty w v:=h
theorem d_idx (h:OkS a (.indexAddr t x y) ty w v):OkS a (.indexAddr t x y) ty w v:=h
theorem d_call (h:OkS a (.call c0) ty w v):OkS a (.call c0) ty w v:=h
theorem d_func (h:OkS a (.makeFunc fn fs cs) ty w v):OkS a (.makeFunc fn fs cs) ty w v:=h
theorem d_add (h:OkS a (.binOp .add t x y s) ty w v):OkS a (.binOp .add t x y s) ty w v:=h
theorem d_lss (h:OkS a (.binOp .lss t x y s) ty w v):OkS a (.binOp .lss t x y s) ty w v:=h
theorem d_gtr (h:OkS a (.binOp .gtr t x y s) ty w v):OkS a (.binOp .gtr t x y s) ty w v:=h
theorem d_leq (h:OkS a (.binOp .leq t x y s) ty w v):OkS a (.binOp .leq t x y s) ty w v:=h
theorem d_geq (h:OkS a (.binOp .geq t x y s) ty w v):OkS a (.binOp .geq t x y s) ty w v:=h
theorem d_eql (h:OkS a (.binOp .eql t x y s) ty w v):OkS a (.binOp .eql t x y s) ty w v:=h
theorem d_neq (h:OkS a (.binOp .neq t x y s) ty w v):OkS a (.binOp .neq t x y s) ty w v:=h
end
section
variable {n:Nat} {E:List (Nat×Value)} {D:List Deferred} {a:Act} {w:World} {ty:TypeId} {Φ:Fz} {K:List Res} {op:Op} {v:Value}
theorem oJ {cs vs:List Value} {off k:Nat} (h:z2n (z2f cs off) k=vs:=by first | (dsimp only [z2n,z2f,List.tail,Nat.zero_add,Nat.reduceAdd];try rfl;all_goals fail) | fail):z2n (z2f cs off) k=vs:=h
theorem z1b (he:EnvR n E D a) (h:OkS a op ty w v:=by first | ((with_reducible apply d_move);first | exact s_move he rfl) | ((with_reducible apply j5a);first | exact x0a he rfl) | ((with_reducible apply d_pick);first | exact s_pick he rfl rfl) | ((with_reducible apply j0k);first | exact j3o he rfl rfl) | ((with_reducible apply d_not);first | exact s_not he rfl) | ((with_reducible apply d_nilc);first | exact q6r he rfl) | ((with_reducible apply d_fld);first | ((with_reducible apply s_fav he);(exact rfl);first | ((with_reducible apply f_own);(exact rfl)) | exact f_at (by with_reducible assumption) (by rfl) | exact f_p)) | ((with_reducible apply d_idx);first | exact s_index he rfl rfl (by first | with_reducible assumption | assumption)) | ((with_reducible apply d_call);first | exact s_len he rfl | exact s_lens he rfl) | ((with_reducible apply d_func);first | exact s_func he rfl rfl) | ((with_reducible apply d_add);first | exact s_inc he rfl rfl (by omega)) | ((with_reducible apply d_lss);first | exact s_lssNt he rfl rfl (by first | with_reducible assumption | assumption) | exact s_lssNf he rfl rfl (by first | with_reducible assumption | assumption) | exact s_lssIt he rfl rfl (by first | with_reducible assumption | assumption) | exact s_lssIf he rfl rfl (by first | with_reducible assumption | assumption)) | ((with_reducible apply d_gtr);first | exact s_gtrNt he rfl rfl (by first | with_reducible assumption | assumption) | exact s_gtrNf he rfl rfl (by first | with_reducible assumption | assumption) | exact s_gtrIt he rfl rfl (by first | with_reducible assumption | assumption) | exact s_gtrIf he rfl rfl (by first | with_reducible assumption | assumption)) | ((with_reducible apply d_leq);first | exact s_leqNt he rfl rfl (by first | with_reducible assumption | assumption) | exact s_leqNf he rfl rfl (by first | with_reducible assumption | assumption) | exact s_leqIt he rfl rfl (by first | with_reducible assumption | assumption) | exact s_leqIf he rfl rfl (by first | with_reducible assumption | assumption)) | ((with_reducible apply d_geq);first | exact s_geqNt he rfl rfl (by first | with_reducible assumption | assumption) | exact s_geqNf he rfl rfl (by first | with_reducible assumption | assumption) | exact s_geqIt he rfl rfl (by first | with_reducible assumption | assumption) | exact s_geqIf he rfl rfl (by first | with_reducible assumption | assumption)) | ((with_reducible apply d_eql);first | exact x0e he rfl rfl (by first | with_reducible assumption | assumption) | exact x0d he rfl rfl (by first | with_reducible assumption | assumption) | exact x0c he rfl rfl (by first | with_reducible assumption | assumption) | exact x0b he rfl rfl (by first | with_reducible assumption | assumption) | exact s_seqlt he rfl rfl (by first | with_reducible assumption | assumption) | exact s_seqlf he rfl rfl (by first | with_reducible assumption | assumption)) | ((with_reducible apply d_neq);first | exact x0i he rfl rfl (by first | with_reducible assumption | assumption) | exact x0h he rfl rfl (by first | with_reducible assumption | assumption) | exact x0g he rfl rfl (by first | with_reducible assumption | assumption) | exact x0f he rfl rfl (by first | with_reducible assumption | assumption) | exact s_sneqt he rfl rfl (by first | with_reducible assumption | assumption) | exact s_sneqf he rfl rfl (by first | with_reducible assumption | assumption))):OkS a op ty w v:=h
theorem z1c (he:EnvR n E D a) (hs:Sees Φ K w) (h:OkS a op ty w v:=by ((with_reducible apply s_ldv he);(exact rfl);first | ((with_reducible apply o_sc);first | ((with_reducible apply o_own);first | exact z3l 0 hs rfl rfl | exact z3l 1 hs rfl rfl | exact z3l 2 hs rfl rfl | exact z3l 3 hs rfl rfl | exact z3l 4 hs rfl rfl | exact z3l 5 hs rfl rfl | exact z3l 6 hs rfl rfl | exact z3l 7 hs rfl rfl | exact z3l 8 hs rfl rfl) | exact v_at hs (by with_reducible assumption) (by rfl) | exact v_at0 hs (by with_reducible assumption) (by rfl)) | ((with_reducible apply o_ag);first | ((with_reducible apply o_own);first | exact sK 0 hs rfl (by exact oJ) (by rfl) | exact sK 1 hs rfl (by exact oJ) (by rfl) | exact sK 2 hs rfl (by exact oJ) (by rfl) | exact sK 3 hs rfl (by exact oJ) (by rfl) | exact sK 4 hs rfl (by exact oJ) (by rfl) | exact sK 5 hs rfl (by exact oJ) (by rfl) | exact sK 6 hs rfl (by exact oJ) (by rfl) | exact sK 7 hs rfl (by exact oJ) (by rfl) | exact sK 8 hs rfl (by exact oJ) (by rfl)) | exact v_atA hs (by with_reducible assumption) (by rfl)))):OkS a op ty w v:=h
theorem z4x (he:EnvR n E D a) (hs:Sees Φ K w) (h:OkS a op ty w v:=by first | exact z1b he | exact z1c he hs):OkS a op ty w v:=h
end
def y7m:Code→Nat
 | .region i _ _=>i
 | .seq x y=>if y7m x=0 then y7m y else y7m x
 | .cond _ x y=>if y7m x=0 then y7m y else y7m x
 | .block _ x=>y7m x
 | .loop x=>y7m x
 | _=>0
def Stop (_:Nat):Prop:=True
structure Go2 (n:Nat) (D:List Deferred) (Φ:Fz) (K:List Res) (w:World) (A:Act→World→Prop) (E:List (Nat×Value)) (B:Act→World→Prop) (E':List (Nat×Value)):Prop where
 h:Sees Φ K w→(∀a,EnvR n E' D a→B a w)→∀a,EnvR n E D a→A a w
section
variable {n:Nat} {E E':List (Nat×Value)} {D:List Deferred} {w:World} {Φ:Fz} {K:List Res} {B:Act→World→Prop} {d t j i:Nat} {v u:Value} {b:Bool} {op:Op} {ty:TypeId} {pos:String} {aft:Array Edge} {rest:List Oper} {ops:Array Oper}
 {Q Q0:Exit→Act→World→Prop} {x y:Code} {c:Operand} {f:Act→World→Prop} {id:Nat}
theorem q4s:Go2 n D Φ K w B E B E:=⟨fun _ k=>k⟩
theorem g_op (ho:∀a,EnvR n E D a→Sees Φ K w→OkS a op ty w v) (hd:Nat.blt d n=true) (h:Go2 n D Φ K w (wpList prog ops Q rest) ((d,v)::E) B E') :
  Go2 n D Φ K w (wpList prog ops Q (⟨some d,op,ty,pos,aft,none⟩::rest)) E B E':=⟨fun hs k a he=>jG he (ho a he hs).h hd fun a he=>h.h hs k a he⟩
theorem g_gy (hj:ops[j]?.bind (·.dst)=some t) (hv:get E t=some (.bool b)) (ho:∀a,EnvR n E D a→Sees Φ K w→OkS a op ty w v) (hd:Nat.blt d n=true) (h:Go2 n D Φ K w (wpList prog ops Q rest) ((d,v)::E) B E') :
  Go2 n D Φ K w (wpList prog ops Q (⟨some d,op,ty,pos,aft,some (j,b)⟩::rest)) E B E':=⟨fun hs k a he=>g_yes he rfl rfl hd hj hv (vN (ho a he hs).h fun a he=>h.h hs k a he)⟩
theorem g_gn (hj:ops[j]?.bind (·.dst)=some t) (hv:get E t=some u) (hb:y8g u b=true) (hd:Nat.blt d n=true) (h:Go2 n D Φ K w (wpList prog ops Q rest) ((d,undef)::E) B E') :
  Go2 n D Φ K w (wpList prog ops Q (⟨some d,op,ty,pos,aft,some (j,b)⟩::rest)) E B E':=⟨fun hs k a he=>g_no he rfl rfl hd hj hv hb fun a he=>h.h hs k a he⟩
theorem g_nil (h:Go2 n D Φ K w (Q .normal) E B E'):Go2 n D Φ K w (wpList prog ops Q []) E B E':=⟨fun hs k a he=>wpList_nil (h.h hs k a he)⟩
theorem g_thn (h:Go2 n D Φ K w (f) E B E'):Go2 n D Φ K w (Exit.then f Q .normal) E B E':=⟨fun hs k a he=>h.h hs k a he⟩
theorem g_the (h:Go2 n D Φ K w (Q (.exit i)) E B E'):Go2 n D Φ K w (Exit.then f Q (.exit i)) E B E':=⟨fun hs k a he=>h.h hs k a he⟩
theorem g_thr (h:Go2 n D Φ K w (Q .ret) E B E'):Go2 n D Φ K w (Exit.then f Q .ret) E B E':=⟨fun hs k a he=>h.h hs k a he⟩
theorem g_bn (h:Go2 n D Φ K w (Q .normal) E B E'):Go2 n D Φ K w (Exit.inBlock i Q .normal) E B E':=⟨fun hs k a he=>h.h hs k a he⟩
theorem g_bx (hi:(if id=i then True else False)=True) (h:Go2 n D Φ K w (Q .normal) E B E'):Go2 n D Φ K w (Exit.inBlock i Q (.exit id)) E B E':=⟨fun hs k a he=>by
 have e:id=i:=by by_cases h:id=i;exact h;rw [if_neg h] at hi;exact (of_eq_true hi).elim
 subst e
 have:=h.h hs k a he
 simp only [Exit.inBlock]
 simpa using this⟩
theorem g_bo (hi:Nat.beq id i=false) (h:Go2 n D Φ K w (Q (.exit id)) E B E'):Go2 n D Φ K w (Exit.inBlock i Q (.exit id)) E B E':=⟨fun hs k a he=>by
 have e:¬id=i:=Nat.ne_of_beq_eq_false hi
 have:=h.h hs k a he
 simp only [Exit.inBlock]
 simpa [e,Ne.symm e] using this⟩
theorem g_br (h:Go2 n D Φ K w (Q .ret) E B E'):Go2 n D Φ K w (Exit.inBlock i Q .ret) E B E':=⟨fun hs k a he=>h.h hs k a he⟩
theorem g_seq (h:Go2 n D Φ K w (x.wp prog (Exit.then (y.wp prog Q) Q)) E B E'):Go2 n D Φ K w ((Code.seq x y).wp prog Q) E B E':=⟨fun hs k a he=>wp_seq (h.h hs k a he)⟩
theorem g_seqJ {r:Nat} (_:Stop r) (_:Nat.beq (y7m y) r=false) (h:Go2 n D Φ K w (x.wp prog (Exit.then (y.wp prog Q) Q)) E B E'):Go2 n D Φ K w ((Code.seq x y).wp prog Q) E B E':=g_seq h
theorem g_reg {l:List Oper} (h:Go2 n D Φ K w (wpList prog l.toArray Q l) E B E'):Go2 n D Φ K w ((Code.region id l.toArray false).wp prog Q) E B E':=⟨fun hs k a he=>wp_region_lit (h.h hs k a he)⟩
theorem g_ift (hc:ev E c=some (.bool true)) (h:Go2 n D Φ K w (x.wp prog Q) E B E'):Go2 n D Φ K w ((Code.cond c x y).wp prog Q) E B E':=⟨fun hs k a he=>if_t he hc (h.h hs k a he)⟩
theorem g_iff (hc:ev E c=some (.bool false)) (h:Go2 n D Φ K w (y.wp prog Q) E B E'):Go2 n D Φ K w ((Code.cond c x y).wp prog Q) E B E':=⟨fun hs k a he=>if_f he hc (h.h hs k a he)⟩
theorem q4t (h:Go2 n D Φ K w (Q .normal) E B E'):Go2 n D Φ K w (Code.skip.wp prog Q) E B E':=⟨fun hs k a he=>wp_skip (h.h hs k a he)⟩
theorem y7n (h:Go2 n D Φ K w (x.wp prog (Exit.inBlock id Q)) E B E'):Go2 n D Φ K w ((Code.block id x).wp prog Q) E B E':=⟨fun hs k a he=>wp_block (h.h hs k a he)⟩
theorem q4r (h:Go2 n D Φ K w (Q (.exit id)) E B E'):Go2 n D Φ K w ((Code.exit id).wp prog Q) E B E':=⟨fun hs k a he=>wp_exit (h.h hs k a he)⟩
theorem g_ret (h:Go2 n D Φ K w (Q .ret) E B E'):Go2 n D Φ K w (Code.ret.wp prog Q) E B E':=⟨fun hs k a he=>wp_ret (h.h hs k a he)⟩
section
variable {B':World→Prop} {kd:List Nat} {Qp:List PanicEntry→World→Prop} {q:Act→World→Prop} {p:Plan} {Φ':Fz} {K':List Res}
theorem g_dd (h:Go2 n D Φ K w (q) E B E'):Go2 n D Φ K w (zW prog .any ops B' kd Qp q .done) E B E':=⟨fun hs k a he=>h.h hs k a he⟩
theorem g_dq (hi:ops[i]? = some ⟨some d,op,ty,pos,aft,none⟩) (hk:qA kd i=2) (ho:∀a w,EnvR n E D a→Sees Φ' K' w→OkS a op ty w v) (hd:Nat.blt d n=true)
  (h:Go2 n D Φ K w (zW prog .any ops (Sees Φ' K') kd Qp q p) ((d,v)::E) B E'):Go2 n D Φ K w (zW prog .any ops (Sees Φ' K') kd Qp q (.q i p)) E B E' :=
 ⟨fun hs k a he=>d_q he hi hk (fun w hw=>(ho a w he hw).h) hd fun a he=>h.h hs k a he⟩
theorem g_dq1 (hi:ops[i]? = some ⟨some d,op,ty,pos,aft,none⟩) (hk:qA kd i=1) (ho:∀a w,EnvR n E D a→OkS a op ty w v) (hd:Nat.blt d n=true)
  (h:Go2 n D Φ K w (zW prog .any ops B' kd Qp q p) ((d,v)::E) B E'):Go2 n D Φ K w (zW prog .any ops B' kd Qp q (.q i p)) E B E' :=
 ⟨fun hs k a he=>z8v he hi hk (fun w=>(ho a w he).h) hd fun a he=>h.h hs k a he⟩
theorem g_dqg (hi:ops[i]? = some ⟨some d,op,ty,pos,aft,some (j,b)⟩) (hj:ops[j]?.bind (·.dst)=some t) (hv:get E t=some (.bool b)) (hk:qA kd i=2) (ho:∀a w,EnvR n E D a→Sees Φ' K' w→OkS a op ty w v) (hd:Nat.blt d n=true)
  (h:Go2 n D Φ K w (zW prog .any ops (Sees Φ' K') kd Qp q p) ((d,v)::E) B E'):Go2 n D Φ K w (zW prog .any ops (Sees Φ' K') kd Qp q (.q i p)) E B E' :=
 ⟨fun hs k a he=>d_qg he hi hj hv hk (fun w hw=>(ho a w he hw).h) hd fun a he=>h.h hs k a he⟩
theorem q4q (hi:ops[i]? = some ⟨some d,op,ty,pos,aft,some (j,b)⟩) (hj:ops[j]?.bind (·.dst)=some t) (hv:get E t=some (.bool b)) (hk:qA kd i=1) (ho:∀a w,EnvR n E D a→OkS a op ty w v) (hd:Nat.blt d n=true)
  (h:Go2 n D Φ K w (zW prog .any ops B' kd Qp q p) ((d,v)::E) B E'):Go2 n D Φ K w (zW prog .any ops B' kd Qp q (.q i p)) E B E' :=
 ⟨fun hs k a he=>d_qg1 he hi hj hv hk (fun w=>(ho a w he).h) hd fun a he=>h.h hs k a he⟩
theorem g_dn (hi:ops[i]? = some ⟨some d,op,ty,pos,aft,some (j,b)⟩) (hj:ops[j]?.bind (·.dst)=some t) (hv:get E t=some u) (hb:y8g u b=true) (hd:Nat.blt d n=true)
  (h:Go2 n D Φ K w (zW prog .any ops B' kd Qp q p) ((d,undef)::E) B E'):Go2 n D Φ K w (zW prog .any ops B' kd Qp q (.q i p)) E B E' :=
 ⟨fun hs k a he=>d_no he hi hj hv hb hd fun a he=>h.h hs k a he⟩
theorem g_dne (hi:ops[i]? = some ⟨some d,op,ty,pos,aft,some (j,b)⟩) (hj:ops[j]?.bind (·.dst)=some t) (hv:get E t=some u) (hb:y8g u b=true) (hd:Nat.blt d n=true)
  (h:Go2 n D Φ K w (zW prog .any ops B' kd Qp q p) ((d,undef)::E) B E'):Go2 n D Φ K w (zW prog .any ops B' kd Qp q (.e i p)) E B E' :=
 ⟨fun hs k a he=>d_no_e he hi hj hv hb hd fun a he=>h.h hs k a he⟩
end
theorem goGo {A:Act→World→Prop} (h:Go2 n D Φ K w A E B E':=by ((repeat first | ((with_reducible apply g_op);(exact fun _ he hs=>z4x he hs);rfl) | with_reducible apply g_nil | with_reducible apply g_thn | with_reducible apply g_seq | with_reducible apply g_reg | ((with_reducible apply g_ift);rfl) | ((with_reducible apply g_iff);rfl) | with_reducible apply q4t | with_reducible apply g_bn | with_reducible apply y7n | ((with_reducible apply g_gy);rfl;rfl;(exact fun _ he hs=>z4x he hs);rfl) | ((with_reducible apply g_gn);rfl;rfl;rfl;rfl) | ((with_reducible apply g_dq1);rfl;rfl;(exact fun _ _ he=>z1b he);rfl) | ((with_reducible apply g_dq);rfl;rfl;(exact fun _ _ he hs=>z1c he hs);rfl) | with_reducible apply g_dd | ((with_reducible apply g_dn);rfl;rfl;rfl;rfl;rfl) | ((with_reducible apply g_dne);rfl;rfl;rfl;rfl;rfl) | ((with_reducible apply q4q);rfl;rfl;rfl;rfl;(exact fun _ _ he=>z1b he);rfl) | ((with_reducible apply g_dqg);rfl;rfl;rfl;rfl;(exact fun _ _ he hs=>z1c he hs);rfl) | with_reducible apply q4r | with_reducible apply g_the | ((with_reducible apply g_bx);rfl) | ((with_reducible apply g_bo);rfl) | with_reducible apply g_ret | with_reducible apply g_thr | with_reducible apply g_br);exact q4s)):Go2 n D Φ K w A E B E':=h
theorem go {a:Act} {A:Act→World→Prop} (k:∀a,EnvR n E' D a→B a w) (he:EnvR n E D a:=by exact he) (hm:Mem Φ K w:=by exact hm) (h:Go2 n D Φ K w A E B E':=by exact goGo):A a w:=h.h hm.toSees k a he
theorem goJ (r:Nat) {a:Act} {A:Act→World→Prop} (k:∀a,EnvR n E' D a→B a w) (he:EnvR n E D a:=by exact he) (hm:Mem Φ K w:=by exact hm) (h:Stop r→Go2 n D Φ K w A E B E':=by (intro hr_;(repeat first | ((with_reducible apply g_op);(exact fun _ he hs=>z4x he hs);rfl) | with_reducible apply g_nil | with_reducible apply g_thn | ((with_reducible apply g_seqJ hr_);rfl) | with_reducible apply g_reg | ((with_reducible apply g_ift);rfl) | ((with_reducible apply g_iff);rfl) | with_reducible apply q4t | with_reducible apply g_bn | with_reducible apply y7n | ((with_reducible apply g_gy);rfl;rfl;(exact fun _ he hs=>z4x he hs);rfl) | ((with_reducible apply g_gn);rfl;rfl;rfl;rfl) | ((with_reducible apply g_dq1);rfl;rfl;(exact fun _ _ he=>z1b he);rfl) | ((with_reducible apply g_dq);rfl;rfl;(exact fun _ _ he hs=>z1c he hs);rfl) | with_reducible apply g_dd | ((with_reducible apply g_dn);rfl;rfl;rfl;rfl;rfl) | ((with_reducible apply g_dne);rfl;rfl;rfl;rfl;rfl) | ((with_reducible apply q4q);rfl;rfl;rfl;rfl;(exact fun _ _ he=>z1b he);rfl) | ((with_reducible apply g_dqg);rfl;rfl;rfl;rfl;(exact fun _ _ he hs=>z1c he hs);rfl) | with_reducible apply q4r | with_reducible apply g_the | ((with_reducible apply g_bx);rfl) | ((with_reducible apply g_bo);rfl) | with_reducible apply g_ret | with_reducible apply g_thr | with_reducible apply g_br);exact q4s)):A a w:=(h trivial).h hm.toSees k a he
theorem go1 {a:Act} {A:Act→World→Prop} (k:∀a,EnvR n E' D a→B a w) (he:EnvR n E D a:=by exact he) (hm:Mem Φ K w:=by exact hm) (h:Go2 n D Φ K w A E B E':=by ((repeat first | ((with_reducible apply g_op);(exact fun _ he hs=>z4x he hs);rfl) | with_reducible apply g_nil | with_reducible apply g_thn | with_reducible apply g_seq | ((with_reducible apply g_ift);rfl) | ((with_reducible apply g_iff);rfl) | with_reducible apply q4t | with_reducible apply g_bn | with_reducible apply y7n | ((with_reducible apply g_gy);rfl;rfl;(exact fun _ he hs=>z4x he hs);rfl) | ((with_reducible apply g_gn);rfl;rfl;rfl;rfl) | ((with_reducible apply g_dq1);rfl;rfl;(exact fun _ _ he=>z1b he);rfl) | ((with_reducible apply g_dq);rfl;rfl;(exact fun _ _ he hs=>z1c he hs);rfl) | with_reducible apply g_dd | ((with_reducible apply g_dn);rfl;rfl;rfl;rfl;rfl) | ((with_reducible apply g_dne);rfl;rfl;rfl;rfl;rfl) | ((with_reducible apply q4q);rfl;rfl;rfl;rfl;(exact fun _ _ he=>z1b he);rfl) | ((with_reducible apply g_dqg);rfl;rfl;rfl;rfl;(exact fun _ _ he hs=>z1c he hs);rfl) | with_reducible apply q4r | with_reducible apply g_the | ((with_reducible apply g_bx);rfl) | ((with_reducible apply g_bo);rfl) | with_reducible apply g_ret | with_reducible apply g_thr | with_reducible apply g_br);exact q4s)):A a w:=h.h hm.toSees k a he
end
def z2d:List Res→List (Nat×Res)→List Res
 | K,[]=>K
 | K,(i,r)::l=>z2d (wK K i r) l
def z2c:List Res→List Nat→List Res
 | K,[]=>K
 | K,i::l=>z2c (gH K i) l
def y1q (K:List Res):List Nat→List Res
 | []=>[]
 | i::l=>match qJ K i with
  | some r=>r::y1q K l
  | none=>y1q K l
theorem uO {K:List Res}:∀{l:List Nat} {r:Res},r∈y1q K l→r∈K
 | [],_,h=>by cases h
 | i::l,r,h=>by
  unfold y1q at h
  split at h
  ·rename_i r' hr
   rcases List.mem_cons.1 h with rfl | h
   ·exact qH hr
   ·exact uO h
  ·exact uO h
class ZeT (t:TypeId) (cs:outParam (List Value)):Prop where h:∃z,ZeroT prog t z∧z.cells.toList=cs
instance:ZeT 3 [.int .i64 ((0:Nat):Int)]:=⟨_,zeroValue3,rfl⟩
instance:ZeT 4 [.bool false]:=⟨_,zeroValue4,rfl⟩
instance:ZeT 5 [.int .u8 ((0:Nat):Int)]:=⟨_,zeroValue5,rfl⟩
instance:ZeT 9 [.string ⟨#[]⟩]:=⟨_,zeroValue9,rfl⟩
instance:ZeT 27 [.slice none 0 0,.slice none 0 0,.slice none 0 0,.slice none 0 0]:=⟨_,zeroValue27,rfl⟩
instance:ZeT 53 [.slice none 0 0,.int .i64 ((0:Nat):Int)]:=⟨_,zeroValue53,rfl⟩
instance:ZeT 56 [.slice none 0 0]:=⟨_,zeroValue56,rfl⟩
instance:ZeT 58 [.string ⟨#[]⟩,.int .i64 ((0:Nat):Int),.slice none 0 0]:=⟨_,zeroValue58,rfl⟩
instance:ZeT 60 [.string ⟨#[]⟩,.string ⟨#[]⟩,.int .i64 ((0:Nat):Int),.slice none 0 0]:=⟨_,zeroValue60,rfl⟩
instance:ZeT 110 [.int .i64 ((0:Nat):Int),.int .i64 ((0:Nat):Int),.string ⟨#[]⟩,.slice none 0 0,.slice none 0 0]:=⟨_,zeroValue110,rfl⟩
instance:ZeT 112 [.string ⟨#[]⟩,.slice none 0 0,.string ⟨#[]⟩,.int .i64 ((0:Nat):Int),.int .i64 ((0:Nat):Int),.string ⟨#[]⟩,.slice none 0 0,.slice none 0 0]:=⟨_,zeroValue112,rfl⟩
instance:ZeT 36 [.string ⟨#[]⟩,.string ⟨#[]⟩]:=⟨_,zeroValue36,rfl⟩
instance:ZeT 96 [.pointer none]:=⟨_,zeroValue96,rfl⟩
instance:ZeT 84 [.slice none 0 0]:=⟨_,zeroValue84,rfl⟩
instance:ZeT 100 [.map none]:=⟨_,zeroValue100,rfl⟩
instance:ZeT 105 [.pointer none,.map none,.pointer none,.int .i64 ((0:Nat):Int)]:=⟨_,zeroValue105,rfl⟩
instance:ZeT 119 [.nilFunc]:=⟨_,zeroValue119,rfl⟩
instance:ZeT 324 [.pointer none,.slice none 0 0]:=⟨_,zeroValue324,rfl⟩
instance:ZeT 126 [.string ⟨#[]⟩,.slice none 0 0]:=⟨_,zeroValue126,rfl⟩
instance:ZeT 128 [.string ⟨#[]⟩,.slice none 0 0]:=⟨_,zeroValue128,rfl⟩
instance:ZeT 197 [.nilFunc]:=⟨_,zeroValue197,rfl⟩
instance:ZeT 201 [.string ⟨#[]⟩,.string ⟨#[]⟩,.slice none 0 0]:=⟨_,zeroValue201,rfl⟩
instance:ZeT 174 [.string ⟨#[]⟩,.slice none 0 0,.int .i64 ((0:Nat):Int),.int .i64 ((0:Nat):Int),.string ⟨#[]⟩,.slice none 0 0,.slice none 0 0]:=⟨_,zeroValue174,rfl⟩
instance:ZeT 257 [.int .i64 ((0:Nat):Int),.int .i64 ((0:Nat):Int)]:=⟨_,zeroValue257,rfl⟩
instance:ZeT 261 [.int .i64 ((0:Nat):Int),.int .i64 ((0:Nat):Int),.string ⟨#[]⟩,.int .i64 ((0:Nat):Int)]:=⟨_,zeroValue261,rfl⟩
instance:ZeT 303 [.int .i64 ((0:Nat):Int),.int .i64 ((0:Nat):Int)]:=⟨_,zeroValue303,rfl⟩
theorem q8g (l:List Value):(Value.agg (List.toArray l)).cells.toList=l:=rfl
theorem q8i (k:IntKind) (i:Int):(Value.int k i).cells.toList=[.int k i]:=rfl
theorem y7b (b:Bool):(Value.bool b).cells.toList=[.bool b]:=rfl
theorem q8l (s:ByteArray):(Value.string s).cells.toList=[.string s]:=rfl
theorem q8k (p:Option Addr):(Value.pointer p).cells.toList=[.pointer p]:=rfl
theorem c_sl (p:Option Addr) (n c:Nat):(Value.slice p n c).cells.toList=[.slice p n c]:=rfl
theorem q8j (b:Option Nat):(Value.map b).cells.toList=[.map b]:=rfl
theorem q8h (f:Fn) (x y:Array Value):(Value.func f x y).cells.toList=[.func f x y]:=rfl
section
variable {n:Nat} {E:List (Nat×Value)} {D:List Deferred} {a:Act} {w:World} {Φ:Fz} {K K':List Res} {d:Nat} {ty:TypeId} {pos:String} {aft:Array Edge} {rest:List Oper} {ops:Array Oper} {Q:Exit→Act→World→Prop}
theorem Mem.nf (hm:Mem Φ K w) (h:K=K':=by first | (dsimp only [wK,z2d,gH,z2c,pB,z7p];try rfl;all_goals fail) | rfl):Mem Φ K' w:=h▸hm
theorem Mem.pl {r:Res} (hm:Mem Φ K w) (i:Nat) (hk:qJ K i=some r:=by rfl) (h:r::gH K i=K':=by first | (dsimp only [wK,z2d,gH,z2c,pB,z7p];try rfl;all_goals fail) | rfl):Mem Φ K' w:=h▸hm.pull hk
theorem y5b (hm:Mem Φ K w):∀(l:List Nat),Mem Φ (z2c K l) w:=fun l=>by
 induction l generalizing K with
 | nil=>exact hm
 | cons i l ih=>exact ih (hm.del i)
theorem Mem.dl (hm:Mem Φ K w) (l:List Nat) (h:z2c K l=K':=by first | (dsimp only [wK,z2d,gH,z2c,pB,z7p];try rfl;all_goals fail) | rfl):Mem Φ K' w:=h▸y5b hm l
theorem qB {id:Nat} {l:List Oper} (kd:List Nat) (p:Plan) (is:List Nat) (he:EnvR n E D a) (hm:Mem Φ K w) (h:∀w,Mem Φ K w→zW prog .any l.toArray (Sees Φ (y1q K is)) kd (fun c w=>∀a,a.defers=D→Q (.panic c) a w) (Q .normal) p a w)
  (hB:z2u l.toArray kd p=true:=by kernel_rfl):(Code.region id l.toArray true).wp prog Q a w:=aC kd p _ he hm mixed hB (fun r hr=>uO hr) h
theorem Mem.sn {Ψ:Fz} {X:List Res} (hm:Mem Ψ K w) (hl:Φ.Le Ψ) (hK:∀r∈X,r∈K:=by first | (simp [y1q,qJ,wK,z2d,gH,z2c,pB,z7p];all_goals fail) | fail):Sees Φ X w:=hm.seesIn hl hK
theorem qY (l:List Bs) (x:Bs):strs l++[.string x]=strs (l++[x]):=by rw [qU];rfl
end
structure AtE (n:Nat) (D:List Deferred) (Φ:Fz) (K:List Res) (w:World) (A:Act→World→Prop) (E E':List (Nat×Value)) (d:Nat) (op:Op) (S:World→Prop) (B:Act→World→Prop) (Qp:List PanicEntry→World→Prop):Prop where
 h:Sees Φ K w→(∀a ty pos aft g,EnvR n E' D a→Oper.eff prog ⟨some d,op,ty,pos,aft,g⟩ a w (fun v w'=>S w'∧∀a,EnvR n ((d,v)::E') D a→B a w') Qp)→∀a,EnvR n E D a→A a w
structure AtE0 (n:Nat) (D:List Deferred) (Φ:Fz) (K:List Res) (w:World) (A:Act→World→Prop) (E E':List (Nat×Value)) (op:Op) (S:World→Prop) (B:Act→World→Prop) (Qp:List PanicEntry→World→Prop):Prop where
 h:Sees Φ K w→(∀a ty pos aft g,EnvR n E' D a→Oper.eff prog ⟨none,op,ty,pos,aft,g⟩ a w (fun _ w'=>S w'∧∀a,EnvR n E' D a→B a w') Qp)→∀a,EnvR n E D a→A a w
structure AtQ (n:Nat) (D:List Deferred) (Φ:Fz) (K:List Res) (w:World) (A:Act→World→Prop) (E E':List (Nat×Value)) (d:Nat) (op:Op) (W:World→Prop) (B:Act→World→Prop):Prop where
 h:Sees Φ K w→∀v,(∀a ty w,EnvR n E' D a→W w→Ok prog a op ty w v)→(∀a,EnvR n ((d,v)::E') D a→B a w)→∀a,EnvR n E D a→A a w
section
variable {n:Nat} {D:List Deferred} {Φ Φ':Fz} {K K':List Res} {w:World} {A B B0 q:Act→World→Prop} {E E' E1:List (Nat×Value)} {d i j t:Nat} {b:Bool} {op:Op} {S W B':World→Prop} {Qp:List PanicEntry→World→Prop} {ty:TypeId} {pos:String} {aft:Array Edge} {rest:List Oper} {ops:Array Oper} {Q:Exit→Act→World→Prop} {kd:List Nat} {p:Plan}
theorem e_go (h1:Go2 n D Φ K w A E B0 E1) (h2:AtE n D Φ K w B0 E1 E' d op S B Qp):AtE n D Φ K w A E E' d op S B Qp:=⟨fun hs k a he=>h1.h hs (fun a he=>h2.h hs k a he) a he⟩
theorem e0_go (h1:Go2 n D Φ K w A E B0 E1) (h2:AtE0 n D Φ K w B0 E1 E' op S B Qp):AtE0 n D Φ K w A E E' op S B Qp:=⟨fun hs k a he=>h1.h hs (fun a he=>h2.h hs k a he) a he⟩
theorem q_go (h1:Go2 n D Φ K w A E B0 E1) (h2:AtQ n D Φ K w B0 E1 E' d op W B):AtQ n D Φ K w A E E' d op W B:=⟨fun hs v ho k a he=>h1.h hs (fun a he=>h2.h hs v ho k a he) a he⟩
theorem e_st (hd:Nat.blt d n=true):AtE n D Φ K w (wpList prog ops Q (⟨some d,op,ty,pos,aft,none⟩::rest)) E E d op (fun _=>True) (wpList prog ops Q rest) (fun c w'=>∀a,a.defers=D→Q (.panic c) a w') :=
 ⟨fun _ h a he=>st he rfl hd rfl (jZ (h a ty pos aft none he) (fun _ _ h=>h.2) (fun _ _ h=>h))⟩
theorem e_gy (hj:ops[j]?.bind (·.dst)=some t) (hv:get E t=some (.bool b)) (hd:Nat.blt d n=true):AtE n D Φ K w (wpList prog ops Q (⟨some d,op,ty,pos,aft,some (j,b)⟩::rest)) E E d op (fun _=>True) (wpList prog ops Q rest) (fun c w'=>∀a,a.defers=D→Q (.panic c) a w') :=
 ⟨fun _ h a he=>g_yes he rfl rfl hd hj hv (jZ (h a ty pos aft (some (j,b)) he) (fun _ _ h=>h.2) (fun _ _ h=>h))⟩
theorem e_dp (hi:ops[i]? = some ⟨some d,op,ty,pos,aft,none⟩) (hk:qA kd i=0) (hd:Nat.blt d n=true):AtE n D Φ K w (zW prog .any ops B' kd Qp q (.e i p)) E E d op (fun w'=>cY .any kd ⟨some d,op,ty,pos,aft,none⟩=true→B' w') (zW prog .any ops B' kd Qp q p) Qp :=
 ⟨fun _ h a he=>d_e he hi hk hd (h a ty pos aft none he)⟩
theorem e_dg (hi:ops[i]? = some ⟨some d,op,ty,pos,aft,some (j,b)⟩) (hj:ops[j]?.bind (·.dst)=some t) (hv:get E t=some (.bool b)) (hk:qA kd i=0) (hd:Nat.blt d n=true):AtE n D Φ K w (zW prog .any ops B' kd Qp q (.e i p)) E E d op (fun w'=>cY .any kd ⟨some d,op,ty,pos,aft,some (j,b)⟩=true→B' w') (zW prog .any ops B' kd Qp q p) Qp :=
 ⟨fun _ h a he=>d_eg he hi hj hv hk hd (h a ty pos aft (some (j,b)) he)⟩
theorem e0_st:AtE0 n D Φ K w (wpList prog ops Q (⟨none,op,ty,pos,aft,none⟩::rest)) E E op (fun _=>True) (wpList prog ops Q rest) (fun c w'=>∀a,a.defers=D→Q (.panic c) a w') :=
 ⟨fun _ h a he=>st0 he rfl rfl (jZ (h a ty pos aft none he) (fun _ _ h=>h.2) (fun _ _ h=>h))⟩
theorem e0_gy (hj:ops[j]?.bind (·.dst)=some t) (hv:get E t=some (.bool b)):AtE0 n D Φ K w (wpList prog ops Q (⟨none,op,ty,pos,aft,some (j,b)⟩::rest)) E E op (fun _=>True) (wpList prog ops Q rest) (fun c w'=>∀a,a.defers=D→Q (.panic c) a w') :=
 ⟨fun _ h a he=>g_yes0 he rfl rfl hj hv (jZ (h a ty pos aft (some (j,b)) he) (fun _ _ h=>h.2) (fun _ _ h=>h))⟩
theorem e0_dp (hi:ops[i]? = some ⟨none,op,ty,pos,aft,none⟩) (hk:qA kd i=0):AtE0 n D Φ K w (zW prog .any ops B' kd Qp q (.e i p)) E E op (fun w'=>cY .any kd ⟨none,op,ty,pos,aft,none⟩=true→B' w') (zW prog .any ops B' kd Qp q p) Qp :=
 ⟨fun _ h a he=>vM he hi hk (h a ty pos aft none he)⟩
theorem q_st (hd:Nat.blt d n=true):AtQ n D Φ K w (wpList prog ops Q (⟨some d,op,ty,pos,aft,none⟩::rest)) E E d op (Sees Φ K) (wpList prog ops Q rest):=⟨fun hs _ ho k a he=>jG he (ho a ty w he hs) hd k⟩
theorem q_gy (hj:ops[j]?.bind (·.dst)=some t) (hv:get E t=some (.bool b)) (hd:Nat.blt d n=true):AtQ n D Φ K w (wpList prog ops Q (⟨some d,op,ty,pos,aft,some (j,b)⟩::rest)) E E d op (Sees Φ K) (wpList prog ops Q rest):=⟨fun hs _ ho k a he=>g_yes he rfl rfl hd hj hv (vN (ho a ty w he hs) k)⟩
theorem q_d1 (hi:ops[i]? = some ⟨some d,op,ty,pos,aft,none⟩) (hk:qA kd i=1) (hd:Nat.blt d n=true):AtQ n D Φ K w (zW prog .any ops B' kd Qp q (.q i p)) E E d op (fun _=>True) (zW prog .any ops B' kd Qp q p):=⟨fun _ _ ho k a he=>z8v he hi hk (fun w=>ho a ty w he trivial) hd k⟩
theorem q_d2 (hi:ops[i]? = some ⟨some d,op,ty,pos,aft,none⟩) (hk:qA kd i=2) (hd:Nat.blt d n=true):AtQ n D Φ K w (zW prog .any ops B' kd Qp q (.q i p)) E E d op B' (zW prog .any ops B' kd Qp q p):=⟨fun _ _ ho k a he=>d_q he hi hk (fun w hw=>ho a ty w he hw) hd k⟩
theorem q_d1g (hi:ops[i]? = some ⟨some d,op,ty,pos,aft,some (j,b)⟩) (hj:ops[j]?.bind (·.dst)=some t) (hv:get E t=some (.bool b)) (hk:qA kd i=1) (hd:Nat.blt d n=true):AtQ n D Φ K w (zW prog .any ops B' kd Qp q (.q i p)) E E d op (fun _=>True) (zW prog .any ops B' kd Qp q p):=⟨fun _ _ ho k a he=>d_qg1 he hi hj hv hk (fun w=>ho a ty w he trivial) hd k⟩
theorem q_d2g (hi:ops[i]? = some ⟨some d,op,ty,pos,aft,some (j,b)⟩) (hj:ops[j]?.bind (·.dst)=some t) (hv:get E t=some (.bool b)) (hk:qA kd i=2) (hd:Nat.blt d n=true):AtQ n D Φ K w (zW prog .any ops B' kd Qp q (.q i p)) E E d op B' (zW prog .any ops B' kd Qp q p):=⟨fun _ _ ho k a he=>d_qg he hi hj hv hk (fun w hw=>ho a ty w he hw) hd k⟩
end
def q1z:List Nat→Nat→Nat
 | [],_=>0
 | x::_,0=>x
 | _::l,i+1=>q1z l i
def setAt:List Value→Nat→Value→List Value
 | [],_,_=>[]
 | _::l,0,v=>v::l
 | x::l,i+1,v=>x::setAt l i v
def q6f (zs:List Value) (os:List Nat):List (Nat×Value)→List Value
 | []=>zs
 | (i,v)::l=>q6f (setAt zs (q1z os i) v) os l
def q9k (zs:List Value) (os:List Nat):List (Nat×Value)→List Value
 | []=>zs
 | (i,v)::l=>q9k (pB zs (q1z os i) v.cells.toList) os l
def q0o (E:List (Nat×Value)):List Nat→Option (List (Nat×Value))
 | []=>some []
 | t::l=>match get E t,q0o E l with
  | some v,some r=>some ((t,v)::r)
  | _,_=>none
theorem y4j {E:List (Nat×Value)}:∀{ks:List Nat} {E1:List (Nat×Value)},q0o E ks=some E1→∀t v,get E1 t=some v→get E t=some v
 | [],E1,h,t,v,hv=>by simp only [q0o,Option.some.injEq] at h;subst h;cases hv
 | k::ks,E1,h,t,v,hv=>by
  simp only [q0o] at h
  split at h
  ·rename_i u r h1 h2
   simp only [Option.some.injEq] at h
   subst h
   rcases kA hv with ⟨rfl,rfl⟩ | ⟨_,hv⟩
   ·exact h1
   ·exact y4j h2 t v hv
  ·cases h
def eput:List (Nat×Value)→List (Nat×Value)→List (Nat×Value)
 | [],E=>E
 | x::X,E=>x::eput X E
def q1n:List Res→Nat→Option (Res×List Res)
 | [],_=>none
 | r::K,0=>some (r,K)
 | r::K,i+1=>match q1n K i with
  | some (x,K')=>some (x,r::K')
  | none=>none
theorem j2b {K:List Res} {i:Nat} {r:Res} {K':List Res} (h:q1n K i=some (r,K')):qJ K i=some r∧K'=gH K i:=by
 induction K generalizing i K' with
 | nil=>cases h
 | cons x K ih=>cases i with
  | zero=>simp only [q1n,Option.some.injEq,Prod.mk.injEq] at h;exact ⟨by rw [← h.1];rfl,h.2.symm⟩
  | succ i =>
   simp only [q1n] at h
   split at h
   ·rename_i y K1 h1
    simp only [Option.some.injEq,Prod.mk.injEq] at h
    obtain ⟨rfl,rfl⟩:=h
    obtain ⟨h2,rfl⟩:=ih h1
    exact ⟨h2,rfl⟩
   ·cases h
def y0g:List Res→List Nat→Option (List Res)
 | K,[]=>some K
 | K,i::l=>match q1n K i with
  | some (r,K')=>y0g (r::K') l
  | none=>none
theorem q5e {Φ:Fz} {K K':List Res} {w:World} (l:List Nat) (h:y0g K l=some K') (hm:Mem Φ K w):Mem Φ K' w:=by
 induction l generalizing K with
 | nil=>simp only [y0g,Option.some.injEq] at h;exact h▸hm
 | cons i l ih =>
  simp only [y0g] at h
  split at h
  ·rename_i r K1 h1
   obtain ⟨h2,rfl⟩:=j2b h1
   exact ih h (hm.pull h2)
  ·cases h
def flat:List (Nat×Value)→List Value
 | []=>[]
 | (_,v)::l=>v.cells.toList++flat l
def planOp:Nat→Nat→Plan→Plan
 | 0,i,p=>.e i p
 | _+1,i,p=>.q i p
class BzT (t:TypeId) (zs:outParam (List Value)) (os:outParam (List Nat)):Prop where h:True
instance:BzT 117 [.slice none 0 0,.slice none 0 0,.slice none 0 0,.slice none 0 0,.map none,.map none,.map none,.map none] [0,4,5,6,7]:=⟨trivial⟩
instance:BzT 126 [.string ⟨#[]⟩,.slice none 0 0] [0,1]:=⟨trivial⟩
instance:BzT 128 [.string ⟨#[]⟩,.slice none 0 0] [0,1]:=⟨trivial⟩
instance:BzT 160 [] []:=⟨trivial⟩
instance:BzT 164 [.string ⟨#[]⟩,.string ⟨#[]⟩,.int .i64 ((0:Nat):Int),.slice none 0 0,.pointer none] [0,1,4]:=⟨trivial⟩
instance:BzT 201 [.string ⟨#[]⟩,.string ⟨#[]⟩,.slice none 0 0] [0,1]:=⟨trivial⟩
instance:BzT 174 [.string ⟨#[]⟩,.slice none 0 0,.int .i64 ((0:Nat):Int),.int .i64 ((0:Nat):Int),.string ⟨#[]⟩,.slice none 0 0,.slice none 0 0] [0,1,2]:=⟨trivial⟩
instance:BzT 206 [.int .i64 ((0:Nat):Int)] [0]:=⟨trivial⟩
instance:BzT 210 [.slice none 0 0,.int .i64 ((0:Nat):Int)] [0,1]:=⟨trivial⟩
instance:BzT 27 [.slice none 0 0,.slice none 0 0,.slice none 0 0,.slice none 0 0] [0,1,2,3]:=⟨trivial⟩
instance:BzT 257 [.int .i64 ((0:Nat):Int),.int .i64 ((0:Nat):Int)] [0,1]:=⟨trivial⟩
instance:BzT 261 [.int .i64 ((0:Nat):Int),.int .i64 ((0:Nat):Int),.string ⟨#[]⟩,.int .i64 ((0:Nat):Int)] [0,1,2,3]:=⟨trivial⟩
instance:BzT 274 [.int .u64 ((0:Nat):Int),.int .u64 ((0:Nat):Int),.int .u64 ((0:Nat):Int),.int .u64 ((0:Nat):Int),.int .u64 ((0:Nat):Int),.int .u64 ((0:Nat):Int),.int .u64 ((0:Nat):Int),.int .u64 ((0:Nat):Int),.int .u64 ((0:Nat):Int),.int .u64 ((0:Nat):Int),.int .u64 ((0:Nat):Int),.int .u64 ((0:Nat):Int),.int .u64 ((0:Nat):Int),.int .u64 ((0:Nat):Int),.int .u64 ((0:Nat):Int),.int .u64 ((0:Nat):Int),.int .u64 ((0:Nat):Int),.int .u64 ((0:Nat):Int),.int .u64 ((0:Nat):Int),.int .u64 ((0:Nat):Int)] [0,1,2,3,4,5,6,7,8,9,10,11,12,13,14,15,16,17,18,19]:=⟨trivial⟩
instance:BzT 285 [.string ⟨#[]⟩,.int .i64 ((0:Nat):Int)] [0,1]:=⟨trivial⟩
instance:BzT 53 [.slice none 0 0,.int .i64 ((0:Nat):Int)] [0,1]:=⟨trivial⟩
instance:BzT 289 [.string ⟨#[]⟩,.int .i64 ((0:Nat):Int),.map none,.slice none 0 0] [0,2,3]:=⟨trivial⟩
instance:BzT 290 [.string ⟨#[]⟩,.string ⟨#[]⟩,.string ⟨#[]⟩,.string ⟨#[]⟩,.string ⟨#[]⟩,.string ⟨#[]⟩,.string ⟨#[]⟩,.string ⟨#[]⟩,.string ⟨#[]⟩,.string ⟨#[]⟩,.string ⟨#[]⟩,.string ⟨#[]⟩,.string ⟨#[]⟩,.string ⟨#[]⟩,.string ⟨#[]⟩] [0,1,2,3,4,5,6,7,8,9,10,11,12,13,14]:=⟨trivial⟩
instance:BzT 303 [.int .i64 ((0:Nat):Int),.int .i64 ((0:Nat):Int)] [0,1]:=⟨trivial⟩
instance:BzT 299 [.int .u8 ((0:Nat):Int),.int .u8 ((0:Nat):Int),.int .u8 ((0:Nat):Int),.int .u8 ((0:Nat):Int),.int .u8 ((0:Nat):Int),.int .u8 ((0:Nat):Int),.int .u8 ((0:Nat):Int),.int .u8 ((0:Nat):Int),.int .u8 ((0:Nat):Int),.int .u8 ((0:Nat):Int),.int .u8 ((0:Nat):Int),.int .u8 ((0:Nat):Int),.int .u8 ((0:Nat):Int),.int .u8 ((0:Nat):Int),.int .u8 ((0:Nat):Int),.int .u8 ((0:Nat):Int),.int .u8 ((0:Nat):Int),.int .u8 ((0:Nat):Int),.int .u8 ((0:Nat):Int),.int .u8 ((0:Nat):Int),.int .u8 ((0:Nat):Int),.int .u8 ((0:Nat):Int),.int .u8 ((0:Nat):Int),.int .u8 ((0:Nat):Int),.int .u8 ((0:Nat):Int),.int .u8 ((0:Nat):Int),.int .u8 ((0:Nat):Int),.int .u8 ((0:Nat):Int),.int .u8 ((0:Nat):Int),.int .u8 ((0:Nat):Int),.int .u8 ((0:Nat):Int),.int .u8 ((0:Nat):Int)] [0,1,2,3,4,5,6,7,8,9,10,11,12,13,14,15,16,17,18,19,20,21,22,23,24,25,26,27,28,29,30,31]:=⟨trivial⟩
instance:BzT 300 [.int .u8 ((0:Nat):Int),.int .u8 ((0:Nat):Int),.int .u8 ((0:Nat):Int),.int .u8 ((0:Nat):Int),.int .u8 ((0:Nat):Int),.int .u8 ((0:Nat):Int),.int .u8 ((0:Nat):Int),.int .u8 ((0:Nat):Int),.int .u8 ((0:Nat):Int),.int .u8 ((0:Nat):Int),.int .u8 ((0:Nat):Int),.int .u8 ((0:Nat):Int),.int .u8 ((0:Nat):Int),.int .u8 ((0:Nat):Int),.int .u8 ((0:Nat):Int),.int .u8 ((0:Nat):Int),.int .u8 ((0:Nat):Int),.int .u8 ((0:Nat):Int),.int .u8 ((0:Nat):Int),.int .u8 ((0:Nat):Int),.int .u8 ((0:Nat):Int),.int .u8 ((0:Nat):Int),.int .u8 ((0:Nat):Int),.int .u8 ((0:Nat):Int),.int .u8 ((0:Nat):Int),.int .u8 ((0:Nat):Int),.int .u8 ((0:Nat):Int),.int .u8 ((0:Nat):Int),.int .u8 ((0:Nat):Int),.int .u8 ((0:Nat):Int),.int .u8 ((0:Nat):Int),.int .u8 ((0:Nat):Int),.int .u8 ((0:Nat):Int),.int .u8 ((0:Nat):Int),.int .u8 ((0:Nat):Int),.int .u8 ((0:Nat):Int),.int .u8 ((0:Nat):Int),.int .u8 ((0:Nat):Int),.int .u8 ((0:Nat):Int),.int .u8 ((0:Nat):Int),.int .u8 ((0:Nat):Int),.int .u8 ((0:Nat):Int),.int .u8 ((0:Nat):Int),.int .u8 ((0:Nat):Int),.int .u8 ((0:Nat):Int),.int .u8 ((0:Nat):Int),.int .u8 ((0:Nat):Int),.int .u8 ((0:Nat):Int),.int .u8 ((0:Nat):Int),.int .u8 ((0:Nat):Int),.int .u8 ((0:Nat):Int),.int .u8 ((0:Nat):Int),.int .u8 ((0:Nat):Int),.int .u8 ((0:Nat):Int),.int .u8 ((0:Nat):Int),.int .u8 ((0:Nat):Int),.int .u8 ((0:Nat):Int),.int .u8 ((0:Nat):Int),.int .u8 ((0:Nat):Int),.int .u8 ((0:Nat):Int),.int .u8 ((0:Nat):Int),.int .u8 ((0:Nat):Int),.int .u8 ((0:Nat):Int),.int .u8 ((0:Nat):Int)] [0,1,2,3,4,5,6,7,8,9,10,11,12,13,14,15,16,17,18,19,20,21,22,23,24,25,26,27,28,29,30,31,32,33,34,35,36,37,38,39,40,41,42,43,44,45,46,47,48,49,50,51,52,53,54,55,56,57,58,59,60,61,62,63]:=⟨trivial⟩
instance:BzT 310 [.string ⟨#[]⟩,.string ⟨#[]⟩,.nilIface] [0,1,2]:=⟨trivial⟩
instance:BzT 320 [.string ⟨#[]⟩] [0]:=⟨trivial⟩
instance:BzT 333 [.int .u8 ((0:Nat):Int),.int .u8 ((0:Nat):Int)] [0,1]:=⟨trivial⟩
instance:BzT 334 [.int .u8 ((0:Nat):Int),.int .u8 ((0:Nat):Int),.int .u8 ((0:Nat):Int),.int .u8 ((0:Nat):Int),.int .u8 ((0:Nat):Int),.int .u8 ((0:Nat):Int),.int .u8 ((0:Nat):Int),.int .u8 ((0:Nat):Int),.int .u8 ((0:Nat):Int),.int .u8 ((0:Nat):Int),.int .u8 ((0:Nat):Int),.int .u8 ((0:Nat):Int),.int .u8 ((0:Nat):Int),.int .u8 ((0:Nat):Int),.int .u8 ((0:Nat):Int),.int .u8 ((0:Nat):Int),.int .u8 ((0:Nat):Int),.int .u8 ((0:Nat):Int),.int .u8 ((0:Nat):Int),.int .u8 ((0:Nat):Int),.int .u8 ((0:Nat):Int),.int .u8 ((0:Nat):Int),.int .u8 ((0:Nat):Int),.int .u8 ((0:Nat):Int),.int .u8 ((0:Nat):Int),.int .u8 ((0:Nat):Int),.int .u8 ((0:Nat):Int),.int .u8 ((0:Nat):Int),.int .u8 ((0:Nat):Int),.int .u8 ((0:Nat):Int),.int .u8 ((0:Nat):Int),.int .u8 ((0:Nat):Int)] [0,2,4,6,8,10,12,14,16,18,20,22,24,26,28,30]:=⟨trivial⟩
instance:BzT 58 [.string ⟨#[]⟩,.int .i64 ((0:Nat):Int),.slice none 0 0] [0,1,2]:=⟨trivial⟩
instance:BzT 60 [.string ⟨#[]⟩,.string ⟨#[]⟩,.int .i64 ((0:Nat):Int),.slice none 0 0] [0,1]:=⟨trivial⟩
instance:BzT 110 [.int .i64 ((0:Nat):Int),.int .i64 ((0:Nat):Int),.string ⟨#[]⟩,.slice none 0 0,.slice none 0 0] [0,1,2,3,4]:=⟨trivial⟩
instance:BzT 112 [.string ⟨#[]⟩,.slice none 0 0,.string ⟨#[]⟩,.int .i64 ((0:Nat):Int),.int .i64 ((0:Nat):Int),.string ⟨#[]⟩,.slice none 0 0,.slice none 0 0] [0,1,2,3]:=⟨trivial⟩
instance:BzT 36 [.string ⟨#[]⟩,.string ⟨#[]⟩] [0,1]:=⟨trivial⟩
instance:BzT 105 [.pointer none,.map none,.pointer none,.int .i64 ((0:Nat):Int)] [0,1,2,3]:=⟨trivial⟩
def y8v:Nat→List Nat→Plan
 | _,[]=>.done
 | i,k::l=>planOp k i (y8v (i+1) l)
section
variable {n:Nat} {D:List Deferred} {Φ Φ':Fz} {K K':List Res} {a:Act} {w:World} {A B:Act→World→Prop} {E E':List (Nat×Value)} {d:Nat} {b:Bool} {op:Op} {S W:World→Prop} {Qp:List PanicEntry→World→Prop} {f:FuncId} {X:Value} {xs:Array Operand} {ts:Array TypeId} {vs fs cs:List Value} {y0:Operand} {R:Ending→World→Prop}
theorem nfK {K K':List Res} (h:K=K':=by first | (dsimp only [wK,z2d,gH,z2c,pB,z7p];try rfl;all_goals fail) | rfl):K=K':=h
theorem lnS {S:Prop} (h:S:=by first | exact trivial | (intro hl;first | exact hm.sn (Fz.Le.refl _) | exact hm.sn (by first | assumption | exact Fz.Le.trans (by assumption) (by assumption)) | exact zY (by kernel_rfl) hl)):S:=h
theorem lnG {S:Prop} (h:S:=by first | exact trivial | (intro hl;first | exact hm.sn (Fz.Le.refl _) | exact hm.sn hG | exact hm.sn hG.1 | exact hm.sn (Fz.Le.trans (by assumption) hG) | exact hm.sn (Fz.Le.trans (by assumption) hG.1) | exact hm.sn (by first | assumption | exact Fz.Le.trans (by assumption) (by assumption)) | exact zY (by kernel_rfl) hl)):S:=h
theorem cellsC {v:Value} (h:v.cells.toList=vs:=by first | with_reducible exact q8g _ | with_reducible exact q8i _ _ | with_reducible exact y7b _ | with_reducible exact q8l _ | with_reducible exact q8k _ | with_reducible exact c_sl _ _ _ | with_reducible exact q8j _ | with_reducible exact q8h _ _ _ | exact Sees.gsCells (i:=0) hm.toSees rfl | exact Sees.gsCells (i:=1) hm.toSees rfl | exact Sees.gsCells (i:=2) hm.toSees rfl | exact Sees.gsCells (i:=3) hm.toSees rfl | exact Sees.gsCells (i:=4) hm.toSees rfl | exact Sees.gsCells (i:=5) hm.toSees rfl | exact Sees.gsCells (i:=6) hm.toSees rfl | exact Sees.gsCells (i:=7) hm.toSees rfl | exact Sees.gsCells (i:=8) hm.toSees rfl | exact Sees.gsCells (i:=9) hm.toSees rfl | exact Sees.gsCells (i:=10) hm.toSees rfl | exact Sees.gsCells (i:=11) hm.toSees rfl | exact q8g _ | exact q8i _ _ | exact y7b _ | exact q8l _ | exact q8k _ | exact c_sl _ _ _ | exact q8j _ | exact q8h _ _ _):v.cells.toList=vs:=h
theorem oneC (h:vs.all Value.oneCell'=true:=by first | rfl | exact Sees.gsOne (i:=0) hm.toSees rfl | exact Sees.gsOne (i:=1) hm.toSees rfl | exact Sees.gsOne (i:=2) hm.toSees rfl | exact Sees.gsOne (i:=3) hm.toSees rfl | exact Sees.gsOne (i:=4) hm.toSees rfl | exact Sees.gsOne (i:=5) hm.toSees rfl | exact Sees.gsOne (i:=6) hm.toSees rfl | exact Sees.gsOne (i:=7) hm.toSees rfl | exact Sees.gsOne (i:=8) hm.toSees rfl | exact Sees.gsOne (i:=9) hm.toSees rfl | exact Sees.gsOne (i:=10) hm.toSees rfl | exact Sees.gsOne (i:=11) hm.toSees rfl):vs.all Value.oneCell'=true:=h
theorem aG (hE:AtE n D Φ K w A E E' d op S B Qp:=by ((with_reducible apply e_go);(exact goGo);first | ((with_reducible apply e_st);rfl) | ((with_reducible apply e_dp);rfl;rfl;rfl) | ((with_reducible apply e_gy);rfl;rfl;rfl) | ((with_reducible apply e_dg);rfl;rfl;rfl;rfl;rfl))):AtE n D Φ K w A E E' d op S B Qp:=hE
theorem atAct0 (hE:AtE0 n D Φ K w A E E' op S B Qp:=by ((with_reducible apply e0_go);(exact goGo);first | (with_reducible apply e0_st) | ((with_reducible apply e0_dp);rfl;rfl) | ((with_reducible apply e0_gy);rfl;rfl) | ((with_reducible apply e0_dg);rfl;rfl;rfl;rfl))):AtE0 n D Φ K w A E E' op S B Qp:=hE
theorem q3v (hE:AtQ n D Φ K w A E E' d op W B:=by ((with_reducible apply q_go);(exact goGo);first | ((with_reducible apply q_st);rfl) | ((with_reducible apply q_d1);rfl;rfl;rfl) | ((with_reducible apply q_d2);rfl;rfl;rfl) | ((with_reducible apply q_gy);rfl;rfl;rfl) | ((with_reducible apply q_d1g);rfl;rfl;rfl;rfl;rfl) | ((with_reducible apply q_d2g);rfl;rfl;rfl;rfl;rfl))):AtQ n D Φ K w A E E' d op W B:=hE
theorem zZ (hf:∀args w,(callFunc f args).run prog w=.ok (.enter f args) w) (k:∀w,Mem Φ' K' w→∀a,EnvR n ((d,X)::E') D a→B a w) (he:EnvR n E D a:=by exact he) (hm:Mem Φ K w:=by exact hm) (hE:AtE n D Φ K w A E E' d (.call { callee:=.value (.func f),args:=xs,argTypes:=ts }) S B Qp:=by exact aG) (hx:evs E' xs.toList=some vs:=by rfl) (c:Calls prog f vs.toArray w (fun e w'=>e=.returned X∧Mem Φ' K' w')) (hS:∀w,Mem Φ' K' w→S w:=by intro w hm;exact lnS):A a w :=
 hE.h hm.toSees (fun a ty pos aft g he=>gP he hx hf c fun w hm=>⟨hS w hm,fun a he=>k w hm a he⟩) a he
theorem yK (hf:∀args w,(callFunc f args).run prog w=.ok (.enter f args) w) (kt:b=true→∀w,Mem Φ' K' w→∀a,EnvR n ((d,.bool true)::E') D a→B a w) (kf:b=false→∀w,Mem Φ' K' w→∀a,EnvR n ((d,.bool false)::E') D a→B a w) (he:EnvR n E D a:=by exact he) (hm:Mem Φ K w:=by exact hm) (hE:AtE n D Φ K w A E E' d (.call { callee:=.value (.func f),args:=xs,argTypes:=ts }) S B Qp:=by exact aG) (hx:evs E' xs.toList=some vs:=by rfl) (c:Calls prog f vs.toArray w (fun e w'=>e=.returned (.bool b)∧Mem Φ' K' w')) (hS:∀w,Mem Φ' K' w→S w:=by intro w hm;exact lnS):A a w :=
 hE.h hm.toSees (fun a ty pos aft g he=>j0w he hx hf c (fun hb w hm=>⟨hS w hm,fun a he=>kt hb w hm a he⟩) (fun hb w hm=>⟨hS w hm,fun a he=>kf hb w hm a he⟩)) a he
theorem y6w (hf:∀args w,(callFunc f args).run prog w=.ok (.enter f args) w) (k:∀w,Mem Φ' K' w→∀a,EnvR n ((d,X)::E') D a→B a w) (he:EnvR n E D a:=by exact he) (hm:Mem Φ K w:=by exact hm) (hE:AtE n D Φ K w A E E' d (.call { callee:=.value y0,args:=xs,argTypes:=ts }) S B Qp:=by exact aG) (hy:ev E' y0=some (.func (.func f) fs.toArray cs.toArray):=by rfl) (hx:evs E' xs.toList=some vs:=by rfl) (c:Calls prog f (fs++vs++cs).toArray w (fun e w'=>e=.returned X∧Mem Φ' K' w')) (hS:∀w,Mem Φ' K' w→S w:=by intro w hm;exact lnS):A a w :=
 hE.h hm.toSees (fun a ty pos aft g he=>z8z he hy hx hf c fun w hm=>⟨hS w hm,fun a he=>k w hm a he⟩) a he
theorem z8e (hf:∀args w,(callFunc f args).run prog w=.ok (.enter f args) w) (kt:b=true→∀w,Mem Φ' K' w→∀a,EnvR n ((d,.bool true)::E') D a→B a w) (kf:b=false→∀w,Mem Φ' K' w→∀a,EnvR n ((d,.bool false)::E') D a→B a w) (he:EnvR n E D a:=by exact he) (hm:Mem Φ K w:=by exact hm) (hE:AtE n D Φ K w A E E' d (.call { callee:=.value y0,args:=xs,argTypes:=ts }) S B Qp:=by exact aG) (hy:ev E' y0=some (.func (.func f) fs.toArray cs.toArray):=by rfl) (hx:evs E' xs.toList=some vs:=by rfl) (c:Calls prog f (fs++vs++cs).toArray w (fun e w'=>e=.returned (.bool b)∧Mem Φ' K' w')) (hS:∀w,Mem Φ' K' w→S w:=by intro w hm;exact lnS):A a w :=
 hE.h hm.toSees (fun a ty pos aft g he=>q4k he hy hx hf c (fun hb w hm=>⟨hS w hm,fun a he=>kt hb w hm a he⟩) (fun hb w hm=>⟨hS w hm,fun a he=>kf hb w hm a he⟩)) a he
theorem jF {β:Type} {X:β→Value} {F1:β→Fz} {KO:β→List Res} {G:β→Prop} (hf:∀args w,(callFunc f args).run prog w=.ok (.enter f args) w) (k:∀y w,G y→Mem (F1 y) (KO y) w→∀a,EnvR n ((d,X y)::E') D a→B a w) (he:EnvR n E D a:=by exact he) (hm:Mem Φ K w:=by exact hm) (hE:AtE n D Φ K w A E E' d (.call { callee:=.value (.func f),args:=xs,argTypes:=ts }) S B Qp:=by exact aG) (hx:evs E' xs.toList=some vs:=by rfl) (c:Calls prog f vs.toArray w (fun e w'=>∃y,e=.returned (X y)∧G y∧Mem (F1 y) (KO y) w')) (hS:∀y w,G y→Mem (F1 y) (KO y) w→S w:=by intro y w hG hm;exact lnG):A a w :=
 hE.h hm.toSees (fun a ty pos aft g he=>qS he hx hf c fun y w hG hm=>⟨hS y w hG hm,fun a he=>k y w hG hm a he⟩) a he
theorem qZ {α ε:Type} {r:Except ε α} {X:α→Value} {C:ε→List PanicEntry} {Φ1 Φ2:Fz} {KO:α→List Res} {KE:List Res} (hf:∀args w,(callFunc f args).run prog w=.ok (.enter f args) w) (k:∀x w,r=.ok x→Mem Φ1 (KO x) w→∀a,EnvR n ((d,X x)::E') D a→B a w) (kp:∀c w,r=.error c→Mem Φ2 KE w→R (.panicked (C c)) w) {fn:Func} {Q0:Exit→Act→World→Prop} (hQ:∀e a w,bodyPost prog fn R e a w→Q0 e a w:=by exact hQ) (he:EnvR n E D a:=by exact he) (hm:Mem Φ K w:=by exact hm) (hE:AtE n D Φ K w A E E' d (.call { callee:=.value (.func f),args:=xs,argTypes:=ts }) S B Qp:=by exact aG) (hx:evs E' xs.toList=some vs:=by rfl)
  (c:Calls prog f vs.toArray w (fun e w'=>Out r (fun x=>e=.returned (X x)∧Mem Φ1 (KO x) w') (fun c=>e=.panicked (C c)∧Mem Φ2 KE w'))) (hS:∀x w,r=.ok x→Mem Φ1 (KO x) w→S w:=by intro x w hq hm;exact lnS) (hP:∀c w,(∀a,a.defers=[]→Q0 (.panic c) a w)→Qp c w:=by exact fun _ _ h=>h):A a w :=
 hE.h hm.toSees (fun a ty pos aft g he=>z3x he hx hf c (fun x w hq hm=>⟨hS x w hq hm,fun a he=>k x w hq hm a he⟩) (fun c w hq hm=>hP _ _ fun _ hd=>hQ _ _ _ (yQ hd (kp c w hq hm)))) a he
theorem xW {α β ε:Type} {r:Except ε α} {X:α→β→Value} {C:ε→List PanicEntry} {F1:α→β→Fz} {Φ2:Fz} {KO:α→β→List Res} {KE:List Res} {G:α→β→Prop} (hf:∀args w,(callFunc f args).run prog w=.ok (.enter f args) w) (k:∀x y w,r=.ok x→G x y→Mem (F1 x y) (KO x y) w→∀a,EnvR n ((d,X x y)::E') D a→B a w) (kp:∀c w,r=.error c→Mem Φ2 KE w→R (.panicked (C c)) w) {fn:Func} {Q0:Exit→Act→World→Prop} (hQ:∀e a w,bodyPost prog fn R e a w→Q0 e a w:=by exact hQ) (he:EnvR n E D a:=by exact he) (hm:Mem Φ K w:=by exact hm) (hE:AtE n D Φ K w A E E' d (.call { callee:=.value (.func f),args:=xs,argTypes:=ts }) S B Qp:=by exact aG) (hx:evs E' xs.toList=some vs:=by rfl)
  (c:Calls prog f vs.toArray w (fun e w'=>Out r (fun x=>∃y,e=.returned (X x y)∧G x y∧Mem (F1 x y) (KO x y) w') (fun c=>e=.panicked (C c)∧Mem Φ2 KE w'))) (hS:∀x y w,r=.ok x→G x y→Mem (F1 x y) (KO x y) w→S w:=by intro x y w hq hG hm;exact lnG) (hP:∀c w,(∀a,a.defers=[]→Q0 (.panic c) a w)→Qp c w:=by exact fun _ _ h=>h):A a w :=
 hE.h hm.toSees (fun a ty pos aft g he=>z3y he hx hf c (fun x y w hq hG hm=>⟨hS x y w hq hG hm,fun a he=>k x y w hq hG hm a he⟩) (fun c w hq hm=>hP _ _ fun _ hd=>hQ _ _ _ (yQ hd (kp c w hq hm)))) a he
theorem Sto (i:Nat) {x y:Operand} {T T0:TypeId} {b off k:Nat} {v:Value} (kk:∀w,Mem Φ K' w→∀a,EnvR n E' D a→B a w) (he:EnvR n E D a:=by exact he) (hm:Mem Φ K w:=by exact hm) (hE:AtE0 n D Φ K w A E E' (.store T x y) S B Qp:=by exact atAct0) (hT:SzT T k:=by infer_instance)
  (hx:ev E' x=some (.pointer (some ⟨b,off,none⟩)):=by rfl) (hy:ev E' y=some v:=by rfl) (hk:qJ K i=some (.blk b (ob cs T0)):=by rfl) (hc:v.cells.toList=vs:=by exact cellsC) (hl:vs.length=k:=by rfl)
  (h1:vs.all Value.oneCell'=true:=by exact oneC) (hf:Nat.ble (off+vs.length) cs.length=true:=by rfl) (hK:wK K i (.blk b (ob (pB cs off vs) T0))=K':=by exact nfK) (hS:∀w,Mem Φ K' w→S w:=by intro w hm;exact lnS):A a w :=
 hE.h hm.toSees (fun a ty pos aft g he=>zP i he hm hx hy hk hc hT.h hl h1 hf fun w hm=>⟨hS w (hK▸hm),fun a he=>kk w (hK▸hm) a he⟩) a he
theorem Alc {T:TypeId} (k:∀b w,Mem Φ (.blk b (ob cs T)::K) w→∀a,EnvR n ((d,.pointer (some ⟨b,0,none⟩))::E') D a→B a w) (he:EnvR n E D a:=by exact he) (hm:Mem Φ K w:=by exact hm) (hE:AtE n D Φ K w A E E' d (.alloc T) S B Qp:=by exact aG) (hZ:ZeT T cs:=by infer_instance) (hS:∀b w,Mem Φ (.blk b (ob cs T)::K) w→S w:=by intro y w hm;exact lnS):A a w :=
 let ⟨_,h1,h2⟩:=hZ.h
 hE.h hm.toSees (fun a ty pos aft g he=>yG hm h1 h2 fun b w hm=>⟨hS b w hm,fun a he=>k b w hm a he⟩) a he
theorem Bx {T:TypeId} {x:Operand} {v:Value} (k:∀b w,Mem Φ (.blk b (ob cs T)::K) w→∀a,EnvR n ((d,.pointer (some ⟨b,0,none⟩))::E') D a→B a w) (he:EnvR n E D a:=by exact he) (hm:Mem Φ K w:=by exact hm) (hE:AtE n D Φ K w A E E' d (.box T x) S B Qp:=by exact aG) (hx:ev E' x=some v:=by rfl) (hc:v.cells.toList=cs:=by exact cellsC)
  (hS:∀b w,Mem Φ (.blk b (ob cs T)::K) w→S w:=by intro y w hm;exact lnS):A a w:=hE.h hm.toSees (fun a ty pos aft g he=>qK he hm hx hc fun b w hm=>⟨hS b w hm,fun a he=>k b w hm a he⟩) a he
theorem MkM {t:TypeId} (k:∀b w,Mem Φ (.mp b []::K) w→∀a,EnvR n ((d,.map (some b))::E') D a→B a w) (he:EnvR n E D a:=by exact he) (hm:Mem Φ K w:=by exact hm) (hE:AtE n D Φ K w A E E' d (.makeMap t none) S B Qp:=by exact aG) (hS:∀b w,Mem Φ (.mp b []::K) w→S w:=by intro y w hm;exact lnS):A a w :=
 hE.h hm.toSees (fun a ty pos aft g he=>zU hm fun b w hm=>⟨hS b w hm,fun a he=>k b w hm a he⟩) a he
theorem uX (i:Nat) {t kt et:TypeId} {x y z:Operand} {b:Nat} {m:List (Bs×Value)} {s:Bs} {v:Value} (ht:Under prog t (.map kt et)) (hkt:Under prog kt .string) (k:∀w,Mem Φ K' w→∀a,EnvR n E' D a→B a w) (he:EnvR n E D a:=by exact he) (hm:Mem Φ K w:=by exact hm) (hE:AtE0 n D Φ K w A E E' (.mapUpdate t x y z) S B Qp:=by exact atAct0)
  (hx:ev E' x=some (.map (some b)):=by rfl) (hy:ev E' y=some (.string s):=by rfl) (hz:ev E' z=some v:=by rfl) (hk:qJ K i=some (.mp b m):=by rfl) (hK:wK K i (.mp b (mZ m s v))=K':=by exact nfK) (hS:∀w,Mem Φ K' w→S w:=by intro w hm;exact lnS):A a w :=
 hE.h hm.toSees (fun a ty pos aft g he=>gF i ht hkt he hm hx hy hz hk fun w hm=>⟨hS w (hK▸hm),fun a he=>k w (hK▸hm) a he⟩) a he
theorem qL (i:Nat) {s x:Operand} {t e:TypeId} {size bytes:Nat} {v vx:Value} {rs news:List Value} {K':Value→List Res} (hT:RowT prog t e size bytes) (k:∀v w,Mem Φ (K' v) w→∀a,EnvR n ((d,v)::E') D a→B a w) (he:EnvR n E D a:=by exact he) (hm:Mem Φ K w:=by exact hm) (hE:AtE n D Φ K w A E E' d (.call { callee:=.builtin .append,args:=#[s,x],argTypes:=#[t,t] }) S B Qp:=by exact aG)
  (hs:ev E' s=some v:=by rfl) (hk:qJ K i=some (.gs v e size rs):=by rfl) (hx:ev E' x=some vx:=by rfl) (hr:y3q w vx size news:=by first | exact Sees.rowIn (i:=0) hm.toSees rfl | exact Sees.rowIn (i:=1) hm.toSees rfl | exact Sees.rowIn (i:=2) hm.toSees rfl | exact Sees.rowIn (i:=3) hm.toSees rfl) (h1:news.all Value.oneCell'=true:=by rfl) (hb:(rs.length+news.length) * bytes≤140737488355328:=by first | (rw [z5w];simp only [List.length_cons,List.length_nil];omega) | (have h_:=hch.length;rw [h_];simp only [List.length_cons,List.length_nil];omega) | (simp only [yH,List.length_cons,List.length_nil];omega) | (simp only [List.length_cons,List.length_nil];omega)) (hK:∀v,wK K i (.gs v e size (rs++news))=K' v:=by intro v;exact nfK)
  (hS:∀v w,Mem Φ (K' v) w→S w:=by intro y w hm;exact lnS):A a w:=hE.h hm.toSees (fun a ty pos aft g he=>cO i hT he hm hs hk hx hr h1 hb fun v w hm=>⟨hS v w (hK v▸hm),fun a he=>k v w (hK v▸hm) a he⟩) a he
theorem qW {t e:TypeId} {len sz:Nat} {ps:Array (Nat×Operand)} {vs:List (Nat×Value)} {zs:List Value} (k:∀v w,Mem Φ (.gs v e sz cs::K) w→∀a,EnvR n ((d,v)::E') D a→B a w) (he:EnvR n E D a:=by exact he) (hm:Mem Φ K w:=by exact hm) (hE:AtE n D Φ K w A E E' d (.buildSlice t len ps) S B Qp:=by exact aG) (hu:SlT t e:=by infer_instance) (hs:SzT e sz:=by infer_instance) (hz:ZeT e zs:=by infer_instance)
  (hp:evp E' ps.toList=some vs:=by rfl) (hc:flat vs=cs:=by first | (simp only [flat,q8g,q8i,y7b,q8l,q8k,c_sl,q8j,q8h,List.cons_append,List.nil_append,List.append_nil];try rfl;all_goals fail) | fail) (hn:Nat.ble (len * sz) 16777216=true:=by rfl) (h0:len * sz≠0:=by decide)
  (hf:Instr.fill (fun i=>some (i * sz,sz)) ((List.range (len * sz)).map (fun x=>zs[x % zs.length]!)).toArray vs=some cs.toArray:=by kernel_rfl) (hl:cs.length=len * sz:=by rfl) (hx:len≤maxLen:=by decide)
  (hS:∀v w,Mem Φ (.gs v e sz cs::K) w→S w:=by intro y w hm;exact lnS):A a w:=by
 obtain ⟨z,h1,h2⟩:=hz.h
 have h3:z.cells=zs.toArray:=by rw [← h2]
 exact hE.h hm.toSees (fun a ty pos aft g he=>mV he hm hp (sX hu.h hs.h h1 hn h0 (by rw [h3];simpa using hf)) hl hx fun v w hm _=>⟨hS v w hm,fun a he=>k v w hm a he⟩) a he
theorem Qq {v:Value} (k:∀a,EnvR n ((d,v)::E') D a→B a w) (he:EnvR n E D a:=by exact he) (hm:Mem Φ K w:=by exact hm) (hE:AtQ n D Φ K w A E E' d op W B:=by exact q3v) (o:∀{a ty w},EnvR n E' D a→W w→Ok prog a op ty w v):A a w:=hE.h hm.toSees v (fun _ _ _ h1 h2=>o h1 h2) k a he
theorem kK {t:TypeId} {ps:Array (Nat×Operand)} {vs:List (Nat×Value)} {zs:List Value} {os:List Nat} (k:∀a,EnvR n ((d,.agg cs.toArray)::E') D a→B a w) (he:EnvR n E D a:=by exact he) (hm:Mem Φ K w:=by exact hm) (hE:AtQ n D Φ K w A E E' d (.build t ps) W B:=by exact q3v) (hz:BzT t zs os:=by infer_instance) (hp:evp E' ps.toList=some vs:=by rfl)
  (hc:q9k zs os vs=cs:=by first | (simp only [q9k,q1z,q8g,q8i,y7b,q8l,q8k,c_sl,q8j,q8h,pB,z7p];try rfl;all_goals fail) | (simp only [q9k];try rfl;all_goals fail) | fail) (hb:prog.built t vs=some cs.toArray:=by kernel_rfl):A a w:=hE.h hm.toSees _ (fun _ _ _ he _=>aY he hp hb) k a he
theorem yJ {t:TypeId} {ps:Array (Nat×Operand)} {vs:List (Nat×Value)} {zs:List Value} {os:List Nat} (k:∀a,EnvR n ((d,.agg cs.toArray)::E') D a→B a w) (he:EnvR n E D a:=by exact he) (hm:Mem Φ K w:=by exact hm) (hE:AtQ n D Φ K w A E E' d (.build t ps) W B:=by exact q3v) (hz:BzT t zs os:=by infer_instance) (hp:evp E' ps.toList=some vs:=by rfl)
  (hc:q6f zs os vs=cs:=by first | (dsimp only [q6f,q1z,setAt];try rfl;all_goals fail) | fail) (hb:prog.built t vs=some cs.toArray:=by kernel_rfl):A a w:=hE.h hm.toSees _ (fun _ _ _ he _=>aY he hp hb) k a he
theorem Reg {id:Nat} {l:List Oper} {p:Plan} {Q:Exit→Act→World→Prop} (kd:List Nat) (is:List Nat) (h:∀w,Mem Φ K w→∀a,EnvR n E' D a→zW prog .any l.toArray (Sees Φ (y1q K is)) kd (fun c w=>∀a,a.defers=D→Q (.panic c) a w) (Q .normal) p a w) (he:EnvR n E D a:=by exact he) (hm:Mem Φ K w:=by exact hm)
  (hE:Go2 n D Φ K w A E ((Code.region id l.toArray true).wp prog Q) E':=by exact goGo) (hp:y8v 0 kd=p:=by first | (dsimp only [y8v,planOp];try rfl;all_goals fail) | fail) (hB:z2u l.toArray kd p=true:=by kernel_rfl):A a w :=
 hE.h hm.toSees (fun a he=>aC kd p _ he hm mixed hB (fun r hr=>uO hr) (fun w hm=>h w hm a he)) a he
theorem zI {fn:Func} {t:Nat} {v:Value} {Q:Exit→Act→World→Prop} (h:R (.returned v) w) (hQ:∀e a w,bodyPost prog fn R e a w→Q e a w:=by exact hQ) (he:EnvR n E [] a:=by exact he) (hm:Mem Φ K w:=by exact hm) (hE:Go2 n [] Φ K w A E (Q .ret) E':=by exact goGo) (hr:fn.results=#[.tmp t]:=by rfl) (hv:get E' t=some v:=by rfl):A a w:=hE.h hm.toSees (fun a he=>hQ _ _ _ (ret1 he hr hv h)) a he
theorem wP {fn:Func} {t u:Nat} {v x:Value} {Q:Exit→Act→World→Prop} (h:R (.returned (.tuple #[v,x])) w) (hQ:∀e a w,bodyPost prog fn R e a w→Q e a w:=by exact hQ) (he:EnvR n E [] a:=by exact he) (hm:Mem Φ K w:=by exact hm) (hE:Go2 n [] Φ K w A E (Q .ret) E':=by exact goGo) (hr:fn.results=#[.tmp t,.tmp u]:=by rfl) (hv:get E' t=some v:=by rfl) (hx:get E' u=some x:=by rfl):A a w:=hE.h hm.toSees (fun a he=>hQ _ _ _ (ret2 he hr hv hx h)) a he
theorem jU {fn:Func} {t T b k i:Nat} {T0:TypeId} {Q:Exit→Act→World→Prop} (h:R (.returned (.agg cs.toArray)) w) (hQ:∀e a w,bodyPost prog fn R e a w→Q e a w:=by exact hQ) (he:EnvR n E [] a:=by exact he) (hm:Mem Φ K w:=by exact hm) (hE:Go2 n [] Φ K w A E (Q .ret) E':=by exact goGo) (hr:fn.results=#[.cell t T]:=by rfl) (hv:get E' t=some (.pointer (some ⟨b,0,none⟩)):=by rfl)
  (hk:qJ K i=some (.blk b (ob cs T0)):=by first | exact (rfl:qJ _ 0=_) | exact (rfl:qJ _ 1=_) | exact (rfl:qJ _ 2=_) | exact (rfl:qJ _ 3=_) | exact (rfl:qJ _ 4=_) | exact (rfl:qJ _ 5=_) | exact (rfl:qJ _ 6=_) | exact (rfl:qJ _ 7=_) | exact (rfl:qJ _ 8=_) | exact (rfl:qJ _ 9=_) | exact (rfl:qJ _ 10=_) | exact (rfl:qJ _ 11=_)) (hT:AgT T:=by infer_instance) (hS:SzT T k:=by infer_instance) (hl:cs.length=k:=by rfl):A a w:=hE.h hm.toSees (fun a he=>hQ _ _ _ (retcA he hm.toSees hr hv hk hT.h hS.h hl h)) a he
theorem zL {fn:Func} {f:FuncId} {cd:Code} (hf:prog.funcs[f]? = some fn) (hn:fn.ntmps=n) (k:∀Q:Exit→Act→World→Prop,(∀e a w,bodyPost prog fn R e a w→Q e a w)→∀a,EnvR n (aP 0 vs) [] a→cd.wp prog Q a w) (hb:fn.body=some cd:=by rfl) (hl:Nat.ble vs.length n=true:=by rfl):Calls prog f vs.toArray w R:=enter hf hb hn hl k
theorem EnvR.pk {E0:List (Nat×Value)} (he:EnvR n E D a) (h:Sub E0 E:=by repeat' (first | exact trivial | rfl | constructor)):EnvR n E0 D a:=he.of_sub h
theorem EnvR.ks (he:EnvR n E D a) (ks:List Nat) {E1:List (Nat×Value)} (h:q0o E ks=some E1:=by rfl):EnvR n E1 D a:=he.sub (y4j h)
theorem yF {Q:Exit→Act→World→Prop} {c:Code} {E1:List (Nat×Value)} (_:EnvR n E1 D a) (_:Mem Φ K w) (I:(Fz→List (Nat×Value)→List (Nat×Res)→Act→World→Prop)→Nat→Act→World→Prop) (m0:Nat)
  (h0:I (fun Ψ X Y a w=>EnvR n (eput X E1) D a∧Mem Ψ (z2d K Y) w) m0 a w)
  (hb:∀m a w,I (fun Ψ X Y a w=>EnvR n (eput X E1) D a∧Mem Ψ (z2d K Y) w) m a w→∀L:Act→World→Prop,(∀m' a w,m' < m→I (fun Ψ X Y a w=>EnvR n (eput X E1) D a∧Mem Ψ (z2d K Y) w) m' a w→L a w)→c.wp prog (Exit.then L Q) a w) :
  (Code.loop c).wp prog Q a w:=xD (I _) m0 h0 hb
theorem Mem.ar (hm:Mem Φ K w) (ds is:List Nat) (h:y0g (z2c K ds) is=some K':=by rfl):Mem Φ K' w:=q5e is h (y5b hm ds)
theorem zV {x y:Bool} {M:Prop} (hm:M) (h:x=y):Ending.returned (.bool x)=Ending.returned (.bool y)∧M:=⟨h▸rfl,hm⟩
theorem z2x {x y:Bs} {M:Prop} (hm:M) (h:x=y):Ending.returned (.string x)=Ending.returned (.string y)∧M:=⟨h▸rfl,hm⟩
theorem q2m {x y:Int} {k:IntKind} {M:Prop} (hm:M) (h:x=y):Ending.returned (.int k x)=Ending.returned (.int k y)∧M:=⟨h▸rfl,hm⟩
end
section
variable {Φ Ψ:Fz}
class MonoF {α:Type} (R:Fz→List Value→α→Prop):Prop where h:∀Φ Ψ c x,Φ.Le Ψ→R Φ c x→R Ψ c x
instance:MonoF RVal:=⟨RVal.mono⟩
instance:MonoF REx:=⟨REx.mono⟩
instance:MonoF RArm:=⟨RArm.mono⟩
instance:MonoF RStr:=⟨RStr.mono⟩
instance:MonoF RParam:=⟨RParam.mono⟩
instance:MonoF RCon:=⟨RCon.mono⟩
instance:MonoF RData:=⟨RData.mono⟩
instance:MonoF RFun:=⟨RFun.mono⟩
instance:MonoF RMaker:=⟨RMaker.mono⟩
instance:MonoF RNamed:=⟨RNamed.mono⟩
theorem SliceOf.up {α:Type} {R:Fz→List Value→α→Prop} [MonoF R] {k:Nat} {v:Value} {xs:List α} (h:SliceOf R Φ k v xs) (hl:Φ.Le Ψ):SliceOf R Ψ k v xs:=h.mono MonoF.h hl
theorem MapRel.up {α:Type} {R:Fz→List Value→α→Prop} [MonoF R] {m:List (Bs×Value)} {l:List (Bs×α)} (h:MapRel (RVa R Φ) m l) (hl:Φ.Le Ψ):MapRel (RVa R Ψ) m l:=h.mono (RVa.mono MonoF.h hl)
theorem SliceOf.fm {α:Type} {R:Fz→List Value→α→Prop} {k:Nat} {v:Value} {xs:List α} (h:SliceOf R Φ k v xs) (hk:0 < k:=by decide):∃p c,v=.slice p xs.length c∧xs.length≤9223372036854775807∧(xs≠[]→∃q,p=some q):=h.form hk
theorem REx.fm {cs:List Value} {x:Ex} (h:REx Φ cs x):∃p c q d,cs=[.int .i64 x.kind,.int .i64 x.num,.string x.name,.slice p x.args.length c,.slice q x.arms.length d]∧I64 x.num∧SliceOf REx Φ 5 (.slice p x.args.length c) x.args∧SliceOf RArm Φ 7 (.slice q x.arms.length d) x.arms ∧
  x.args.length≤9223372036854775807∧(x.args≠[]→∃q,p=some q)∧x.arms.length≤9223372036854775807∧(x.arms≠[]→∃p,q=some p):=by
 obtain ⟨s,t,rfl,h0,h1,h2⟩:=REx.iff.1 h
 obtain ⟨p,c,rfl,h3,h4⟩:=h1.fm
 obtain ⟨q,d,rfl,h5,h6⟩:=h2.fm
 exact ⟨p,c,q,d,rfl,h0,h1,h2,h3,h4,h5,h6⟩
theorem RVal.fm {cs:List Value} {x:Val} (h:RVal Φ cs x):∃p c,cs=[.string x.con,.int .i64 x.num,.slice p x.args.length c]∧I64 x.num∧SliceOf RVal Φ 3 (.slice p x.args.length c) x.args∧x.args.length≤9223372036854775807∧(x.args≠[]→∃q,p=some q):=by
 obtain ⟨s,rfl,h0,h1⟩:=RVal.iff.1 h
 obtain ⟨p,c,rfl,h3,h4⟩:=h1.fm
 exact ⟨p,c,rfl,h0,h1,h3,h4⟩
theorem RCore.fm {cs:List Value} {x:Core} (h:RCore Φ cs x):∃p1 c1 p2 c2 p3 c3 p4 c4,cs=[.slice p1 x.datas.length c1,.slice p2 x.inputs.length c2,.slice p3 x.funs.length c3,.slice p4 x.outputs.length c4] ∧
  SliceOf RData Φ 2 (.slice p1 x.datas.length c1) x.datas∧SliceOf RParam Φ 2 (.slice p2 x.inputs.length c2) x.inputs∧SliceOf RFun Φ 8 (.slice p3 x.funs.length c3) x.funs∧SliceOf RStr Φ 1 (.slice p4 x.outputs.length c4) x.outputs ∧
  x.datas.length≤9223372036854775807∧(x.datas≠[]→∃q,p1=some q)∧x.inputs.length≤9223372036854775807∧(x.inputs≠[]→∃q,p2=some q)∧x.funs.length≤9223372036854775807∧(x.funs≠[]→∃q,p3=some q)∧x.outputs.length≤9223372036854775807∧(x.outputs≠[]→∃q,p4=some q):=by
 obtain ⟨s,t,u,v,rfl,h1,h2,h3,h4⟩:=h
 obtain ⟨p1,c1,rfl,a1,b1⟩:=h1.fm
 obtain ⟨p2,c2,rfl,a2,b2⟩:=h2.fm
 obtain ⟨p3,c3,rfl,a3,b3⟩:=h3.fm
 obtain ⟨p4,c4,rfl,a4,b4⟩:=h4.fm
 exact ⟨p1,c1,p2,c2,p3,c3,p4,c4,rfl,h1,h2,h3,h4,a1,b1,a2,b2,a3,b3,a4,b4⟩
theorem SliceOf.el {α:Type} {R:Fz→List Value→α→Prop} {k m c i:Nat} {p:Option Addr} {xs:List α} (h:SliceOf R Φ k (.slice p m c) xs) (hn:xs≠[]→∃q,p=some q) (hlt:i < xs.length) (hk:0 < k:=by decide) :
  ∃q,p=some q∧∃x,xs[i]? = some x∧∃cs,cs.length=k∧At Φ (q.add (i * k)) cs∧R Φ cs x:=by
 obtain ⟨q,rfl⟩:=hn (aS hlt)
 obtain ⟨x,hx⟩:=zX hlt
 exact ⟨q,rfl,x,hx,h.elem hx hk⟩
end
end Go.Sw

namespace Go.Sw
open Go.Proofs
end Go.Sw

namespace Go.Sw
open Go.Proofs
instance:ScT 4:=⟨Tryz.isAgg4⟩
instance:SzT 4 1:=⟨Tryz.sizeOf4⟩
end Go.Sw

namespace Go.Sw
section
variable {ws:List Bs} {i:Nat}
theorem y1s {α β:Type} {r:Rd α} {f:α→Nat→Rd β} {y:β×Nat} (h:yL r f=.ok y):∃x j,r=.ok (x,j)∧f x j=.ok y:=by
 unfold yL at h
 split at h
 ·exact ⟨_,_,rfl,h⟩
 ·cases h
theorem zB {α β:Type} {r:Rd α} {f:α→Nat→Rd β} {x:α×Nat} (h:r=.ok x):yL r f=f x.1 x.2:=by subst h;rfl
theorem zM {α β:Type} {r:Rd α} {f:α→Nat→Rd β} {n:Nat} (h:r=.error n):yL r f=.error n:=by subst h;rfl
theorem wN (h:¬zC ws i=⟨#[]⟩):i < ws.length:=by
 refine Classical.byContradiction fun hn=>h ?_
 unfold zC
 rw [List.getD_eq_getElem?_getD,List.getElem?_eq_none (by omega)];rfl
theorem jL {x:Bs} (h:ws[i]? = some x):zC ws i=x:=by unfold zC;rw [List.getD_eq_getElem?_getD,h];rfl
theorem j9q (h:¬i < ws.length):zC ws i=⟨#[]⟩:=by unfold zC;rw [List.getD_eq_getElem?_getD,List.getElem?_eq_none (by omega)];rfl
theorem y2m {p:Bs→Bool} (h:¬zC ws i=⟨#[]⟩) (hp:p (zC ws i)=true):pT ws p i=.ok (zC ws i,i+1):=by
 unfold pT;rw [if_neg];rintro (h2 | h2);exact h h2;rw [hp] at h2;cases h2
theorem x1d {p:Bs→Bool} (h:zC ws i=⟨#[]⟩):pT ws p i=.error (i+1):=by unfold pT;rw [if_pos (.inl h)]
theorem j3w {p:Bs→Bool} (h:p (zC ws i)=false):pT ws p i=.error (i+1):=by unfold pT;rw [if_pos (.inr h)]
theorem z5c {p:Bs→Bool} {x:Bs×Nat} (h:pT ws p i=.ok x):x.2=i+1∧i < ws.length∧p x.1=true:=by
 unfold pT at h
 split at h
 ·cases h
 ·rename_i hn
  simp only [Except.ok.injEq] at h
  subst h
  exact ⟨rfl,wN fun e=>hn (.inl e),by cases hp:p (zC ws i) with | true=>rfl | false=>exact absurd (.inr hp) hn⟩
theorem j9d {w:Bs} {x:Bs×Nat} (h:pT ws (fun s=>decide (s=w)) i=.ok x):kP ws w i=.ok ((),x.2):=by unfold kP;rw [zB h]
theorem j2p {w:Bs} {n:Nat} (h:pT ws (fun s=>decide (s=w)) i=.error n):kP ws w i=.error n:=by unfold kP;rw [zM h]
theorem y5p {w:Bs} {x:Unit×Nat} (h:kP ws w i=.ok x):x.2=i+1∧i < ws.length:=by
 obtain ⟨y,j,h1,h2⟩:=y1s h
 have:=z5c h1
 simp only [Except.ok.injEq] at h2
 subst h2;exact ⟨this.1,this.2.1⟩
def Goes (ws:List Bs) {α:Type} (f:Nat→Rd α):Prop:=∀i x,f i=.ok x→i < x.2∧x.2≤ws.length
def Stays (ws:List Bs) {α:Type} (f:Nat→Rd α):Prop:=∀i x,i≤ws.length→f i=.ok x→i≤x.2∧x.2≤ws.length
theorem Goes.stays {α:Type} {f:Nat→Rd α} (h:Goes ws f):Stays ws f:=fun i x _ hx=>⟨Nat.le_of_lt (h i x hx).1,(h i x hx).2⟩
theorem xU (p:Bs→Bool):Goes ws (pT ws p):=fun i x h=>by have:=z5c h;omega
theorem wH (w:Bs):Goes ws (kP ws w):=fun i x h=>by have:=y5p h;omega
theorem Goes.bind {α β:Type} {f:Nat→Rd α} {g:α→Nat→Rd β} (hf:Goes ws f) (hg:∀x,Stays ws (g x)):Goes ws (fun i=>yL (f i) g):=fun i y h=>by
 obtain ⟨x,j,h1,h2⟩:=y1s h
 have h3:=hf i _ h1
 have h4:=hg x j y h3.2 h2
 simp only at h3;omega
theorem Stays.bind {α β:Type} {f:Nat→Rd α} {g:α→Nat→Rd β} (hf:Stays ws f) (hg:∀x,Stays ws (g x)):Stays ws (fun i=>yL (f i) g):=fun i y hi h=>by
 obtain ⟨x,j,h1,h2⟩:=y1s h
 have h3:=hf i _ hi h1
 have h4:=hg x j y h3.2 h2
 simp only at h3;omega
theorem Stays.ok {α:Type} (x:α):Stays ws (fun i=>.ok (x,i)):=fun i y hi h=>by simp only [Except.ok.injEq] at h;subst h;exact ⟨Nat.le_refl _,hi⟩
theorem Stays.from {α:Type} {f:Nat→Rd α} (h:Stays ws f) {j:Nat} {y:α×Nat} (hj:i < j) (hl:j≤ws.length) (hy:f j=.ok y):i < y.2∧y.2≤ws.length:=by
 have:=h j y hl hy;omega
theorem oP {ex:Nat→Rd Ex} (he:Goes ws ex):∀f least,Stays ws (kG ws ex f least)
 | 0,_=>fun i x _ h=>by cases h
 | f+1,least=>fun i x hi h=>by
  simp only [kG] at h
  split at h
  ·exact (he.bind fun e=>(oP he f (least - 1)).bind fun l=>Stays.ok _).stays i x hi h
  ·exact Stays.ok _ i x hi h
theorem y2t {ex:Nat→Rd Ex} (he:Goes ws ex):Goes ws (z3k ex):=he.bind fun _=>(he.bind fun _=>Stays.ok _).stays
theorem y2w:∀f,Stays ws (aN ws f)
 | 0=>fun i x _ h=>by cases h
 | f+1=>fun i x hi h=>by
  simp only [aN] at h
  split at h
  ·exact ((xU yY).bind fun e=>(y2w f).bind fun l=>Stays.ok _).stays i x hi h
  ·exact Stays.ok _ i x hi h
theorem j4p {ex:Nat→Rd Ex} (he:Goes ws ex):Goes ws (armP ws ex) :=
 (wH _).bind fun _=>(xU qG).stays.bind fun _=>(y2w _).bind fun _=>(wH _).stays.bind fun _=>he.stays.bind fun _=>(wH _).stays.bind fun _=>Stays.ok _
theorem z8h {ex:Nat→Rd Ex} (he:Goes ws ex):∀f b,Stays ws (cK ws ex f b)
 | 0,_=>fun i x _ h=>by cases h
 | f+1,b=>fun i x hi h=>by
  simp only [cK] at h
  split at h
  ·exact ((j4p he).bind fun e=>(z8h he f false).bind fun l=>Stays.ok _).stays i x hi h
  ·exact Stays.ok _ i x hi h
theorem y4q {ex:Nat→Rd Ex} (he:Goes ws ex):Goes ws (yT ws ex):=fun i x h=>by
 have lt:∀{s:Bs},s≠⟨#[]⟩→zC ws i=s→i+1≤ws.length:=fun hs e=>wN (by rw [e];exact hs)
 unfold yT at h
 split at h
 ·rename_i hop
  have:i+1≤ws.length:=wN fun e=>by rw [e] at hop;exact absurd hop (by decide)
  exact Stays.from (i:=i) ((y2t he).stays.bind fun _=>Stays.ok _) (Nat.lt_succ_self _) this h
 split at h
 ·rename_i e
  exact Stays.from (i:=i) ((xU yY).stays.bind fun _=>(y2t he).stays.bind fun _=>Stays.ok _) (Nat.lt_succ_self _) (lt (by decide) e) h
 split at h
 ·rename_i e
  exact Stays.from (i:=i) (he.stays.bind fun _=>(z8h he _ _).bind fun _=>Stays.ok _) (Nat.lt_succ_self _) (lt (by decide) e) h
 split at h
 ·rename_i hc
  have:i+1≤ws.length:=wN fun e=>by rw [e] at hc;exact absurd hc (by decide)
  exact Stays.from (i:=i) ((oP he _ _).bind fun _=>Stays.ok _) (Nat.lt_succ_self _) this h
 ·exact ((xU yY).bind fun _=>(oP he _ _).bind fun _=>Stays.ok _) i x h
theorem vE:∀d,Goes ws (zO ws d)
 | 0=>fun i x h=>by cases h
 | d+1=>fun i x h=>by
  simp only [zO] at h
  split at h
  ·cases h
  rename_i hne
  have hl:i+1≤ws.length:=wN hne
  split at h
  ·simp only [Except.ok.injEq] at h;subst h;exact ⟨Nat.lt_succ_self _,hl⟩
  split at h
  ·exact Stays.from (i:=i) ((y4q (vE d)).stays.bind fun _=>(wH _).stays.bind fun _=>Stays.ok _) (Nat.lt_succ_self _) hl h
  split at h
  ·simp only [Except.ok.injEq] at h;subst h;exact ⟨Nat.lt_succ_self _,hl⟩
  split at h
  ·simp only [Except.ok.injEq] at h;subst h;exact ⟨Nat.lt_succ_self _,hl⟩
  ·exact ((xU yY).bind fun _=>Stays.ok _) i x h
theorem z1x:∀f,Stays ws (vR ws f)
 | 0=>fun i x _ h=>by cases h
 | f+1=>fun i x hi h=>by
  simp only [vR] at h
  split at h
  ·exact ((xU qG).bind fun e=>(z1x f).bind fun l=>Stays.ok _).stays i x hi h
  ·exact Stays.ok _ i x hi h
theorem z2r:∀f,Stays ws (kB ws f)
 | 0=>fun i x _ h=>by cases h
 | f+1=>fun i x hi h=>by
  simp only [kB] at h
  split at h
  ·rename_i e
   have hl:i+1≤ws.length:=wN (by rw [e];decide)
   have:=Stays.from (i:=i) (((xU yY).bind fun n=>((wH q6q).bind fun _=>((xU qG).bind fun t=>Stays.ok (⟨n,t⟩:Param)).stays).stays).stays.bind fun _=>(wH sCls).stays.bind fun _=>(z2r f).bind fun _=>Stays.ok _) (Nat.lt_succ_self _) hl h
   omega
  ·exact Stays.ok _ i x hi h
theorem q5y:Goes ws (kX ws):=(xU yY).bind fun _=>(wH _).stays.bind fun _=>(xU qG).stays.bind fun _=>Stays.ok _
theorem y4d:∀f,Goes ws (cL ws f)
 | 0=>fun i x h=>by cases h
 | f+1=>by
  refine (xU qG).bind fun n=>(z1x _).bind fun l =>?_
  intro i x hi h
  simp only at h
  split at h
  ·exact Stays.ok _ i x hi h
  ·rename_i e
   have e':zC ws i=sBar:=Classical.byContradiction fun hh=>e hh
   have hl:i+1≤ws.length:=wN (by rw [e'];decide)
   have:=Stays.from (i:=i) ((y4d f).stays.bind fun _=>Stays.ok _) (Nat.lt_succ_self _) hl h
   omega
theorem j0l:Goes ws (aB ws):=(xU qG).bind fun _=>(wH _).stays.bind fun _=>(y4d _).stays.bind fun _=>Stays.ok _
theorem j7i:Goes ws (cR ws):=(xU yY).bind fun _=>(z2r _).bind fun _=>(wH _).stays.bind fun _=>(xU qG).stays.bind fun _=>(wH _).stays.bind fun _=>(vE _).stays.bind fun _=>Stays.ok _
end
end Go.Sw

namespace Go.Sw
end Go.Sw

namespace Go.Sw
def RCoreX (Φ:Fz) (cs:List Value) (x:Core) (v:Value):Prop :=
 ∃s t u q c,v=.slice q x.outputs.length c∧cs=[s,t,u,v]∧SliceOf RData Φ 2 s x.datas∧SliceOf RParam Φ 2 t x.inputs∧SliceOf RFun Φ 8 u x.funs
theorem RCore.x {Φ:Fz} {cs:List Value} {x:Core} (h:RCore Φ cs x):∃v,RCoreX Φ cs x v∧SliceOf RStr Φ 1 v x.outputs:=by
 obtain ⟨s,t,u,v,rfl,h1,h2,h3,h4⟩:=h
 obtain ⟨q,c,rfl,h5,h6⟩:=h4.form (by decide)
 exact ⟨_,⟨s,t,u,q,c,rfl,rfl,h1,h2,h3⟩,h4⟩
theorem RCoreX.full {Φ:Fz} {cs:List Value} {x:Core} {v:Value} (h:RCoreX Φ cs x v) (hv:SliceOf RStr Φ 1 v x.outputs):RCore Φ cs x:=by
 obtain ⟨s,t,u,q,c,_,rfl,h1,h2,h3⟩:=h
 exact ⟨s,t,u,v,rfl,h1,h2,h3,hv⟩
theorem RCoreX.mono {Φ Ψ:Fz} {cs:List Value} {x:Core} {v:Value} (hl:Φ.Le Ψ) (h:RCoreX Φ cs x v):RCoreX Ψ cs x v:=by
 obtain ⟨s,t,u,q,c,e,rfl,h1,h2,h3⟩:=h
 exact ⟨s,t,u,q,c,e,rfl,h1.mono RData.mono hl,h2.mono RParam.mono hl,h3.mono RFun.mono hl⟩
structure RTableX (Φ:Fz) (p:Addr) (T:Table) (v:Value):Prop where
 ex:∃cs m1 m2 m3 m4 d1 d2 d3 d4,At Φ p (cs++[.map (some m1),.map (some m2),.map (some m3),.map (some m4)])∧cs.length=4∧RCoreX Φ cs T.core v ∧
  MapAt Φ m1 d1∧MapRel (RVa RData Φ) d1 T.datas∧MapAt Φ m2 d2∧MapRel (RVa RMaker Φ) d2 T.cons∧MapAt Φ m3 d3∧MapRel (RVa RFun Φ) d3 T.funs∧MapAt Φ m4 d4∧MapRel RVs d4 T.inputs
theorem RTableX.full {Φ:Fz} {p:Addr} {T:Table} {v:Value} (h:RTableX Φ p T v) (hv:SliceOf RStr Φ 1 v T.core.outputs):RTable Φ p T :=
 let ⟨cs,m1,m2,m3,m4,d1,d2,d3,d4,h0,h1,h2,a1,b1,a2,b2,a3,b3,a4,b4⟩:=h.ex
 ⟨cs,m1,m2,m3,m4,d1,d2,d3,d4,h0,h1,h2.full hv,a1,b1,a2,b2,a3,b3,a4,b4⟩
theorem RTableX.mono {Φ Ψ:Fz} {p:Addr} {T:Table} {v:Value} (h:RTableX Φ p T v) (hl:Φ.Le Ψ):RTableX Ψ p T v :=
 let ⟨cs,m1,m2,m3,m4,d1,d2,d3,d4,h0,h1,h2,a1,b1,a2,b2,a3,b3,a4,b4⟩:=h.ex
 ⟨cs,m1,m2,m3,m4,d1,d2,d3,d4,h0.mono hl,h1,h2.mono hl,a1.mono hl,b1.mono (RVa.mono RData.mono hl),a2.mono hl,b2.mono (RVa.mono RMaker.mono hl),a3.mono hl,b3.mono (RVa.mono RFun.mono hl),a4.mono hl,b4⟩
end Go.Sw
