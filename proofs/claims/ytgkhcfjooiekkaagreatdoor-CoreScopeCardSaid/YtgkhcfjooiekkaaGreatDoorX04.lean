import Derived.Test.YtgkhcfjooiekkaaGreatDoorX01
import Derived.Test.YtgkhcfjooiekkaaGreatDoorX02
import Derived.Test.YtgkhcfjooiekkaaGreatDoorX03
set_option linter.unusedVariables false
set_option linter.unusedSimpArgs false
namespace Go.Sw
open Go.Proofs.Tryz
open Go.Proofs
set_option maxRecDepth 20000
class ScT (t:TypeId):Prop where h:Scalar Tryz.prog t
class AgT (t:TypeId):Prop where h:AggT Tryz.prog t
class SzT (t:TypeId) (k:outParam Nat):Prop where h:SizeT Tryz.prog t k
class SlT (t:TypeId) (e:outParam TypeId):Prop where h:Under Tryz.prog t (.slice e)
class StT (t:TypeId):Prop where h:Under Tryz.prog t .string
class FoT (s:TypeId) (f:Nat) (o:outParam Nat):Prop where h:z0k Tryz.prog s f o
instance:ScT 3:=⟨isAgg3⟩
instance:ScT 9:=⟨isAgg9⟩
instance:ScT 22:=⟨isAgg22⟩
instance:ScT 23:=⟨isAgg23⟩
instance:ScT 24:=⟨isAgg24⟩
instance:ScT 25:=⟨isAgg25⟩
instance:AgT 27:=⟨isAgg27⟩
instance:ScT 28:=⟨isAgg28⟩
instance:AgT 30:=⟨isAgg30⟩
instance:ScT 31:=⟨isAgg31⟩
instance:ScT 38:=⟨isAgg38⟩
instance:AgT 42:=⟨isAgg42⟩
instance:AgT 62:=⟨isAgg62⟩
instance:ScT 63:=⟨isAgg63⟩
instance:ScT 64:=⟨isAgg64⟩
instance:AgT 66:=⟨isAgg66⟩
instance:AgT 68:=⟨isAgg68⟩
instance:AgT 72:=⟨isAgg72⟩
instance:ScT 89:=⟨isAgg89⟩
instance:ScT 93:=⟨isAgg93⟩
instance:ScT 94:=⟨isAgg94⟩
instance:ScT 96:=⟨isAgg96⟩
instance:AgT 99:=⟨isAgg99⟩
instance:ScT 101:=⟨isAgg101⟩
instance:ScT 102:=⟨isAgg102⟩
instance:ScT 103:=⟨isAgg103⟩
instance:ScT 104:=⟨isAgg104⟩
instance:ScT 108:=⟨isAgg108⟩
instance:ScT 127:=⟨isAgg127⟩
instance:ScT 128:=⟨isAgg128⟩
instance:ScT 131:=⟨isAgg131⟩
instance:AgT 133:=⟨isAgg133⟩
instance:AgT 135:=⟨isAgg135⟩
instance:ScT 179:=⟨isAgg179⟩
instance:AgT 190:=⟨isAgg190⟩
instance:AgT 195:=⟨isAgg195⟩
instance:ScT 206:=⟨isAgg206⟩
instance:ScT 267:=⟨isAgg267⟩
instance:AgT 274:=⟨isAgg274⟩
instance:ScT 298:=⟨isAgg298⟩
instance:ScT 299:=⟨isAgg299⟩
instance:SzT 3 1:=⟨sizeOf3⟩
instance:SzT 5 1:=⟨sizeOf5⟩
instance:SzT 9 1:=⟨sizeOf9⟩
instance:SzT 22 1:=⟨sizeOf22⟩
instance:SzT 23 1:=⟨sizeOf23⟩
instance:SzT 24 1:=⟨sizeOf24⟩
instance:SzT 25 1:=⟨sizeOf25⟩
instance:SzT 27 4:=⟨sizeOf27⟩
instance:SzT 28 1:=⟨sizeOf28⟩
instance:SzT 30 2:=⟨sizeOf30⟩
instance:SzT 31 1:=⟨sizeOf31⟩
instance:SzT 38 1:=⟨sizeOf38⟩
instance:SzT 42 3:=⟨sizeOf42⟩
instance:SzT 62 4:=⟨sizeOf62⟩
instance:SzT 63 1:=⟨sizeOf63⟩
instance:SzT 64 1:=⟨sizeOf64⟩
instance:SzT 66 5:=⟨sizeOf66⟩
instance:SzT 68 8:=⟨sizeOf68⟩
instance:SzT 72 2:=⟨sizeOf72⟩
instance:SzT 89 1:=⟨sizeOf89⟩
instance:SzT 93 1:=⟨sizeOf93⟩
instance:SzT 94 1:=⟨sizeOf94⟩
instance:SzT 96 1:=⟨sizeOf96⟩
instance:SzT 99 4:=⟨sizeOf99⟩
instance:SzT 101 1:=⟨sizeOf101⟩
instance:SzT 102 1:=⟨sizeOf102⟩
instance:SzT 103 1:=⟨sizeOf103⟩
instance:SzT 104 1:=⟨sizeOf104⟩
instance:SzT 108 1:=⟨sizeOf108⟩
instance:SzT 127 1:=⟨sizeOf127⟩
instance:SzT 128 1:=⟨sizeOf128⟩
instance:SzT 131 1:=⟨sizeOf131⟩
instance:SzT 133 2:=⟨sizeOf133⟩
instance:SzT 135 2:=⟨sizeOf135⟩
instance:SzT 179 1:=⟨sizeOf179⟩
instance:SzT 190 3:=⟨sizeOf190⟩
instance:SzT 195 7:=⟨sizeOf195⟩
instance:SzT 270 2:=⟨sizeOf270⟩
instance:SzT 274 4:=⟨sizeOf274⟩
instance:SzT 297 2:=⟨sizeOf297⟩
instance:SzT 298 1:=⟨sizeOf298⟩
instance:SzT 299 1:=⟨sizeOf299⟩
instance:SzT 314 2:=⟨sizeOf314⟩
instance:FoT 27 0 0:=⟨fo_27_0⟩
instance:FoT 27 1 1:=⟨fo_27_1⟩
instance:FoT 27 2 2:=⟨fo_27_2⟩
instance:FoT 27 3 3:=⟨fo_27_3⟩
instance:FoT 30 0 0:=⟨fo_30_0⟩
instance:FoT 30 1 1:=⟨fo_30_1⟩
instance:FoT 42 0 0:=⟨fo_42_0⟩
instance:FoT 42 1 1:=⟨fo_42_1⟩
instance:FoT 42 2 2:=⟨fo_42_2⟩
instance:FoT 62 0 0:=⟨fo_62_0⟩
instance:FoT 62 1 1:=⟨fo_62_1⟩
instance:FoT 66 0 0:=⟨fo_66_0⟩
instance:FoT 66 1 1:=⟨fo_66_1⟩
instance:FoT 66 2 2:=⟨fo_66_2⟩
instance:FoT 66 3 3:=⟨fo_66_3⟩
instance:FoT 66 4 4:=⟨fo_66_4⟩
instance:FoT 68 0 0:=⟨fo_68_0⟩
instance:FoT 68 1 1:=⟨fo_68_1⟩
instance:FoT 68 2 2:=⟨fo_68_2⟩
instance:FoT 68 3 3:=⟨fo_68_3⟩
instance:FoT 72 0 0:=⟨fo_72_0⟩
instance:FoT 72 1 1:=⟨fo_72_1⟩
instance:FoT 99 0 0:=⟨fo_99_0⟩
instance:FoT 99 1 1:=⟨fo_99_1⟩
instance:FoT 99 2 2:=⟨fo_99_2⟩
instance:FoT 99 3 3:=⟨fo_99_3⟩
instance:FoT 106 0 0:=⟨fo_106_0⟩
instance:FoT 106 1 4:=⟨fo_106_1⟩
instance:FoT 106 2 5:=⟨fo_106_2⟩
instance:FoT 106 3 6:=⟨fo_106_3⟩
instance:FoT 106 4 7:=⟨fo_106_4⟩
instance:FoT 130 0 0:=⟨fo_130_0⟩
instance:FoT 130 1 1:=⟨fo_130_1⟩
instance:FoT 133 0 0:=⟨fo_133_0⟩
instance:FoT 133 1 1:=⟨fo_133_1⟩
instance:FoT 135 0 0:=⟨fo_135_0⟩
instance:FoT 135 1 1:=⟨fo_135_1⟩
instance:FoT 181 0 0:=⟨fo_181_0⟩
instance:FoT 181 1 1:=⟨fo_181_1⟩
instance:FoT 181 2 4:=⟨fo_181_2⟩
instance:FoT 190 0 0:=⟨fo_190_0⟩
instance:FoT 190 1 1:=⟨fo_190_1⟩
instance:FoT 195 0 0:=⟨fo_195_0⟩
instance:FoT 195 1 1:=⟨fo_195_1⟩
instance:FoT 195 2 2:=⟨fo_195_2⟩
instance:FoT 270 1 1:=⟨fo_270_1⟩
instance:FoT 274 0 0:=⟨fo_274_0⟩
instance:FoT 274 2 2:=⟨fo_274_2⟩
instance:FoT 297 0 0:=⟨fo_297_0⟩
instance:FoT 297 1 1:=⟨fo_297_1⟩
instance:FoT 301 0 0:=⟨fo_301_0⟩
instance:FoT 301 1 2:=⟨fo_301_1⟩
instance:FoT 301 2 3:=⟨fo_301_2⟩
instance:FoT 40 0 0:=⟨fo_40_0⟩
instance:FoT 40 1 1:=⟨fo_40_1⟩
instance:FoT 40 2 2:=⟨fo_40_2⟩
instance:FoT 76 0 0:=⟨fo_76_0⟩
instance:FoT 76 1 1:=⟨fo_76_1⟩
instance:FoT 208 0 0:=⟨fo_208_0⟩
instance:FoT 208 1 1:=⟨fo_208_1⟩
instance:StT 9:=⟨runUnderlying9⟩
instance:SlT 22 133:=⟨runUnderlying22⟩
instance:SlT 23 72:=⟨runUnderlying23⟩
instance:SlT 24 68:=⟨runUnderlying24⟩
instance:SlT 25 9:=⟨runUnderlying25⟩
instance:SlT 28 62:=⟨runUnderlying28⟩
instance:SlT 38 42:=⟨runUnderlying38⟩
instance:SlT 63 66:=⟨runUnderlying63⟩
instance:SlT 64 195:=⟨runUnderlying64⟩
instance:SlT 93 3:=⟨runUnderlying93⟩
instance:SlT 128 5:=⟨runUnderlying128⟩
instance:SlT 131 135:=⟨runUnderlying131⟩
instance:SlT 268 274:=⟨runUnderlying268⟩
instance:SlT 299 314:=⟨runUnderlying299⟩
section
variable {P:Program} {n:Nat} {E:List (Nat×Value)} {D:List Deferred} {a:Act} {w:World} {ty:TypeId} {Φ:Fz} {K:List Res}
structure OkS (a:Act) (op:Op) (ty:TypeId) (w:World) (v:Value):Prop where
 h:Ok Tryz.prog a op ty w v
theorem s_move {x:Operand} {v:Value} (he:EnvR n E D a) (hx:ev E x=some v):OkS a (.move x) ty w v:=⟨z4g he hx⟩
theorem s_assign {x:Operand} {v:Value} (he:EnvR n E D a) (hx:ev E x=some v):OkS a (.assign x) ty w v:=⟨z9h he hx⟩
theorem s_pick {c x y:Operand} {v:Value} {b:Bool} (he:EnvR n E D a) (hc:ev E c=some (.bool b)) (hx:ev E (if b then x else y)=some v):OkS a (.pick c x y) ty w v:=⟨y_pick he hc hx⟩
theorem s_extract {x:Operand} {i:Nat} {vs:List Value} {v:Value} (he:EnvR n E D a) (hx:ev E x=some (.tuple vs.toArray)) (hi:vs[i]? = some v):OkS a (.extract x i) ty w v:=⟨z8t he hx hi⟩
theorem s_not {x:Operand} {t:TypeId} {b:Bool} (he:EnvR n E D a) (hx:ev E x=some (.bool b)):OkS a (.unOp .not t x) ty w (.bool (!b)):=⟨y_not he hx⟩
theorem s_nilCheck {x:Operand} {p:Addr} (he:EnvR n E D a) (hx:ev E x=some (.pointer (some p))):OkS a (.nilCheck x) ty w (.pointer (some p)):=⟨y_nilCheck he hx⟩
structure FaV (s f:Nat) (u v:Value):Prop where
 h:∀{n:Nat} {E:List (Nat×Value)} {D:List Deferred} {a:Act} {x:Operand} {ty:TypeId} {w:World},EnvR n E D a→ev E x=some u→Ok Tryz.prog a (.fieldAddr s x f) ty w v
theorem s_fav {x:Operand} {s f:Nat} {u v:Value} (he:EnvR n E D a) (hx:ev E x=some u) (h:FaV s f u v):OkS a (.fieldAddr s x f) ty w v:=⟨h.h he hx⟩
theorem f_own {s f off b o z:Nat} [FoT s f off] (hz:o+off=z):FaV s f (.pointer (some ⟨b,o,none⟩)) (.pointer (some ⟨b,z,none⟩)):=⟨fun he hx=>z6j he hx FoT.h hz⟩
theorem f_at {s f off j z:Nat} {p:Addr} {cs:List Value} [FoT s f off] (hp:At Φ p cs) (hz:j+off=z):FaV s f (.pointer (some (p.add j))) (.pointer (some (p.add z))):=⟨fun he hx=>y_fieldAddr_at he hx hp FoT.h hz⟩
theorem f_p {s f off:Nat} {p:Addr} [FoT s f off]:FaV s f (.pointer (some p)) (.pointer (some (p.add off))):=⟨fun he hx=>y_fieldAddr he hx FoT.h⟩
structure LdV (T:TypeId) (w:World) (u v:Value):Prop where
 h:∀{n:Nat} {E:List (Nat×Value)} {D:List Deferred} {a:Act} {x:Operand} {ty:TypeId},EnvR n E D a→ev E x=some u→Ok Tryz.prog a (.load T x) ty w v
theorem s_ldv {x:Operand} {T:TypeId} {u v:Value} (he:EnvR n E D a) (hx:ev E x=some u) (h:LdV T w u v):OkS a (.load T x) ty w v:=⟨h.h he hx⟩
theorem o_own {T:TypeId} {b off:Nat} {v:Value} (h:LdV T w (.pointer (some ⟨b,off,none⟩)) v):LdV T w (.pointer (some ⟨b,off,none⟩)) v:=h
theorem o_sc {T:TypeId} {u v:Value} [ScT T] (h:LdV T w u v):LdV T w u v:=h
theorem o_ag {T:TypeId} {u v:Value} [AgT T] (h:LdV T w u v):LdV T w u v:=h
theorem v_own (i:Nat) {T:TypeId} {b off:Nat} {cs:List Value} {t:TypeId} {v:Value} [ScT T] (hm:Sees Φ K w) (hk:kget K i=some (.blk b (ob cs t))) (hv:nth cs off=some v):LdV T w (.pointer (some ⟨b,off,none⟩)) v:=⟨fun he hx=>z5b i he hm hx hk hv ScT.h⟩
theorem v_ownA (i:Nat) {T:TypeId} {b off k:Nat} {cs vs:List Value} {t:TypeId} [AgT T] [SzT T k] (hm:Sees Φ K w) (hk:kget K i=some (.blk b (ob cs t))) (hv:ltake (ldrop cs off) k=vs) (hl:vs.length=k):LdV T w (.pointer (some ⟨b,off,none⟩)) (.agg vs.toArray):=⟨fun he hx=>z1w i he hm hx hk AgT.h SzT.h hv hl⟩
theorem v_at {T:TypeId} {p:Addr} {cs:List Value} {v:Value} {j:Nat} [ScT T] (hm:Sees Φ K w) (hp:At Φ p cs) (hv:nth cs j=some v):LdV T w (.pointer (some (p.add j))) v:=⟨fun he hx=>y_load_at j he hm hx hp hv ScT.h⟩
theorem v_at0 {T:TypeId} {p:Addr} {cs:List Value} {v:Value} [ScT T] (hm:Sees Φ K w) (hp:At Φ p cs) (hv:nth cs 0=some v):LdV T w (.pointer (some p)) v:=⟨fun he hx=>y_load_at0 he hm hx hp hv ScT.h⟩
theorem v_atA {T:TypeId} {p:Addr} {k:Nat} {cs:List Value} [AgT T] [SzT T k] (hm:Sees Φ K w) (hp:At Φ p cs) (hl:cs.length=k):LdV T w (.pointer (some p)) (.agg cs.toArray):=⟨fun he hx=>y_load_atA0 he hm hx hp AgT.h SzT.h hl⟩
theorem s_len {x:Operand} {t e:TypeId} {p:Option Addr} {len cap:Nat} [SlT t e] (he:EnvR n E D a) (hx:ev E x=some (.slice p len cap)):OkS a (.call { callee:=.builtin .len,args:=#[x],argTypes:=#[t] }) ty w (.int .i64 (len:Int)):=⟨y_len_slice he hx SlT.h⟩
theorem s_lens {x:Operand} {t:TypeId} {s:ByteArray} [StT t] (he:EnvR n E D a) (hx:ev E x=some (.string s)):OkS a (.call { callee:=.builtin .len,args:=#[x],argTypes:=#[t] }) ty w (.int .i64 (s.size:Int)):=⟨y_len_str he hx StT.h⟩
theorem s_index {x ix:Operand} {t e:TypeId} {kk:IntKind} {p:Addr} {len cap k i:Nat} [SlT t e] [SzT e k] (he:EnvR n E D a) (hx:ev E x=some (.slice (some p) len cap)) (hi:ev E ix=some (.int kk (i:Int))) (hb:i < len):OkS a (.indexAddr t x ix) ty w (.pointer (some (p.add (i * k)))):=⟨y_indexAddr i he hx hi SlT.h SzT.h hb⟩
theorem s_inc {t t':TypeId} {x y:Operand} {i:Nat} (he:EnvR n E D a) (hx:ev E x=some (.int .i64 (i:Int))) (hy:ev E y=some (.int .i64 ((1:Nat):Int))) (hz:i+1≤9223372036854775807):OkS a (.binOp .add t x y t') ty w (.int .i64 ((i+1:Nat):Int)):=⟨z7g he hx hy hz⟩
theorem s_func {fn:Fn} {fs cs:Array Operand} {vfs vcs:List Value} (he:EnvR n E D a) (hf:evs E fs.toList=some vfs) (hc:evs E cs.toList=some vcs):OkS a (.makeFunc fn fs cs) ty w (.func fn vfs.toArray vcs.toArray):=⟨y_makeFunc he hf hc⟩
section
variable {t t':TypeId} {x y:Operand} {k:IntKind}
theorem s_lssNt {i j:Nat} (he:EnvR n E D a) (hx:ev E x=some (.int k ((i:Nat):Int))) (hy:ev E y=some (.int k ((j:Nat):Int))) (h:i < j):OkS a (.binOp .lss t x y t') ty w (.bool true):=⟨y_lss true he hx hy (decide_eq_true (Int.ofNat_lt.2 h))⟩
theorem s_lssNf {i j:Nat} (he:EnvR n E D a) (hx:ev E x=some (.int k ((i:Nat):Int))) (hy:ev E y=some (.int k ((j:Nat):Int))) (h:¬i < j):OkS a (.binOp .lss t x y t') ty w (.bool false):=⟨y_lss false he hx hy (decide_eq_false (fun hh=>h (Int.ofNat_lt.1 hh)))⟩
theorem s_lssIt {i j:Int} (he:EnvR n E D a) (hx:ev E x=some (.int k i)) (hy:ev E y=some (.int k j)) (h:i < j):OkS a (.binOp .lss t x y t') ty w (.bool true):=⟨y_lss true he hx hy (decide_eq_true (h))⟩
theorem s_lssIf {i j:Int} (he:EnvR n E D a) (hx:ev E x=some (.int k i)) (hy:ev E y=some (.int k j)) (h:¬i < j):OkS a (.binOp .lss t x y t') ty w (.bool false):=⟨y_lss false he hx hy (decide_eq_false (h))⟩
theorem s_gtrNt {i j:Nat} (he:EnvR n E D a) (hx:ev E x=some (.int k ((i:Nat):Int))) (hy:ev E y=some (.int k ((j:Nat):Int))) (h:j < i):OkS a (.binOp .gtr t x y t') ty w (.bool true):=⟨y_gtr true he hx hy (decide_eq_true (Int.ofNat_lt.2 h))⟩
theorem s_gtrNf {i j:Nat} (he:EnvR n E D a) (hx:ev E x=some (.int k ((i:Nat):Int))) (hy:ev E y=some (.int k ((j:Nat):Int))) (h:¬j < i):OkS a (.binOp .gtr t x y t') ty w (.bool false):=⟨y_gtr false he hx hy (decide_eq_false (fun hh=>h (Int.ofNat_lt.1 hh)))⟩
theorem s_gtrIt {i j:Int} (he:EnvR n E D a) (hx:ev E x=some (.int k i)) (hy:ev E y=some (.int k j)) (h:j < i):OkS a (.binOp .gtr t x y t') ty w (.bool true):=⟨y_gtr true he hx hy (decide_eq_true (h))⟩
theorem s_gtrIf {i j:Int} (he:EnvR n E D a) (hx:ev E x=some (.int k i)) (hy:ev E y=some (.int k j)) (h:¬j < i):OkS a (.binOp .gtr t x y t') ty w (.bool false):=⟨y_gtr false he hx hy (decide_eq_false (h))⟩
theorem s_leqNt {i j:Nat} (he:EnvR n E D a) (hx:ev E x=some (.int k ((i:Nat):Int))) (hy:ev E y=some (.int k ((j:Nat):Int))) (h:i≤j):OkS a (.binOp .leq t x y t') ty w (.bool true):=⟨y_leq true he hx hy (decide_eq_true (Int.ofNat_le.2 h))⟩
theorem s_leqNf {i j:Nat} (he:EnvR n E D a) (hx:ev E x=some (.int k ((i:Nat):Int))) (hy:ev E y=some (.int k ((j:Nat):Int))) (h:¬i≤j):OkS a (.binOp .leq t x y t') ty w (.bool false):=⟨y_leq false he hx hy (decide_eq_false (fun hh=>h (Int.ofNat_le.1 hh)))⟩
theorem s_leqIt {i j:Int} (he:EnvR n E D a) (hx:ev E x=some (.int k i)) (hy:ev E y=some (.int k j)) (h:i≤j):OkS a (.binOp .leq t x y t') ty w (.bool true):=⟨y_leq true he hx hy (decide_eq_true (h))⟩
theorem s_leqIf {i j:Int} (he:EnvR n E D a) (hx:ev E x=some (.int k i)) (hy:ev E y=some (.int k j)) (h:¬i≤j):OkS a (.binOp .leq t x y t') ty w (.bool false):=⟨y_leq false he hx hy (decide_eq_false (h))⟩
theorem s_geqNt {i j:Nat} (he:EnvR n E D a) (hx:ev E x=some (.int k ((i:Nat):Int))) (hy:ev E y=some (.int k ((j:Nat):Int))) (h:j≤i):OkS a (.binOp .geq t x y t') ty w (.bool true):=⟨y_geq true he hx hy (decide_eq_true (Int.ofNat_le.2 h))⟩
theorem s_geqNf {i j:Nat} (he:EnvR n E D a) (hx:ev E x=some (.int k ((i:Nat):Int))) (hy:ev E y=some (.int k ((j:Nat):Int))) (h:¬j≤i):OkS a (.binOp .geq t x y t') ty w (.bool false):=⟨y_geq false he hx hy (decide_eq_false (fun hh=>h (Int.ofNat_le.1 hh)))⟩
theorem s_geqIt {i j:Int} (he:EnvR n E D a) (hx:ev E x=some (.int k i)) (hy:ev E y=some (.int k j)) (h:j≤i):OkS a (.binOp .geq t x y t') ty w (.bool true):=⟨y_geq true he hx hy (decide_eq_true (h))⟩
theorem s_geqIf {i j:Int} (he:EnvR n E D a) (hx:ev E x=some (.int k i)) (hy:ev E y=some (.int k j)) (h:¬j≤i):OkS a (.binOp .geq t x y t') ty w (.bool false):=⟨y_geq false he hx hy (decide_eq_false (h))⟩
theorem s_ieqlNt {i j:Nat} (he:EnvR n E D a) (hx:ev E x=some (.int k ((i:Nat):Int))) (hy:ev E y=some (.int k ((j:Nat):Int))) (h:i=j):OkS a (.binOp .eql t x y t') ty w (.bool true):=⟨z4t true he hx hy (decide_eq_true (congrArg Int.ofNat h))⟩
theorem s_ieqlNf {i j:Nat} (he:EnvR n E D a) (hx:ev E x=some (.int k ((i:Nat):Int))) (hy:ev E y=some (.int k ((j:Nat):Int))) (h:¬i=j):OkS a (.binOp .eql t x y t') ty w (.bool false):=⟨z4t false he hx hy (decide_eq_false (fun hh=>h (Int.ofNat.inj hh)))⟩
theorem s_ieqlIt {i j:Int} (he:EnvR n E D a) (hx:ev E x=some (.int k i)) (hy:ev E y=some (.int k j)) (h:i=j):OkS a (.binOp .eql t x y t') ty w (.bool true):=⟨z4t true he hx hy (decide_eq_true (h))⟩
theorem s_ieqlIf {i j:Int} (he:EnvR n E D a) (hx:ev E x=some (.int k i)) (hy:ev E y=some (.int k j)) (h:¬i=j):OkS a (.binOp .eql t x y t') ty w (.bool false):=⟨z4t false he hx hy (decide_eq_false (h))⟩
theorem s_ineqNt {i j:Nat} (he:EnvR n E D a) (hx:ev E x=some (.int k ((i:Nat):Int))) (hy:ev E y=some (.int k ((j:Nat):Int))) (h:i=j):OkS a (.binOp .neq t x y t') ty w (.bool false):=⟨y_ineq false he hx hy (congrArg Bool.not (decide_eq_true (congrArg Int.ofNat h)))⟩
theorem s_ineqNf {i j:Nat} (he:EnvR n E D a) (hx:ev E x=some (.int k ((i:Nat):Int))) (hy:ev E y=some (.int k ((j:Nat):Int))) (h:¬i=j):OkS a (.binOp .neq t x y t') ty w (.bool true):=⟨y_ineq true he hx hy (congrArg Bool.not (decide_eq_false (fun hh=>h (Int.ofNat.inj hh))))⟩
theorem s_ineqIt {i j:Int} (he:EnvR n E D a) (hx:ev E x=some (.int k i)) (hy:ev E y=some (.int k j)) (h:i=j):OkS a (.binOp .neq t x y t') ty w (.bool false):=⟨y_ineq false he hx hy (congrArg Bool.not (decide_eq_true (h)))⟩
theorem s_ineqIf {i j:Int} (he:EnvR n E D a) (hx:ev E x=some (.int k i)) (hy:ev E y=some (.int k j)) (h:¬i=j):OkS a (.binOp .neq t x y t') ty w (.bool true):=⟨y_ineq true he hx hy (congrArg Bool.not (decide_eq_false (h)))⟩
theorem s_seqlt {s u:ByteArray} (he:EnvR n E D a) (hx:ev E x=some (.string s)) (hy:ev E y=some (.string u)) (h:s=u):OkS a (.binOp .eql t x y t') ty w (.bool true):=⟨y_seql true he hx hy (decide_eq_true h)⟩
theorem s_seqlf {s u:ByteArray} (he:EnvR n E D a) (hx:ev E x=some (.string s)) (hy:ev E y=some (.string u)) (h:¬s=u):OkS a (.binOp .eql t x y t') ty w (.bool false):=⟨y_seql false he hx hy (decide_eq_false h)⟩
theorem s_sneqt {s u:ByteArray} (he:EnvR n E D a) (hx:ev E x=some (.string s)) (hy:ev E y=some (.string u)) (h:s=u):OkS a (.binOp .neq t x y t') ty w (.bool false):=⟨y_sneq false he hx hy (congrArg Bool.not (decide_eq_true h))⟩
theorem s_sneqf {s u:ByteArray} (he:EnvR n E D a) (hx:ev E x=some (.string s)) (hy:ev E y=some (.string u)) (h:¬s=u):OkS a (.binOp .neq t x y t') ty w (.bool true):=⟨y_sneq true he hx hy (congrArg Bool.not (decide_eq_false h))⟩
end
end
section
variable {a:Act} {w:World} {ty:TypeId} {v:Value} {x y c:Operand} {t s:TypeId} {i f:Nat} {fn:Fn} {fs cs:Array Operand} {c0:Call}
theorem d_move (h:OkS a (.move x) ty w v):OkS a (.move x) ty w v:=h
theorem d_assign (h:OkS a (.assign x) ty w v):OkS a (.assign x) ty w v:=h
theorem d_pick (h:OkS a (.pick c x y) ty w v):OkS a (.pick c x y) ty w v:=h
theorem d_extract (h:OkS a (.extract x i) ty w v):OkS a (.extract x i) ty w v:=h
theorem d_not (h:OkS a (.unOp .not t x) ty w v):OkS a (.unOp .not t x) ty w v:=h
theorem d_nilc (h:OkS a (.nilCheck x) ty w v):OkS a (.nilCheck x) ty w v:=h
theorem d_fld (h:OkS a (.fieldAddr s x f) ty w v):OkS a (.fieldAddr s x f) ty w v:=h
theorem d_idx (h:OkS a (.indexAddr t x y) ty w v):OkS a (.indexAddr t x y) ty w v:=h
theorem d_call (h:OkS a (.call c0) ty w v):OkS a (.call c0) ty w v:=h
theorem d_func (h:OkS a (.makeFunc fn fs cs) ty w v):OkS a (.makeFunc fn fs cs) ty w v:=h
theorem d_add (h:OkS a (.binOp .add t x y s) ty w v):OkS a (.binOp .add t x y s) ty w v:=h
theorem d_lss (h:OkS a (.binOp .lss t x y s) ty w v):OkS a (.binOp .lss t x y s) ty w v:=h
theorem d_gtr (h:OkS a (.binOp .gtr t x y s) ty w v):OkS a (.binOp .gtr t x y s) ty w v:=h
theorem d_leq (h:OkS a (.binOp .leq t x y s) ty w v):OkS a (.binOp .leq t x y s) ty w v:=h
theorem d_geq (h:OkS a (.binOp .geq t x y s) ty w v):OkS a (.binOp .geq t x y s) ty w v:=h
theorem d_eql (h:OkS a (.binOp .eql t x y s) ty w v):OkS a (.binOp .eql t x y s) ty w v:=h
theorem d_neq (h:OkS a (.binOp .neq t x y s) ty w v):OkS a (.binOp .neq t x y s) ty w v:=h
end
section
variable {n:Nat} {E:List (Nat×Value)} {D:List Deferred} {a:Act} {w:World} {ty:TypeId} {Φ:Fz} {K:List Res} {op:Op} {v:Value}
theorem cellsV {cs vs:List Value} {off k:Nat} (h:ltake (ldrop cs off) k=vs:=by first | (dsimp only [ltake,ldrop,List.tail,Nat.zero_add,Nat.reduceAdd];try rfl;all_goals fail) | fail):ltake (ldrop cs off) k=vs:=h
theorem plain1 (he:EnvR n E D a) (h:OkS a op ty w v:=by first | ((with_reducible apply d_move);first | exact s_move he rfl) | ((with_reducible apply d_assign);first | exact s_assign he rfl) | ((with_reducible apply d_pick);first | exact s_pick he rfl rfl) | ((with_reducible apply d_extract);first | exact s_extract he rfl rfl) | ((with_reducible apply d_not);first | exact s_not he rfl) | ((with_reducible apply d_nilc);first | exact s_nilCheck he rfl) | ((with_reducible apply d_fld);first | ((with_reducible apply s_fav he);(exact rfl);first | ((with_reducible apply f_own);(exact rfl)) | exact f_at (by with_reducible assumption) (by rfl) | exact f_p)) | ((with_reducible apply d_idx);first | exact s_index he rfl rfl (by first | with_reducible assumption | assumption)) | ((with_reducible apply d_call);first | exact s_len he rfl | exact s_lens he rfl) | ((with_reducible apply d_func);first | exact s_func he rfl rfl) | ((with_reducible apply d_add);first | exact s_inc he rfl rfl (by omega)) | ((with_reducible apply d_lss);first | exact s_lssNt he rfl rfl (by first | with_reducible assumption | assumption) | exact s_lssNf he rfl rfl (by first | with_reducible assumption | assumption) | exact s_lssIt he rfl rfl (by first | with_reducible assumption | assumption) | exact s_lssIf he rfl rfl (by first | with_reducible assumption | assumption)) | ((with_reducible apply d_gtr);first | exact s_gtrNt he rfl rfl (by first | with_reducible assumption | assumption) | exact s_gtrNf he rfl rfl (by first | with_reducible assumption | assumption) | exact s_gtrIt he rfl rfl (by first | with_reducible assumption | assumption) | exact s_gtrIf he rfl rfl (by first | with_reducible assumption | assumption)) | ((with_reducible apply d_leq);first | exact s_leqNt he rfl rfl (by first | with_reducible assumption | assumption) | exact s_leqNf he rfl rfl (by first | with_reducible assumption | assumption) | exact s_leqIt he rfl rfl (by first | with_reducible assumption | assumption) | exact s_leqIf he rfl rfl (by first | with_reducible assumption | assumption)) | ((with_reducible apply d_geq);first | exact s_geqNt he rfl rfl (by first | with_reducible assumption | assumption) | exact s_geqNf he rfl rfl (by first | with_reducible assumption | assumption) | exact s_geqIt he rfl rfl (by first | with_reducible assumption | assumption) | exact s_geqIf he rfl rfl (by first | with_reducible assumption | assumption)) | ((with_reducible apply d_eql);first | exact s_ieqlNt he rfl rfl (by first | with_reducible assumption | assumption) | exact s_ieqlNf he rfl rfl (by first | with_reducible assumption | assumption) | exact s_ieqlIt he rfl rfl (by first | with_reducible assumption | assumption) | exact s_ieqlIf he rfl rfl (by first | with_reducible assumption | assumption) | exact s_seqlt he rfl rfl (by first | with_reducible assumption | assumption) | exact s_seqlf he rfl rfl (by first | with_reducible assumption | assumption)) | ((with_reducible apply d_neq);first | exact s_ineqNt he rfl rfl (by first | with_reducible assumption | assumption) | exact s_ineqNf he rfl rfl (by first | with_reducible assumption | assumption) | exact s_ineqIt he rfl rfl (by first | with_reducible assumption | assumption) | exact s_ineqIf he rfl rfl (by first | with_reducible assumption | assumption) | exact s_sneqt he rfl rfl (by first | with_reducible assumption | assumption) | exact s_sneqf he rfl rfl (by first | with_reducible assumption | assumption))):OkS a op ty w v:=h
theorem plain2 (he:EnvR n E D a) (hs:Sees Φ K w) (h:OkS a op ty w v:=by ((with_reducible apply s_ldv he);(exact rfl);first | ((with_reducible apply o_sc);first | ((with_reducible apply o_own);first | exact v_own 0 hs rfl rfl | exact v_own 1 hs rfl rfl | exact v_own 2 hs rfl rfl | exact v_own 3 hs rfl rfl | exact v_own 4 hs rfl rfl | exact v_own 5 hs rfl rfl | exact v_own 6 hs rfl rfl | exact v_own 7 hs rfl rfl | exact v_own 8 hs rfl rfl) | exact v_at hs (by with_reducible assumption) (by rfl) | exact v_at0 hs (by with_reducible assumption) (by rfl)) | ((with_reducible apply o_ag);first | ((with_reducible apply o_own);first | exact v_ownA 0 hs rfl (by exact cellsV) (by rfl) | exact v_ownA 1 hs rfl (by exact cellsV) (by rfl) | exact v_ownA 2 hs rfl (by exact cellsV) (by rfl) | exact v_ownA 3 hs rfl (by exact cellsV) (by rfl) | exact v_ownA 4 hs rfl (by exact cellsV) (by rfl) | exact v_ownA 5 hs rfl (by exact cellsV) (by rfl) | exact v_ownA 6 hs rfl (by exact cellsV) (by rfl) | exact v_ownA 7 hs rfl (by exact cellsV) (by rfl) | exact v_ownA 8 hs rfl (by exact cellsV) (by rfl)) | exact v_atA hs (by with_reducible assumption) (by rfl)))):OkS a op ty w v:=h
theorem plainP (he:EnvR n E D a) (hs:Sees Φ K w) (h:OkS a op ty w v:=by first | exact plain1 he | exact plain2 he hs):OkS a op ty w v:=h
end
structure Go2 (n:Nat) (D:List Deferred) (Φ:Fz) (K:List Res) (w:World) (A:Act→World→Prop) (E:List (Nat×Value)) (B:Act→World→Prop) (E':List (Nat×Value)):Prop where
 h:Sees Φ K w→(∀a,EnvR n E' D a→B a w)→∀a,EnvR n E D a→A a w
section
variable {n:Nat} {E E':List (Nat×Value)} {D:List Deferred} {w:World} {Φ:Fz} {K:List Res} {B:Act→World→Prop} {d t j i:Nat} {v u:Value} {b:Bool} {op:Op} {ty:TypeId} {pos:String} {aft:Array Edge} {rest:List Oper} {ops:Array Oper}
 {Q Q0:Exit→Act→World→Prop} {x y:Code} {c:Operand} {f:Act→World→Prop} {id:Nat}
theorem g_refl:Go2 n D Φ K w B E B E:=⟨fun _ k=>k⟩
theorem g_op (ho:∀a,EnvR n E D a→Sees Φ K w→OkS a op ty w v) (hd:Nat.blt d n=true) (h:Go2 n D Φ K w (wpList Tryz.prog ops Q rest) ((d,v)::E) B E') :
  Go2 n D Φ K w (wpList Tryz.prog ops Q (⟨some d,op,ty,pos,aft,none⟩::rest)) E B E':=⟨fun hs k a he=>z3k he (ho a he hs).h hd fun a he=>h.h hs k a he⟩
theorem g_gy (hj:ops[j]?.bind (·.dst)=some t) (hv:get E t=some (.bool b)) (ho:∀a,EnvR n E D a→Sees Φ K w→OkS a op ty w v) (hd:Nat.blt d n=true) (h:Go2 n D Φ K w (wpList Tryz.prog ops Q rest) ((d,v)::E) B E') :
  Go2 n D Φ K w (wpList Tryz.prog ops Q (⟨some d,op,ty,pos,aft,some (j,b)⟩::rest)) E B E':=⟨fun hs k a he=>g_yes he rfl rfl hd hj hv (z6w (ho a he hs).h fun a he=>h.h hs k a he)⟩
theorem g_gn (hj:ops[j]?.bind (·.dst)=some t) (hv:get E t=some u) (hb:notB u b=true) (hd:Nat.blt d n=true) (h:Go2 n D Φ K w (wpList Tryz.prog ops Q rest) ((d,undef)::E) B E') :
  Go2 n D Φ K w (wpList Tryz.prog ops Q (⟨some d,op,ty,pos,aft,some (j,b)⟩::rest)) E B E':=⟨fun hs k a he=>g_no he rfl rfl hd hj hv hb fun a he=>h.h hs k a he⟩
theorem g_nil (h:Go2 n D Φ K w (Q .normal) E B E'):Go2 n D Φ K w (wpList Tryz.prog ops Q []) E B E':=⟨fun hs k a he=>wpList_nil (h.h hs k a he)⟩
theorem g_thn (h:Go2 n D Φ K w (f) E B E'):Go2 n D Φ K w (Exit.then f Q .normal) E B E':=⟨fun hs k a he=>h.h hs k a he⟩
theorem g_the (h:Go2 n D Φ K w (Q (.exit i)) E B E'):Go2 n D Φ K w (Exit.then f Q (.exit i)) E B E':=⟨fun hs k a he=>h.h hs k a he⟩
theorem g_thr (h:Go2 n D Φ K w (Q .ret) E B E'):Go2 n D Φ K w (Exit.then f Q .ret) E B E':=⟨fun hs k a he=>h.h hs k a he⟩
theorem g_bn (h:Go2 n D Φ K w (Q .normal) E B E'):Go2 n D Φ K w (Exit.inBlock i Q .normal) E B E':=⟨fun hs k a he=>h.h hs k a he⟩
theorem g_bx (hi:(if id=i then True else False)=True) (h:Go2 n D Φ K w (Q .normal) E B E'):Go2 n D Φ K w (Exit.inBlock i Q (.exit id)) E B E':=⟨fun hs k a he=>by
 have e:id=i:=by by_cases h:id=i;exact h;rw [if_neg h] at hi;exact (of_eq_true hi).elim
 subst e
 have:=h.h hs k a he
 simp only [Exit.inBlock]
 simpa using this⟩
theorem g_bo (hi:Nat.beq id i=false) (h:Go2 n D Φ K w (Q (.exit id)) E B E'):Go2 n D Φ K w (Exit.inBlock i Q (.exit id)) E B E':=⟨fun hs k a he=>by
 have e:¬id=i:=Nat.ne_of_beq_eq_false hi
 have:=h.h hs k a he
 simp only [Exit.inBlock]
 simpa [e,Ne.symm e] using this⟩
theorem g_br (h:Go2 n D Φ K w (Q .ret) E B E'):Go2 n D Φ K w (Exit.inBlock i Q .ret) E B E':=⟨fun hs k a he=>h.h hs k a he⟩
theorem g_seq (h:Go2 n D Φ K w (x.wp Tryz.prog (Exit.then (y.wp Tryz.prog Q) Q)) E B E'):Go2 n D Φ K w ((Code.seq x y).wp Tryz.prog Q) E B E':=⟨fun hs k a he=>wp_seq (h.h hs k a he)⟩
theorem g_reg {l:List Oper} (h:Go2 n D Φ K w (wpList Tryz.prog l.toArray Q l) E B E'):Go2 n D Φ K w ((Code.region id l.toArray false).wp Tryz.prog Q) E B E':=⟨fun hs k a he=>wp_region_lit (h.h hs k a he)⟩
theorem g_ift (hc:ev E c=some (.bool true)) (h:Go2 n D Φ K w (x.wp Tryz.prog Q) E B E'):Go2 n D Φ K w ((Code.cond c x y).wp Tryz.prog Q) E B E':=⟨fun hs k a he=>if_t he hc (h.h hs k a he)⟩
theorem g_iff (hc:ev E c=some (.bool false)) (h:Go2 n D Φ K w (y.wp Tryz.prog Q) E B E'):Go2 n D Φ K w ((Code.cond c x y).wp Tryz.prog Q) E B E':=⟨fun hs k a he=>if_f he hc (h.h hs k a he)⟩
theorem g_skip (h:Go2 n D Φ K w (Q .normal) E B E'):Go2 n D Φ K w (Code.skip.wp Tryz.prog Q) E B E':=⟨fun hs k a he=>wp_skip (h.h hs k a he)⟩
theorem g_block (h:Go2 n D Φ K w (x.wp Tryz.prog (Exit.inBlock id Q)) E B E'):Go2 n D Φ K w ((Code.block id x).wp Tryz.prog Q) E B E':=⟨fun hs k a he=>wp_block (h.h hs k a he)⟩
theorem g_exit (h:Go2 n D Φ K w (Q (.exit id)) E B E'):Go2 n D Φ K w ((Code.exit id).wp Tryz.prog Q) E B E':=⟨fun hs k a he=>wp_exit (h.h hs k a he)⟩
theorem g_ret (h:Go2 n D Φ K w (Q .ret) E B E'):Go2 n D Φ K w (Code.ret.wp Tryz.prog Q) E B E':=⟨fun hs k a he=>wp_ret (h.h hs k a he)⟩
section
variable {B':World→Prop} {kd:List Nat} {Qp:List PanicEntry→World→Prop} {q:Act→World→Prop} {p:Plan} {Φ':Fz} {K':List Res}
theorem g_dd (h:Go2 n D Φ K w (q) E B E'):Go2 n D Φ K w (z0x Tryz.prog .any ops B' kd Qp q .done) E B E':=⟨fun hs k a he=>h.h hs k a he⟩
theorem g_dq (hi:ops[i]? = some ⟨some d,op,ty,pos,aft,none⟩) (hk:z1p kd i=2) (ho:∀a w,EnvR n E D a→Sees Φ' K' w→OkS a op ty w v) (hd:Nat.blt d n=true)
  (h:Go2 n D Φ K w (z0x Tryz.prog .any ops (Sees Φ' K') kd Qp q p) ((d,v)::E) B E'):Go2 n D Φ K w (z0x Tryz.prog .any ops (Sees Φ' K') kd Qp q (.q i p)) E B E' :=
 ⟨fun hs k a he=>d_q he hi hk (fun w hw=>(ho a w he hw).h) hd fun a he=>h.h hs k a he⟩
theorem g_dq1 (hi:ops[i]? = some ⟨some d,op,ty,pos,aft,none⟩) (hk:z1p kd i=1) (ho:∀a w,EnvR n E D a→OkS a op ty w v) (hd:Nat.blt d n=true)
  (h:Go2 n D Φ K w (z0x Tryz.prog .any ops B' kd Qp q p) ((d,v)::E) B E'):Go2 n D Φ K w (z0x Tryz.prog .any ops B' kd Qp q (.q i p)) E B E' :=
 ⟨fun hs k a he=>d_q1 he hi hk (fun w=>(ho a w he).h) hd fun a he=>h.h hs k a he⟩
theorem g_dqg (hi:ops[i]? = some ⟨some d,op,ty,pos,aft,some (j,b)⟩) (hj:ops[j]?.bind (·.dst)=some t) (hv:get E t=some (.bool b)) (hk:z1p kd i=2) (ho:∀a w,EnvR n E D a→Sees Φ' K' w→OkS a op ty w v) (hd:Nat.blt d n=true)
  (h:Go2 n D Φ K w (z0x Tryz.prog .any ops (Sees Φ' K') kd Qp q p) ((d,v)::E) B E'):Go2 n D Φ K w (z0x Tryz.prog .any ops (Sees Φ' K') kd Qp q (.q i p)) E B E' :=
 ⟨fun hs k a he=>d_qg he hi hj hv hk (fun w hw=>(ho a w he hw).h) hd fun a he=>h.h hs k a he⟩
theorem g_dqg1 (hi:ops[i]? = some ⟨some d,op,ty,pos,aft,some (j,b)⟩) (hj:ops[j]?.bind (·.dst)=some t) (hv:get E t=some (.bool b)) (hk:z1p kd i=1) (ho:∀a w,EnvR n E D a→OkS a op ty w v) (hd:Nat.blt d n=true)
  (h:Go2 n D Φ K w (z0x Tryz.prog .any ops B' kd Qp q p) ((d,v)::E) B E'):Go2 n D Φ K w (z0x Tryz.prog .any ops B' kd Qp q (.q i p)) E B E' :=
 ⟨fun hs k a he=>d_qg1 he hi hj hv hk (fun w=>(ho a w he).h) hd fun a he=>h.h hs k a he⟩
theorem g_dn (hi:ops[i]? = some ⟨some d,op,ty,pos,aft,some (j,b)⟩) (hj:ops[j]?.bind (·.dst)=some t) (hv:get E t=some u) (hb:notB u b=true) (hd:Nat.blt d n=true)
  (h:Go2 n D Φ K w (z0x Tryz.prog .any ops B' kd Qp q p) ((d,undef)::E) B E'):Go2 n D Φ K w (z0x Tryz.prog .any ops B' kd Qp q (.q i p)) E B E' :=
 ⟨fun hs k a he=>d_no he hi hj hv hb hd fun a he=>h.h hs k a he⟩
theorem g_dne (hi:ops[i]? = some ⟨some d,op,ty,pos,aft,some (j,b)⟩) (hj:ops[j]?.bind (·.dst)=some t) (hv:get E t=some u) (hb:notB u b=true) (hd:Nat.blt d n=true)
  (h:Go2 n D Φ K w (z0x Tryz.prog .any ops B' kd Qp q p) ((d,undef)::E) B E'):Go2 n D Φ K w (z0x Tryz.prog .any ops B' kd Qp q (.e i p)) E B E' :=
 ⟨fun hs k a he=>d_no_e he hi hj hv hb hd fun a he=>h.h hs k a he⟩
end
theorem goGo {A:Act→World→Prop} (h:Go2 n D Φ K w A E B E':=by ((repeat first | ((with_reducible apply g_op);(exact fun _ he hs=>plainP he hs);rfl) | with_reducible apply g_nil | with_reducible apply g_thn | with_reducible apply g_seq | with_reducible apply g_reg | ((with_reducible apply g_ift);rfl) | ((with_reducible apply g_iff);rfl) | with_reducible apply g_skip | with_reducible apply g_bn | with_reducible apply g_block | ((with_reducible apply g_gy);rfl;rfl;(exact fun _ he hs=>plainP he hs);rfl) | ((with_reducible apply g_gn);rfl;rfl;rfl;rfl) | ((with_reducible apply g_dq1);rfl;rfl;(exact fun _ _ he=>plain1 he);rfl) | ((with_reducible apply g_dq);rfl;rfl;(exact fun _ _ he hs=>plain2 he hs);rfl) | with_reducible apply g_dd | ((with_reducible apply g_dn);rfl;rfl;rfl;rfl;rfl) | ((with_reducible apply g_dne);rfl;rfl;rfl;rfl;rfl) | ((with_reducible apply g_dqg1);rfl;rfl;rfl;rfl;(exact fun _ _ he=>plain1 he);rfl) | ((with_reducible apply g_dqg);rfl;rfl;rfl;rfl;(exact fun _ _ he hs=>plain2 he hs);rfl) | with_reducible apply g_exit | with_reducible apply g_the | ((with_reducible apply g_bx);rfl) | ((with_reducible apply g_bo);rfl) | with_reducible apply g_ret | with_reducible apply g_thr | with_reducible apply g_br);exact g_refl)):Go2 n D Φ K w A E B E':=h
theorem go {a:Act} {A:Act→World→Prop} (he:EnvR n E D a) (hm:Mem Φ K w) (k:∀a,EnvR n E' D a→B a w) (h:Go2 n D Φ K w A E B E':=by exact goGo):A a w:=h.h hm.toSees k a he
theorem go0 {a:Act} {A:Act→World→Prop} (he:EnvR n E D a) (hm:Mem Φ K w) (k:∀a,EnvR n E' D a→B a w) (h:Go2 n D Φ K w A E B E':=by ((repeat first | ((with_reducible apply g_op);(exact fun _ he hs=>plainP he hs);rfl) | with_reducible apply g_nil | with_reducible apply g_thn | with_reducible apply g_reg | ((with_reducible apply g_ift);rfl) | ((with_reducible apply g_iff);rfl) | with_reducible apply g_skip | with_reducible apply g_bn | with_reducible apply g_block | ((with_reducible apply g_gy);rfl;rfl;(exact fun _ he hs=>plainP he hs);rfl) | ((with_reducible apply g_gn);rfl;rfl;rfl;rfl) | ((with_reducible apply g_dq1);rfl;rfl;(exact fun _ _ he=>plain1 he);rfl) | ((with_reducible apply g_dq);rfl;rfl;(exact fun _ _ he hs=>plain2 he hs);rfl) | with_reducible apply g_dd | ((with_reducible apply g_dn);rfl;rfl;rfl;rfl;rfl) | ((with_reducible apply g_dne);rfl;rfl;rfl;rfl;rfl) | ((with_reducible apply g_dqg1);rfl;rfl;rfl;rfl;(exact fun _ _ he=>plain1 he);rfl) | ((with_reducible apply g_dqg);rfl;rfl;rfl;rfl;(exact fun _ _ he hs=>plain2 he hs);rfl) | with_reducible apply g_exit | with_reducible apply g_the | ((with_reducible apply g_bx);rfl) | ((with_reducible apply g_bo);rfl) | with_reducible apply g_ret | with_reducible apply g_thr | with_reducible apply g_br);exact g_refl)):A a w:=h.h hm.toSees k a he
theorem go1 {a:Act} {A:Act→World→Prop} (he:EnvR n E D a) (hm:Mem Φ K w) (k:∀a,EnvR n E' D a→B a w) (h:Go2 n D Φ K w A E B E':=by ((repeat first | ((with_reducible apply g_op);(exact fun _ he hs=>plainP he hs);rfl) | with_reducible apply g_nil | with_reducible apply g_thn | with_reducible apply g_seq | ((with_reducible apply g_ift);rfl) | ((with_reducible apply g_iff);rfl) | with_reducible apply g_skip | with_reducible apply g_bn | with_reducible apply g_block | ((with_reducible apply g_gy);rfl;rfl;(exact fun _ he hs=>plainP he hs);rfl) | ((with_reducible apply g_gn);rfl;rfl;rfl;rfl) | ((with_reducible apply g_dq1);rfl;rfl;(exact fun _ _ he=>plain1 he);rfl) | ((with_reducible apply g_dq);rfl;rfl;(exact fun _ _ he hs=>plain2 he hs);rfl) | with_reducible apply g_dd | ((with_reducible apply g_dn);rfl;rfl;rfl;rfl;rfl) | ((with_reducible apply g_dne);rfl;rfl;rfl;rfl;rfl) | ((with_reducible apply g_dqg1);rfl;rfl;rfl;rfl;(exact fun _ _ he=>plain1 he);rfl) | ((with_reducible apply g_dqg);rfl;rfl;rfl;rfl;(exact fun _ _ he hs=>plain2 he hs);rfl) | with_reducible apply g_exit | with_reducible apply g_the | ((with_reducible apply g_bx);rfl) | ((with_reducible apply g_bo);rfl) | with_reducible apply g_ret | with_reducible apply g_thr | with_reducible apply g_br);exact g_refl)):A a w:=h.h hm.toSees k a he
end
def ksets:List Res→List (Nat×Res)→List Res
 | K,[]=>K
 | K,(i,r)::l=>ksets (kset K i r) l
def kdels:List Res→List Nat→List Res
 | K,[]=>K
 | K,i::l=>kdels (kdel K i) l
def picks (K:List Res):List Nat→List Res
 | []=>[]
 | i::l=>match kget K i with
  | some r=>r::picks K l
  | none=>picks K l
theorem picks_mem {K:List Res}:∀{l:List Nat} {r:Res},r∈picks K l→r∈K
 | [],_,h=>by cases h
 | i::l,r,h=>by
  unfold picks at h
  split at h
  ·rename_i r' hr
   rcases List.mem_cons.1 h with rfl | h
   ·exact z1a hr
   ·exact picks_mem h
  ·exact picks_mem h
class ZeT (t:TypeId) (cs:outParam (List Value)):Prop where h:∃z,ZeroT Tryz.prog t z∧z.cells.toList=cs
instance:ZeT 3 [.int .i64 ((0:Nat):Int)]:=⟨_,zeroValue3,rfl⟩
instance:ZeT 4 [.bool false]:=⟨_,zeroValue4,rfl⟩
instance:ZeT 5 [.int .u8 ((0:Nat):Int)]:=⟨_,zeroValue5,rfl⟩
instance:ZeT 9 [.string ⟨#[]⟩]:=⟨_,zeroValue9,rfl⟩
instance:ZeT 27 [.slice none 0 0,.slice none 0 0,.slice none 0 0,.slice none 0 0]:=⟨_,zeroValue27,rfl⟩
instance:ZeT 30 [.slice none 0 0,.int .i64 ((0:Nat):Int)]:=⟨_,zeroValue30,rfl⟩
instance:ZeT 38 [.slice none 0 0]:=⟨_,zeroValue38,rfl⟩
instance:ZeT 42 [.string ⟨#[]⟩,.int .i64 ((0:Nat):Int),.slice none 0 0]:=⟨_,zeroValue42,rfl⟩
instance:ZeT 62 [.string ⟨#[]⟩,.string ⟨#[]⟩,.int .i64 ((0:Nat):Int),.slice none 0 0]:=⟨_,zeroValue62,rfl⟩
instance:ZeT 66 [.int .i64 ((0:Nat):Int),.int .i64 ((0:Nat):Int),.string ⟨#[]⟩,.slice none 0 0,.slice none 0 0]:=⟨_,zeroValue66,rfl⟩
instance:ZeT 68 [.string ⟨#[]⟩,.slice none 0 0,.string ⟨#[]⟩,.int .i64 ((0:Nat):Int),.int .i64 ((0:Nat):Int),.string ⟨#[]⟩,.slice none 0 0,.slice none 0 0]:=⟨_,zeroValue68,rfl⟩
instance:ZeT 72 [.string ⟨#[]⟩,.string ⟨#[]⟩]:=⟨_,zeroValue72,rfl⟩
instance:ZeT 89 [.pointer none]:=⟨_,zeroValue89,rfl⟩
instance:ZeT 93 [.slice none 0 0]:=⟨_,zeroValue93,rfl⟩
instance:ZeT 94 [.map none]:=⟨_,zeroValue94,rfl⟩
instance:ZeT 99 [.pointer none,.map none,.pointer none,.int .i64 ((0:Nat):Int)]:=⟨_,zeroValue99,rfl⟩
instance:ZeT 108 [.nilFunc]:=⟨_,zeroValue108,rfl⟩
instance:ZeT 130 [.pointer none,.slice none 0 0]:=⟨_,zeroValue130,rfl⟩
instance:ZeT 133 [.string ⟨#[]⟩,.slice none 0 0]:=⟨_,zeroValue133,rfl⟩
instance:ZeT 135 [.string ⟨#[]⟩,.slice none 0 0]:=⟨_,zeroValue135,rfl⟩
instance:ZeT 160 [.nilFunc]:=⟨_,zeroValue160,rfl⟩
instance:ZeT 190 [.string ⟨#[]⟩,.string ⟨#[]⟩,.slice none 0 0]:=⟨_,zeroValue190,rfl⟩
instance:ZeT 195 [.string ⟨#[]⟩,.slice none 0 0,.int .i64 ((0:Nat):Int),.int .i64 ((0:Nat):Int),.string ⟨#[]⟩,.slice none 0 0,.slice none 0 0]:=⟨_,zeroValue195,rfl⟩
instance:ZeT 270 [.int .i64 ((0:Nat):Int),.int .i64 ((0:Nat):Int)]:=⟨_,zeroValue270,rfl⟩
instance:ZeT 274 [.int .i64 ((0:Nat):Int),.int .i64 ((0:Nat):Int),.string ⟨#[]⟩,.int .i64 ((0:Nat):Int)]:=⟨_,zeroValue274,rfl⟩
instance:ZeT 314 [.int .i64 ((0:Nat):Int),.int .i64 ((0:Nat):Int)]:=⟨_,zeroValue314,rfl⟩
theorem c_agg (l:List Value):(Value.agg (List.toArray l)).cells.toList=l:=rfl
theorem c_int (k:IntKind) (i:Int):(Value.int k i).cells.toList=[.int k i]:=rfl
theorem c_bool (b:Bool):(Value.bool b).cells.toList=[.bool b]:=rfl
theorem c_str (s:ByteArray):(Value.string s).cells.toList=[.string s]:=rfl
theorem c_ptr (p:Option Addr):(Value.pointer p).cells.toList=[.pointer p]:=rfl
theorem c_sl (p:Option Addr) (n c:Nat):(Value.slice p n c).cells.toList=[.slice p n c]:=rfl
theorem c_map (b:Option Nat):(Value.map b).cells.toList=[.map b]:=rfl
theorem c_fun (f:Fn) (x y:Array Value):(Value.func f x y).cells.toList=[.func f x y]:=rfl
section
variable {n:Nat} {E:List (Nat×Value)} {D:List Deferred} {a:Act} {w:World} {Φ:Fz} {K K':List Res} {d:Nat} {ty:TypeId} {pos:String} {aft:Array Edge} {rest:List Oper} {ops:Array Oper} {Q:Exit→Act→World→Prop}
theorem Mem.nf (hm:Mem Φ K w) (h:K=K':=by first | (dsimp only [kset,ksets,kdel,kdels,z8m,over];try rfl;all_goals fail) | rfl):Mem Φ K' w:=h▸hm
theorem Mem.pl {r:Res} (hm:Mem Φ K w) (i:Nat) (hk:kget K i=some r:=by rfl) (h:r::kdel K i=K':=by first | (dsimp only [kset,ksets,kdel,kdels,z8m,over];try rfl;all_goals fail) | rfl):Mem Φ K' w:=h▸hm.pull hk
theorem kdels_mem (hm:Mem Φ K w):∀(l:List Nat),Mem Φ (kdels K l) w:=fun l=>by
 induction l generalizing K with
 | nil=>exact hm
 | cons i l ih=>exact ih (hm.del i)
theorem Mem.dl (hm:Mem Φ K w) (l:List Nat) (h:kdels K l=K':=by first | (dsimp only [kset,ksets,kdel,kdels,z8m,over];try rfl;all_goals fail) | rfl):Mem Φ K' w:=h▸kdels_mem hm l
theorem z1v {id:Nat} {l:List Oper} (kd:List Nat) (p:Plan) (is:List Nat) (he:EnvR n E D a) (hm:Mem Φ K w) (h:∀w,Mem Φ K w→z0x Tryz.prog .any l.toArray (Sees Φ (picks K is)) kd (fun c w=>∀a,a.defers=D→Q (.panic c) a w) (Q .normal) p a w)
  (hB:planB l.toArray kd p=true:=by kernel_rfl):(Code.region id l.toArray true).wp Tryz.prog Q a w:=z8k kd p _ he hm mixed hB (fun r hr=>picks_mem hr) h
theorem Mem.sn {Ψ:Fz} {X:List Res} (hm:Mem Ψ K w) (hl:Φ.Le Ψ) (hK:∀r∈X,r∈K:=by first | (simp [picks,kget,kset,ksets,kdel,kdels,z8m,over];all_goals fail) | fail):Sees Φ X w:=hm.seesIn hl hK
theorem z2u (l:List Bs) (x:Bs):strs l++[.string x]=strs (l++[x]):=by rw [z1l];rfl
end
structure AtE (n:Nat) (D:List Deferred) (Φ:Fz) (K:List Res) (w:World) (A:Act→World→Prop) (E E':List (Nat×Value)) (d:Nat) (op:Op) (S:World→Prop) (B:Act→World→Prop) (Qp:List PanicEntry→World→Prop):Prop where
 h:Sees Φ K w→(∀a ty pos aft g,EnvR n E' D a→Oper.eff Tryz.prog ⟨some d,op,ty,pos,aft,g⟩ a w (fun v w'=>S w'∧∀a,EnvR n ((d,v)::E') D a→B a w') Qp)→∀a,EnvR n E D a→A a w
structure AtE0 (n:Nat) (D:List Deferred) (Φ:Fz) (K:List Res) (w:World) (A:Act→World→Prop) (E E':List (Nat×Value)) (op:Op) (S:World→Prop) (B:Act→World→Prop) (Qp:List PanicEntry→World→Prop):Prop where
 h:Sees Φ K w→(∀a ty pos aft g,EnvR n E' D a→Oper.eff Tryz.prog ⟨none,op,ty,pos,aft,g⟩ a w (fun _ w'=>S w'∧∀a,EnvR n E' D a→B a w') Qp)→∀a,EnvR n E D a→A a w
structure AtQ (n:Nat) (D:List Deferred) (Φ:Fz) (K:List Res) (w:World) (A:Act→World→Prop) (E E':List (Nat×Value)) (d:Nat) (op:Op) (W:World→Prop) (B:Act→World→Prop):Prop where
 h:Sees Φ K w→∀v,(∀a ty w,EnvR n E' D a→W w→Ok Tryz.prog a op ty w v)→(∀a,EnvR n ((d,v)::E') D a→B a w)→∀a,EnvR n E D a→A a w
section
variable {n:Nat} {D:List Deferred} {Φ Φ':Fz} {K K':List Res} {w:World} {A B B0 q:Act→World→Prop} {E E' E1:List (Nat×Value)} {d i j t:Nat} {b:Bool} {op:Op} {S W B':World→Prop} {Qp:List PanicEntry→World→Prop} {ty:TypeId} {pos:String} {aft:Array Edge} {rest:List Oper} {ops:Array Oper} {Q:Exit→Act→World→Prop} {kd:List Nat} {p:Plan}
theorem e_go (h1:Go2 n D Φ K w A E B0 E1) (h2:AtE n D Φ K w B0 E1 E' d op S B Qp):AtE n D Φ K w A E E' d op S B Qp:=⟨fun hs k a he=>h1.h hs (fun a he=>h2.h hs k a he) a he⟩
theorem e0_go (h1:Go2 n D Φ K w A E B0 E1) (h2:AtE0 n D Φ K w B0 E1 E' op S B Qp):AtE0 n D Φ K w A E E' op S B Qp:=⟨fun hs k a he=>h1.h hs (fun a he=>h2.h hs k a he) a he⟩
theorem q_go (h1:Go2 n D Φ K w A E B0 E1) (h2:AtQ n D Φ K w B0 E1 E' d op W B):AtQ n D Φ K w A E E' d op W B:=⟨fun hs v ho k a he=>h1.h hs (fun a he=>h2.h hs v ho k a he) a he⟩
theorem e_st (hd:Nat.blt d n=true):AtE n D Φ K w (wpList Tryz.prog ops Q (⟨some d,op,ty,pos,aft,none⟩::rest)) E E d op (fun _=>True) (wpList Tryz.prog ops Q rest) (fun c w'=>∀a,a.defers=D→Q (.panic c) a w') :=
 ⟨fun _ h a he=>st he rfl hd rfl (z1b (h a ty pos aft none he) (fun _ _ h=>h.2) (fun _ _ h=>h))⟩
theorem e_gy (hj:ops[j]?.bind (·.dst)=some t) (hv:get E t=some (.bool b)) (hd:Nat.blt d n=true):AtE n D Φ K w (wpList Tryz.prog ops Q (⟨some d,op,ty,pos,aft,some (j,b)⟩::rest)) E E d op (fun _=>True) (wpList Tryz.prog ops Q rest) (fun c w'=>∀a,a.defers=D→Q (.panic c) a w') :=
 ⟨fun _ h a he=>g_yes he rfl rfl hd hj hv (z1b (h a ty pos aft (some (j,b)) he) (fun _ _ h=>h.2) (fun _ _ h=>h))⟩
theorem e_dp (hi:ops[i]? = some ⟨some d,op,ty,pos,aft,none⟩) (hk:z1p kd i=0) (hd:Nat.blt d n=true):AtE n D Φ K w (z0x Tryz.prog .any ops B' kd Qp q (.e i p)) E E d op (fun w'=>leans .any kd ⟨some d,op,ty,pos,aft,none⟩=true→B' w') (z0x Tryz.prog .any ops B' kd Qp q p) Qp :=
 ⟨fun _ h a he=>d_e he hi hk hd (h a ty pos aft none he)⟩
theorem e_dg (hi:ops[i]? = some ⟨some d,op,ty,pos,aft,some (j,b)⟩) (hj:ops[j]?.bind (·.dst)=some t) (hv:get E t=some (.bool b)) (hk:z1p kd i=0) (hd:Nat.blt d n=true):AtE n D Φ K w (z0x Tryz.prog .any ops B' kd Qp q (.e i p)) E E d op (fun w'=>leans .any kd ⟨some d,op,ty,pos,aft,some (j,b)⟩=true→B' w') (z0x Tryz.prog .any ops B' kd Qp q p) Qp :=
 ⟨fun _ h a he=>d_eg he hi hj hv hk hd (h a ty pos aft (some (j,b)) he)⟩
theorem e0_st:AtE0 n D Φ K w (wpList Tryz.prog ops Q (⟨none,op,ty,pos,aft,none⟩::rest)) E E op (fun _=>True) (wpList Tryz.prog ops Q rest) (fun c w'=>∀a,a.defers=D→Q (.panic c) a w') :=
 ⟨fun _ h a he=>st0 he rfl rfl (z1b (h a ty pos aft none he) (fun _ _ h=>h.2) (fun _ _ h=>h))⟩
theorem e0_gy (hj:ops[j]?.bind (·.dst)=some t) (hv:get E t=some (.bool b)):AtE0 n D Φ K w (wpList Tryz.prog ops Q (⟨none,op,ty,pos,aft,some (j,b)⟩::rest)) E E op (fun _=>True) (wpList Tryz.prog ops Q rest) (fun c w'=>∀a,a.defers=D→Q (.panic c) a w') :=
 ⟨fun _ h a he=>g_yes0 he rfl rfl hj hv (z1b (h a ty pos aft (some (j,b)) he) (fun _ _ h=>h.2) (fun _ _ h=>h))⟩
theorem e0_dp (hi:ops[i]? = some ⟨none,op,ty,pos,aft,none⟩) (hk:z1p kd i=0):AtE0 n D Φ K w (z0x Tryz.prog .any ops B' kd Qp q (.e i p)) E E op (fun w'=>leans .any kd ⟨none,op,ty,pos,aft,none⟩=true→B' w') (z0x Tryz.prog .any ops B' kd Qp q p) Qp :=
 ⟨fun _ h a he=>d_e0 he hi hk (h a ty pos aft none he)⟩
theorem q_st (hd:Nat.blt d n=true):AtQ n D Φ K w (wpList Tryz.prog ops Q (⟨some d,op,ty,pos,aft,none⟩::rest)) E E d op (Sees Φ K) (wpList Tryz.prog ops Q rest):=⟨fun hs _ ho k a he=>z3k he (ho a ty w he hs) hd k⟩
theorem q_gy (hj:ops[j]?.bind (·.dst)=some t) (hv:get E t=some (.bool b)) (hd:Nat.blt d n=true):AtQ n D Φ K w (wpList Tryz.prog ops Q (⟨some d,op,ty,pos,aft,some (j,b)⟩::rest)) E E d op (Sees Φ K) (wpList Tryz.prog ops Q rest):=⟨fun hs _ ho k a he=>g_yes he rfl rfl hd hj hv (z6w (ho a ty w he hs) k)⟩
theorem q_d1 (hi:ops[i]? = some ⟨some d,op,ty,pos,aft,none⟩) (hk:z1p kd i=1) (hd:Nat.blt d n=true):AtQ n D Φ K w (z0x Tryz.prog .any ops B' kd Qp q (.q i p)) E E d op (fun _=>True) (z0x Tryz.prog .any ops B' kd Qp q p):=⟨fun _ _ ho k a he=>d_q1 he hi hk (fun w=>ho a ty w he trivial) hd k⟩
theorem q_d2 (hi:ops[i]? = some ⟨some d,op,ty,pos,aft,none⟩) (hk:z1p kd i=2) (hd:Nat.blt d n=true):AtQ n D Φ K w (z0x Tryz.prog .any ops B' kd Qp q (.q i p)) E E d op B' (z0x Tryz.prog .any ops B' kd Qp q p):=⟨fun _ _ ho k a he=>d_q he hi hk (fun w hw=>ho a ty w he hw) hd k⟩
theorem q_d1g (hi:ops[i]? = some ⟨some d,op,ty,pos,aft,some (j,b)⟩) (hj:ops[j]?.bind (·.dst)=some t) (hv:get E t=some (.bool b)) (hk:z1p kd i=1) (hd:Nat.blt d n=true):AtQ n D Φ K w (z0x Tryz.prog .any ops B' kd Qp q (.q i p)) E E d op (fun _=>True) (z0x Tryz.prog .any ops B' kd Qp q p):=⟨fun _ _ ho k a he=>d_qg1 he hi hj hv hk (fun w=>ho a ty w he trivial) hd k⟩
theorem q_d2g (hi:ops[i]? = some ⟨some d,op,ty,pos,aft,some (j,b)⟩) (hj:ops[j]?.bind (·.dst)=some t) (hv:get E t=some (.bool b)) (hk:z1p kd i=2) (hd:Nat.blt d n=true):AtQ n D Φ K w (z0x Tryz.prog .any ops B' kd Qp q (.q i p)) E E d op B' (z0x Tryz.prog .any ops B' kd Qp q p):=⟨fun _ _ ho k a he=>d_qg he hi hj hv hk (fun w hw=>ho a ty w he hw) hd k⟩
end
def offAt:List Nat→Nat→Nat
 | [],_=>0
 | x::_,0=>x
 | _::l,i+1=>offAt l i
def setAt:List Value→Nat→Value→List Value
 | [],_,_=>[]
 | _::l,0,v=>v::l
 | x::l,i+1,v=>x::setAt l i v
def patch1 (zs:List Value) (os:List Nat):List (Nat×Value)→List Value
 | []=>zs
 | (i,v)::l=>patch1 (setAt zs (offAt os i) v) os l
def patch (zs:List Value) (os:List Nat):List (Nat×Value)→List Value
 | []=>zs
 | (i,v)::l=>patch (z8m zs (offAt os i) v.cells.toList) os l
def epick (E:List (Nat×Value)):List Nat→Option (List (Nat×Value))
 | []=>some []
 | t::l=>match get E t,epick E l with
  | some v,some r=>some ((t,v)::r)
  | _,_=>none
theorem epick_sub {E:List (Nat×Value)}:∀{ks:List Nat} {E1:List (Nat×Value)},epick E ks=some E1→∀t v,get E1 t=some v→get E t=some v
 | [],E1,h,t,v,hv=>by simp only [epick,Option.some.injEq] at h;subst h;cases hv
 | k::ks,E1,h,t,v,hv=>by
  simp only [epick] at h
  split at h
  ·rename_i u r h1 h2
   simp only [Option.some.injEq] at h
   subst h
   rcases z5f hv with ⟨rfl,rfl⟩ | ⟨_,hv⟩
   ·exact h1
   ·exact epick_sub h2 t v hv
  ·cases h
def eput:List (Nat×Value)→List (Nat×Value)→List (Nat×Value)
 | [],E=>E
 | x::X,E=>x::eput X E
def ktake:List Res→Nat→Option (Res×List Res)
 | [],_=>none
 | r::K,0=>some (r,K)
 | r::K,i+1=>match ktake K i with
  | some (x,K')=>some (x,r::K')
  | none=>none
theorem ktake_get {K:List Res} {i:Nat} {r:Res} {K':List Res} (h:ktake K i=some (r,K')):kget K i=some r∧K'=kdel K i:=by
 induction K generalizing i K' with
 | nil=>cases h
 | cons x K ih=>cases i with
  | zero=>simp only [ktake,Option.some.injEq,Prod.mk.injEq] at h;exact ⟨by rw [← h.1];rfl,h.2.symm⟩
  | succ i =>
   simp only [ktake] at h
   split at h
   ·rename_i y K1 h1
    simp only [Option.some.injEq,Prod.mk.injEq] at h
    obtain ⟨rfl,rfl⟩:=h
    obtain ⟨h2,rfl⟩:=ih h1
    exact ⟨h2,rfl⟩
   ·cases h
def kpulls:List Res→List Nat→Option (List Res)
 | K,[]=>some K
 | K,i::l=>match ktake K i with
  | some (r,K')=>kpulls (r::K') l
  | none=>none
theorem kpulls_mem {Φ:Fz} {K K':List Res} {w:World} (l:List Nat) (h:kpulls K l=some K') (hm:Mem Φ K w):Mem Φ K' w:=by
 induction l generalizing K with
 | nil=>simp only [kpulls,Option.some.injEq] at h;exact h▸hm
 | cons i l ih =>
  simp only [kpulls] at h
  split at h
  ·rename_i r K1 h1
   obtain ⟨h2,rfl⟩:=ktake_get h1
   exact ih h (hm.pull h2)
  ·cases h
def flat:List (Nat×Value)→List Value
 | []=>[]
 | (_,v)::l=>v.cells.toList++flat l
def planOp:Nat→Nat→Plan→Plan
 | 0,i,p=>.e i p
 | _+1,i,p=>.q i p
class BzT (t:TypeId) (zs:outParam (List Value)) (os:outParam (List Nat)):Prop where h:True
instance:BzT 106 [.slice none 0 0,.slice none 0 0,.slice none 0 0,.slice none 0 0,.map none,.map none,.map none,.map none] [0,4,5,6,7]:=⟨trivial⟩
instance:BzT 113 [.slice none 0 0,.slice none 0 0,.slice none 0 0,.slice none 0 0,.slice none 0 0] [0,4]:=⟨trivial⟩
instance:BzT 133 [.string ⟨#[]⟩,.slice none 0 0] [0,1]:=⟨trivial⟩
instance:BzT 135 [.string ⟨#[]⟩,.slice none 0 0] [0,1]:=⟨trivial⟩
instance:BzT 150 [.slice none 0 0,.int .i64 ((0:Nat):Int),.bool false] [0,1,2]:=⟨trivial⟩
instance:BzT 177 [] []:=⟨trivial⟩
instance:BzT 181 [.string ⟨#[]⟩,.string ⟨#[]⟩,.int .i64 ((0:Nat):Int),.slice none 0 0,.pointer none] [0,1,4]:=⟨trivial⟩
instance:BzT 190 [.string ⟨#[]⟩,.string ⟨#[]⟩,.slice none 0 0] [0,1]:=⟨trivial⟩
instance:BzT 195 [.string ⟨#[]⟩,.slice none 0 0,.int .i64 ((0:Nat):Int),.int .i64 ((0:Nat):Int),.string ⟨#[]⟩,.slice none 0 0,.slice none 0 0] [0,1,2]:=⟨trivial⟩
instance:BzT 204 [.int .i64 ((0:Nat):Int)] [0]:=⟨trivial⟩
instance:BzT 208 [.slice none 0 0,.int .i64 ((0:Nat):Int)] [0,1]:=⟨trivial⟩
instance:BzT 27 [.slice none 0 0,.slice none 0 0,.slice none 0 0,.slice none 0 0] [0,1,2,3]:=⟨trivial⟩
instance:BzT 270 [.int .i64 ((0:Nat):Int),.int .i64 ((0:Nat):Int)] [0,1]:=⟨trivial⟩
instance:BzT 274 [.int .i64 ((0:Nat):Int),.int .i64 ((0:Nat):Int),.string ⟨#[]⟩,.int .i64 ((0:Nat):Int)] [0,1,2,3]:=⟨trivial⟩
instance:BzT 291 [.int .u64 ((0:Nat):Int),.int .u64 ((0:Nat):Int),.int .u64 ((0:Nat):Int),.int .u64 ((0:Nat):Int),.int .u64 ((0:Nat):Int),.int .u64 ((0:Nat):Int),.int .u64 ((0:Nat):Int),.int .u64 ((0:Nat):Int),.int .u64 ((0:Nat):Int),.int .u64 ((0:Nat):Int),.int .u64 ((0:Nat):Int),.int .u64 ((0:Nat):Int),.int .u64 ((0:Nat):Int),.int .u64 ((0:Nat):Int),.int .u64 ((0:Nat):Int),.int .u64 ((0:Nat):Int),.int .u64 ((0:Nat):Int),.int .u64 ((0:Nat):Int),.int .u64 ((0:Nat):Int),.int .u64 ((0:Nat):Int)] [0,1,2,3,4,5,6,7,8,9,10,11,12,13,14,15,16,17,18,19]:=⟨trivial⟩
instance:BzT 297 [.string ⟨#[]⟩,.int .i64 ((0:Nat):Int)] [0,1]:=⟨trivial⟩
instance:BzT 30 [.slice none 0 0,.int .i64 ((0:Nat):Int)] [0,1]:=⟨trivial⟩
instance:BzT 301 [.string ⟨#[]⟩,.int .i64 ((0:Nat):Int),.map none,.slice none 0 0] [0,2,3]:=⟨trivial⟩
instance:BzT 302 [.string ⟨#[]⟩,.string ⟨#[]⟩,.string ⟨#[]⟩,.string ⟨#[]⟩,.string ⟨#[]⟩,.string ⟨#[]⟩,.string ⟨#[]⟩,.string ⟨#[]⟩,.string ⟨#[]⟩,.string ⟨#[]⟩,.string ⟨#[]⟩,.string ⟨#[]⟩,.string ⟨#[]⟩,.string ⟨#[]⟩,.string ⟨#[]⟩] [0,1,2,3,4,5,6,7,8,9,10,11,12,13,14]:=⟨trivial⟩
instance:BzT 314 [.int .i64 ((0:Nat):Int),.int .i64 ((0:Nat):Int)] [0,1]:=⟨trivial⟩
instance:BzT 318 [.int .u8 ((0:Nat):Int),.int .u8 ((0:Nat):Int),.int .u8 ((0:Nat):Int),.int .u8 ((0:Nat):Int),.int .u8 ((0:Nat):Int),.int .u8 ((0:Nat):Int),.int .u8 ((0:Nat):Int),.int .u8 ((0:Nat):Int),.int .u8 ((0:Nat):Int),.int .u8 ((0:Nat):Int),.int .u8 ((0:Nat):Int),.int .u8 ((0:Nat):Int),.int .u8 ((0:Nat):Int),.int .u8 ((0:Nat):Int),.int .u8 ((0:Nat):Int),.int .u8 ((0:Nat):Int),.int .u8 ((0:Nat):Int),.int .u8 ((0:Nat):Int),.int .u8 ((0:Nat):Int),.int .u8 ((0:Nat):Int),.int .u8 ((0:Nat):Int),.int .u8 ((0:Nat):Int),.int .u8 ((0:Nat):Int),.int .u8 ((0:Nat):Int),.int .u8 ((0:Nat):Int),.int .u8 ((0:Nat):Int),.int .u8 ((0:Nat):Int),.int .u8 ((0:Nat):Int),.int .u8 ((0:Nat):Int),.int .u8 ((0:Nat):Int),.int .u8 ((0:Nat):Int),.int .u8 ((0:Nat):Int)] [0,1,2,3,4,5,6,7,8,9,10,11,12,13,14,15,16,17,18,19,20,21,22,23,24,25,26,27,28,29,30,31]:=⟨trivial⟩
instance:BzT 319 [.int .u8 ((0:Nat):Int),.int .u8 ((0:Nat):Int),.int .u8 ((0:Nat):Int),.int .u8 ((0:Nat):Int),.int .u8 ((0:Nat):Int),.int .u8 ((0:Nat):Int),.int .u8 ((0:Nat):Int),.int .u8 ((0:Nat):Int),.int .u8 ((0:Nat):Int),.int .u8 ((0:Nat):Int),.int .u8 ((0:Nat):Int),.int .u8 ((0:Nat):Int),.int .u8 ((0:Nat):Int),.int .u8 ((0:Nat):Int),.int .u8 ((0:Nat):Int),.int .u8 ((0:Nat):Int),.int .u8 ((0:Nat):Int),.int .u8 ((0:Nat):Int),.int .u8 ((0:Nat):Int),.int .u8 ((0:Nat):Int),.int .u8 ((0:Nat):Int),.int .u8 ((0:Nat):Int),.int .u8 ((0:Nat):Int),.int .u8 ((0:Nat):Int),.int .u8 ((0:Nat):Int),.int .u8 ((0:Nat):Int),.int .u8 ((0:Nat):Int),.int .u8 ((0:Nat):Int),.int .u8 ((0:Nat):Int),.int .u8 ((0:Nat):Int),.int .u8 ((0:Nat):Int),.int .u8 ((0:Nat):Int),.int .u8 ((0:Nat):Int),.int .u8 ((0:Nat):Int),.int .u8 ((0:Nat):Int),.int .u8 ((0:Nat):Int),.int .u8 ((0:Nat):Int),.int .u8 ((0:Nat):Int),.int .u8 ((0:Nat):Int),.int .u8 ((0:Nat):Int),.int .u8 ((0:Nat):Int),.int .u8 ((0:Nat):Int),.int .u8 ((0:Nat):Int),.int .u8 ((0:Nat):Int),.int .u8 ((0:Nat):Int),.int .u8 ((0:Nat):Int),.int .u8 ((0:Nat):Int),.int .u8 ((0:Nat):Int),.int .u8 ((0:Nat):Int),.int .u8 ((0:Nat):Int),.int .u8 ((0:Nat):Int),.int .u8 ((0:Nat):Int),.int .u8 ((0:Nat):Int),.int .u8 ((0:Nat):Int),.int .u8 ((0:Nat):Int),.int .u8 ((0:Nat):Int),.int .u8 ((0:Nat):Int),.int .u8 ((0:Nat):Int),.int .u8 ((0:Nat):Int),.int .u8 ((0:Nat):Int),.int .u8 ((0:Nat):Int),.int .u8 ((0:Nat):Int),.int .u8 ((0:Nat):Int),.int .u8 ((0:Nat):Int)] [0,1,2,3,4,5,6,7,8,9,10,11,12,13,14,15,16,17,18,19,20,21,22,23,24,25,26,27,28,29,30,31,32,33,34,35,36,37,38,39,40,41,42,43,44,45,46,47,48,49,50,51,52,53,54,55,56,57,58,59,60,61,62,63]:=⟨trivial⟩
instance:BzT 324 [.string ⟨#[]⟩,.string ⟨#[]⟩,.nilIface] [0,1,2]:=⟨trivial⟩
instance:BzT 333 [.string ⟨#[]⟩] [0]:=⟨trivial⟩
instance:BzT 339 [.int .u8 ((0:Nat):Int),.int .u8 ((0:Nat):Int)] [0,1]:=⟨trivial⟩
instance:BzT 340 [.int .u8 ((0:Nat):Int),.int .u8 ((0:Nat):Int),.int .u8 ((0:Nat):Int),.int .u8 ((0:Nat):Int),.int .u8 ((0:Nat):Int),.int .u8 ((0:Nat):Int),.int .u8 ((0:Nat):Int),.int .u8 ((0:Nat):Int),.int .u8 ((0:Nat):Int),.int .u8 ((0:Nat):Int),.int .u8 ((0:Nat):Int),.int .u8 ((0:Nat):Int),.int .u8 ((0:Nat):Int),.int .u8 ((0:Nat):Int),.int .u8 ((0:Nat):Int),.int .u8 ((0:Nat):Int),.int .u8 ((0:Nat):Int),.int .u8 ((0:Nat):Int),.int .u8 ((0:Nat):Int),.int .u8 ((0:Nat):Int),.int .u8 ((0:Nat):Int),.int .u8 ((0:Nat):Int),.int .u8 ((0:Nat):Int),.int .u8 ((0:Nat):Int),.int .u8 ((0:Nat):Int),.int .u8 ((0:Nat):Int),.int .u8 ((0:Nat):Int),.int .u8 ((0:Nat):Int),.int .u8 ((0:Nat):Int),.int .u8 ((0:Nat):Int),.int .u8 ((0:Nat):Int),.int .u8 ((0:Nat):Int)] [0,2,4,6,8,10,12,14,16,18,20,22,24,26,28,30]:=⟨trivial⟩
instance:BzT 42 [.string ⟨#[]⟩,.int .i64 ((0:Nat):Int),.slice none 0 0] [0,1,2]:=⟨trivial⟩
instance:BzT 46 [.string ⟨#[]⟩,.int .i64 ((0:Nat):Int),.slice none 0 0,.int .i64 ((0:Nat):Int)] [0,3]:=⟨trivial⟩
instance:BzT 62 [.string ⟨#[]⟩,.string ⟨#[]⟩,.int .i64 ((0:Nat):Int),.slice none 0 0] [0,1]:=⟨trivial⟩
instance:BzT 66 [.int .i64 ((0:Nat):Int),.int .i64 ((0:Nat):Int),.string ⟨#[]⟩,.slice none 0 0,.slice none 0 0] [0,1,2,3,4]:=⟨trivial⟩
instance:BzT 68 [.string ⟨#[]⟩,.slice none 0 0,.string ⟨#[]⟩,.int .i64 ((0:Nat):Int),.int .i64 ((0:Nat):Int),.string ⟨#[]⟩,.slice none 0 0,.slice none 0 0] [0,1,2,3]:=⟨trivial⟩
instance:BzT 72 [.string ⟨#[]⟩,.string ⟨#[]⟩] [0,1]:=⟨trivial⟩
instance:BzT 99 [.pointer none,.map none,.pointer none,.int .i64 ((0:Nat):Int)] [0,1,2,3]:=⟨trivial⟩
def seqPlan:Nat→List Nat→Plan
 | _,[]=>.done
 | i,k::l=>planOp k i (seqPlan (i+1) l)
section
variable {n:Nat} {D:List Deferred} {Φ Φ':Fz} {K K':List Res} {a:Act} {w:World} {A B:Act→World→Prop} {E E':List (Nat×Value)} {d:Nat} {b:Bool} {op:Op} {S W:World→Prop} {Qp:List PanicEntry→World→Prop} {f:FuncId} {X:Value} {xs:Array Operand} {ts:Array TypeId} {vs fs cs:List Value} {y0:Operand} {R:Ending→World→Prop}
theorem nfK {K K':List Res} (h:K=K':=by first | (dsimp only [kset,ksets,kdel,kdels,z8m,over];try rfl;all_goals fail) | rfl):K=K':=h
theorem lnS {S:Prop} (h:S:=by first | exact trivial | (intro hl;first | exact hm.sn (Fz.Le.refl _) | exact hm.sn (by first | assumption | exact Fz.Le.trans (by assumption) (by assumption)) | exact z9d (by kernel_rfl) hl)):S:=h
theorem lnG {S:Prop} (h:S:=by first | exact trivial | (intro hl;first | exact hm.sn (Fz.Le.refl _) | exact hm.sn hG | exact hm.sn hG.1 | exact hm.sn (Fz.Le.trans (by assumption) hG) | exact hm.sn (Fz.Le.trans (by assumption) hG.1) | exact hm.sn (by first | assumption | exact Fz.Le.trans (by assumption) (by assumption)) | exact z9d (by kernel_rfl) hl)):S:=h
theorem cellsC {v:Value} (h:v.cells.toList=vs:=by first | with_reducible exact c_agg _ | with_reducible exact c_int _ _ | with_reducible exact c_bool _ | with_reducible exact c_str _ | with_reducible exact c_ptr _ | with_reducible exact c_sl _ _ _ | with_reducible exact c_map _ | with_reducible exact c_fun _ _ _ | exact Sees.gsCells (i:=0) hm.toSees rfl | exact Sees.gsCells (i:=1) hm.toSees rfl | exact Sees.gsCells (i:=2) hm.toSees rfl | exact Sees.gsCells (i:=3) hm.toSees rfl | exact Sees.gsCells (i:=4) hm.toSees rfl | exact Sees.gsCells (i:=5) hm.toSees rfl | exact Sees.gsCells (i:=6) hm.toSees rfl | exact Sees.gsCells (i:=7) hm.toSees rfl | exact Sees.gsCells (i:=8) hm.toSees rfl | exact Sees.gsCells (i:=9) hm.toSees rfl | exact Sees.gsCells (i:=10) hm.toSees rfl | exact Sees.gsCells (i:=11) hm.toSees rfl | exact c_agg _ | exact c_int _ _ | exact c_bool _ | exact c_str _ | exact c_ptr _ | exact c_sl _ _ _ | exact c_map _ | exact c_fun _ _ _):v.cells.toList=vs:=h
theorem oneC (h:vs.all Value.oneCell'=true:=by first | rfl | exact Sees.gsOne (i:=0) hm.toSees rfl | exact Sees.gsOne (i:=1) hm.toSees rfl | exact Sees.gsOne (i:=2) hm.toSees rfl | exact Sees.gsOne (i:=3) hm.toSees rfl | exact Sees.gsOne (i:=4) hm.toSees rfl | exact Sees.gsOne (i:=5) hm.toSees rfl | exact Sees.gsOne (i:=6) hm.toSees rfl | exact Sees.gsOne (i:=7) hm.toSees rfl | exact Sees.gsOne (i:=8) hm.toSees rfl | exact Sees.gsOne (i:=9) hm.toSees rfl | exact Sees.gsOne (i:=10) hm.toSees rfl | exact Sees.gsOne (i:=11) hm.toSees rfl):vs.all Value.oneCell'=true:=h
theorem atActE (hE:AtE n D Φ K w A E E' d op S B Qp:=by ((with_reducible apply e_go);(exact goGo);first | ((with_reducible apply e_st);rfl) | ((with_reducible apply e_dp);rfl;rfl;rfl) | ((with_reducible apply e_gy);rfl;rfl;rfl) | ((with_reducible apply e_dg);rfl;rfl;rfl;rfl;rfl))):AtE n D Φ K w A E E' d op S B Qp:=hE
theorem atAct0 (hE:AtE0 n D Φ K w A E E' op S B Qp:=by ((with_reducible apply e0_go);(exact goGo);first | (with_reducible apply e0_st) | ((with_reducible apply e0_dp);rfl;rfl) | ((with_reducible apply e0_gy);rfl;rfl) | ((with_reducible apply e0_dg);rfl;rfl;rfl;rfl))):AtE0 n D Φ K w A E E' op S B Qp:=hE
theorem atActQ (hE:AtQ n D Φ K w A E E' d op W B:=by ((with_reducible apply q_go);(exact goGo);first | ((with_reducible apply q_st);rfl) | ((with_reducible apply q_d1);rfl;rfl;rfl) | ((with_reducible apply q_d2);rfl;rfl;rfl) | ((with_reducible apply q_gy);rfl;rfl;rfl) | ((with_reducible apply q_d1g);rfl;rfl;rfl;rfl;rfl) | ((with_reducible apply q_d2g);rfl;rfl;rfl;rfl;rfl))):AtQ n D Φ K w A E E' d op W B:=hE
theorem z0y (hf:∀args w,(callFunc f args).run Tryz.prog w=.ok (.enter f args) w) (he:EnvR n E D a) (hm:Mem Φ K w) (k:∀w,Mem Φ' K' w→∀a,EnvR n ((d,X)::E') D a→B a w) (hE:AtE n D Φ K w A E E' d (.call { callee:=.value (.func f),args:=xs,argTypes:=ts }) S B Qp:=by exact atActE) (hx:evs E' xs.toList=some vs:=by rfl) (c:Calls Tryz.prog f vs.toArray w (fun e w'=>e=.returned X∧Mem Φ' K' w')) (hS:∀w,Mem Φ' K' w→S w:=by intro w hm;exact lnS):A a w :=
 hE.h hm.toSees (fun a ty pos aft g he=>eff_callR he hx hf c fun w hm=>⟨hS w hm,fun a he=>k w hm a he⟩) a he
theorem z1n (hf:∀args w,(callFunc f args).run Tryz.prog w=.ok (.enter f args) w) (he:EnvR n E D a) (hm:Mem Φ K w) (kt:b=true→∀w,Mem Φ' K' w→∀a,EnvR n ((d,.bool true)::E') D a→B a w) (kf:b=false→∀w,Mem Φ' K' w→∀a,EnvR n ((d,.bool false)::E') D a→B a w) (hE:AtE n D Φ K w A E E' d (.call { callee:=.value (.func f),args:=xs,argTypes:=ts }) S B Qp:=by exact atActE) (hx:evs E' xs.toList=some vs:=by rfl) (c:Calls Tryz.prog f vs.toArray w (fun e w'=>e=.returned (.bool b)∧Mem Φ' K' w')) (hS:∀w,Mem Φ' K' w→S w:=by intro w hm;exact lnS):A a w :=
 hE.h hm.toSees (fun a ty pos aft g he=>eff_callB he hx hf c (fun hb w hm=>⟨hS w hm,fun a he=>kt hb w hm a he⟩) (fun hb w hm=>⟨hS w hm,fun a he=>kf hb w hm a he⟩)) a he
theorem FunR (hf:∀args w,(callFunc f args).run Tryz.prog w=.ok (.enter f args) w) (he:EnvR n E D a) (hm:Mem Φ K w) (k:∀w,Mem Φ' K' w→∀a,EnvR n ((d,X)::E') D a→B a w) (hE:AtE n D Φ K w A E E' d (.call { callee:=.value y0,args:=xs,argTypes:=ts }) S B Qp:=by exact atActE) (hy:ev E' y0=some (.func (.func f) fs.toArray cs.toArray):=by rfl) (hx:evs E' xs.toList=some vs:=by rfl) (c:Calls Tryz.prog f (fs++vs++cs).toArray w (fun e w'=>e=.returned X∧Mem Φ' K' w')) (hS:∀w,Mem Φ' K' w→S w:=by intro w hm;exact lnS):A a w :=
 hE.h hm.toSees (fun a ty pos aft g he=>eff_callvR he hy hx hf c fun w hm=>⟨hS w hm,fun a he=>k w hm a he⟩) a he
theorem FunB (hf:∀args w,(callFunc f args).run Tryz.prog w=.ok (.enter f args) w) (he:EnvR n E D a) (hm:Mem Φ K w) (kt:b=true→∀w,Mem Φ' K' w→∀a,EnvR n ((d,.bool true)::E') D a→B a w) (kf:b=false→∀w,Mem Φ' K' w→∀a,EnvR n ((d,.bool false)::E') D a→B a w) (hE:AtE n D Φ K w A E E' d (.call { callee:=.value y0,args:=xs,argTypes:=ts }) S B Qp:=by exact atActE) (hy:ev E' y0=some (.func (.func f) fs.toArray cs.toArray):=by rfl) (hx:evs E' xs.toList=some vs:=by rfl) (c:Calls Tryz.prog f (fs++vs++cs).toArray w (fun e w'=>e=.returned (.bool b)∧Mem Φ' K' w')) (hS:∀w,Mem Φ' K' w→S w:=by intro w hm;exact lnS):A a w :=
 hE.h hm.toSees (fun a ty pos aft g he=>eff_callvB he hy hx hf c (fun hb w hm=>⟨hS w hm,fun a he=>kt hb w hm a he⟩) (fun hb w hm=>⟨hS w hm,fun a he=>kf hb w hm a he⟩)) a he
theorem z2i {β:Type} {X:β→Value} {F1:β→Fz} {KO:β→List Res} {G:β→Prop} (hf:∀args w,(callFunc f args).run Tryz.prog w=.ok (.enter f args) w) (he:EnvR n E D a) (hm:Mem Φ K w) (k:∀y w,G y→Mem (F1 y) (KO y) w→∀a,EnvR n ((d,X y)::E') D a→B a w) (hE:AtE n D Φ K w A E E' d (.call { callee:=.value (.func f),args:=xs,argTypes:=ts }) S B Qp:=by exact atActE) (hx:evs E' xs.toList=some vs:=by rfl) (c:Calls Tryz.prog f vs.toArray w (fun e w'=>∃y,e=.returned (X y)∧G y∧Mem (F1 y) (KO y) w')) (hS:∀y w,G y→Mem (F1 y) (KO y) w→S w:=by intro y w hG hm;exact lnG):A a w :=
 hE.h hm.toSees (fun a ty pos aft g he=>eff_callY he hx hf c fun y w hG hm=>⟨hS y w hG hm,fun a he=>k y w hG hm a he⟩) a he
theorem z3b {α ε:Type} {r:Except ε α} {X:α→Value} {C:ε→List PanicEntry} {Φ1 Φ2:Fz} {KO:α→List Res} {KE:List Res} {fn:Func} {Q0:Exit→Act→World→Prop} (hQ:∀e a w,bodyPost Tryz.prog fn R e a w→Q0 e a w) (hf:∀args w,(callFunc f args).run Tryz.prog w=.ok (.enter f args) w) (he:EnvR n E D a) (hm:Mem Φ K w) (k:∀x w,r=.ok x→Mem Φ1 (KO x) w→∀a,EnvR n ((d,X x)::E') D a→B a w) (kp:∀c w,r=.error c→Mem Φ2 KE w→R (.panicked (C c)) w) (hE:AtE n D Φ K w A E E' d (.call { callee:=.value (.func f),args:=xs,argTypes:=ts }) S B Qp:=by exact atActE) (hx:evs E' xs.toList=some vs:=by rfl)
  (c:Calls Tryz.prog f vs.toArray w (fun e w'=>Out r (fun x=>e=.returned (X x)∧Mem Φ1 (KO x) w') (fun c=>e=.panicked (C c)∧Mem Φ2 KE w'))) (hS:∀x w,r=.ok x→Mem Φ1 (KO x) w→S w:=by intro x w hq hm;exact lnS) (hP:∀c w,(∀a,a.defers=[]→Q0 (.panic c) a w)→Qp c w:=by exact fun _ _ h=>h):A a w :=
 hE.h hm.toSees (fun a ty pos aft g he=>eff_callE he hx hf c (fun x w hq hm=>⟨hS x w hq hm,fun a he=>k x w hq hm a he⟩) (fun c w hq hm=>hP _ _ fun _ hd=>hQ _ _ _ (z0z hd (kp c w hq hm)))) a he
theorem z4u {α β ε:Type} {r:Except ε α} {X:α→β→Value} {C:ε→List PanicEntry} {F1:α→β→Fz} {Φ2:Fz} {KO:α→β→List Res} {KE:List Res} {G:α→β→Prop} {fn:Func} {Q0:Exit→Act→World→Prop} (hQ:∀e a w,bodyPost Tryz.prog fn R e a w→Q0 e a w) (hf:∀args w,(callFunc f args).run Tryz.prog w=.ok (.enter f args) w) (he:EnvR n E D a) (hm:Mem Φ K w) (k:∀x y w,r=.ok x→G x y→Mem (F1 x y) (KO x y) w→∀a,EnvR n ((d,X x y)::E') D a→B a w) (kp:∀c w,r=.error c→Mem Φ2 KE w→R (.panicked (C c)) w) (hE:AtE n D Φ K w A E E' d (.call { callee:=.value (.func f),args:=xs,argTypes:=ts }) S B Qp:=by exact atActE) (hx:evs E' xs.toList=some vs:=by rfl)
  (c:Calls Tryz.prog f vs.toArray w (fun e w'=>Out r (fun x=>∃y,e=.returned (X x y)∧G x y∧Mem (F1 x y) (KO x y) w') (fun c=>e=.panicked (C c)∧Mem Φ2 KE w'))) (hS:∀x y w,r=.ok x→G x y→Mem (F1 x y) (KO x y) w→S w:=by intro x y w hq hG hm;exact lnG) (hP:∀c w,(∀a,a.defers=[]→Q0 (.panic c) a w)→Qp c w:=by exact fun _ _ h=>h):A a w :=
 hE.h hm.toSees (fun a ty pos aft g he=>eff_callX he hx hf c (fun x y w hq hG hm=>⟨hS x y w hq hG hm,fun a he=>k x y w hq hG hm a he⟩) (fun c w hq hm=>hP _ _ fun _ hd=>hQ _ _ _ (z0z hd (kp c w hq hm)))) a he
theorem Sto (i:Nat) {x y:Operand} {T T0:TypeId} {b off k:Nat} {v:Value} (he:EnvR n E D a) (hm:Mem Φ K w) (kk:∀w,Mem Φ K' w→∀a,EnvR n E' D a→B a w) (hE:AtE0 n D Φ K w A E E' (.store T x y) S B Qp:=by exact atAct0) (hT:SzT T k:=by infer_instance)
  (hx:ev E' x=some (.pointer (some ⟨b,off,none⟩)):=by rfl) (hy:ev E' y=some v:=by rfl) (hk:kget K i=some (.blk b (ob cs T0)):=by rfl) (hc:v.cells.toList=vs:=by exact cellsC) (hl:vs.length=k:=by rfl)
  (h1:vs.all Value.oneCell'=true:=by exact oneC) (hf:Nat.ble (off+vs.length) cs.length=true:=by rfl) (hK:kset K i (.blk b (ob (z8m cs off vs) T0))=K':=by exact nfK) (hS:∀w,Mem Φ K' w→S w:=by intro w hm;exact lnS):A a w :=
 hE.h hm.toSees (fun a ty pos aft g he=>z2f i he hm hx hy hk hc hT.h hl h1 hf fun w hm=>⟨hS w (hK▸hm),fun a he=>kk w (hK▸hm) a he⟩) a he
theorem Alc {T:TypeId} (he:EnvR n E D a) (hm:Mem Φ K w) (k:∀b w,Mem Φ (.blk b (ob cs T)::K) w→∀a,EnvR n ((d,.pointer (some ⟨b,0,none⟩))::E') D a→B a w) (hE:AtE n D Φ K w A E E' d (.alloc T) S B Qp:=by exact atActE) (hZ:ZeT T cs:=by infer_instance) (hS:∀b w,Mem Φ (.blk b (ob cs T)::K) w→S w:=by intro y w hm;exact lnS):A a w :=
 let ⟨_,h1,h2⟩:=hZ.h
 hE.h hm.toSees (fun a ty pos aft g he=>z4j hm h1 h2 fun b w hm=>⟨hS b w hm,fun a he=>k b w hm a he⟩) a he
theorem Bx {T:TypeId} {x:Operand} {v:Value} (he:EnvR n E D a) (hm:Mem Φ K w) (k:∀b w,Mem Φ (.blk b (ob cs T)::K) w→∀a,EnvR n ((d,.pointer (some ⟨b,0,none⟩))::E') D a→B a w) (hE:AtE n D Φ K w A E E' d (.box T x) S B Qp:=by exact atActE) (hx:ev E' x=some v:=by rfl) (hc:v.cells.toList=cs:=by exact cellsC)
  (hS:∀b w,Mem Φ (.blk b (ob cs T)::K) w→S w:=by intro y w hm;exact lnS):A a w:=hE.h hm.toSees (fun a ty pos aft g he=>eff_box he hm hx hc fun b w hm=>⟨hS b w hm,fun a he=>k b w hm a he⟩) a he
theorem MkM {t:TypeId} (he:EnvR n E D a) (hm:Mem Φ K w) (k:∀b w,Mem Φ (.mp b []::K) w→∀a,EnvR n ((d,.map (some b))::E') D a→B a w) (hE:AtE n D Φ K w A E E' d (.makeMap t none) S B Qp:=by exact atActE) (hS:∀b w,Mem Φ (.mp b []::K) w→S w:=by intro y w hm;exact lnS):A a w :=
 hE.h hm.toSees (fun a ty pos aft g he=>eff_makeMap hm fun b w hm=>⟨hS b w hm,fun a he=>k b w hm a he⟩) a he
theorem MapU (i:Nat) {t kt et:TypeId} {x y z:Operand} {b:Nat} {m:List (Bs×Value)} {s:Bs} {v:Value} (ht:Under Tryz.prog t (.map kt et)) (hkt:Under Tryz.prog kt .string) (he:EnvR n E D a) (hm:Mem Φ K w) (k:∀w,Mem Φ K' w→∀a,EnvR n E' D a→B a w) (hE:AtE0 n D Φ K w A E E' (.mapUpdate t x y z) S B Qp:=by exact atAct0)
  (hx:ev E' x=some (.map (some b)):=by rfl) (hy:ev E' y=some (.string s):=by rfl) (hz:ev E' z=some v:=by rfl) (hk:kget K i=some (.mp b m):=by rfl) (hK:kset K i (.mp b (mput m s v))=K':=by exact nfK) (hS:∀w,Mem Φ K' w→S w:=by intro w hm;exact lnS):A a w :=
 hE.h hm.toSees (fun a ty pos aft g he=>eff_mapUpdate i ht hkt he hm hx hy hz hk fun w hm=>⟨hS w (hK▸hm),fun a he=>k w (hK▸hm) a he⟩) a he
theorem App_ (i:Nat) {s x:Operand} {t e:TypeId} {size bytes:Nat} {v vx:Value} {rs news:List Value} {K':Value→List Res} (hT:RowT Tryz.prog t e size bytes) (he:EnvR n E D a) (hm:Mem Φ K w) (k:∀v w,Mem Φ (K' v) w→∀a,EnvR n ((d,v)::E') D a→B a w) (hE:AtE n D Φ K w A E E' d (.call { callee:=.builtin .append,args:=#[s,x],argTypes:=#[t,t] }) S B Qp:=by exact atActE)
  (hs:ev E' s=some v:=by rfl) (hk:kget K i=some (.gs v e size rs):=by rfl) (hx:ev E' x=some vx:=by rfl) (hr:RowIn w vx size news:=by first | exact Sees.rowIn (i:=0) hm.toSees rfl | exact Sees.rowIn (i:=1) hm.toSees rfl | exact Sees.rowIn (i:=2) hm.toSees rfl | exact Sees.rowIn (i:=3) hm.toSees rfl) (h1:news.all Value.oneCell'=true:=by rfl) (hb:(rs.length+news.length) * bytes≤140737488355328:=by first | (rw [ints_length];simp only [List.length_cons,List.length_nil];omega) | (have h_:=hch.length;rw [h_];simp only [List.length_cons,List.length_nil];omega) | (simp only [z1m,List.length_cons,List.length_nil];omega) | (simp only [List.length_cons,List.length_nil];omega)) (hK:∀v,kset K i (.gs v e size (rs++news))=K' v:=by intro v;exact nfK)
  (hS:∀v w,Mem Φ (K' v) w→S w:=by intro y w hm;exact lnS):A a w:=hE.h hm.toSees (fun a ty pos aft g he=>eff_append i hT he hm hs hk hx hr h1 hb fun v w hm=>⟨hS v w (hK v▸hm),fun a he=>k v w (hK v▸hm) a he⟩) a he
theorem BldS {t e:TypeId} {len sz:Nat} {ps:Array (Nat×Operand)} {vs:List (Nat×Value)} {zs:List Value} (he:EnvR n E D a) (hm:Mem Φ K w) (k:∀v w,Mem Φ (.gs v e sz cs::K) w→∀a,EnvR n ((d,v)::E') D a→B a w) (hE:AtE n D Φ K w A E E' d (.buildSlice t len ps) S B Qp:=by exact atActE) (hu:SlT t e:=by infer_instance) (hs:SzT e sz:=by infer_instance) (hz:ZeT e zs:=by infer_instance)
  (hp:evp E' ps.toList=some vs:=by rfl) (hc:flat vs=cs:=by first | (simp only [flat,c_agg,c_int,c_bool,c_str,c_ptr,c_sl,c_map,c_fun,List.cons_append,List.nil_append,List.append_nil];try rfl;all_goals fail) | fail) (hn:Nat.ble (len * sz) 16777216=true:=by rfl) (h0:len * sz≠0:=by decide)
  (hf:Instr.fill (fun i=>some (i * sz,sz)) ((List.range (len * sz)).map (fun x=>zs[x % zs.length]!)).toArray vs=some cs.toArray:=by kernel_rfl) (hl:cs.length=len * sz:=by rfl) (hx:len≤maxLen:=by decide)
  (hS:∀v w,Mem Φ (.gs v e sz cs::K) w→S w:=by intro y w hm;exact lnS):A a w:=by
 obtain ⟨z,h1,h2⟩:=hz.h
 have h3:z.cells=zs.toArray:=by rw [← h2]
 exact hE.h hm.toSees (fun a ty pos aft g he=>z9a he hm hp (built_of hu.h hs.h h1 hn h0 (by rw [h3];simpa using hf)) hl hx fun v w hm _=>⟨hS v w hm,fun a he=>k v w hm a he⟩) a he
theorem Qq {v:Value} (he:EnvR n E D a) (hm:Mem Φ K w) (k:∀a,EnvR n ((d,v)::E') D a→B a w) (hE:AtQ n D Φ K w A E E' d op W B:=by exact atActQ) (o:∀a ty w,EnvR n E' D a→W w→Ok Tryz.prog a op ty w v):A a w:=hE.h hm.toSees v o k a he
theorem BldT {t:TypeId} {ps:Array (Nat×Operand)} {vs:List (Nat×Value)} {zs:List Value} {os:List Nat} (he:EnvR n E D a) (hm:Mem Φ K w) (k:∀a,EnvR n ((d,.agg cs.toArray)::E') D a→B a w) (hE:AtQ n D Φ K w A E E' d (.build t ps) W B:=by exact atActQ) (hz:BzT t zs os:=by infer_instance) (hp:evp E' ps.toList=some vs:=by rfl)
  (hc:patch zs os vs=cs:=by first | (simp only [patch,offAt,c_agg,c_int,c_bool,c_str,c_ptr,c_sl,c_map,c_fun,z8m,over];try rfl;all_goals fail) | (simp only [patch];try rfl;all_goals fail) | fail) (hb:Tryz.prog.built t vs=some cs.toArray:=by kernel_rfl):A a w:=hE.h hm.toSees _ (fun _ _ _ he _=>y_build he hp hb) k a he
theorem z1h {t:TypeId} {ps:Array (Nat×Operand)} {vs:List (Nat×Value)} {zs:List Value} {os:List Nat} (he:EnvR n E D a) (hm:Mem Φ K w) (k:∀a,EnvR n ((d,.agg cs.toArray)::E') D a→B a w) (hE:AtQ n D Φ K w A E E' d (.build t ps) W B:=by exact atActQ) (hz:BzT t zs os:=by infer_instance) (hp:evp E' ps.toList=some vs:=by rfl)
  (hc:patch1 zs os vs=cs:=by first | (dsimp only [patch1,offAt,setAt];try rfl;all_goals fail) | fail) (hb:Tryz.prog.built t vs=some cs.toArray:=by kernel_rfl):A a w:=hE.h hm.toSees _ (fun _ _ _ he _=>y_build he hp hb) k a he
theorem Reg {id:Nat} {l:List Oper} {p:Plan} {Q:Exit→Act→World→Prop} (kd:List Nat) (is:List Nat) (he:EnvR n E D a) (hm:Mem Φ K w) (h:∀w,Mem Φ K w→∀a,EnvR n E' D a→z0x Tryz.prog .any l.toArray (Sees Φ (picks K is)) kd (fun c w=>∀a,a.defers=D→Q (.panic c) a w) (Q .normal) p a w)
  (hE:Go2 n D Φ K w A E ((Code.region id l.toArray true).wp Tryz.prog Q) E':=by exact goGo) (hp:seqPlan 0 kd=p:=by first | (dsimp only [seqPlan,planOp];try rfl;all_goals fail) | fail) (hB:planB l.toArray kd p=true:=by kernel_rfl):A a w :=
 hE.h hm.toSees (fun a he=>z8k kd p _ he hm mixed hB (fun r hr=>picks_mem hr) (fun w hm=>h w hm a he)) a he
theorem Ret1 {fn:Func} {t:Nat} {v:Value} {Q:Exit→Act→World→Prop} (hQ:∀e a w,bodyPost Tryz.prog fn R e a w→Q e a w) (he:EnvR n E [] a) (hm:Mem Φ K w) (h:R (.returned v) w) (hE:Go2 n [] Φ K w A E (Q .ret) E':=by exact goGo) (hr:fn.results=#[.tmp t]:=by rfl) (hv:get E' t=some v:=by rfl):A a w:=hE.h hm.toSees (fun a he=>hQ _ _ _ (ret1 he hr hv h)) a he
theorem Ret2 {fn:Func} {t u:Nat} {v x:Value} {Q:Exit→Act→World→Prop} (hQ:∀e a w,bodyPost Tryz.prog fn R e a w→Q e a w) (he:EnvR n E [] a) (hm:Mem Φ K w) (h:R (.returned (.tuple #[v,x])) w) (hE:Go2 n [] Φ K w A E (Q .ret) E':=by exact goGo) (hr:fn.results=#[.tmp t,.tmp u]:=by rfl) (hv:get E' t=some v:=by rfl) (hx:get E' u=some x:=by rfl):A a w:=hE.h hm.toSees (fun a he=>hQ _ _ _ (ret2 he hr hv hx h)) a he
theorem RetA {fn:Func} {t T b k i:Nat} {T0:TypeId} {Q:Exit→Act→World→Prop} (hQ:∀e a w,bodyPost Tryz.prog fn R e a w→Q e a w) (he:EnvR n E [] a) (hm:Mem Φ K w) (h:R (.returned (.agg cs.toArray)) w) (hE:Go2 n [] Φ K w A E (Q .ret) E':=by exact goGo) (hr:fn.results=#[.cell t T]:=by rfl) (hv:get E' t=some (.pointer (some ⟨b,0,none⟩)):=by rfl)
  (hk:kget K i=some (.blk b (ob cs T0)):=by first | exact (rfl:kget _ 0=_) | exact (rfl:kget _ 1=_) | exact (rfl:kget _ 2=_) | exact (rfl:kget _ 3=_) | exact (rfl:kget _ 4=_) | exact (rfl:kget _ 5=_) | exact (rfl:kget _ 6=_) | exact (rfl:kget _ 7=_) | exact (rfl:kget _ 8=_) | exact (rfl:kget _ 9=_) | exact (rfl:kget _ 10=_) | exact (rfl:kget _ 11=_)) (hT:AgT T:=by infer_instance) (hS:SzT T k:=by infer_instance) (hl:cs.length=k:=by rfl):A a w:=hE.h hm.toSees (fun a he=>hQ _ _ _ (retcA he hm.toSees hr hv hk hT.h hS.h hl h)) a he
theorem z0l {fn:Func} {f:FuncId} {cd:Code} (hf:Tryz.prog.funcs[f]? = some fn) (hn:fn.ntmps=n) (k:∀Q:Exit→Act→World→Prop,(∀e a w,bodyPost Tryz.prog fn R e a w→Q e a w)→∀a,EnvR n (y0j 0 vs) [] a→cd.wp Tryz.prog Q a w) (hb:fn.body=some cd:=by rfl) (hl:Nat.ble vs.length n=true:=by rfl):Calls Tryz.prog f vs.toArray w R:=enter hf hb hn hl k
theorem EnvR.pk {E0:List (Nat×Value)} (he:EnvR n E D a) (h:Sub E0 E:=by repeat' (first | exact trivial | rfl | constructor)):EnvR n E0 D a:=he.of_sub h
theorem EnvR.ks (he:EnvR n E D a) (ks:List Nat) {E1:List (Nat×Value)} (h:epick E ks=some E1:=by rfl):EnvR n E1 D a:=he.sub (epick_sub h)
theorem z1i {Q:Exit→Act→World→Prop} {c:Code} {E1:List (Nat×Value)} (_:EnvR n E1 D a) (_:Mem Φ K w) (I:(Fz→List (Nat×Value)→List (Nat×Res)→Act→World→Prop)→Nat→Act→World→Prop) (m0:Nat)
  (h0:I (fun Ψ X Y a w=>EnvR n (eput X E1) D a∧Mem Ψ (ksets K Y) w) m0 a w)
  (hb:∀m a w,I (fun Ψ X Y a w=>EnvR n (eput X E1) D a∧Mem Ψ (ksets K Y) w) m a w→∀L:Act→World→Prop,(∀m' a w,m' < m→I (fun Ψ X Y a w=>EnvR n (eput X E1) D a∧Mem Ψ (ksets K Y) w) m' a w→L a w)→c.wp Tryz.prog (Exit.then L Q) a w) :
  (Code.loop c).wp Tryz.prog Q a w:=z8x (I _) m0 h0 hb
theorem Mem.ar (hm:Mem Φ K w) (ds is:List Nat) (h:kpulls (kdels K ds) is=some K':=by rfl):Mem Φ K' w:=kpulls_mem is h (kdels_mem hm ds)
theorem z0v {x y:Bool} {M:Prop} (hm:M) (h:x=y):Ending.returned (.bool x)=Ending.returned (.bool y)∧M:=⟨h▸rfl,hm⟩
theorem ret_s {x y:Bs} {M:Prop} (hm:M) (h:x=y):Ending.returned (.string x)=Ending.returned (.string y)∧M:=⟨h▸rfl,hm⟩
theorem ret_i {x y:Int} {k:IntKind} {M:Prop} (hm:M) (h:x=y):Ending.returned (.int k x)=Ending.returned (.int k y)∧M:=⟨h▸rfl,hm⟩
end
section
variable {Φ Ψ:Fz}
class MonoF {α:Type} (R:Fz→List Value→α→Prop):Prop where h:∀Φ Ψ c x,Φ.Le Ψ→R Φ c x→R Ψ c x
instance:MonoF RVal:=⟨RVal.mono⟩
instance:MonoF REx:=⟨REx.mono⟩
instance:MonoF RArm:=⟨RArm.mono⟩
instance:MonoF RStr:=⟨RStr.mono⟩
instance:MonoF RParam:=⟨RParam.mono⟩
instance:MonoF RCon:=⟨RCon.mono⟩
instance:MonoF RData:=⟨RData.mono⟩
instance:MonoF RFun:=⟨RFun.mono⟩
instance:MonoF RMaker:=⟨RMaker.mono⟩
instance:MonoF RNamed:=⟨RNamed.mono⟩
theorem SliceOf.up {α:Type} {R:Fz→List Value→α→Prop} [MonoF R] {k:Nat} {v:Value} {xs:List α} (h:SliceOf R Φ k v xs) (hl:Φ.Le Ψ):SliceOf R Ψ k v xs:=h.mono MonoF.h hl
theorem MapRel.up {α:Type} {R:Fz→List Value→α→Prop} [MonoF R] {m:List (Bs×Value)} {l:List (Bs×α)} (h:MapRel (RVa R Φ) m l) (hl:Φ.Le Ψ):MapRel (RVa R Ψ) m l:=h.mono (RVa.mono MonoF.h hl)
theorem SliceOf.fm {α:Type} {R:Fz→List Value→α→Prop} {k:Nat} {v:Value} {xs:List α} (h:SliceOf R Φ k v xs) (hk:0 < k:=by decide):∃p c,v=.slice p xs.length c∧xs.length≤9223372036854775807∧(xs≠[]→∃q,p=some q):=h.form hk
theorem REx.fm {cs:List Value} {x:Ex} (h:REx Φ cs x):∃p c q d,cs=[.int .i64 x.kind,.int .i64 x.num,.string x.name,.slice p x.args.length c,.slice q x.arms.length d]∧I64 x.num∧SliceOf REx Φ 5 (.slice p x.args.length c) x.args∧SliceOf RArm Φ 7 (.slice q x.arms.length d) x.arms ∧
  x.args.length≤9223372036854775807∧(x.args≠[]→∃q,p=some q)∧x.arms.length≤9223372036854775807∧(x.arms≠[]→∃p,q=some p):=by
 obtain ⟨s,t,rfl,h0,h1,h2⟩:=REx.iff.1 h
 obtain ⟨p,c,rfl,h3,h4⟩:=h1.fm
 obtain ⟨q,d,rfl,h5,h6⟩:=h2.fm
 exact ⟨p,c,q,d,rfl,h0,h1,h2,h3,h4,h5,h6⟩
theorem RVal.fm {cs:List Value} {x:Val} (h:RVal Φ cs x):∃p c,cs=[.string x.con,.int .i64 x.num,.slice p x.args.length c]∧I64 x.num∧SliceOf RVal Φ 3 (.slice p x.args.length c) x.args∧x.args.length≤9223372036854775807∧(x.args≠[]→∃q,p=some q):=by
 obtain ⟨s,rfl,h0,h1⟩:=RVal.iff.1 h
 obtain ⟨p,c,rfl,h3,h4⟩:=h1.fm
 exact ⟨p,c,rfl,h0,h1,h3,h4⟩
theorem RCore.fm {cs:List Value} {x:Core} (h:RCore Φ cs x):∃p1 c1 p2 c2 p3 c3 p4 c4,cs=[.slice p1 x.datas.length c1,.slice p2 x.inputs.length c2,.slice p3 x.funs.length c3,.slice p4 x.outputs.length c4] ∧
  SliceOf RData Φ 2 (.slice p1 x.datas.length c1) x.datas∧SliceOf RParam Φ 2 (.slice p2 x.inputs.length c2) x.inputs∧SliceOf RFun Φ 8 (.slice p3 x.funs.length c3) x.funs∧SliceOf RStr Φ 1 (.slice p4 x.outputs.length c4) x.outputs ∧
  x.datas.length≤9223372036854775807∧(x.datas≠[]→∃q,p1=some q)∧x.inputs.length≤9223372036854775807∧(x.inputs≠[]→∃q,p2=some q)∧x.funs.length≤9223372036854775807∧(x.funs≠[]→∃q,p3=some q)∧x.outputs.length≤9223372036854775807∧(x.outputs≠[]→∃q,p4=some q):=by
 obtain ⟨s,t,u,v,rfl,h1,h2,h3,h4⟩:=h
 obtain ⟨p1,c1,rfl,a1,b1⟩:=h1.fm
 obtain ⟨p2,c2,rfl,a2,b2⟩:=h2.fm
 obtain ⟨p3,c3,rfl,a3,b3⟩:=h3.fm
 obtain ⟨p4,c4,rfl,a4,b4⟩:=h4.fm
 exact ⟨p1,c1,p2,c2,p3,c3,p4,c4,rfl,h1,h2,h3,h4,a1,b1,a2,b2,a3,b3,a4,b4⟩
theorem SliceOf.el {α:Type} {R:Fz→List Value→α→Prop} {k m c i:Nat} {p:Option Addr} {xs:List α} (h:SliceOf R Φ k (.slice p m c) xs) (hn:xs≠[]→∃q,p=some q) (hlt:i < xs.length) (hk:0 < k:=by decide) :
  ∃q,p=some q∧∃x,xs[i]? = some x∧∃cs,cs.length=k∧At Φ (q.add (i * k)) cs∧R Φ cs x:=by
 obtain ⟨q,rfl⟩:=hn (ne_nil_of_lt hlt)
 obtain ⟨x,hx⟩:=z2d hlt
 exact ⟨q,rfl,x,hx,h.elem hx hk⟩
end
end Go.Sw

namespace Go.Sw
structure RTableW (Φ:Fz) (p:Addr) (T:Table):Prop where
 ex:∃s0 s1 s2 s3 m1 m2 m3 m4 d3,At Φ p [s0,s1,s2,s3,m1,m2,.map (some m3),m4]∧SliceOf RFun Φ 8 s2 T.core.funs∧MapAt Φ m3 d3∧MapRel (RVa RFun Φ) d3 T.funs
theorem RTable.weak {Φ:Fz} {p:Addr} {T:Table} (h:RTable Φ p T):RTableW Φ p T:=by
 obtain ⟨cs,m1,m2,m3,m4,d1,d2,d3,d4,h0,h1,h2,a1,b1,a2,b2,a3,b3,a4,b4⟩:=h.ex
 obtain ⟨s,t,u,v,rfl,c1,c2,c3,c4⟩:=h2
 exact ⟨s,t,u,v,_,_,m3,_,d3,h0,c3,a3,b3⟩
theorem RTableW.mono {Φ Ψ:Fz} {p:Addr} {T:Table} (h:RTableW Φ p T) (hl:Φ.Le Ψ):RTableW Ψ p T :=
 let ⟨s0,s1,s2,s3,m1,m2,m3,m4,d3,h0,h1,a,b⟩:=h.ex
 ⟨s0,s1,s2,s3,m1,m2,m3,m4,d3,h0.mono hl,h1.mono RFun.mono hl,a.mono hl,b.mono (RVa.mono RFun.mono hl)⟩
end Go.Sw

namespace Go.Sw
def RCoreX (Φ:Fz) (cs:List Value) (x:Core) (v:Value):Prop :=
 ∃s t u q c,v=.slice q x.outputs.length c∧cs=[s,t,u,v]∧SliceOf RData Φ 2 s x.datas∧SliceOf RParam Φ 2 t x.inputs∧SliceOf RFun Φ 8 u x.funs
theorem RCore.x {Φ:Fz} {cs:List Value} {x:Core} (h:RCore Φ cs x):∃v,RCoreX Φ cs x v∧SliceOf RStr Φ 1 v x.outputs:=by
 obtain ⟨s,t,u,v,rfl,h1,h2,h3,h4⟩:=h
 obtain ⟨q,c,rfl,h5,h6⟩:=h4.form (by decide)
 exact ⟨_,⟨s,t,u,q,c,rfl,rfl,h1,h2,h3⟩,h4⟩
theorem RCoreX.full {Φ:Fz} {cs:List Value} {x:Core} {v:Value} (h:RCoreX Φ cs x v) (hv:SliceOf RStr Φ 1 v x.outputs):RCore Φ cs x:=by
 obtain ⟨s,t,u,q,c,_,rfl,h1,h2,h3⟩:=h
 exact ⟨s,t,u,v,rfl,h1,h2,h3,hv⟩
theorem RCoreX.mono {Φ Ψ:Fz} {cs:List Value} {x:Core} {v:Value} (hl:Φ.Le Ψ) (h:RCoreX Φ cs x v):RCoreX Ψ cs x v:=by
 obtain ⟨s,t,u,q,c,e,rfl,h1,h2,h3⟩:=h
 exact ⟨s,t,u,q,c,e,rfl,h1.mono RData.mono hl,h2.mono RParam.mono hl,h3.mono RFun.mono hl⟩
structure RTableX (Φ:Fz) (p:Addr) (T:Table) (v:Value):Prop where
 ex:∃cs m1 m2 m3 m4 d1 d2 d3 d4,At Φ p (cs++[.map (some m1),.map (some m2),.map (some m3),.map (some m4)])∧cs.length=4∧RCoreX Φ cs T.core v ∧
  MapAt Φ m1 d1∧MapRel (RVa RData Φ) d1 T.datas∧MapAt Φ m2 d2∧MapRel (RVa RMaker Φ) d2 T.cons∧MapAt Φ m3 d3∧MapRel (RVa RFun Φ) d3 T.funs∧MapAt Φ m4 d4∧MapRel RVs d4 T.inputs
theorem RTableX.full {Φ:Fz} {p:Addr} {T:Table} {v:Value} (h:RTableX Φ p T v) (hv:SliceOf RStr Φ 1 v T.core.outputs):RTable Φ p T :=
 let ⟨cs,m1,m2,m3,m4,d1,d2,d3,d4,h0,h1,h2,a1,b1,a2,b2,a3,b3,a4,b4⟩:=h.ex
 ⟨cs,m1,m2,m3,m4,d1,d2,d3,d4,h0,h1,h2.full hv,a1,b1,a2,b2,a3,b3,a4,b4⟩
theorem RTableX.mono {Φ Ψ:Fz} {p:Addr} {T:Table} {v:Value} (h:RTableX Φ p T v) (hl:Φ.Le Ψ):RTableX Ψ p T v :=
 let ⟨cs,m1,m2,m3,m4,d1,d2,d3,d4,h0,h1,h2,a1,b1,a2,b2,a3,b3,a4,b4⟩:=h.ex
 ⟨cs,m1,m2,m3,m4,d1,d2,d3,d4,h0.mono hl,h1,h2.mono hl,a1.mono hl,b1.mono (RVa.mono RData.mono hl),a2.mono hl,b2.mono (RVa.mono RMaker.mono hl),a3.mono hl,b3.mono (RVa.mono RFun.mono hl),a4.mono hl,b4⟩
theorem RTableX.weak {Φ:Fz} {p:Addr} {T:Table} {v:Value} (h:RTableX Φ p T v):RTableW Φ p T:=by
 obtain ⟨cs,m1,m2,m3,m4,d1,d2,d3,d4,h0,h1,h2,a1,b1,a2,b2,a3,b3,a4,b4⟩:=h.ex
 obtain ⟨s,t,u,q,c,_,rfl,c1,c2,c3⟩:=h2
 exact ⟨s,t,u,v,_,_,m3,_,d3,h0,c3,a3,b3⟩
end Go.Sw

namespace Go.Sw
variable {Φ:Fz} {K:List Res} {w:World}
theorem Mem.freezeRowT {v:Value} {T:TypeId} {k i:Nat} {cs:List Value} (hm:Mem Φ K w) (hk:kget K i=some (.gs v T k cs)) :
  ∃Ψ,Φ.Le Ψ∧Mem Ψ (kdel K i) w∧Row Ψ v k cs∧∀K' w',Mem Ψ K' w'→Mem Φ (.gs v T k cs::K') w':=by
 have h:=hm.pull hk
 obtain ⟨m,hl,h2⟩:=hm.own _ (z1a hk)
 rcases h2 with ⟨rfl,rfl⟩ | ⟨b,cap,cur,rfl,h0,hg,hc,hmx,hcs,htake⟩
 ·refine ⟨Φ,Fz.Le.refl Φ,h.tail,.inl ⟨rfl,List.eq_nil_of_length_eq_zero (by simpa using hl)⟩,fun K' w' h' =>?_⟩
  have:cs=[]:=List.eq_nil_of_length_eq_zero (by simpa using hl)
  subst this
  exact h'.nilRow T k
 ·have hno:=h.no (b:=b) rfl
  refine ⟨_,Fz.le_add hno _,h.freezeHead (b:=b) rfl hg,.inr ⟨_,m,cap,rfl,hl,Nat.le_trans hc hmx,fun _=>⟨rfl,cur,T,(0,0),by simp [Fz.add],fun j v hj =>?_⟩⟩,fun K' w' h' =>?_⟩
  ·rw [← htake,List.getElem?_take] at hj
   split at hj
   ·simpa using hj
   ·cases hj
  ·have hb:w'.heap[b]? = some (.cells cur T (0,0)):=h'.fz b _ (by simp [Fz.add])
   have hk':∀c∈keys K',c≠b:=fun c hc e=>by
    have:=h'.apart c hc
    subst e
    simp [Fz.add] at this
   refine { fz:=fun c o hc=>h'.fz c o ((Fz.le_add hno _).obj c o hc),own:=fun r hr =>?_,os:=h'.os,out:=h'.out,nodup := ?_,apart:=fun c hc =>?_ }
   ·rcases List.mem_cons.1 hr with rfl | hr
    ·exact ⟨m,hl,.inr ⟨b,cap,cur,rfl,h0,hb,hc,hmx,hcs,htake⟩⟩
    ·exact h'.own r hr
   ·show (keys (.gs _ _ _ _::K')).Nodup
    simp only [keys,List.filterMap_cons,Res.foot,Value.ownBlock,List.nodup_cons]
    exact ⟨fun hc=>hk' _ hc rfl,h'.nodup⟩
   ·simp only [keys,List.filterMap_cons,Res.foot,Value.ownBlock,List.mem_cons] at hc
    rcases hc with rfl | hc
    ·exact hno
    ·have h3:=h'.apart c hc
     simp only [Fz.add,if_neg (hk' c hc)] at h3
     exact h3
theorem SliceOf.formO {α:Type} {R:Fz→List Value→α→Prop} {Φ:Fz} {k c:Nat} {q:Option Addr} {xs:List α} (h:SliceOf R Φ k (.slice q xs.length c) xs) (hk:0 < k) :
  xs.length≤9223372036854775807∧(xs≠[]→∃p,q=some p):=by
 obtain ⟨p,c',e,h1,h2⟩:=h.form hk
 injection e with e1 e2 e3
 subst e1
 exact ⟨h1,h2⟩
def Thaw (R:List Res) (Φ:Fz) (v:Value) (l:List Bs):Prop :=
 ∀(Ψ:Fz) (K:List Res) (w:World),Φ.Le Ψ→Mem Ψ (R++K) w→∃Ψ2,Ψ.Le Ψ2∧Mem Ψ2 K w∧SliceOf RStr Ψ2 1 v l∧∀K' w',Mem Ψ2 K' w'→Mem Ψ (R++K') w'
theorem Thaw.none {Φ:Fz} {v:Value} {l:List Bs} (h:SliceOf RStr Φ 1 v l):Thaw [] Φ v l :=
 fun Ψ _ _ hl hm=>⟨Ψ,Fz.Le.refl _,hm,h.mono RStr.mono hl,fun _ _ h=>h⟩
theorem Thaw.own {Φ:Fz} {v:Value} {l:List Bs}:Thaw [.gs v 9 1 (strs l)] Φ v l:=fun _ _ _ _ hm =>
 let ⟨Ψ2,h1,h2,h3,h4⟩:=hm.freezeRowT (i:=0) rfl
 ⟨Ψ2,h1,h2,SliceOf.strs.2 h3,h4⟩
theorem Thaw.mono {R:List Res} {Φ Ψ:Fz} {v:Value} {l:List Bs} (h:Thaw R Φ v l) (hl:Φ.Le Ψ):Thaw R Ψ v l :=
 fun Ψ2 K w h2 hm=>h Ψ2 K w (hl.trans h2) hm
def NewRow (Φ:Fz) (v:Value):Prop:=∀p n c,v=.slice (some p) n c→Φ.obj p.block=none
theorem NewRow.nil {Φ:Fz}:NewRow Φ (.slice none 0 0):=fun _ _ _ h=>by cases h
theorem NewRow.anti {Φ Ψ:Fz} {v:Value} (h:NewRow Ψ v) (hl:Φ.Le Ψ):NewRow Φ v:=fun p n c e=>by
 cases ho:Φ.obj p.block with
 | none=>rfl
 | some o=>exact absurd (hl.obj _ _ ho) (by rw [h p n c e];simp)
theorem Mem.freezeRowN {v:Value} {T:TypeId} {k i:Nat} {cs:List Value} (hm:Mem Φ K w) (hk:kget K i=some (.gs v T k cs)) :
  ∃Ψ,Φ.Le Ψ∧Mem Ψ (kdel K i) w∧Row Ψ v k cs∧NewRow Φ v:=by
 obtain ⟨Ψ,h1,h2,h3⟩:=hm.freezeRow hk
 refine ⟨Ψ,h1,h2,h3,fun p n c e =>?_⟩
 have h:=hm.pull hk
 obtain ⟨m,hl,h2⟩:=hm.own _ (z1a hk)
 rcases h2 with ⟨rfl,rfl⟩ | ⟨b,cap,cur,rfl,h0,hg,hc,hmx,hcs,htake⟩
 ·cases e
 ·have hno:=h.no (b:=b) rfl
  injection e with e1 _ _
  injection e1 with e1
  subst e1
  exact hno
def Fz.del (Φ:Fz) (b:Nat):Fz:={ Φ with obj:=fun c=>if c=b then none else Φ.obj c }
theorem At.del {Φ:Fz} {p:Addr} {cs:List Value} {b:Nat} (h:At Φ p cs) (hb:p.block≠b):At (Φ.del b) p cs:=by
 obtain ⟨h1,cur,T,o,h2,h3⟩:=h
 exact ⟨h1,cur,T,o,by simp only [Fz.del,if_neg hb];exact h2,h3⟩
structure Frozen (Φ Ψ:Fz) (b:Nat) (r:Res):Prop where
 le:Φ.Le Ψ
 has:∃o,Ψ.obj b=some o
 back:∀Ψ2 K w,Ψ.Le Ψ2→Mem Ψ2 K w→Φ.Le (Ψ2.del b)∧Mem (Ψ2.del b) (r::K) w
theorem Mem.freezeRowD {v:Value} {T:TypeId} {k i:Nat} {cs:List Value} (hm:Mem Φ K w) (hk:kget K i=some (.gs v T k cs)) (hne:cs≠[]) :
  ∃Ψ b,Mem Ψ (kdel K i) w∧Row Ψ v k cs∧Frozen Φ Ψ b (.gs v T k cs):=by
 have h:=hm.pull hk
 obtain ⟨m,hl,h2⟩:=hm.own _ (z1a hk)
 rcases h2 with ⟨rfl,rfl⟩ | ⟨b,cap,cur,rfl,h0,hg,hc,hmx,hcs,htake⟩
 ·exact absurd (List.eq_nil_of_length_eq_zero (by simpa using hl)) hne
 ·have hno:=h.no (b:=b) rfl
  refine ⟨_,b,h.freezeHead (b:=b) rfl hg,.inr ⟨_,m,cap,rfl,hl,Nat.le_trans hc hmx,fun _=>⟨rfl,cur,T,(0,0),by simp [Fz.add],fun j v hj =>?_⟩⟩,⟨Fz.le_add hno _,⟨.cells cur T (0,0),by simp [Fz.add]⟩,fun Ψ2 K' w' hl2 h' =>?_⟩⟩
  ·rw [← htake,List.getElem?_take] at hj
   split at hj
   ·simpa using hj
   ·cases hj
  ·have hb0:Ψ2.obj b=some (.cells cur T (0,0)):=hl2.obj b _ (by simp [Fz.add])
   have hb:w'.heap[b]? = some (.cells cur T (0,0)):=h'.fz b _ hb0
   have hk':∀c∈keys K',c≠b:=fun c hc e=>by
    have:=h'.apart c hc
    subst e
    rw [hb0] at this
    cases this
   refine ⟨⟨fun c o hc =>?_,(hl2.os).trans rfl,(hl2.out).trans rfl⟩,{ fz:=fun c o hc =>?_,own:=fun r hr =>?_,os:=h'.os,out:=h'.out,nodup := ?_,apart:=fun c hc =>?_ }⟩
   ·have hcb:c≠b:=fun e=>by subst e;rw [hno] at hc;cases hc
    simp only [Fz.del,if_neg hcb]
    exact hl2.obj c o ((Fz.le_add hno _).obj c o hc)
   ·simp only [Fz.del] at hc
    split at hc
    ·cases hc
    ·exact h'.fz c o hc
   ·rcases List.mem_cons.1 hr with rfl | hr
    ·exact ⟨m,hl,.inr ⟨b,cap,cur,rfl,h0,hb,hc,hmx,hcs,htake⟩⟩
    ·exact h'.own r hr
   ·show (keys (.gs _ _ _ _::K')).Nodup
    simp only [keys,List.filterMap_cons,Res.foot,Value.ownBlock,List.nodup_cons]
    exact ⟨fun hc=>hk' _ hc rfl,h'.nodup⟩
   ·simp only [keys,List.filterMap_cons,Res.foot,Value.ownBlock,List.mem_cons] at hc
    simp only [Fz.del]
    split
    ·rfl
    ·rename_i hcb
     rcases hc with rfl | hc
     ·exact absurd rfl hcb
     ·exact h'.apart c hc
theorem Frozen.ne {Φ Ψ Ψ2:Fz} {b:Nat} {r:Res} {v:Value} {p:Addr} {n c:Nat} (h:Frozen Φ Ψ b r) (hl:Ψ.Le Ψ2) (hn:NewRow Ψ2 v) (e:v=.slice (some p) n c):p.block≠b:=fun hb=>by
 obtain ⟨o,ho⟩:=h.has
 have h1:=hn p n c e
 rw [hb,hl.obj _ _ ho] at h1
 cases h1
end Go.Sw
