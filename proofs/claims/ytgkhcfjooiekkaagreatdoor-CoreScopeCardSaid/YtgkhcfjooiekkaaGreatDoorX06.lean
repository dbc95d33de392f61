import Derived.Shelf.Strings.Builder1
import Derived.Shelf.LaysM
import Derived.Shelf.LaysC
import Derived.Shelf.Strconv.Itoa3
import Derived.Shelf.Strconv.AtoiAll
import Derived.Shelf.Strings.Search1
import Derived.Shelf.Strings.Replace
import Derived.Shelf.Strings.IndexAny
import Derived.Shelf.Strings.IndexAnyAll
import Derived.Test.YtgkhcfjooiekkaaGreatDoorProg
import Derived.Lib.ItoaLen
import Derived.Lib.SplitLaws
import Derived.Test.YtgkhcfjooiekkaaGreatDoorX01
import Derived.Test.YtgkhcfjooiekkaaGreatDoorX03
import Derived.Test.YtgkhcfjooiekkaaGreatDoorX04
import Derived.Test.YtgkhcfjooiekkaaGreatDoorX05
set_option linter.unusedVariables false
set_option linter.unusedSimpArgs false
namespace Go.Proofs
open Go.Shelf
def Tryz.lays137_ren:Go.Shelf.Ren:=⟨fun | 137=>213 | 217=>228 | 266=>236 | n=>n,fun | 9=>9 | 5=>5 | 3=>3 | n=>n,fun | n=>n⟩
theorem Tryz.lays137:Go.Proofs.Lays.n137 Tryz.prog Tryz.lays137_ren:={
 mixed:=by kernel_rfl
 f137:=Tryz.func213.trans (congrArg some (by kernel_rfl))
 f217:=Tryz.func228.trans (congrArg some (by kernel_rfl))
 f266:=Tryz.func236.trans (congrArg some (by kernel_rfl))
 t3:=Tryz.underlying3
 a3:=Tryz.isAgg3
 z3:=Tryz.sizeOf3
 v3:=Tryz.zeroValue3
 t5:=Tryz.underlying5
 a5:=Tryz.isAgg5
 z5:=Tryz.sizeOf5
 v5:=Tryz.zeroValue5
 t9:=Tryz.underlying9
 a9:=Tryz.isAgg9
 z9:=Tryz.sizeOf9
 v9:=Tryz.zeroValue9 }
open Go.RowKit in
theorem Tryz.strings_IndexByte (s:ByteArray) (c:Int) (w:World) :
  Calls Tryz.prog 213 #[.string s,.int .u8 c] w fun e w'=>e=.returned (.int .i64 (Lib.indexByte s.data.toList c.toNat.toUInt8))∧w'=w:=Any.strings_IndexByte Tryz.lays137 s c w
def Tryz.laysM171_ren:Go.Shelf.Ren:=⟨fun | 171=>122 | 243=>172 | 246=>199 | 283=>209 | 284=>210 | 285=>211 | 286=>212 | 129=>224 | 317=>223 | 318=>225 | 319=>226 | 320=>227 | 337=>234 | 338=>235 | n=>n,fun | 3=>3 | 9=>9 | 2=>2 | 4=>4 | 171=>275 | 0=>0 | 53=>241 | 37=>128 | 5=>5 | 173=>278 | 212=>291 | 51=>292 | 20=>20 | 213=>293 | 46=>282 | 232=>318 | 233=>319 | n=>n,fun | 17=>1 | 18=>2 | 19=>3 | n=>n⟩
theorem Tryz.laysM171:Go.Proofs.LaysM.n171 Tryz.prog Tryz.laysM171_ren:={
 mixed:=by kernel_rfl
 f129:=Tryz.func224.trans (congrArg some (by kernel_rfl))
 f171:=Tryz.func122.trans (congrArg some (by kernel_rfl))
 f243:=Tryz.func172.trans (congrArg some (by kernel_rfl))
 f246:=Tryz.func199.trans (congrArg some (by kernel_rfl))
 f283:=Tryz.func209.trans (congrArg some (by kernel_rfl))
 f284:=Tryz.func210.trans (congrArg some (by kernel_rfl))
 f285:=Tryz.func211.trans (congrArg some (by kernel_rfl))
 f286:=Tryz.func212.trans (congrArg some (by kernel_rfl))
 f317:=Tryz.func223.trans (congrArg some (by kernel_rfl))
 f318:=Tryz.func225.trans (congrArg some (by kernel_rfl))
 f319:=Tryz.func226.trans (congrArg some (by kernel_rfl))
 f320:=Tryz.func227.trans (congrArg some (by kernel_rfl))
 f337:=Tryz.func234.trans (congrArg some (by kernel_rfl))
 f338:=Tryz.func235.trans (congrArg some (by kernel_rfl))
 t0:=Tryz.underlying0
 a0:=Tryz.isAgg0
 z0:=Tryz.sizeOf0
 v0:=Tryz.zeroValue0
 t2:=Tryz.underlying2
 a2:=Tryz.isAgg2
 z2:=Tryz.sizeOf2
 v2:=Tryz.zeroValue2
 t3:=Tryz.underlying3
 a3:=Tryz.isAgg3
 z3:=Tryz.sizeOf3
 v3:=Tryz.zeroValue3
 t4:=Tryz.underlying4
 a4:=Tryz.isAgg4
 z4:=Tryz.sizeOf4
 v4:=Tryz.zeroValue4
 t5:=Tryz.underlying5
 a5:=Tryz.isAgg5
 z5:=Tryz.sizeOf5
 v5:=Tryz.zeroValue5
 t9:=Tryz.underlying9
 a9:=Tryz.isAgg9
 z9:=Tryz.sizeOf9
 v9:=Tryz.zeroValue9
 t20:=Tryz.underlying20
 a20:=Tryz.isAgg20
 z20:=Tryz.sizeOf20
 v20:=Tryz.zeroValue20
 t37:=Tryz.underlying128
 a37:=Tryz.isAgg128
 z37:=Tryz.sizeOf128
 v37:=Tryz.zeroValue128
 t46:=Tryz.underlying282
 a46:=Tryz.isAgg282
 z46:=Tryz.sizeOf282
 v46:=Tryz.zeroValue282
 t51:=Tryz.underlying292
 a51:=Tryz.isAgg292
 z51:=Tryz.sizeOf292
 v51:=Tryz.zeroValue292
 t53:=Tryz.underlying241
 a53:=Tryz.isAgg241
 z53:=Tryz.sizeOf241
 v53:=Tryz.zeroValue241
 t171:=Tryz.underlying275
 a171:=Tryz.isAgg275
 z171:=Tryz.sizeOf275
 v171:=Tryz.zeroValue275
 t173:=Tryz.underlying278
 a173:=Tryz.isAgg278
 z173:=Tryz.sizeOf278
 v173:=Tryz.zeroValue278
 t212:=Tryz.underlying291
 a212:=Tryz.isAgg291
 z212:=Tryz.sizeOf291
 v212:=Tryz.zeroValue291
 t213:=Tryz.underlying293
 a213:=Tryz.isAgg293
 z213:=Tryz.sizeOf293
 t232:=Tryz.underlying318
 a232:=Tryz.isAgg318
 z232:=Tryz.sizeOf318
 v232:=Tryz.zeroValue318
 t233:=Tryz.underlying319
 a233:=Tryz.isAgg319
 z233:=Tryz.sizeOf319
 v233:=Tryz.zeroValue319
 g17:=by kernel_rfl
 g18:=by kernel_rfl
 g19:=by kernel_rfl
 i0:=by kernel_rfl
 i2:=by kernel_rfl
 i3:=by kernel_rfl
 i4:=by kernel_rfl
 i5:=by kernel_rfl
 i9:=by kernel_rfl
 i20:=by kernel_rfl
 i37:=by kernel_rfl
 i46:=by kernel_rfl
 i51:=by kernel_rfl
 i53:=by kernel_rfl
 i171:=by kernel_rfl
 i173:=by kernel_rfl
 i212:=by kernel_rfl
 i232:=by kernel_rfl
 i233:=by kernel_rfl
 m17:=by kernel_rfl
 m18:=by kernel_rfl
 m19:=by kernel_rfl }
open Go.RowKit Go.Sort Go.Lib in
theorem Tryz.strconv_Itoa (n:Int) (h0:-9223372036854775808≤n) (h1:n≤9223372036854775807) (w:World) (htab:Lib.TabIs Tryz.prog w "internal/strconv.uint64pow10" .u64 Lib.pow10Tab) :
  Calls Tryz.prog 122 #[.int .i64 n] w fun e w'=>e=.returned (.string ⟨(Lib.itoa n).toArray⟩)∧∃k os,w'=grow (w.drewN k) os:=Any.strconv_Itoa Tryz.laysM171 n h0 h1 w htab
def Tryz.laysC172_ren:Go.Shelf.Ren:=⟨fun | 172=>217 | 244=>229 | 245=>230 | 247=>237 | 279=>238 | 280=>239 | 281=>240 | 282=>241 | 287=>254 | 316=>255 | 171=>122 | 205=>256 | 321=>259 | 322=>260 | 243=>172 | 246=>199 | 283=>209 | 284=>210 | 285=>211 | 286=>212 | 129=>224 | 317=>223 | 318=>225 | 319=>226 | 320=>227 | 337=>234 | 338=>235 | n=>n,fun | 9=>9 | 3=>3 | 75=>138 | 76=>139 | 4=>4 | 5=>5 | 167=>306 | 37=>128 | 0=>0 | 85=>307 | 2=>2 | 168=>309 | 53=>241 | 175=>320 | 46=>282 | 210=>324 | 127=>202 | 145=>333 | 143=>331 | 21=>21 | 171=>275 | 173=>278 | 212=>291 | 51=>292 | 20=>20 | 213=>293 | 232=>318 | 233=>319 | 80=>116 | n=>n,fun | 15=>4 | 16=>5 | 17=>1 | 18=>2 | 19=>3 | n=>n⟩
theorem Tryz.laysC172:Go.Proofs.LaysC.n172 Tryz.prog Tryz.laysC172_ren:={
 mixed:=by kernel_rfl
 f129:=Tryz.func224.trans (congrArg some (by kernel_rfl))
 f171:=Tryz.func122.trans (congrArg some (by kernel_rfl))
 f172:=Tryz.func217.trans (congrArg some (by kernel_rfl))
 f205:=Tryz.func256.trans (congrArg some (by kernel_rfl))
 f243:=Tryz.func172.trans (congrArg some (by kernel_rfl))
 f244:=Tryz.func229.trans (congrArg some (by kernel_rfl))
 f245:=Tryz.func230.trans (congrArg some (by kernel_rfl))
 f246:=Tryz.func199.trans (congrArg some (by kernel_rfl))
 f247:=Tryz.func237.trans (congrArg some (by kernel_rfl))
 f279:=Tryz.func238.trans (congrArg some (by kernel_rfl))
 f280:=Tryz.func239.trans (congrArg some (by kernel_rfl))
 f281:=Tryz.func240.trans (congrArg some (by kernel_rfl))
 f282:=Tryz.func241.trans (congrArg some (by kernel_rfl))
 f283:=Tryz.func209.trans (congrArg some (by kernel_rfl))
 f284:=Tryz.func210.trans (congrArg some (by kernel_rfl))
 f285:=Tryz.func211.trans (congrArg some (by kernel_rfl))
 f286:=Tryz.func212.trans (congrArg some (by kernel_rfl))
 f287:=Tryz.func254.trans (congrArg some (by kernel_rfl))
 f316:=Tryz.func255.trans (congrArg some (by kernel_rfl))
 f317:=Tryz.func223.trans (congrArg some (by kernel_rfl))
 f318:=Tryz.func225.trans (congrArg some (by kernel_rfl))
 f319:=Tryz.func226.trans (congrArg some (by kernel_rfl))
 f320:=Tryz.func227.trans (congrArg some (by kernel_rfl))
 f321:=Tryz.func259.trans (congrArg some (by kernel_rfl))
 f322:=Tryz.func260.trans (congrArg some (by kernel_rfl))
 f337:=Tryz.func234.trans (congrArg some (by kernel_rfl))
 f338:=Tryz.func235.trans (congrArg some (by kernel_rfl))
 t0:=Tryz.underlying0
 a0:=Tryz.isAgg0
 z0:=Tryz.sizeOf0
 v0:=Tryz.zeroValue0
 t2:=Tryz.underlying2
 a2:=Tryz.isAgg2
 z2:=Tryz.sizeOf2
 v2:=Tryz.zeroValue2
 t3:=Tryz.underlying3
 a3:=Tryz.isAgg3
 z3:=Tryz.sizeOf3
 v3:=Tryz.zeroValue3
 t4:=Tryz.underlying4
 a4:=Tryz.isAgg4
 z4:=Tryz.sizeOf4
 v4:=Tryz.zeroValue4
 t5:=Tryz.underlying5
 a5:=Tryz.isAgg5
 z5:=Tryz.sizeOf5
 v5:=Tryz.zeroValue5
 t9:=Tryz.underlying9
 a9:=Tryz.isAgg9
 z9:=Tryz.sizeOf9
 v9:=Tryz.zeroValue9
 t20:=Tryz.underlying20
 a20:=Tryz.isAgg20
 z20:=Tryz.sizeOf20
 v20:=Tryz.zeroValue20
 t21:=Tryz.underlying21
 a21:=Tryz.isAgg21
 z21:=Tryz.sizeOf21
 v21:=Tryz.zeroValue21
 t37:=Tryz.underlying128
 a37:=Tryz.isAgg128
 z37:=Tryz.sizeOf128
 v37:=Tryz.zeroValue128
 t46:=Tryz.underlying282
 a46:=Tryz.isAgg282
 z46:=Tryz.sizeOf282
 v46:=Tryz.zeroValue282
 t51:=Tryz.underlying292
 a51:=Tryz.isAgg292
 z51:=Tryz.sizeOf292
 v51:=Tryz.zeroValue292
 t53:=Tryz.underlying241
 a53:=Tryz.isAgg241
 z53:=Tryz.sizeOf241
 v53:=Tryz.zeroValue241
 t75:=Tryz.underlying138
 a75:=Tryz.isAgg138
 z75:=Tryz.sizeOf138
 v75:=Tryz.zeroValue138
 t76:=Tryz.underlying139
 a76:=Tryz.isAgg139
 z76:=Tryz.sizeOf139
 v76:=Tryz.zeroValue139
 t85:=Tryz.underlying307
 a85:=Tryz.isAgg307
 z85:=Tryz.sizeOf307
 v85:=Tryz.zeroValue307
 t127:=Tryz.underlying202
 a127:=Tryz.isAgg202
 z127:=Tryz.sizeOf202
 v127:=Tryz.zeroValue202
 t143:=Tryz.underlying331
 a143:=Tryz.isAgg331
 z143:=Tryz.sizeOf331
 v143:=Tryz.zeroValue331
 t145:=Tryz.underlying333
 a145:=Tryz.isAgg333
 z145:=Tryz.sizeOf333
 v145:=Tryz.zeroValue333
 t167:=Tryz.underlying306
 a167:=Tryz.isAgg306
 z167:=Tryz.sizeOf306
 v167:=Tryz.zeroValue306
 t168:=Tryz.underlying309
 a168:=Tryz.isAgg309
 z168:=Tryz.sizeOf309
 v168:=Tryz.zeroValue309
 t171:=Tryz.underlying275
 a171:=Tryz.isAgg275
 z171:=Tryz.sizeOf275
 v171:=Tryz.zeroValue275
 t173:=Tryz.underlying278
 a173:=Tryz.isAgg278
 z173:=Tryz.sizeOf278
 v173:=Tryz.zeroValue278
 t175:=Tryz.underlying320
 a175:=Tryz.isAgg320
 z175:=Tryz.sizeOf320
 v175:=Tryz.zeroValue320
 t210:=Tryz.underlying324
 a210:=Tryz.isAgg324
 z210:=Tryz.sizeOf324
 v210:=Tryz.zeroValue324
 t212:=Tryz.underlying291
 a212:=Tryz.isAgg291
 z212:=Tryz.sizeOf291
 v212:=Tryz.zeroValue291
 t213:=Tryz.underlying293
 a213:=Tryz.isAgg293
 z213:=Tryz.sizeOf293
 t232:=Tryz.underlying318
 a232:=Tryz.isAgg318
 z232:=Tryz.sizeOf318
 v232:=Tryz.zeroValue318
 t233:=Tryz.underlying319
 a233:=Tryz.isAgg319
 z233:=Tryz.sizeOf319
 v233:=Tryz.zeroValue319
 g15:=by kernel_rfl
 g16:=by kernel_rfl
 g17:=by kernel_rfl
 g18:=by kernel_rfl
 g19:=by kernel_rfl
 t80:=Tryz.underlying116
 a80:=Tryz.isAgg116
 z80:=Tryz.sizeOf116
 v80:=Tryz.zeroValue116
 i0:=by kernel_rfl
 i2:=by kernel_rfl
 i3:=by kernel_rfl
 i4:=by kernel_rfl
 i5:=by kernel_rfl
 i9:=by kernel_rfl
 i20:=by kernel_rfl
 i21:=by kernel_rfl
 i37:=by kernel_rfl
 i46:=by kernel_rfl
 i51:=by kernel_rfl
 i53:=by kernel_rfl
 i75:=by kernel_rfl
 i76:=by kernel_rfl
 i80:=by kernel_rfl
 i85:=by kernel_rfl
 i127:=by kernel_rfl
 i143:=by kernel_rfl
 i145:=by kernel_rfl
 i167:=by kernel_rfl
 i168:=by kernel_rfl
 i171:=by kernel_rfl
 i173:=by kernel_rfl
 i175:=by kernel_rfl
 i210:=by kernel_rfl
 i212:=by kernel_rfl
 i232:=by kernel_rfl
 i233:=by kernel_rfl
 m15:=by kernel_rfl
 m16:=by kernel_rfl
 m17:=by kernel_rfl
 m18:=by kernel_rfl
 m19:=by kernel_rfl
 c0:=by kernel_rfl
 c2:=by kernel_rfl
 c3:=by kernel_rfl
 c4:=by kernel_rfl
 c5:=by kernel_rfl
 c9:=by kernel_rfl
 c20:=by kernel_rfl
 c21:=by kernel_rfl
 c37:=by kernel_rfl
 c46:=by kernel_rfl
 c51:=by kernel_rfl
 c53:=by kernel_rfl
 c75:=by kernel_rfl
 c76:=by kernel_rfl
 c80:=by kernel_rfl
 c85:=by kernel_rfl
 c127:=by kernel_rfl
 c143:=by kernel_rfl
 c145:=by kernel_rfl
 c167:=by kernel_rfl
 c168:=by kernel_rfl
 c171:=by kernel_rfl
 c173:=by kernel_rfl
 c175:=by kernel_rfl
 c210:=by kernel_rfl
 c212:=by kernel_rfl
 c213:=by kernel_rfl
 c232:=by kernel_rfl
 c233:=by kernel_rfl }
def Tryz.lays154_ren:Go.Shelf.Ren:=⟨fun | 154=>262 | 138=>264 | 165=>119 | 143=>265 | 166=>68 | 197=>266 | 169=>72 | 195=>267 | 218=>268 | 240=>120 | 241=>170 | 219=>269 | 260=>270 | 276=>171 | 277=>198 | 217=>228 | 225=>216 | 224=>215 | 267=>271 | 266=>236 | 314=>272 | n=>n,fun | 9=>9 | 3=>3 | 4=>4 | 72=>130 | 0=>0 | 76=>139 | 105=>335 | 21=>21 | 5=>5 | 70=>127 | 20=>20 | 37=>128 | 75=>138 | 127=>202 | 164=>238 | 46=>282 | 119=>337 | 139=>340 | 138=>339 | 146=>341 | 51=>292 | 80=>116 | n=>n,fun | 1=>0 | 3=>6 | 4=>7 | n=>n⟩
theorem Tryz.lays154:Go.Proofs.Lays.n154 Tryz.prog Tryz.lays154_ren:={
 mixed:=by kernel_rfl
 f138:=Tryz.func264.trans (congrArg some (by kernel_rfl))
 f143:=Tryz.func265.trans (congrArg some (by kernel_rfl))
 f154:=Tryz.func262.trans (congrArg some (by kernel_rfl))
 f165:=Tryz.func119.trans (congrArg some (by kernel_rfl))
 f166:=Tryz.func68.trans (congrArg some (by kernel_rfl))
 f169:=Tryz.func72.trans (congrArg some (by kernel_rfl))
 f195:=Tryz.func267.trans (congrArg some (by kernel_rfl))
 f197:=Tryz.func266.trans (congrArg some (by kernel_rfl))
 f217:=Tryz.func228.trans (congrArg some (by kernel_rfl))
 f218:=Tryz.func268.trans (congrArg some (by kernel_rfl))
 f219:=Tryz.func269.trans (congrArg some (by kernel_rfl))
 f224:=Tryz.func215.trans (congrArg some (by kernel_rfl))
 f225:=Tryz.func216.trans (congrArg some (by kernel_rfl))
 f240:=Tryz.func120.trans (congrArg some (by kernel_rfl))
 f241:=Tryz.func170.trans (congrArg some (by kernel_rfl))
 f260:=Tryz.func270.trans (congrArg some (by kernel_rfl))
 f266:=Tryz.func236.trans (congrArg some (by kernel_rfl))
 f267:=Tryz.func271.trans (congrArg some (by kernel_rfl))
 f276:=Tryz.func171.trans (congrArg some (by kernel_rfl))
 f277:=Tryz.func198.trans (congrArg some (by kernel_rfl))
 f314:=Tryz.func272.trans (congrArg some (by kernel_rfl))
 t0:=Tryz.underlying0
 a0:=Tryz.isAgg0
 z0:=Tryz.sizeOf0
 v0:=Tryz.zeroValue0
 t3:=Tryz.underlying3
 a3:=Tryz.isAgg3
 z3:=Tryz.sizeOf3
 v3:=Tryz.zeroValue3
 t4:=Tryz.underlying4
 a4:=Tryz.isAgg4
 z4:=Tryz.sizeOf4
 v4:=Tryz.zeroValue4
 t5:=Tryz.underlying5
 a5:=Tryz.isAgg5
 z5:=Tryz.sizeOf5
 v5:=Tryz.zeroValue5
 t9:=Tryz.underlying9
 a9:=Tryz.isAgg9
 z9:=Tryz.sizeOf9
 v9:=Tryz.zeroValue9
 t20:=Tryz.underlying20
 a20:=Tryz.isAgg20
 z20:=Tryz.sizeOf20
 v20:=Tryz.zeroValue20
 t21:=Tryz.underlying21
 a21:=Tryz.isAgg21
 z21:=Tryz.sizeOf21
 v21:=Tryz.zeroValue21
 t37:=Tryz.underlying128
 a37:=Tryz.isAgg128
 z37:=Tryz.sizeOf128
 v37:=Tryz.zeroValue128
 t46:=Tryz.underlying282
 a46:=Tryz.isAgg282
 z46:=Tryz.sizeOf282
 v46:=Tryz.zeroValue282
 t51:=Tryz.underlying292
 a51:=Tryz.isAgg292
 z51:=Tryz.sizeOf292
 v51:=Tryz.zeroValue292
 t70:=Tryz.underlying127
 a70:=Tryz.isAgg127
 z70:=Tryz.sizeOf127
 v70:=Tryz.zeroValue127
 t72:=Tryz.underlying130
 a72:=Tryz.isAgg130
 z72:=Tryz.sizeOf130
 v72:=Tryz.zeroValue130
 t75:=Tryz.underlying138
 a75:=Tryz.isAgg138
 z75:=Tryz.sizeOf138
 v75:=Tryz.zeroValue138
 t76:=Tryz.underlying139
 a76:=Tryz.isAgg139
 z76:=Tryz.sizeOf139
 v76:=Tryz.zeroValue139
 t105:=Tryz.underlying335
 a105:=Tryz.isAgg335
 z105:=Tryz.sizeOf335
 v105:=Tryz.zeroValue335
 t119:=Tryz.underlying337
 a119:=Tryz.isAgg337
 z119:=Tryz.sizeOf337
 t127:=Tryz.underlying202
 a127:=Tryz.isAgg202
 z127:=Tryz.sizeOf202
 v127:=Tryz.zeroValue202
 t138:=Tryz.underlying339
 a138:=Tryz.isAgg339
 z138:=Tryz.sizeOf339
 v138:=Tryz.zeroValue339
 t139:=Tryz.underlying340
 a139:=Tryz.isAgg340
 z139:=Tryz.sizeOf340
 v139:=Tryz.zeroValue340
 t146:=Tryz.underlying341
 a146:=Tryz.isAgg341
 z146:=Tryz.sizeOf341
 v146:=Tryz.zeroValue341
 t164:=Tryz.underlying238
 a164:=Tryz.isAgg238
 z164:=Tryz.sizeOf238
 v164:=Tryz.zeroValue238
 g1:=by kernel_rfl
 g3:=by kernel_rfl
 g4:=by kernel_rfl }
theorem Tryz.Builder_Extra_154:Builder.Extra Tryz.prog Tryz.lays154_ren:={
 sizeBuilder:=by kernel_rfl
 liesBuilder:=by kernel_rfl
 t5:=Tryz.underlying5
 a5:=Tryz.isAgg5
 z5:=Tryz.sizeOf5
 v5:=Tryz.zeroValue5
 infoByte:=by kernel_rfl
 cellsByte:=by kernel_rfl
 sizeByte:=by kernel_rfl
 neB5:=by decide }
open Go.RowKit Go.Lib in
theorem Tryz.strings_Replace (s old new:ByteArray) (n:Int) (m:Int) (w:World) (hs:s.size < 4294967281) (hm:w.cell? ⟨0,0,none⟩=some (.int .i64 m)) (h1:1≤old.size) (hlen:s.size+Lib.countB s old * new.size≤140737488355328) :
  Calls Tryz.prog 262 #[.string s,.string old,.string new,.int .i64 n] w fun e w' =>
   e=.returned (.string ⟨(Lib.replace s.data.toList old.data.toList new.data.toList n).toArray⟩)∧Below w.heap.size w w':=Any.strings_Replace Tryz.lays154 Tryz.Builder_Extra_154 s old new n m w hs hm h1 hlen
def Tryz.lays153_ren:Go.Shelf.Ren:=⟨fun | 153=>175 | 152=>200 | 226=>201 | 227=>202 | 228=>203 | 137=>213 | 119=>214 | 224=>215 | 225=>216 | 217=>228 | 266=>236 | n=>n,fun | 9=>9 | 3=>3 | 4=>4 | 5=>5 | 21=>21 | 117=>264 | 116=>263 | 0=>0 | 46=>282 | 124=>283 | n=>n,fun | n=>n⟩
theorem Tryz.lays153:Go.Proofs.Lays.n153 Tryz.prog Tryz.lays153_ren:={
 mixed:=by kernel_rfl
 f119:=Tryz.func214.trans (congrArg some (by kernel_rfl))
 f137:=Tryz.func213.trans (congrArg some (by kernel_rfl))
 f152:=Tryz.func200.trans (congrArg some (by kernel_rfl))
 f153:=Tryz.func175.trans (congrArg some (by kernel_rfl))
 f217:=Tryz.func228.trans (congrArg some (by kernel_rfl))
 f224:=Tryz.func215.trans (congrArg some (by kernel_rfl))
 f225:=Tryz.func216.trans (congrArg some (by kernel_rfl))
 f226:=Tryz.func201.trans (congrArg some (by kernel_rfl))
 f227:=Tryz.func202.trans (congrArg some (by kernel_rfl))
 f228:=Tryz.func203.trans (congrArg some (by kernel_rfl))
 f266:=Tryz.func236.trans (congrArg some (by kernel_rfl))
 t0:=Tryz.underlying0
 a0:=Tryz.isAgg0
 z0:=Tryz.sizeOf0
 v0:=Tryz.zeroValue0
 t3:=Tryz.underlying3
 a3:=Tryz.isAgg3
 z3:=Tryz.sizeOf3
 v3:=Tryz.zeroValue3
 t4:=Tryz.underlying4
 a4:=Tryz.isAgg4
 z4:=Tryz.sizeOf4
 v4:=Tryz.zeroValue4
 t5:=Tryz.underlying5
 a5:=Tryz.isAgg5
 z5:=Tryz.sizeOf5
 v5:=Tryz.zeroValue5
 t9:=Tryz.underlying9
 a9:=Tryz.isAgg9
 z9:=Tryz.sizeOf9
 v9:=Tryz.zeroValue9
 t21:=Tryz.underlying21
 a21:=Tryz.isAgg21
 z21:=Tryz.sizeOf21
 v21:=Tryz.zeroValue21
 t46:=Tryz.underlying282
 a46:=Tryz.isAgg282
 z46:=Tryz.sizeOf282
 v46:=Tryz.zeroValue282
 t116:=Tryz.underlying263
 a116:=Tryz.isAgg263
 z116:=Tryz.sizeOf263
 t117:=Tryz.underlying264
 a117:=Tryz.isAgg264
 z117:=Tryz.sizeOf264
 v117:=Tryz.zeroValue264
 t124:=Tryz.underlying283
 a124:=Tryz.isAgg283
 z124:=Tryz.sizeOf283
 v124:=Tryz.zeroValue283 }
open Go.RowKit Go.Lib in
theorem Tryz.strings_IndexAny_laid (s chars:ByteArray) (w:World) (hs:s.size < 4294967281) (hcs:chars.size < 4294967281) (has:∀(j:Nat) b,s.data.toList[j]? = some b→b.toNat < 128) (hac:∀(j:Nat) b,chars.data.toList[j]? = some b→b.toNat < 128) :
  Calls Tryz.prog 175 #[.string s,.string chars] w fun e w'=>e=.returned (.int .i64 (Lib.indexAny s.data.toList chars.data.toList))∧Below w.heap.size w w':=Any.strings_IndexAny_laid Tryz.lays153 (by kernel_rfl) s chars w hs hcs has hac
end Go.Proofs

namespace Go.Sw
open Go.Proofs
theorem Mem.below {Φ:Fz} {K:List Res} {w w':World} (hm:Mem Φ K w) (h:RowKit.Below w.heap.size w w'):Mem Φ K w':=by
 have h0:Mem Φ (.gs (.slice none 0 0) 0 0 []::K) w':=hm.more (r:=.gs (.slice none 0 0) 0 0 []) h.os h.output (fun b hb=>h.block b hb) ⟨0,World.ownsRow_nil w' 0 0 0⟩ (fun b hb=>by cases hb)
 exact h0.del 0
theorem itoa_ok {Φ:Fz} {K:List Res} {w:World} {n:Int} (h:I64 n) (G:Tabs Φ) (hm:Mem Φ K w) :
  Calls Tryz.prog 122 (List.toArray [.int .i64 n]) w (fun ee w'=>ee=.returned (.string (itoaP n))∧Mem Φ K w'):=by
 refine (Tryz.strconv_Itoa n (by have:=h;unfold I64 at this;omega) (by have:=h;unfold I64 at this;omega) w (G w ⟨hm.fz,by simp⟩)).mono fun e w' he =>?_
 obtain ⟨rfl,k,os,rfl⟩:=he
 refine ⟨rfl,hm.below ⟨rfl,rfl,rfl,by simp [Go.Sort.grow,World.drewN],fun b hb =>?_⟩⟩
 simp only [Go.Sort.grow,World.drewN]
 rw [Array.getElem?_append_left hb]
theorem At.cell {Φ:Fz} {K:List Res} {w:World} {g:Nat} {v:Value} (h:At Φ ⟨g,0,none⟩ [v]) (hm:Mem Φ K w):w.cell? ⟨g,0,none⟩=some v:=by
 obtain ⟨arr,T,fr,h1,h2⟩:=h.ex
 have h3:=hm.fz _ _ h1
 have h4:=h2 0 v rfl
 simp only [World.cell?,h3]
 simpa using h4
theorem replaceK_len (old new:List UInt8):∀(k:Nat) (s:List UInt8),(Lib.replaceK old new k s).length≤s.length+k * new.length
 | 0,s=>by simp [Lib.replaceK]
 | k+1,s=>by
  unfold Lib.replaceK
  split
  ·omega
  ·have h:=replaceK_len old new k (s.drop ((Lib.index s old).toNat+old.length))
   simp only [List.length_append,List.length_take,List.length_drop,Nat.add_mul] at h ⊢
   omega
theorem replB_size (s old new:Bs):(replB s old new).size≤s.size+new.size:=by
 have h0:∀b:Bs,b.data.toList.length=b.size:=fun b=>by rw [Array.length_toList];rfl
 show (Lib.replace s.data.toList old.data.toList new.data.toList 1).toArray.size≤_
 rw [List.size_toArray,← h0 s,← h0 new]
 unfold Lib.replace
 split
 ·omega
 ·have h:=replaceK_len old.data.toList new.data.toList (Lib.replaceNum s.data.toList old.data.toList 1) s.data.toList
  have h2:Lib.replaceNum s.data.toList old.data.toList 1≤1:=by unfold Lib.replaceNum;split <;> omega
  have:=Nat.mul_le_mul_right new.data.toList.length h2
  omega
theorem itoaP_size {n:Int} (h:I64 n):(itoaP n).size≤21:=by
 show (Lib.itoa n).toArray.size≤_
 rw [List.size_toArray]
 exact Lib.itoa_length_le n (by have:=h;unfold I64 at this;omega) (by have:=h;unfold I64 at this;omega)
theorem replace_ok {Φ:Fz} {K:List Res} {w:World} {s old new:Bs} (hs:s.size≤1000000) (h1:1≤old.size) (hn:new.size=1) (G:Glob Φ) (hm:Mem Φ K w) :
  Calls Tryz.prog 262 (List.toArray [.string s,.string old,.string new,.int .i64 ((1:Nat):Int)]) w (fun ee w'=>ee=.returned (.string (replB s old new))∧Mem Φ K w'):=by
 obtain ⟨m,hg⟩:=G.maxLen
 have hc:=Lib.countB_le old h1 s.size s (Nat.le_refl _)
 refine (Tryz.strings_Replace s old new 1 m w (by omega) (hg.cell hm) h1 (by rw [hn];omega)).mono fun e w' he=>⟨he.1,hm.below he.2⟩
theorem atoi_ok {Φ:Fz} {K:List Res} {w:World} {s:Bs} (hs:s.size≤1000000) (G:Glob Φ) (hm:Mem Φ K w) :
  Calls Tryz.prog 217 (List.toArray [.string s]) w (fun ee w'=>Out (atoiC s) (fun v=>ee=.returned (.tuple (List.toArray [.int .i64 v,.nilIface]))∧Mem Φ K w')
   (fun _=>∃y:Int×Nat,ee=.returned (.tuple (List.toArray [.int .i64 y.1,.iface 309 (.pointer (some ⟨y.2,0,none⟩))]))∧Mem Φ K w')):=by
 have hbelow:∀w':World,(w'=w∨∃t,w'=Lib.bytesWorld w 5 t)→Mem Φ K w':=fun w' h=>by
  rcases h with rfl | ⟨t,rfl⟩
  ·exact hm
  ·exact hm.below (Lib.bytesWorld_below w 5 t)
 unfold atoiC
 cases h:Lib.atoiAll s.data.toList
 ·exact (Any.strconv_Atoi_ok Tryz.laysC172 s (by omega) _ h w).mono fun e w' he=>⟨he.1,hbelow w' he.2⟩
 ·obtain ⟨ev,h1,h2⟩:=G.err4
  exact (Any.strconv_Atoi_syntax Tryz.laysC172 s (by omega) h ev w (h1.cell hm) h2).mono fun e w' ⟨N,h3,_,_,h6⟩=>⟨(_,N),h3,hm.below h6⟩
 ·obtain ⟨ev,h1,h2⟩:=G.err5
  exact (Any.strconv_Atoi_range Tryz.laysC172 s (by omega) h ev w (h1.cell hm) h2).mono fun e w' ⟨N,h3,_,_,h6⟩=>⟨(_,N),h3,hm.below h6⟩
theorem indexByte_ok {Φ:Fz} {K:List Res} {w:World} {s:Bs} {c:Nat} (hm:Mem Φ K w) :
  Calls Tryz.prog 213 (List.toArray [.string s,.int .u8 ((c:Nat):Int)]) w (fun ee w'=>ee=.returned (.int .i64 (Lib.indexByte s.data.toList ((c:Int)).toNat.toUInt8))∧Mem Φ K w'):=by
 exact (Tryz.strings_IndexByte s c w).mono fun e w' he=>by obtain ⟨h1,rfl⟩:=he;exact ⟨h1,hm⟩
theorem y_index_arr {P:Program} {n:Nat} {E:List (Nat×Value)} {D:List Deferred} {a:Act} {w:World} {ty:TypeId} (i m:Nat) {x ix:Operand} {t e:TypeId} {kk:IntKind} {cs:List Value} {s:Bs} (he:EnvR n E D a) (hx:ev E x=some (.agg cs.toArray))
  (hi:ev E ix=some (.int kk (i:Int))) (ht:Under P t (.array m e)) (hs:SizeT P e 1) (hsc:Scalar P e) (hl:cs.length=m) (hc:cs[i]? = some (.string s)):Ok P a (.index t x ix) ty w (.string s):=fun _ _ _ _=>by
 have hlt:i < m:=by rw [← hl];exact (List.getElem?_eq_some_iff.1 hc).1
 simp only [execOp,he.ev hx,he.ev hi]
 have h2:cs[i]'(by rw [hl];exact hlt)=.string s:=(List.getElem?_eq_some_iff.1 hc).2
 simp [Instr.index,asIntOf,Sem.run_bind,ht w,hs w,Result.andThen,hlt]
 simp [part,Sem.run_bind,hsc w,Result.andThen,hc]
theorem eff_callV {P:Program} {n:Nat} {E:List (Nat×Value)} {D:List Deferred} {a:Act} {w:World} {Kn:Value→World→Prop} {Qp:List PanicEntry→World→Prop} {dst:Option Tmp} {ty:TypeId} {pos:String} {aft:Array Edge} {g:Option (Nat×Bool)}
  {α β ε:Type} {f:FuncId} {xs:Array Operand} {ts:Array TypeId} {vs:List Value} {r:Except ε α} {X:α→Value} {Z:ε→β→Value} {Φ1 Φ2:Fz} {KO:α→List Res} {KE:ε→β→List Res}
  (he:EnvR n E D a) (hx:evs E xs.toList=some vs) (hf:∀args w,(callFunc f args).run P w=.ok (.enter f args) w)
  (hc:Calls P f vs.toArray w (fun e w'=>Out r (fun x=>e=.returned (X x)∧Mem Φ1 (KO x) w') (fun c=>∃y,e=.returned (Z c y)∧Mem Φ2 (KE c y) w')))
  (k:∀x w',r=.ok x→Mem Φ1 (KO x) w'→Kn (X x) w') (kp:∀c y w',r=.error c→Mem Φ2 (KE c y) w'→Kn (Z c y) w') :
  Oper.eff P ⟨dst,.call { callee:=.value (.func f),args:=xs,argTypes:=ts },ty,pos,aft,g⟩ a w Kn Qp:=by
 refine z7l he hx hf hc (fun v w' h =>?_) (fun c w' h =>?_) (fun w' h =>?_)
 ·cases r with
  | ok x=>obtain ⟨h1,h2⟩:=h;cases h1;exact k _ _ rfl h2
  | error c=>obtain ⟨y,h1,h2⟩:=h;cases h1;exact kp _ _ _ rfl h2
 ·cases r with
  | ok x=>obtain ⟨h1,_⟩:=h;cases h1
  | error c=>obtain ⟨y,h1,_⟩:=h;cases h1
 ·cases r with
  | ok x=>obtain ⟨h1,_⟩:=h;cases h1
  | error c=>obtain ⟨y,h1,_⟩:=h;cases h1
def numV (s:Bs):Int:=(numberP s).getD 0
def numE (s:Bs):Int:=match numberP s with | some _=>0 | none=>13
theorem num_ok {s:Bs} {v:Int} (h:atoiC (replB s ⟨#[126]⟩ ⟨#[45]⟩)=.ok v) (hd:digitsB v=s):numV s=v∧numE s=0:=by
 simp [numV,numE,numberP,h,hd]
theorem num_no {s:Bs} {v:Int} (h:atoiC (replB s ⟨#[126]⟩ ⟨#[45]⟩)=.ok v) (hd:¬digitsB v=s):numV s=0∧numE s=13:=by
 simp [numV,numE,numberP,h,hd]
theorem num_err {s:Bs} {u:Unit} (h:atoiC (replB s ⟨#[126]⟩ ⟨#[45]⟩)=.error u):numV s=0∧numE s=13:=by
 simp [numV,numE,numberP,h]
theorem atoi_i64 {s:Bs} {v:Int} (h:atoiC s=.ok v):I64 v:=by
 unfold atoiC at h
 unfold Lib.atoiAll at h
 split at h
 ·rename_i v' h2
  simp only [Except.ok.injEq] at h
  subst h
  split at h2
  ·cases h2
  ·simp only at h2
   split at h2
   ·cases h2
   ·cases h2
   ·split at h2
    ·cases h2
    ·split at h2
     ·cases h2
     ·rename_i h3 h4
      simp only [Lib.NumEnd.ok.injEq] at h2
      subst h2
      unfold I64
      split <;> rename_i h5
      ·simp only [h5,true_and] at h4;omega
      ·simp only [h5,not_false_eq_true,true_and] at h3;omega
 ·cases h
theorem z5x (t:Bs) (i:Nat):z0m t i < 256:=by
 unfold z0m;split
 ·exact UInt8.toNat_lt _
 ·decide
theorem u8_cast {n:Nat} (h:n < 256):(n.toUInt8).toNat=n:=by simp [Nat.toUInt8,UInt8.toNat_ofNat,Nat.mod_eq_of_lt h]
section
variable {Φ:Fz} {K:List Res} {w:World} {n:Nat}
theorem isPart_n (h:n < 256) (hm:Mem Φ K w):Calls Tryz.prog 253 (List.toArray [.int .u8 ((n:Nat):Int)]) w (fun ee w'=>ee=.returned (.bool (z3f n))∧Mem Φ K w'):=by
 have:=isPart_ok (c:=n.toUInt8) hm;rwa [u8_cast h] at this
theorem isDigit_n (h:n < 256) (hm:Mem Φ K w):Calls Tryz.prog 247 (List.toArray [.int .u8 ((n:Nat):Int)]) w (fun ee w'=>ee=.returned (.bool (z1y n))∧Mem Φ K w'):=by
 have:=z9v (c:=n.toUInt8) hm;rwa [u8_cast h] at this
theorem isSmall_n (h:n < 256) (hm:Mem Φ K w):Calls Tryz.prog 249 (List.toArray [.int .u8 ((n:Nat):Int)]) w (fun ee w'=>ee=.returned (.bool (smallB n))∧Mem Φ K w'):=by
 have:=isSmall_ok (c:=n.toUInt8) hm;rwa [u8_cast h] at this
theorem isGreat_n (h:n < 256) (hm:Mem Φ K w):Calls Tryz.prog 251 (List.toArray [.int .u8 ((n:Nat):Int)]) w (fun ee w'=>ee=.returned (.bool (greatB n))∧Mem Φ K w'):=by
 have:=isGreat_ok (c:=n.toUInt8) hm;rwa [u8_cast h] at this
end
theorem words_len:wordsL.length=15:=rfl
theorem words_put {i:Nat} {x:Bs} (h:wordsL[i]? = some x):mput (wordsM.take i) x (.int .i64 ((5:Nat):Int))=wordsM.take (i+1):=by
 have hi:i < 15:=by have:=(List.getElem?_eq_some_iff.1 h).1;rwa [words_len] at this
 have hx:x=wordsL[i]'(by rw [words_len];exact hi):=(List.getElem?_eq_some_iff.1 h).2.symm
 subst hx
 match i,hi with
 | 0,_=>rfl
 | 1,_=>rfl
 | 2,_=>rfl
 | 3,_=>rfl
 | 4,_=>rfl
 | 5,_=>rfl
 | 6,_=>rfl
 | 7,_=>rfl
 | 8,_=>rfl
 | 9,_=>rfl
 | 10,_=>rfl
 | 11,_=>rfl
 | 12,_=>rfl
 | 13,_=>rfl
 | 14,_=>rfl
theorem words_full {i:Nat} (h:¬i < 15):wordsM.take i=wordsM:=List.take_of_length_le (by show 15≤i;omega)
theorem peek0_ok {Φ:Fz} {K:List Res} {w:World} {t:Bs} {pos:Nat} {b:Nat} {rest:List Value} {T0:TypeId} (hk:pos≤1000000000) (hm:Mem Φ (.blk b (ob (.string t::.int .i64 ((pos:Nat):Int)::rest) T0)::K) w) :
  Calls Tryz.prog 246 (List.toArray [.pointer (some ⟨b,0,none⟩),.int .i64 ((0:Nat):Int)]) w (fun ee w'=>ee=.returned (.int .u8 ((z0m t pos:Nat):Int))∧Mem Φ (.blk b (ob (.string t::.int .i64 ((pos:Nat):Int)::rest) T0)::K) w') :=
 peek_ok (k:=0) hk hm
theorem y0s (t:Bs) (pos:Nat):numF t pos=if numE (z8g t pos)=0 then
   (if z3f (z0m t (pos+(z4p t pos+z4b t pos)))=true∨z0m t (pos+(z4p t pos+z4b t pos))=39 then .error (pos,13) else .ok ⟨1,numV (z8g t pos),z8g t pos,pos⟩)
  else .error (pos,13):=by
 unfold numF numE numV
 cases numberP (z8g t pos) with
 | none=>rfl
 | some v=>rfl
set_option maxRecDepth 10000 in
theorem sign_ix:∀c < 256,decide ((0:Int)≤Lib.indexByte [40,41,44,59,58,124,61,60,43,45,42,47,37,95] ((c:Nat):Int).toNat.toUInt8)=signB c:=by decide
end Go.Sw

namespace Go.Sw
theorem passP_le (t:Bs):∀(f i q:Nat),i≤t.size→passP t f i=.ok q→i≤q∧q≤t.size
 | 0,i,q,h,hp=>by simp only [passP,Except.ok.injEq] at hp;omega
 | f+1,i,q,h,hp=>by
  have hr:=z5h z4q t t.size i h
  simp only [passP] at hp
  split at hp
  ·cases hc:z3w t (i+runB z4q t t.size i) (i+runB z4q t t.size i) 0 with
   | error c=>rw [hc] at hp;cases hp
   | ok q0 =>
    rw [hc] at hp
    have h1:=z5s _ _ _ _ _ _ hc
    have h2:=passP_le t f q0 q h1.2 hp
    omega
  ·simp only [Except.ok.injEq] at hp;omega
theorem passF_le {t:Bs} {i q:Nat} (h:i≤t.size) (hp:passF t i=.ok q):i≤q∧q≤t.size:=passP_le t _ i q h hp
theorem ext_size (t:Bs) (i n:Nat) (h:i+n≤t.size):(t.extract i (i+n)).size=n:=by
 rw [ByteArray.size_extract];omega
theorem tok_size {t:Bs} {pos:Nat} {k:Tok} (h1:pos < t.size) (h:z0s t pos=.ok k):1≤k.text.size∧pos+k.text.size≤t.size:=by
 have run1:∀p:Nat→Bool,p (z0m t pos)=true→1≤runB p t t.size pos:=fun p hp=>by
  rw [runB_step,if_pos ⟨h1,hp⟩];omega
 have name:∀kd,smallB (z0m t pos)=true∨greatB (z0m t pos)=true→z7n t pos kd=.ok k→1≤k.text.size∧pos+k.text.size≤t.size:=fun kd hs hn=>by
  unfold z7n at hn
  split at hn
  ·cases hn
  ·simp only [Except.ok.injEq] at hn
   subst hn
   have h2:=nameLen_le t pos (by omega)
   have h3:=run1 z3f (by unfold z3f;rcases hs with h | h <;> simp [h])
   have h4:runB z3f t t.size pos≤z2s t pos:=by
    unfold z2s;split
    ·split <;> omega
    ·omega
   simp only
   rw [ext_size t pos _ h2];omega
 have made:∀kd n,1≤n→pos+n≤t.size→z6l t pos kd n=.ok k→1≤k.text.size∧pos+k.text.size≤t.size:=fun kd n h2 h3 hn=>by
  obtain ⟨_,rfl⟩:=madeF_ok hn
  simp only
  rw [ext_size t pos _ h3];omega
 unfold z0s at h
 split at h
 ·rename_i hc
  have hL:1≤z4p t pos+z4b t pos∧pos+(z4p t pos+z4b t pos)≤t.size:=by
   unfold z4b
   by_cases h126:z0m t pos=126
   ·have:z4p t pos=1:=by simp [z4p,h126]
    have:=z5h z1y t t.size (pos+z4p t pos) (by omega)
    omega
   ·have hs:z4p t pos=0:=by simp [z4p,h126]
    have hd:z1y (z0m t pos)=true:=hc.resolve_right h126
    have h2:=run1 z1y hd
    have h3:=z5h z1y t t.size pos (by omega)
    rw [hs,Nat.add_zero];omega
  rw [y0s] at h
  split at h
  ·split at h
   ·cases h
   ·simp only [Except.ok.injEq] at h
    subst h
    simp only [z8g]
    rw [ext_size t pos _ hL.2];omega
  ·cases h
 split at h
 ·rename_i hs;exact name _ (.inl hs) h
 split at h
 ·rename_i hs;exact name _ (.inr hs) h
 split at h
 ·have:=z5h z3f t t.size (pos+1) (by omega)
  exact made _ _ (by omega) (by omega) h
 split at h
 ·rename_i hp
  have e1:(⟨#[61,62]⟩:ByteArray).size=2:=rfl
  have e2:(⟨#[45,62]⟩:ByteArray).size=2:=rfl
  have:2≤t.size - pos:=by
   rcases hp with hp | hp
   ·have:=z2j hp;omega
   ·have:=z2j hp;omega
  exact made _ _ (by omega) (by omega) h
 split at h
 ·exact made _ _ (by omega) (by omega) h
 ·cases h
theorem toksP_more (t:Bs):∀(f g i:Nat),i≤t.size→t.size < i+f→t.size < i+g→toksP t f i=toksP t g i
 | 0,_,i,h0,h,_=>by omega
 | _+1,0,i,h0,_,h=>by omega
 | f+1,g+1,i,h0,h,h'=>by
  simp only [toksP]
  cases hp:passF t i with
  | error c=>rfl
  | ok q =>
   simp only
   split
   ·rename_i hq
    cases hk:z0s t q with
    | error c=>rfl
    | ok k =>
     simp only
     have h1:=passF_le h0 hp
     have h2:=tok_size hq hk
     rw [toksP_more t f g (q+k.text.size) h2.2 (by omega) (by omega)]
   ·rfl
def toksQ (t:Bs) (q:Nat):Except (Nat×Int) (List Tok):=if q < t.size then
  match z0s t q with
  | .error c=>.error c
  | .ok k=>match toksP t (t.size+1) (q+k.text.size) with
   | .error c=>.error c
   | .ok l=>.ok (k::l)
 else .ok []
theorem toks_eq {t:Bs} {i:Nat} (h:i≤t.size):toksP t (t.size+1) i=match passF t i with
  | .error c=>.error c
  | .ok q=>toksQ t q:=by
 rw [toksP_more t (t.size+1) (t.size+2) i h (by omega) (by omega)]
 rfl
def preT (pre:List Tok) (r:Except (Nat×Int) (List Tok)):Except (Nat×Int) (List Tok):=match r with
 | .ok l=>.ok (pre++l)
 | .error c=>.error c
theorem preT_nil (r:Except (Nat×Int) (List Tok)):preT [] r=r:=by cases r <;> rfl
theorem toks_pass {t:Bs} {i q:Nat} {pre:List Tok} (h:i≤t.size) (hp:passF t i=.ok q):preT pre (toksP t (t.size+1) i)=preT pre (toksQ t q):=by
 rw [toks_eq h,hp]
theorem toks_perr {t:Bs} {i:Nat} {pre:List Tok} {c:Nat×Int} (h:i≤t.size) (hp:passF t i=.error c):preT pre (toksP t (t.size+1) i)=.error c:=by
 rw [toks_eq h,hp];rfl
theorem toks_step {t:Bs} {q:Nat} {pre:List Tok} {k:Tok} (h:q < t.size) (hk:z0s t q=.ok k):preT pre (toksQ t q)=preT (pre++[k]) (toksP t (t.size+1) (q+k.text.size)):=by
 unfold toksQ
 rw [if_pos h,hk]
 simp only
 cases toksP t (t.size+1) (q+k.text.size) <;> simp [preT]
theorem toks_terr {t:Bs} {q:Nat} {pre:List Tok} {c:Nat×Int} (h:q < t.size) (hk:z0s t q=.error c):preT pre (toksQ t q)=.error c:=by
 unfold toksQ
 rw [if_pos h,hk];rfl
theorem toks_end {t:Bs} {q:Nat} {pre:List Tok} (h:¬q < t.size):preT pre (toksQ t q)=.ok pre:=by
 unfold toksQ
 rw [if_neg h];simp [preT]
end Go.Sw

namespace Go.Sw
open Go.Proofs.Tryz
open Go.Proofs
set_option maxRecDepth 20000
set_option maxHeartbeats 4000000
variable {Φ:Fz} {K:List Res} {w:World}
theorem digits_ok {n:Int}  (h64:I64 n) (G:Glob Φ) (hm:Mem Φ K w) :
  Calls Tryz.prog 263 (List.toArray [.int .i64 n]) w (fun ee w'=>ee=.returned (.string (digitsB n))∧Mem Φ K w'):=by
 refine z0l func263 ntmps263 fun Q hQ a he =>?_
 refine z0y call122 he hm (fun w hm a he =>?_) (c:=itoa_ok h64 G.tabs hm)
 refine z0y call262 he hm (fun w hm a he =>?_) (c:=replace_ok (by have h_:=itoaP_size h64;omega) (by decide) rfl G hm)
 refine Ret1 hQ he hm ?_
 exact ret_s hm (by rfl)
theorem number0_ok {s:Bs} (hs:s.size≤900000) (G:Glob Φ) (hm:Mem Φ K w) :
  Calls Tryz.prog 258 (List.toArray [.string s]) w (fun ee w'=>ee=.returned (.tuple (List.toArray [.int .i64 (numV s),.int .i64 (numE s)]))∧Mem Φ K w'):=by
 refine z0l func258 ntmps258 fun Q hQ a he =>?_
 refine z0y call262 he hm (fun w hm a he =>?_) (c:=replace_ok (by omega) (by decide) rfl G hm)
 refine st he rfl rfl rfl (eff_callV he rfl call217 (atoi_ok (by have h_:=replB_size s ⟨#[126]⟩ ⟨#[45]⟩;have h2_:(⟨#[45]⟩:Bs).size=1:=rfl;omega) G hm) (fun q3 w hq5 hm a he =>?_) (fun q3 y4 w hq5 hm a he =>?_))
 replace hm:=hm.nf
 refine Qq he hm (fun a he =>?_) (o:=by exact fun _ _ _ he hs=>y0z (v:=.bool false) he rfl rfl rfl (by kernel_rfl))
 refine z0y call263 he hm (fun w hm a he =>?_) (c:=digits_ok (atoi_i64 hq5) G hm)
 refine go he hm fun a he =>?_
 by_cases h9:(digitsB q3)=s
 refine Ret2 hQ he hm ?_
 obtain ⟨h1_,h2_⟩:=num_ok hq5 h9
 rw [h1_,h2_];exact ⟨rfl,hm⟩
 refine Ret2 hQ he hm ?_
 obtain ⟨h1_,h2_⟩:=num_no hq5 h9
 rw [h1_,h2_];exact ⟨rfl,hm⟩
 replace hm:=hm.nf
 refine Qq he hm (fun a he =>?_) (o:=by exact fun _ _ _ he hs=>y0z (v:=.bool true) he rfl rfl rfl (by kernel_rfl))
 refine Ret2 hQ he hm ?_
 obtain ⟨h1_,h2_⟩:=num_err hq5
 rw [h1_,h2_];exact ⟨rfl,hm⟩
theorem numTok_ok {t:Bs} {pos b:Nat} {rest:List Value} {T0:TypeId} (G:Glob Φ) (h1:pos≤t.size) (h2:t.size≤800000) (hm:Mem Φ (.blk b (ob (.string t::.int .i64 ((pos:Nat):Int)::rest) T0)::K) w) :
  Calls Tryz.prog 248 (List.toArray [.pointer (some ⟨b,0,none⟩)]) w (fun ee w'=>Out (numF t pos) (fun q=>ee=.returned (tokV q)∧Mem Φ (.blk b (ob (.string t::.int .i64 ((pos:Nat):Int)::rest) T0)::K) w') (fun c=>ee=.panicked (wrongC c)∧Mem Φ K w')):=by
 refine z0l func248 ntmps248 fun Q hQ a he =>?_
 refine Alc he hm fun b2 w hm a he =>?_
 replace hm:=hm.pl 1
 refine z0y call246 he hm (fun w hm a he =>?_) (c:=peek0_ok (by omega) hm)
 by_cases h6:z0m t pos=126
 refine go he hm fun a he =>?_
 have h0_:=byteAt_lt (t:=t) (i:=pos) (by omega)
 refine z0y call242 he hm (fun w hm a he =>?_) (c:=run_ok (p:=z1y) (pos:=pos) (k:=1) (fs:=[]) (cs:=[]) call247 (fun c hm=>z9v hm) (by omega) (by omega) hm)
 refine go he hm fun a he =>?_
 have h0_:=byteAt_lt (t:=t) (i:=pos) (by omega)
 have hr_:=z5h z1y t t.size (pos+1) (by omega)
 have hL_:z4p t pos+z4b t pos=(1+(runB z1y t t.size (pos+1))):=by simp [z4p,z4b, *]
 refine Qq he hm (fun a he =>?_) (o:=by exact fun _ _ _ he hs=>z7g (i:=1) (j:=(runB z1y t t.size (pos+1))) he rfl rfl (by omega))
 refine z0y call246 he hm (fun w hm a he =>?_) (c:=peek_ok (k:=(1+(runB z1y t t.size (pos+1)))) (by omega) hm)
 refine Reg [1,1,1,1,2,1,1,1,1,2,1,1,1,1,2,1,1,1,1,1,1] [0,1] he hm fun w hm a he =>?_
 refine Qq he hm (fun a he =>?_) (o:=by exact fun _ _ _ he hs=>z7g (i:=(pos+1)) (j:=(runB z1y t t.size (pos+1))) he rfl rfl (by omega))
 refine Qq he hm (fun a he =>?_) (o:=by exact fun _ _ _ he hs=>z3j pos (((pos+1)+(runB z1y t t.size (pos+1)))) he rfl runUnderlying9 ⟨_,rfl⟩ ⟨_,rfl⟩ (by omega) (by omega))
 refine go he hm fun a he =>?_
 have hnt_:(t.extract pos ((pos+1)+(runB z1y t t.size (pos+1))))=z8g t pos:=by unfold z8g;rw [hL_];simp only [Nat.add_assoc]
 refine z0y call258 he hm (fun w hm a he =>?_) (c:=number0_ok (s:=(t.extract pos ((pos+1)+(runB z1y t t.size (pos+1))))) (by have h_:=ByteArray.size_extract (a:=t) (b:=pos) (e:=(pos+1)+(runB z1y t t.size (pos+1)));omega) G hm)
 refine go he hm fun a he =>?_
 by_cases h13:numE (t.extract pos ((pos+1)+(runB z1y t t.size (pos+1))))=0
 refine z1n call253 he hm (fun hB14 w hm a he =>?_) (fun hB14 w hm a he =>?_) (c:=isPart_n (z5x _ _) hm)
 refine z1h he hm fun a he =>?_
 refine Qq he hm (fun a he =>?_) (o:=by exact fun _ _ _ he hs=>z1e he rfl runUnderlying270 (by intro ms h;cases h))
 refine st0 he rfl rfl (z3m he rfl (z3p _) (fun a hd=>hQ _ _ _ (z0z hd ?_)))
 replace hm:=hm.dl [1,0]
 show Out (numF t pos) _ _
 rw [y0s,hL_,← hnt_,if_pos h13,if_pos (.inl hB14)];exact ⟨rfl,hm⟩
 refine go he hm fun a he =>?_
 by_cases h15:z0m t (pos+(1+(runB z1y t t.size (pos+1))))=39
 refine z1h he hm fun a he =>?_
 refine Qq he hm (fun a he =>?_) (o:=by exact fun _ _ _ he hs=>z1e he rfl runUnderlying270 (by intro ms h;cases h))
 refine st0 he rfl rfl (z3m he rfl (z3p _) (fun a hd=>hQ _ _ _ (z0z hd ?_)))
 replace hm:=hm.dl [1,0]
 show Out (numF t pos) _ _
 rw [y0s,hL_,← hnt_,if_pos h13,if_pos (.inr h15)];exact ⟨rfl,hm⟩
 refine z1h he hm fun a he =>?_
 refine Sto 1 he hm fun w hm a he =>?_
 refine go he hm fun a he =>?_
 have hmr:=hm
 replace hm:=hm.dl [1]
 refine RetA hQ he hmr ?_
 show Out (numF t pos) _ _
 rw [y0s,hL_,← hnt_,if_pos h13,if_neg (fun hh_=>hh_.elim (fun h_=>absurd (h_.symm.trans hB14) (by decide)) h15)];exact ⟨rfl,hm⟩
 refine z1h he hm fun a he =>?_
 refine Qq he hm (fun a he =>?_) (o:=by exact fun _ _ _ he hs=>z1e he rfl runUnderlying270 (by intro ms h;cases h))
 refine st0 he rfl rfl (z3m he rfl (z3p _) (fun a hd=>hQ _ _ _ (z0z hd ?_)))
 replace hm:=hm.dl [1,0]
 show Out (numF t pos) _ _
 rw [y0s,hL_,← hnt_,if_neg h13];exact ⟨rfl,hm⟩
 refine z0y call242 he hm (fun w hm a he =>?_) (c:=run0_ok (p:=z1y) (pos:=pos) (fs:=[]) (cs:=[]) call247 (fun c hm=>z9v hm) (by omega) (by omega) hm)
 refine go he hm fun a he =>?_
 have hr_:=z5h z1y t t.size pos h1
 have hL_:z4p t pos+z4b t pos=(0+(runB z1y t t.size pos)):=by simp [z4p,z4b, *]
 refine Qq he hm (fun a he =>?_) (o:=by exact fun _ _ _ he hs=>z7g (i:=0) (j:=(runB z1y t t.size pos)) he rfl rfl (by omega))
 refine z0y call246 he hm (fun w hm a he =>?_) (c:=peek_ok (k:=(0+(runB z1y t t.size pos))) (by omega) hm)
 refine Reg [1,1,1,1,2,1,1,1,1,2,1,1,1,1,2,1,1,1,1,1,1] [0,1] he hm fun w hm a he =>?_
 refine Qq he hm (fun a he =>?_) (o:=by exact fun _ _ _ he hs=>z7g (i:=pos) (j:=0) he rfl rfl (by omega))
 refine Qq he hm (fun a he =>?_) (o:=by exact fun _ _ _ he hs=>z7g (i:=(pos+0)) (j:=(runB z1y t t.size pos)) he rfl rfl (by omega))
 refine Qq he hm (fun a he =>?_) (o:=by exact fun _ _ _ he hs=>z3j pos (((pos+0)+(runB z1y t t.size pos))) he rfl runUnderlying9 ⟨_,rfl⟩ ⟨_,rfl⟩ (by omega) (by omega))
 refine go he hm fun a he =>?_
 have hnt_:(t.extract pos ((pos+0)+(runB z1y t t.size pos)))=z8g t pos:=by unfold z8g;rw [hL_];simp only [Nat.add_assoc]
 refine z0y call258 he hm (fun w hm a he =>?_) (c:=number0_ok (s:=(t.extract pos ((pos+0)+(runB z1y t t.size pos)))) (by have h_:=ByteArray.size_extract (a:=t) (b:=pos) (e:=(pos+0)+(runB z1y t t.size pos));omega) G hm)
 refine go he hm fun a he =>?_
 by_cases h23:numE (t.extract pos ((pos+0)+(runB z1y t t.size pos)))=0
 refine z1n call253 he hm (fun hB24 w hm a he =>?_) (fun hB24 w hm a he =>?_) (c:=isPart_n (z5x _ _) hm)
 refine z1h he hm fun a he =>?_
 refine Qq he hm (fun a he =>?_) (o:=by exact fun _ _ _ he hs=>z1e he rfl runUnderlying270 (by intro ms h;cases h))
 refine st0 he rfl rfl (z3m he rfl (z3p _) (fun a hd=>hQ _ _ _ (z0z hd ?_)))
 replace hm:=hm.dl [1,0]
 show Out (numF t pos) _ _
 rw [y0s,hL_,← hnt_,if_pos h23,if_pos (.inl hB24)];exact ⟨rfl,hm⟩
 refine go he hm fun a he =>?_
 by_cases h25:z0m t (pos+(0+(runB z1y t t.size pos)))=39
 refine z1h he hm fun a he =>?_
 refine Qq he hm (fun a he =>?_) (o:=by exact fun _ _ _ he hs=>z1e he rfl runUnderlying270 (by intro ms h;cases h))
 refine st0 he rfl rfl (z3m he rfl (z3p _) (fun a hd=>hQ _ _ _ (z0z hd ?_)))
 replace hm:=hm.dl [1,0]
 show Out (numF t pos) _ _
 rw [y0s,hL_,← hnt_,if_pos h23,if_pos (.inr h25)];exact ⟨rfl,hm⟩
 refine z1h he hm fun a he =>?_
 refine Sto 1 he hm fun w hm a he =>?_
 refine go he hm fun a he =>?_
 have hmr:=hm
 replace hm:=hm.dl [1]
 refine RetA hQ he hmr ?_
 show Out (numF t pos) _ _
 rw [y0s,hL_,← hnt_,if_pos h23,if_neg (fun hh_=>hh_.elim (fun h_=>absurd (h_.symm.trans hB24) (by decide)) h25)];exact ⟨rfl,hm⟩
 refine z1h he hm fun a he =>?_
 refine Qq he hm (fun a he =>?_) (o:=by exact fun _ _ _ he hs=>z1e he rfl runUnderlying270 (by intro ms h;cases h))
 refine st0 he rfl rfl (z3m he rfl (z3p _) (fun a hd=>hQ _ _ _ (z0z hd ?_)))
 replace hm:=hm.dl [1,0]
 show Out (numF t pos) _ _
 rw [y0s,hL_,← hnt_,if_neg h23];exact ⟨rfl,hm⟩
end Go.Sw

namespace Go.Sw
open Go.Proofs.Tryz
open Go.Proofs
set_option maxRecDepth 20000
set_option maxHeartbeats 4000000
theorem token_ok {Φ:Fz} {K:List Res} {w:World} {t:Bs} {pos b mb:Nat} {cv:Value} (G:Glob Φ) (hmap:MapAt Φ mb wordsM) (h1:pos < t.size) (h2:t.size≤800000) (hm:Mem Φ (.blk b (ob [.string t,.int .i64 ((pos:Nat):Int),.map (some mb),cv] 301)::K) w) :
  Calls Tryz.prog 233 (List.toArray [.pointer (some ⟨b,0,none⟩)]) w (fun ee w'=>Out (z0s t pos) (fun q=>ee=.returned (tokV q)∧Mem Φ (.blk b (ob [.string t,.int .i64 ((pos:Nat):Int),.map (some mb),cv] 301)::K) w') (fun c=>ee=.panicked (wrongC c)∧Mem Φ K w')):=by
 refine z0l func233 ntmps233 fun Q hQ a he =>?_
 refine Alc he hm fun b2 w hm a he =>?_
 refine go he hm fun a he =>?_
 have h39a_:z1y 39=false:=rfl
 have h39b_:smallB 39=false:=rfl
 have h39c_:greatB 39=false:=rfl
 have h39d_:signB 39=false:=rfl
 replace hm:=hm.pl 1
 refine z0y call246 he hm (fun w hm a he =>?_) (c:=peek0_ok (by omega) hm)
 refine z1n call247 he hm (fun hB7 w hm a he =>?_) (fun hB7 w hm a he =>?_) (c:=isDigit_n (z5x _ _) hm)
 refine z3b hQ call248 he hm (fun q9 w hq10 hm a he =>?_) (fun q9 w hq10 hm =>?_) (c:=numTok_ok (pos:=pos) G (by omega) (by omega) hm)
 refine Sto 1 he hm fun w hm a he =>?_
 refine go he hm fun a he =>?_
 have hmr:=hm
 replace hm:=hm.dl [1]
 refine RetA hQ he hmr ?_
 show Out (z0s t pos) _ _
 rw [show z0s t pos=numF t pos by simp [z0s, *],hq10];exact ⟨rfl,hm⟩
 replace hm:=hm.dl [0]
 show Out (z0s t pos) _ _
 rw [show z0s t pos=numF t pos by simp [z0s, *],hq10];exact ⟨rfl,hm⟩
 refine go he hm fun a he =>?_
 by_cases h11:z0m t pos=126
 refine z3b hQ call248 he hm (fun q13 w hq14 hm a he =>?_) (fun q13 w hq14 hm =>?_) (c:=numTok_ok (pos:=pos) G (by omega) (by omega) hm)
 refine Sto 1 he hm fun w hm a he =>?_
 refine go he hm fun a he =>?_
 have hmr:=hm
 replace hm:=hm.dl [1]
 refine RetA hQ he hmr ?_
 show Out (z0s t pos) _ _
 rw [show z0s t pos=numF t pos by simp [z0s, *],hq14];exact ⟨rfl,hm⟩
 replace hm:=hm.dl [0]
 show Out (z0s t pos) _ _
 rw [show z0s t pos=numF t pos by simp [z0s, *],hq14];exact ⟨rfl,hm⟩
 refine z1n call249 he hm (fun hB16 w hm a he =>?_) (fun hB16 w hm a he =>?_) (c:=isSmall_n (z5x _ _) hm)
 refine z3b hQ call250 he hm (fun q18 w hq19 hm a he =>?_) (fun q18 w hq19 hm =>?_) (c:=name_ok (pos:=pos) (kd:=2) hmap (by omega) (by omega) hm)
 refine Sto 1 he hm fun w hm a he =>?_
 refine go he hm fun a he =>?_
 have hmr:=hm
 replace hm:=hm.dl [1]
 refine RetA hQ he hmr ?_
 show Out (z0s t pos) _ _
 rw [show z0s t pos=z7n t pos 2 by simp [z0s, *],hq19];exact ⟨rfl,hm⟩
 replace hm:=hm.dl [0]
 show Out (z0s t pos) _ _
 rw [show z0s t pos=z7n t pos 2 by simp [z0s, *],hq19];exact ⟨rfl,hm⟩
 refine z1n call251 he hm (fun hB21 w hm a he =>?_) (fun hB21 w hm a he =>?_) (c:=isGreat_n (z5x _ _) hm)
 refine z3b hQ call250 he hm (fun q23 w hq24 hm a he =>?_) (fun q23 w hq24 hm =>?_) (c:=name_ok (pos:=pos) (kd:=3) hmap (by omega) (by omega) hm)
 refine Sto 1 he hm fun w hm a he =>?_
 refine go he hm fun a he =>?_
 have hmr:=hm
 replace hm:=hm.dl [1]
 refine RetA hQ he hmr ?_
 show Out (z0s t pos) _ _
 rw [show z0s t pos=z7n t pos 3 by simp [z0s, *],hq24];exact ⟨rfl,hm⟩
 replace hm:=hm.dl [0]
 show Out (z0s t pos) _ _
 rw [show z0s t pos=z7n t pos 3 by simp [z0s, *],hq24];exact ⟨rfl,hm⟩
 refine go he hm fun a he =>?_
 by_cases h26:z0m t pos=39
 refine z0y call246 he hm (fun w hm a he =>?_) (c:=peek_ok (k:=1) (by omega) hm)
 refine z1n call249 he hm (fun hB27 w hm a he =>?_) (fun hB27 w hm a he =>?_) (c:=isSmall_n (z5x _ _) hm)
 refine z0y call242 he hm (fun w hm a he =>?_) (c:=run_ok (p:=z3f) (pos:=pos) (k:=1) (fs:=[]) (cs:=[]) call253 (fun c hm=>isPart_ok hm) (by omega) (by omega) hm)
 refine Qq he hm (fun a he =>?_) (o:=by exact fun _ _ _ he hs=>y_add (((1+(runB z3f t t.size (pos+1))):Nat):Int) he rfl rfl (by have hr_:=z5h z3f t t.size (pos+1) (by omega);rw [z1d (by omega)];omega))
 refine z3b hQ call252 he hm (fun q29 w hq30 hm a he =>?_) (fun q29 w hq30 hm =>?_) (c:=y0r (pos:=pos) (kd:=4) (n:=(1+(runB z3f t t.size (pos+1)))) (by have hr_:=z5h z3f t t.size (pos+1) (by omega);omega) (by omega) hm)
 refine Sto 1 he hm fun w hm a he =>?_
 refine go he hm fun a he =>?_
 have hmr:=hm
 replace hm:=hm.dl [1]
 refine RetA hQ he hmr ?_
 show Out (z0s t pos) _ _
 rw [show z0s t pos=z6l t pos 4 (1+(runB z3f t t.size (pos+1))) by simp [z0s, *],hq30];exact ⟨rfl,hm⟩
 replace hm:=hm.dl [0]
 show Out (z0s t pos) _ _
 rw [show z0s t pos=z6l t pos 4 (1+(runB z3f t t.size (pos+1))) by simp [z0s, *],hq30];exact ⟨rfl,hm⟩
 refine z1n call244 he hm (fun hB33 w hm a he =>?_) (fun hB33 w hm a he =>?_) (c:=z8n (s:=(⟨#[61,62]⟩:ByteArray)) (by omega) hm)
 refine z3b hQ call252 he hm (fun q35 w hq36 hm a he =>?_) (fun q35 w hq36 hm =>?_) (c:=y0r (pos:=pos) (kd:=6) (n:=2) (by have h_:=z2j hB33;have e_:(⟨#[61,62]⟩:ByteArray).size=2:=rfl;have e2_:(⟨#[45,62]⟩:ByteArray).size=2:=rfl;omega) (by omega) hm)
 refine Sto 1 he hm fun w hm a he =>?_
 refine go he hm fun a he =>?_
 have hmr:=hm
 replace hm:=hm.dl [1]
 refine RetA hQ he hmr ?_
 show Out (z0s t pos) _ _
 rw [show z0s t pos=z6l t pos 6 2 by simp [z0s, *],hq36];exact ⟨rfl,hm⟩
 replace hm:=hm.dl [0]
 show Out (z0s t pos) _ _
 rw [show z0s t pos=z6l t pos 6 2 by simp [z0s, *],hq36];exact ⟨rfl,hm⟩
 refine z1n call244 he hm (fun hB37 w hm a he =>?_) (fun hB37 w hm a he =>?_) (c:=z8n (s:=(⟨#[45,62]⟩:ByteArray)) (by omega) hm)
 refine z3b hQ call252 he hm (fun q39 w hq40 hm a he =>?_) (fun q39 w hq40 hm =>?_) (c:=y0r (pos:=pos) (kd:=6) (n:=2) (by have h_:=z2j hB37;have e_:(⟨#[61,62]⟩:ByteArray).size=2:=rfl;have e2_:(⟨#[45,62]⟩:ByteArray).size=2:=rfl;omega) (by omega) hm)
 refine Sto 1 he hm fun w hm a he =>?_
 refine go he hm fun a he =>?_
 have hmr:=hm
 replace hm:=hm.dl [1]
 refine RetA hQ he hmr ?_
 show Out (z0s t pos) _ _
 rw [show z0s t pos=z6l t pos 6 2 by simp [z0s, *],hq40];exact ⟨rfl,hm⟩
 replace hm:=hm.dl [0]
 show Out (z0s t pos) _ _
 rw [show z0s t pos=z6l t pos 6 2 by simp [z0s, *],hq40];exact ⟨rfl,hm⟩
 refine z0y call213 he hm (fun w hm a he =>?_) (c:=indexByte_ok hm)
 have hsg_:=sign_ix (z0m t pos) (z5x t pos)
 by_cases h42:0≤Lib.indexByte (⟨#[40,41,44,59,58,124,61,60,43,45,42,47,37,95]⟩:ByteArray).data.toList (((z0m t pos:Nat):Int).toNat.toUInt8)
 refine go he hm fun a he =>?_
 have hsb_:signB (z0m t pos)=true:=by rw [← hsg_];exact decide_eq_true h42
 rw [h26] at hsb_
 cases hsb_
 refine z1h he hm fun a he =>?_
 refine Qq he hm (fun a he =>?_) (o:=by exact fun _ _ _ he hs=>z1e he rfl runUnderlying270 (by intro ms h;cases h))
 refine st0 he rfl rfl (z3m he rfl (z3p _) (fun a hd=>hQ _ _ _ (z0z hd ?_)))
 replace hm:=hm.dl [1,0]
 have hno_:signB (z0m t pos)=false:=by rw [← hsg_];exact decide_eq_false h42
 show Out (z0s t pos) _ _
 rw [show z0s t pos=.error (pos,11) by simp [z0s, *]];exact ⟨rfl,hm⟩
 refine z1n call244 he hm (fun hB46 w hm a he =>?_) (fun hB46 w hm a he =>?_) (c:=z8n (s:=(⟨#[61,62]⟩:ByteArray)) (by omega) hm)
 refine z3b hQ call252 he hm (fun q48 w hq49 hm a he =>?_) (fun q48 w hq49 hm =>?_) (c:=y0r (pos:=pos) (kd:=6) (n:=2) (by have h_:=z2j hB46;have e_:(⟨#[61,62]⟩:ByteArray).size=2:=rfl;have e2_:(⟨#[45,62]⟩:ByteArray).size=2:=rfl;omega) (by omega) hm)
 refine Sto 1 he hm fun w hm a he =>?_
 refine go he hm fun a he =>?_
 have hmr:=hm
 replace hm:=hm.dl [1]
 refine RetA hQ he hmr ?_
 show Out (z0s t pos) _ _
 rw [show z0s t pos=z6l t pos 6 2 by simp [z0s, *],hq49];exact ⟨rfl,hm⟩
 replace hm:=hm.dl [0]
 show Out (z0s t pos) _ _
 rw [show z0s t pos=z6l t pos 6 2 by simp [z0s, *],hq49];exact ⟨rfl,hm⟩
 refine z1n call244 he hm (fun hB50 w hm a he =>?_) (fun hB50 w hm a he =>?_) (c:=z8n (s:=(⟨#[45,62]⟩:ByteArray)) (by omega) hm)
 refine z3b hQ call252 he hm (fun q52 w hq53 hm a he =>?_) (fun q52 w hq53 hm =>?_) (c:=y0r (pos:=pos) (kd:=6) (n:=2) (by have h_:=z2j hB50;have e_:(⟨#[61,62]⟩:ByteArray).size=2:=rfl;have e2_:(⟨#[45,62]⟩:ByteArray).size=2:=rfl;omega) (by omega) hm)
 refine Sto 1 he hm fun w hm a he =>?_
 refine go he hm fun a he =>?_
 have hmr:=hm
 replace hm:=hm.dl [1]
 refine RetA hQ he hmr ?_
 show Out (z0s t pos) _ _
 rw [show z0s t pos=z6l t pos 6 2 by simp [z0s, *],hq53];exact ⟨rfl,hm⟩
 replace hm:=hm.dl [0]
 show Out (z0s t pos) _ _
 rw [show z0s t pos=z6l t pos 6 2 by simp [z0s, *],hq53];exact ⟨rfl,hm⟩
 refine z0y call213 he hm (fun w hm a he =>?_) (c:=indexByte_ok hm)
 have hsg_:=sign_ix (z0m t pos) (z5x t pos)
 by_cases h55:0≤Lib.indexByte (⟨#[40,41,44,59,58,124,61,60,43,45,42,47,37,95]⟩:ByteArray).data.toList (((z0m t pos:Nat):Int).toNat.toUInt8)
 refine go he hm fun a he =>?_
 have hsb_:signB (z0m t pos)=true:=by rw [← hsg_];exact decide_eq_true h55
 refine z3b hQ call252 he hm (fun q57 w hq58 hm a he =>?_) (fun q57 w hq58 hm =>?_) (c:=y0r (pos:=pos) (kd:=6) (n:=1) (by have hr_:=z5h z3f t t.size (pos+1) (by omega);omega) (by omega) hm)
 refine Sto 1 he hm fun w hm a he =>?_
 refine go he hm fun a he =>?_
 have hmr:=hm
 replace hm:=hm.dl [1]
 refine RetA hQ he hmr ?_
 show Out (z0s t pos) _ _
 rw [show z0s t pos=z6l t pos 6 1 by simp [z0s, *],hq58];exact ⟨rfl,hm⟩
 replace hm:=hm.dl [0]
 show Out (z0s t pos) _ _
 rw [show z0s t pos=z6l t pos 6 1 by simp [z0s, *],hq58];exact ⟨rfl,hm⟩
 refine z1h he hm fun a he =>?_
 refine Qq he hm (fun a he =>?_) (o:=by exact fun _ _ _ he hs=>z1e he rfl runUnderlying270 (by intro ms h;cases h))
 refine st0 he rfl rfl (z3m he rfl (z3p _) (fun a hd=>hQ _ _ _ (z0z hd ?_)))
 replace hm:=hm.dl [1,0]
 have hno_:signB (z0m t pos)=false:=by rw [← hsg_];exact decide_eq_false h55
 show Out (z0s t pos) _ _
 rw [show z0s t pos=.error (pos,11) by simp [z0s, *]];exact ⟨rfl,hm⟩
end Go.Sw

namespace Go.Sw
open Go.Proofs.Tryz
open Go.Proofs
set_option maxRecDepth 20000
set_option maxHeartbeats 4000000
theorem newScanner_ok {Φ:Fz} {K:List Res} {w:World} {t:Bs} (hm:Mem Φ K w) :
  Calls Tryz.prog 220 (List.toArray [.string t]) w (fun ee w'=>∃y:Nat×Nat,ee=.returned (.pointer (some ⟨y.1,0,none⟩))∧True∧Mem Φ (.blk y.1 (ob [.string t,.int .i64 ((0:Nat):Int),.map (some y.2),.slice none 0 0] 301)::.mp y.2 wordsM::K) w'):=by
 refine z0l func220 ntmps220 fun Q hQ a he =>?_
 refine z1h he hm fun a he =>?_
 refine MkM he hm fun b3 w hm a he =>?_
 refine BldT he hm fun a he =>?_
 refine Bx he hm fun b4 w hm a he =>?_
 refine z1h he hm fun a he =>?_
 refine go he hm fun a he =>?_
 refine z1i (he.ks [3,11]) hm (fun R mm a w=>∃(i:Nat),mm=15 - i∧R Φ [(12,.int .i64 ((i:Nat):Int))] [(1,.mp b3 (wordsM.take i))] a w∧(True)) (15 - 0) ⟨0,rfl,⟨he.pk,hm⟩,trivial⟩ ?_
 clear hm he
 rintro mm a w ⟨i,hmu,⟨he,hm⟩,hI8⟩ L7 hL7
 replace hm:=hm.nf
 refine go he hm fun a he =>?_
 by_cases h10:i < 15
 refine go he hm fun a he =>?_
 obtain ⟨x14,hx15⟩:=z2d (l:=wordsL) (i:=i) h10
 refine Qq he hm (fun a he =>?_) (o:=by exact fun _ _ _ he hs=>y_index_arr i 15 (cs:=strs wordsL) he rfl rfl runUnderlying302 sizeOf9 isAgg9 rfl (by rw [strs,List.getElem?_map,hx15];rfl))
 refine MapU 1 runUnderlying298 runUnderlying9 he hm fun w hm a he =>?_
 rw [show Value.int .i64 5=.int .i64 ((5:Nat):Int) from rfl,words_put hx15] at hm
 refine go he hm fun a he =>?_
 refine hL7 _ _ _ (by subst hmu;omega) ⟨(i+1),rfl,⟨he.pk,hm⟩,?_⟩
 trivial
 refine Ret1 hQ he hm ?_
 rw [words_full h10] at hm
 exact ⟨(_,_),rfl,trivial,hm⟩
theorem tokens_ok {Φ:Fz} {K:List Res} {w:World} {b:Nat} (hm:Mem Φ K w) :
  Calls Tryz.prog 222 (List.toArray [.pointer (some ⟨b,0,none⟩)]) w (fun ee w'=>∃y:Nat,ee=.returned (.func (.func 231) (List.toArray []) (List.toArray [.pointer (some ⟨y,0,none⟩)]))∧True∧Mem Φ (.blk y (ob [.pointer (some ⟨b,0,none⟩)] 267)::K) w'):=by
 refine z0l func222 ntmps222 fun Q hQ a he =>?_
 refine Bx he hm fun b2 w hm a he =>?_
 refine Ret1 hQ he hm ?_
 exact ⟨_,rfl,trivial,hm⟩
end Go.Sw

namespace Go.Sw
open Go.Proofs.Tryz
open Go.Proofs
set_option maxRecDepth 20000
set_option maxHeartbeats 4000000
theorem tokens1_ok {β:Type} {Φ:Fz} {w:World} {t:Bs} {bx b mb l:Nat} {KY:List Tok→β→List Res} {z:β} (G:Glob Φ) (hmap:MapAt Φ mb wordsM) (h2:t.size≤800000)
  (hy:∀pre z K0 (k:Tok) w,pre.length < t.size→Mem Φ (K0++KY pre z) w→YieldAt Fence.wide 2 Tryz.prog l #[tokV k] w (fun e w'=>e=.returned (.bool true)∧∃z',Mem Φ (K0++KY (pre++[k]) z') w'))
  (hm:Mem Φ (.blk bx (ob [.pointer (some ⟨b,0,none⟩)] 267)::.blk b (ob [.string t,.int .i64 ((0:Nat):Int),.map (some mb),.slice none 0 0] 301)::KY [] z) w) :
  Calls Tryz.prog 231 (List.toArray [.func (.yield l) #[] #[],.pointer (some ⟨bx,0,none⟩)]) w (fun ee w'=>Out (toksF t) (fun r=>∃y:β,ee=.returned (.tuple #[])∧Mem Φ (KY r y) w') (fun c=>∃y:List Tok×β,ee=.panicked (wrongC c)∧Mem Φ (KY y.1 y.2) w')):=by
 refine z0l func231 ntmps231 fun Q hQ a he =>?_
 refine go he hm fun a he =>?_
 replace hm:=hm.nilRow 314 2
 replace hm:=hm.nf
 replace hm:=hm.pl 2
 refine z4u hQ call232 he hm (fun q2 y3 w hq4 hG5 hm a he =>?_) (fun q2 w hq4 hm =>?_) (c:=pass_ok (pos:=0) (by omega) (by omega) (Nat.zero_le _) hm)
 replace hm:=hm.nf
 have hpl_:=passF_le (by omega) hq4
 refine go he hm fun a he =>?_
 refine z8x (fun mm a w=>∃(i:Nat) (pre:List Tok) (u:Value) (ds:List Value) (z0:β),mm=t.size - i∧EnvR 38 [(0,.func (.yield l) #[] #[]),(1,.pointer (some ⟨bx,0,none⟩))] [] a∧Mem Φ (.blk b (ob [.string t,.int .i64 ((i:Nat):Int),.map (some mb),u] 301)::.gs (u) 314 2 ds::.blk bx (ob [.pointer (some ⟨b,0,none⟩)] 267)::KY pre z0) w∧(i≤t.size∧ds.length≤2 * i∧pre.length≤i∧toksF t=preT pre (toksQ t i))) (t.size - q2) ⟨q2,[],y3.1,y3.2,z,rfl,he.pk,hm,⟨hpl_.2,hG5,Nat.zero_le _,(preT_nil _).symm.trans (toks_pass (Nat.zero_le _) hq4)⟩⟩ ?_
 clear hm he
 rintro mm a w ⟨i,pre,u,ds,z0,hmu,he,hm,hI7⟩ L6 hL6
 obtain ⟨hi0_,hi1_,hi2_,hI_⟩:=hI7
 refine Reg [2,1,1,1,2,2,1,1,1,2,1,1] [0,1,2] he hm fun w hm a he =>?_
 refine go he hm fun a he =>?_
 by_cases h10:i < t.size
 refine z3b hQ call233 he hm (fun q13 w hq14 hm a he =>?_) (fun q13 w hq14 hm =>?_) (c:=token_ok (pos:=i) G hmap h10 h2 hm)
 have hts_:=tok_size h10 hq14
 refine Alc he hm fun b15 w hm a he =>?_
 refine Sto 0 he hm fun w hm a he =>?_
 refine Reg [2,1,1,1,2,1,2,1,1,1,1,1,0] [0,1,2,3] he hm fun w hm a he =>?_
 refine Qq he hm (fun a he =>?_) (o:=by exact fun _ _ _ he hs=>z7g (i:=i) (j:=q13.text.size) he rfl rfl (by omega))
 refine Sto 1 he hm fun w hm a he =>?_
 refine go1 he hm fun a he =>?_
 refine wp_region_in ?_
 refine z9j he (by intro c h;cases h) (z4g he rfl) rfl fun a he =>?_
 refine z9j he (by intro c h;cases h) (z1w 0 (vs:=[.int .i64 (q13.kind),.int .i64 (q13.num),.string q13.text,.int .i64 ((q13.org:Nat):Int)]) he hm.toSees rfl rfl isAgg274 sizeOf274 rfl rfl) rfl fun a he =>?_
 replace hm:=hm.dl [0]
 refine in_yield (v:=tokV q13) he rfl rfl rfl (hy pre z0 [.blk b (ob [.string t,.int .i64 (((i+q13.text.size):Nat):Int),.map (some mb),u] 301),.gs (u) 314 2 ds,.blk bx (ob [.pointer (some ⟨b,0,none⟩)] 267)] q13 w (by omega) hm) fun w hJ_ a he =>?_
 obtain ⟨z18,hm⟩:=hJ_
 replace hm:=hm.nf
 refine z9j he (by intro c h;cases h) (y_not he rfl) rfl fun a he =>?_
 refine wpListIn_nil ?_
 replace hm:=hm.ar [] [1,1]
 refine z4u hQ call232 he hm (fun q19 y20 w hq21 hG22 hm a he =>?_) (fun q19 w hq21 hm =>?_) (c:=pass_ok (pos:=(i+q13.text.size)) (by omega) (by omega) (by omega) hm)
 replace hm:=hm.nf
 have hpl_:=passF_le (by omega) hq21
 refine go he hm fun a he =>?_
 refine hL6 _ _ _ (by subst hmu;omega) ⟨(q19),(pre++[q13]),(y20.1),(y20.2),(z18),rfl,he.pk,hm,?_⟩
 exact ⟨hpl_.2,hG22,by simp only [List.length_append,List.length_cons,List.length_nil];omega,by rw [hI_,toks_step h10 hq14,toks_pass (by omega) hq21]⟩
 replace hm:=hm.dl [0]
 have hr_:toksF t=.error q19:=by
  rw [hI_,toks_step h10 hq14,toks_perr (by omega) hq21]
 show Out (toksF t) _ _
 rw [hr_];exact ⟨(pre++[q13],z18),rfl,hm⟩
 replace hm:=hm.dl [1,0]
 have hr_:toksF t=.error q13:=by
  rw [hI_,toks_terr h10 hq14]
 show Out (toksF t) _ _
 rw [hr_];exact ⟨(pre,z0),rfl,hm⟩
 refine go he hm fun a he =>?_
 replace hm:=hm.dl [2,1,0]
 refine hQ _ _ _ (ret0N he results231 ?_)
 show Out (toksF t) _ _
 rw [hI_,toks_end h10];exact ⟨z0,rfl,hm⟩
 replace hm:=hm.dl [0]
 have hr_:toksF t=.error q2:=by
  exact (preT_nil _).symm.trans (toks_perr (Nat.zero_le _) hq4)
 show Out (toksF t) _ _
 rw [hr_];exact ⟨([],z),rfl,hm⟩
end Go.Sw

namespace Go.Sw
open Go.Proofs.Tryz
open Go.Proofs
def tokC (k:Tok):List Value:=[.int .i64 k.kind,.int .i64 k.num,.string k.text,.int .i64 ((k.org:Nat):Int)]
def z9m (l:List Tok):List Value:=l.flatMap tokC
theorem toksC_snoc (l:List Tok) (k:Tok):z9m (l++[k])=z9m l++tokC k:=by simp [z9m]
theorem toksC_len:∀l:List Tok,(z9m l).length=4 * l.length
 | []=>rfl
 | k::l=>by have:=toksC_len l;simp only [z9m,List.flatMap_cons,List.length_append,List.length_cons] at this ⊢;rw [this];simp only [tokC,List.length_cons,List.length_nil];omega
def wrongV (c:Nat×Int):List Value:=[.int .i64 ((c.1:Nat):Int),.int .i64 c.2]
abbrev wrongE (c:Nat×Int) (r:Bool):PanicEntry:={ v:=.iface 270 (.agg (wrongV c).toArray),recovered:=r }
set_option maxRecDepth 20000 in
set_option maxHeartbeats 4000000 in
theorem catch_wrong {Φ:Fz} {K:List Res} {w:World} {b3 b4:Nat} {v:Value} {x y:Value} {c:Nat×Int} (hm:Mem Φ (.blk b3 (ob [v] 268)::.blk b4 (ob [x,y] 270)::K) w) :
  CallsD Tryz.prog 221 #[.pointer (some ⟨b3,0,none⟩),.pointer (some ⟨b4,0,none⟩)] (.panicking (wrongC c)) w fun e u' w' =>
   e=.returned (.tuple #[])∧u'=.panicking [wrongE c true]∧Mem Φ (.blk b3 (ob [.slice none 0 0] 268)::.blk b4 (ob (wrongV c) 270)::K) w':=by
 generalize hR:(fun (e:Ending) (u':FrameMode) (w':World)=>e=.returned (.tuple #[])∧u'=.panicking [wrongE c true]∧Mem Φ (.blk b3 (ob [.slice none 0 0] 268)::.blk b4 (ob (wrongV c) 270)::K) w')=R
 refine callsD_of_wpS func221 rfl fun c₀ cs hu =>?_
 apply wpS_seq
 apply wpS_region
 show wpOpsS Tryz.prog _ _ [0] _ _ _
 simp [wpOpsS,go_sem,recoverD,hu,ntmps221,Exit.thenS,wrongC]
 refine wpS_of_wp ?_
 generalize hc:(_::cs:List Frame)=cs'
 have hQ:∀(a:Act) (w':World),a.defers=[]→Mem Φ (.blk b3 (ob [.slice none 0 0] 268)::.blk b4 (ob (wrongV c) 270)::K) w'→bodyPostS Tryz.prog Tryz.f221 c₀ cs R .normal a cs' w':=fun a w' hd hm =>
  ⟨hd,.panicking [wrongE c true],hc.symm,.tuple #[],results_none rfl _ _ _,by subst hR;exact ⟨rfl,rfl,hm⟩⟩
 generalize hact:(Act.mk _ [])=a
 have he:EnvR 12 [(5,.iface 270 (.agg (wrongV c).toArray)),(1,.pointer (some ⟨b4,0,none⟩)),(0,.pointer (some ⟨b3,0,none⟩))] [] a:=by
  subst hact
  refine ⟨rfl,fun t v h =>?_,rfl⟩
  obtain ⟨rfl,rfl⟩ | ⟨_,h⟩:=z5f h
  ·rfl
  ·obtain ⟨rfl,rfl⟩ | ⟨_,h⟩:=z5f h
   ·rfl
   ·obtain ⟨rfl,rfl⟩ | ⟨_,h⟩:=z5f h
    ·rfl
    ·cases h
 clear hact
 refine wp_block ?_
 refine sq fun L1 hL1 =>?_
 refine wp_region_lit ?_
 refine z3k he (y0z (v:=.bool false) he rfl rfl rfl (by kernel_rfl)) rfl fun a he =>?_
 refine wpList_nil ?_
 refine hL1 _ _ ?_
 refine if_f he rfl ?_
 refine sq fun L2 hL2 =>?_
 refine wp_region_lit ?_
 refine z3k he (y_assert he rfl runUnderlying270 (by intro ms h;cases h)) rfl fun a he =>?_
 refine z3k he (z8t he rfl rfl) rfl fun a he =>
  z3k he (z8t he rfl rfl) rfl fun a he =>?_
 refine wpList_nil ?_
 refine hL2 _ _ ?_
 refine if_t he rfl ?_
 refine sq fun L3 hL3 =>?_
 refine wp_region_lit ?_
 refine st he rfl rfl rfl (z4j (cs:=[.int .i64 ((0:Nat):Int),.int .i64 ((0:Nat):Int)]) hm zeroValue270 rfl fun b5 w hm a he =>?_)
 refine st0 he rfl rfl (z2f 0 (cs:=[.int .i64 ((0:Nat):Int),.int .i64 ((0:Nat):Int)]) (vs:=wrongV c) he hm rfl rfl rfl rfl sizeOf270 rfl rfl rfl fun w hm a he =>?_)
 refine wpList_nil ?_
 refine hL3 _ _ ?_
 replace hm:Mem Φ (.blk b5 (ob (wrongV c) 270)::.blk b3 (ob [v] 268)::.blk b4 (ob [x,y] 270)::K) w:=hm
 refine z8k [2,0,0] (.q 0 (.e 1 (.e 2 (.done)))) [.blk b5 (ob (wrongV c) 270)] he hm mixed (by kernel_rfl) (by simp) fun w hm =>?_
 refine d_q he rfl rfl (fun w hs=>z1w 0 (vs:=wrongV c) he hs rfl rfl isAgg270 sizeOf270 rfl rfl) rfl fun a he =>?_
 refine d_e0 he rfl rfl (z2f 1 (cs:=[v]) (vs:=[.slice none 0 0]) he hm rfl rfl rfl rfl sizeOf268 rfl rfl rfl fun w hm=>⟨fun _=>hm.seesIn (Fz.Le.refl _) (by simp [kset]),fun a he =>?_⟩)
 refine d_e0 he rfl rfl (z2f 2 (cs:=[x,y]) (vs:=wrongV c) he hm rfl rfl rfl rfl sizeOf270 rfl rfl rfl fun w hm=>⟨z9d (by kernel_rfl),fun a he =>?_⟩)
 refine d_done ?_
 replace hm:Mem Φ (.blk b3 (ob [.slice none 0 0] 268)::.blk b4 (ob (wrongV c) 270)::K) w:=hm.del 0
 exact hQ _ _ he.defs hm
set_option maxRecDepth 20000 in
theorem catch_none {w:World} {b3 b4:Nat} :
  CallsD Tryz.prog 221 #[.pointer (some ⟨b3,0,none⟩),.pointer (some ⟨b4,0,none⟩)] .returning w fun e u' w'=>e=.returned (.tuple #[])∧u'=.returning∧w'=w:=by
 generalize hR:(fun (e:Ending) (u':FrameMode) (w':World)=>e=.returned (.tuple #[])∧u'=.returning∧w'=w)=R
 refine callsD_of_wpS func221 rfl fun c₀ cs hu =>?_
 apply wpS_seq
 apply wpS_region
 show wpOpsS Tryz.prog _ _ [0] _ _ _
 simp [wpOpsS,go_sem,recoverD,hu,ntmps221,Exit.thenS]
 refine wpS_of_wp ?_
 have hQ:∀(a:Act),a.defers=[]→bodyPostS Tryz.prog Tryz.f221 c₀ cs R .normal a (c₀::cs) w:=fun a hd =>
  ⟨hd,.returning,by cases c₀;simp only at hu;subst hu;rfl,.tuple #[],results_none rfl _ _ _,by subst hR;exact ⟨rfl,rfl,rfl⟩⟩
 generalize hact:(Act.mk _ [])=a
 have he:EnvR 12 [(5,.nilIface)] [] a:=by
  subst hact
  refine ⟨rfl,fun t v h =>?_,rfl⟩
  obtain ⟨rfl,rfl⟩ | ⟨_,h⟩:=z5f h
  ·rfl
  ·cases h
 clear hact
 refine wp_block ?_
 refine sq fun L1 hL1 =>?_
 refine wp_region_lit ?_
 refine z3k he (y0z (v:=.bool true) he rfl rfl rfl (by kernel_rfl)) rfl fun a he =>?_
 refine wpList_nil ?_
 refine hL1 _ _ ?_
 refine if_t he rfl ?_
 refine wp_region_lit ?_
 refine z3k he (z9h he rfl) rfl fun a he =>?_
 refine wpList_nil ?_
 exact hQ _ he.defs
theorem zip1 {α β:Type} (x:α) (y:β):(#[x].zip #[y])=#[(x,y)]:=by apply Array.ext';simp
set_option maxRecDepth 20000 in
theorem rt_268:RowT Tryz.prog 268 274 4 40:=⟨underlying268,⟨_,_,Tryz.type274,rfl,rfl,rfl,rfl⟩,by decide,by decide⟩
abbrev scanKY (K:List Res) (l Dk b3 b4:Nat) (r:Loop) (pre:List Tok) (z:Value):List Res :=
 .blk l (.loop r)::.blk Dk (.deferred (some []))::.blk b4 (ob [.int .i64 ((0:Nat):Int),.int .i64 ((0:Nat):Int)] 270)::.blk b3 (ob [z] 268)::.gs z 274 4 (z9m pre)::K
set_option maxRecDepth 20000 in
set_option maxHeartbeats 4000000 in
theorem scan_round {Ψ:Fz} {K K0:List Res} {w:World} {l Dk b3 b4 n:Nat} {r:Loop} {pre:List Tok} {z:Value} {k:Tok} (hlen:pre.length < n) (hn:n≤800000)
  (hps:r.params=#[11]) (hst:r.state=.ready) (hpd:r.pending=none)
  (ha:∀(a:Act) (w:World) (K:List Res),EnvR 19 [(11,tokV k),(4,.pointer (some ⟨b4,0,none⟩)),(3,.pointer (some ⟨b3,0,none⟩))] [] a→Mem Ψ (.blk l (.loop r)::K) w →
   r.assign.wpIn (FO (some l)) 2 Tryz.prog (Exit.then (fun a1 w1=>∃b5,EnvR 19 [(5,.pointer (some ⟨b5,0,none⟩)),(4,.pointer (some ⟨b4,0,none⟩)),(3,.pointer (some ⟨b3,0,none⟩))] [] a1∧Mem Ψ (.blk l (.loop r)::.blk b5 (ob (tokC k) 274)::K) w1) (fun _ _ _=>False)) a w)
  (hb:∀(a:Act) (w:World) (b5:Nat) (K:List Res) (o:Obj),EnvR 19 [(5,.pointer (some ⟨b5,0,none⟩)),(4,.pointer (some ⟨b4,0,none⟩)),(3,.pointer (some ⟨b3,0,none⟩))] [] a→Mem Ψ (.blk l o::.blk b5 (ob (tokC k) 274)::.blk b3 (ob [z] 268)::.gs z 274 4 (z9m pre)::K) w →
   r.body.wpIn (FO (some l)) 2 Tryz.prog (fun e _ w=>e=.normal∧∃v,Mem Ψ (.blk l o::.blk b3 (ob [v] 268)::.gs v 274 4 (z9m (pre++[k]))::K) w) a w)
  (he:EnvR 19 [(4,.pointer (some ⟨b4,0,none⟩)),(3,.pointer (some ⟨b3,0,none⟩))] [] ⟨r.tmps,[]⟩) (hm:Mem Ψ (K0++scanKY K l Dk b3 b4 r pre z) w) :
  YieldAt Fence.wide 2 Tryz.prog l #[tokV k] w (fun e w'=>e=.returned (.bool true)∧∃z',Mem Ψ (K0++scanKY K l Dk b3 b4 r (pre++[k]) z') w'):=by
 have hm1:Mem Ψ (scanKY K l Dk b3 b4 r pre z++K0) w:=hm.perm List.perm_append_comm
 replace hm1:Mem Ψ (.blk l (.loop r)::.blk b3 (ob [z] 268)::.gs z 274 4 (z9m pre)::.blk Dk (.deferred (some []))::.blk b4 (ob [.int .i64 ((0:Nat):Int),.int .i64 ((0:Nat):Int)] 270)::(K++K0)) w :=
  (((hm1.pull (i:=4) rfl).pull (i:=4) rfl).pull (i:=2) rfl)
 have hl:w.heap[l]? = some (.loop r):=hm1.own _ List.mem_cons_self
 refine ⟨r.fn,r.tmps.setIfInBounds 11 (tokV k),r.assign,r.body,?_,?_⟩
 ·rw [run_yield hl (by rw [hps];rfl),hps,zip1];simp
 ·have he2:EnvR 19 [(11,tokV k),(4,.pointer (some ⟨b4,0,none⟩)),(3,.pointer (some ⟨b3,0,none⟩))] [] ⟨r.tmps.setIfInBounds 11 (tokV k),[]⟩:=he.put (d:=11) rfl
  have h:=round_of (P:=Tryz.prog) (E1:=fun b5=>[(5,.pointer (some ⟨b5,0,none⟩)),(4,.pointer (some ⟨b4,0,none⟩)),(3,.pointer (some ⟨b3,0,none⟩))])
   (KO:=fun v=>.blk b3 (ob [v] 268)::.gs v 274 4 (z9m (pre++[k]))::.blk Dk (.deferred (some []))::.blk b4 (ob [.int .i64 ((0:Nat):Int),.int .i64 ((0:Nat):Int)] 270)::(K++K0)) hm1 hst hpd he2
   (fun a he=>ha a w _ he hm1) (fun b5 a w he hm=>hb a w b5 _ _ he hm)
  refine h.mono fun e w' hh =>?_
  obtain ⟨h1,v,h2⟩:=hh
  refine ⟨h1,v,?_⟩
  have h3:Mem Ψ (scanKY K l Dk b3 b4 r (pre++[k]) v++K0) w':=(((h2.pull (i:=4) rfl).pull (i:=4) rfl).pull (i:=2) rfl)
  exact h3.perm List.perm_append_comm
set_option maxRecDepth 20000 in
set_option maxHeartbeats 4000000 in
theorem scanned_ok {Φ:Fz} {K:List Res} {w:World} {t:Bs} (G:Glob Φ) (h2:t.size≤800000) (hm:Mem Φ K w) :
  Calls Tryz.prog 208 (List.toArray [.string t]) w (fun ee w'=>Out (toksF t)
   (fun l=>∃y:Nat×Value,ee=.returned (.tuple (List.toArray [.pointer (some ⟨y.1,0,none⟩),y.2,.agg (List.toArray [.int .i64 ((0:Nat):Int),.int .i64 ((0:Nat):Int)])]))∧Mem Φ (.gs y.2 274 4 (z9m l)::K) w')
   (fun c=>∃y:Nat,ee=.returned (.tuple (List.toArray [.pointer (some ⟨y,0,none⟩),.slice none 0 0,.agg (wrongV c).toArray]))∧Mem Φ K w')):=by
 refine enterX func208 rfl ntmps208 rfl (fun Q hQ a he =>?_)
 refine sq fun L1 hL1 =>?_
 refine wp_region_lit ?_
 refine z3k he (z9h he rfl) rfl fun a he =>?_
 refine st he rfl rfl rfl (z4j (cs:=[.slice none 0 0]) hm zeroValue268 rfl fun b3 w hm a he =>?_)
 refine st he rfl rfl rfl (z4j (cs:=[.int .i64 ((0:Nat):Int),.int .i64 ((0:Nat):Int)]) hm zeroValue270 rfl fun b4 w hm a he =>?_)
 refine wpList_nil ?_
 refine hL1 _ _ ?_
 refine sq fun L2 hL2 =>?_
 refine wp_region_lit ?_
 refine z3k he (z4g he rfl) rfl fun a he =>?_
 refine st he rfl rfl rfl (eff_callY he rfl call220 (newScanner_ok hm) (fun y w _ hm a he =>?_))
 obtain ⟨b,mb⟩:=y
 simp only at hm he
 refine z3k he (z9h he rfl) rfl fun a he =>?_
 refine wpList_nil ?_
 refine hL2 _ _ ?_
 obtain ⟨Ψ,le,hm,hmap⟩:=hm.freezeMap (i:=1) rfl
 replace hm:Mem Ψ (.blk b (ob [.string t,.int .i64 ((0:Nat):Int),.map (some mb),.slice none 0 0] 301)::.blk b4 (ob [.int .i64 ((0:Nat):Int),.int .i64 ((0:Nat):Int)] 270)::.blk b3 (ob [.slice none 0 0] 268)::K) w:=hm
 refine sq fun L3 hL3 =>?_
 refine wp_region_lit ?_
 refine z3k he (y_makeFunc (vfs:=[]) (vcs:=[.pointer (some ⟨b3,0,none⟩),.pointer (some ⟨b4,0,none⟩)]) he rfl rfl) rfl fun a he =>?_
 refine st_defer_fn (fs:=[]) (cs:=[.pointer (some ⟨b3,0,none⟩),.pointer (some ⟨b4,0,none⟩)]) (vs:=[]) he rfl rfl fun a he =>?_
 refine wpList_nil ?_
 refine hL3 _ _ ?_
 refine sq fun L4 hL4 =>?_
 refine sq fun L5 hL5 =>?_
 refine wp_region_lit ?_
 refine z3k he (z4g he rfl) rfl fun a he =>?_
 refine st he rfl rfl rfl (eff_callY he rfl call222 (tokens_ok hm) (fun bx w _ hm a he =>?_))
 refine wpList_nil ?_
 refine hL5 _ _ ?_
 refine wp_block ?_
 refine wp_range (P:=Tryz.prog) (β:=List Tok×Value) (δ:=List Tok×Value) (gf:=231) (fs:=[]) (cs:=[.pointer (some ⟨bx,0,none⟩)]) (F1:=fun _=>Ψ)
  (KO:=fun y=>.blk b4 (ob [.int .i64 ((0:Nat):Int),.int .i64 ((0:Nat):Int)] 270)::.blk b3 (ob [y.2] 268)::.gs y.2 274 4 (z9m y.1)::K)
  (KE:=fun y=>.blk b4 (ob [.int .i64 ((0:Nat):Int),.int .i64 ((0:Nat):Int)] 270)::.blk b3 (ob [y.2] 268)::.gs y.2 274 4 (z9m y.1)::K)
  (G:=fun y=>toksF t=.ok y.1) (B:=fun _ c=>∃e,toksF t=.error e∧c=wrongC e) he hm rfl call231 ?_ ?_ ?_
 ·intro Dk l r w hps has hbo hst hpd her hm
  have hm1:=hm.nilRow 274 4
  replace hm1:Mem Ψ (.blk bx (ob [.pointer (some ⟨b,0,none⟩)] 267)::.blk b (ob [.string t,.int .i64 ((0:Nat):Int),.map (some mb),.slice none 0 0] 301)::scanKY K l Dk b3 b4 r [] (.slice none 0 0)) w :=
   ((((((hm1.pull (i:=6) rfl).pull (i:=6) rfl).pull (i:=4) rfl).pull (i:=4) rfl).pull (i:=6) rfl).pull (i:=6) rfl)
  have h:=tokens1_ok (l:=l) (KY:=scanKY K l Dk b3 b4 r) (G.mono le) hmap h2 (fun pre z K0 k w hlen hm =>?_) hm1
  ·refine h.mono fun e w' hh =>?_
   cases hT:toksF t with
   | ok rr =>
    rw [hT] at hh
    obtain ⟨z,rfl,hm2⟩:=hh
    exact .inl ⟨_,(rr,z),rfl,rfl,hm2⟩
   | error c =>
    rw [hT] at hh
    obtain ⟨y,rfl,hm2⟩:=hh
    exact .inr ⟨_,y,rfl,⟨c,rfl,rfl⟩,hm2.tail⟩
  ·refine scan_round (n:=t.size) hlen h2 hps hst hpd (fun a w K he hm =>?_) (fun a w b5 K o he hm =>?_) (her.of_sub ⟨rfl,rfl,trivial⟩) hm
   ·rw [has]
    refine wpIn_region_lit ?_
    refine in_st he rfl rfl rfl (by intro c h;cases h) (z4j (cs:=[.int .i64 ((0:Nat):Int),.int .i64 ((0:Nat):Int),.string ⟨#[]⟩,.int .i64 ((0:Nat):Int)]) hm zeroValue274 rfl fun b5 w hm a he =>?_)
    refine in_st0 he rfl rfl (by intro c h;cases h) (z2f 0 (cs:=[.int .i64 ((0:Nat):Int),.int .i64 ((0:Nat):Int),.string ⟨#[]⟩,.int .i64 ((0:Nat):Int)]) (vs:=tokC k) he hm rfl rfl rfl rfl sizeOf274 rfl rfl rfl fun w hm a he =>?_)
    refine wpListIn_nil ?_
    exact ⟨b5,he.of_sub ⟨rfl,rfl,rfl,trivial⟩,hm.pull (i:=1) rfl⟩
   ·rw [hbo]
    refine wpIn_block ?_
    refine wpIn_region_lit ?_
    refine z9j he (by intro c h;cases h) (z5b 2 he hm.toSees rfl rfl rfl isAgg268) rfl fun a he =>?_
    refine z9j he (by intro c h;cases h) (z1w 1 (vs:=tokC k) he hm.toSees rfl rfl isAgg274 sizeOf274 rfl rfl) rfl fun a he =>?_
    refine in_st he rfl rfl rfl (by intro c h;cases h) (z9a (sz:=4) (cs:=tokC k) he hm rfl (built_of runUnderlying268 sizeOf274 zeroValue274 rfl (by decide) rfl) rfl (by decide) fun v w hm _ a he =>?_)
    refine in_st he rfl rfl rfl (by intro c h;cases h) (eff_append 4 (xs:=z9m pre) (news:=tokC k) rt_268 he hm rfl rfl rfl (hm.toSees.rowIn (i:=0) rfl) rfl (by rw [toksC_len];simp only [tokC,List.length_cons,List.length_nil];omega) fun v2 w hm a he =>?_)
    replace hm:Mem Ψ (.gs v 274 4 (tokC k)::.blk l o::.blk b5 (ob (tokC k) 274)::.blk b3 (ob [z] 268)::.gs v2 274 4 (z9m (pre++[k]))::K) w:=by rw [toksC_snoc];exact hm
    refine in_st0 he rfl rfl (by intro c h;cases h) (z2f 3 (cs:=[z]) (vs:=[v2]) he hm rfl rfl rfl (hm.toSees.gsCells (i:=4) rfl) sizeOf268 rfl (hm.toSees.gsOne (i:=4) rfl) rfl fun w hm a he =>?_)
    refine wpListIn_nil ?_
    exact ⟨rfl,v2,(hm.del 0).del 1⟩
 ·intro Dk y a w hG he hm
  refine hL4 _ _ ?_
  refine sq fun L6 hL6 =>?_
  refine z8k [1,2,2,1,0,0] (.q 0 (.q 1 (.q 2 (.q 3 (.e 4 (.e 5 .done)))))) [.blk b4 (ob [.int .i64 ((0:Nat):Int),.int .i64 ((0:Nat):Int)] 270),.blk b3 (ob [y.2] 268)] he hm mixed (by kernel_rfl) (by simp) fun w hm =>?_
  refine d_q1 he rfl rfl (fun w=>z4g he rfl) rfl fun a he =>?_
  refine d_q he rfl rfl (fun w hs=>z5b 1 he hs rfl rfl rfl isAgg268) rfl fun a he =>?_
  refine d_q he rfl rfl (fun w hs=>z1w 0 (vs:=[.int .i64 ((0:Nat):Int),.int .i64 ((0:Nat):Int)]) he hs rfl rfl isAgg270 sizeOf270 rfl rfl) rfl fun a he =>?_
  refine d_q1 he rfl rfl (fun w=>z9h he rfl) rfl fun a he =>?_
  refine d_e0 he rfl rfl (z2f 2 (cs:=[y.2]) (vs:=[y.2]) he hm rfl rfl rfl (hm.toSees.gsCells (i:=3) rfl) sizeOf268 rfl (hm.toSees.gsOne (i:=3) rfl) rfl fun w hm=>⟨fun _=>(show Mem Ψ (.blk Dk (.deferred (some []))::.blk b4 (ob [.int .i64 ((0:Nat):Int),.int .i64 ((0:Nat):Int)] 270)::.blk b3 (ob [y.2] 268)::.gs y.2 274 4 (z9m y.1)::K) w from hm).seesIn (Fz.Le.refl _) (by simp),fun a he =>?_⟩)
  replace hm:Mem Ψ (.blk Dk (.deferred (some []))::.blk b4 (ob [.int .i64 ((0:Nat):Int),.int .i64 ((0:Nat):Int)] 270)::.blk b3 (ob [y.2] 268)::.gs y.2 274 4 (z9m y.1)::K) w:=hm
  refine d_e0 he rfl rfl (z2f 1 (cs:=[.int .i64 ((0:Nat):Int),.int .i64 ((0:Nat):Int)]) (vs:=[.int .i64 ((0:Nat):Int),.int .i64 ((0:Nat):Int)]) he hm rfl rfl rfl rfl sizeOf270 rfl rfl rfl fun w hm=>⟨z9d (by kernel_rfl),fun a he =>?_⟩)
  replace hm:Mem Ψ (.blk Dk (.deferred (some []))::.blk b4 (ob [.int .i64 ((0:Nat):Int),.int .i64 ((0:Nat):Int)] 270)::.blk b3 (ob [y.2] 268)::.gs y.2 274 4 (z9m y.1)::K) w:=hm
  refine d_done ?_
  refine hL6 _ _ ?_
  refine wp_ret ?_
  refine hQ _ _ _ ?_
  show y0i _ _ _ _ a.defers _ _
  rw [he.defs]
  have hD:w.heap[Dk]? = some (.deferred (some [])):=hm.own _ List.mem_cons_self
  have hm2:=hm.putObj (i:=0) (o':=.deferred none) rfl
  refine z9c (by simp) hD (leavesX_of ?_)
  refine leaves_cons (f:=221) (args:=#[.pointer (some ⟨b3,0,none⟩),.pointer (some ⟨b4,0,none⟩)]) (by simp) (call221 _ _) ?_
  refine catch_none.mono ?_
  rintro e u' w'' ⟨rfl,rfl,rfl⟩
  refine ⟨_,results3 (i:=2) (j:=1) he hm2.toSees results208 rfl rfl rfl isAgg268 rfl rfl isAgg270 sizeOf270 rfl,?_⟩
  rw [hG]
  exact ⟨(b,y.2),rfl,(((hm2.del 0).del 0).del 0).le le⟩
 ·intro Dk y c a w hB he hm
  obtain ⟨e,hE,rfl⟩:=hB
  refine hQ _ _ _ ?_
  show y0i _ _ _ _ a.defers _ _
  rw [he.defs]
  have hD:w.heap[Dk]? = some (.deferred (some [])):=hm.own _ List.mem_cons_self
  have hm2:=(hm.putObj (i:=0) (o':=.deferred none) rfl).pull (i:=2) rfl
  replace hm2:Mem Ψ (.blk b3 (ob [y.2] 268)::.blk b4 (ob [.int .i64 ((0:Nat):Int),.int .i64 ((0:Nat):Int)] 270)::.blk Dk (.deferred none)::.gs y.2 274 4 (z9m y.1)::K) (w.putObj Dk (.deferred none)):=hm2.pull (i:=2) rfl |>.pull (i:=1) rfl
  refine z9c (by simp) hD (leavesX_of ?_)
  refine leaves_cons (f:=221) (args:=#[.pointer (some ⟨b3,0,none⟩),.pointer (some ⟨b4,0,none⟩)]) (by simp) (call221 _ _) ?_
  refine (catch_wrong hm2).mono ?_
  rintro e' u' w'' ⟨rfl,rfl,hm3⟩
  refine ⟨_,results3 (i:=0) (j:=1) he hm3.toSees results208 rfl rfl rfl isAgg268 rfl rfl isAgg270 sizeOf270 rfl,?_⟩
  rw [hE]
  exact ⟨b,rfl,((((hm3.del 0).del 0).del 0).del 0).le le⟩
def RTok (_:Fz) (cs:List Value) (x:Tok):Prop:=cs=[.int .i64 x.kind,.int .i64 x.num,.string x.text,.int .i64 ((x.org:Nat):Int)]
theorem RTok.mono (Φ Ψ:Fz) (c:List Value) (x:Tok) (_:Φ.Le Ψ) (h:RTok Φ c x):RTok Ψ c x:=h
theorem tok_chunks {Φ:Fz}:∀l:List Tok,Chunks (RTok Φ) 4 (z9m l) l
 | []=>rfl
 | k::l=>⟨tokC k,z9m l,rfl,rfl,rfl,tok_chunks l⟩
section
variable {s:Bs} {l:List Tok} {c:Nat×Int} {x:Tok}
theorem kind_long (h:24 < s.size):kindP s=0:=by unfold kindP;rw [if_pos h]
theorem kind_err (h:¬24 < s.size) (hq:toksF s=.error c):kindP s=0:=by unfold kindP;rw [if_neg h,hq]
theorem kind_ne (h:¬24 < s.size) (hq:toksF s=.ok l) (hl:¬l.length=1):kindP s=0:=by
 unfold kindP;rw [if_neg h,hq]
 match l,hl with
 | [],_=>rfl
 | [k],hl=>exact absurd rfl hl
 | _::_::_,_=>rfl
theorem kind_one (hl:l.length=1) (hx:l[0]? = some x):l=[x]:=by
 match l,hl,hx with
 | [k],_,hx=>simp only [List.getElem?_cons_zero,Option.some.injEq] at hx;rw [hx]
theorem kind_no (h:¬24 < s.size) (hq:toksF s=.ok l) (hl:l.length=1) (hx:l[0]? = some x) (ht:¬x.text=s):kindP s=0:=by
 unfold kindP;rw [if_neg h,hq,kind_one hl hx];simp [ht]
theorem kind_ok (h:¬24 < s.size) (hq:toksF s=.ok l) (hl:l.length=1) (hx:l[0]? = some x) (ht:x.text=s):kindP s=x.kind:=by
 unfold kindP;rw [if_neg h,hq,kind_one hl hx];simp [ht]
end
end Go.Sw

namespace Go.Sw
open Go.Proofs.Tryz
open Go.Proofs
set_option maxRecDepth 20000
set_option maxHeartbeats 4000000
variable {Φ:Fz} {K:List Res} {w:World}
theorem kindS_ok {s:Bs} (G:Glob Φ) (hm:Mem Φ K w):Calls Tryz.prog 185 (List.toArray [.string s]) w (fun ee w'=>ee=.returned (.int .i64 (kindP s))∧Mem Φ K w'):=by
 refine z0l func185 ntmps185 fun Q hQ a he =>?_
 refine go he hm fun a he =>?_
 by_cases h4:24 < s.size
 refine Ret1 hQ he hm ?_
 rw [kind_long h4];exact ⟨rfl,hm⟩
 refine go he hm fun a he =>?_
 refine st he rfl rfl rfl (eff_callU he rfl call208 (scanned_ok G (by omega) hm) (fun q7 y8 w hq9 hm a he =>?_) (fun q7 y8 w hq9 hm a he =>?_))
 replace hm:=hm.nf
 obtain ⟨y8a,y8b⟩:=y8
 simp only at hm he
 have hm0_:=hm
 clear hm
 obtain ⟨Ψ10,le11,hm,hrow12⟩:=hm0_.freezeRow (i:=0) rfl
 clear hm0_
 replace hm:=hm.nf
 have hsl13:SliceOf RTok Ψ10 4 _ (q7):=⟨_,hrow12,tok_chunks q7⟩
 obtain ⟨p14,c15,hv_,hm16,hn17⟩:=hsl13.form (by decide)
 have hmk_:=hm
 clear hm
 subst hv_
 have hm:=hmk_
 clear hmk_
 refine Alc he hm fun b18 w hm a he =>?_
 refine Sto 0 he hm fun w hm a he =>?_
 refine Qq he hm (fun a he =>?_) (o:=by exact fun _ _ _ he hs=>y_ineq false he rfl rfl rfl)
 refine go he hm fun a he =>?_
 by_cases h21:(q7).length=1
 refine go he hm fun a he =>?_
 have hb22:0 < (q7).length:=by omega
 obtain ⟨q23,rfl,x24,hx25,cs26,hl27,ha28,hr29⟩:=hsl13.el hn17 hb22
 obtain rfl:=id hr29
 refine go he hm fun a he =>?_
 by_cases h30:x24.text=s
 refine go he hm fun a he =>?_
 obtain ⟨x32,hx33⟩:=z2d hb22
 obtain ⟨cs34,hl35,ha36,hr37⟩:=hsl13.elem hx33
 obtain rfl:=id hr37
 refine go he hm fun a he =>?_
 replace hm:=hm.le (le11)
 replace hm:=hm.dl [0]
 refine Ret1 hQ he hm ?_
 rw [kind_ok h4 hq9 h21 hx25 h30,show x24=x32 from Option.some.inj (hx25.symm.trans hx33)];exact ⟨rfl,hm⟩
 refine go he hm fun a he =>?_
 replace hm:=hm.le (le11)
 replace hm:=hm.dl [0]
 refine Ret1 hQ he hm ?_
 rw [kind_no h4 hq9 h21 hx25 h30];exact ⟨rfl,hm⟩
 refine go he hm fun a he =>?_
 replace hm:=hm.le (le11)
 replace hm:=hm.dl [0]
 refine Ret1 hQ he hm ?_
 rw [kind_ne h4 hq9 h21];exact ⟨rfl,hm⟩
 replace hm:=hm.nf
 refine Alc he hm fun b40 w hm a he =>?_
 refine Sto 0 he hm fun w hm a he =>?_
 refine go he hm fun a he =>?_
 by_cases h43:q7.2=0
 refine Qq he hm (fun a he =>?_) (o:=by exact fun _ _ _ he hs=>y_ineq true he rfl rfl rfl)
 refine go he hm fun a he =>?_
 replace hm:=hm.dl [0]
 refine Ret1 hQ he hm ?_
 rw [kind_err h4 hq9];exact ⟨rfl,hm⟩
 refine go he hm fun a he =>?_
 replace hm:=hm.dl [0]
 refine Ret1 hQ he hm ?_
 rw [kind_err h4 hq9];exact ⟨rfl,hm⟩
theorem isNameS_ok {s:Bs} (G:Glob Φ) (hm:Mem Φ K w):Calls Tryz.prog 138 (List.toArray [.string s]) w (fun ee w'=>ee=.returned (.bool (z1s s))∧Mem Φ K w'):=by
 refine z0l func138 ntmps138 fun Q hQ a he =>?_
 refine z0y call185 he hm (fun w hm a he =>?_) (c:=kindS_ok G hm)
 refine Qq he hm (fun a he =>?_) (o:=by exact fun _ _ _ he hs=>z8u he rfl rfl)
 refine Ret1 hQ he hm ?_
 exact ⟨rfl,hm⟩
theorem isConS_ok {s:Bs} (G:Glob Φ) (hm:Mem Φ K w):Calls Tryz.prog 178 (List.toArray [.string s]) w (fun ee w'=>ee=.returned (.bool (z2k s))∧Mem Φ K w'):=by
 refine z0l func178 ntmps178 fun Q hQ a he =>?_
 refine z0y call185 he hm (fun w hm a he =>?_) (c:=kindS_ok G hm)
 refine Qq he hm (fun a he =>?_) (o:=by exact fun _ _ _ he hs=>z8u he rfl rfl)
 refine Ret1 hQ he hm ?_
 exact ⟨rfl,hm⟩
end Go.Sw

namespace Go.Sw
open Go.Proofs
theorem isName_ok {Φ:Fz} {K:List Res} {w:World} {s:Bs} (G:Glob Φ) (hm:Mem Φ K w):Calls Tryz.prog 138 (List.toArray [.string s]) w (fun ee w'=>ee=.returned (.bool (z1s s))∧Mem Φ K w'):=isNameS_ok G hm
theorem z6d {Φ:Fz} {K:List Res} {w:World} {s:Bs} (G:Glob Φ) (hm:Mem Φ K w):Calls Tryz.prog 178 (List.toArray [.string s]) w (fun ee w'=>ee=.returned (.bool (z2k s))∧Mem Φ K w'):=isConS_ok G hm
end Go.Sw

namespace Go.Sw
open Go.Proofs.Tryz
open Go.Proofs
set_option maxRecDepth 20000
set_option maxHeartbeats 4000000
theorem apart_ok {Φ:Fz} {K:List Res} {w:World} {v0:Value} {l:List Bs} (rpl:SliceOf RStr Φ 1 v0 l) (G:Glob Φ) (hm:Mem Φ K w) :
  Calls Tryz.prog 84 (List.toArray [v0]) w (fun ee w'=>ee=.returned (.bool (z5v z1s [] l))∧Mem Φ K w'):=by
 obtain ⟨p0,c0,rfl,hm0,hn0⟩:=rpl.fm
 refine z0l func84 ntmps84 fun Q hQ a he =>?_
 refine MkM he hm fun b3 w hm a he =>?_
 refine go he hm fun a he =>?_
 refine z1i (he.ks [3,7,8]) hm (fun R mm a w=>∃(i:Nat) (ds:List Bs),mm=l.length - i∧R Φ [(9,.int .i64 ((i:Nat):Int))] [(0,.mp b3 (z3c ds))] a w∧(z5v z1s [] l=z5v z1s ds (l.drop i))) (l.length - 0) ⟨0,[],rfl,⟨he.pk,hm⟩,rfl⟩ ?_
 clear hm he
 rintro mm a w ⟨i,ds,hmu,⟨he,hm⟩,hI7⟩ L6 hL6
 replace hm:=hm.nf
 refine go he hm fun a he =>?_
 by_cases h9:i < l.length
 refine go he hm fun a he =>?_
 obtain ⟨q13,rfl,x14,hx15,cs16,hl17,ha18,hr19⟩:=rpl.el hn0 h9
 obtain rfl:cs16=[.string x14]:=hr19
 refine z1n call138 he hm (fun hB22 w hm a he =>?_) (fun hB22 w hm a he =>?_) (c:=isName_ok G hm)
 refine go he hm fun a he =>?_
 rcases hf23:mget ((z3c ds)) x14 with _ | vf24
 have hf23_:=congrArg (z0i false (.bool false)) hf23
 refine Qq he hm (fun a he =>?_) (o:=by exact fun _ _ _ he hs=>Ok.cast (z1c 0 runUnderlying121 runUnderlying9 zeroValue4 he hs rfl rfl rfl) (show z0i false (.bool false) (mget ((z3c ds)) x14)=.bool false from hf23_))
 refine MapU 0 runUnderlying121 runUnderlying9 he hm fun w hm a he =>?_
 rw [← seenM_snoc] at hm
 refine go he hm fun a he =>?_
 refine hL6 _ _ _ (by subst hmu;omega) ⟨(i+1),(ds++[x14]),rfl,⟨he.pk,hm⟩,?_⟩
 rw [hI7,z0a hx15];have hn_:=seen_not hf23;simp [z5v, *]
 obtain ⟨rfl,hs25⟩:=seen_val hf23
 have hf23_:=congrArg (z0i false (.bool false)) hf23
 refine Qq he hm (fun a he =>?_) (o:=by exact fun _ _ _ he hs=>Ok.cast (z1c 0 runUnderlying121 runUnderlying9 zeroValue4 he hs rfl rfl rfl) (show z0i false (.bool false) (mget ((z3c ds)) x14)=.bool true from hf23_))
 refine go he hm fun a he =>?_
 replace hm:=hm.dl [0]
 refine Ret1 hQ he hm ?_
 exact z0v hm (by rw [hI7,z0a hx15];simp [z5v, *])
 refine go he hm fun a he =>?_
 replace hm:=hm.dl [0]
 refine Ret1 hQ he hm ?_
 exact z0v hm (by rw [hI7,z0a hx15];simp [z5v, *])
 refine go he hm fun a he =>?_
 replace hm:=hm.dl [0]
 refine Ret1 hQ he hm ?_
 exact z0v hm (by rw [hI7,z0g h9];rfl)
end Go.Sw

namespace Go.Sw
open Go.Proofs.Tryz
open Go.Proofs
set_option maxRecDepth 20000
set_option maxHeartbeats 4000000
variable {Φ:Fz} {K:List Res} {w:World}
theorem once_Data_ok {b:Nat} {m:List (Bs×Value)} {l:List (Bs×Data)} {name:Bs} {d2:List Value} {x:Data} (rpl:MapRel (RVa RData Φ) m l) (rpx:RData Φ d2 x) (hm:Mem Φ (.mp b m::K) w) :
  Calls Tryz.prog 190 (List.toArray [.map (some b),.string name,.agg d2.toArray]) w (fun ee w'=>ee=.returned (.bool ((lget l name).isNone))∧Mem Φ (.mp b (z5l m name (.agg d2.toArray))::K) w'):=by
 obtain ⟨s1,rfl,h2⟩:=id rpx
 obtain ⟨p3,c4,rfl,hm5,hn6⟩:=h2.fm
 refine z0l func190 ntmps190 fun Q hQ a he =>?_
 refine Bx he hm fun b8 w hm a he =>?_
 refine go he hm fun a he =>?_
 rcases hf11:mget (m) name with _ | vf12
 have hf11_:=congrArg (z0i true (.agg (List.toArray [.string ⟨#[]⟩,.slice none 0 0]))) hf11
 refine Qq he hm (fun a he =>?_) (o:=by exact fun _ _ _ he hs=>Ok.cast (z1c 1 runUnderlying101 runUnderlying9 zeroValue133 he hs rfl rfl rfl) (show z0i true (.agg (List.toArray [.string ⟨#[]⟩,.slice none 0 0])) (mget (m) name)=.tuple (List.toArray [.agg (List.toArray [.string ⟨#[]⟩,.slice none 0 0]),.bool false]) from hf11_))
 refine Alc he hm fun b13 w hm a he =>?_
 refine Sto 0 he hm fun w hm a he =>?_
 refine MapU 2 runUnderlying101 runUnderlying9 he hm fun w hm a he =>?_
 refine go he hm fun a he =>?_
 replace hm:=hm.dl [1,0]
 refine Ret1 hQ he hm ?_
 refine ⟨?_,?_⟩
 rw [rpl.none hf11];rfl
 simp only [z5l,hf11];exact hm
 obtain ⟨y17,hy18,cs19,rfl,hr20⟩:=rpl.get hf11
 obtain ⟨s21,rfl,h22⟩:=id hr20
 obtain ⟨p23,c24,rfl,hm25,hn26⟩:=h22.fm
 have hf11_:=congrArg (z0i true (.agg (List.toArray [.string ⟨#[]⟩,.slice none 0 0]))) hf11
 refine Qq he hm (fun a he =>?_) (o:=by exact fun _ _ _ he hs=>Ok.cast (z1c 1 runUnderlying101 runUnderlying9 zeroValue133 he hs rfl rfl rfl) (show z0i true (.agg (List.toArray [.string ⟨#[]⟩,.slice none 0 0])) (mget (m) name)=.tuple (List.toArray [.agg (List.toArray [.string y17.name,.slice p23 y17.cons.length c24]),.bool true]) from hf11_))
 refine Alc he hm fun b27 w hm a he =>?_
 refine Sto 0 he hm fun w hm a he =>?_
 refine go he hm fun a he =>?_
 replace hm:=hm.dl [1,0]
 refine Ret1 hQ he hm ?_
 refine ⟨?_,?_⟩
 rw [hy18];rfl
 simp only [z5l,hf11];exact hm
theorem z4z {b:Nat} {m:List (Bs×Value)} {l:List (Bs×Maker)} {name:Bs} {d2:List Value} {x:Maker} (rpl:MapRel (RVa RMaker Φ) m l) (rpx:RMaker Φ d2 x) (hm:Mem Φ (.mp b m::K) w) :
  Calls Tryz.prog 191 (List.toArray [.map (some b),.string name,.agg d2.toArray]) w (fun ee w'=>ee=.returned (.bool ((lget l name).isNone))∧Mem Φ (.mp b (z5l m name (.agg d2.toArray))::K) w'):=by
 obtain ⟨b1,rfl,h2⟩:=id rpx
 obtain ⟨s3,rfl,h4⟩:=id h2
 obtain ⟨p5,c6,rfl,hm7,hn8⟩:=h4.fm
 refine z0l func191 ntmps191 fun Q hQ a he =>?_
 refine Bx he hm fun b10 w hm a he =>?_
 refine go he hm fun a he =>?_
 rcases hf13:mget (m) name with _ | vf14
 have hf13_:=congrArg (z0i true (.agg (List.toArray [.string ⟨#[]⟩,.string ⟨#[]⟩,.slice none 0 0]))) hf13
 refine Qq he hm (fun a he =>?_) (o:=by exact fun _ _ _ he hs=>Ok.cast (z1c 1 runUnderlying102 runUnderlying9 zeroValue190 he hs rfl rfl rfl) (show z0i true (.agg (List.toArray [.string ⟨#[]⟩,.string ⟨#[]⟩,.slice none 0 0])) (mget (m) name)=.tuple (List.toArray [.agg (List.toArray [.string ⟨#[]⟩,.string ⟨#[]⟩,.slice none 0 0]),.bool false]) from hf13_))
 refine Alc he hm fun b15 w hm a he =>?_
 refine Sto 0 he hm fun w hm a he =>?_
 refine MapU 2 runUnderlying102 runUnderlying9 he hm fun w hm a he =>?_
 refine go he hm fun a he =>?_
 replace hm:=hm.dl [1,0]
 refine Ret1 hQ he hm ?_
 refine ⟨?_,?_⟩
 rw [rpl.none hf13];rfl
 simp only [z5l,hf13];exact hm
 obtain ⟨y19,hy20,cs21,rfl,hr22⟩:=rpl.get hf13
 obtain ⟨b23,rfl,h24⟩:=id hr22
 obtain ⟨s25,rfl,h26⟩:=id h24
 obtain ⟨p27,c28,rfl,hm29,hn30⟩:=h26.fm
 have hf13_:=congrArg (z0i true (.agg (List.toArray [.string ⟨#[]⟩,.string ⟨#[]⟩,.slice none 0 0]))) hf13
 refine Qq he hm (fun a he =>?_) (o:=by exact fun _ _ _ he hs=>Ok.cast (z1c 1 runUnderlying102 runUnderlying9 zeroValue190 he hs rfl rfl rfl) (show z0i true (.agg (List.toArray [.string ⟨#[]⟩,.string ⟨#[]⟩,.slice none 0 0])) (mget (m) name)=.tuple (List.toArray [.agg (List.toArray [.string y19.data,.string y19.con.name,.slice p27 y19.con.fields.length c28]),.bool true]) from hf13_))
 refine Alc he hm fun b31 w hm a he =>?_
 refine Sto 0 he hm fun w hm a he =>?_
 refine go he hm fun a he =>?_
 replace hm:=hm.dl [1,0]
 refine Ret1 hQ he hm ?_
 refine ⟨?_,?_⟩
 rw [hy20];rfl
 simp only [z5l,hf13];exact hm
theorem once_Fun_ok {b:Nat} {m:List (Bs×Value)} {l:List (Bs×Fun)} {name:Bs} {d2:List Value} {x:Fun} (rpl:MapRel (RVa RFun Φ) m l) (rpx:RFun Φ d2 x) (hm:Mem Φ (.mp b m::K) w) :
  Calls Tryz.prog 192 (List.toArray [.map (some b),.string name,.agg d2.toArray]) w (fun ee w'=>ee=.returned (.bool ((lget l name).isNone))∧Mem Φ (.mp b (z5l m name (.agg d2.toArray))::K) w'):=by
 obtain ⟨s1,b7,rfl,h2,h8⟩:=id rpx
 obtain ⟨p3,c4,rfl,hm5,hn6⟩:=h2.fm
 obtain ⟨p11,c12,p17,c18,rfl,hi21,h10,h16,hm13,hn14,hm19,hn20⟩:=REx.fm h8
 refine z0l func192 ntmps192 fun Q hQ a he =>?_
 refine Bx he hm fun b23 w hm a he =>?_
 refine go he hm fun a he =>?_
 rcases hf26:mget (m) name with _ | vf27
 have hf26_:=congrArg (z0i true (.agg (List.toArray [.string ⟨#[]⟩,.slice none 0 0,.string ⟨#[]⟩,.int .i64 ((0:Nat):Int),.int .i64 ((0:Nat):Int),.string ⟨#[]⟩,.slice none 0 0,.slice none 0 0]))) hf26
 refine Qq he hm (fun a he =>?_) (o:=by exact fun _ _ _ he hs=>Ok.cast (z1c 1 runUnderlying103 runUnderlying9 zeroValue68 he hs rfl rfl rfl) (show z0i true (.agg (List.toArray [.string ⟨#[]⟩,.slice none 0 0,.string ⟨#[]⟩,.int .i64 ((0:Nat):Int),.int .i64 ((0:Nat):Int),.string ⟨#[]⟩,.slice none 0 0,.slice none 0 0])) (mget (m) name)=.tuple (List.toArray [.agg (List.toArray [.string ⟨#[]⟩,.slice none 0 0,.string ⟨#[]⟩,.int .i64 ((0:Nat):Int),.int .i64 ((0:Nat):Int),.string ⟨#[]⟩,.slice none 0 0,.slice none 0 0]),.bool false]) from hf26_))
 refine Alc he hm fun b28 w hm a he =>?_
 refine Sto 0 he hm fun w hm a he =>?_
 refine MapU 2 runUnderlying103 runUnderlying9 he hm fun w hm a he =>?_
 refine go he hm fun a he =>?_
 replace hm:=hm.dl [1,0]
 refine Ret1 hQ he hm ?_
 refine ⟨?_,?_⟩
 rw [rpl.none hf26];rfl
 simp only [z5l,hf26];exact hm
 obtain ⟨y32,hy33,cs34,rfl,hr35⟩:=rpl.get hf26
 obtain ⟨s36,b42,rfl,h37,h43⟩:=id hr35
 obtain ⟨p38,c39,rfl,hm40,hn41⟩:=h37.fm
 obtain ⟨p46,c47,p52,c53,rfl,hi56,h45,h51,hm48,hn49,hm54,hn55⟩:=REx.fm h43
 have hf26_:=congrArg (z0i true (.agg (List.toArray [.string ⟨#[]⟩,.slice none 0 0,.string ⟨#[]⟩,.int .i64 ((0:Nat):Int),.int .i64 ((0:Nat):Int),.string ⟨#[]⟩,.slice none 0 0,.slice none 0 0]))) hf26
 refine Qq he hm (fun a he =>?_) (o:=by exact fun _ _ _ he hs=>Ok.cast (z1c 1 runUnderlying103 runUnderlying9 zeroValue68 he hs rfl rfl rfl) (show z0i true (.agg (List.toArray [.string ⟨#[]⟩,.slice none 0 0,.string ⟨#[]⟩,.int .i64 ((0:Nat):Int),.int .i64 ((0:Nat):Int),.string ⟨#[]⟩,.slice none 0 0,.slice none 0 0])) (mget (m) name)=.tuple (List.toArray [.agg (List.toArray [.string y32.name,.slice p38 y32.params.length c39,.string y32.result,.int .i64 (y32.body.kind),.int .i64 (y32.body.num),.string y32.body.name,.slice p46 y32.body.args.length c47,.slice p52 y32.body.arms.length c53]),.bool true]) from hf26_))
 refine Alc he hm fun b57 w hm a he =>?_
 refine Sto 0 he hm fun w hm a he =>?_
 refine go he hm fun a he =>?_
 replace hm:=hm.dl [1,0]
 refine Ret1 hQ he hm ?_
 refine ⟨?_,?_⟩
 rw [hy33];rfl
 simp only [z5l,hf26];exact hm
theorem once_Bs_ok {b:Nat} {m:List (Bs×Value)} {l:List (Bs×Bs)} {name:Bs} {x:Bs} (rpl:MapRel RVs m l) (hm:Mem Φ (.mp b m::K) w) :
  Calls Tryz.prog 193 (List.toArray [.map (some b),.string name,.string x]) w (fun ee w'=>ee=.returned (.bool ((lget l name).isNone))∧Mem Φ (.mp b (z5l m name (.string x))::K) w'):=by
 refine z0l func193 ntmps193 fun Q hQ a he =>?_
 refine go he hm fun a he =>?_
 rcases hf4:mget (m) name with _ | vf5
 have hf4_:=congrArg (z0i true (.string ⟨#[]⟩)) hf4
 refine Qq he hm (fun a he =>?_) (o:=by exact fun _ _ _ he hs=>Ok.cast (z1c 0 runUnderlying104 runUnderlying9 zeroValue9 he hs rfl rfl rfl) (show z0i true (.string ⟨#[]⟩) (mget (m) name)=.tuple (List.toArray [.string ⟨#[]⟩,.bool false]) from hf4_))
 refine MapU 0 runUnderlying104 runUnderlying9 he hm fun w hm a he =>?_
 refine Ret1 hQ he hm ?_
 refine ⟨?_,?_⟩
 rw [rpl.none hf4];rfl
 simp only [z5l,hf4];exact hm
 obtain ⟨y9,hy10,rfl⟩:=rpl.get hf4
 have hf4_:=congrArg (z0i true (.string ⟨#[]⟩)) hf4
 refine Qq he hm (fun a he =>?_) (o:=by exact fun _ _ _ he hs=>Ok.cast (z1c 0 runUnderlying104 runUnderlying9 zeroValue9 he hs rfl rfl rfl) (show z0i true (.string ⟨#[]⟩) (mget (m) name)=.tuple (List.toArray [.string y9,.bool true]) from hf4_))
 refine Ret1 hQ he hm ?_
 refine ⟨?_,?_⟩
 rw [hy10];rfl
 simp only [z5l,hf4];exact hm
end Go.Sw
