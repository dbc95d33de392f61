import Derived.Shelf.Strings.Builder1
import Derived.Shelf.LaysM
import Derived.Shelf.LaysC
import Derived.Shelf.Strconv.Itoa3
import Derived.Shelf.Strconv.AtoiAll
import Derived.Shelf.Strings.Search1
import Derived.Shelf.Strings.Replace
import Derived.Shelf.Strings.IndexAny
import Derived.Shelf.Strings.IndexAnyAll
import Derived.Lib.ItoaLen
import Derived.Lib.SplitLaws
import Derived.Test.YtgkhcfjooiekkaaGreatDoorX05
set_option linter.unusedVariables false
set_option linter.unusedSimpArgs false
namespace Go.Proofs
open Go.Shelf
def Tryz.lays137_ren:Go.Shelf.Ren:=⟨fun | 137=>213 | 217=>228 | 266=>236 | n=>n,fun | 9=>9 | 5=>5 | 3=>3 | n=>n,fun | n=>n⟩
theorem Tryz.lays137:Go.Proofs.Lays.n137 Tryz.prog Tryz.lays137_ren:={
 mixed:=by kernel_rfl
 f137:=Tryz.func213.trans (congrArg some (by kernel_rfl))
 f217:=Tryz.func228.trans (congrArg some (by kernel_rfl))
 f266:=Tryz.func236.trans (congrArg some (by kernel_rfl))
 t3:=Tryz.underlying3
 a3:=Tryz.isAgg3
 z3:=Tryz.sizeOf3
 v3:=Tryz.zeroValue3
 t5:=Tryz.underlying5
 a5:=Tryz.isAgg5
 z5:=Tryz.sizeOf5
 v5:=Tryz.zeroValue5
 t9:=Tryz.underlying9
 a9:=Tryz.isAgg9
 z9:=Tryz.sizeOf9
 v9:=Tryz.zeroValue9 }
open Go.RowKit in
theorem Tryz.strings_IndexByte (s:ByteArray) (c:Int) (w:World) :
  Calls Tryz.prog 213 #[.string s,.int .u8 c] w fun e w'=>e=.returned (.int .i64 (Lib.indexByte s.data.toList c.toNat.toUInt8))/\w'=w:=Any.strings_IndexByte Tryz.lays137 s c w
def Tryz.laysM171_ren:Go.Shelf.Ren:=⟨fun | 171=>122 | 243=>172 | 246=>199 | 283=>209 | 284=>210 | 285=>211 | 286=>212 | 129=>224 | 317=>223 | 318=>225 | 319=>226 | 320=>227 | 337=>234 | 338=>235 | n=>n,fun | 3=>3 | 9=>9 | 2=>2 | 4=>4 | 171=>275 | 0=>0 | 53=>241 | 37=>128 | 5=>5 | 173=>278 | 212=>291 | 51=>292 | 20=>20 | 213=>293 | 46=>282 | 232=>318 | 233=>319 | n=>n,fun | 17=>1 | 18=>2 | 19=>3 | n=>n⟩
theorem Tryz.laysM171:Go.Proofs.LaysM.n171 Tryz.prog Tryz.laysM171_ren:={
 mixed:=by kernel_rfl
 f129:=Tryz.func224.trans (congrArg some (by kernel_rfl))
 f171:=Tryz.func122.trans (congrArg some (by kernel_rfl))
 f243:=Tryz.func172.trans (congrArg some (by kernel_rfl))
 f246:=Tryz.func199.trans (congrArg some (by kernel_rfl))
 f283:=Tryz.func209.trans (congrArg some (by kernel_rfl))
 f284:=Tryz.func210.trans (congrArg some (by kernel_rfl))
 f285:=Tryz.func211.trans (congrArg some (by kernel_rfl))
 f286:=Tryz.func212.trans (congrArg some (by kernel_rfl))
 f317:=Tryz.func223.trans (congrArg some (by kernel_rfl))
 f318:=Tryz.func225.trans (congrArg some (by kernel_rfl))
 f319:=Tryz.func226.trans (congrArg some (by kernel_rfl))
 f320:=Tryz.func227.trans (congrArg some (by kernel_rfl))
 f337:=Tryz.func234.trans (congrArg some (by kernel_rfl))
 f338:=Tryz.func235.trans (congrArg some (by kernel_rfl))
 t0:=Tryz.underlying0
 a0:=Tryz.isAgg0
 z0:=Tryz.sizeOf0
 v0:=Tryz.zeroValue0
 t2:=Tryz.underlying2
 a2:=Tryz.isAgg2
 z2:=Tryz.sizeOf2
 v2:=Tryz.zeroValue2
 t3:=Tryz.underlying3
 a3:=Tryz.isAgg3
 z3:=Tryz.sizeOf3
 v3:=Tryz.zeroValue3
 t4:=Tryz.underlying4
 a4:=Tryz.isAgg4
 z4:=Tryz.sizeOf4
 v4:=Tryz.zeroValue4
 t5:=Tryz.underlying5
 a5:=Tryz.isAgg5
 z5:=Tryz.sizeOf5
 v5:=Tryz.zeroValue5
 t9:=Tryz.underlying9
 a9:=Tryz.isAgg9
 z9:=Tryz.sizeOf9
 v9:=Tryz.zeroValue9
 t20:=Tryz.underlying20
 a20:=Tryz.isAgg20
 z20:=Tryz.sizeOf20
 v20:=Tryz.zeroValue20
 t37:=Tryz.underlying128
 a37:=Tryz.isAgg128
 z37:=Tryz.sizeOf128
 v37:=Tryz.zeroValue128
 t46:=Tryz.underlying282
 a46:=Tryz.isAgg282
 z46:=Tryz.sizeOf282
 v46:=Tryz.zeroValue282
 t51:=Tryz.underlying292
 a51:=Tryz.isAgg292
 z51:=Tryz.sizeOf292
 v51:=Tryz.zeroValue292
 t53:=Tryz.underlying241
 a53:=Tryz.isAgg241
 z53:=Tryz.sizeOf241
 v53:=Tryz.zeroValue241
 t171:=Tryz.underlying275
 a171:=Tryz.isAgg275
 z171:=Tryz.sizeOf275
 v171:=Tryz.zeroValue275
 t173:=Tryz.underlying278
 a173:=Tryz.isAgg278
 z173:=Tryz.sizeOf278
 v173:=Tryz.zeroValue278
 t212:=Tryz.underlying291
 a212:=Tryz.isAgg291
 z212:=Tryz.sizeOf291
 v212:=Tryz.zeroValue291
 t213:=Tryz.underlying293
 a213:=Tryz.isAgg293
 z213:=Tryz.sizeOf293
 t232:=Tryz.underlying318
 a232:=Tryz.isAgg318
 z232:=Tryz.sizeOf318
 v232:=Tryz.zeroValue318
 t233:=Tryz.underlying319
 a233:=Tryz.isAgg319
 z233:=Tryz.sizeOf319
 v233:=Tryz.zeroValue319
 g17:=by kernel_rfl
 g18:=by kernel_rfl
 g19:=by kernel_rfl
 i0:=by kernel_rfl
 i2:=by kernel_rfl
 i3:=by kernel_rfl
 i4:=by kernel_rfl
 i5:=by kernel_rfl
 i9:=by kernel_rfl
 i20:=by kernel_rfl
 i37:=by kernel_rfl
 i46:=by kernel_rfl
 i51:=by kernel_rfl
 i53:=by kernel_rfl
 i171:=by kernel_rfl
 i173:=by kernel_rfl
 i212:=by kernel_rfl
 i232:=by kernel_rfl
 i233:=by kernel_rfl
 m17:=by kernel_rfl
 m18:=by kernel_rfl
 m19:=by kernel_rfl }
open Go.RowKit Go.Sort Go.Lib in
theorem Tryz.strconv_Itoa (n:Int) (b:-9223372036854775808<=n) (h1:n<=9223372036854775807) (w:World) (a:Lib.TabIs Tryz.prog w "internal/strconv.uint64pow10" .u64 Lib.pow10Tab) :
  Calls Tryz.prog 122 #[.int .i64 n] w fun e w'=>e=.returned (.string ⟨(Lib.itoa n).toArray⟩)/\∃k os,w'=grow (w.drewN k) os:=Any.strconv_Itoa Tryz.laysM171 n b h1 w a
def Tryz.laysC172_ren:Go.Shelf.Ren:=⟨fun | 172=>217 | 244=>229 | 245=>230 | 247=>237 | 279=>238 | 280=>239 | 281=>240 | 282=>241 | 287=>254 | 316=>255 | 171=>122 | 205=>256 | 321=>259 | 322=>260 | 243=>172 | 246=>199 | 283=>209 | 284=>210 | 285=>211 | 286=>212 | 129=>224 | 317=>223 | 318=>225 | 319=>226 | 320=>227 | 337=>234 | 338=>235 | n=>n,fun | 9=>9 | 3=>3 | 75=>138 | 76=>139 | 4=>4 | 5=>5 | 167=>306 | 37=>128 | 0=>0 | 85=>307 | 2=>2 | 168=>309 | 53=>241 | 175=>320 | 46=>282 | 210=>324 | 127=>202 | 145=>333 | 143=>331 | 21=>21 | 171=>275 | 173=>278 | 212=>291 | 51=>292 | 20=>20 | 213=>293 | 232=>318 | 233=>319 | 80=>116 | n=>n,fun | 15=>4 | 16=>5 | 17=>1 | 18=>2 | 19=>3 | n=>n⟩
theorem Tryz.laysC172:Go.Proofs.LaysC.n172 Tryz.prog Tryz.laysC172_ren:={
 mixed:=by kernel_rfl
 f129:=Tryz.func224.trans (congrArg some (by kernel_rfl))
 f171:=Tryz.func122.trans (congrArg some (by kernel_rfl))
 f172:=Tryz.func217.trans (congrArg some (by kernel_rfl))
 f205:=Tryz.func256.trans (congrArg some (by kernel_rfl))
 f243:=Tryz.func172.trans (congrArg some (by kernel_rfl))
 f244:=Tryz.func229.trans (congrArg some (by kernel_rfl))
 f245:=Tryz.func230.trans (congrArg some (by kernel_rfl))
 f246:=Tryz.func199.trans (congrArg some (by kernel_rfl))
 f247:=Tryz.func237.trans (congrArg some (by kernel_rfl))
 f279:=Tryz.func238.trans (congrArg some (by kernel_rfl))
 f280:=Tryz.func239.trans (congrArg some (by kernel_rfl))
 f281:=Tryz.func240.trans (congrArg some (by kernel_rfl))
 f282:=Tryz.func241.trans (congrArg some (by kernel_rfl))
 f283:=Tryz.func209.trans (congrArg some (by kernel_rfl))
 f284:=Tryz.func210.trans (congrArg some (by kernel_rfl))
 f285:=Tryz.func211.trans (congrArg some (by kernel_rfl))
 f286:=Tryz.func212.trans (congrArg some (by kernel_rfl))
 f287:=Tryz.func254.trans (congrArg some (by kernel_rfl))
 f316:=Tryz.func255.trans (congrArg some (by kernel_rfl))
 f317:=Tryz.func223.trans (congrArg some (by kernel_rfl))
 f318:=Tryz.func225.trans (congrArg some (by kernel_rfl))
 f319:=Tryz.func226.trans (congrArg some (by kernel_rfl))
 f320:=Tryz.func227.trans (congrArg some (by kernel_rfl))
 f321:=Tryz.func259.trans (congrArg some (by kernel_rfl))
 f322:=Tryz.func260.trans (congrArg some (by kernel_rfl))
 f337:=Tryz.func234.trans (congrArg some (by kernel_rfl))
 f338:=Tryz.func235.trans (congrArg some (by kernel_rfl))
 t0:=Tryz.underlying0
 a0:=Tryz.isAgg0
 z0:=Tryz.sizeOf0
 v0:=Tryz.zeroValue0
 t2:=Tryz.underlying2
 a2:=Tryz.isAgg2
 z2:=Tryz.sizeOf2
 v2:=Tryz.zeroValue2
 t3:=Tryz.underlying3
 a3:=Tryz.isAgg3
 z3:=Tryz.sizeOf3
 v3:=Tryz.zeroValue3
 t4:=Tryz.underlying4
 a4:=Tryz.isAgg4
 z4:=Tryz.sizeOf4
 v4:=Tryz.zeroValue4
 t5:=Tryz.underlying5
 a5:=Tryz.isAgg5
 z5:=Tryz.sizeOf5
 v5:=Tryz.zeroValue5
 t9:=Tryz.underlying9
 a9:=Tryz.isAgg9
 z9:=Tryz.sizeOf9
 v9:=Tryz.zeroValue9
 t20:=Tryz.underlying20
 a20:=Tryz.isAgg20
 z20:=Tryz.sizeOf20
 v20:=Tryz.zeroValue20
 t21:=Tryz.underlying21
 a21:=Tryz.isAgg21
 z21:=Tryz.sizeOf21
 v21:=Tryz.zeroValue21
 t37:=Tryz.underlying128
 a37:=Tryz.isAgg128
 z37:=Tryz.sizeOf128
 v37:=Tryz.zeroValue128
 t46:=Tryz.underlying282
 a46:=Tryz.isAgg282
 z46:=Tryz.sizeOf282
 v46:=Tryz.zeroValue282
 t51:=Tryz.underlying292
 a51:=Tryz.isAgg292
 z51:=Tryz.sizeOf292
 v51:=Tryz.zeroValue292
 t53:=Tryz.underlying241
 a53:=Tryz.isAgg241
 z53:=Tryz.sizeOf241
 v53:=Tryz.zeroValue241
 t75:=Tryz.underlying138
 a75:=Tryz.isAgg138
 z75:=Tryz.sizeOf138
 v75:=Tryz.zeroValue138
 t76:=Tryz.underlying139
 a76:=Tryz.isAgg139
 z76:=Tryz.sizeOf139
 v76:=Tryz.zeroValue139
 t85:=Tryz.underlying307
 a85:=Tryz.isAgg307
 z85:=Tryz.sizeOf307
 v85:=Tryz.zeroValue307
 t127:=Tryz.underlying202
 a127:=Tryz.isAgg202
 z127:=Tryz.sizeOf202
 v127:=Tryz.zeroValue202
 t143:=Tryz.underlying331
 a143:=Tryz.isAgg331
 z143:=Tryz.sizeOf331
 v143:=Tryz.zeroValue331
 t145:=Tryz.underlying333
 a145:=Tryz.isAgg333
 z145:=Tryz.sizeOf333
 v145:=Tryz.zeroValue333
 t167:=Tryz.underlying306
 a167:=Tryz.isAgg306
 z167:=Tryz.sizeOf306
 v167:=Tryz.zeroValue306
 t168:=Tryz.underlying309
 a168:=Tryz.isAgg309
 z168:=Tryz.sizeOf309
 v168:=Tryz.zeroValue309
 t171:=Tryz.underlying275
 a171:=Tryz.isAgg275
 z171:=Tryz.sizeOf275
 v171:=Tryz.zeroValue275
 t173:=Tryz.underlying278
 a173:=Tryz.isAgg278
 z173:=Tryz.sizeOf278
 v173:=Tryz.zeroValue278
 t175:=Tryz.underlying320
 a175:=Tryz.isAgg320
 z175:=Tryz.sizeOf320
 v175:=Tryz.zeroValue320
 t210:=Tryz.underlying324
 a210:=Tryz.isAgg324
 z210:=Tryz.sizeOf324
 v210:=Tryz.zeroValue324
 t212:=Tryz.underlying291
 a212:=Tryz.isAgg291
 z212:=Tryz.sizeOf291
 v212:=Tryz.zeroValue291
 t213:=Tryz.underlying293
 a213:=Tryz.isAgg293
 z213:=Tryz.sizeOf293
 t232:=Tryz.underlying318
 a232:=Tryz.isAgg318
 z232:=Tryz.sizeOf318
 v232:=Tryz.zeroValue318
 t233:=Tryz.underlying319
 a233:=Tryz.isAgg319
 z233:=Tryz.sizeOf319
 v233:=Tryz.zeroValue319
 g15:=by kernel_rfl
 g16:=by kernel_rfl
 g17:=by kernel_rfl
 g18:=by kernel_rfl
 g19:=by kernel_rfl
 t80:=Tryz.underlying116
 a80:=Tryz.isAgg116
 z80:=Tryz.sizeOf116
 v80:=Tryz.zeroValue116
 i0:=by kernel_rfl
 i2:=by kernel_rfl
 i3:=by kernel_rfl
 i4:=by kernel_rfl
 i5:=by kernel_rfl
 i9:=by kernel_rfl
 i20:=by kernel_rfl
 i21:=by kernel_rfl
 i37:=by kernel_rfl
 i46:=by kernel_rfl
 i51:=by kernel_rfl
 i53:=by kernel_rfl
 i75:=by kernel_rfl
 i76:=by kernel_rfl
 i80:=by kernel_rfl
 i85:=by kernel_rfl
 i127:=by kernel_rfl
 i143:=by kernel_rfl
 i145:=by kernel_rfl
 i167:=by kernel_rfl
 i168:=by kernel_rfl
 i171:=by kernel_rfl
 i173:=by kernel_rfl
 i175:=by kernel_rfl
 i210:=by kernel_rfl
 i212:=by kernel_rfl
 i232:=by kernel_rfl
 i233:=by kernel_rfl
 m15:=by kernel_rfl
 m16:=by kernel_rfl
 m17:=by kernel_rfl
 m18:=by kernel_rfl
 m19:=by kernel_rfl
 c0:=by kernel_rfl
 c2:=by kernel_rfl
 c3:=by kernel_rfl
 c4:=by kernel_rfl
 c5:=by kernel_rfl
 c9:=by kernel_rfl
 c20:=by kernel_rfl
 c21:=by kernel_rfl
 c37:=by kernel_rfl
 c46:=by kernel_rfl
 c51:=by kernel_rfl
 c53:=by kernel_rfl
 c75:=by kernel_rfl
 c76:=by kernel_rfl
 c80:=by kernel_rfl
 c85:=by kernel_rfl
 c127:=by kernel_rfl
 c143:=by kernel_rfl
 c145:=by kernel_rfl
 c167:=by kernel_rfl
 c168:=by kernel_rfl
 c171:=by kernel_rfl
 c173:=by kernel_rfl
 c175:=by kernel_rfl
 c210:=by kernel_rfl
 c212:=by kernel_rfl
 c213:=by kernel_rfl
 c232:=by kernel_rfl
 c233:=by kernel_rfl }
def Tryz.lays154_ren:Go.Shelf.Ren:=⟨fun | 154=>262 | 138=>264 | 165=>119 | 143=>265 | 166=>68 | 197=>266 | 169=>72 | 195=>267 | 218=>268 | 240=>120 | 241=>170 | 219=>269 | 260=>270 | 276=>171 | 277=>198 | 217=>228 | 225=>216 | 224=>215 | 267=>271 | 266=>236 | 314=>272 | n=>n,fun | 9=>9 | 3=>3 | 4=>4 | 72=>130 | 0=>0 | 76=>139 | 105=>335 | 21=>21 | 5=>5 | 70=>127 | 20=>20 | 37=>128 | 75=>138 | 127=>202 | 164=>238 | 46=>282 | 119=>337 | 139=>340 | 138=>339 | 146=>341 | 51=>292 | 80=>116 | n=>n,fun | 1=>0 | 3=>6 | 4=>7 | n=>n⟩
theorem Tryz.lays154:Go.Proofs.Lays.n154 Tryz.prog Tryz.lays154_ren:={
 mixed:=by kernel_rfl
 f138:=Tryz.func264.trans (congrArg some (by kernel_rfl))
 f143:=Tryz.func265.trans (congrArg some (by kernel_rfl))
 f154:=Tryz.func262.trans (congrArg some (by kernel_rfl))
 f165:=Tryz.func119.trans (congrArg some (by kernel_rfl))
 f166:=Tryz.func68.trans (congrArg some (by kernel_rfl))
 f169:=Tryz.func72.trans (congrArg some (by kernel_rfl))
 f195:=Tryz.func267.trans (congrArg some (by kernel_rfl))
 f197:=Tryz.func266.trans (congrArg some (by kernel_rfl))
 f217:=Tryz.func228.trans (congrArg some (by kernel_rfl))
 f218:=Tryz.func268.trans (congrArg some (by kernel_rfl))
 f219:=Tryz.func269.trans (congrArg some (by kernel_rfl))
 f224:=Tryz.func215.trans (congrArg some (by kernel_rfl))
 f225:=Tryz.func216.trans (congrArg some (by kernel_rfl))
 f240:=Tryz.func120.trans (congrArg some (by kernel_rfl))
 f241:=Tryz.func170.trans (congrArg some (by kernel_rfl))
 f260:=Tryz.func270.trans (congrArg some (by kernel_rfl))
 f266:=Tryz.func236.trans (congrArg some (by kernel_rfl))
 f267:=Tryz.func271.trans (congrArg some (by kernel_rfl))
 f276:=Tryz.func171.trans (congrArg some (by kernel_rfl))
 f277:=Tryz.func198.trans (congrArg some (by kernel_rfl))
 f314:=Tryz.func272.trans (congrArg some (by kernel_rfl))
 t0:=Tryz.underlying0
 a0:=Tryz.isAgg0
 z0:=Tryz.sizeOf0
 v0:=Tryz.zeroValue0
 t3:=Tryz.underlying3
 a3:=Tryz.isAgg3
 z3:=Tryz.sizeOf3
 v3:=Tryz.zeroValue3
 t4:=Tryz.underlying4
 a4:=Tryz.isAgg4
 z4:=Tryz.sizeOf4
 v4:=Tryz.zeroValue4
 t5:=Tryz.underlying5
 a5:=Tryz.isAgg5
 z5:=Tryz.sizeOf5
 v5:=Tryz.zeroValue5
 t9:=Tryz.underlying9
 a9:=Tryz.isAgg9
 z9:=Tryz.sizeOf9
 v9:=Tryz.zeroValue9
 t20:=Tryz.underlying20
 a20:=Tryz.isAgg20
 z20:=Tryz.sizeOf20
 v20:=Tryz.zeroValue20
 t21:=Tryz.underlying21
 a21:=Tryz.isAgg21
 z21:=Tryz.sizeOf21
 v21:=Tryz.zeroValue21
 t37:=Tryz.underlying128
 a37:=Tryz.isAgg128
 z37:=Tryz.sizeOf128
 v37:=Tryz.zeroValue128
 t46:=Tryz.underlying282
 a46:=Tryz.isAgg282
 z46:=Tryz.sizeOf282
 v46:=Tryz.zeroValue282
 t51:=Tryz.underlying292
 a51:=Tryz.isAgg292
 z51:=Tryz.sizeOf292
 v51:=Tryz.zeroValue292
 t70:=Tryz.underlying127
 a70:=Tryz.isAgg127
 z70:=Tryz.sizeOf127
 v70:=Tryz.zeroValue127
 t72:=Tryz.underlying130
 a72:=Tryz.isAgg130
 z72:=Tryz.sizeOf130
 v72:=Tryz.zeroValue130
 t75:=Tryz.underlying138
 a75:=Tryz.isAgg138
 z75:=Tryz.sizeOf138
 v75:=Tryz.zeroValue138
 t76:=Tryz.underlying139
 a76:=Tryz.isAgg139
 z76:=Tryz.sizeOf139
 v76:=Tryz.zeroValue139
 t105:=Tryz.underlying335
 a105:=Tryz.isAgg335
 z105:=Tryz.sizeOf335
 v105:=Tryz.zeroValue335
 t119:=Tryz.underlying337
 a119:=Tryz.isAgg337
 z119:=Tryz.sizeOf337
 t127:=Tryz.underlying202
 a127:=Tryz.isAgg202
 z127:=Tryz.sizeOf202
 v127:=Tryz.zeroValue202
 t138:=Tryz.underlying339
 a138:=Tryz.isAgg339
 z138:=Tryz.sizeOf339
 v138:=Tryz.zeroValue339
 t139:=Tryz.underlying340
 a139:=Tryz.isAgg340
 z139:=Tryz.sizeOf340
 v139:=Tryz.zeroValue340
 t146:=Tryz.underlying341
 a146:=Tryz.isAgg341
 z146:=Tryz.sizeOf341
 v146:=Tryz.zeroValue341
 t164:=Tryz.underlying238
 a164:=Tryz.isAgg238
 z164:=Tryz.sizeOf238
 v164:=Tryz.zeroValue238
 g1:=by kernel_rfl
 g3:=by kernel_rfl
 g4:=by kernel_rfl }
theorem Tryz.Builder_Extra_154:Builder.Extra Tryz.prog Tryz.lays154_ren:={
 sizeBuilder:=by kernel_rfl
 liesBuilder:=by kernel_rfl
 t5:=Tryz.underlying5
 a5:=Tryz.isAgg5
 z5:=Tryz.sizeOf5
 v5:=Tryz.zeroValue5
 infoByte:=by kernel_rfl
 cellsByte:=by kernel_rfl
 sizeByte:=by kernel_rfl
 neB5:=by decide }
open Go.RowKit Go.Lib in
theorem Tryz.strings_Replace (s old new:ByteArray) (n:Int) (m:Int) (w:World) (O:s.size < 4294967281) (N:w.cell? ⟨0,0,none⟩=some (.int .i64 m)) (h1:1<=old.size) (a:s.size+Lib.countB s old * new.size<=140737488355328) :
  Calls Tryz.prog 262 #[.string s,.string old,.string new,.int .i64 n] w fun e w'=>
   e=.returned (.string ⟨(Lib.replace s.data.toList old.data.toList new.data.toList n).toArray⟩)/\Below w.heap.size w w':=Any.strings_Replace Tryz.lays154 Tryz.Builder_Extra_154 s old new n m w O N h1 a
def Tryz.lays153_ren:Go.Shelf.Ren:=⟨fun | 153=>175 | 152=>200 | 226=>201 | 227=>202 | 228=>203 | 137=>213 | 119=>214 | 224=>215 | 225=>216 | 217=>228 | 266=>236 | n=>n,fun | 9=>9 | 3=>3 | 4=>4 | 5=>5 | 21=>21 | 117=>264 | 116=>263 | 0=>0 | 46=>282 | 124=>283 | n=>n,fun | n=>n⟩
theorem Tryz.lays153:Go.Proofs.Lays.n153 Tryz.prog Tryz.lays153_ren:={
 mixed:=by kernel_rfl
 f119:=Tryz.func214.trans (congrArg some (by kernel_rfl))
 f137:=Tryz.func213.trans (congrArg some (by kernel_rfl))
 f152:=Tryz.func200.trans (congrArg some (by kernel_rfl))
 f153:=Tryz.func175.trans (congrArg some (by kernel_rfl))
 f217:=Tryz.func228.trans (congrArg some (by kernel_rfl))
 f224:=Tryz.func215.trans (congrArg some (by kernel_rfl))
 f225:=Tryz.func216.trans (congrArg some (by kernel_rfl))
 f226:=Tryz.func201.trans (congrArg some (by kernel_rfl))
 f227:=Tryz.func202.trans (congrArg some (by kernel_rfl))
 f228:=Tryz.func203.trans (congrArg some (by kernel_rfl))
 f266:=Tryz.func236.trans (congrArg some (by kernel_rfl))
 t0:=Tryz.underlying0
 a0:=Tryz.isAgg0
 z0:=Tryz.sizeOf0
 v0:=Tryz.zeroValue0
 t3:=Tryz.underlying3
 a3:=Tryz.isAgg3
 z3:=Tryz.sizeOf3
 v3:=Tryz.zeroValue3
 t4:=Tryz.underlying4
 a4:=Tryz.isAgg4
 z4:=Tryz.sizeOf4
 v4:=Tryz.zeroValue4
 t5:=Tryz.underlying5
 a5:=Tryz.isAgg5
 z5:=Tryz.sizeOf5
 v5:=Tryz.zeroValue5
 t9:=Tryz.underlying9
 a9:=Tryz.isAgg9
 z9:=Tryz.sizeOf9
 v9:=Tryz.zeroValue9
 t21:=Tryz.underlying21
 a21:=Tryz.isAgg21
 z21:=Tryz.sizeOf21
 v21:=Tryz.zeroValue21
 t46:=Tryz.underlying282
 a46:=Tryz.isAgg282
 z46:=Tryz.sizeOf282
 v46:=Tryz.zeroValue282
 t116:=Tryz.underlying263
 a116:=Tryz.isAgg263
 z116:=Tryz.sizeOf263
 t117:=Tryz.underlying264
 a117:=Tryz.isAgg264
 z117:=Tryz.sizeOf264
 v117:=Tryz.zeroValue264
 t124:=Tryz.underlying283
 a124:=Tryz.isAgg283
 z124:=Tryz.sizeOf283
 v124:=Tryz.zeroValue283 }
open Go.RowKit Go.Lib in
theorem Tryz.strings_IndexAny_laid (s chars:ByteArray) (w:World) (O:s.size < 4294967281) (c:chars.size < 4294967281) (has:∀(j:Nat) b,s.data.toList[j]? = some b->b.toNat < 128) (a:∀(j:Nat) b,chars.data.toList[j]? = some b->b.toNat < 128) :
  Calls Tryz.prog 175 #[.string s,.string chars] w fun e w'=>e=.returned (.int .i64 (Lib.indexAny s.data.toList chars.data.toList))/\Below w.heap.size w w':=Any.strings_IndexAny_laid Tryz.lays153 (by kernel_rfl) s chars w O c has a
end Go.Proofs

namespace Go.Sw
open Go.Proofs.Tryz
open Go.Proofs
theorem Mem.below {V:Fz} {K:List Res} {w w':World} (N:Mem V K w) (h:RowKit.Below w.heap.size w w'):Mem V K w':=by
 have a:Mem V (.gs (.slice none 0 0) 0 0 []::K) w':=N.more (r:=.gs (.slice none 0 0) 0 0 []) h.os h.output (fun b hb=>h.block b hb) ⟨0,World.ownsRow_nil w' 0 0 0⟩ (fun b hb=>by cases hb)
 exact a.del 0
theorem q2b {V:Fz} {K:List Res} {w:World} {n:Int} (h:I64 n) (G:Tabs V) (N:Mem V K w) :
  Calls prog 122 #[.int .i64 n] w (fun ee w'=>ee=.returned (.string (z0x n))/\Mem V K w'):=by
 refine (Tryz.strconv_Itoa n (by have:=h;unfold I64 at this;omega) (by have:=h;unfold I64 at this;omega) w (G w ⟨N.fz,by simp⟩)).mono fun e w' J=>?_
 obtain ⟨rfl,k,os,rfl⟩:=J
 refine ⟨rfl,N.below ⟨rfl,rfl,rfl,by simp [Go.Sort.grow,World.drewN],fun b hb=>?_⟩⟩
 simp only [Go.Sort.grow,World.drewN]
 rw [Array.getElem?_append_left hb]
theorem At.cell {V:Fz} {K:List Res} {w:World} {g:Nat} {v:Value} (h:At V ⟨g,0,none⟩ [v]) (N:Mem V K w):w.cell? ⟨g,0,none⟩=some v:=by
 obtain ⟨arr,T,fr,h1,a⟩:=h.ex
 have b:=N.fz _ _ h1
 have c:=a 0 v rfl
 simp only [World.cell?,b]
 simpa using c
theorem z5r (old new:List UInt8):∀(k:Nat) (s:List UInt8),(Lib.replaceK old new k s).length<=s.length+k * new.length
 | 0,s=>by simp [Lib.replaceK]
 | k+1,s=>by
  unfold Lib.replaceK
  split
  ·omega
  ·have h:=z5r old new k (s.drop ((Lib.index s old).toNat+old.length))
   simp only [laQ,List.length_take,List.length_drop,Nat.add_mul] at h ⊢
   omega
theorem j1f (s old new:Bs):(y4k s old new).size<=s.size+new.size:=by
 have a:∀b:Bs,b.data.toList.length=b.size:=fun b=>by rw [Array.length_toList];rfl
 show (Lib.replace s.data.toList old.data.toList new.data.toList 1).toArray.size<=_
 rw [List.size_toArray,<- a s,<- a new]
 unfold Lib.replace
 split
 ·omega
 ·have h:=z5r old.data.toList new.data.toList (Lib.replaceNum s.data.toList old.data.toList 1) s.data.toList
  have c:Lib.replaceNum s.data.toList old.data.toList 1<=1:=by unfold Lib.replaceNum;split <;> omega
  have:=Nat.mul_le_mul_right new.data.toList.length c
  omega
theorem q9x {n:Int} (h:I64 n):(z0x n).size<=21:=by
 show (Lib.itoa n).toArray.size<=_
 rw [List.size_toArray]
 exact Lib.itoa_length_le n (by have:=h;unfold I64 at this;omega) (by have:=h;unfold I64 at this;omega)
theorem y4l {V:Fz} {K:List Res} {w:World} {s old new:Bs} (O:s.size<=1000000) (h1:1<=old.size) (b:new.size=1) (G:Glob V) (N:Mem V K w) :
  Calls prog 262 #[.string s,.string old,.string new,.int .i64 ((1:Nat):Int)] w (fun ee w'=>ee=.returned (.string (y4k s old new))/\Mem V K w'):=by
 obtain ⟨m,a⟩:=G.maxLen
 have c:=Lib.countB_le old h1 s.size s (Nat.le_refl _)
 refine (Tryz.strings_Replace s old new 1 m w (by omega) (a.cell N) h1 (by rw [b];omega)).mono fun e w' J=>⟨J.1,N.below J.2⟩
theorem j2s {V:Fz} {K:List Res} {w:World} {s:Bs} (O:s.size<=1000000) (G:Glob V) (N:Mem V K w) :
  Calls prog 217 #[.string s] w (fun ee w'=>Out (uU s) (fun v=>ee=.returned (.tuple #[.int .i64 v,.nilIface])/\Mem V K w')
   (fun _=>∃y:Int×Nat,ee=.returned (.tuple #[.int .i64 y.1,.iface 309 (.pointer (some ⟨y.2,0,none⟩))])/\Mem V K w')):=by
 have hbelow:∀w':World,(w'=w∨∃t,w'=Lib.bytesWorld w 5 t)->Mem V K w':=fun w' h=>by
  rcases h with rfl | ⟨t,rfl⟩
  ·exact N
  ·exact N.below (Lib.bytesWorld_below w 5 t)
 unfold uU
 cases h:Lib.atoiAll s.data.toList
 ·exact (Any.strconv_Atoi_ok Tryz.laysC172 s (by omega) _ h w).mono fun e w' J=>⟨J.1,hbelow w' J.2⟩
 ·obtain ⟨ev,h1,a⟩:=G.err4
  exact (Any.strconv_Atoi_syntax Tryz.laysC172 s (by omega) h ev w (h1.cell N) a).mono fun e w' ⟨NN,b,_,_,c⟩=>⟨(_,NN),b,N.below c⟩
 ·obtain ⟨ev,h1,a⟩:=G.err5
  exact (Any.strconv_Atoi_range Tryz.laysC172 s (by omega) h ev w (h1.cell N) a).mono fun e w' ⟨NN,b,_,_,c⟩=>⟨(_,NN),b,N.below c⟩
theorem z5b {V:Fz} {K:List Res} {w:World} {s:Bs} {c:Nat} (N:Mem V K w) :
  Calls prog 213 #[.string s,.int .u8 ((c:Nat):Int)] w (fun ee w'=>ee=.returned (.int .i64 (Lib.indexByte s.data.toList ((c:Int)).toNat.toUInt8))/\Mem V K w'):=by
 exact (Tryz.strings_IndexByte s c w).mono fun e w' J=>by obtain ⟨h1,rfl⟩:=J;exact ⟨h1,N⟩
theorem q8g {P:Program} {n:Nat} {E:List (Nat×Value)} {D:List Deferred} {a:Act} {w:World} {ty:TypeId} (i m:Nat) {x ix:Operand} {t e:TypeId} {kk:IntKind} {cs:List Value} {s:Bs} (J:EnvR n E D a) (h:ev E x=some (.agg cs.toArray))
  (f:ev E ix=some (.int kk (i:Int))) (g:Under P t (.array m e)) (O:SizeT P e 1) (d:Scalar P e) (hl:cs.length=m) (c:cs[i]? = some (.string s)):Ok P a (.index t x ix) ty w (.string s):=fun _ _ _ _=>by
 have b:i < m:=by rw [<- hl];exact (List.getElem?_eq_some_iff.1 c).1
 simp only [execOp,J.ev h,J.ev f]
 have j:cs[i]'(by rw [hl];exact b)=.string s:=(List.getElem?_eq_some_iff.1 c).2
 simp [Instr.index,asIntOf,Sem.run_bind,g w,O w,Result.andThen,b]
 simp [part,Sem.run_bind,d w,Result.andThen,c]
theorem y8p {P:Program} {n:Nat} {E:List (Nat×Value)} {D:List Deferred} {a:Act} {w:World} {Kn:Value->World->Prop} {Qp:List PanicEntry->World->Prop} {dst:Option Tmp} {ty:TypeId} {pos:String} {aft:Array Edge} {g:Option (Nat×Bool)}
  {α β ε:Type} {f:FuncId} {xs:Array Operand} {ts:Array TypeId} {vs:List Value} {r:Except ε α} {X:α->Value} {Z:ε->β->Value} {b d:Fz} {KO:α->List Res} {KE:ε->β->List Res}
  (J:EnvR n E D a) (m:evs E xs.toList=some vs) (l:∀args w,(callFunc f args).run P w=.ok (.enter f args) w)
  (j:Calls P f vs.toArray w (fun e w'=>Out r (fun x=>e=.returned (X x)/\Mem b (KO x) w') (fun c=>∃y,e=.returned (Z c y)/\Mem d (KE c y) w')))
  (k:∀x w',r=.ok x->Mem b (KO x) w'->Kn (X x) w') (kp:∀c y w',r=.error c->Mem d (KE c y) w'->Kn (Z c y) w') :
  Oper.eff P ⟨dst,.call { callee:=.value (.func f),args:=xs,argTypes:=ts },ty,pos,aft,g⟩ a w Kn Qp:=by
 refine aE J m l j (fun v w' h=>?_) (fun c w' h=>?_) (fun w' h=>?_)
 ·cases r with
  | ok x=>obtain ⟨h1,i⟩:=h;cases h1;exact k _ _ rfl i
  | error c=>obtain ⟨y,h1,i⟩:=h;cases h1;exact kp _ _ _ rfl i
 ·cases r with
  | ok x=>obtain ⟨h1,_⟩:=h;cases h1
  | error c=>obtain ⟨y,h1,_⟩:=h;cases h1
 ·cases r with
  | ok x=>obtain ⟨h1,_⟩:=h;cases h1
  | error c=>obtain ⟨y,h1,_⟩:=h;cases h1
def q2i (s:Bs):Int:=(uD s).getD 0
def y3r (s:Bs):Int:=match uD s with | some _=>0 | none=>13
theorem num_ok {s:Bs} {v:Int} (h:uU (y4k s ⟨#[126]⟩ ⟨#[45]⟩)=.ok v) (a:z4r v=s):q2i s=v/\y3r s=0:=by
 simp [q2i,y3r,uD,h,a]
theorem num_no {s:Bs} {v:Int} (h:uU (y4k s ⟨#[126]⟩ ⟨#[45]⟩)=.ok v) (a:¬z4r v=s):q2i s=0/\y3r s=13:=by
 simp [q2i,y3r,uD,h,a]
theorem num_err {s:Bs} {u:Unit} (h:uU (y4k s ⟨#[126]⟩ ⟨#[45]⟩)=.error u):q2i s=0/\y3r s=13:=by
 simp [q2i,y3r,uD,h]
theorem y0j {s:Bs} {v:Int} (h:uU s=.ok v):I64 v:=by
 unfold uU at h
 unfold Lib.atoiAll at h
 split at h
 ·rename_i v' a
  simp only [Except.ok.injEq] at h
  subst h
  split at a
  ·cases a
  ·simp only at a
   split at a
   ·cases a
   ·cases a
   ·split at a
    ·cases a
    ·split at a
     ·cases a
     ·rename_i c d
      simp only [Lib.NumEnd.ok.injEq] at a
      subst a
      unfold I64
      split <;> rename_i b
      ·simp only [b,true_and] at d;omega
      ·simp only [b,not_false_eq_true,true_and] at c;omega
 ·cases h
theorem pV (t:Bs) (i:Nat):zG t i < 256:=by
 unfold zG;split
 ·exact UInt8.toNat_lt _
 ·decide
theorem y0a {n:Nat} (h:n < 256):(n.toUInt8).toNat=n:=by simp [Nat.toUInt8,UInt8.toNat_ofNat,Nat.mod_eq_of_lt h]
section
variable {V:Fz} {K:List Res} {w:World} {n:Nat}
theorem q5g (h:n < 256) (N:Mem V K w):Calls prog 253 #[.int .u8 ((n:Nat):Int)] w (fun ee w'=>ee=.returned (.bool (yK n))/\Mem V K w'):=by
 have:=z7k (c:=n.toUInt8) N;rwa [y0a h] at this
theorem j6l (h:n < 256) (N:Mem V K w):Calls prog 247 #[.int .u8 ((n:Nat):Int)] w (fun ee w'=>ee=.returned (.bool (zZ n))/\Mem V K w'):=by
 have:=oE (c:=n.toUInt8) N;rwa [y0a h] at this
theorem y9g (h:n < 256) (N:Mem V K w):Calls prog 249 #[.int .u8 ((n:Nat):Int)] w (fun ee w'=>ee=.returned (.bool (qK n))/\Mem V K w'):=by
 have:=y2z (c:=n.toUInt8) N;rwa [y0a h] at this
theorem j6m (h:n < 256) (N:Mem V K w):Calls prog 251 #[.int .u8 ((n:Nat):Int)] w (fun ee w'=>ee=.returned (.bool (qQ n))/\Mem V K w'):=by
 have:=y2y (c:=n.toUInt8) N;rwa [y0a h] at this
end
theorem q0t:wordsL.length=15:=rfl
theorem j8n {i:Nat} {x:Bs} (h:wordsL[i]? = some x):aA (wordsM.take i) x (.int .i64 ((5:Nat):Int))=wordsM.take (i+1):=by
 have a:i < 15:=by have:=(List.getElem?_eq_some_iff.1 h).1;rwa [q0t] at this
 have b:x=wordsL[i]'(by rw [q0t];exact a):=(List.getElem?_eq_some_iff.1 h).2.symm
 subst b
 match i,a with
 | 0,_=>rfl
 | 1,_=>rfl
 | 2,_=>rfl
 | 3,_=>rfl
 | 4,_=>rfl
 | 5,_=>rfl
 | 6,_=>rfl
 | 7,_=>rfl
 | 8,_=>rfl
 | 9,_=>rfl
 | 10,_=>rfl
 | 11,_=>rfl
 | 12,_=>rfl
 | 13,_=>rfl
 | 14,_=>rfl
theorem j2e {i:Nat} (h:¬i < 15):wordsM.take i=wordsM:=List.take_of_length_le (by show 15<=i;omega)
theorem q6l {V:Fz} {K:List Res} {w:World} {t:Bs} {pos:Nat} {b:Nat} {rest:List Value} {a:TypeId} (c:pos<=1000000000) (N:Mem V (.blk b (ob (.string t::.int .i64 ((pos:Nat):Int)::rest) a)::K) w) :
  Calls prog 246 #[.pointer (some ⟨b,0,none⟩),.int .i64 ((0:Nat):Int)] w (fun ee w'=>ee=.returned (.int .u8 ((zG t pos:Nat):Int))/\Mem V (.blk b (ob (.string t::.int .i64 ((pos:Nat):Int)::rest) a)::K) w') :=
 z5o (k:=0) c N
theorem gL (t:Bs) (pos:Nat):z1i t pos=if y3r (aK t pos)=0 then
   (if yK (zG t (pos+(kM t pos+vY t pos)))=true∨zG t (pos+(kM t pos+vY t pos))=39 then .error (pos,13) else .ok ⟨1,q2i (aK t pos),aK t pos,pos⟩)
  else .error (pos,13):=by
 unfold z1i y3r q2i
 cases uD (aK t pos) with
 | none=>rfl
 | some v=>rfl
set_option maxRecDepth 10000 in
theorem j4c:∀c < 256,decide ((0:Int)<=Lib.indexByte [40,41,44,59,58,124,61,60,43,45,42,47,37,95] ((c:Nat):Int).toNat.toUInt8)=y4u c:=by decide
end Go.Sw

namespace Go.Sw
theorem q6j (t:Bs):∀(f i q:Nat),i<=t.size->z1j t f i=.ok q->i<=q/\q<=t.size
 | 0,i,q,h,a=>by simp only [z1j,Except.ok.injEq] at a;omega
 | f+1,i,q,h,a=>by
  have hr:=kL xF t t.size i h
  simp only [z1j] at a
  split at a
  ·cases b:vN t (i+yL xF t t.size i) (i+yL xF t t.size i) 0 with
   | error c=>rw [b] at a;cases a
   | ok d=>
    rw [b] at a
    have h1:=pW _ _ _ _ _ _ b
    have e:=q6j t f d q h1.2 a
    omega
  ·simp only [Except.ok.injEq] at a;omega
theorem y4c {t:Bs} {i q:Nat} (h:i<=t.size) (a:aT t i=.ok q):i<=q/\q<=t.size:=q6j t _ i q h a
theorem y2h (t:Bs) (i n:Nat) (h:i+n<=t.size):(t.extract i (i+n)).size=n:=by
 rw [ByteArray.size_extract];omega
theorem q7l {t:Bs} {pos:Nat} {k:Tok} (h1:pos < t.size) (h:zX t pos=.ok k):1<=k.text.size/\pos+k.text.size<=t.size:=by
 have b:∀p:Nat->Bool,p (zG t pos)=true->1<=yL p t t.size pos:=fun p d=>by
  rw [xJ,if_pos ⟨h1,d⟩];omega
 have name:∀kd,qK (zG t pos)=true∨qQ (zG t pos)=true->kI t pos kd=.ok k->1<=k.text.size/\pos+k.text.size<=t.size:=fun kd O c=>by
  unfold kI at c
  split at c
  ·cases c
  ·simp only [Except.ok.injEq] at c
   subst c
   have e:=y3o t pos (by omega)
   have f:=b yK (by unfold yK;rcases O with h | h <;> simp [h])
   have m:yL yK t t.size pos<=yW t pos:=by
    unfold yW;split
    ·split <;> omega
    ·omega
   simp only
   rw [y2h t pos _ e];omega
 have made:∀kd n,1<=n->pos+n<=t.size->kT t pos kd n=.ok k->1<=k.text.size/\pos+k.text.size<=t.size:=fun kd n e f c=>by
  obtain ⟨_,rfl⟩:=tC c
  simp only
  rw [y2h t pos _ f];omega
 unfold zX at h
 split at h
 ·rename_i i
  have g:1<=kM t pos+vY t pos/\pos+(kM t pos+vY t pos)<=t.size:=by
   unfold vY
   by_cases a:zG t pos=126
   ·have:kM t pos=1:=by simp [kM,a]
    have:=kL zZ t t.size (pos+kM t pos) (by omega)
    omega
   ·have O:kM t pos=0:=by simp [kM,a]
    have j:zZ (zG t pos)=true:=i.resolve_right a
    have e:=b zZ j
    have f:=kL zZ t t.size pos (by omega)
    rw [O,Nat.add_zero];omega
  rw [gL] at h
  split at h
  ·split at h
   ·cases h
   ·simp only [Except.ok.injEq] at h
    subst h
    simp only [aK]
    rw [y2h t pos _ g.2];omega
  ·cases h
 split at h
 ·rename_i O;exact name _ (.inl O) h
 split at h
 ·rename_i O;exact name _ (.inr O) h
 split at h
 ·have:=kL yK t t.size (pos+1) (by omega)
  exact made _ _ (by omega) (by omega) h
 split at h
 ·rename_i d
  have l:(⟨#[61,62]⟩:Bs).size=2:=rfl
  have e2:(⟨#[45,62]⟩:Bs).size=2:=rfl
  have:2<=t.size - pos:=by
   rcases d with d | d
   ·have:=jI d;omega
   ·have:=jI d;omega
  exact made _ _ (by omega) (by omega) h
 split at h
 ·exact made _ _ (by omega) (by omega) h
 ·cases h
theorem y5g (t:Bs):∀(f g i:Nat),i<=t.size->t.size < i+f->t.size < i+g->gB t f i=gB t g i
 | 0,_,i,a,h,_=>by omega
 | _+1,0,i,a,_,h=>by omega
 | f+1,g+1,i,a,h,h'=>by
  simp only [gB]
  cases e:aT t i with
  | error c=>rfl
  | ok q=>
   simp only
   split
   ·rename_i hq
    cases d:zX t q with
    | error c=>rfl
    | ok k=>
     simp only
     have h1:=y4c a e
     have b:=q7l hq d
     rw [y5g t f g (q+k.text.size) b.2 (by omega) (by omega)]
   ·rfl
def z6b (t:Bs) (q:Nat):Except (Nat×Int) (List Tok):=if q < t.size then
  match zX t q with
  | .error c=>.error c
  | .ok k=>match gB t (t.size+1) (q+k.text.size) with
   | .error c=>.error c
   | .ok l=>.ok (k::l)
 else .ok []
theorem j4j {t:Bs} {i:Nat} (h:i<=t.size):gB t (t.size+1) i=match aT t i with
  | .error c=>.error c
  | .ok q=>z6b t q:=by
 rw [y5g t (t.size+1) (t.size+2) i h (by omega) (by omega)]
 rfl
def y4f (pre:List Tok) (r:Except (Nat×Int) (List Tok)):Except (Nat×Int) (List Tok):=match r with
 | .ok l=>.ok (pre++l)
 | .error c=>.error c
theorem q6m (r:Except (Nat×Int) (List Tok)):y4f [] r=r:=by cases r <;> rfl
theorem q0k {t:Bs} {i q:Nat} {pre:List Tok} (h:i<=t.size) (a:aT t i=.ok q):y4f pre (gB t (t.size+1) i)=y4f pre (z6b t q):=by
 rw [j4j h,a]
theorem q0l {t:Bs} {i:Nat} {pre:List Tok} {c:Nat×Int} (h:i<=t.size) (a:aT t i=.error c):y4f pre (gB t (t.size+1) i)=.error c:=by
 rw [j4j h,a];rfl
theorem q0m {t:Bs} {q:Nat} {pre:List Tok} {k:Tok} (h:q < t.size) (a:zX t q=.ok k):y4f pre (z6b t q)=y4f (pre++[k]) (gB t (t.size+1) (q+k.text.size)):=by
 unfold z6b
 rw [if_pos h,a]
 simp only
 cases gB t (t.size+1) (q+k.text.size) <;> simp [y4f]
theorem j8h {t:Bs} {q:Nat} {pre:List Tok} {c:Nat×Int} (h:q < t.size) (a:zX t q=.error c):y4f pre (z6b t q)=.error c:=by
 unfold z6b
 rw [if_pos h,a];rfl
theorem x4n {t:Bs} {q:Nat} {pre:List Tok} (h:¬q < t.size):y4f pre (z6b t q)=.ok pre:=by
 unfold z6b
 rw [if_neg h];simp [y4f]
end Go.Sw

namespace Go.Sw
open Go.Proofs.Tryz
open Go.Proofs
set_option maxRecDepth 20000
set_option maxHeartbeats 4000000
variable {V:Fz} {K:List Res} {w:World}
theorem j5s {n:Int}  (b:I64 n) (G:Glob V) (N:Mem V K w) :
  Calls prog 263 #[.int .i64 n] w (fun ee w'=>ee=.returned (.string (z4r n))/\Mem V K w'):=by
 refine zM func263 ntmps263 fun Q d a J=>?_
 refine zS call122 J N (fun w N a J=>?_) (c:=q2b b G.tabs N)
 refine zS call262 J N (fun w N a J=>?_) (c:=y4l (by have h_:=q9x b;omega) (by decide) rfl G N)
 refine zD d J N ?_
 exact z5t N (by rfl)
theorem y3s {s:Bs} (O:s.size<=900000) (G:Glob V) (N:Mem V K w) :
  Calls prog 258 #[.string s] w (fun ee w'=>ee=.returned (.tuple #[.int .i64 (q2i s),.int .i64 (y3r s)])/\Mem V K w'):=by
 refine zM func258 ntmps258 fun Q f a J=>?_
 refine zS call262 J N (fun w N a J=>?_) (c:=y4l (by omega) (by decide) rfl G N)
 refine st J rfl rfl rfl (y8p J rfl call217 (j2s (by have h_:=j1f s ⟨#[126]⟩ ⟨#[45]⟩;have b:(⟨#[45]⟩:Bs).size=1:=rfl;omega) G N) (fun h w e N a J=>?_) (fun h i w e N a J=>?_))
 replace N:=N.nf
 refine Qq J N (fun a J=>?_) (o:=by exact fun _ _ _ J O=>aO (v:=.bool false) J rfl rfl rfl (by kernel_rfl))
 refine zS call263 J N (fun w N a J=>?_) (c:=j5s (y0j e) G N)
 refine go J N fun a J=>?_
 by_cases g:(z4r h)=s
 refine jV f J N ?_
 obtain ⟨d,b⟩:=num_ok e g
 rw [d,b];exact ⟨rfl,N⟩
 refine jV f J N ?_
 obtain ⟨d,b⟩:=num_no e g
 rw [d,b];exact ⟨rfl,N⟩
 replace N:=N.nf
 refine Qq J N (fun a J=>?_) (o:=by exact fun _ _ _ J O=>aO (v:=.bool true) J rfl rfl rfl (by kernel_rfl))
 refine jV f J N ?_
 obtain ⟨d,b⟩:=num_err e
 rw [d,b];exact ⟨rfl,N⟩
theorem q0a {t:Bs} {pos b:Nat} {rest:List Value} {D:TypeId} (G:Glob V) (h1:pos<=t.size) (F:t.size<=800000) (N:Mem V (.blk b (ob (.string t::.int .i64 ((pos:Nat):Int)::rest) D)::K) w) :
  Calls prog 248 #[.pointer (some ⟨b,0,none⟩)] w (fun ee w'=>Out (z1i t pos) (fun q=>ee=.returned (y5e q)/\Mem V (.blk b (ob (.string t::.int .i64 ((pos:Nat):Int)::rest) D)::K) w') (fun c=>ee=.panicked (sQ c)/\Mem V K w')):=by
 refine zM func248 ntmps248 fun Q u a J=>?_
 refine Alc J N fun E w N a J=>?_
 replace N:=N.pl 1
 refine zS call246 J N (fun w N a J=>?_) (c:=q6l (by omega) N)
 by_cases H:zG t pos=126
 refine go J N fun a J=>?_
 have B:=sT (t:=t) (i:=pos) (by omega)
 refine zS call242 J N (fun w N a J=>?_) (c:=q2r (p:=zZ) (pos:=pos) (k:=1) (fs:=[]) (cs:=[]) call247 (fun c N=>oE N) (by omega) (by omega) N)
 refine go J N fun a J=>?_
 have B:=sT (t:=t) (i:=pos) (by omega)
 have C:=kL zZ t t.size (pos+1) (by omega)
 have f:kM t pos+vY t pos=(1+(yL zZ t t.size (pos+1))):=by simp [kM,vY, *]
 refine Qq J N (fun a J=>?_) (o:=by exact fun _ _ _ J O=>pD (i:=1) (j:=(yL zZ t t.size (pos+1))) J rfl rfl (by omega))
 refine zS call246 J N (fun w N a J=>?_) (c:=z5o (k:=(1+(yL zZ t t.size (pos+1)))) (by omega) N)
 refine Reg [1,1,1,1,2,1,1,1,1,2,1,1,1,1,2,1,1,1,1,1,1] [0,1] J N fun w N a J=>?_
 refine Qq J N (fun a J=>?_) (o:=by exact fun _ _ _ J O=>pD (i:=(pos+1)) (j:=(yL zZ t t.size (pos+1))) J rfl rfl (by omega))
 refine Qq J N (fun a J=>?_) (o:=by exact fun _ _ _ J O=>vI pos (((pos+1)+(yL zZ t t.size (pos+1)))) J rfl runUnderlying9 ⟨_,rfl⟩ ⟨_,rfl⟩ (by omega) (by omega))
 refine go J N fun a J=>?_
 have d:(t.extract pos ((pos+1)+(yL zZ t t.size (pos+1))))=aK t pos:=by unfold aK;rw [f];simp only [Nat.add_assoc]
 refine zS call258 J N (fun w N a J=>?_) (c:=y3s (s:=(t.extract pos ((pos+1)+(yL zZ t t.size (pos+1))))) (by have h_:=ByteArray.size_extract (a:=t) (b:=pos) (e:=(pos+1)+(yL zZ t t.size (pos+1)));omega) G N)
 refine go J N fun a J=>?_
 by_cases n:y3r (t.extract pos ((pos+1)+(yL zZ t t.size (pos+1))))=0
 refine zW call253 J N (fun g w N a J=>?_) (fun g w N a J=>?_) (c:=q5g (pV _ _) N)
 refine yE J N fun a J=>?_
 refine Qq J N (fun a J=>?_) (o:=by exact fun _ _ _ J O=>qL J rfl runUnderlying270 (by intro ms h;cases h))
 refine st0 J rfl rfl (vK J rfl (vM _) (fun a m=>u _ _ _ (yT m ?_)))
 replace N:=N.dl [1,0]
 show Out (z1i t pos) _ _
 rw [gL,f,<- d,if_pos n,if_pos (.inl g)];exact ⟨rfl,N⟩
 refine go J N fun a J=>?_
 by_cases z:zG t (pos+(1+(yL zZ t t.size (pos+1))))=39
 refine yE J N fun a J=>?_
 refine Qq J N (fun a J=>?_) (o:=by exact fun _ _ _ J O=>qL J rfl runUnderlying270 (by intro ms h;cases h))
 refine st0 J rfl rfl (vK J rfl (vM _) (fun a m=>u _ _ _ (yT m ?_)))
 replace N:=N.dl [1,0]
 show Out (z1i t pos) _ _
 rw [gL,f,<- d,if_pos n,if_pos (.inr z)];exact ⟨rfl,N⟩
 refine yE J N fun a J=>?_
 refine Sto 1 J N fun w N a J=>?_
 refine go J N fun a J=>?_
 have y:=N
 replace N:=N.dl [1]
 refine jS u J y ?_
 show Out (z1i t pos) _ _
 rw [gL,f,<- d,if_pos n,if_neg (fun v=>v.elim (fun h_=>absurd (h_.symm.trans g) (by decide)) z)];exact ⟨rfl,N⟩
 refine yE J N fun a J=>?_
 refine Qq J N (fun a J=>?_) (o:=by exact fun _ _ _ J O=>qL J rfl runUnderlying270 (by intro ms h;cases h))
 refine st0 J rfl rfl (vK J rfl (vM _) (fun a m=>u _ _ _ (yT m ?_)))
 replace N:=N.dl [1,0]
 show Out (z1i t pos) _ _
 rw [gL,f,<- d,if_neg n];exact ⟨rfl,N⟩
 refine zS call242 J N (fun w N a J=>?_) (c:=q2q (p:=zZ) (pos:=pos) (fs:=[]) (cs:=[]) call247 (fun c N=>oE N) (by omega) (by omega) N)
 refine go J N fun a J=>?_
 have C:=kL zZ t t.size pos h1
 have f:kM t pos+vY t pos=(0+(yL zZ t t.size pos)):=by simp [kM,vY, *]
 refine Qq J N (fun a J=>?_) (o:=by exact fun _ _ _ J O=>pD (i:=0) (j:=(yL zZ t t.size pos)) J rfl rfl (by omega))
 refine zS call246 J N (fun w N a J=>?_) (c:=z5o (k:=(0+(yL zZ t t.size pos))) (by omega) N)
 refine Reg [1,1,1,1,2,1,1,1,1,2,1,1,1,1,2,1,1,1,1,1,1] [0,1] J N fun w N a J=>?_
 refine Qq J N (fun a J=>?_) (o:=by exact fun _ _ _ J O=>pD (i:=pos) (j:=0) J rfl rfl (by omega))
 refine Qq J N (fun a J=>?_) (o:=by exact fun _ _ _ J O=>pD (i:=(pos+0)) (j:=(yL zZ t t.size pos)) J rfl rfl (by omega))
 refine Qq J N (fun a J=>?_) (o:=by exact fun _ _ _ J O=>vI pos (((pos+0)+(yL zZ t t.size pos))) J rfl runUnderlying9 ⟨_,rfl⟩ ⟨_,rfl⟩ (by omega) (by omega))
 refine go J N fun a J=>?_
 have d:(t.extract pos ((pos+0)+(yL zZ t t.size pos)))=aK t pos:=by unfold aK;rw [f];simp only [Nat.add_assoc]
 refine zS call258 J N (fun w N a J=>?_) (c:=y3s (s:=(t.extract pos ((pos+0)+(yL zZ t t.size pos)))) (by have h_:=ByteArray.size_extract (a:=t) (b:=pos) (e:=(pos+0)+(yL zZ t t.size pos));omega) G N)
 refine go J N fun a J=>?_
 by_cases r:y3r (t.extract pos ((pos+0)+(yL zZ t t.size pos)))=0
 refine zW call253 J N (fun l w N a J=>?_) (fun l w N a J=>?_) (c:=q5g (pV _ _) N)
 refine yE J N fun a J=>?_
 refine Qq J N (fun a J=>?_) (o:=by exact fun _ _ _ J O=>qL J rfl runUnderlying270 (by intro ms h;cases h))
 refine st0 J rfl rfl (vK J rfl (vM _) (fun a m=>u _ _ _ (yT m ?_)))
 replace N:=N.dl [1,0]
 show Out (z1i t pos) _ _
 rw [gL,f,<- d,if_pos r,if_pos (.inl l)];exact ⟨rfl,N⟩
 refine go J N fun a J=>?_
 by_cases A:zG t (pos+(0+(yL zZ t t.size pos)))=39
 refine yE J N fun a J=>?_
 refine Qq J N (fun a J=>?_) (o:=by exact fun _ _ _ J O=>qL J rfl runUnderlying270 (by intro ms h;cases h))
 refine st0 J rfl rfl (vK J rfl (vM _) (fun a m=>u _ _ _ (yT m ?_)))
 replace N:=N.dl [1,0]
 show Out (z1i t pos) _ _
 rw [gL,f,<- d,if_pos r,if_pos (.inr A)];exact ⟨rfl,N⟩
 refine yE J N fun a J=>?_
 refine Sto 1 J N fun w N a J=>?_
 refine go J N fun a J=>?_
 have y:=N
 replace N:=N.dl [1]
 refine jS u J y ?_
 show Out (z1i t pos) _ _
 rw [gL,f,<- d,if_pos r,if_neg (fun v=>v.elim (fun h_=>absurd (h_.symm.trans l) (by decide)) A)];exact ⟨rfl,N⟩
 refine yE J N fun a J=>?_
 refine Qq J N (fun a J=>?_) (o:=by exact fun _ _ _ J O=>qL J rfl runUnderlying270 (by intro ms h;cases h))
 refine st0 J rfl rfl (vK J rfl (vM _) (fun a m=>u _ _ _ (yT m ?_)))
 replace N:=N.dl [1,0]
 show Out (z1i t pos) _ _
 rw [gL,f,<- d,if_neg r];exact ⟨rfl,N⟩
end Go.Sw

namespace Go.Sw
open Go.Proofs.Tryz
open Go.Proofs
set_option maxRecDepth 20000
set_option maxHeartbeats 4000000
theorem x4m {V:Fz} {K:List Res} {w:World} {t:Bs} {pos b mb:Nat} {cv:Value} (G:Glob V) (F:MapAt V mb wordsM) (h1:pos < t.size) (h2:t.size<=800000) (N:Mem V (.blk b (ob [.string t,.int .i64 ((pos:Nat):Int),.map (some mb),cv] 301)::K) w) :
  Calls prog 233 #[.pointer (some ⟨b,0,none⟩)] w (fun ee w'=>Out (zX t pos) (fun q=>ee=.returned (y5e q)/\Mem V (.blk b (ob [.string t,.int .i64 ((pos:Nat):Int),.map (some mb),cv] 301)::K) w') (fun c=>ee=.panicked (sQ c)/\Mem V K w')):=by
 refine zM func233 ntmps233 fun Q e a J=>?_
 refine Alc J N fun b2 w N a J=>?_
 refine go J N fun a J=>?_
 have X:zZ 39=false:=rfl
 have Y:qK 39=false:=rfl
 have Z:qQ 39=false:=rfl
 have a0:y4u 39=false:=rfl
 replace N:=N.pl 1
 refine zS call246 J N (fun w N a J=>?_) (c:=q6l (by omega) N)
 refine zW call247 J N (fun b0 w N a J=>?_) (fun b0 w N a J=>?_) (c:=j6l (pV _ _) N)
 refine jA e call248 J N (fun q9 w g N a J=>?_) (fun q9 w g N=>?_) (c:=q0a (pos:=pos) G (by omega) (by omega) N)
 refine Sto 1 J N fun w N a J=>?_
 refine go J N fun a J=>?_
 have d:=N
 replace N:=N.dl [1]
 refine jS e J d ?_
 show Out (zX t pos) _ _
 rw [show zX t pos=z1i t pos by simp [zX, *],g];exact ⟨rfl,N⟩
 replace N:=N.dl [0]
 show Out (zX t pos) _ _
 rw [show zX t pos=z1i t pos by simp [zX, *],g];exact ⟨rfl,N⟩
 refine go J N fun a J=>?_
 by_cases m0:zG t pos=126
 refine jA e call248 J N (fun d0 w i N a J=>?_) (fun d0 w i N=>?_) (c:=q0a (pos:=pos) G (by omega) (by omega) N)
 refine Sto 1 J N fun w N a J=>?_
 refine go J N fun a J=>?_
 have d:=N
 replace N:=N.dl [1]
 refine jS e J d ?_
 show Out (zX t pos) _ _
 rw [show zX t pos=z1i t pos by simp [zX, *],i];exact ⟨rfl,N⟩
 replace N:=N.dl [0]
 show Out (zX t pos) _ _
 rw [show zX t pos=z1i t pos by simp [zX, *],i];exact ⟨rfl,N⟩
 refine zW call249 J N (fun M w N a J=>?_) (fun M w N a J=>?_) (c:=y9g (pV _ _) N)
 refine jA e call250 J N (fun e0 w j N a J=>?_) (fun e0 w j N=>?_) (c:=j3q (pos:=pos) (kd:=2) F (by omega) (by omega) N)
 refine Sto 1 J N fun w N a J=>?_
 refine go J N fun a J=>?_
 have d:=N
 replace N:=N.dl [1]
 refine jS e J d ?_
 show Out (zX t pos) _ _
 rw [show zX t pos=kI t pos 2 by simp [zX, *],j];exact ⟨rfl,N⟩
 replace N:=N.dl [0]
 show Out (zX t pos) _ _
 rw [show zX t pos=kI t pos 2 by simp [zX, *],j];exact ⟨rfl,N⟩
 refine zW call251 J N (fun P w N a J=>?_) (fun P w N a J=>?_) (c:=j6m (pV _ _) N)
 refine jA e call250 J N (fun f0 w l N a J=>?_) (fun f0 w l N=>?_) (c:=j3q (pos:=pos) (kd:=3) F (by omega) (by omega) N)
 refine Sto 1 J N fun w N a J=>?_
 refine go J N fun a J=>?_
 have d:=N
 replace N:=N.dl [1]
 refine jS e J d ?_
 show Out (zX t pos) _ _
 rw [show zX t pos=kI t pos 3 by simp [zX, *],l];exact ⟨rfl,N⟩
 replace N:=N.dl [0]
 show Out (zX t pos) _ _
 rw [show zX t pos=kI t pos 3 by simp [zX, *],l];exact ⟨rfl,N⟩
 refine go J N fun a J=>?_
 by_cases W:zG t pos=39
 refine zS call246 J N (fun w N a J=>?_) (c:=z5o (k:=1) (by omega) N)
 refine zW call249 J N (fun R w N a J=>?_) (fun R w N a J=>?_) (c:=y9g (pV _ _) N)
 refine zS call242 J N (fun w N a J=>?_) (c:=q2r (p:=yK) (pos:=pos) (k:=1) (fs:=[]) (cs:=[]) call253 (fun c N=>z7k N) (by omega) (by omega) N)
 refine Qq J N (fun a J=>?_) (o:=by exact fun _ _ _ J O=>z1w (((1+(yL yK t t.size (pos+1))):Nat):Int) J rfl rfl (by have T:=kL yK t t.size (pos+1) (by omega);rw [yC (by omega)];omega))
 refine jA e call252 J N (fun g0 w m N a J=>?_) (fun g0 w m N=>?_) (c:=gK (pos:=pos) (kd:=4) (n:=(1+(yL yK t t.size (pos+1)))) (by have T:=kL yK t t.size (pos+1) (by omega);omega) (by omega) N)
 refine Sto 1 J N fun w N a J=>?_
 refine go J N fun a J=>?_
 have d:=N
 replace N:=N.dl [1]
 refine jS e J d ?_
 show Out (zX t pos) _ _
 rw [show zX t pos=kT t pos 4 (1+(yL yK t t.size (pos+1))) by simp [zX, *],m];exact ⟨rfl,N⟩
 replace N:=N.dl [0]
 show Out (zX t pos) _ _
 rw [show zX t pos=kT t pos 4 (1+(yL yK t t.size (pos+1))) by simp [zX, *],m];exact ⟨rfl,N⟩
 refine zW call244 J N (fun B w N a J=>?_) (fun B w N a J=>?_) (c:=cO (s:=(⟨#[61,62]⟩:Bs)) (by omega) N)
 refine jA e call252 J N (fun h0 w r N a J=>?_) (fun h0 w r N=>?_) (c:=gK (pos:=pos) (kd:=6) (n:=2) (by have h_:=jI B;have U:(⟨#[61,62]⟩:Bs).size=2:=rfl;have H:(⟨#[45,62]⟩:Bs).size=2:=rfl;omega) (by omega) N)
 refine Sto 1 J N fun w N a J=>?_
 refine go J N fun a J=>?_
 have d:=N
 replace N:=N.dl [1]
 refine jS e J d ?_
 show Out (zX t pos) _ _
 rw [show zX t pos=kT t pos 6 2 by simp [zX, *],r];exact ⟨rfl,N⟩
 replace N:=N.dl [0]
 show Out (zX t pos) _ _
 rw [show zX t pos=kT t pos 6 2 by simp [zX, *],r];exact ⟨rfl,N⟩
 refine zW call244 J N (fun C w N a J=>?_) (fun C w N a J=>?_) (c:=cO (s:=(⟨#[45,62]⟩:Bs)) (by omega) N)
 refine jA e call252 J N (fun i0 w u N a J=>?_) (fun i0 w u N=>?_) (c:=gK (pos:=pos) (kd:=6) (n:=2) (by have h_:=jI C;have U:(⟨#[61,62]⟩:Bs).size=2:=rfl;have H:(⟨#[45,62]⟩:Bs).size=2:=rfl;omega) (by omega) N)
 refine Sto 1 J N fun w N a J=>?_
 refine go J N fun a J=>?_
 have d:=N
 replace N:=N.dl [1]
 refine jS e J d ?_
 show Out (zX t pos) _ _
 rw [show zX t pos=kT t pos 6 2 by simp [zX, *],u];exact ⟨rfl,N⟩
 replace N:=N.dl [0]
 show Out (zX t pos) _ _
 rw [show zX t pos=kT t pos 6 2 by simp [zX, *],u];exact ⟨rfl,N⟩
 refine zS call213 J N (fun w N a J=>?_) (c:=z5b N)
 have f:=j4c (zG t pos) (pV t pos)
 by_cases I:0<=Lib.indexByte (⟨#[40,41,44,59,58,124,61,60,43,45,42,47,37,95]⟩:Bs).data.toList (((zG t pos:Nat):Int).toNat.toUInt8)
 refine go J N fun a J=>?_
 have A:y4u (zG t pos)=true:=by rw [<- f];exact decide_eq_true I
 rw [W] at A
 cases A
 refine yE J N fun a J=>?_
 refine Qq J N (fun a J=>?_) (o:=by exact fun _ _ _ J O=>qL J rfl runUnderlying270 (by intro ms h;cases h))
 refine st0 J rfl rfl (vK J rfl (vM _) (fun a hd=>e _ _ _ (yT hd ?_)))
 replace N:=N.dl [1,0]
 have S:y4u (zG t pos)=false:=by rw [<- f];exact decide_eq_false I
 show Out (zX t pos) _ _
 rw [show zX t pos=.error (pos,11) by simp [zX, *]];exact ⟨rfl,N⟩
 refine zW call244 J N (fun D w N a J=>?_) (fun D w N a J=>?_) (c:=cO (s:=(⟨#[61,62]⟩:Bs)) (by omega) N)
 refine jA e call252 J N (fun j0 w v N a J=>?_) (fun j0 w v N=>?_) (c:=gK (pos:=pos) (kd:=6) (n:=2) (by have h_:=jI D;have U:(⟨#[61,62]⟩:Bs).size=2:=rfl;have H:(⟨#[45,62]⟩:Bs).size=2:=rfl;omega) (by omega) N)
 refine Sto 1 J N fun w N a J=>?_
 refine go J N fun a J=>?_
 have d:=N
 replace N:=N.dl [1]
 refine jS e J d ?_
 show Out (zX t pos) _ _
 rw [show zX t pos=kT t pos 6 2 by simp [zX, *],v];exact ⟨rfl,N⟩
 replace N:=N.dl [0]
 show Out (zX t pos) _ _
 rw [show zX t pos=kT t pos 6 2 by simp [zX, *],v];exact ⟨rfl,N⟩
 refine zW call244 J N (fun E w N a J=>?_) (fun E w N a J=>?_) (c:=cO (s:=(⟨#[45,62]⟩:Bs)) (by omega) N)
 refine jA e call252 J N (fun k0 w y N a J=>?_) (fun k0 w y N=>?_) (c:=gK (pos:=pos) (kd:=6) (n:=2) (by have h_:=jI E;have U:(⟨#[61,62]⟩:Bs).size=2:=rfl;have H:(⟨#[45,62]⟩:Bs).size=2:=rfl;omega) (by omega) N)
 refine Sto 1 J N fun w N a J=>?_
 refine go J N fun a J=>?_
 have d:=N
 replace N:=N.dl [1]
 refine jS e J d ?_
 show Out (zX t pos) _ _
 rw [show zX t pos=kT t pos 6 2 by simp [zX, *],y];exact ⟨rfl,N⟩
 replace N:=N.dl [0]
 show Out (zX t pos) _ _
 rw [show zX t pos=kT t pos 6 2 by simp [zX, *],y];exact ⟨rfl,N⟩
 refine zS call213 J N (fun w N a J=>?_) (c:=z5b N)
 have f:=j4c (zG t pos) (pV t pos)
 by_cases L:0<=Lib.indexByte (⟨#[40,41,44,59,58,124,61,60,43,45,42,47,37,95]⟩:Bs).data.toList (((zG t pos:Nat):Int).toNat.toUInt8)
 refine go J N fun a J=>?_
 have A:y4u (zG t pos)=true:=by rw [<- f];exact decide_eq_true L
 refine jA e call252 J N (fun l0 w z N a J=>?_) (fun l0 w z N=>?_) (c:=gK (pos:=pos) (kd:=6) (n:=1) (by have T:=kL yK t t.size (pos+1) (by omega);omega) (by omega) N)
 refine Sto 1 J N fun w N a J=>?_
 refine go J N fun a J=>?_
 have d:=N
 replace N:=N.dl [1]
 refine jS e J d ?_
 show Out (zX t pos) _ _
 rw [show zX t pos=kT t pos 6 1 by simp [zX, *],z];exact ⟨rfl,N⟩
 replace N:=N.dl [0]
 show Out (zX t pos) _ _
 rw [show zX t pos=kT t pos 6 1 by simp [zX, *],z];exact ⟨rfl,N⟩
 refine yE J N fun a J=>?_
 refine Qq J N (fun a J=>?_) (o:=by exact fun _ _ _ J O=>qL J rfl runUnderlying270 (by intro ms h;cases h))
 refine st0 J rfl rfl (vK J rfl (vM _) (fun a hd=>e _ _ _ (yT hd ?_)))
 replace N:=N.dl [1,0]
 have S:y4u (zG t pos)=false:=by rw [<- f];exact decide_eq_false L
 show Out (zX t pos) _ _
 rw [show zX t pos=.error (pos,11) by simp [zX, *]];exact ⟨rfl,N⟩
theorem y7b {V:Fz} {K:List Res} {w:World} {t:Bs} (N:Mem V K w) :
  Calls prog 220 #[.string t] w (fun ee w'=>∃y:Nat×Nat,ee=.returned (.pointer (some ⟨y.1,0,none⟩))/\True/\Mem V (.blk y.1 (ob [.string t,.int .i64 ((0:Nat):Int),.map (some y.2),.slice none 0 0] 301)::.mp y.2 wordsM::K) w'):=by
 refine zM func220 ntmps220 fun Q h a J=>?_
 refine yE J N fun a J=>?_
 refine MkM J N fun f w N a J=>?_
 refine z3h J N fun a J=>?_
 refine Bx J N fun m w N a J=>?_
 refine yE J N fun a J=>?_
 refine go J N fun a J=>?_
 refine zV (J.ks [3,11]) N (fun R mm a w=>∃(i:Nat),mm=15 - i/\R V [(12,.int .i64 ((i:Nat):Int))] [(1,.mp f (wordsM.take i))] a w/\(True)) (15 - 0) ⟨0,rfl,⟨J.pk,N⟩,trivial⟩ ?_
 clear N J
 rintro mm a w ⟨i,e,⟨J,N⟩,g⟩ k d
 replace N:=N.nf
 refine go J N fun a J=>?_
 by_cases c:i < 15
 refine go J N fun a J=>?_
 obtain ⟨j,b⟩:=qX (l:=wordsL) (i:=i) c
 refine Qq J N (fun a J=>?_) (o:=by exact fun _ _ _ J O=>q8g i 15 (cs:=strs wordsL) J rfl rfl runUnderlying302 sizeOf9 isAgg9 rfl (by rw [strs,List.getElem?_map,b];rfl))
 refine z4h 1 runUnderlying298 runUnderlying9 J N fun w N a J=>?_
 rw [show Value.int .i64 5=.int .i64 ((5:Nat):Int) from rfl,j8n b] at N
 refine go J N fun a J=>?_
 refine d _ _ _ (by subst e;omega) ⟨(i+1),rfl,⟨J.pk,N⟩,?_⟩
 trivial
 refine zD h J N ?_
 rw [j2e c] at N
 exact ⟨(_,_),rfl,trivial,N⟩
theorem j8g {V:Fz} {K:List Res} {w:World} {b:Nat} (N:Mem V K w) :
  Calls prog 222 #[.pointer (some ⟨b,0,none⟩)] w (fun ee w'=>∃y:Nat,ee=.returned (.func (.func 231) #[] #[.pointer (some ⟨y,0,none⟩)])/\True/\Mem V (.blk y (ob [.pointer (some ⟨b,0,none⟩)] 267)::K) w'):=by
 refine zM func222 ntmps222 fun Q c a J=>?_
 refine Bx J N fun d w N a J=>?_
 refine zD c J N ?_
 exact ⟨_,rfl,trivial,N⟩
theorem j1w {β:Type} {V:Fz} {w:World} {t:Bs} {bx b mb l:Nat} {KY:List Tok->β->List Res} {z:β} (G:Glob V) (C:MapAt V mb wordsM) (Z:t.size<=800000)
  (hy:∀pre z R (k:Tok) w,pre.length < t.size->Mem V (R++KY pre z) w->YieldAt Fence.wide 2 prog l #[y5e k] w (fun e w'=>e=.returned (.bool true)/\∃z',Mem V (R++KY (pre++[k]) z') w'))
  (N:Mem V (.blk bx (ob [.pointer (some ⟨b,0,none⟩)] 267)::.blk b (ob [.string t,.int .i64 ((0:Nat):Int),.map (some mb),.slice none 0 0] 301)::KY [] z) w) :
  Calls prog 231 #[.func (.yield l) #[] #[],.pointer (some ⟨bx,0,none⟩)] w (fun ee w'=>Out (nX t) (fun r=>∃y:β,ee=.returned (.tuple #[])/\Mem V (KY r y) w') (fun c=>∃y:List Tok×β,ee=.panicked (sQ c)/\Mem V (KY y.1 y.2) w')):=by
 refine zM func231 ntmps231 fun Q F a J=>?_
 refine go J N fun a J=>?_
 replace N:=N.nilRow 314 2
 replace N:=N.nf
 replace N:=N.pl 2
 refine xQ F call232 J N (fun H X w s I N a J=>?_) (fun H w s N=>?_) (c:=j3w (pos:=0) (by omega) (by omega) (Nat.zero_le _) N)
 replace N:=N.nf
 have n:=y4c (by omega) s
 refine go J N fun a J=>?_
 refine mR (fun mm a w=>∃(i:Nat) (pre:List Tok) (u:Value) (ds:List Value) (z0:β),mm=t.size - i/\EnvR 38 [(0,.func (.yield l) #[] #[]),(1,.pointer (some ⟨bx,0,none⟩))] [] a/\Mem V (.blk b (ob [.string t,.int .i64 ((i:Nat):Int),.map (some mb),u] 301)::.gs (u) 314 2 ds::.blk bx (ob [.pointer (some ⟨b,0,none⟩)] 267)::KY pre z0) w/\(i<=t.size/\ds.length<=2 * i/\pre.length<=i/\nX t=y4f pre (z6b t i))) (t.size - H) ⟨H,[],X.1,X.2,z,rfl,J.pk,N,⟨n.2,I,Nat.zero_le _,(q6m _).symm.trans (q0k (Nat.zero_le _) s)⟩⟩ ?_
 clear N J
 rintro mm a w ⟨i,pre,u,ds,z0,P,J,N,K⟩ L6 M
 obtain ⟨S,T,U,q⟩:=K
 refine Reg [2,1,1,1,2,2,1,1,1,2,1,1] [0,1,2] J N fun w N a J=>?_
 refine go J N fun a J=>?_
 by_cases m:i < t.size
 refine jA F call233 J N (fun d w f N a J=>?_) (fun d w f N=>?_) (c:=x4m (pos:=i) G C m Z N)
 have W:=q7l m f
 refine Alc J N fun Y w N a J=>?_
 refine Sto 0 J N fun w N a J=>?_
 refine Reg [2,1,1,1,2,1,2,1,1,1,1,1,0] [0,1,2,3] J N fun w N a J=>?_
 refine Qq J N (fun a J=>?_) (o:=by exact fun _ _ _ J O=>pD (i:=i) (j:=d.text.size) J rfl rfl (by omega))
 refine Sto 1 J N fun w N a J=>?_
 refine go1 J N fun a J=>?_
 refine uS ?_
 refine mZ J (by intro c h;cases h) (xX J rfl) rfl fun a J=>?_
 refine mZ J (by intro c h;cases h) (qU 0 (vs:=[.int .i64 (d.kind),.int .i64 (d.num),.string d.text,.int .i64 ((d.org:Nat):Int)]) J N.toSees rfl rfl isAgg274 sizeOf274 rfl rfl) rfl fun a J=>?_
 replace N:=N.dl [0]
 refine y2v (v:=y5e d) J rfl rfl rfl (hy pre z0 [.blk b (ob [.string t,.int .i64 (((i+d.text.size):Nat):Int),.map (some mb),u] 301),.gs (u) 314 2 ds,.blk bx (ob [.pointer (some ⟨b,0,none⟩)] 267)] d w (by omega) N) fun w L a J=>?_
 obtain ⟨E,N⟩:=L
 replace N:=N.nf
 refine mZ J (by intro c h;cases h) (q0x J rfl) rfl fun a J=>?_
 refine wpListIn_nil ?_
 replace N:=N.ar [] [1,1]
 refine xQ F call232 J N (fun A D w g B N a J=>?_) (fun A w g N=>?_) (c:=j3w (pos:=(i+d.text.size)) (by omega) (by omega) (by omega) N)
 replace N:=N.nf
 have n:=y4c (by omega) g
 refine go J N fun a J=>?_
 refine M _ _ _ (by subst P;omega) ⟨(A),(pre++[d]),(D.1),(D.2),(E),rfl,J.pk,N,?_⟩
 exact ⟨n.2,B,by simp only [laQ,lcQ,lnQ];omega,by rw [q,q0m m f,q0k (by omega) g]⟩
 replace N:=N.dl [0]
 have p:nX t=.error A:=by
  rw [q,q0m m f,q0l (by omega) g]
 show Out (nX t) _ _
 rw [p];exact ⟨(pre++[d],E),rfl,N⟩
 replace N:=N.dl [1,0]
 have p:nX t=.error d:=by
  rw [q,j8h m f]
 show Out (nX t) _ _
 rw [p];exact ⟨(pre,z0),rfl,N⟩
 refine go J N fun a J=>?_
 replace N:=N.dl [2,1,0]
 refine F _ _ _ (aU J results231 ?_)
 show Out (nX t) _ _
 rw [q,x4n m];exact ⟨z0,rfl,N⟩
 replace N:=N.dl [0]
 have p:nX t=.error H:=by
  exact (q6m _).symm.trans (q0l (Nat.zero_le _) s)
 show Out (nX t) _ _
 rw [p];exact ⟨([],z),rfl,N⟩
end Go.Sw

namespace Go.Sw
open Go.Proofs.Tryz
open Go.Proofs
def z7y (k:Tok):List Value:=[.int .i64 k.kind,.int .i64 k.num,.string k.text,.int .i64 ((k.org:Nat):Int)]
def nB (l:List Tok):List Value:=l.flatMap z7y
theorem j1x (l:List Tok) (k:Tok):nB (l++[k])=nB l++z7y k:=by simp [nB]
theorem q0j:∀l:List Tok,(nB l).length=4 * l.length
 | []=>rfl
 | k::l=>by have:=q0j l;simp only [nB,List.flatMap_cons,laQ,lcQ] at this ⊢;rw [this];simp only [z7y,lcQ,lnQ];omega
def dW (c:Nat×Int):List Value:=[.int .i64 ((c.1:Nat):Int),.int .i64 c.2]
abbrev wrongE (c:Nat×Int) (r:Bool):PanicEntry:={ v:=.iface 270 (.agg (dW c).toArray),recovered:=r }
set_option maxRecDepth 20000 in
set_option maxHeartbeats 4000000 in
theorem q4c {V:Fz} {K:List Res} {w:World} {b d:Nat} {v:Value} {x y:Value} {c:Nat×Int} (N:Mem V (.blk b (ob [v] 268)::.blk d (ob [x,y] 270)::K) w) :
  CallsD prog 221 #[.pointer (some ⟨b,0,none⟩),.pointer (some ⟨d,0,none⟩)] (.panicking (sQ c)) w fun e u' w'=>
   e=.returned (.tuple #[])/\u'=.panicking [wrongE c true]/\Mem V (.blk b (ob [.slice none 0 0] 268)::.blk d (ob (dW c) 270)::K) w':=by
 generalize m:(fun (e:Ending) (u':FrameMode) (w':World)=>e=.returned (.tuple #[])/\u'=.panicking [wrongE c true]/\Mem V (.blk b (ob [.slice none 0 0] 268)::.blk d (ob (dW c) 270)::K) w')=R
 refine callsD_of_wpS func221 rfl fun c₀ cs p=>?_
 apply wpS_seq
 apply wpS_region
 show wpOpsS prog _ _ [0] _ _ _
 simp [wpOpsS,go_sem,recoverD,p,ntmps221,Exit.thenS,sQ]
 refine wpS_of_wp ?_
 generalize n:(_::cs:List Frame)=cs'
 have l:∀(a:Act) (w':World),a.defers=[]->Mem V (.blk b (ob [.slice none 0 0] 268)::.blk d (ob (dW c) 270)::K) w'->bodyPostS prog Tryz.f221 c₀ cs R .normal a cs' w':=fun a w' o N=>
  ⟨o,.panicking [wrongE c true],n.symm,.tuple #[],results_none rfl _ _ _,by subst m;exact ⟨rfl,rfl,N⟩⟩
 generalize f:(Act.mk _ [])=a
 have J:EnvR 12 [(5,.iface 270 (.agg (dW c).toArray)),(1,.pointer (some ⟨d,0,none⟩)),(0,.pointer (some ⟨b,0,none⟩))] [] a:=by
  subst f
  refine ⟨rfl,fun t v h=>?_,rfl⟩
  obtain ⟨rfl,rfl⟩ | ⟨_,h⟩:=kV h
  ·rfl
  ·obtain ⟨rfl,rfl⟩ | ⟨_,h⟩:=kV h
   ·rfl
   ·obtain ⟨rfl,rfl⟩ | ⟨_,h⟩:=kV h
    ·rfl
    ·cases h
 clear f
 refine wp_block ?_
 refine sq fun r g=>?_
 refine wp_region_lit ?_
 refine jN J (aO (v:=.bool false) J rfl rfl rfl (by kernel_rfl)) rfl fun a J=>?_
 refine wpList_nil ?_
 apply g
 refine if_f J rfl ?_
 refine sq fun s i=>?_
 refine wp_region_lit ?_
 refine jN J (y5v J rfl runUnderlying270 (by intro ms h;cases h)) rfl fun a J=>?_
 refine jN J (cS J rfl rfl) rfl fun a J=>
  jN J (cS J rfl rfl) rfl fun a J=>?_
 refine wpList_nil ?_
 apply i
 refine if_t J rfl ?_
 refine sq fun u j=>?_
 refine wp_region_lit ?_
 refine st J rfl rfl rfl (wA (cs:=[.int .i64 ((0:Nat):Int),.int .i64 ((0:Nat):Int)]) N zeroValue270 rfl fun k w N a J=>?_)
 refine st0 J rfl rfl (jE 0 (cs:=[.int .i64 ((0:Nat):Int),.int .i64 ((0:Nat):Int)]) (vs:=dW c) J N rfl rfl rfl rfl sizeOf270 rfl rfl rfl fun w N a J=>?_)
 refine wpList_nil ?_
 apply j
 replace N:Mem V (.blk k (ob (dW c) 270)::.blk b (ob [v] 268)::.blk d (ob [x,y] 270)::K) w:=N
 refine dH [2,0,0] (.q 0 (.e 1 (.e 2 (.done)))) [.blk k (ob (dW c) 270)] J N mixed (by kernel_rfl) (by simp) fun w N=>?_
 refine d_q J rfl rfl (fun w O=>qU 0 (vs:=dW c) J O rfl rfl isAgg270 sizeOf270 rfl rfl) rfl fun a J=>?_
 refine y6r J rfl rfl (jE 1 (cs:=[v]) (vs:=[.slice none 0 0]) J N rfl rfl rfl rfl sizeOf268 rfl rfl rfl fun w N=>⟨fun _=>N.seesIn (Fz.Le.refl _) (by simp [wD]),fun a J=>?_⟩)
 refine y6r J rfl rfl (jE 2 (cs:=[x,y]) (vs:=dW c) J N rfl rfl rfl rfl sizeOf270 rfl rfl rfl fun w N=>⟨dG (by kernel_rfl),fun a J=>?_⟩)
 refine q1k ?_
 replace N:Mem V (.blk b (ob [.slice none 0 0] 268)::.blk d (ob (dW c) 270)::K) w:=N.del 0
 exact l _ _ J.defs N
set_option maxRecDepth 20000 in
theorem catch_none {w:World} {f g:Nat} :
  CallsD prog 221 #[.pointer (some ⟨f,0,none⟩),.pointer (some ⟨g,0,none⟩)] .returning w fun e u' w'=>e=.returned (.tuple #[])/\u'=.returning/\w'=w:=by
 generalize j:(fun (e:Ending) (u':FrameMode) (w':World)=>e=.returned (.tuple #[])/\u'=.returning/\w'=w)=R
 refine callsD_of_wpS func221 rfl fun c₀ cs d=>?_
 apply wpS_seq
 apply wpS_region
 show wpOpsS prog _ _ [0] _ _ _
 simp [wpOpsS,go_sem,recoverD,d,ntmps221,Exit.thenS]
 refine wpS_of_wp ?_
 have i:∀(a:Act),a.defers=[]->bodyPostS prog Tryz.f221 c₀ cs R .normal a (c₀::cs) w:=fun a k=>
  ⟨k,.returning,by cases c₀;simp only at d;subst d;rfl,.tuple #[],results_none rfl _ _ _,by subst j;exact ⟨rfl,rfl,rfl⟩⟩
 generalize b:(Act.mk _ [])=a
 have J:EnvR 12 [(5,.nilIface)] [] a:=by
  subst b
  refine ⟨rfl,fun t v h=>?_,rfl⟩
  obtain ⟨rfl,rfl⟩ | ⟨_,h⟩:=kV h
  ·rfl
  ·cases h
 clear b
 refine wp_block ?_
 refine sq fun l c=>?_
 refine wp_region_lit ?_
 refine jN J (aO (v:=.bool true) J rfl rfl rfl (by kernel_rfl)) rfl fun a J=>?_
 refine wpList_nil ?_
 apply c
 refine if_t J rfl ?_
 refine wp_region_lit ?_
 refine jN J (dL J rfl) rfl fun a J=>?_
 refine wpList_nil ?_
 exact i _ J.defs
theorem zip1 {α β:Type} (x:α) (y:β):(#[x].zip #[y])=#[(x,y)]:=by apply Array.ext';simp
set_option maxRecDepth 20000 in
theorem rt_268:RowT prog 268 274 4 40:=⟨underlying268,⟨_,_,Tryz.type274,rfl,rfl,rfl,rfl⟩,by decide,by decide⟩
abbrev scanKY (K:List Res) (l Dk a b:Nat) (r:Loop) (pre:List Tok) (z:Value):List Res :=
 .blk l (.loop r)::.blk Dk (.deferred (some []))::.blk b (ob [.int .i64 ((0:Nat):Int),.int .i64 ((0:Nat):Int)] 270)::.blk a (ob [z] 268)::.gs z 274 4 (nB pre)::K
set_option maxRecDepth 20000 in
set_option maxHeartbeats 4000000 in
theorem j1q {Ψ:Fz} {K j:List Res} {w:World} {l Dk b c n:Nat} {r:Loop} {pre:List Tok} {z:Value} {k:Tok} (t:pre.length < n) (E:n<=800000)
  (m:r.params=#[11]) (s:r.state=.ready) (q:r.pending=none)
  (B:∀(a:Act) (w:World) (K:List Res),EnvR 19 [(11,y5e k),(4,.pointer (some ⟨c,0,none⟩)),(3,.pointer (some ⟨b,0,none⟩))] [] a->Mem Ψ (.blk l (.loop r)::K) w ->
   r.assign.wpIn (FO (some l)) 2 prog (Exit.then (fun u D=>∃g,EnvR 19 [(5,.pointer (some ⟨g,0,none⟩)),(4,.pointer (some ⟨c,0,none⟩)),(3,.pointer (some ⟨b,0,none⟩))] [] u/\Mem Ψ (.blk l (.loop r)::.blk g (ob (z7y k) 274)::K) D) (fun _ _ _=>False)) a w)
  (hb:∀(a:Act) (w:World) (g:Nat) (K:List Res) (o:Obj),EnvR 19 [(5,.pointer (some ⟨g,0,none⟩)),(4,.pointer (some ⟨c,0,none⟩)),(3,.pointer (some ⟨b,0,none⟩))] [] a->Mem Ψ (.blk l o::.blk g (ob (z7y k) 274)::.blk b (ob [z] 268)::.gs z 274 4 (nB pre)::K) w ->
   r.body.wpIn (FO (some l)) 2 prog (fun e _ w=>e=.normal/\∃v,Mem Ψ (.blk l o::.blk b (ob [v] 268)::.gs v 274 4 (nB (pre++[k]))::K) w) a w)
  (J:EnvR 19 [(4,.pointer (some ⟨c,0,none⟩)),(3,.pointer (some ⟨b,0,none⟩))] [] ⟨r.tmps,[]⟩) (N:Mem Ψ (j++scanKY K l Dk b c r pre z) w) :
  YieldAt Fence.wide 2 prog l #[y5e k] w (fun e w'=>e=.returned (.bool true)/\∃z',Mem Ψ (j++scanKY K l Dk b c r (pre++[k]) z') w'):=by
 have f:Mem Ψ (scanKY K l Dk b c r pre z++j) w:=N.perm List.perm_append_comm
 replace f:Mem Ψ (.blk l (.loop r)::.blk b (ob [z] 268)::.gs z 274 4 (nB pre)::.blk Dk (.deferred (some []))::.blk c (ob [.int .i64 ((0:Nat):Int),.int .i64 ((0:Nat):Int)] 270)::(K++j)) w :=
  (((f.pull (i:=4) rfl).pull (i:=4) rfl).pull (i:=2) rfl)
 have hl:w.heap[l]? = some (.loop r):=f.own _ msQ
 refine ⟨r.fn,r.tmps.setIfInBounds 11 (y5e k),r.assign,r.body,?_,?_⟩
 ·rw [run_yield hl (by rw [m];rfl),m,zip1];simp
 ·have p:EnvR 19 [(11,y5e k),(4,.pointer (some ⟨c,0,none⟩)),(3,.pointer (some ⟨b,0,none⟩))] [] ⟨r.tmps.setIfInBounds 11 (y5e k),[]⟩:=J.put (d:=11) rfl
  have h:=q6x (P:=prog) (E1:=fun g=>[(5,.pointer (some ⟨g,0,none⟩)),(4,.pointer (some ⟨c,0,none⟩)),(3,.pointer (some ⟨b,0,none⟩))])
   (KO:=fun v=>.blk b (ob [v] 268)::.gs v 274 4 (nB (pre++[k]))::.blk Dk (.deferred (some []))::.blk c (ob [.int .i64 ((0:Nat):Int),.int .i64 ((0:Nat):Int)] 270)::(K++j)) f s q p
   (fun a J=>B a w _ J f) (fun g a w J N=>hb a w g _ _ J N)
  refine h.mono fun e w' C=>?_
  obtain ⟨h1,v,y⟩:=C
  refine ⟨h1,v,?_⟩
  have A:Mem Ψ (scanKY K l Dk b c r (pre++[k]) v++j) w':=(((y.pull (i:=4) rfl).pull (i:=4) rfl).pull (i:=2) rfl)
  exact A.perm List.perm_append_comm
set_option maxRecDepth 20000 in
set_option maxHeartbeats 4000000 in
theorem j1r {V:Fz} {K:List Res} {w:World} {t:Bs} (G:Glob V) (Y:t.size<=800000) (N:Mem V K w) :
  Calls prog 208 #[.string t] w (fun ee w'=>Out (nX t)
   (fun l=>∃y:Nat×Value,ee=.returned (.tuple #[.pointer (some ⟨y.1,0,none⟩),y.2,.agg #[.int .i64 ((0:Nat):Int),.int .i64 ((0:Nat):Int)]])/\Mem V (.gs y.2 274 4 (nB l)::K) w')
   (fun c=>∃y:Nat,ee=.returned (.tuple #[.pointer (some ⟨y,0,none⟩),.slice none 0 0,.agg (dW c).toArray])/\Mem V K w')):=by
 refine enterX func208 rfl ntmps208 rfl (fun Q Z a J=>?_)
 refine sq fun L1 F=>?_
 refine wp_region_lit ?_
 refine jN J (dL J rfl) rfl fun a J=>?_
 refine st J rfl rfl rfl (wA (cs:=[.slice none 0 0]) N zeroValue268 rfl fun g w N a J=>?_)
 refine st J rfl rfl rfl (wA (cs:=[.int .i64 ((0:Nat):Int),.int .i64 ((0:Nat):Int)]) N zeroValue270 rfl fun m w N a J=>?_)
 refine wpList_nil ?_
 apply F
 refine sq fun L2 H=>?_
 refine wp_region_lit ?_
 refine jN J (xX J rfl) rfl fun a J=>?_
 refine st J rfl rfl rfl (z2i J rfl call220 (y7b N) (fun y w _ N a J=>?_))
 obtain ⟨b,mb⟩:=y
 simp only at N J
 refine jN J (dL J rfl) rfl fun a J=>?_
 refine wpList_nil ?_
 apply H
 obtain ⟨Ψ,le,N,A⟩:=N.freezeMap (i:=1) rfl
 replace N:Mem Ψ (.blk b (ob [.string t,.int .i64 ((0:Nat):Int),.map (some mb),.slice none 0 0] 301)::.blk m (ob [.int .i64 ((0:Nat):Int),.int .i64 ((0:Nat):Int)] 270)::.blk g (ob [.slice none 0 0] 268)::K) w:=N
 refine sq fun L3 I=>?_
 refine wp_region_lit ?_
 refine jN J (uT (vfs:=[]) (vcs:=[.pointer (some ⟨g,0,none⟩),.pointer (some ⟨m,0,none⟩)]) J rfl rfl) rfl fun a J=>?_
 refine z1q (fs:=[]) (cs:=[.pointer (some ⟨g,0,none⟩),.pointer (some ⟨m,0,none⟩)]) (vs:=[]) J rfl rfl fun a J=>?_
 refine wpList_nil ?_
 apply I
 refine sq fun L4 L=>?_
 refine sq fun L5 M=>?_
 refine wp_region_lit ?_
 refine jN J (xX J rfl) rfl fun a J=>?_
 refine st J rfl rfl rfl (z2i J rfl call222 (j8g N) (fun bx w _ N a J=>?_))
 refine wpList_nil ?_
 apply M
 refine wp_block ?_
 refine q8b (P:=prog) (β:=List Tok×Value) (δ:=List Tok×Value) (gf:=231) (fs:=[]) (cs:=[.pointer (some ⟨bx,0,none⟩)]) (F1:=fun _=>Ψ)
  (KO:=fun y=>.blk m (ob [.int .i64 ((0:Nat):Int),.int .i64 ((0:Nat):Int)] 270)::.blk g (ob [y.2] 268)::.gs y.2 274 4 (nB y.1)::K)
  (KE:=fun y=>.blk m (ob [.int .i64 ((0:Nat):Int),.int .i64 ((0:Nat):Int)] 270)::.blk g (ob [y.2] 268)::.gs y.2 274 4 (nB y.1)::K)
  (G:=fun y=>nX t=.ok y.1) (B:=fun _ c=>∃e,nX t=.error e/\c=sQ e) J N rfl call231 ?_ ?_ ?_
 ·intro Dk l r w W has S X U T N
  have p:=N.nilRow 274 4
  replace p:Mem Ψ (.blk bx (ob [.pointer (some ⟨b,0,none⟩)] 267)::.blk b (ob [.string t,.int .i64 ((0:Nat):Int),.map (some mb),.slice none 0 0] 301)::scanKY K l Dk g m r [] (.slice none 0 0)) w :=
   ((((((p.pull (i:=6) rfl).pull (i:=6) rfl).pull (i:=4) rfl).pull (i:=4) rfl).pull (i:=6) rfl).pull (i:=6) rfl)
  have h:=j1w (l:=l) (KY:=scanKY K l Dk g m r) (G.mono le) A Y (fun pre z K0 k w s N=>?_) p
  ·refine h.mono fun e w' C=>?_
   cases hT:nX t with
   | ok rr=>
    rw [hT] at C
    obtain ⟨z,rfl,d⟩:=C
    exact .inl ⟨_,(rr,z),rfl,rfl,d⟩
   | error c=>
    rw [hT] at C
    obtain ⟨y,rfl,d⟩:=C
    exact .inr ⟨_,y,rfl,⟨c,rfl,rfl⟩,d.tail⟩
  ·refine j1q (n:=t.size) s Y W X U (fun a w K J N=>?_) (fun a w D K o J N=>?_) (T.of_sub ⟨rfl,rfl,trivial⟩) N
   ·rw [has]
    refine wpIn_region_lit ?_
    refine j3k J rfl rfl rfl (by intro c h;cases h) (wA (cs:=[.int .i64 ((0:Nat):Int),.int .i64 ((0:Nat):Int),.string ⟨#[]⟩,.int .i64 ((0:Nat):Int)]) N zeroValue274 rfl fun D w N a J=>?_)
    refine in_st0 J rfl rfl (by intro c h;cases h) (jE 0 (cs:=[.int .i64 ((0:Nat):Int),.int .i64 ((0:Nat):Int),.string ⟨#[]⟩,.int .i64 ((0:Nat):Int)]) (vs:=z7y k) J N rfl rfl rfl rfl sizeOf274 rfl rfl rfl fun w N a J=>?_)
    refine wpListIn_nil ?_
    exact ⟨D,J.of_sub ⟨rfl,rfl,rfl,trivial⟩,N.pull (i:=1) rfl⟩
   ·rw [S]
    refine wpIn_block ?_
    refine wpIn_region_lit ?_
    refine mZ J (by intro c h;cases h) (wY 2 J N.toSees rfl rfl rfl isAgg268) rfl fun a J=>?_
    refine mZ J (by intro c h;cases h) (qU 1 (vs:=z7y k) J N.toSees rfl rfl isAgg274 sizeOf274 rfl rfl) rfl fun a J=>?_
    refine j3k J rfl rfl rfl (by intro c h;cases h) (mQ (sz:=4) (cs:=z7y k) J N rfl (y0p runUnderlying268 sizeOf274 zeroValue274 rfl (by decide) rfl) rfl (by decide) fun v w N _ a J=>?_)
    refine j3k J rfl rfl rfl (by intro c h;cases h) (z3q 4 (xs:=nB pre) (news:=z7y k) rt_268 J N rfl rfl rfl (N.toSees.rowIn (i:=0) rfl) rfl (by rw [q0j];simp only [z7y,lcQ,lnQ];omega) fun v2 w N a J=>?_)
    replace N:Mem Ψ (.gs v 274 4 (z7y k)::.blk l o::.blk D (ob (z7y k) 274)::.blk g (ob [z] 268)::.gs v2 274 4 (nB (pre++[k]))::K) w:=by rw [j1x];exact N
    refine in_st0 J rfl rfl (by intro c h;cases h) (jE 3 (cs:=[z]) (vs:=[v2]) J N rfl rfl rfl (N.toSees.gsCells (i:=4) rfl) sizeOf268 rfl (N.toSees.gsOne (i:=4) rfl) rfl fun w N a J=>?_)
    refine wpListIn_nil ?_
    exact ⟨rfl,v2,(N.del 0).del 1⟩
 ·intro Dk y a w hG J N
  apply L
  refine sq fun L6 R=>?_
  refine dH [1,2,2,1,0,0] (.q 0 (.q 1 (.q 2 (.q 3 (.e 4 (.e 5 .done)))))) [.blk m (ob [.int .i64 ((0:Nat):Int),.int .i64 ((0:Nat):Int)] 270),.blk g (ob [y.2] 268)] J N mixed (by kernel_rfl) (by simp) fun w N=>?_
  refine y1v J rfl rfl (fun w=>xX J rfl) rfl fun a J=>?_
  refine d_q J rfl rfl (fun w O=>wY 1 J O rfl rfl rfl isAgg268) rfl fun a J=>?_
  refine d_q J rfl rfl (fun w O=>qU 0 (vs:=[.int .i64 ((0:Nat):Int),.int .i64 ((0:Nat):Int)]) J O rfl rfl isAgg270 sizeOf270 rfl rfl) rfl fun a J=>?_
  refine y1v J rfl rfl (fun w=>dL J rfl) rfl fun a J=>?_
  refine y6r J rfl rfl (jE 2 (cs:=[y.2]) (vs:=[y.2]) J N rfl rfl rfl (N.toSees.gsCells (i:=3) rfl) sizeOf268 rfl (N.toSees.gsOne (i:=3) rfl) rfl fun w N=>⟨fun _=>(show Mem Ψ (.blk Dk (.deferred (some []))::.blk m (ob [.int .i64 ((0:Nat):Int),.int .i64 ((0:Nat):Int)] 270)::.blk g (ob [y.2] 268)::.gs y.2 274 4 (nB y.1)::K) w from N).seesIn (Fz.Le.refl _) (by simp),fun a J=>?_⟩)
  replace N:Mem Ψ (.blk Dk (.deferred (some []))::.blk m (ob [.int .i64 ((0:Nat):Int),.int .i64 ((0:Nat):Int)] 270)::.blk g (ob [y.2] 268)::.gs y.2 274 4 (nB y.1)::K) w:=N
  refine y6r J rfl rfl (jE 1 (cs:=[.int .i64 ((0:Nat):Int),.int .i64 ((0:Nat):Int)]) (vs:=[.int .i64 ((0:Nat):Int),.int .i64 ((0:Nat):Int)]) J N rfl rfl rfl rfl sizeOf270 rfl rfl rfl fun w N=>⟨dG (by kernel_rfl),fun a J=>?_⟩)
  replace N:Mem Ψ (.blk Dk (.deferred (some []))::.blk m (ob [.int .i64 ((0:Nat):Int),.int .i64 ((0:Nat):Int)] 270)::.blk g (ob [y.2] 268)::.gs y.2 274 4 (nB y.1)::K) w:=N
  refine q1k ?_
  apply R
  refine wp_ret ?_
  refine Z _ _ _ ?_
  show gD _ _ _ _ a.defers _ _
  rw [J.defs]
  have E:w.heap[Dk]? = some (.deferred (some [])):=N.own _ msQ
  have d:=N.putObj (i:=0) (o':=.deferred none) rfl
  refine gJ (by simp) E (tX ?_)
  refine leaves_cons (f:=221) (args:=#[.pointer (some ⟨g,0,none⟩),.pointer (some ⟨m,0,none⟩)]) (by simp) (call221 _ _) ?_
  refine catch_none.mono ?_
  rintro e u' w'' ⟨rfl,rfl,rfl⟩
  refine ⟨_,q6u (i:=2) (j:=1) J d.toSees results208 rfl rfl rfl isAgg268 rfl rfl isAgg270 sizeOf270 rfl,?_⟩
  rw [hG]
  exact ⟨(b,y.2),rfl,(((d.del 0).del 0).del 0).le le⟩
 ·intro Dk y c a w hB J N
  obtain ⟨e,hE,rfl⟩:=hB
  refine Z _ _ _ ?_
  show gD _ _ _ _ a.defers _ _
  rw [J.defs]
  have E:w.heap[Dk]? = some (.deferred (some [])):=N.own _ msQ
  have d:=(N.putObj (i:=0) (o':=.deferred none) rfl).pull (i:=2) rfl
  replace d:Mem Ψ (.blk g (ob [y.2] 268)::.blk m (ob [.int .i64 ((0:Nat):Int),.int .i64 ((0:Nat):Int)] 270)::.blk Dk (.deferred none)::.gs y.2 274 4 (nB y.1)::K) (w.putObj Dk (.deferred none)):=d.pull (i:=2) rfl |>.pull (i:=1) rfl
  refine gJ (by simp) E (tX ?_)
  refine leaves_cons (f:=221) (args:=#[.pointer (some ⟨g,0,none⟩),.pointer (some ⟨m,0,none⟩)]) (by simp) (call221 _ _) ?_
  refine (q4c d).mono ?_
  rintro e' u' w'' ⟨rfl,rfl,u⟩
  refine ⟨_,q6u (i:=0) (j:=1) J u.toSees results208 rfl rfl rfl isAgg268 rfl rfl isAgg270 sizeOf270 rfl,?_⟩
  rw [hE]
  exact ⟨b,rfl,((((u.del 0).del 0).del 0).del 0).le le⟩
def RTok (_:Fz) (cs:List Value) (x:Tok):Prop:=cs=[.int .i64 x.kind,.int .i64 x.num,.string x.text,.int .i64 ((x.org:Nat):Int)]
theorem RTok.mono (V Ψ:Fz) (c:List Value) (x:Tok) (_:V.Le Ψ) (h:RTok V c x):RTok Ψ c x:=h
theorem y5f {V:Fz}:∀l:List Tok,Chunks (RTok V) 4 (nB l) l
 | []=>rfl
 | k::l=>⟨z7y k,nB l,rfl,rfl,rfl,y5f l⟩
section
variable {s:Bs} {l:List Tok} {c:Nat×Int} {x:Tok}
theorem j6q (h:24 < s.size):kS s=0:=by unfold kS;rw [if_pos h]
theorem q5m (h:¬24 < s.size) (hq:nX s=.error c):kS s=0:=by unfold kS;rw [if_neg h,hq]
theorem kind_ne (h:¬24 < s.size) (hq:nX s=.ok l) (hl:¬l.length=1):kS s=0:=by
 unfold kS;rw [if_neg h,hq]
 match l,hl with
 | [],_=>rfl
 | [k],hl=>exact absurd rfl hl
 | _::_::_,_=>rfl
theorem q5o (hl:l.length=1) (a:l[0]? = some x):l=[x]:=by
 match l,hl,a with
 | [k],_,a=>simp only [List.getElem?_cons_zero,Option.some.injEq] at a;rw [a]
theorem kind_no (h:¬24 < s.size) (hq:nX s=.ok l) (hl:l.length=1) (b:l[0]? = some x) (a:¬x.text=s):kS s=0:=by
 unfold kS;rw [if_neg h,hq,q5o hl b];simp [a]
theorem kind_ok (h:¬24 < s.size) (hq:nX s=.ok l) (hl:l.length=1) (b:l[0]? = some x) (a:x.text=s):kS s=x.kind:=by
 unfold kS;rw [if_neg h,hq,q5o hl b];simp [a]
end
end Go.Sw

namespace Go.Sw
open Go.Proofs.Tryz
open Go.Proofs
set_option maxRecDepth 20000
set_option maxHeartbeats 4000000
variable {V:Fz} {K:List Res} {w:World}
theorem q5l {s:Bs} (G:Glob V) (N:Mem V K w):Calls prog 185 #[.string s] w (fun ee w'=>ee=.returned (.int .i64 (kS s))/\Mem V K w'):=by
 refine zM func185 ntmps185 fun Q n a J=>?_
 refine go J N fun a J=>?_
 by_cases m:24 < s.size
 refine zD n J N ?_
 rw [j6q m];exact ⟨rfl,N⟩
 refine go J N fun a J=>?_
 refine st J rfl rfl rfl (j5u J rfl call208 (j1r G (by omega) N) (fun p L w c N a J=>?_) (fun p L w c N a J=>?_))
 replace N:=N.nf
 obtain ⟨W,X⟩:=L
 simp only at N J
 have h:=N
 clear N
 obtain ⟨y,e,N,f⟩:=h.freezeRow (i:=0) rfl
 clear h
 replace N:=N.nf
 have b:SliceOf RTok y 4 _ (p):=⟨_,f,y5f p⟩
 obtain ⟨T,R,z,I,r⟩:=b.form (by decide)
 have j:=N
 clear N
 subst z
 have N:=j
 clear j
 refine Alc J N fun M w N a J=>?_
 refine Sto 0 J N fun w N a J=>?_
 refine Qq J N (fun a J=>?_) (o:=by exact fun _ _ _ J O=>cV false J rfl rfl rfl)
 refine go J N fun a J=>?_
 by_cases l:(p).length=1
 refine go J N fun a J=>?_
 have g:0 < (p).length:=by omega
 obtain ⟨U,rfl,v,d,B,F,D,t⟩:=b.el r g
 obtain rfl:=id t
 refine go J N fun a J=>?_
 by_cases q:v.text=s
 refine go J N fun a J=>?_
 obtain ⟨A,k⟩:=qX g
 obtain ⟨C,H,E,u⟩:=b.elem k
 obtain rfl:=id u
 refine go J N fun a J=>?_
 replace N:=N.le (e)
 replace N:=N.dl [0]
 refine zD n J N ?_
 rw [kind_ok m c l d q,show v=A from Option.some.inj (d.symm.trans k)];exact ⟨rfl,N⟩
 refine go J N fun a J=>?_
 replace N:=N.le (e)
 replace N:=N.dl [0]
 refine zD n J N ?_
 rw [kind_no m c l d q];exact ⟨rfl,N⟩
 refine go J N fun a J=>?_
 replace N:=N.le (e)
 replace N:=N.dl [0]
 refine zD n J N ?_
 rw [kind_ne m c l];exact ⟨rfl,N⟩
 replace N:=N.nf
 refine Alc J N fun P w N a J=>?_
 refine Sto 0 J N fun w N a J=>?_
 refine go J N fun a J=>?_
 by_cases S:p.2=0
 refine Qq J N (fun a J=>?_) (o:=by exact fun _ _ _ J O=>cV true J rfl rfl rfl)
 refine go J N fun a J=>?_
 replace N:=N.dl [0]
 refine zD n J N ?_
 rw [q5m m c];exact ⟨rfl,N⟩
 refine go J N fun a J=>?_
 replace N:=N.dl [0]
 refine zD n J N ?_
 rw [q5m m c];exact ⟨rfl,N⟩
theorem q9u {s:Bs} (G:Glob V) (N:Mem V K w):Calls prog 138 #[.string s] w (fun ee w'=>ee=.returned (.bool (qE s))/\Mem V K w'):=by
 refine zM func138 ntmps138 fun Q b a J=>?_
 refine zS call185 J N (fun w N a J=>?_) (c:=q5l G N)
 refine Qq J N (fun a J=>?_) (o:=by exact fun _ _ _ J O=>aP J rfl rfl)
 refine zD b J N ?_
 exact ⟨rfl,N⟩
theorem j6k {s:Bs} (G:Glob V) (N:Mem V K w):Calls prog 178 #[.string s] w (fun ee w'=>ee=.returned (.bool (qC s))/\Mem V K w'):=by
 refine zM func178 ntmps178 fun Q b a J=>?_
 refine zS call185 J N (fun w N a J=>?_) (c:=q5l G N)
 refine Qq J N (fun a J=>?_) (o:=by exact fun _ _ _ J O=>aP J rfl rfl)
 refine zD b J N ?_
 exact ⟨rfl,N⟩
end Go.Sw

namespace Go.Sw
open Go.Proofs
theorem tB {V:Fz} {K:List Res} {w:World} {s:Bs} (G:Glob V) (N:Mem V K w):Calls Tryz.prog 138 #[.string s] w (fun ee w'=>ee=.returned (.bool (qE s))/\Mem V K w'):=q9u G N
theorem mA {V:Fz} {K:List Res} {w:World} {s:Bs} (G:Glob V) (N:Mem V K w):Calls Tryz.prog 178 #[.string s] w (fun ee w'=>ee=.returned (.bool (qC s))/\Mem V K w'):=j6k G N
end Go.Sw

namespace Go.Sw
open Go.Proofs.Tryz
open Go.Proofs
set_option maxRecDepth 20000
set_option maxHeartbeats 4000000
theorem j9d {V:Fz} {K:List Res} {w:World} {v0:Value} {l:List Bs} (m:SliceOf RStr V 1 v0 l) (G:Glob V) (N:Mem V K w) :
  Calls prog 84 #[v0] w (fun ee w'=>ee=.returned (.bool (pH qE [] l))/\Mem V K w'):=by
 obtain ⟨E,c0,rfl,A,r⟩:=m.fm
 refine zM func84 ntmps84 fun Q p a J=>?_
 refine MkM J N fun z w N a J=>?_
 refine go J N fun a J=>?_
 refine zV (J.ks [3,7,8]) N (fun R mm a w=>∃(i:Nat) (ds:List Bs),mm=l.length - i/\R V [(9,.int .i64 ((i:Nat):Int))] [(0,.mp z (jD ds))] a w/\(pH qE [] l=pH qE ds (l.drop i))) (l.length - 0) ⟨0,[],rfl,⟨J.pk,N⟩,rfl⟩ ?_
 clear N J
 rintro mm a w ⟨i,ds,q,⟨J,N⟩,g⟩ D n
 replace N:=N.nf
 refine go J N fun a J=>?_
 by_cases s:i < l.length
 refine go J N fun a J=>?_
 obtain ⟨C,rfl,f,e,h,u,t,k⟩:=m.el r s
 obtain rfl:h=[.string f]:=k
 refine zW call138 J N (fun j w N a J=>?_) (fun j w N a J=>?_) (c:=tB G N)
 refine go J N fun a J=>?_
 rcases d:yO ((jD ds)) f with _ | y
 have b:=congrArg (zK false (.bool false)) d
 refine Qq J N (fun a J=>?_) (o:=by exact fun _ _ _ J O=>Ok.cast (qF 0 runUnderlying121 runUnderlying9 zeroValue4 J O rfl rfl rfl) (show zK false (.bool false) (yO ((jD ds)) f)=.bool false from b))
 refine z4h 0 runUnderlying121 runUnderlying9 J N fun w N a J=>?_
 rw [<- uK] at N
 refine go J N fun a J=>?_
 refine n _ _ _ (by subst q;omega) ⟨(i+1),(ds++[f]),rfl,⟨J.pk,N⟩,?_⟩
 rw [g,zA e];have B:=z5w d;simp [pH, *]
 obtain ⟨rfl,v⟩:=z5x d
 have b:=congrArg (zK false (.bool false)) d
 refine Qq J N (fun a J=>?_) (o:=by exact fun _ _ _ J O=>Ok.cast (qF 0 runUnderlying121 runUnderlying9 zeroValue4 J O rfl rfl rfl) (show zK false (.bool false) (yO ((jD ds)) f)=.bool true from b))
 refine go J N fun a J=>?_
 replace N:=N.dl [0]
 refine zD p J N ?_
 exact zL N (by rw [g,zA e];simp [pH, *])
 refine go J N fun a J=>?_
 replace N:=N.dl [0]
 refine zD p J N ?_
 exact zL N (by rw [g,zA e];simp [pH, *])
 refine go J N fun a J=>?_
 replace N:=N.dl [0]
 refine zD p J N ?_
 exact zL N (by rw [g,zE s];rfl)
end Go.Sw

namespace Go.Sw
open Go.Proofs.Tryz
open Go.Proofs
set_option maxRecDepth 20000
set_option maxHeartbeats 4000000
variable {V:Fz} {K:List Res} {w:World}
theorem q2k {b:Nat} {m:List (Bs×Value)} {l:List (Bs×Data)} {name:Bs} {d2:List Value} {x:Data} (g:MapRel (RVa RData V) m l) (k:RData V d2 x) (N:Mem V (.mp b m::K) w) :
  Calls prog 190 #[.map (some b),.string name,.agg d2.toArray] w (fun ee w'=>ee=.returned (.bool ((zN l name).isNone))/\Mem V (.mp b (vG m name (.agg d2.toArray))::K) w'):=by
 obtain ⟨s1,rfl,v⟩:=id k
 obtain ⟨C,c4,rfl,y,z⟩:=v.fm
 refine zM func190 ntmps190 fun Q p a J=>?_
 refine Bx J N fun B w N a J=>?_
 refine go J N fun a J=>?_
 rcases c:yO (m) name with _ | s
 have d:=congrArg (zK true (.agg #[.string ⟨#[]⟩,.slice none 0 0])) c
 refine Qq J N (fun a J=>?_) (o:=by exact fun _ _ _ J O=>Ok.cast (qF 1 runUnderlying101 runUnderlying9 zeroValue133 J O rfl rfl rfl) (show zK true (.agg #[.string ⟨#[]⟩,.slice none 0 0]) (yO (m) name)=.tuple #[.agg #[.string ⟨#[]⟩,.slice none 0 0],.bool false] from d))
 refine Alc J N fun t w N a J=>?_
 refine Sto 0 J N fun w N a J=>?_
 refine z4h 2 runUnderlying101 runUnderlying9 J N fun w N a J=>?_
 refine go J N fun a J=>?_
 replace N:=N.dl [1,0]
 refine zD p J N ?_
 refine ⟨?_,?_⟩
 rw [g.none c];rfl
 simp only [vG,c];exact N
 obtain ⟨h,f,n,rfl,e⟩:=g.get c
 obtain ⟨A,rfl,i⟩:=id e
 obtain ⟨j,c24,rfl,q,r⟩:=i.fm
 have d:=congrArg (zK true (.agg #[.string ⟨#[]⟩,.slice none 0 0])) c
 refine Qq J N (fun a J=>?_) (o:=by exact fun _ _ _ J O=>Ok.cast (qF 1 runUnderlying101 runUnderlying9 zeroValue133 J O rfl rfl rfl) (show zK true (.agg #[.string ⟨#[]⟩,.slice none 0 0]) (yO (m) name)=.tuple #[.agg #[.string h.name,.slice j h.cons.length c24],.bool true] from d))
 refine Alc J N fun u w N a J=>?_
 refine Sto 0 J N fun w N a J=>?_
 refine go J N fun a J=>?_
 replace N:=N.dl [1,0]
 refine zD p J N ?_
 refine ⟨?_,?_⟩
 rw [f];rfl
 simp only [vG,c];exact N
theorem pF {b:Nat} {m:List (Bs×Value)} {l:List (Bs×Maker)} {name:Bs} {d2:List Value} {x:Maker} (h:MapRel (RVa RMaker V) m l) (p:RMaker V d2 x) (N:Mem V (.mp b m::K) w) :
  Calls prog 191 #[.map (some b),.string name,.agg d2.toArray] w (fun ee w'=>ee=.returned (.bool ((zN l name).isNone))/\Mem V (.mp b (vG m name (.agg d2.toArray))::K) w'):=by
 obtain ⟨G,rfl,B⟩:=id p
 obtain ⟨s3,rfl,C⟩:=id B
 obtain ⟨I,H,rfl,D,E⟩:=C.fm
 refine zM func191 ntmps191 fun Q r a J=>?_
 refine Bx J N fun v w N a J=>?_
 refine go J N fun a J=>?_
 rcases c:yO (m) name with _ | u
 have d:=congrArg (zK true (.agg #[.string ⟨#[]⟩,.string ⟨#[]⟩,.slice none 0 0])) c
 refine Qq J N (fun a J=>?_) (o:=by exact fun _ _ _ J O=>Ok.cast (qF 1 runUnderlying102 runUnderlying9 zeroValue190 J O rfl rfl rfl) (show zK true (.agg #[.string ⟨#[]⟩,.string ⟨#[]⟩,.slice none 0 0]) (yO (m) name)=.tuple #[.agg #[.string ⟨#[]⟩,.string ⟨#[]⟩,.slice none 0 0],.bool false] from d))
 refine Alc J N fun y w N a J=>?_
 refine Sto 0 J N fun w N a J=>?_
 refine z4h 2 runUnderlying102 runUnderlying9 J N fun w N a J=>?_
 refine go J N fun a J=>?_
 replace N:=N.dl [1,0]
 refine zD r J N ?_
 refine ⟨?_,?_⟩
 rw [h.none c];rfl
 simp only [vG,c];exact N
 obtain ⟨e,g,q,rfl,f⟩:=h.get c
 obtain ⟨z,rfl,j⟩:=id f
 obtain ⟨F,rfl,k⟩:=id j
 obtain ⟨n,i,rfl,s,t⟩:=k.fm
 have d:=congrArg (zK true (.agg #[.string ⟨#[]⟩,.string ⟨#[]⟩,.slice none 0 0])) c
 refine Qq J N (fun a J=>?_) (o:=by exact fun _ _ _ J O=>Ok.cast (qF 1 runUnderlying102 runUnderlying9 zeroValue190 J O rfl rfl rfl) (show zK true (.agg #[.string ⟨#[]⟩,.string ⟨#[]⟩,.slice none 0 0]) (yO (m) name)=.tuple #[.agg #[.string e.data,.string e.con.name,.slice n e.con.fields.length i],.bool true] from d))
 refine Alc J N fun A w N a J=>?_
 refine Sto 0 J N fun w N a J=>?_
 refine go J N fun a J=>?_
 replace N:=N.dl [1,0]
 refine zD r J N ?_
 refine ⟨?_,?_⟩
 rw [g];rfl
 simp only [vG,c];exact N
theorem q6c {b:Nat} {m:List (Bs×Value)} {l:List (Bs×Fun)} {name:Bs} {d2:List Value} {x:Fun} (h:MapRel (RVa RFun V) m l) (s:RFun V d2 x) (N:Mem V (.mp b m::K) w) :
  Calls prog 192 #[.map (some b),.string name,.agg d2.toArray] w (fun ee w'=>ee=.returned (.bool ((zN l name).isNone))/\Mem V (.mp b (vG m name (.agg d2.toArray))::K) w'):=by
 obtain ⟨s1,b7,rfl,Y,h8⟩:=id s
 obtain ⟨p3,c4,rfl,c0,d0⟩:=Y.fm
 obtain ⟨e0,T,f0,U,rfl,v,W,X,z,E,A,F⟩:=REx.fm h8
 refine zM func192 ntmps192 fun Q u a J=>?_
 refine Bx J N fun M w N a J=>?_
 refine go J N fun a J=>?_
 rcases c:yO (m) name with _ | L
 have e:=congrArg (zK true (.agg #[.string ⟨#[]⟩,.slice none 0 0,.string ⟨#[]⟩,.int .i64 ((0:Nat):Int),.int .i64 ((0:Nat):Int),.string ⟨#[]⟩,.slice none 0 0,.slice none 0 0])) c
 refine Qq J N (fun a J=>?_) (o:=by exact fun _ _ _ J O=>Ok.cast (qF 1 runUnderlying103 runUnderlying9 zeroValue68 J O rfl rfl rfl) (show zK true (.agg #[.string ⟨#[]⟩,.slice none 0 0,.string ⟨#[]⟩,.int .i64 ((0:Nat):Int),.int .i64 ((0:Nat):Int),.string ⟨#[]⟩,.slice none 0 0,.slice none 0 0]) (yO (m) name)=.tuple #[.agg #[.string ⟨#[]⟩,.slice none 0 0,.string ⟨#[]⟩,.int .i64 ((0:Nat):Int),.int .i64 ((0:Nat):Int),.string ⟨#[]⟩,.slice none 0 0,.slice none 0 0],.bool false] from e))
 refine Alc J N fun P w N a J=>?_
 refine Sto 0 J N fun w N a J=>?_
 refine z4h 2 runUnderlying103 runUnderlying9 J N fun w N a J=>?_
 refine go J N fun a J=>?_
 replace N:=N.dl [1,0]
 refine zD u J N ?_
 refine ⟨?_,?_⟩
 rw [h.none c];rfl
 simp only [vG,c];exact N
 obtain ⟨d,g,t,rfl,f⟩:=h.get c
 obtain ⟨g0,R,rfl,k,n⟩:=id f
 obtain ⟨p,i,rfl,B,G⟩:=k.fm
 obtain ⟨q,j,r,c53,rfl,y,Z,a0,C,H,D,I⟩:=REx.fm n
 have e:=congrArg (zK true (.agg #[.string ⟨#[]⟩,.slice none 0 0,.string ⟨#[]⟩,.int .i64 ((0:Nat):Int),.int .i64 ((0:Nat):Int),.string ⟨#[]⟩,.slice none 0 0,.slice none 0 0])) c
 refine Qq J N (fun a J=>?_) (o:=by exact fun _ _ _ J O=>Ok.cast (qF 1 runUnderlying103 runUnderlying9 zeroValue68 J O rfl rfl rfl) (show zK true (.agg #[.string ⟨#[]⟩,.slice none 0 0,.string ⟨#[]⟩,.int .i64 ((0:Nat):Int),.int .i64 ((0:Nat):Int),.string ⟨#[]⟩,.slice none 0 0,.slice none 0 0]) (yO (m) name)=.tuple #[.agg #[.string d.name,.slice p d.params.length i,.string d.result,.int .i64 (d.body.kind),.int .i64 (d.body.num),.string d.body.name,.slice q d.body.args.length j,.slice r d.body.arms.length c53],.bool true] from e))
 refine Alc J N fun S w N a J=>?_
 refine Sto 0 J N fun w N a J=>?_
 refine go J N fun a J=>?_
 replace N:=N.dl [1,0]
 refine zD u J N ?_
 refine ⟨?_,?_⟩
 rw [g];rfl
 simp only [vG,c];exact N
theorem j0n {b:Nat} {m:List (Bs×Value)} {l:List (Bs×Bs)} {name:Bs} {x:Bs} (f:MapRel RVs m l) (N:Mem V (.mp b m::K) w) :
  Calls prog 193 #[.map (some b),.string name,.string x] w (fun ee w'=>ee=.returned (.bool ((zN l name).isNone))/\Mem V (.mp b (vG m name (.string x))::K) w'):=by
 refine zM func193 ntmps193 fun Q g a J=>?_
 refine go J N fun a J=>?_
 rcases c:yO (m) name with _ | h
 have d:=congrArg (zK true (.string ⟨#[]⟩)) c
 refine Qq J N (fun a J=>?_) (o:=by exact fun _ _ _ J O=>Ok.cast (qF 0 runUnderlying104 runUnderlying9 zeroValue9 J O rfl rfl rfl) (show zK true (.string ⟨#[]⟩) (yO (m) name)=.tuple #[.string ⟨#[]⟩,.bool false] from d))
 refine z4h 0 runUnderlying104 runUnderlying9 J N fun w N a J=>?_
 refine zD g J N ?_
 refine ⟨?_,?_⟩
 rw [f.none c];rfl
 simp only [vG,c];exact N
 obtain ⟨i,e,rfl⟩:=f.get c
 have d:=congrArg (zK true (.string ⟨#[]⟩)) c
 refine Qq J N (fun a J=>?_) (o:=by exact fun _ _ _ J O=>Ok.cast (qF 0 runUnderlying104 runUnderlying9 zeroValue9 J O rfl rfl rfl) (show zK true (.string ⟨#[]⟩) (yO (m) name)=.tuple #[.string i,.bool true] from d))
 refine zD g J N ?_
 refine ⟨?_,?_⟩
 rw [e];rfl
 simp only [vG,c];exact N
end Go.Sw

namespace Go.Sw
open Go.Proofs.Tryz
open Go.Proofs
set_option maxRecDepth 20000
set_option maxHeartbeats 4000000
theorem z2l {V:Fz} {K:List Res} {w:World} {P:Addr} {T:Table} {name:Bs} (n:RTable V P T) (N:Mem V K w) :
  Calls prog 80 #[.pointer (some P),.string name] w (fun ee w'=>ee=.returned (.bool (vD T name))/\Mem V K w'):=by
 obtain ⟨p,m1,m2,m3,m4,i,d6,d7,d8,k,l,d,g,e,F,I,G,L,H,M⟩:=n.ex
 obtain ⟨c0,c24,d0,W,e0,X,f0,c42,rfl,Y,Z,a0,b0,s,z,t,A,u,B,v,C⟩:=RCore.fm d
 refine zM func80 ntmps80 fun Q r a J=>?_
 refine go J N fun a J=>?_
 rcases c:yO (i) name with _ | R
 have b:=congrArg (zK true (.agg #[.string ⟨#[]⟩,.slice none 0 0])) c
 refine Qq J N (fun a J=>?_) (o:=by exact fun _ _ _ J O=>Ok.cast (zY runUnderlying101 runUnderlying9 zeroValue133 J O rfl rfl g) (show zK true (.agg #[.string ⟨#[]⟩,.slice none 0 0]) (yO (i) name)=.tuple #[.agg #[.string ⟨#[]⟩,.slice none 0 0],.bool false] from b))
 refine Alc J N fun S w N a J=>?_
 refine Sto 0 J N fun w N a J=>?_
 refine Qq J N (fun a J=>?_) (o:=by exact fun _ _ _ J O=>z6j J rfl rfl)
 refine go J N fun a J=>?_
 replace N:=N.dl [0]
 refine zD r J N ?_
 exact zL N (by have e_:=MapRel.none e c;simp [vD,yA, *] <;> rfl)
 obtain ⟨h,E,q,rfl,f⟩:=e.get c
 obtain ⟨g0,rfl,j⟩:=id f
 obtain ⟨m,c58,rfl,y,D⟩:=j.fm
 have b:=congrArg (zK true (.agg #[.string ⟨#[]⟩,.slice none 0 0])) c
 refine Qq J N (fun a J=>?_) (o:=by exact fun _ _ _ J O=>Ok.cast (zY runUnderlying101 runUnderlying9 zeroValue133 J O rfl rfl g) (show zK true (.agg #[.string ⟨#[]⟩,.slice none 0 0]) (yO (i) name)=.tuple #[.agg #[.string h.name,.slice m h.cons.length c58],.bool true] from b))
 refine Alc J N fun U w N a J=>?_
 refine Sto 0 J N fun w N a J=>?_
 refine go J N fun a J=>?_
 replace N:=N.dl [0]
 refine zD r J N ?_
 exact zL N (by simp [vD,yA, *] <;> rfl)
theorem oT {V:Fz} {K:List Res} {w:World} {d0:List Value} {e:Ex} {nm:Bool} {sn:Bool} {ar:Int} {rm:Int} (c:REx V d0 e) (N:Mem V K w) :
  Calls prog 186 #[.agg d0.toArray,.bool nm,.bool sn,.int .i64 ar,.int .i64 rm] w (fun ee w'=>ee=.returned (.bool (qD e nm sn ar rm))/\Mem V K w'):=by
 obtain ⟨L,c4,M,i,rfl,d,H,I,F,G,f,g⟩:=REx.fm c
 refine zM func186 ntmps186 fun Q b a J=>?_
 refine Bx J N fun h w N a J=>?_
 refine go J N fun a J=>?_
 cases nm
 refine go J N fun a J=>?_
 by_cases j:e.num=0
 refine go J N fun a J=>?_
 cases sn
 refine go J N fun a J=>?_
 by_cases k:e.name=(⟨#[]⟩:Bs)
 refine go J N fun a J=>?_
 by_cases l:ar < 0
 refine go J N fun a J=>?_
 by_cases m:rm < 0
 refine go J N fun a J=>?_
 replace N:=N.dl [0]
 refine zD b J N ?_
 exact zL N (by simp [qD, *] <;> omega)
 refine Qq J N (fun a J=>?_) (o:=by exact fun _ _ _ J O=>aP J rfl rfl)
 refine go J N fun a J=>?_
 replace N:=N.dl [0]
 refine zD b J N ?_
 exact zL N (by simp [qD, *] <;> omega)
 refine go J N fun a J=>?_
 by_cases n:((e.args.length:Nat):Int)=ar
 refine go J N fun a J=>?_
 by_cases p:rm < 0
 refine go J N fun a J=>?_
 replace N:=N.dl [0]
 refine zD b J N ?_
 exact zL N (by simp [qD, *] <;> omega)
 refine Qq J N (fun a J=>?_) (o:=by exact fun _ _ _ J O=>aP J rfl rfl)
 refine go J N fun a J=>?_
 replace N:=N.dl [0]
 refine zD b J N ?_
 exact zL N (by simp [qD, *] <;> omega)
 refine go J N fun a J=>?_
 replace N:=N.dl [0]
 refine zD b J N ?_
 exact zL N (by simp [qD, *] <;> omega)
 refine go J N fun a J=>?_
 replace N:=N.dl [0]
 refine zD b J N ?_
 exact zL N (by simp [qD, *] <;> omega)
 refine go J N fun a J=>?_
 by_cases q:ar < 0
 refine go J N fun a J=>?_
 by_cases r:rm < 0
 refine go J N fun a J=>?_
 replace N:=N.dl [0]
 refine zD b J N ?_
 exact zL N (by simp [qD, *] <;> omega)
 refine Qq J N (fun a J=>?_) (o:=by exact fun _ _ _ J O=>aP J rfl rfl)
 refine go J N fun a J=>?_
 replace N:=N.dl [0]
 refine zD b J N ?_
 exact zL N (by simp [qD, *] <;> omega)
 refine go J N fun a J=>?_
 by_cases s:((e.args.length:Nat):Int)=ar
 refine go J N fun a J=>?_
 by_cases t:rm < 0
 refine go J N fun a J=>?_
 replace N:=N.dl [0]
 refine zD b J N ?_
 exact zL N (by simp [qD, *] <;> omega)
 refine Qq J N (fun a J=>?_) (o:=by exact fun _ _ _ J O=>aP J rfl rfl)
 refine go J N fun a J=>?_
 replace N:=N.dl [0]
 refine zD b J N ?_
 exact zL N (by simp [qD, *] <;> omega)
 refine go J N fun a J=>?_
 replace N:=N.dl [0]
 refine zD b J N ?_
 exact zL N (by simp [qD, *] <;> omega)
 refine go J N fun a J=>?_
 replace N:=N.dl [0]
 refine zD b J N ?_
 exact zL N (by simp [qD, *] <;> omega)
 refine go J N fun a J=>?_
 cases sn
 refine go J N fun a J=>?_
 by_cases u:e.name=(⟨#[]⟩:Bs)
 refine go J N fun a J=>?_
 by_cases v:ar < 0
 refine go J N fun a J=>?_
 by_cases y:rm < 0
 refine go J N fun a J=>?_
 replace N:=N.dl [0]
 refine zD b J N ?_
 exact zL N (by simp [qD, *] <;> omega)
 refine Qq J N (fun a J=>?_) (o:=by exact fun _ _ _ J O=>aP J rfl rfl)
 refine go J N fun a J=>?_
 replace N:=N.dl [0]
 refine zD b J N ?_
 exact zL N (by simp [qD, *] <;> omega)
 refine go J N fun a J=>?_
 by_cases z:((e.args.length:Nat):Int)=ar
 refine go J N fun a J=>?_
 by_cases A:rm < 0
 refine go J N fun a J=>?_
 replace N:=N.dl [0]
 refine zD b J N ?_
 exact zL N (by simp [qD, *] <;> omega)
 refine Qq J N (fun a J=>?_) (o:=by exact fun _ _ _ J O=>aP J rfl rfl)
 refine go J N fun a J=>?_
 replace N:=N.dl [0]
 refine zD b J N ?_
 exact zL N (by simp [qD, *] <;> omega)
 refine go J N fun a J=>?_
 replace N:=N.dl [0]
 refine zD b J N ?_
 exact zL N (by simp [qD, *] <;> omega)
 refine go J N fun a J=>?_
 replace N:=N.dl [0]
 refine zD b J N ?_
 exact zL N (by simp [qD, *] <;> omega)
 refine go J N fun a J=>?_
 by_cases B:ar < 0
 refine go J N fun a J=>?_
 by_cases C:rm < 0
 refine go J N fun a J=>?_
 replace N:=N.dl [0]
 refine zD b J N ?_
 exact zL N (by simp [qD, *] <;> omega)
 refine Qq J N (fun a J=>?_) (o:=by exact fun _ _ _ J O=>aP J rfl rfl)
 refine go J N fun a J=>?_
 replace N:=N.dl [0]
 refine zD b J N ?_
 exact zL N (by simp [qD, *] <;> omega)
 refine go J N fun a J=>?_
 by_cases D:((e.args.length:Nat):Int)=ar
 refine go J N fun a J=>?_
 by_cases E:rm < 0
 refine go J N fun a J=>?_
 replace N:=N.dl [0]
 refine zD b J N ?_
 exact zL N (by simp [qD, *] <;> omega)
 refine Qq J N (fun a J=>?_) (o:=by exact fun _ _ _ J O=>aP J rfl rfl)
 refine go J N fun a J=>?_
 replace N:=N.dl [0]
 refine zD b J N ?_
 exact zL N (by simp [qD, *] <;> omega)
 refine go J N fun a J=>?_
 replace N:=N.dl [0]
 refine zD b J N ?_
 exact zL N (by simp [qD, *] <;> omega)
end Go.Sw
