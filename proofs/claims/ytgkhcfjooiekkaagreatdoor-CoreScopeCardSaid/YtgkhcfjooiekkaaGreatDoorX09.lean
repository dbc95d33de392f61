import Derived.Test.YtgkhcfjooiekkaaGreatDoorProg
import Derived.Laws.IdiomRangeMap
import Derived.Test.YtgkhcfjooiekkaaGreatDoorX02
import Derived.Test.YtgkhcfjooiekkaaGreatDoorX03
import Derived.Test.YtgkhcfjooiekkaaGreatDoorX04
import Derived.Test.YtgkhcfjooiekkaaGreatDoorX08
set_option linter.unusedVariables false
set_option linter.unusedSimpArgs false
namespace Go.Sw
open Go.Proofs.Tryz
open Go.Proofs
set_option maxRecDepth 20000
set_option maxHeartbeats 4000000
theorem eval_zero {T:Table} {inp:List (Bs×Val)}:y0h Tryz.prog T inp 0:=by
 intro Φ K w p d e env ov mg bs fuel rpT rG re rv hsh hg hfu hns hm
 obtain ⟨cs17,m1,m2,m3,m4,d5,d6,d7,d8,hat18,hcl19,hcore20,ma9,mr13,ma10,mr14,ma11,mr15,ma12,mr16⟩:=rpT.ex
 obtain ⟨p23,c24,p29,c30,p35,c36,p41,c42,rfl,h22,h28,h34,h40,hm25,hn26,hm31,hn32,hm37,hn38,hm43,hn44⟩:=RCore.fm hcore20
 obtain ⟨p47,c48,p53,c54,rfl,hi57,h46,h52,hm49,hn50,hm55,hn56⟩:=REx.fm re
 refine z0l func103 ntmps103 fun Q hQ a he =>?_
 refine Bx he hm fun b59 w hm a he =>?_
 refine Bx he hm fun b60 w hm a he =>?_
 refine Alc he hm fun b61 w hm a he =>?_
 refine Sto 3 he hm fun w hm a he =>?_
 refine Reg [1,2,1,2,1,2,1] [0,1,2,3] he hm fun w hm a he =>?_
 have hk_:fuel < fuel+1:=by omega
 refine z1h he hm fun a he =>?_
 refine Qq he hm (fun a he =>?_) (o:=by exact fun _ _ _ he hs=>z1e he rfl runUnderlying177 (by intro ms h;cases h))
 refine st0 he rfl rfl (z3m he rfl (z3p _) (fun a hd=>hQ _ _ _ (z0z hd ?_)))
 replace hm:=hm.dl [2,1,0]
 exact z8c (z9t _ _ _) ⟨rfl,hm⟩
theorem eval_succ {T:Table} {inp:List (Bs×Val)} {g:Nat} (hF:FunsOk T) (ih:∀g1,g1≤g→y0h Tryz.prog T inp g1):y0h Tryz.prog T inp (g+1):=by
 intro Φ K w p d e env ov mg bs fuel rpT rG re rv hsh hg hfu hns hm
 rw [z0u] at hns
 obtain ⟨cs17,m1,m2,m3,m4,d5,d6,d7,d8,hat18,hcl19,hcore20,ma9,mr13,ma10,mr14,ma11,mr15,ma12,mr16⟩:=rpT.ex
 obtain ⟨p23,c24,p29,c30,p35,c36,p41,c42,rfl,h22,h28,h34,h40,hm25,hn26,hm31,hn32,hm37,hn38,hm43,hn44⟩:=RCore.fm hcore20
 obtain ⟨p47,c48,p53,c54,rfl,hi57,h46,h52,hm49,hn50,hm55,hn56⟩:=REx.fm re
 refine z0l func103 ntmps103 fun Q hQ a he =>?_
 refine Bx he hm fun b59 w hm a he =>?_
 refine Bx he hm fun b60 w hm a he =>?_
 refine Alc he hm fun b61 w hm a he =>?_
 refine Sto 3 he hm fun w hm a he =>?_
 rw [show fuel - (g+1)+1=fuel - g by omega] at hm
 refine Reg [1,2,1,2,1,2,1] [0,1,2,3] he hm fun w hm a he =>?_
 have hk_:¬fuel < fuel - g:=by omega
 refine go he hm fun a he =>?_
 by_cases h68:e.kind=1
 refine z1h he hm fun a he =>?_
 refine Sto 0 he hm fun w hm a he =>?_
 refine go he hm fun a he =>?_
 have hmr:=hm
 replace hm:=hm.dl [2,1,0]
 refine RetA hQ he hmr ?_
 exact evOut ((z0u _ _ _ _).trans (step_num h68)) ⟨(Φ,_),rfl,⟨Fz.Le.refl _,RVal.iff.2 ⟨_,rfl,(by obtain ⟨_,_,_,h_,_⟩:=REx.iff.1 re;exact h_),SliceOf.nil 3⟩⟩,hm⟩
 refine go he hm fun a he =>?_
 by_cases h71:e.kind=2
 refine go he hm fun a he =>?_
 refine z1i (he.ks [4,6]) hm (fun R mm a w=>∃(en:Env) (nv:Option Addr),mm=en.length∧R Φ [(2,.pointer nv)] [] a w∧(REnv Φ en nv∧lget env e.name=lget en e.name)) (env.length) ⟨env,ov,rfl,⟨he.pk,hm⟩,⟨rv,rfl⟩⟩ ?_
 clear hm he
 rintro mm a w ⟨en,nv,hmu,⟨he,hm⟩,hI73⟩ L72 hL72
 obtain ⟨rn,hI_⟩:=hI73
 refine go he hm fun a he =>?_
 obtain _ | ⟨⟨n76,x77⟩,en78⟩:=en
 obtain rfl:=rn
 refine Qq he hm (fun a he =>?_) (o:=by exact fun _ _ _ he hs=>neq_nilnil rfl he rfl rfl (fun _=>by kernel_rfl))
 refine z1h he hm fun a he =>?_
 refine Sto 0 he hm fun w hm a he =>?_
 refine go he hm fun a he =>?_
 have hmr:=hm
 replace hm:=hm.dl [2,1,0]
 refine RetA hQ he hmr ?_
 exact evOut (((z0u _ _ _ _).trans (step_var h71)).trans (show Ev.ok ((lget env e.name).getD v0) g=.ok v0 g by rw [hI_];rfl)) ⟨(Φ,_),rfl,⟨Fz.Le.refl _,RVal.iff.2 ⟨_,rfl,(show I64 0 from ⟨by decide,by decide⟩),SliceOf.nil 3⟩⟩,hm⟩
 obtain ⟨p79,c80,nx81,rfl,ha82,hl83,hr84,hre85⟩:=rn
 obtain ⟨p89,c90,rfl,hi93,h88,hm91,hn92⟩:=RVal.fm hr84
 refine Qq he hm (fun a he =>?_) (o:=by exact fun _ _ _ he hs=>neq_nilptr rfl he rfl rfl (fun _=>by kernel_rfl))
 refine Reg [1,1,1,2,1,2,1] [0,1,2,3] he hm fun w hm a he =>?_
 refine go he hm fun a he =>?_
 by_cases h96:n76=e.name
 refine Qq he hm (fun a he =>?_) (o:=by exact fun _ _ _ he hs=>z7z 1 (vs:=[.string x77.con,.int .i64 (x77.num),.slice p89 x77.args.length c90]) he hs rfl ha82 isAgg42 sizeOf42 rfl rfl)
 refine Sto 0 he hm fun w hm a he =>?_
 refine go he hm fun a he =>?_
 have hmr:=hm
 replace hm:=hm.dl [2,1,0]
 refine RetA hQ he hmr ?_
 exact evOut (((z0u _ _ _ _).trans (step_var h71)).trans (by rw [hI_];simp only [lget,if_pos h96.symm,Option.getD_some])) ⟨(Φ,_),rfl,⟨Fz.Le.refl _,hr84⟩,hm⟩
 refine go he hm fun a he =>?_
 refine hL72 (en78.length) _ _ (by subst hmu;simp only [List.length_cons];omega) ⟨(en78),(nx81),rfl,⟨he.pk,hm⟩,?_⟩
 refine ⟨hre85,?_⟩
 rw [hI_];simp only [lget,if_neg (Ne.symm h96)]
 refine go he hm fun a he =>?_
 by_cases h99:e.kind=3
 refine go he hm fun a he =>?_
 refine st he rfl rfl rfl (eff_given rG runUnderlying94 runUnderlying9 zeroValue42 he hm.toSees rfl rfl (fun cs101 hr102 a he =>?_))
 obtain ⟨p105,c106,rfl,hi109,h104,hm107,hn108⟩:=RVal.fm hr102
 refine Sto 0 he hm fun w hm a he =>?_
 refine go he hm fun a he =>?_
 have hmr:=hm
 replace hm:=hm.dl [2,1,0]
 refine RetA hQ he hmr ?_
 exact evOut ((z0u _ _ _ _).trans (step_inp h99)) ⟨(Φ,_),rfl,⟨Fz.Le.refl _,hr102⟩,hm⟩
 refine go he hm fun a he =>?_
 by_cases h111:e.kind=4
 refine Reg [1,2,2,1,2,1,0,1,0] [0,1,2] he hm fun w hm a he =>?_
 refine go he hm fun a he =>?_
 have hns113:=hns
 rw [step_con h111] at hns113
 replace hm:=hm.pl 3
 refine z4u hQ call158 he hm (fun q114 y115 w hq116 hG117 hm a he =>?_) (fun q114 w hq116 hm =>?_) (c:=each_step (fun g1_ h_=>ih g1_ (by omega)) rpT rG h46 rv (z3g hsh).2.1 (z3g hsh).1 (by omega) (by omega) (z2v hns113) hm)
 obtain ⟨z118,g119⟩:=q114
 obtain ⟨Ψ120,d121⟩:=y115
 obtain ⟨le122,hr123⟩:=hG117
 have hv124:=z6b hq116
 simp only at le122 hr123 hm he hv124
 have hlt125:=each_le hv124
 replace rpT:=rpT.mono le122
 replace rG:=RGiven.mono le122 rG
 replace re:=REx.mono _ _ _ _ le122 re
 replace rv:=REnv.mono le122 rv
 replace hat18:=hat18.mono le122
 replace ma11:=ma11.mono le122
 replace mr15:=mr15.up le122
 replace h46:=h46.up le122
 replace h52:=h52.up le122
 replace hm:=hm.nf
 obtain ⟨p126,c127,rfl,hmx128,hnx129⟩:=hr123.fm
 have hns130:=ns_ok hns113 hv124
 refine z1h he hm fun a he =>?_
 refine Sto 1 he hm fun w hm a he =>?_
 refine go he hm fun a he =>?_
 have hmr:=hm
 replace hm:=hm.dl [3,2,1]
 refine RetA hQ he hmr ?_
 exact evOut (((z0u _ _ _ _).trans (step_con h111)).trans (z5z hv124)) ⟨(Ψ120,_),rfl,⟨le122,RVal.iff.2 ⟨_,rfl,(show I64 0 from ⟨by decide,by decide⟩),hr123⟩⟩,hm⟩
 have hsp131:=z3x hq116 (z2v hns113)
 replace hm:=hm.dl [3,2,1]
 exact z8c (((z0u _ _ _ _).trans (step_con h111)).trans (z6o hsp131)) ⟨rfl,hm.le (Fz.Le.refl _)⟩
 refine go he hm fun a he =>?_
 by_cases h133:e.kind=5
 refine Reg [2,1,2,1,1,2,1,2,2,2,1,2,1,0,0,0] [0,1,2] he hm fun w hm a he =>?_
 refine go he hm fun a he =>?_
 rcases hf135:mget (d7) e.name with _ | vf136
 exact absurd (step_nofun h133 (MapRel.none mr15 hf135)) hns
 obtain ⟨y137,hy138,cs139,rfl,hr140⟩:=mr15.get hf135
 obtain ⟨s141,b147,rfl,h142,h148⟩:=id hr140
 obtain ⟨p143,c144,rfl,hm145,hn146⟩:=h142.fm
 obtain ⟨p151,c152,p157,c158,rfl,hi161,h150,h156,hm153,hn154,hm159,hn160⟩:=REx.fm h148
 have hf135_:=congrArg (z0i false (.agg (List.toArray [.string ⟨#[]⟩,.slice none 0 0,.string ⟨#[]⟩,.int .i64 ((0:Nat):Int),.int .i64 ((0:Nat):Int),.string ⟨#[]⟩,.slice none 0 0,.slice none 0 0]))) hf135
 refine Qq he hm (fun a he =>?_) (o:=by exact fun _ _ _ he hs=>Ok.cast (z0o runUnderlying103 runUnderlying9 zeroValue68 he hs rfl rfl ma11) (show z0i false (.agg (List.toArray [.string ⟨#[]⟩,.slice none 0 0,.string ⟨#[]⟩,.int .i64 ((0:Nat):Int),.int .i64 ((0:Nat):Int),.string ⟨#[]⟩,.slice none 0 0,.slice none 0 0])) (mget (d7) e.name)=.agg (List.toArray [.string y137.name,.slice p143 y137.params.length c144,.string y137.result,.int .i64 (y137.body.kind),.int .i64 (y137.body.num),.string y137.body.name,.slice p151 y137.body.args.length c152,.slice p157 y137.body.arms.length c158]) from hf135_))
 refine go he hm fun a he =>?_
 have hns162:=hns
 rw [step_call h133 hy138] at hns162
 replace hm:=hm.pl 3
 refine z4u hQ call158 he hm (fun q163 y164 w hq165 hG166 hm a he =>?_) (fun q163 w hq165 hm =>?_) (c:=each_step (fun g1_ h_=>ih g1_ (by omega)) rpT rG h46 rv (z3g hsh).2.1 (z3g hsh).1 (by omega) (by omega) (z2v hns162) hm)
 obtain ⟨z167,g168⟩:=q163
 obtain ⟨Ψ169,d170⟩:=y164
 obtain ⟨le171,hr172⟩:=hG166
 have hv173:=z6b hq165
 simp only at le171 hr172 hm he hv173
 have hlt174:=each_le hv173
 replace rpT:=rpT.mono le171
 replace rG:=RGiven.mono le171 rG
 replace re:=REx.mono _ _ _ _ le171 re
 replace rv:=REnv.mono le171 rv
 replace hat18:=hat18.mono le171
 replace h46:=h46.up le171
 replace h52:=h52.up le171
 replace hr140:=RFun.mono _ _ _ _ le171 hr140
 replace h148:=REx.mono _ _ _ _ le171 h148
 replace hm:=hm.nf
 obtain ⟨p175,c176,rfl,hmx177,hnx178⟩:=hr172.fm
 have hns179:=ns_ok hns162 hv173
 refine z4u hQ call48 he hm (fun q180 y181 w hq182 hG183 hm a he =>?_) (fun q180 w hq182 hm =>?_) (c:=callS_step (ih g168 (by omega)) rpT rG hr140 hr172 (hF _ _ hy138).1 (hF _ _ hy138).2 (by omega) (by omega) hns179 hm)
 obtain ⟨z184,g185⟩:=q180
 obtain ⟨Ψ186,d187⟩:=y181
 obtain ⟨le188,hr189⟩:=hG183
 have hv190:=z6b hq182
 simp only at le188 hr189 hm he hv190
 have hlt191:=z9i hv190
 replace rpT:=rpT.mono le188
 replace rG:=RGiven.mono le188 rG
 replace re:=REx.mono _ _ _ _ le188 re
 replace rv:=REnv.mono le188 rv
 replace hat18:=hat18.mono le188
 replace h46:=h46.up le188
 replace h52:=h52.up le188
 replace hr140:=RFun.mono _ _ _ _ le188 hr140
 replace h148:=REx.mono _ _ _ _ le188 h148
 replace hm:=hm.nf
 obtain ⟨p194,c195,rfl,hi198,h193,hm196,hn197⟩:=RVal.fm hr189
 refine Sto 1 he hm fun w hm a he =>?_
 refine go he hm fun a he =>?_
 have hmr:=hm
 replace hm:=hm.dl [3,2,1]
 refine RetA hQ he hmr ?_
 exact evOut ((((z0u _ _ _ _).trans (step_call h133 hy138)).trans (z5z hv173)).trans hv190) ⟨(Ψ186,_),rfl,⟨(le171).trans le188,hr189⟩,hm⟩
 have hsp199:=z3x hq182 hns179
 replace hm:=hm.dl [3,2,1]
 exact z8c ((((z0u _ _ _ _).trans (step_call h133 hy138)).trans (z5z hv173)).trans hsp199) ⟨rfl,hm.le (le171)⟩
 have hsp200:=z3x hq165 (z2v hns162)
 replace hm:=hm.dl [3,2,1]
 exact z8c (((z0u _ _ _ _).trans (step_call h133 hy138)).trans (z6o hsp200)) ⟨rfl,hm.le (Fz.Le.refl _)⟩
 refine go he hm fun a he =>?_
 by_cases h202:e.kind=6
 refine go he hm fun a he =>?_
 refine z1v [2,1,2,1,2,1,0,0,0] (.q 0 (.q 1 (.q 2 (.q 3 (.q 4 (.q 5 (.e2 6 7 (.e 7 (.e 8 (.done))) (.e 6 (.e 8 (.done)))))))))) [0,1,2] he hm fun w hm =>?_
 have hq2_:=step_let2 h202 hns
 have hq0_:0 < e.args.length:=by omega
 have hq1_:1 < e.args.length:=by omega
 obtain ⟨bb_,hbb_⟩:=z2d hq1_
 refine go he hm fun a he =>?_
 obtain ⟨q204,rfl,x205,hx206,cs207,hl208,ha209,hr210⟩:=h46.el hn50 hq0_
 obtain ⟨p213,c214,p219,c220,rfl,hi223,h212,h218,hm215,hn216,hm221,hn222⟩:=REx.fm hr210
 refine go he hm fun a he =>?_
 refine d_e2 ?_ ?_
 have hns224:=hns
 rw [z9g h202 hx206 hbb_] at hns224
 replace hm:=hm.pl 3
 refine z4u hQ call103 he hm (fun q225 y226 w hq227 hG228 hm a he =>?_) (fun q225 w hq227 hm =>?_) (c:=ih g (by omega) rpT rG hr210 rv ((z3g hsh).2.1 _ (List.mem_of_getElem? hx206)) (by omega) (by omega) (z2v hns224) hm)
 obtain ⟨z229,g230⟩:=q225
 obtain ⟨Ψ231,d232⟩:=y226
 obtain ⟨le233,hr234⟩:=hG228
 have hv235:=z6b hq227
 simp only at le233 hr234 hm he hv235
 have hlt236:=z1u _ _ _ _ _ _ hv235
 replace rpT:=rpT.mono le233
 replace rG:=RGiven.mono le233 rG
 replace re:=REx.mono _ _ _ _ le233 re
 replace rv:=REnv.mono le233 rv
 replace hat18:=hat18.mono le233
 replace h46:=h46.up le233
 replace h52:=h52.up le233
 replace ha209:=ha209.mono le233
 replace hr210:=REx.mono _ _ _ _ le233 hr210
 replace hm:=hm.nf
 obtain ⟨p239,c240,rfl,hi243,h238,hm241,hn242⟩:=RVal.fm hr234
 have hns244:=ns_ok hns224 hv235
 refine Alc he hm fun b245 w hm a he =>?_
 refine Sto 0 he hm fun w hm a he =>?_
 refine Reg [2,1,2,1,2,1,2,2,1,1,0,0,0] [0,2,3,4] he hm fun w hm a he =>?_
 refine go he hm fun a he =>?_
 obtain ⟨x247,hx248⟩:=z2d hq1_
 obtain ⟨cs249,hl250,ha251,hr252⟩:=h46.elem hx248
 obtain ⟨p255,c256,p261,c262,rfl,hi265,h254,h260,hm257,hn258,hm263,hn264⟩:=REx.fm hr252
 refine BldT he hm fun a he =>?_
 refine Bx he hm fun b266 w hm a he =>?_
 have hm0_:=hm
 clear hm
 obtain ⟨Ψ267,le268,hm,hat269⟩:=hm0_.freezeBlk (i:=0) rfl
 clear hm0_
 replace rpT:=rpT.mono le268
 replace rG:=RGiven.mono le268 rG
 replace re:=REx.mono _ _ _ _ le268 re
 replace rv:=REnv.mono le268 rv
 replace hat18:=hat18.mono le268
 replace h46:=h46.up le268
 replace h52:=h52.up le268
 replace ha209:=ha209.mono le268
 replace hr210:=REx.mono _ _ _ _ le268 hr210
 replace hr234:=RVal.mono _ _ _ _ le268 hr234
 replace ha251:=ha251.mono le268
 replace hr252:=REx.mono _ _ _ _ le268 hr252
 replace hm:=hm.nf
 have henv270:REnv Ψ267 ((e.name,z229)::env) (some ⟨b266,0,none⟩):=⟨_,[.string z229.con,.int .i64 (z229.num),.slice p239 z229.args.length c240],_,rfl,hat269,rfl,hr234,rv⟩
 obtain rfl:bb_=x247:=Option.some.inj (hbb_.symm.trans hx248)
 replace hm:=hm.pl 1
 refine z4u hQ call103 he hm (fun q271 y272 w hq273 hG274 hm a he =>?_) (fun q271 w hq273 hm =>?_) (c:=ih g230 (by omega) rpT rG hr252 henv270 ((z3g hsh).2.1 _ (List.mem_of_getElem? hx248)) (by omega) (by omega) hns244 hm)
 obtain ⟨z275,g276⟩:=q271
 obtain ⟨Ψ277,d278⟩:=y272
 obtain ⟨le279,hr280⟩:=hG274
 have hv281:=z6b hq273
 simp only at le279 hr280 hm he hv281
 have hlt282:=z1u _ _ _ _ _ _ hv281
 replace rpT:=rpT.mono le279
 replace rG:=RGiven.mono le279 rG
 replace re:=REx.mono _ _ _ _ le279 re
 replace rv:=REnv.mono le279 rv
 replace hat18:=hat18.mono le279
 replace h46:=h46.up le279
 replace h52:=h52.up le279
 replace ha209:=ha209.mono le279
 replace hr210:=REx.mono _ _ _ _ le279 hr210
 replace hr234:=RVal.mono _ _ _ _ le279 hr234
 replace ha251:=ha251.mono le279
 replace hr252:=REx.mono _ _ _ _ le279 hr252
 replace henv270:=REnv.mono le279 henv270
 replace hm:=hm.nf
 obtain ⟨p285,c286,rfl,hi289,h284,hm287,hn288⟩:=RVal.fm hr280
 refine Sto 2 he hm fun w hm a he =>?_
 refine go he hm fun a he =>?_
 have hmr:=hm
 replace hm:=hm.dl [4,3,2,1]
 refine RetA hQ he hmr ?_
 exact evOut ((((z0u _ _ _ _).trans (z9g h202 hx206 hbb_)).trans (z5z hv235)).trans hv281) ⟨(Ψ277,_),rfl,⟨((le233).trans le268).trans le279,hr280⟩,hm⟩
 have hsp290:=z3x hq273 hns244
 replace hm:=hm.dl [4,3,2,1]
 exact z8c ((((z0u _ _ _ _).trans (z9g h202 hx206 hbb_)).trans (z5z hv235)).trans hsp290) ⟨rfl,hm.le ((le233).trans le268)⟩
 have hsp291:=z3x hq227 (z2v hns224)
 replace hm:=hm.dl [3,2,1]
 exact z8c (((z0u _ _ _ _).trans (z9g h202 hx206 hbb_)).trans (z6o hsp291)) ⟨rfl,hm.le (Fz.Le.refl _)⟩
 refine Alc he hm fun b292 w hm a he =>?_
 have hns293:=hns
 rw [z9g h202 hx206 hbb_] at hns293
 replace hm:=hm.pl 4
 refine z4u hQ call103 he hm (fun q294 y295 w hq296 hG297 hm a he =>?_) (fun q294 w hq296 hm =>?_) (c:=ih g (by omega) rpT rG hr210 rv ((z3g hsh).2.1 _ (List.mem_of_getElem? hx206)) (by omega) (by omega) (z2v hns293) hm)
 obtain ⟨z298,g299⟩:=q294
 obtain ⟨Ψ300,d301⟩:=y295
 obtain ⟨le302,hr303⟩:=hG297
 have hv304:=z6b hq296
 simp only at le302 hr303 hm he hv304
 have hlt305:=z1u _ _ _ _ _ _ hv304
 replace rpT:=rpT.mono le302
 replace rG:=RGiven.mono le302 rG
 replace re:=REx.mono _ _ _ _ le302 re
 replace rv:=REnv.mono le302 rv
 replace hat18:=hat18.mono le302
 replace h46:=h46.up le302
 replace h52:=h52.up le302
 replace ha209:=ha209.mono le302
 replace hr210:=REx.mono _ _ _ _ le302 hr210
 replace hm:=hm.nf
 obtain ⟨p308,c309,rfl,hi312,h307,hm310,hn311⟩:=RVal.fm hr303
 have hns313:=ns_ok hns293 hv304
 refine Sto 1 he hm fun w hm a he =>?_
 refine Reg [2,1,2,1,2,1,2,2,1,1,0,0,0] [1,2,3,4] he hm fun w hm a he =>?_
 refine go he hm fun a he =>?_
 obtain ⟨x315,hx316⟩:=z2d hq1_
 obtain ⟨cs317,hl318,ha319,hr320⟩:=h46.elem hx316
 obtain ⟨p323,c324,p329,c330,rfl,hi333,h322,h328,hm325,hn326,hm331,hn332⟩:=REx.fm hr320
 refine BldT he hm fun a he =>?_
 refine Bx he hm fun b334 w hm a he =>?_
 have hm0_:=hm
 clear hm
 obtain ⟨Ψ335,le336,hm,hat337⟩:=hm0_.freezeBlk (i:=0) rfl
 clear hm0_
 replace rpT:=rpT.mono le336
 replace rG:=RGiven.mono le336 rG
 replace re:=REx.mono _ _ _ _ le336 re
 replace rv:=REnv.mono le336 rv
 replace hat18:=hat18.mono le336
 replace h46:=h46.up le336
 replace h52:=h52.up le336
 replace ha209:=ha209.mono le336
 replace hr210:=REx.mono _ _ _ _ le336 hr210
 replace hr303:=RVal.mono _ _ _ _ le336 hr303
 replace ha319:=ha319.mono le336
 replace hr320:=REx.mono _ _ _ _ le336 hr320
 replace hm:=hm.nf
 have henv338:REnv Ψ335 ((e.name,z298)::env) (some ⟨b334,0,none⟩):=⟨_,[.string z298.con,.int .i64 (z298.num),.slice p308 z298.args.length c309],_,rfl,hat337,rfl,hr303,rv⟩
 obtain rfl:bb_=x315:=Option.some.inj (hbb_.symm.trans hx316)
 refine z4u hQ call103 he hm (fun q339 y340 w hq341 hG342 hm a he =>?_) (fun q339 w hq341 hm =>?_) (c:=ih g299 (by omega) rpT rG hr320 henv338 ((z3g hsh).2.1 _ (List.mem_of_getElem? hx316)) (by omega) (by omega) hns313 hm)
 obtain ⟨z343,g344⟩:=q339
 obtain ⟨Ψ345,d346⟩:=y340
 obtain ⟨le347,hr348⟩:=hG342
 have hv349:=z6b hq341
 simp only at le347 hr348 hm he hv349
 have hlt350:=z1u _ _ _ _ _ _ hv349
 replace rpT:=rpT.mono le347
 replace rG:=RGiven.mono le347 rG
 replace re:=REx.mono _ _ _ _ le347 re
 replace rv:=REnv.mono le347 rv
 replace hat18:=hat18.mono le347
 replace h46:=h46.up le347
 replace h52:=h52.up le347
 replace ha209:=ha209.mono le347
 replace hr210:=REx.mono _ _ _ _ le347 hr210
 replace hr303:=RVal.mono _ _ _ _ le347 hr303
 replace ha319:=ha319.mono le347
 replace hr320:=REx.mono _ _ _ _ le347 hr320
 replace henv338:=REnv.mono le347 henv338
 replace hm:=hm.nf
 obtain ⟨p353,c354,rfl,hi357,h352,hm355,hn356⟩:=RVal.fm hr348
 refine Sto 2 he hm fun w hm a he =>?_
 refine go he hm fun a he =>?_
 have hmr:=hm
 replace hm:=hm.dl [4,3,2,1]
 refine RetA hQ he hmr ?_
 exact evOut ((((z0u _ _ _ _).trans (z9g h202 hx206 hbb_)).trans (z5z hv304)).trans hv349) ⟨(Ψ345,_),rfl,⟨((le302).trans le336).trans le347,hr348⟩,hm⟩
 have hsp358:=z3x hq341 hns313
 replace hm:=hm.dl [4,3,2,1]
 exact z8c ((((z0u _ _ _ _).trans (z9g h202 hx206 hbb_)).trans (z5z hv304)).trans hsp358) ⟨rfl,hm.le ((le302).trans le336)⟩
 have hsp359:=z3x hq296 (z2v hns293)
 replace hm:=hm.dl [4,3,2,1]
 exact z8c (((z0u _ _ _ _).trans (z9g h202 hx206 hbb_)).trans (z6o hsp359)) ⟨rfl,hm.le (Fz.Le.refl _)⟩
 refine go he hm fun a he =>?_
 by_cases h361:e.kind=7
 refine go he hm fun a he =>?_
 refine z1v [2,1,2,1,2,1,0,0,0] (.q 0 (.q 1 (.q 2 (.q 3 (.q 4 (.q 5 (.e2 6 7 (.e 7 (.e 8 (.done))) (.e 6 (.e 8 (.done)))))))))) [0,1,2] he hm fun w hm =>?_
 have hq2_:=step_case1 h361 hns
 have hq0_:0 < e.args.length:=by omega
 refine go he hm fun a he =>?_
 obtain ⟨q363,rfl,x364,hx365,cs366,hl367,ha368,hr369⟩:=h46.el hn50 hq0_
 obtain ⟨p372,c373,p378,c379,rfl,hi382,h371,h377,hm374,hn375,hm380,hn381⟩:=REx.fm hr369
 refine go he hm fun a he =>?_
 refine d_e2 ?_ ?_
 have hns383:=hns
 rw [z5m h361 hx365] at hns383
 replace hm:=hm.pl 3
 refine z4u hQ call103 he hm (fun q384 y385 w hq386 hG387 hm a he =>?_) (fun q384 w hq386 hm =>?_) (c:=ih g (by omega) rpT rG hr369 rv ((z3g hsh).2.1 _ (List.mem_of_getElem? hx365)) (by omega) (by omega) (z2v hns383) hm)
 obtain ⟨z388,g389⟩:=q384
 obtain ⟨Ψ390,d391⟩:=y385
 obtain ⟨le392,hr393⟩:=hG387
 have hv394:=z6b hq386
 simp only at le392 hr393 hm he hv394
 have hlt395:=z1u _ _ _ _ _ _ hv394
 replace rpT:=rpT.mono le392
 replace rG:=RGiven.mono le392 rG
 replace re:=REx.mono _ _ _ _ le392 re
 replace rv:=REnv.mono le392 rv
 replace hat18:=hat18.mono le392
 replace h46:=h46.up le392
 replace h52:=h52.up le392
 replace ha368:=ha368.mono le392
 replace hr369:=REx.mono _ _ _ _ le392 hr369
 replace hm:=hm.nf
 obtain ⟨p398,c399,rfl,hi402,h397,hm400,hn401⟩:=RVal.fm hr393
 have hns403:=ns_ok hns383 hv394
 refine Alc he hm fun b404 w hm a he =>?_
 refine Sto 0 he hm fun w hm a he =>?_
 refine go he hm fun a he =>?_
 refine z1i (he.ks [2,3,6,8,120,121]) hm (fun R mm a w=>∃(i:Nat),mm=e.arms.length - i∧R Ψ390 [(122,.int .i64 ((i:Nat):Int))] [] a w∧(z4m e.arms z388.con=z4m (e.arms.drop i) z388.con)) (e.arms.length - 0) ⟨0,rfl,⟨he.pk,hm⟩,rfl⟩ ?_
 clear hm he
 rintro mm a w ⟨i,hmu,⟨he,hm⟩,hI407⟩ L406 hL406
 refine go he hm fun a he =>?_
 by_cases h409:i < e.arms.length
 refine go he hm fun a he =>?_
 obtain ⟨q413,rfl,x414,hx415,cs416,hl417,ha418,hr419⟩:=h52.el hn56 h409
 obtain ⟨s420,b426,rfl,h421,h427⟩:=RArm.iff.1 hr419
 obtain ⟨p422,c423,rfl,hm424,hn425⟩:=h421.fm
 obtain ⟨p430,c431,p436,c437,rfl,hi440,h429,h435,hm432,hn433,hm438,hn439⟩:=REx.fm h427
 refine Alc he hm fun b441 w hm a he =>?_
 refine Sto 0 he hm fun w hm a he =>?_
 refine go he hm fun a he =>?_
 by_cases h444:x414.con=z388.con
 refine go he hm fun a he =>?_
 have hfa_:z4m e.arms z388.con=some x414:=by
  rw [hI407,z0a hx415];simp [z4m,h444]
 have hns447:=hns403
 rw [z7r hfa_] at hns447
 obtain ⟨env1_,hb1_⟩:=body_bound hns447
 refine go he hm fun a he =>?_
 refine z1i (he.ks [3,6,8,10,132,133]) hm (fun R mm a w=>∃(Ψ448:Fz) (k:Nat) (en:Env) (nv:Option Addr),mm=x414.vars.length - k∧R Ψ448 [(2,.pointer nv),(134,.int .i64 ((k:Nat):Int))] [] a w∧(Ψ390.Le Ψ448∧(REnv Ψ448 en nv∧bindV x414.vars z388.args env=bindV (x414.vars.drop k) (z388.args.drop k) en))) (x414.vars.length - 0) ⟨Ψ390,0,env,ov,rfl,⟨he.pk,hm⟩,⟨Fz.Le.refl _,⟨rv,rfl⟩⟩⟩ ?_
 clear hm he
 rintro mm a w ⟨Ψ448,k,en,nv,hmu,⟨he,hm⟩,hI451⟩ L450 hL450
 obtain ⟨le449,hI451⟩:=hI451
 replace rpT:=rpT.mono le449
 replace rG:=RGiven.mono le449 rG
 replace re:=REx.mono _ _ _ _ le449 re
 replace rv:=REnv.mono le449 rv
 replace hat18:=hat18.mono le449
 replace h46:=h46.up le449
 replace h52:=h52.up le449
 replace ha368:=ha368.mono le449
 replace hr369:=REx.mono _ _ _ _ le449 hr369
 replace h397:=h397.up le449
 replace hr393:=RVal.mono _ _ _ _ le449 hr393
 replace ha418:=ha418.mono le449
 replace hr419:=RArm.mono _ _ _ _ le449 hr419
 replace h421:=h421.up le449
 replace h427:=REx.mono _ _ _ _ le449 h427
 obtain ⟨rn,hI_⟩:=hI451
 refine go he hm fun a he =>?_
 by_cases h453:k < x414.vars.length
 refine go he hm fun a he =>?_
 have hil_:k < z388.args.length:=bindV_len (env:=en) (env':=env1_) (by rw [← hI_];exact hb1_) h453
 refine go he hm fun a he =>?_
 obtain ⟨q457,rfl,x458,hx459,cs460,hl461,ha462,hr463⟩:=h421.el hn425 h453
 obtain rfl:cs460=[.string x458]:=hr463
 refine go he hm fun a he =>?_
 obtain ⟨q464,rfl,x465,hx466,cs467,hl468,ha469,hr470⟩:=h397.el hn401 hil_
 obtain ⟨p473,c474,rfl,hi477,h472,hm475,hn476⟩:=RVal.fm hr470
 refine BldT he hm fun a he =>?_
 refine Bx he hm fun b478 w hm a he =>?_
 have hm0_:=hm
 clear hm
 obtain ⟨Ψ479,le480,hm,hat481⟩:=hm0_.freezeBlk (i:=0) rfl
 clear hm0_
 replace rpT:=rpT.mono le480
 replace rG:=RGiven.mono le480 rG
 replace re:=REx.mono _ _ _ _ le480 re
 replace rv:=REnv.mono le480 rv
 replace hat18:=hat18.mono le480
 replace h46:=h46.up le480
 replace h52:=h52.up le480
 replace ha368:=ha368.mono le480
 replace hr369:=REx.mono _ _ _ _ le480 hr369
 replace hr393:=RVal.mono _ _ _ _ le480 hr393
 replace ha418:=ha418.mono le480
 replace hr419:=RArm.mono _ _ _ _ le480 hr419
 replace h427:=REx.mono _ _ _ _ le480 h427
 replace rn:=REnv.mono le480 rn
 replace ha462:=ha462.mono le480
 replace ha469:=ha469.mono le480
 replace hr470:=RVal.mono _ _ _ _ le480 hr470
 replace hm:=hm.nf
 have henv482:REnv Ψ479 ((x458,x465)::en) (some ⟨b478,0,none⟩):=⟨_,[.string x465.con,.int .i64 (x465.num),.slice p473 x465.args.length c474],_,rfl,hat481,rfl,hr470,rn⟩
 refine go he hm fun a he =>?_
 refine hL450 _ _ _ (by subst hmu;omega) ⟨(Ψ479),(k+1),((x458,x465)::en),((some ⟨b478,0,none⟩)),rfl,⟨he.pk,hm⟩,?_⟩
 refine ⟨(le449).trans le480,?_⟩
 refine ⟨henv482,?_⟩
 rw [hI_,z0a hx459,z0a hx466];rfl
 refine go he hm fun a he =>?_
 have hbv_:bindV x414.vars z388.args env=some en:=by
  rw [hI_,z0g h453,bindV_nil]
 have hns485:=hns447
 rw [body_eq hbv_] at hns485
 replace hm:=hm.pl 2
 refine z4u hQ call103 he hm (fun q486 y487 w hq488 hG489 hm a he =>?_) (fun q486 w hq488 hm =>?_) (c:=ih g389 (by omega) rpT rG h427 rn ((z3g hsh).2.2 _ (List.mem_of_getElem? hx415)).1 (by omega) (by omega) hns485 hm)
 obtain ⟨z490,g491⟩:=q486
 obtain ⟨Ψ492,d493⟩:=y487
 obtain ⟨le494,hr495⟩:=hG489
 have hv496:=z6b hq488
 simp only at le494 hr495 hm he hv496
 have hlt497:=z1u _ _ _ _ _ _ hv496
 replace rpT:=rpT.mono le494
 replace rG:=RGiven.mono le494 rG
 replace re:=REx.mono _ _ _ _ le494 re
 replace rv:=REnv.mono le494 rv
 replace hat18:=hat18.mono le494
 replace h46:=h46.up le494
 replace h52:=h52.up le494
 replace ha368:=ha368.mono le494
 replace hr369:=REx.mono _ _ _ _ le494 hr369
 replace hr393:=RVal.mono _ _ _ _ le494 hr393
 replace ha418:=ha418.mono le494
 replace hr419:=RArm.mono _ _ _ _ le494 hr419
 replace h427:=REx.mono _ _ _ _ le494 h427
 replace rn:=REnv.mono le494 rn
 replace hm:=hm.nf
 obtain ⟨p500,c501,rfl,hi504,h499,hm502,hn503⟩:=RVal.fm hr495
 refine Sto 3 he hm fun w hm a he =>?_
 refine go he hm fun a he =>?_
 have hmr:=hm
 replace hm:=hm.dl [5,4,3,2,1]
 refine RetA hQ he hmr ?_
 exact evOut ((((((z0u _ _ _ _).trans (z5m h361 hx365)).trans (z5z hv394)).trans (z7r hfa_)).trans (body_eq hbv_)).trans hv496) ⟨(Ψ492,_),rfl,⟨((le392).trans le449).trans le494,hr495⟩,hm⟩
 have hsp505:=z3x hq488 hns485
 replace hm:=hm.dl [5,4,3,2,1]
 exact z8c ((((((z0u _ _ _ _).trans (z5m h361 hx365)).trans (z5z hv394)).trans (z7r hfa_)).trans (body_eq hbv_)).trans hsp505) ⟨rfl,hm.le ((le392).trans le449)⟩
 refine go he hm fun a he =>?_
 replace hm:=hm.dl [0]
 refine hL406 _ _ _ (by subst hmu;omega) ⟨(i+1),rfl,⟨he.pk,hm⟩,?_⟩
 rw [hI407,z0a hx415];simp only [z4m,if_neg h444]
 refine z1h he hm fun a he =>?_
 refine Sto 2 he hm fun w hm a he =>?_
 refine go he hm fun a he =>?_
 have hmr:=hm
 replace hm:=hm.dl [4,3,2,0]
 refine RetA hQ he hmr ?_
 exact evOut ((((z0u _ _ _ _).trans (z5m h361 hx365)).trans (z5z hv394)).trans (armOf_none (by rw [hI407,z0g h409];rfl))) ⟨(Ψ390,_),rfl,⟨le392,RVal.iff.2 ⟨_,rfl,(show I64 0 from ⟨by decide,by decide⟩),SliceOf.nil 3⟩⟩,hm⟩
 have hsp508:=z3x hq386 (z2v hns383)
 replace hm:=hm.dl [3,2,1]
 exact z8c (((z0u _ _ _ _).trans (z5m h361 hx365)).trans (z6o hsp508)) ⟨rfl,hm.le (Fz.Le.refl _)⟩
 refine Alc he hm fun b509 w hm a he =>?_
 have hns510:=hns
 rw [z5m h361 hx365] at hns510
 replace hm:=hm.pl 4
 refine z4u hQ call103 he hm (fun q511 y512 w hq513 hG514 hm a he =>?_) (fun q511 w hq513 hm =>?_) (c:=ih g (by omega) rpT rG hr369 rv ((z3g hsh).2.1 _ (List.mem_of_getElem? hx365)) (by omega) (by omega) (z2v hns510) hm)
 obtain ⟨z515,g516⟩:=q511
 obtain ⟨Ψ517,d518⟩:=y512
 obtain ⟨le519,hr520⟩:=hG514
 have hv521:=z6b hq513
 simp only at le519 hr520 hm he hv521
 have hlt522:=z1u _ _ _ _ _ _ hv521
 replace rpT:=rpT.mono le519
 replace rG:=RGiven.mono le519 rG
 replace re:=REx.mono _ _ _ _ le519 re
 replace rv:=REnv.mono le519 rv
 replace hat18:=hat18.mono le519
 replace h46:=h46.up le519
 replace h52:=h52.up le519
 replace ha368:=ha368.mono le519
 replace hr369:=REx.mono _ _ _ _ le519 hr369
 replace hm:=hm.nf
 obtain ⟨p525,c526,rfl,hi529,h524,hm527,hn528⟩:=RVal.fm hr520
 have hns530:=ns_ok hns510 hv521
 refine Sto 1 he hm fun w hm a he =>?_
 refine go he hm fun a he =>?_
 refine z1i (he.ks [2,3,6,8,120,121]) hm (fun R mm a w=>∃(i:Nat),mm=e.arms.length - i∧R Ψ517 [(122,.int .i64 ((i:Nat):Int))] [] a w∧(z4m e.arms z515.con=z4m (e.arms.drop i) z515.con)) (e.arms.length - 0) ⟨0,rfl,⟨he.pk,hm⟩,rfl⟩ ?_
 clear hm he
 rintro mm a w ⟨i,hmu,⟨he,hm⟩,hI533⟩ L532 hL532
 refine go he hm fun a he =>?_
 by_cases h535:i < e.arms.length
 refine go he hm fun a he =>?_
 obtain ⟨q539,rfl,x540,hx541,cs542,hl543,ha544,hr545⟩:=h52.el hn56 h535
 obtain ⟨s546,b552,rfl,h547,h553⟩:=RArm.iff.1 hr545
 obtain ⟨p548,c549,rfl,hm550,hn551⟩:=h547.fm
 obtain ⟨p556,c557,p562,c563,rfl,hi566,h555,h561,hm558,hn559,hm564,hn565⟩:=REx.fm h553
 refine Alc he hm fun b567 w hm a he =>?_
 refine Sto 0 he hm fun w hm a he =>?_
 refine go he hm fun a he =>?_
 by_cases h570:x540.con=z515.con
 refine go he hm fun a he =>?_
 have hfa_:z4m e.arms z515.con=some x540:=by
  rw [hI533,z0a hx541];simp [z4m,h570]
 have hns573:=hns530
 rw [z7r hfa_] at hns573
 obtain ⟨env1_,hb1_⟩:=body_bound hns573
 refine go he hm fun a he =>?_
 refine z1i (he.ks [3,6,8,10,132,133]) hm (fun R mm a w=>∃(Ψ574:Fz) (k:Nat) (en:Env) (nv:Option Addr),mm=x540.vars.length - k∧R Ψ574 [(2,.pointer nv),(134,.int .i64 ((k:Nat):Int))] [] a w∧(Ψ517.Le Ψ574∧(REnv Ψ574 en nv∧bindV x540.vars z515.args env=bindV (x540.vars.drop k) (z515.args.drop k) en))) (x540.vars.length - 0) ⟨Ψ517,0,env,ov,rfl,⟨he.pk,hm⟩,⟨Fz.Le.refl _,⟨rv,rfl⟩⟩⟩ ?_
 clear hm he
 rintro mm a w ⟨Ψ574,k,en,nv,hmu,⟨he,hm⟩,hI577⟩ L576 hL576
 obtain ⟨le575,hI577⟩:=hI577
 replace rpT:=rpT.mono le575
 replace rG:=RGiven.mono le575 rG
 replace re:=REx.mono _ _ _ _ le575 re
 replace rv:=REnv.mono le575 rv
 replace hat18:=hat18.mono le575
 replace h46:=h46.up le575
 replace ha368:=ha368.mono le575
 replace hr369:=REx.mono _ _ _ _ le575 hr369
 replace h524:=h524.up le575
 replace hr520:=RVal.mono _ _ _ _ le575 hr520
 replace ha544:=ha544.mono le575
 replace hr545:=RArm.mono _ _ _ _ le575 hr545
 replace h547:=h547.up le575
 replace h553:=REx.mono _ _ _ _ le575 h553
 obtain ⟨rn,hI_⟩:=hI577
 refine go he hm fun a he =>?_
 by_cases h579:k < x540.vars.length
 refine go he hm fun a he =>?_
 have hil_:k < z515.args.length:=bindV_len (env:=en) (env':=env1_) (by rw [← hI_];exact hb1_) h579
 refine go he hm fun a he =>?_
 obtain ⟨q583,rfl,x584,hx585,cs586,hl587,ha588,hr589⟩:=h547.el hn551 h579
 obtain rfl:cs586=[.string x584]:=hr589
 refine go he hm fun a he =>?_
 obtain ⟨q590,rfl,x591,hx592,cs593,hl594,ha595,hr596⟩:=h524.el hn528 hil_
 obtain ⟨p599,c600,rfl,hi603,h598,hm601,hn602⟩:=RVal.fm hr596
 refine BldT he hm fun a he =>?_
 refine Bx he hm fun b604 w hm a he =>?_
 have hm0_:=hm
 clear hm
 obtain ⟨Ψ605,le606,hm,hat607⟩:=hm0_.freezeBlk (i:=0) rfl
 clear hm0_
 replace rpT:=rpT.mono le606
 replace rG:=RGiven.mono le606 rG
 replace re:=REx.mono _ _ _ _ le606 re
 replace rv:=REnv.mono le606 rv
 replace hat18:=hat18.mono le606
 replace h46:=h46.up le606
 replace ha368:=ha368.mono le606
 replace hr369:=REx.mono _ _ _ _ le606 hr369
 replace hr520:=RVal.mono _ _ _ _ le606 hr520
 replace ha544:=ha544.mono le606
 replace hr545:=RArm.mono _ _ _ _ le606 hr545
 replace h553:=REx.mono _ _ _ _ le606 h553
 replace rn:=REnv.mono le606 rn
 replace ha588:=ha588.mono le606
 replace ha595:=ha595.mono le606
 replace hr596:=RVal.mono _ _ _ _ le606 hr596
 replace hm:=hm.nf
 have henv608:REnv Ψ605 ((x584,x591)::en) (some ⟨b604,0,none⟩):=⟨_,[.string x591.con,.int .i64 (x591.num),.slice p599 x591.args.length c600],_,rfl,hat607,rfl,hr596,rn⟩
 refine go he hm fun a he =>?_
 refine hL576 _ _ _ (by subst hmu;omega) ⟨(Ψ605),(k+1),((x584,x591)::en),((some ⟨b604,0,none⟩)),rfl,⟨he.pk,hm⟩,?_⟩
 refine ⟨(le575).trans le606,?_⟩
 refine ⟨henv608,?_⟩
 rw [hI_,z0a hx585,z0a hx592];rfl
 refine go he hm fun a he =>?_
 have hbv_:bindV x540.vars z515.args env=some en:=by
  rw [hI_,z0g h579,bindV_nil]
 have hns611:=hns573
 rw [body_eq hbv_] at hns611
 replace hm:=hm.pl 1
 refine z4u hQ call103 he hm (fun q612 y613 w hq614 hG615 hm a he =>?_) (fun q612 w hq614 hm =>?_) (c:=ih g516 (by omega) rpT rG h553 rn ((z3g hsh).2.2 _ (List.mem_of_getElem? hx541)).1 (by omega) (by omega) hns611 hm)
 obtain ⟨z616,g617⟩:=q612
 obtain ⟨Ψ618,d619⟩:=y613
 obtain ⟨le620,hr621⟩:=hG615
 have hv622:=z6b hq614
 simp only at le620 hr621 hm he hv622
 have hlt623:=z1u _ _ _ _ _ _ hv622
 replace rpT:=rpT.mono le620
 replace rG:=RGiven.mono le620 rG
 replace re:=REx.mono _ _ _ _ le620 re
 replace rv:=REnv.mono le620 rv
 replace hat18:=hat18.mono le620
 replace h46:=h46.up le620
 replace ha368:=ha368.mono le620
 replace hr369:=REx.mono _ _ _ _ le620 hr369
 replace hr520:=RVal.mono _ _ _ _ le620 hr520
 replace ha544:=ha544.mono le620
 replace hr545:=RArm.mono _ _ _ _ le620 hr545
 replace h553:=REx.mono _ _ _ _ le620 h553
 replace rn:=REnv.mono le620 rn
 replace hm:=hm.nf
 obtain ⟨p626,c627,rfl,hi630,h625,hm628,hn629⟩:=RVal.fm hr621
 refine Sto 3 he hm fun w hm a he =>?_
 refine go he hm fun a he =>?_
 have hmr:=hm
 replace hm:=hm.dl [5,4,3,2,1]
 refine RetA hQ he hmr ?_
 exact evOut ((((((z0u _ _ _ _).trans (z5m h361 hx365)).trans (z5z hv521)).trans (z7r hfa_)).trans (body_eq hbv_)).trans hv622) ⟨(Ψ618,_),rfl,⟨((le519).trans le575).trans le620,hr621⟩,hm⟩
 have hsp631:=z3x hq614 hns611
 replace hm:=hm.dl [5,4,3,2,1]
 exact z8c ((((((z0u _ _ _ _).trans (z5m h361 hx365)).trans (z5z hv521)).trans (z7r hfa_)).trans (body_eq hbv_)).trans hsp631) ⟨rfl,hm.le ((le519).trans le575)⟩
 refine go he hm fun a he =>?_
 replace hm:=hm.dl [0]
 refine hL532 _ _ _ (by subst hmu;omega) ⟨(i+1),rfl,⟨he.pk,hm⟩,?_⟩
 rw [hI533,z0a hx541];simp only [z4m,if_neg h570]
 refine z1h he hm fun a he =>?_
 refine Sto 2 he hm fun w hm a he =>?_
 refine go he hm fun a he =>?_
 have hmr:=hm
 replace hm:=hm.dl [4,3,2,1]
 refine RetA hQ he hmr ?_
 exact evOut ((((z0u _ _ _ _).trans (z5m h361 hx365)).trans (z5z hv521)).trans (armOf_none (by rw [hI533,z0g h535];rfl))) ⟨(Ψ517,_),rfl,⟨le519,RVal.iff.2 ⟨_,rfl,(show I64 0 from ⟨by decide,by decide⟩),SliceOf.nil 3⟩⟩,hm⟩
 have hsp634:=z3x hq513 (z2v hns510)
 replace hm:=hm.dl [4,3,2,1]
 exact z8c (((z0u _ _ _ _).trans (z5m h361 hx365)).trans (z6o hsp634)) ⟨rfl,hm.le (Fz.Le.refl _)⟩
 refine go he hm fun a he =>?_
 by_cases h636:e.kind=8
 refine go he hm fun a he =>?_
 have hns638:=hns
 rw [step_op h636] at hns638
 replace hm:=hm.pl 3
 refine z4u hQ call158 he hm (fun q639 y640 w hq641 hG642 hm a he =>?_) (fun q639 w hq641 hm =>?_) (c:=each_step (fun g1_ h_=>ih g1_ (by omega)) rpT rG h46 rv (z3g hsh).2.1 (z3g hsh).1 (by omega) (by omega) (z2v hns638) hm)
 obtain ⟨z643,g644⟩:=q639
 obtain ⟨Ψ645,d646⟩:=y640
 obtain ⟨le647,hr648⟩:=hG642
 have hv649:=z6b hq641
 simp only at le647 hr648 hm he hv649
 have hlt650:=each_le hv649
 replace rG:=RGiven.mono le647 rG
 replace re:=REx.mono _ _ _ _ le647 re
 replace rv:=REnv.mono le647 rv
 replace hat18:=hat18.mono le647
 replace hm:=hm.nf
 obtain ⟨p651,c652,rfl,hmx653,hnx654⟩:=hr648.fm
 have hns655:=ns_ok hns638 hv649
 refine Reg [1,2,1,1,1,2,1,1,1,2,0,0] [1,2,3] he hm fun w hm a he =>?_
 have hq2_:=opOf_len hns655
 have hq0_:0 < z643.length:=by omega
 have hq1_:1 < z643.length:=by omega
 refine go he hm fun a he =>?_
 obtain ⟨q657,rfl,x658,hx659,cs660,hl661,ha662,hr663⟩:=hr648.el hnx654 hq0_
 obtain ⟨p666,c667,rfl,hi670,h665,hm668,hn669⟩:=RVal.fm hr663
 refine go he hm fun a he =>?_
 obtain ⟨x671,hx672⟩:=z2d hq1_
 obtain ⟨cs673,hl674,ha675,hr676⟩:=hr648.elem hx672
 obtain ⟨p679,c680,rfl,hi683,h678,hm681,hn682⟩:=RVal.fm hr676
 refine z2i call159 he hm (fun y684 w hG685 hm a he =>?_) (c:=operate_ok (by obtain ⟨_,_,h_,_⟩:=RVal.iff.1 hr663;exact h_) (by obtain ⟨_,_,h_,_⟩:=RVal.iff.1 hr676;exact h_) hm)
 obtain ⟨Ψ686,d687⟩:=y684
 obtain ⟨le688,hr689⟩:=hG685
 simp only at le688 hr689 hm he
 replace rG:=RGiven.mono le688 rG
 replace re:=REx.mono _ _ _ _ le688 re
 replace rv:=REnv.mono le688 rv
 replace hat18:=hat18.mono le688
 replace ha662:=ha662.mono le688
 replace hr663:=RVal.mono _ _ _ _ le688 hr663
 replace ha675:=ha675.mono le688
 replace hr676:=RVal.mono _ _ _ _ le688 hr676
 replace hm:=hm.nf
 obtain ⟨p692,c693,rfl,hi696,h691,hm694,hn695⟩:=RVal.fm hr689
 refine Sto 1 he hm fun w hm a he =>?_
 refine go he hm fun a he =>?_
 have hmr:=hm
 replace hm:=hm.dl [3,2,1]
 refine RetA hQ he hmr ?_
 exact evOut ((((z0u _ _ _ _).trans (step_op h636)).trans (z5z hv649)).trans (opOf_eq hx659 hx672)) ⟨(Ψ686,_),rfl,⟨(le647).trans le688,hr689⟩,hm⟩
 have hsp697:=z3x hq641 (z2v hns638)
 replace hm:=hm.dl [3,2,1]
 exact z8c (((z0u _ _ _ _).trans (step_op h636)).trans (z6o hsp697)) ⟨rfl,hm.le (Fz.Le.refl _)⟩
 refine z1h he hm fun a he =>?_
 refine Sto 0 he hm fun w hm a he =>?_
 refine go he hm fun a he =>?_
 have hmr:=hm
 replace hm:=hm.dl [2,1,0]
 refine RetA hQ he hmr ?_
 exact evOut ((z0u _ _ _ _).trans (step_none (by have h_:=h68;omega) (by have h_:=h71;omega) (by have h_:=h99;omega) (by have h_:=h111;omega) (by have h_:=h133;omega) (by have h_:=h202;omega) (by have h_:=h361;omega) (by have h_:=h636;omega))) ⟨(Φ,_),rfl,⟨Fz.Le.refl _,RVal.iff.2 ⟨_,rfl,(show I64 0 from ⟨by decide,by decide⟩),SliceOf.nil 3⟩⟩,hm⟩
theorem eval_all {T:Table} {inp:List (Bs×Val)} (hF:FunsOk T):∀g,y0h Tryz.prog T inp g:=by
 suffices H:∀n g,g < n→y0h Tryz.prog T inp g from fun g=>H _ g (Nat.lt_succ_self _)
 intro n
 induction n with
 | zero=>intro g h;omega
 | succ n ih =>
  intro g h
  cases g with
  | zero=>exact eval_zero
  | succ g=>exact eval_succ hF fun g1 h1=>ih g1 (by omega)
theorem call_all {T:Table} {inp:List (Bs×Val)} (hF:FunsOk T) (g:Nat):CallSpec Tryz.prog T inp g:=callS_step (eval_all hF g)
end Go.Sw

namespace Go.Sw
open Go.Proofs.Tryz
open Go.Proofs
set_option maxRecDepth 20000
set_option maxHeartbeats 4000000
theorem run1_ok {Φ:Fz} {K:List Res} {w:World} {p:Addr} {T:Table} {d0:List Value} {c:Core} {mg:Value} {inp:List (Bs×Val)} {fuel b0 b1 b2 b3 b4 b5 b6:Nat} (rpc:RCore Φ d0 c) (rpT:RTable Φ p T) (rG:RGiven Φ mg inp) (hF:FunsOk T) (hlen:c.outputs.length≤1000) (hfu:fuel≤1000000)
  (hns:z3y ⟨T.funs,inp⟩ c.outputs fuel≠.stuck) (hm:Mem Φ (.blk b0 (ob d0 27)::.blk b1 (ob [.pointer (some p)] 89)::.blk b2 (ob [mg] 94)::.blk b3 (ob [.int .i64 ((fuel:Nat):Int)] 3)::.blk b4 (ob [.slice none 0 0] 93)::.blk b5 (ob [.slice none 0 0] 38)::.blk b6 (ob [.slice none 0 0,.int .i64 ((0:Nat):Int)] 30)::K) w) :
  Calls Tryz.prog 46 (List.toArray [.pointer (some ⟨b0,0,none⟩),.pointer (some ⟨b1,0,none⟩),.pointer (some ⟨b2,0,none⟩),.pointer (some ⟨b3,0,none⟩),.pointer (some ⟨b4,0,none⟩),.pointer (some ⟨b5,0,none⟩),.pointer (some ⟨b6,0,none⟩)]) w (fun e w'=>Out (endP (z3y ⟨T.funs,inp⟩ c.outputs fuel))
   (fun x=>∃y:Fz×Value×List Int×Value,e=.returned (.int .i64 ((0:Nat):Int))∧(Φ.Le y.1∧totalP y.2.2.1=((fuel - x.2:Nat):Int)∧y.2.2.1.length≤1000∧SliceOf RNamed y.1 4 y.2.2.2 (z6z c.outputs x.1)∧NewRow Φ y.2.2.2)∧Mem y.1 (.blk b4 (ob [y.2.1] 93)::.gs y.2.1 3 1 (ints y.2.2.1)::.blk b6 (ob [y.2.2.2,.int .i64 ((0:Nat):Int)] 30)::K) w')
   (fun c=>(e=.returned (.int .i64 ((c:Nat):Int))∨c=4∧e=.panicked (spentC ()))∧Mem Φ K w')):=by
 obtain ⟨p3,c4,p9,c10,p15,c16,p21,c22,rfl,h2,h8,h14,h20,hm5,hn6,hm11,hn12,hm17,hn18,hm23,hn24⟩:=RCore.fm rpc
 obtain ⟨cs41,m25,m26,m27,m28,d29,d30,d31,d32,hat42,hcl43,hcore44,ma33,mr37,ma34,mr38,ma35,mr39,ma36,mr40⟩:=rpT.ex
 obtain ⟨p47,c48,p53,c54,p59,c60,p65,c66,rfl,h46,h52,h58,h64,hm49,hn50,hm55,hn56,hm61,hn62,hm67,hn68⟩:=RCore.fm hcore44
 have hrow0_:=hm
 clear hrow0_
 refine z0l func46 ntmps46 fun Q hQ a he =>?_
 refine go he hm fun a he =>?_
 replace hm:=hm.nilRow 3 1
 replace hm:=hm.nf
 replace hm:=hm.nilRow 42 3
 replace hm:=hm.nf
 refine go he hm fun a he =>?_
 refine z1i (he.ks [0,1,2,3,4,5,6,16,17]) hm (fun R mm a w=>∃(Ψ72:Fz) (i:Nat) (u:Value) (cl:List Int) (uv:Value) (cs:List Value) (xs:List Val) (g1:Nat),mm=c.outputs.length - i∧R Ψ72 [(18,.int .i64 ((i:Nat):Int))] [(0,.gs (uv) 42 3 cs),(1,.gs (u) 3 1 (ints cl)),(6,.blk b4 (ob [u] 93)),(7,.blk b5 (ob [uv] 38))] a w∧(Φ.Le Ψ72∧(Chunks (RVal Ψ72) 3 cs xs∧xs.length=i∧i≤c.outputs.length∧g1≤fuel∧cl.length=i∧totalP cl=((fuel - g1:Nat):Int)∧z3y ⟨T.funs,inp⟩ c.outputs fuel=(z3y ⟨T.funs,inp⟩ (c.outputs.drop i) g1).bind fun vs g2=>.ok (xs++vs) g2))) (c.outputs.length - 0) ⟨Φ,0,.slice none 0 0,[],.slice none 0 0,[],[],fuel,rfl,⟨he.pk,hm⟩,⟨Fz.Le.refl _,⟨rfl,rfl,Nat.zero_le _,Nat.le_refl _,rfl,by simp [totalP],each_id _⟩⟩⟩ ?_
 clear hm he
 rintro mm a w ⟨Ψ72,i,u,cl,uv,cs,xs,g1,hmu,⟨he,hm⟩,hI75⟩ L74 hL74
 replace hm:=hm.nf
 obtain ⟨le73,hI75⟩:=hI75
 replace h20:=h20.up le73
 replace rpc:=RCore.mono _ _ _ _ le73 rpc
 replace rpT:=rpT.mono le73
 replace rG:=RGiven.mono le73 rG
 replace hat42:=hat42.mono le73
 replace ma35:=ma35.mono le73
 replace mr39:=mr39.up le73
 obtain ⟨hch,hxl,hil,hg1,hcl,htot,hI_⟩:=hI75
 refine go he hm fun a he =>?_
 by_cases h77:i < c.outputs.length
 refine go he hm fun a he =>?_
 obtain ⟨q81,rfl,x82,hx83,cs84,hl85,ha86,hr87⟩:=h20.el hn24 h77
 obtain rfl:cs84=[.string x82]:=hr87
 refine Alc he hm fun b89 w hm a he =>?_
 refine Sto 0 he hm fun w hm a he =>?_
 refine go he hm fun a he =>?_
 refine z1v [2,2,2,2,0,1,1,0,0] (.q 0 (.q 1 (.q 2 (.q 3 (.e2 4 7 (.q 5 (.q 6 (.e 7 (.e 8 (.done))))) (.e 4 (.q 5 (.q 6 (.e 8 (.done)))))))))) [0,1,3,4,5,6,7,8,9] he hm fun w hm =>?_
 refine go he hm fun a he =>?_
 refine d_e2 ?_ ?_
 replace hm:=hm.pl 2
 refine z0y call47 he hm (fun w hm a he =>?_) (c:=total_ok (l:=cl) (by omega) hm)
 refine Qq he hm (fun a he =>?_) (o:=by exact fun _ _ _ he hs=>z7h ((g1:Nat):Int) he rfl rfl (by rw [htot,z1d (by omega)];omega))
 refine Qq he hm (fun a he =>?_) (o:=by exact fun _ _ _ he hs=>y_build (vs:=[(0,.pointer (some p)),(1,mg),(2,.pointer (some ⟨b89,0,none⟩)),(3,.int .i64 ((g1:Nat):Int))]) (cs:=[.pointer (some p),mg,.pointer (some ⟨b89,0,none⟩),.int .i64 ((g1:Nat):Int)]) he rfl (by rcases rG with ⟨_,_,h_,_⟩ | ⟨h_,_⟩ <;> rw [h_] <;> kernel_rfl))
 refine Alc he hm fun b91 w hm a he =>?_
 refine d_e0 he rfl rfl (z2f 0 (cs:=[.pointer none,.map none,.pointer none,.int .i64 ((0:Nat):Int)]) (vs:=[.pointer (some p),mg,.pointer (some ⟨b89,0,none⟩),.int .i64 ((g1:Nat):Int)]) he hm rfl rfl rfl rfl sizeOf99 rfl (by simp only [List.all_cons,RGiven.one rG];rfl) rfl fun w hm=>⟨z9d (by kernel_rfl),fun a he =>?_⟩)
 replace hm:=hm.nf
 refine go he hm fun a he =>?_
 refine z1v [2,2,1,1,2,1,2,0,0,0] (.q 0 (.q 1 (.q 2 (.q 3 (.q 4 (.q 5 (.q 6 (.e2 7 8 (.e 8 (.e 9 (.done))) (.e 7 (.e 9 (.done))))))))))) [0,1,3,4,5,6,7,8,9,10] he hm fun w hm =>?_
 replace hm:Mem Ψ72 (.blk b91 (ob [.pointer (some p),mg,.pointer (some ⟨b89,0,none⟩),.int .i64 ((g1:Nat):Int)] 99)::.gs (u) 3 1 (ints cl)::.blk b89 (ob [.int .i64 ((g1 - g1:Nat):Int)] 3)::.gs (uv) 42 3 cs::.blk b0 (ob [.slice p3 c.datas.length c4,.slice p9 c.inputs.length c10,.slice p15 c.funs.length c16,.slice (some q81) c.outputs.length c22] 27)::.blk b1 (ob [.pointer (some p)] 89)::.blk b2 (ob [mg] 94)::.blk b3 (ob [.int .i64 ((fuel:Nat):Int)] 3)::.blk b4 (ob [u] 93)::.blk b5 (ob [uv] 38)::.blk b6 (ob [.slice none 0 0,.int .i64 ((0:Nat):Int)] 30)::K) w:=by rw [Nat.sub_self];exact hm
 refine go he hm fun a he =>?_
 rcases hf93:mget (d31) x82 with _ | vf94
 exact absurd (by rw [hI_,z0a hx83,outs_nofun (MapRel.none mr39 hf93)];rfl) hns
 obtain ⟨y95,hy96,cs97,rfl,hr98⟩:=mr39.get hf93
 obtain ⟨s99,b105,rfl,h100,h106⟩:=id hr98
 obtain ⟨p101,c102,rfl,hm103,hn104⟩:=h100.fm
 obtain ⟨p109,c110,p115,c116,rfl,hi119,h108,h114,hm111,hn112,hm117,hn118⟩:=REx.fm h106
 have hf93_:=congrArg (z0i false (.agg (List.toArray [.string ⟨#[]⟩,.slice none 0 0,.string ⟨#[]⟩,.int .i64 ((0:Nat):Int),.int .i64 ((0:Nat):Int),.string ⟨#[]⟩,.slice none 0 0,.slice none 0 0]))) hf93
 refine Qq he hm (fun a he =>?_) (o:=by exact fun _ _ _ he hs=>Ok.cast (z0o runUnderlying103 runUnderlying9 zeroValue68 he hs rfl rfl ma35) (show z0i false (.agg (List.toArray [.string ⟨#[]⟩,.slice none 0 0,.string ⟨#[]⟩,.int .i64 ((0:Nat):Int),.int .i64 ((0:Nat):Int),.string ⟨#[]⟩,.slice none 0 0,.slice none 0 0])) (mget (d31) x82)=.agg (List.toArray [.string y95.name,.slice p101 y95.params.length c102,.string y95.result,.int .i64 (y95.body.kind),.int .i64 (y95.body.num),.string y95.body.name,.slice p109 y95.body.args.length c110,.slice p115 y95.body.arms.length c116]) from hf93_))
 refine d_e2 ?_ ?_
 have hnx120:=hns
 rw [hI_,z0a hx83,z8h hy96] at hnx120
 replace hnx120:=z2v (r:=z5e (z2g ⟨T.funs,inp⟩) y95 [] g1) (z2v hnx120)
 replace hm:=hm.pl 2
 refine z4u hQ call48 he hm (fun q121 y122 w hq123 hG124 hm a he =>?_) (fun q121 w hq123 hm =>?_) (c:=call_all hF g1 rpT rG hr98 (SliceOf.nil 3) (hF _ _ hy96).1 (hF _ _ hy96).2 (Nat.le_refl _) (by omega) hnx120 hm)
 obtain ⟨z125,g126⟩:=q121
 obtain ⟨Ψ127,d128⟩:=y122
 obtain ⟨le129,hr130⟩:=hG124
 have hv131:=z6b hq123
 simp only at le129 hr130 hm he hv131
 have hlt132:=z9i hv131
 replace h20:=h20.up le129
 replace rpc:=RCore.mono _ _ _ _ le129 rpc
 replace rpT:=rpT.mono le129
 replace rG:=RGiven.mono le129 rG
 replace hat42:=hat42.mono le129
 replace ma35:=ma35.mono le129
 replace mr39:=mr39.up le129
 replace hch:=hch.mono fun _ _ h=>RVal.mono _ _ _ _ le129 h
 replace ha86:=ha86.mono le129
 replace hr98:=RFun.mono _ _ _ _ le129 hr98
 replace h106:=REx.mono _ _ _ _ le129 h106
 replace hm:=hm.nf
 obtain ⟨p135,c136,rfl,hi139,h134,hm137,hn138⟩:=RVal.fm hr130
 refine Alc he hm fun b140 w hm a he =>?_
 refine Sto 0 he hm fun w hm a he =>?_
 refine go he hm fun a he =>?_
 refine z1v [2,2,0,0,2,0,0,0,0,0] (.q 0 (.q 1 (.q 4 (.e2 2 5 (.e2 3 5 (.e 5 (.e 6 (.e 7 (.e 8 (.e 9 (.done)))))) (.e2 3 6 (.e 6 (.e 7 (.e 8 (.e 9 (.done))))) (.e 3 (.e 7 (.e 8 (.e 9 (.done))))))) (.e2 2 6 (.e2 3 6 (.e 6 (.e 7 (.e 8 (.e 9 (.done))))) (.e 3 (.e 7 (.e 8 (.e 9 (.done)))))) (.e 2 (.e 3 (.e 7 (.e 8 (.e 9 (.done))))))))))) [0,1,2,5,6,7,8,9,10,11] he hm fun w hm =>?_
 refine go he hm fun a he =>?_
 refine d_e2 ?_ ?_
 refine BldS he hm fun v141 w hm a he =>?_
 refine d_e2 ?_ ?_
 refine App_ 4 z7q he hm (fun v142 w hm a he =>?_)
 rw [← z1o] at hm
 refine d_e he rfl rfl rfl (z6w (z1w 1 (vs:=[.string z125.con,.int .i64 (z125.num),.slice p135 z125.args.length c136]) he hm.toSees rfl rfl isAgg42 sizeOf42 rfl rfl) ⟨fun _=>hm.sn (Fz.Le.refl _),fun a he =>?_⟩)
 refine BldS he hm fun v143 w hm a he =>?_
 refine App_ 6 z7b he hm (fun v144 w hm a he =>?_)
 refine Sto 11 he hm fun w hm a he =>?_
 refine Sto 12 he hm fun w hm a he =>?_
 refine go he hm fun a he =>?_
 replace hm:=hm.ar [4,3,2,1,0] [8,8,8,8,8,8,8,7,8]
 refine hL74 _ _ _ (by subst hmu;omega) ⟨(Ψ127),(i+1),(v142),((cl++[((g1 - g126:Nat):Int)])),(v144),((cs++[.string z125.con,.int .i64 (z125.num),.slice p135 z125.args.length c136])),(xs++[z125]),(g126),rfl,⟨he.pk,by exact hm⟩,?_⟩
 refine ⟨(le73).trans le129,?_⟩
 refine ⟨hch.snoc rfl hr130,by simp [hxl],by omega,by omega,by simp [hcl],?_,?_⟩
 rw [z0w,htot,z1d (by omega)];omega
 rw [hI_,z0a hx83]
 exact z0r hy96 hv131
 refine d_e he rfl rfl rfl (z6w (z1w 1 (vs:=[.string z125.con,.int .i64 (z125.num),.slice p135 z125.args.length c136]) he hm.toSees rfl rfl isAgg42 sizeOf42 rfl rfl) ⟨fun _=>hm.sn (Fz.Le.refl _),fun a he =>?_⟩)
 refine d_e2 ?_ ?_
 refine App_ 4 z7q he hm (fun v145 w hm a he =>?_)
 rw [← z1o] at hm
 refine BldS he hm fun v146 w hm a he =>?_
 refine App_ 6 z7b he hm (fun v147 w hm a he =>?_)
 refine Sto 11 he hm fun w hm a he =>?_
 refine Sto 12 he hm fun w hm a he =>?_
 refine go he hm fun a he =>?_
 replace hm:=hm.ar [4,3,2,1,0] [8,8,8,8,8,8,8,7,8]
 refine hL74 _ _ _ (by subst hmu;omega) ⟨(Ψ127),(i+1),(v145),((cl++[((g1 - g126:Nat):Int)])),(v147),((cs++[.string z125.con,.int .i64 (z125.num),.slice p135 z125.args.length c136])),(xs++[z125]),(g126),rfl,⟨he.pk,by exact hm⟩,?_⟩
 refine ⟨(le73).trans le129,?_⟩
 refine ⟨hch.snoc rfl hr130,by simp [hxl],by omega,by omega,by simp [hcl],?_,?_⟩
 rw [z0w,htot,z1d (by omega)];omega
 rw [hI_,z0a hx83]
 exact z0r hy96 hv131
 refine BldS he hm fun v148 w hm a he =>?_
 refine App_ 5 z7q he hm (fun v149 w hm a he =>?_)
 rw [← z1o] at hm
 refine App_ 6 z7b he hm (fun v150 w hm a he =>?_)
 refine Sto 11 he hm fun w hm a he =>?_
 refine Sto 12 he hm fun w hm a he =>?_
 refine go he hm fun a he =>?_
 replace hm:=hm.ar [4,3,2,1,0] [8,8,8,8,8,8,8,7,8]
 refine hL74 _ _ _ (by subst hmu;omega) ⟨(Ψ127),(i+1),(v149),((cl++[((g1 - g126:Nat):Int)])),(v150),((cs++[.string z125.con,.int .i64 (z125.num),.slice p135 z125.args.length c136])),(xs++[z125]),(g126),rfl,⟨he.pk,by exact hm⟩,?_⟩
 refine ⟨(le73).trans le129,?_⟩
 refine ⟨hch.snoc rfl hr130,by simp [hxl],by omega,by omega,by simp [hcl],?_,?_⟩
 rw [z0w,htot,z1d (by omega)];omega
 rw [hI_,z0a hx83]
 exact z0r hy96 hv131
 refine d_e he rfl rfl rfl (z6w (z1w 0 (vs:=[.string z125.con,.int .i64 (z125.num),.slice p135 z125.args.length c136]) he hm.toSees rfl rfl isAgg42 sizeOf42 rfl rfl) ⟨fun _=>hm.sn (Fz.Le.refl _),fun a he =>?_⟩)
 refine d_e2 ?_ ?_
 refine BldS he hm fun v151 w hm a he =>?_
 refine d_e2 ?_ ?_
 refine App_ 4 z7q he hm (fun v152 w hm a he =>?_)
 rw [← z1o] at hm
 refine BldS he hm fun v153 w hm a he =>?_
 refine App_ 6 z7b he hm (fun v154 w hm a he =>?_)
 refine Sto 11 he hm fun w hm a he =>?_
 refine Sto 12 he hm fun w hm a he =>?_
 refine go he hm fun a he =>?_
 replace hm:=hm.ar [4,3,2,1,0] [8,8,8,8,8,8,8,7,8]
 refine hL74 _ _ _ (by subst hmu;omega) ⟨(Ψ127),(i+1),(v152),((cl++[((g1 - g126:Nat):Int)])),(v154),((cs++[.string z125.con,.int .i64 (z125.num),.slice p135 z125.args.length c136])),(xs++[z125]),(g126),rfl,⟨he.pk,by exact hm⟩,?_⟩
 refine ⟨(le73).trans le129,?_⟩
 refine ⟨hch.snoc rfl hr130,by simp [hxl],by omega,by omega,by simp [hcl],?_,?_⟩
 rw [z0w,htot,z1d (by omega)];omega
 rw [hI_,z0a hx83]
 exact z0r hy96 hv131
 refine BldS he hm fun v155 w hm a he =>?_
 refine App_ 5 z7q he hm (fun v156 w hm a he =>?_)
 rw [← z1o] at hm
 refine App_ 6 z7b he hm (fun v157 w hm a he =>?_)
 refine Sto 11 he hm fun w hm a he =>?_
 refine Sto 12 he hm fun w hm a he =>?_
 refine go he hm fun a he =>?_
 replace hm:=hm.ar [4,3,2,1,0] [8,8,8,8,8,8,8,7,8]
 refine hL74 _ _ _ (by subst hmu;omega) ⟨(Ψ127),(i+1),(v156),((cl++[((g1 - g126:Nat):Int)])),(v157),((cs++[.string z125.con,.int .i64 (z125.num),.slice p135 z125.args.length c136])),(xs++[z125]),(g126),rfl,⟨he.pk,by exact hm⟩,?_⟩
 refine ⟨(le73).trans le129,?_⟩
 refine ⟨hch.snoc rfl hr130,by simp [hxl],by omega,by omega,by simp [hcl],?_,?_⟩
 rw [z0w,htot,z1d (by omega)];omega
 rw [hI_,z0a hx83]
 exact z0r hy96 hv131
 refine BldS he hm fun v158 w hm a he =>?_
 refine BldS he hm fun v159 w hm a he =>?_
 refine App_ 5 z7q he hm (fun v160 w hm a he =>?_)
 rw [← z1o] at hm
 refine App_ 6 z7b he hm (fun v161 w hm a he =>?_)
 refine Sto 11 he hm fun w hm a he =>?_
 refine Sto 12 he hm fun w hm a he =>?_
 refine go he hm fun a he =>?_
 replace hm:=hm.ar [4,3,2,1,0] [8,8,8,8,8,8,8,7,8]
 refine hL74 _ _ _ (by subst hmu;omega) ⟨(Ψ127),(i+1),(v160),((cl++[((g1 - g126:Nat):Int)])),(v161),((cs++[.string z125.con,.int .i64 (z125.num),.slice p135 z125.args.length c136])),(xs++[z125]),(g126),rfl,⟨he.pk,by exact hm⟩,?_⟩
 refine ⟨(le73).trans le129,?_⟩
 refine ⟨hch.snoc rfl hr130,by simp [hxl],by omega,by omega,by simp [hcl],?_,?_⟩
 rw [z0w,htot,z1d (by omega)];omega
 rw [hI_,z0a hx83]
 exact z0r hy96 hv131
 have hsp162:=z3x hq123 hnx120
 replace hm:=hm.dl [10,9,8,7,6,5,4,3,2,1,0]
 exact endOutE (endP_spent (by rw [hI_,z0a hx83];exact z9e hy96 hsp162)) ⟨.inr ⟨rfl,rfl⟩,hm.le (le73)⟩
 refine Alc he hm fun b163 w hm a he =>?_
 have hnx164:=hns
 rw [hI_,z0a hx83,z8h hy96] at hnx164
 replace hnx164:=z2v (r:=z5e (z2g ⟨T.funs,inp⟩) y95 [] g1) (z2v hnx164)
 replace hm:=hm.pl 3
 refine z4u hQ call48 he hm (fun q165 y166 w hq167 hG168 hm a he =>?_) (fun q165 w hq167 hm =>?_) (c:=call_all hF g1 rpT rG hr98 (SliceOf.nil 3) (hF _ _ hy96).1 (hF _ _ hy96).2 (Nat.le_refl _) (by omega) hnx164 hm)
 obtain ⟨z169,g170⟩:=q165
 obtain ⟨Ψ171,d172⟩:=y166
 obtain ⟨le173,hr174⟩:=hG168
 have hv175:=z6b hq167
 simp only at le173 hr174 hm he hv175
 have hlt176:=z9i hv175
 replace h20:=h20.up le173
 replace rpc:=RCore.mono _ _ _ _ le173 rpc
 replace rpT:=rpT.mono le173
 replace rG:=RGiven.mono le173 rG
 replace hat42:=hat42.mono le173
 replace ma35:=ma35.mono le173
 replace mr39:=mr39.up le173
 replace hch:=hch.mono fun _ _ h=>RVal.mono _ _ _ _ le173 h
 replace ha86:=ha86.mono le173
 replace hr98:=RFun.mono _ _ _ _ le173 hr98
 replace h106:=REx.mono _ _ _ _ le173 h106
 replace hm:=hm.nf
 obtain ⟨p179,c180,rfl,hi183,h178,hm181,hn182⟩:=RVal.fm hr174
 refine Sto 1 he hm fun w hm a he =>?_
 refine go he hm fun a he =>?_
 refine z1v [2,2,0,0,2,0,0,0,0,0] (.q 0 (.q 1 (.q 4 (.e2 2 5 (.e2 3 5 (.e 5 (.e 6 (.e 7 (.e 8 (.e 9 (.done)))))) (.e2 3 6 (.e 6 (.e 7 (.e 8 (.e 9 (.done))))) (.e 3 (.e 7 (.e 8 (.e 9 (.done))))))) (.e2 2 6 (.e2 3 6 (.e 6 (.e 7 (.e 8 (.e 9 (.done))))) (.e 3 (.e 7 (.e 8 (.e 9 (.done)))))) (.e 2 (.e 3 (.e 7 (.e 8 (.e 9 (.done))))))))))) [0,1,2,5,6,7,8,9,10,11] he hm fun w hm =>?_
 refine go he hm fun a he =>?_
 refine d_e2 ?_ ?_
 refine BldS he hm fun v184 w hm a he =>?_
 refine d_e2 ?_ ?_
 refine App_ 4 z7q he hm (fun v185 w hm a he =>?_)
 rw [← z1o] at hm
 refine d_e he rfl rfl rfl (z6w (z1w 2 (vs:=[.string z169.con,.int .i64 (z169.num),.slice p179 z169.args.length c180]) he hm.toSees rfl rfl isAgg42 sizeOf42 rfl rfl) ⟨fun _=>hm.sn (Fz.Le.refl _),fun a he =>?_⟩)
 refine BldS he hm fun v186 w hm a he =>?_
 refine App_ 6 z7b he hm (fun v187 w hm a he =>?_)
 refine Sto 11 he hm fun w hm a he =>?_
 refine Sto 12 he hm fun w hm a he =>?_
 refine go he hm fun a he =>?_
 replace hm:=hm.ar [4,3,2,1,0] [8,8,8,8,8,8,8,7,8]
 refine hL74 _ _ _ (by subst hmu;omega) ⟨(Ψ171),(i+1),(v185),((cl++[((g1 - g170:Nat):Int)])),(v187),((cs++[.string z169.con,.int .i64 (z169.num),.slice p179 z169.args.length c180])),(xs++[z169]),(g170),rfl,⟨he.pk,by exact hm⟩,?_⟩
 refine ⟨(le73).trans le173,?_⟩
 refine ⟨hch.snoc rfl hr174,by simp [hxl],by omega,by omega,by simp [hcl],?_,?_⟩
 rw [z0w,htot,z1d (by omega)];omega
 rw [hI_,z0a hx83]
 exact z0r hy96 hv175
 refine d_e he rfl rfl rfl (z6w (z1w 2 (vs:=[.string z169.con,.int .i64 (z169.num),.slice p179 z169.args.length c180]) he hm.toSees rfl rfl isAgg42 sizeOf42 rfl rfl) ⟨fun _=>hm.sn (Fz.Le.refl _),fun a he =>?_⟩)
 refine d_e2 ?_ ?_
 refine App_ 4 z7q he hm (fun v188 w hm a he =>?_)
 rw [← z1o] at hm
 refine BldS he hm fun v189 w hm a he =>?_
 refine App_ 6 z7b he hm (fun v190 w hm a he =>?_)
 refine Sto 11 he hm fun w hm a he =>?_
 refine Sto 12 he hm fun w hm a he =>?_
 refine go he hm fun a he =>?_
 replace hm:=hm.ar [4,3,2,1,0] [8,8,8,8,8,8,8,7,8]
 refine hL74 _ _ _ (by subst hmu;omega) ⟨(Ψ171),(i+1),(v188),((cl++[((g1 - g170:Nat):Int)])),(v190),((cs++[.string z169.con,.int .i64 (z169.num),.slice p179 z169.args.length c180])),(xs++[z169]),(g170),rfl,⟨he.pk,by exact hm⟩,?_⟩
 refine ⟨(le73).trans le173,?_⟩
 refine ⟨hch.snoc rfl hr174,by simp [hxl],by omega,by omega,by simp [hcl],?_,?_⟩
 rw [z0w,htot,z1d (by omega)];omega
 rw [hI_,z0a hx83]
 exact z0r hy96 hv175
 refine BldS he hm fun v191 w hm a he =>?_
 refine App_ 5 z7q he hm (fun v192 w hm a he =>?_)
 rw [← z1o] at hm
 refine App_ 6 z7b he hm (fun v193 w hm a he =>?_)
 refine Sto 11 he hm fun w hm a he =>?_
 refine Sto 12 he hm fun w hm a he =>?_
 refine go he hm fun a he =>?_
 replace hm:=hm.ar [4,3,2,1,0] [8,8,8,8,8,8,8,7,8]
 refine hL74 _ _ _ (by subst hmu;omega) ⟨(Ψ171),(i+1),(v192),((cl++[((g1 - g170:Nat):Int)])),(v193),((cs++[.string z169.con,.int .i64 (z169.num),.slice p179 z169.args.length c180])),(xs++[z169]),(g170),rfl,⟨he.pk,by exact hm⟩,?_⟩
 refine ⟨(le73).trans le173,?_⟩
 refine ⟨hch.snoc rfl hr174,by simp [hxl],by omega,by omega,by simp [hcl],?_,?_⟩
 rw [z0w,htot,z1d (by omega)];omega
 rw [hI_,z0a hx83]
 exact z0r hy96 hv175
 refine d_e he rfl rfl rfl (z6w (z1w 1 (vs:=[.string z169.con,.int .i64 (z169.num),.slice p179 z169.args.length c180]) he hm.toSees rfl rfl isAgg42 sizeOf42 rfl rfl) ⟨fun _=>hm.sn (Fz.Le.refl _),fun a he =>?_⟩)
 refine d_e2 ?_ ?_
 refine BldS he hm fun v194 w hm a he =>?_
 refine d_e2 ?_ ?_
 refine App_ 4 z7q he hm (fun v195 w hm a he =>?_)
 rw [← z1o] at hm
 refine BldS he hm fun v196 w hm a he =>?_
 refine App_ 6 z7b he hm (fun v197 w hm a he =>?_)
 refine Sto 11 he hm fun w hm a he =>?_
 refine Sto 12 he hm fun w hm a he =>?_
 refine go he hm fun a he =>?_
 replace hm:=hm.ar [4,3,2,1,0] [8,8,8,8,8,8,8,7,8]
 refine hL74 _ _ _ (by subst hmu;omega) ⟨(Ψ171),(i+1),(v195),((cl++[((g1 - g170:Nat):Int)])),(v197),((cs++[.string z169.con,.int .i64 (z169.num),.slice p179 z169.args.length c180])),(xs++[z169]),(g170),rfl,⟨he.pk,by exact hm⟩,?_⟩
 refine ⟨(le73).trans le173,?_⟩
 refine ⟨hch.snoc rfl hr174,by simp [hxl],by omega,by omega,by simp [hcl],?_,?_⟩
 rw [z0w,htot,z1d (by omega)];omega
 rw [hI_,z0a hx83]
 exact z0r hy96 hv175
 refine BldS he hm fun v198 w hm a he =>?_
 refine App_ 5 z7q he hm (fun v199 w hm a he =>?_)
 rw [← z1o] at hm
 refine App_ 6 z7b he hm (fun v200 w hm a he =>?_)
 refine Sto 11 he hm fun w hm a he =>?_
 refine Sto 12 he hm fun w hm a he =>?_
 refine go he hm fun a he =>?_
 replace hm:=hm.ar [4,3,2,1,0] [8,8,8,8,8,8,8,7,8]
 refine hL74 _ _ _ (by subst hmu;omega) ⟨(Ψ171),(i+1),(v199),((cl++[((g1 - g170:Nat):Int)])),(v200),((cs++[.string z169.con,.int .i64 (z169.num),.slice p179 z169.args.length c180])),(xs++[z169]),(g170),rfl,⟨he.pk,by exact hm⟩,?_⟩
 refine ⟨(le73).trans le173,?_⟩
 refine ⟨hch.snoc rfl hr174,by simp [hxl],by omega,by omega,by simp [hcl],?_,?_⟩
 rw [z0w,htot,z1d (by omega)];omega
 rw [hI_,z0a hx83]
 exact z0r hy96 hv175
 refine BldS he hm fun v201 w hm a he =>?_
 refine BldS he hm fun v202 w hm a he =>?_
 refine App_ 5 z7q he hm (fun v203 w hm a he =>?_)
 rw [← z1o] at hm
 refine App_ 6 z7b he hm (fun v204 w hm a he =>?_)
 refine Sto 11 he hm fun w hm a he =>?_
 refine Sto 12 he hm fun w hm a he =>?_
 refine go he hm fun a he =>?_
 replace hm:=hm.ar [4,3,2,1,0] [8,8,8,8,8,8,8,7,8]
 refine hL74 _ _ _ (by subst hmu;omega) ⟨(Ψ171),(i+1),(v203),((cl++[((g1 - g170:Nat):Int)])),(v204),((cs++[.string z169.con,.int .i64 (z169.num),.slice p179 z169.args.length c180])),(xs++[z169]),(g170),rfl,⟨he.pk,by exact hm⟩,?_⟩
 refine ⟨(le73).trans le173,?_⟩
 refine ⟨hch.snoc rfl hr174,by simp [hxl],by omega,by omega,by simp [hcl],?_,?_⟩
 rw [z0w,htot,z1d (by omega)];omega
 rw [hI_,z0a hx83]
 exact z0r hy96 hv175
 have hsp205:=z3x hq167 hnx164
 replace hm:=hm.dl [11,10,9,8,7,6,5,4,3,2,1,0]
 exact endOutE (endP_spent (by rw [hI_,z0a hx83];exact z9e hy96 hsp205)) ⟨.inr ⟨rfl,rfl⟩,hm.le (le73)⟩
 refine Alc he hm fun b206 w hm a he =>?_
 replace hm:=hm.pl 3
 refine z0y call47 he hm (fun w hm a he =>?_) (c:=total_ok (l:=cl) (by omega) hm)
 refine Qq he hm (fun a he =>?_) (o:=by exact fun _ _ _ he hs=>z7h ((g1:Nat):Int) he rfl rfl (by rw [htot,z1d (by omega)];omega))
 refine Qq he hm (fun a he =>?_) (o:=by exact fun _ _ _ he hs=>y_build (vs:=[(0,.pointer (some p)),(1,mg),(2,.pointer (some ⟨b89,0,none⟩)),(3,.int .i64 ((g1:Nat):Int))]) (cs:=[.pointer (some p),mg,.pointer (some ⟨b89,0,none⟩),.int .i64 ((g1:Nat):Int)]) he rfl (by rcases rG with ⟨_,_,h_,_⟩ | ⟨h_,_⟩ <;> rw [h_] <;> kernel_rfl))
 refine d_e0 he rfl rfl (z2f 1 (cs:=[.pointer none,.map none,.pointer none,.int .i64 ((0:Nat):Int)]) (vs:=[.pointer (some p),mg,.pointer (some ⟨b89,0,none⟩),.int .i64 ((g1:Nat):Int)]) he hm rfl rfl rfl rfl sizeOf99 rfl (by simp only [List.all_cons,RGiven.one rG];rfl) rfl fun w hm=>⟨z9d (by kernel_rfl),fun a he =>?_⟩)
 replace hm:=hm.nf
 refine go he hm fun a he =>?_
 refine z1v [2,2,1,1,2,1,2,0,0,0] (.q 0 (.q 1 (.q 2 (.q 3 (.q 4 (.q 5 (.q 6 (.e2 7 8 (.e 8 (.e 9 (.done))) (.e 7 (.e 9 (.done))))))))))) [0,1,3,4,5,6,7,8,9,10] he hm fun w hm =>?_
 replace hm:Mem Ψ72 (.gs (u) 3 1 (ints cl)::.blk b206 (ob [.pointer (some p),mg,.pointer (some ⟨b89,0,none⟩),.int .i64 ((g1:Nat):Int)] 99)::.blk b89 (ob [.int .i64 ((g1 - g1:Nat):Int)] 3)::.gs (uv) 42 3 cs::.blk b0 (ob [.slice p3 c.datas.length c4,.slice p9 c.inputs.length c10,.slice p15 c.funs.length c16,.slice (some q81) c.outputs.length c22] 27)::.blk b1 (ob [.pointer (some p)] 89)::.blk b2 (ob [mg] 94)::.blk b3 (ob [.int .i64 ((fuel:Nat):Int)] 3)::.blk b4 (ob [u] 93)::.blk b5 (ob [uv] 38)::.blk b6 (ob [.slice none 0 0,.int .i64 ((0:Nat):Int)] 30)::K) w:=by rw [Nat.sub_self];exact hm
 refine go he hm fun a he =>?_
 rcases hf208:mget (d31) x82 with _ | vf209
 exact absurd (by rw [hI_,z0a hx83,outs_nofun (MapRel.none mr39 hf208)];rfl) hns
 obtain ⟨y210,hy211,cs212,rfl,hr213⟩:=mr39.get hf208
 obtain ⟨s214,b220,rfl,h215,h221⟩:=id hr213
 obtain ⟨p216,c217,rfl,hm218,hn219⟩:=h215.fm
 obtain ⟨p224,c225,p230,c231,rfl,hi234,h223,h229,hm226,hn227,hm232,hn233⟩:=REx.fm h221
 have hf208_:=congrArg (z0i false (.agg (List.toArray [.string ⟨#[]⟩,.slice none 0 0,.string ⟨#[]⟩,.int .i64 ((0:Nat):Int),.int .i64 ((0:Nat):Int),.string ⟨#[]⟩,.slice none 0 0,.slice none 0 0]))) hf208
 refine Qq he hm (fun a he =>?_) (o:=by exact fun _ _ _ he hs=>Ok.cast (z0o runUnderlying103 runUnderlying9 zeroValue68 he hs rfl rfl ma35) (show z0i false (.agg (List.toArray [.string ⟨#[]⟩,.slice none 0 0,.string ⟨#[]⟩,.int .i64 ((0:Nat):Int),.int .i64 ((0:Nat):Int),.string ⟨#[]⟩,.slice none 0 0,.slice none 0 0])) (mget (d31) x82)=.agg (List.toArray [.string y210.name,.slice p216 y210.params.length c217,.string y210.result,.int .i64 (y210.body.kind),.int .i64 (y210.body.num),.string y210.body.name,.slice p224 y210.body.args.length c225,.slice p230 y210.body.arms.length c231]) from hf208_))
 refine d_e2 ?_ ?_
 have hnx235:=hns
 rw [hI_,z0a hx83,z8h hy211] at hnx235
 replace hnx235:=z2v (r:=z5e (z2g ⟨T.funs,inp⟩) y210 [] g1) (z2v hnx235)
 replace hm:=hm.pl 2
 refine z4u hQ call48 he hm (fun q236 y237 w hq238 hG239 hm a he =>?_) (fun q236 w hq238 hm =>?_) (c:=call_all hF g1 rpT rG hr213 (SliceOf.nil 3) (hF _ _ hy211).1 (hF _ _ hy211).2 (Nat.le_refl _) (by omega) hnx235 hm)
 obtain ⟨z240,g241⟩:=q236
 obtain ⟨Ψ242,d243⟩:=y237
 obtain ⟨le244,hr245⟩:=hG239
 have hv246:=z6b hq238
 simp only at le244 hr245 hm he hv246
 have hlt247:=z9i hv246
 replace h20:=h20.up le244
 replace rpc:=RCore.mono _ _ _ _ le244 rpc
 replace rpT:=rpT.mono le244
 replace rG:=RGiven.mono le244 rG
 replace hat42:=hat42.mono le244
 replace hch:=hch.mono fun _ _ h=>RVal.mono _ _ _ _ le244 h
 replace ha86:=ha86.mono le244
 replace hr213:=RFun.mono _ _ _ _ le244 hr213
 replace h221:=REx.mono _ _ _ _ le244 h221
 replace hm:=hm.nf
 obtain ⟨p250,c251,rfl,hi254,h249,hm252,hn253⟩:=RVal.fm hr245
 refine Alc he hm fun b255 w hm a he =>?_
 refine Sto 0 he hm fun w hm a he =>?_
 refine go he hm fun a he =>?_
 refine z1v [2,2,0,0,2,0,0,0,0,0] (.q 0 (.q 1 (.q 4 (.e2 2 5 (.e2 3 5 (.e 5 (.e 6 (.e 7 (.e 8 (.e 9 (.done)))))) (.e2 3 6 (.e 6 (.e 7 (.e 8 (.e 9 (.done))))) (.e 3 (.e 7 (.e 8 (.e 9 (.done))))))) (.e2 2 6 (.e2 3 6 (.e 6 (.e 7 (.e 8 (.e 9 (.done))))) (.e 3 (.e 7 (.e 8 (.e 9 (.done)))))) (.e 2 (.e 3 (.e 7 (.e 8 (.e 9 (.done))))))))))) [0,1,3,5,6,7,8,9,10,11] he hm fun w hm =>?_
 refine go he hm fun a he =>?_
 refine d_e2 ?_ ?_
 refine BldS he hm fun v256 w hm a he =>?_
 refine d_e2 ?_ ?_
 refine App_ 3 z7q he hm (fun v257 w hm a he =>?_)
 rw [← z1o] at hm
 refine d_e he rfl rfl rfl (z6w (z1w 1 (vs:=[.string z240.con,.int .i64 (z240.num),.slice p250 z240.args.length c251]) he hm.toSees rfl rfl isAgg42 sizeOf42 rfl rfl) ⟨fun _=>hm.sn (Fz.Le.refl _),fun a he =>?_⟩)
 refine BldS he hm fun v258 w hm a he =>?_
 refine App_ 6 z7b he hm (fun v259 w hm a he =>?_)
 refine Sto 11 he hm fun w hm a he =>?_
 refine Sto 12 he hm fun w hm a he =>?_
 refine go he hm fun a he =>?_
 replace hm:=hm.ar [5,3,2,1,0] [8,8,8,8,8,8,8,7,8]
 refine hL74 _ _ _ (by subst hmu;omega) ⟨(Ψ242),(i+1),(v257),((cl++[((g1 - g241:Nat):Int)])),(v259),((cs++[.string z240.con,.int .i64 (z240.num),.slice p250 z240.args.length c251])),(xs++[z240]),(g241),rfl,⟨he.pk,by exact hm⟩,?_⟩
 refine ⟨(le73).trans le244,?_⟩
 refine ⟨hch.snoc rfl hr245,by simp [hxl],by omega,by omega,by simp [hcl],?_,?_⟩
 rw [z0w,htot,z1d (by omega)];omega
 rw [hI_,z0a hx83]
 exact z0r hy211 hv246
 refine d_e he rfl rfl rfl (z6w (z1w 1 (vs:=[.string z240.con,.int .i64 (z240.num),.slice p250 z240.args.length c251]) he hm.toSees rfl rfl isAgg42 sizeOf42 rfl rfl) ⟨fun _=>hm.sn (Fz.Le.refl _),fun a he =>?_⟩)
 refine d_e2 ?_ ?_
 refine App_ 3 z7q he hm (fun v260 w hm a he =>?_)
 rw [← z1o] at hm
 refine BldS he hm fun v261 w hm a he =>?_
 refine App_ 6 z7b he hm (fun v262 w hm a he =>?_)
 refine Sto 11 he hm fun w hm a he =>?_
 refine Sto 12 he hm fun w hm a he =>?_
 refine go he hm fun a he =>?_
 replace hm:=hm.ar [5,3,2,1,0] [8,8,8,8,8,8,8,7,8]
 refine hL74 _ _ _ (by subst hmu;omega) ⟨(Ψ242),(i+1),(v260),((cl++[((g1 - g241:Nat):Int)])),(v262),((cs++[.string z240.con,.int .i64 (z240.num),.slice p250 z240.args.length c251])),(xs++[z240]),(g241),rfl,⟨he.pk,by exact hm⟩,?_⟩
 refine ⟨(le73).trans le244,?_⟩
 refine ⟨hch.snoc rfl hr245,by simp [hxl],by omega,by omega,by simp [hcl],?_,?_⟩
 rw [z0w,htot,z1d (by omega)];omega
 rw [hI_,z0a hx83]
 exact z0r hy211 hv246
 refine BldS he hm fun v263 w hm a he =>?_
 refine App_ 4 z7q he hm (fun v264 w hm a he =>?_)
 rw [← z1o] at hm
 refine App_ 6 z7b he hm (fun v265 w hm a he =>?_)
 refine Sto 11 he hm fun w hm a he =>?_
 refine Sto 12 he hm fun w hm a he =>?_
 refine go he hm fun a he =>?_
 replace hm:=hm.ar [5,3,2,1,0] [8,8,8,8,8,8,8,7,8]
 refine hL74 _ _ _ (by subst hmu;omega) ⟨(Ψ242),(i+1),(v264),((cl++[((g1 - g241:Nat):Int)])),(v265),((cs++[.string z240.con,.int .i64 (z240.num),.slice p250 z240.args.length c251])),(xs++[z240]),(g241),rfl,⟨he.pk,by exact hm⟩,?_⟩
 refine ⟨(le73).trans le244,?_⟩
 refine ⟨hch.snoc rfl hr245,by simp [hxl],by omega,by omega,by simp [hcl],?_,?_⟩
 rw [z0w,htot,z1d (by omega)];omega
 rw [hI_,z0a hx83]
 exact z0r hy211 hv246
 refine d_e he rfl rfl rfl (z6w (z1w 0 (vs:=[.string z240.con,.int .i64 (z240.num),.slice p250 z240.args.length c251]) he hm.toSees rfl rfl isAgg42 sizeOf42 rfl rfl) ⟨fun _=>hm.sn (Fz.Le.refl _),fun a he =>?_⟩)
 refine d_e2 ?_ ?_
 refine BldS he hm fun v266 w hm a he =>?_
 refine d_e2 ?_ ?_
 refine App_ 3 z7q he hm (fun v267 w hm a he =>?_)
 rw [← z1o] at hm
 refine BldS he hm fun v268 w hm a he =>?_
 refine App_ 6 z7b he hm (fun v269 w hm a he =>?_)
 refine Sto 11 he hm fun w hm a he =>?_
 refine Sto 12 he hm fun w hm a he =>?_
 refine go he hm fun a he =>?_
 replace hm:=hm.ar [5,3,2,1,0] [8,8,8,8,8,8,8,7,8]
 refine hL74 _ _ _ (by subst hmu;omega) ⟨(Ψ242),(i+1),(v267),((cl++[((g1 - g241:Nat):Int)])),(v269),((cs++[.string z240.con,.int .i64 (z240.num),.slice p250 z240.args.length c251])),(xs++[z240]),(g241),rfl,⟨he.pk,by exact hm⟩,?_⟩
 refine ⟨(le73).trans le244,?_⟩
 refine ⟨hch.snoc rfl hr245,by simp [hxl],by omega,by omega,by simp [hcl],?_,?_⟩
 rw [z0w,htot,z1d (by omega)];omega
 rw [hI_,z0a hx83]
 exact z0r hy211 hv246
 refine BldS he hm fun v270 w hm a he =>?_
 refine App_ 4 z7q he hm (fun v271 w hm a he =>?_)
 rw [← z1o] at hm
 refine App_ 6 z7b he hm (fun v272 w hm a he =>?_)
 refine Sto 11 he hm fun w hm a he =>?_
 refine Sto 12 he hm fun w hm a he =>?_
 refine go he hm fun a he =>?_
 replace hm:=hm.ar [5,3,2,1,0] [8,8,8,8,8,8,8,7,8]
 refine hL74 _ _ _ (by subst hmu;omega) ⟨(Ψ242),(i+1),(v271),((cl++[((g1 - g241:Nat):Int)])),(v272),((cs++[.string z240.con,.int .i64 (z240.num),.slice p250 z240.args.length c251])),(xs++[z240]),(g241),rfl,⟨he.pk,by exact hm⟩,?_⟩
 refine ⟨(le73).trans le244,?_⟩
 refine ⟨hch.snoc rfl hr245,by simp [hxl],by omega,by omega,by simp [hcl],?_,?_⟩
 rw [z0w,htot,z1d (by omega)];omega
 rw [hI_,z0a hx83]
 exact z0r hy211 hv246
 refine BldS he hm fun v273 w hm a he =>?_
 refine BldS he hm fun v274 w hm a he =>?_
 refine App_ 4 z7q he hm (fun v275 w hm a he =>?_)
 rw [← z1o] at hm
 refine App_ 6 z7b he hm (fun v276 w hm a he =>?_)
 refine Sto 11 he hm fun w hm a he =>?_
 refine Sto 12 he hm fun w hm a he =>?_
 refine go he hm fun a he =>?_
 replace hm:=hm.ar [5,3,2,1,0] [8,8,8,8,8,8,8,7,8]
 refine hL74 _ _ _ (by subst hmu;omega) ⟨(Ψ242),(i+1),(v275),((cl++[((g1 - g241:Nat):Int)])),(v276),((cs++[.string z240.con,.int .i64 (z240.num),.slice p250 z240.args.length c251])),(xs++[z240]),(g241),rfl,⟨he.pk,by exact hm⟩,?_⟩
 refine ⟨(le73).trans le244,?_⟩
 refine ⟨hch.snoc rfl hr245,by simp [hxl],by omega,by omega,by simp [hcl],?_,?_⟩
 rw [z0w,htot,z1d (by omega)];omega
 rw [hI_,z0a hx83]
 exact z0r hy211 hv246
 have hsp277:=z3x hq238 hnx235
 replace hm:=hm.dl [10,9,8,7,6,5,4,3,2,1,0]
 exact endOutE (endP_spent (by rw [hI_,z0a hx83];exact z9e hy211 hsp277)) ⟨.inr ⟨rfl,rfl⟩,hm.le (le73)⟩
 refine Alc he hm fun b278 w hm a he =>?_
 have hnx279:=hns
 rw [hI_,z0a hx83,z8h hy211] at hnx279
 replace hnx279:=z2v (r:=z5e (z2g ⟨T.funs,inp⟩) y210 [] g1) (z2v hnx279)
 replace hm:=hm.pl 3
 refine z4u hQ call48 he hm (fun q280 y281 w hq282 hG283 hm a he =>?_) (fun q280 w hq282 hm =>?_) (c:=call_all hF g1 rpT rG hr213 (SliceOf.nil 3) (hF _ _ hy211).1 (hF _ _ hy211).2 (Nat.le_refl _) (by omega) hnx279 hm)
 obtain ⟨z284,g285⟩:=q280
 obtain ⟨Ψ286,d287⟩:=y281
 obtain ⟨le288,hr289⟩:=hG283
 have hv290:=z6b hq282
 simp only at le288 hr289 hm he hv290
 have hlt291:=z9i hv290
 replace h20:=h20.up le288
 replace rpc:=RCore.mono _ _ _ _ le288 rpc
 replace rG:=RGiven.mono le288 rG
 replace hat42:=hat42.mono le288
 replace hch:=hch.mono fun _ _ h=>RVal.mono _ _ _ _ le288 h
 replace ha86:=ha86.mono le288
 replace hr213:=RFun.mono _ _ _ _ le288 hr213
 replace h221:=REx.mono _ _ _ _ le288 h221
 replace hm:=hm.nf
 obtain ⟨p294,c295,rfl,hi298,h293,hm296,hn297⟩:=RVal.fm hr289
 refine Sto 1 he hm fun w hm a he =>?_
 refine go he hm fun a he =>?_
 refine z1v [2,2,0,0,2,0,0,0,0,0] (.q 0 (.q 1 (.q 4 (.e2 2 5 (.e2 3 5 (.e 5 (.e 6 (.e 7 (.e 8 (.e 9 (.done)))))) (.e2 3 6 (.e 6 (.e 7 (.e 8 (.e 9 (.done))))) (.e 3 (.e 7 (.e 8 (.e 9 (.done))))))) (.e2 2 6 (.e2 3 6 (.e 6 (.e 7 (.e 8 (.e 9 (.done))))) (.e 3 (.e 7 (.e 8 (.e 9 (.done)))))) (.e 2 (.e 3 (.e 7 (.e 8 (.e 9 (.done))))))))))) [0,1,3,5,6,7,8,9,10,11] he hm fun w hm =>?_
 refine go he hm fun a he =>?_
 refine d_e2 ?_ ?_
 refine BldS he hm fun v299 w hm a he =>?_
 refine d_e2 ?_ ?_
 refine App_ 3 z7q he hm (fun v300 w hm a he =>?_)
 rw [← z1o] at hm
 refine d_e he rfl rfl rfl (z6w (z1w 2 (vs:=[.string z284.con,.int .i64 (z284.num),.slice p294 z284.args.length c295]) he hm.toSees rfl rfl isAgg42 sizeOf42 rfl rfl) ⟨fun _=>hm.sn (Fz.Le.refl _),fun a he =>?_⟩)
 refine BldS he hm fun v301 w hm a he =>?_
 refine App_ 6 z7b he hm (fun v302 w hm a he =>?_)
 refine Sto 11 he hm fun w hm a he =>?_
 refine Sto 12 he hm fun w hm a he =>?_
 refine go he hm fun a he =>?_
 replace hm:=hm.ar [5,3,2,1,0] [8,8,8,8,8,8,8,7,8]
 refine hL74 _ _ _ (by subst hmu;omega) ⟨(Ψ286),(i+1),(v300),((cl++[((g1 - g285:Nat):Int)])),(v302),((cs++[.string z284.con,.int .i64 (z284.num),.slice p294 z284.args.length c295])),(xs++[z284]),(g285),rfl,⟨he.pk,by exact hm⟩,?_⟩
 refine ⟨(le73).trans le288,?_⟩
 refine ⟨hch.snoc rfl hr289,by simp [hxl],by omega,by omega,by simp [hcl],?_,?_⟩
 rw [z0w,htot,z1d (by omega)];omega
 rw [hI_,z0a hx83]
 exact z0r hy211 hv290
 refine d_e he rfl rfl rfl (z6w (z1w 2 (vs:=[.string z284.con,.int .i64 (z284.num),.slice p294 z284.args.length c295]) he hm.toSees rfl rfl isAgg42 sizeOf42 rfl rfl) ⟨fun _=>hm.sn (Fz.Le.refl _),fun a he =>?_⟩)
 refine d_e2 ?_ ?_
 refine App_ 3 z7q he hm (fun v303 w hm a he =>?_)
 rw [← z1o] at hm
 refine BldS he hm fun v304 w hm a he =>?_
 refine App_ 6 z7b he hm (fun v305 w hm a he =>?_)
 refine Sto 11 he hm fun w hm a he =>?_
 refine Sto 12 he hm fun w hm a he =>?_
 refine go he hm fun a he =>?_
 replace hm:=hm.ar [5,3,2,1,0] [8,8,8,8,8,8,8,7,8]
 refine hL74 _ _ _ (by subst hmu;omega) ⟨(Ψ286),(i+1),(v303),((cl++[((g1 - g285:Nat):Int)])),(v305),((cs++[.string z284.con,.int .i64 (z284.num),.slice p294 z284.args.length c295])),(xs++[z284]),(g285),rfl,⟨he.pk,by exact hm⟩,?_⟩
 refine ⟨(le73).trans le288,?_⟩
 refine ⟨hch.snoc rfl hr289,by simp [hxl],by omega,by omega,by simp [hcl],?_,?_⟩
 rw [z0w,htot,z1d (by omega)];omega
 rw [hI_,z0a hx83]
 exact z0r hy211 hv290
 refine BldS he hm fun v306 w hm a he =>?_
 refine App_ 4 z7q he hm (fun v307 w hm a he =>?_)
 rw [← z1o] at hm
 refine App_ 6 z7b he hm (fun v308 w hm a he =>?_)
 refine Sto 11 he hm fun w hm a he =>?_
 refine Sto 12 he hm fun w hm a he =>?_
 refine go he hm fun a he =>?_
 replace hm:=hm.ar [5,3,2,1,0] [8,8,8,8,8,8,8,7,8]
 refine hL74 _ _ _ (by subst hmu;omega) ⟨(Ψ286),(i+1),(v307),((cl++[((g1 - g285:Nat):Int)])),(v308),((cs++[.string z284.con,.int .i64 (z284.num),.slice p294 z284.args.length c295])),(xs++[z284]),(g285),rfl,⟨he.pk,by exact hm⟩,?_⟩
 refine ⟨(le73).trans le288,?_⟩
 refine ⟨hch.snoc rfl hr289,by simp [hxl],by omega,by omega,by simp [hcl],?_,?_⟩
 rw [z0w,htot,z1d (by omega)];omega
 rw [hI_,z0a hx83]
 exact z0r hy211 hv290
 refine d_e he rfl rfl rfl (z6w (z1w 1 (vs:=[.string z284.con,.int .i64 (z284.num),.slice p294 z284.args.length c295]) he hm.toSees rfl rfl isAgg42 sizeOf42 rfl rfl) ⟨fun _=>hm.sn (Fz.Le.refl _),fun a he =>?_⟩)
 refine d_e2 ?_ ?_
 refine BldS he hm fun v309 w hm a he =>?_
 refine d_e2 ?_ ?_
 refine App_ 3 z7q he hm (fun v310 w hm a he =>?_)
 rw [← z1o] at hm
 refine BldS he hm fun v311 w hm a he =>?_
 refine App_ 6 z7b he hm (fun v312 w hm a he =>?_)
 refine Sto 11 he hm fun w hm a he =>?_
 refine Sto 12 he hm fun w hm a he =>?_
 refine go he hm fun a he =>?_
 replace hm:=hm.ar [5,3,2,1,0] [8,8,8,8,8,8,8,7,8]
 refine hL74 _ _ _ (by subst hmu;omega) ⟨(Ψ286),(i+1),(v310),((cl++[((g1 - g285:Nat):Int)])),(v312),((cs++[.string z284.con,.int .i64 (z284.num),.slice p294 z284.args.length c295])),(xs++[z284]),(g285),rfl,⟨he.pk,by exact hm⟩,?_⟩
 refine ⟨(le73).trans le288,?_⟩
 refine ⟨hch.snoc rfl hr289,by simp [hxl],by omega,by omega,by simp [hcl],?_,?_⟩
 rw [z0w,htot,z1d (by omega)];omega
 rw [hI_,z0a hx83]
 exact z0r hy211 hv290
 refine BldS he hm fun v313 w hm a he =>?_
 refine App_ 4 z7q he hm (fun v314 w hm a he =>?_)
 rw [← z1o] at hm
 refine App_ 6 z7b he hm (fun v315 w hm a he =>?_)
 refine Sto 11 he hm fun w hm a he =>?_
 refine Sto 12 he hm fun w hm a he =>?_
 refine go he hm fun a he =>?_
 replace hm:=hm.ar [5,3,2,1,0] [8,8,8,8,8,8,8,7,8]
 refine hL74 _ _ _ (by subst hmu;omega) ⟨(Ψ286),(i+1),(v314),((cl++[((g1 - g285:Nat):Int)])),(v315),((cs++[.string z284.con,.int .i64 (z284.num),.slice p294 z284.args.length c295])),(xs++[z284]),(g285),rfl,⟨he.pk,by exact hm⟩,?_⟩
 refine ⟨(le73).trans le288,?_⟩
 refine ⟨hch.snoc rfl hr289,by simp [hxl],by omega,by omega,by simp [hcl],?_,?_⟩
 rw [z0w,htot,z1d (by omega)];omega
 rw [hI_,z0a hx83]
 exact z0r hy211 hv290
 refine BldS he hm fun v316 w hm a he =>?_
 refine BldS he hm fun v317 w hm a he =>?_
 refine App_ 4 z7q he hm (fun v318 w hm a he =>?_)
 rw [← z1o] at hm
 refine App_ 6 z7b he hm (fun v319 w hm a he =>?_)
 refine Sto 11 he hm fun w hm a he =>?_
 refine Sto 12 he hm fun w hm a he =>?_
 refine go he hm fun a he =>?_
 replace hm:=hm.ar [5,3,2,1,0] [8,8,8,8,8,8,8,7,8]
 refine hL74 _ _ _ (by subst hmu;omega) ⟨(Ψ286),(i+1),(v318),((cl++[((g1 - g285:Nat):Int)])),(v319),((cs++[.string z284.con,.int .i64 (z284.num),.slice p294 z284.args.length c295])),(xs++[z284]),(g285),rfl,⟨he.pk,by exact hm⟩,?_⟩
 refine ⟨(le73).trans le288,?_⟩
 refine ⟨hch.snoc rfl hr289,by simp [hxl],by omega,by omega,by simp [hcl],?_,?_⟩
 rw [z0w,htot,z1d (by omega)];omega
 rw [hI_,z0a hx83]
 exact z0r hy211 hv290
 have hsp320:=z3x hq282 hnx279
 replace hm:=hm.dl [11,10,9,8,7,6,5,4,3,2,1,0]
 exact endOutE (endP_spent (by rw [hI_,z0a hx83];exact z9e hy211 hsp320)) ⟨.inr ⟨rfl,rfl⟩,hm.le (le73)⟩
 refine go he hm fun a he =>?_
 have hm0_:=hm
 clear hm
 obtain ⟨Ψ324,le325,hm,hrow326⟩:=hm0_.freezeRow (i:=0) rfl
 clear hm0_
 replace h20:=h20.up le325
 replace rpc:=RCore.mono _ _ _ _ le325 rpc
 replace rG:=RGiven.mono le325 rG
 replace hat42:=hat42.mono le325
 replace hch:=hch.mono fun _ _ h=>RVal.mono _ _ _ _ le325 h
 replace hm:=hm.nf
 have hsl327:SliceOf RVal Ψ324 3 _ (xs):=⟨_,hrow326,hch⟩
 obtain ⟨p328,c329,hv_,hm330,hn331⟩:=hsl327.form (by decide)
 have hmk_:=hm
 clear hm
 subst hv_
 have hm:=hmk_
 clear hmk_
 have hend_:z3y ⟨T.funs,inp⟩ c.outputs fuel=.ok xs g1:=by
  rw [hI_,z0g h77];exact outs_nil_ok
 refine z1n call49 he hm (fun hB332 w hm a he =>?_) (fun hB332 w hm a he =>?_) (c:=anyFunc_Val (Φ:=Ψ324) (K:=.gs (u) 3 1 (ints cl)::.blk b0 (ob [.slice p3 c.datas.length c4,.slice p9 c.inputs.length c10,.slice p15 c.funs.length c16,.slice p21 c.outputs.length c22] 27)::.blk b1 (ob [.pointer (some p)] 89)::.blk b2 (ob [mg] 94)::.blk b3 (ob [.int .i64 ((fuel:Nat):Int)] 3)::.blk b4 (ob [u] 93)::.blk b5 (ob [.slice p328 (xs).length c329] 38)::.blk b6 (ob [.slice none 0 0,.int .i64 ((0:Nat):Int)] 30)::K) (p:=z6e) (fs:=[]) (cs:=[]) hsl327 call50 (fun x c w hx hc hm=>large_ok hc hm) hm)
 refine go he hm fun a he =>?_
 replace hm:=hm.dl [7,6,5,4,3,2,1,0]
 refine Ret1 hQ he hm ?_
 exact endOutE (endP_large hend_ hB332) ⟨.inl rfl,hm.le ((le73).trans le325)⟩
 refine go he hm fun a he =>?_
 have hbig_:=hB332
 replace hm:=hm.nilRow 62 4
 replace hm:=hm.nf
 refine go he hm fun a he =>?_
 refine z1i (he.ks [0,6,48,49]) hm (fun R mm a w=>∃(Ψ336:Fz) (k:Nat) (uo:Value) (co:List Value),mm=xs.length - k∧R Ψ336 [(50,.int .i64 ((k:Nat):Int))] [(0,.gs (uo) 62 4 co),(8,.blk b6 (ob [uo,.int .i64 ((0:Nat):Int)] 30))] a w∧(Ψ324.Le Ψ336∧(Chunks (RNamed Ψ336) 4 co ((z6z c.outputs xs).take k)))) (xs.length - 0) ⟨Ψ324,0,.slice none 0 0,[],rfl,⟨he.pk,hm⟩,⟨Fz.Le.refl _,rfl⟩⟩ ?_
 clear hm he
 rintro mm a w ⟨Ψ336,k,uo,co,hmu,⟨he,hm⟩,hI339⟩ L338 hL338
 replace hm:=hm.nf
 obtain ⟨le337,hI339⟩:=hI339
 replace h20:=h20.up le337
 replace rpc:=RCore.mono _ _ _ _ le337 rpc
 replace rG:=RGiven.mono le337 rG
 replace hat42:=hat42.mono le337
 replace hsl327:=hsl327.up le337
 have hco:=hI339
 refine go he hm fun a he =>?_
 by_cases h341:k < (xs).length
 refine go he hm fun a he =>?_
 obtain ⟨q345,rfl,x346,hx347,cs348,hl349,ha350,hr351⟩:=hsl327.el hn331 h341
 obtain ⟨p354,c355,rfl,hi358,h353,hm356,hn357⟩:=RVal.fm hr351
 refine Alc he hm fun b359 w hm a he =>?_
 refine Sto 0 he hm fun w hm a he =>?_
 refine Reg [1,2,1,2,1,1,2,2,0,1,0,0,1,0] [0,2,3,4,5,6,7,8,9] he hm fun w hm a he =>?_
 refine go he hm fun a he =>?_
 have hb360:k < c.outputs.length:=by omega
 obtain ⟨q361,rfl,x362,hx363,cs364,hl365,ha366,hr367⟩:=h20.el hn24 hb360
 obtain rfl:cs364=[.string x362]:=hr367
 refine z2i call51 he hm (fun y368 w hG369 hm a he =>?_) (c:=own_ok (small_of (by have h_:=List.any_eq_false.1 hbig_ _ (List.mem_of_getElem? hx347);simpa using h_)) hr351 hm)
 obtain ⟨Ψ370,d371⟩:=y368
 obtain ⟨le372,hr373⟩:=hG369
 simp only at le372 hr373 hm he
 replace rpc:=RCore.mono _ _ _ _ le372 rpc
 replace rG:=RGiven.mono le372 rG
 replace hat42:=hat42.mono le372
 replace hco:=hco.mono fun _ _ h=>RNamed.mono _ _ _ _ le372 h
 replace ha350:=ha350.mono le372
 replace hr351:=RVal.mono _ _ _ _ le372 hr351
 replace ha366:=ha366.mono le372
 replace hm:=hm.nf
 obtain ⟨p376,c377,rfl,hi380,h375,hm378,hn379⟩:=RVal.fm hr373
 refine BldT he hm fun a he =>?_
 refine BldS he hm fun v381 w hm a he =>?_
 refine App_ 2 rt_28 he hm (fun v382 w hm a he =>?_) (hb:=by have h_:=hco.length;have h2_:((z6z c.outputs xs).take k).length≤xs.length:=(by simp [z6z];omega);rw [h_];simp only [List.length_cons,List.length_nil];omega)
 refine Sto 10 he hm fun w hm a he =>?_
 refine go he hm fun a he =>?_
 replace hm:=hm.dl [1,0]
 refine hL338 _ _ _ (by subst hmu;omega) ⟨(Ψ370),(k+1),(v382),((co++[.string x362,.string x346.con,.int .i64 (x346.num),.slice p376 x346.args.length c377])),rfl,⟨he.pk,by exact hm⟩,?_⟩
 refine ⟨(le337).trans le372,?_⟩
 rw [take_snoc (names_get hx363 hx347)];exact hco.snoc rfl (show RNamed Ψ370 [.string x362,.string x346.con,.int .i64 (x346.num),.slice p376 x346.args.length c377] (⟨x362,x346⟩:Named) from ⟨_,rfl,hr373⟩)
 refine go he hm fun a he =>?_
 rw [names_all h341] at hco
 have hm0_:=hm
 clear hm
 obtain ⟨Ψ385,le386,hm,hrow387,hnw_⟩:=hm0_.freezeRowN (i:=0) rfl
 clear hm0_
 replace rpc:=RCore.mono _ _ _ _ le386 rpc
 replace rG:=RGiven.mono le386 rG
 replace hat42:=hat42.mono le386
 replace hco:=hco.mono fun _ _ h=>RNamed.mono _ _ _ _ le386 h
 replace hm:=hm.nf
 have hsl388:SliceOf RNamed Ψ385 4 _ ((z6z c.outputs xs)):=⟨_,hrow387,hco⟩
 obtain ⟨p389,c390,hv_,hm391,hn392⟩:=hsl388.form (by decide)
 have hmk_:=hm
 clear hm
 subst hv_
 have hm:=hmk_
 clear hmk_
 replace hnw_:=hnw_.anti (((le73).trans le325).trans le337)
 refine go he hm fun a he =>?_
 replace hm:=hm.ar [6,4,3,2,1] [2,1,2]
 refine Ret1 hQ he hm ?_
 exact endOut (endP_ok hend_ hbig_) ⟨(Ψ385,u,cl,.slice p389 ((z6z c.outputs xs)).length c390),rfl,⟨(((le73).trans le325).trans le337).trans le386,by rw [htot],(show cl.length≤1000 by omega),hsl388,hnw_⟩,hm⟩
end Go.Sw

namespace Go.Sw
open Go.Proofs
theorem z4h {c:Core} (h:z1g c=0):z4y c=false∧z2a c=true:=by
 unfold z1g at h
 split at h
 ·cases h
 split at h
 ·cases h
 split at h
 ·rename_i h2 hr;exact ⟨by simpa using h2,hr⟩
 ·cases h
theorem look_funs {c:Core} (h:z1g c=0):FunsOk (z0f c):=by
 obtain ⟨hl,hr⟩:=z4h h
 have ht:z4s c=true:=by simp only [z2a,Bool.and_eq_true] at hr;exact hr.1.1.1.1.1
 intro n f hf
 exact ⟨table_params hl ht n f hf,z9w hl (z8p ht hf)⟩
theorem look_outs {c:Core} (h:z1g c=0):c.outputs.length≤1000:=by
 have hl:=(z4h h).1
 simp only [z4y,Bool.or_eq_false_iff,decide_eq_false_iff_not] at hl
 omega
theorem run_ns {c:Core} (h:z1g c=0) {l:List Named} (hg:z9b (z0f c) l c.inputs=true) (g:Nat):z3y ⟨(z0f c).funs,inpP l⟩ c.outputs g≠.stuck :=
 (outs_ok (z5y h) (given_closed (z5y h) hg) (fun _ h=>h) g).1
theorem endP_err {r:Ev (List Val)} {c:Nat} (h:endP r=.error c):c≠0:=by
 cases r with
 | ok vs g =>
  simp only [endP] at h
  split at h
  ·cases h;decide
  ·cases h
 | spent=>cases h;decide
 | stuck=>cases h;decide
section
variable {P:Program} {n:Nat} {E:List (Nat×Value)} {D:List Deferred} {a:Act} {Φ:Fz} {K:List Res} {w:World}
variable {Kn:Value→World→Prop} {Qp:List PanicEntry→World→Prop} {dst:Option Tmp} {ty:TypeId} {pos:String} {aft:Array Edge} {g:Option (Nat×Bool)}
theorem eff_callW {α β ε:Type} {f:FuncId} {xs:Array Operand} {ts:Array TypeId} {vs:List Value} {r:Except ε α} {X:α→β→Value} {Z:ε→Value} {F1:α→β→Fz} {Φ2:Fz} {KO:α→β→List Res} {KE:List Res} {G:α→β→Prop}
  (he:EnvR n E D a) (hx:evs E xs.toList=some vs) (hf:∀args w,(callFunc f args).run P w=.ok (.enter f args) w)
  (hc:Calls P f vs.toArray w (fun e w'=>Out r (fun x=>∃y,e=.returned (X x y)∧G x y∧Mem (F1 x y) (KO x y) w') (fun c=>e=.returned (Z c)∧Mem Φ2 KE w')))
  (k:∀x y w',r=.ok x→G x y→Mem (F1 x y) (KO x y) w'→Kn (X x y) w') (kp:∀c w',r=.error c→Mem Φ2 KE w'→Kn (Z c) w') :
  Oper.eff P ⟨dst,.call { callee:=.value (.func f),args:=xs,argTypes:=ts },ty,pos,aft,g⟩ a w Kn Qp:=by
 refine z7l he hx hf hc (fun v w' h =>?_) (fun c w' h =>?_) (fun w' h =>?_)
 ·cases r with
  | ok x=>obtain ⟨y,h1,h2,h3⟩:=h;cases h1;exact k _ _ _ rfl h2 h3
  | error c=>obtain ⟨h1,h2⟩:=h;cases h1;exact kp _ _ rfl h2
 ·cases r with
  | ok x=>obtain ⟨y,h1,_⟩:=h;cases h1
  | error c=>obtain ⟨h1,h2⟩:=h;cases h1
 ·cases r with
  | ok x=>obtain ⟨y,h1,_⟩:=h;cases h1
  | error c=>obtain ⟨h1,_⟩:=h;cases h1
theorem retcA2 {fn:Func} {R:Ending→World→Prop} {t u T b k i:Nat} {cs:List Value} {T0:TypeId} {x:Value} (he:EnvR n E [] a) (hm:Sees Φ K w) (hr:fn.results=#[.cell t T,.tmp u]) (hv:get E t=some (.pointer (some ⟨b,0,none⟩)))
  (hk:kget K i=some (.blk b (ob cs T0))) (hT:AggT P T) (hS:SizeT P T k) (hl:cs.length=k) (hx:get E u=some x) (h:R (.returned (.tuple (List.toArray [.agg cs.toArray,x]))) w):bodyPost P fn R .ret a w:=by
 refine ⟨he.defs,_,?_,h⟩
 have h2:=cellA (P:=P) he hm hv hk hT hS hl
 simp [results,hr,Array.getD_eq_getD_getElem?,he.env t _ hv,he.env u _ hx,asAddr,h2,Sem.run_bind,Result.andThen]
theorem z8l {fn:Func} {R:Ending→World→Prop} {t u u2 T b k i:Nat} {cs:List Value} {T0:TypeId} {x x2:Value} (he:EnvR n E [] a) (hm:Sees Φ K w) (hr:fn.results=#[.cell t T,.tmp u,.tmp u2]) (hv:get E t=some (.pointer (some ⟨b,0,none⟩)))
  (hk:kget K i=some (.blk b (ob cs T0))) (hT:AggT P T) (hS:SizeT P T k) (hl:cs.length=k) (hx:get E u=some x) (hx2:get E u2=some x2) (h:R (.returned (.tuple (List.toArray [.agg cs.toArray,x,x2]))) w):bodyPost P fn R .ret a w:=by
 refine ⟨he.defs,_,?_,h⟩
 have h2:=cellA (P:=P) he hm hv hk hT hS hl
 simp [results,hr,Array.getD_eq_getD_getElem?,he.env t _ hv,he.env u _ hx,he.env u2 _ hx2,asAddr,h2,Sem.run_bind,Result.andThen]
end
theorem run_within {Φ:Fz} {K:List Res} {w:World} {p:Addr} {T:Table} {d0:List Value} {c:Core} {mg:Value} {inp:List (Bs×Val)} {fuel b0 b1 b2 b3 b4 b5 b6:Nat} (rpc:RCore Φ d0 c) (rpT:RTable Φ p T) (rG:RGiven Φ mg inp) (hF:FunsOk T) (hlen:c.outputs.length≤1000) (hfu:fuel≤1000000)
  (hns:z3y ⟨T.funs,inp⟩ c.outputs fuel≠.stuck)
  (hm:Mem Φ (.blk b0 (ob d0 27)::.blk b1 (ob [.pointer (some p)] 89)::.blk b2 (ob [mg] 94)::.blk b3 (ob [.int .i64 ((fuel:Nat):Int)] 3)::.blk b4 (ob [.slice none 0 0] 93)::.blk b5 (ob [.slice none 0 0] 38)::.blk b6 (ob [.slice none 0 0,.int .i64 ((0:Nat):Int)] 30)::K) w) :
  Calls Tryz.prog 45 (List.toArray [.func (.func 46) (List.toArray []) (List.toArray [.pointer (some ⟨b0,0,none⟩),.pointer (some ⟨b1,0,none⟩),.pointer (some ⟨b2,0,none⟩),.pointer (some ⟨b3,0,none⟩),.pointer (some ⟨b4,0,none⟩),.pointer (some ⟨b5,0,none⟩),.pointer (some ⟨b6,0,none⟩)])]) w (fun e w'=>Out (endP (z3y ⟨T.funs,inp⟩ c.outputs fuel))
   (fun x=>∃y:Fz×Value×List Int×Value,e=.returned (.int .i64 ((0:Nat):Int))∧(Φ.Le y.1∧totalP y.2.2.1=((fuel - x.2:Nat):Int)∧y.2.2.1.length≤1000∧SliceOf RNamed y.1 4 y.2.2.2 (z6z c.outputs x.1)∧NewRow Φ y.2.2.2)∧Mem y.1 (.blk b4 (ob [y.2.1] 93)::.gs y.2.1 3 1 (ints y.2.2.1)::.blk b6 (ob [y.2.2.2,.int .i64 ((0:Nat):Int)] 30)::K) w')
   (fun c=>e=.returned (.int .i64 ((c:Nat):Int))∧Mem Φ K w')):=by
 refine within_ok (α:=List Val×Nat) (β:=Fz×Value×List Int×Value) (F:=fun _ y=>y.1) (KO:=fun _ y=>.blk b4 (ob [y.2.1] 93)::.gs y.2.1 3 1 (ints y.2.2.1)::.blk b6 (ob [y.2.2.2,.int .i64 ((0:Nat):Int)] 30)::K)
  (G:=fun (x:List Val×Nat) y=>Φ.Le y.1∧totalP y.2.2.1=((fuel - x.2:Nat):Int)∧y.2.2.1.length≤1000∧SliceOf RNamed y.1 4 y.2.2.2 (z6z c.outputs x.1)∧NewRow Φ y.2.2.2) Tryz.call46 (fun b w hm =>?_) hm
 have hm:=((((((hm.pull (i:=7) rfl).pull (i:=7) rfl).pull (i:=7) rfl).pull (i:=7) rfl).pull (i:=7) rfl).pull (i:=7) rfl).pull (i:=7) rfl
 refine (run1_ok (K:=.blk b (ob [.int .i64 ((0:Nat):Int)] 31)::K) rpc rpT rG hF hlen hfu hns hm).mono fun e w' h =>?_
 cases hr:endP (z3y ⟨T.funs,inp⟩ c.outputs fuel) with
 | ok x =>
  rw [hr] at h
  obtain ⟨y,h1,h2,h3⟩:=h
  exact ⟨y,h1,h2,h3.pull (i:=3) rfl⟩
 | error c' =>
  rw [hr] at h
  exact h
end Go.Sw

namespace Go.Sw
def z5j (es:Array MapEntry) (seen:Array Nat):List MapEntry:=es.toList.filter fun e => !seen.contains e.born
theorem leftE_nil (es:Array MapEntry):z5j es #[]=es.toList:=by simp [z5j]
theorem leftE_mem {es:Array MapEntry} {seen:Array Nat} {e:MapEntry}:e∈z5j es seen↔e∈es.toList∧e.born∉seen:=by simp [z5j]
theorem leftE_push {es:Array MapEntry} {seen:Array Nat} {e x:MapEntry}:x∈z5j es (seen.push e.born)↔x∈z5j es seen∧x.born≠e.born:=by
 simp only [leftE_mem,Array.mem_push,not_or,and_assoc]
theorem leftE_lt {es:Array MapEntry} {seen:Array Nat} {e:MapEntry} (h:e∈z5j es seen):(z5j es (seen.push e.born)).length < (z5j es seen).length :=
 filter_lt (fun x:MapEntry => !seen.contains x.born) (fun x:MapEntry => !(seen.push e.born).contains x.born) (fun x hx=>by simp at hx ⊢;exact hx.1) e (by have:=(leftE_mem.1 h).2;simpa using this) (by simp) es.toList (leftE_mem.1 h).1
section
variable {P:Program} {n:Nat} {E:List (Nat×Value)} {D:List Deferred} {a:Act} {Φ:Fz} {K:List Res} {w:World}
variable {Kn:Value→World→Prop} {Qp:List PanicEntry→World→Prop} {dst:Option Tmp} {ty:TypeId} {pos:String} {aft:Array Edge} {g:Option (Nat×Bool)}
theorem eff_range (i:Nat) {t kt et:TypeId} {x:Operand} {b:Nat} {m:List (Bs×Value)} (ht:Under P t (.map kt et)) (he:EnvR n E D a) (hm:Mem Φ K w) (hx:ev E x=some (.map (some b))) (hK:kget K i=some (.mp b m))
  (k:∀r es clock w',MapOk es clock m→Mem Φ (.blk r (.mapIter (some b) clock #[] clock)::kset K i (.blk b (.map es clock))) w'→Kn (.pointer (some ⟨r,0,none⟩)) w'):Oper.eff P ⟨dst,.range t x,ty,pos,aft,g⟩ a w Kn Qp:=by
 obtain ⟨es,clock,hb,hok⟩:=hm.own _ (z1a hK)
 have h1:(getObj b).run P w=.ok (.map es clock) w:=by simp [getObj,Sem.run,hb]
 have hm2:Mem Φ (kset K i (.blk b (.map es clock))) w:=hm.upd hK rfl rfl (fun _ _ _=>rfl) hb (.inl rfl)
 unfold Oper.eff
 have:(execOp a.eval ⟨dst,.range t x,ty,pos,aft,g⟩).run P w=.ok (.value (.pointer (some ⟨w.heap.size,0,none⟩))) { w with heap:=w.heap.push (.mapIter (some b) clock #[] clock) }:=by
  simp only [execOp,he.ev hx,Instr.range,Sem.run_bind,ht w,Result.andThen_ok,h1]
  simp [newObj,Sem.run,Sem.run_bind,Result.andThen]
 rw [this]
 exact k _ _ _ _ hok (hm2.push _)
theorem eff_next (i j:Nat) {x:Operand} {r b clock:Nat} {es:Array MapEntry} {seen:Array Nat} {m:List (Bs×Value)} (he:EnvR n E D a) (hm:Mem Φ K w) (hx:ev E x=some (.pointer (some ⟨r,0,none⟩)))
  (hK:kget K i=some (.blk r (.mapIter (some b) clock seen clock))) (hJ:kget K j=some (.blk b (.map es clock))) (hok:MapOk es clock m)
  (k0:z5j es seen=[]→∀w',Mem Φ K w'→Kn (.tuple (List.toArray [.bool false])) w')
  (k1:∀e w',e∈z5j es seen→Mem Φ (kset K i (.blk r (.mapIter (some b) clock (seen.push e.born) clock))) w'→Kn (.tuple (List.toArray [.bool true,e.key,e.val])) w') :
  Oper.eff P ⟨dst,.next x false,ty,pos,aft,g⟩ a w Kn Qp:=by
 have hr:w.heap[r]? = some (.mapIter (some b) clock seen clock):=hm.own _ (z1a hK)
 have hb:w.heap[b]? = some (.map es clock):=hm.own _ (z1a hJ)
 have htest:(!seen.isEmpty && !es.isEmpty&&es.all (fun x=>decide (x.born≥clock)))=false:=next_test_false seen es clock clock hok.old (Nat.le_refl _)
 have hold:∀e∈es.toList,e.born < clock:=hok.old
 have e1:((es.filter fun e => !seen.contains e.born).filter (fun x=>decide (x.born < clock)))=es.filter fun e => !seen.contains e.born :=
  Array.filter_eq_self.2 (fun x hx=>by
   have:=hold x (by simp at hx ⊢;exact hx.1)
   simpa using this)
 have e2:((es.filter fun e => !seen.contains e.born).filter (fun x=>decide (x.born≥clock)))=#[]:=by
  rw [Array.filter_eq_empty_iff]
  intro x hx
  have:=hold x (by simp at hx ⊢;exact hx.1)
  simp only [ge_iff_le,decide_eq_true_eq,Nat.not_le];omega
 have hleft:z5j es seen=(es.filter fun e => !seen.contains e.born).toList:=by simp [z5j]
 unfold Oper.eff
 simp only [execOp,he.ev hx,Instr.next,getObj,Sem.run_bind,Sem.run,hr,hb,Result.andThen,htest,Bool.false_eq_true,if_false,e1,e2,Array.append_empty]
 generalize hL:(es.filter fun e => !seen.contains e.born)=L at *
 by_cases h0:L.size=0
 ·have:L=#[]:=Array.eq_empty_of_size_eq_zero h0
  subst this
  simp only [Array.isEmpty,Array.size_empty,decide_true,if_true]
  simp only [choose,Sem.run,Question.forced]
  simp
  exact k0 (by rw [hleft]) _ hm
 ·have hne:L.isEmpty=false:=by simp [Array.isEmpty,h0]
  simp only [hne,Bool.false_eq_true,if_false,Array.empty_append,Array.size_map]
  have hch:∃(q:Nat) (w1:World),q < L.size∧Mem Φ K w1∧w1.heap=w.heap∧(choose (Question.mapNext L.size)).run P w=.ok q w1:=by
   by_cases hf:L.size≤1
   ·exact ⟨0,w,by omega,hm,rfl,by simp [choose,Sem.run,Question.forced,hf]⟩
   ·exact ⟨_,w.drew,Nat.mod_lt _ (by omega),hm.drew,rfl,by
     simp only [choose,Sem.run,Question.forced,decide_eq_true_eq,hf,if_false,Question.cut]
     rfl⟩
  obtain ⟨q,w1,hq,hm1,hw1,hrun⟩:=hch
  have hset:∀o,(setObj r o).run P w1=.ok () { w1 with heap:=w1.heap.setIfInBounds r o }:=fun o=>by simp only [setObj,Sem.run,hw1,hr]
  have hlt:r < w1.heap.size:=by rw [hw1];exact (Array.getElem?_eq_some_iff.1 hr).1
  have hmem:L[q]∈z5j es seen:=by rw [hleft];simp
  have hrun':=hrun
  simp only [hrun',Sem.run_bind,Result.andThen,Array.getElem?_map,Array.getElem?_eq_getElem hq,Option.map_some,hset,Sem.run_pure]
  simp [Sem.run_bind,hset,Result.andThen,z6a]
  refine k1 _ _ hmem (hm1.upd hK rfl rfl (fun c hc hne =>?_) ?_ (.inl rfl))
  ·simp only;rw [Array.getElem?_setIfInBounds_ne (fun e=>hne (by simp [Res.foot,e]))]
  ·simp [Res.sat,hlt]
theorem y_entry {x:Operand} {i j:Nat} {r b clock:Nat} {es:Array MapEntry} {seen:Array Nat} {m:List (Bs×Value)} {e:MapEntry} (he:EnvR n E D a) (hm:Sees Φ K w) (hx:ev E x=some (.pointer (some ⟨r,0,none⟩)))
  (hK:kget K i=some (.blk r (.mapIter (some b) clock (seen.push e.born) clock))) (hJ:kget K j=some (.blk b (.map es clock))) (hok:MapOk es clock m) (hl:e∈z5j es seen) :
  Ok P a (.entry x) ty w (.tuple (List.toArray [e.key,e.val])):=fun _ _ _ _=>by
 have hr:w.heap[r]? = some (.mapIter (some b) clock (seen.push e.born) clock):=hm.own _ (z1a hK)
 have hb:w.heap[b]? = some (.map es clock):=hm.own _ (z1a hJ)
 have hf:es.find? (·.born==e.born)=some e:=by rw [← Array.find?_toList];exact find_born e es.toList hok.nodup (leftE_mem.1 hl).1
 simp only [execOp,he.ev hx,Instr.entry,getObj,Sem.run_bind,Sem.run,hr,hb,Result.andThen,Array.back?_push,bne_self_eq_false,Bool.false_eq_true,if_false,hf]
 rfl
theorem entry_key {es:Array MapEntry} {clock:Nat} {m:List (Bs×Value)} {e:MapEntry} (hok:MapOk es clock m) (h:e∈es.toList):∃s v,e.key=.string s∧e.val=v∧(s,v)∈m:=by
 have h1:(e.key,e.val)∈m.map (fun p=>(Value.string p.1,p.2)):=by rw [← hok.eq];exact List.mem_map.2 ⟨e,h,rfl⟩
 obtain ⟨p,hp,h2⟩:=List.mem_map.1 h1
 simp only [Prod.mk.injEq] at h2
 exact ⟨p.1,p.2,h2.1.symm,h2.2.symm,hp⟩
theorem key_entry {es:Array MapEntry} {clock:Nat} {m:List (Bs×Value)} {s:Bs} {v:Value} (hok:MapOk es clock m) (h:(s,v)∈m):∃e∈es.toList,e.key=.string s:=by
 have h1:(Value.string s,v)∈es.toList.map (fun e=>(e.key,e.val)):=by rw [hok.eq];exact List.mem_map.2 ⟨(s,v),h,rfl⟩
 obtain ⟨e,he,h2⟩:=List.mem_map.1 h1
 simp only [Prod.mk.injEq] at h2
 exact ⟨e,he,h2.1⟩
end
end Go.Sw
