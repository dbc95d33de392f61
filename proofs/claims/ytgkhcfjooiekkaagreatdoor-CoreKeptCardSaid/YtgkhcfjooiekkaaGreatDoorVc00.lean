/- CoreKept: the statement coreKeptCardSaid, of any program, inputs and call, as it is given; nothing is assumed beyond it. -/
import Derived.Test.YtgkhcfjooiekkaaGreatDoorProg
import Derived.Test.YtgkhcfjooiekkaaGreatDoorX03
import Derived.Test.YtgkhcfjooiekkaaGreatDoorX04
import Derived.Test.YtgkhcfjooiekkaaGreatDoorX14
set_option linter.unusedVariables false
set_option linter.unusedSimpArgs false
namespace Go.Sw
open Go.Proofs
set_option maxRecDepth 20000
set_option maxHeartbeats 4000000
end Go.Sw

namespace Go.Sw
open Go.Proofs
noncomputable def costs (c:Core) (l:List Named):Int:=(l.map fun x=>costP c x.name).sum
theorem costs_le {c:Core}:∀{l:List Named},(∀x∈l,0≤costP c x.name∧costP c x.name≤4001)→0≤costs c l∧costs c l≤4001 * l.length
 | [],_=>by simp [costs]
 | x::l,h=>by
  have h1:=h x List.mem_cons_self
  have h2:=costs_le fun y hy=>h y (List.mem_cons_of_mem _ hy)
  have e:costs c (x::l)=costP c x.name+costs c l:=by simp [costs]
  rw [e,List.length_cons]
  omega
theorem names_costs {c:Core}:∀{os:List Bs} {vs:List Val},os.length=vs.length→costs c (namesP os vs)=(os.map (costP c)).sum
 | [],[],_=>rfl
 | o::os,v::vs,h=>by
  have:=names_costs (c:=c) (os:=os) (vs:=vs) (by simpa using h)
  simp only [costs,namesP,List.zipWith_cons_cons,List.map_cons,List.sum_cons] at this ⊢
  rw [this]
 | [],_::_,h=>by cases h
 | _::_,[],h=>by cases h
end Go.Sw

namespace Go.Sw
open Go.Proofs
set_option maxRecDepth 20000
set_option maxHeartbeats 4000000
end Go.Sw

namespace Go.Sw
open Go.Proofs
theorem kept_len {c:Core} {l:List Named} {a:Int} (h:(runP c l a).2=0):(runP c l a).1.outputs.length=c.outputs.length:=(kept_run (run_pair h)).1
theorem kept_at {c:Core} {l:List Named} {a:Int} {i k:Nat} {f f2:Fun} {x x2:Named} (h1:c.funs[k]? = some f) (h2:c.funs[k]? = some f2) (h3:(runP c l a).1.outputs[i]? = some x) (h4:(runP c l a).1.outputs[i]? = some x2) (hn:f.name=x.name) :
  checkValueP c f2.result x2.value=0:=by
 obtain rfl:=Option.some.inj (h1.symm.trans h2)
 obtain rfl:=Option.some.inj (h3.symm.trans h4)
 by_cases h:(runP c l a).2=0
 ·exact (kept_run (run_pair h)).2 i x f h3 (List.mem_of_getElem? h1) hn
 ·rw [run_err h] at h3
  simp [out0] at h3
theorem kept_at2 {c:Core} {nm:Bs} {args:List Val} {fuel:Int} {k:Nat} {f f2:Fun} (h:(callAllP c nm args fuel).2.2=0) (h1:c.funs[k]? = some f) (h2:c.funs[k]? = some f2) (hn:f.name=nm):checkValueP c f2.result (callAllP c nm args fuel).1=0:=by
 obtain rfl:=Option.some.inj (h1.symm.trans h2)
 exact kept_call h (List.mem_of_getElem? h1) hn
end Go.Sw

namespace Go.Sw
open Go.Proofs
set_option maxRecDepth 20000
set_option maxHeartbeats 4000000
theorem coreKept_ok {Φ:Fz} {K:List Res} {w:World} {d0:List Value} {v1 va:Value} {c:Core} {l:List Named} {nm:Bs} {args:List Val} {fu:Int} (rpc:RCore Φ d0 c) (rl:SliceOf RNamed Φ 4 v1 l) (ra:SliceOf RVal Φ 3 va args) (G:Glob Φ) (T_:Tabs Φ) (hm:Mem Φ K w) :
  Calls Tryz.prog 10 (List.toArray [.agg d0.toArray,v1,.agg (List.toArray [.string nm,va,.int .i64 fu])]) w (fun ee w'=>ee=.returned (.bool true)∧Mem Φ K w'):=by
 obtain ⟨p3,c4,p9,c10,p15,c16,p21,c22,rfl,h2,h8,h14,h20,hm5,hn6,hm11,hn12,hm17,hn18,hm23,hn24⟩:=RCore.fm rpc
 obtain ⟨pi_,ci_,rfl,hmi_,hni_⟩:=rl.fm
 obtain ⟨pa_,ca_,rfl,hma_,hna_⟩:=ra.fm
 refine Enter Tryz.func10 Tryz.ntmps10 fun Q hQ a he =>?_
 refine Bx he hm fun b26 w hm a he =>?_
 refine Bx he hm fun b27 w hm a he =>?_
 refine CallR Tryz.call18 he hm (fun w hm a he =>?_) (c:=sane_ok G T_ hm)
 refine CallY Tryz.call15 he hm (fun y30 w hG31 hm a he =>?_) (c:=runAll_ok (fuel:=4000) rpc rl G hm)
 obtain ⟨Ψ32,d33⟩:=y30
 obtain ⟨le34,ho35⟩:=hG31
 simp only at le34 ho35 hm he
 replace h14:=h14.up le34
 replace rpc:=RCore.mono _ _ _ _ le34 rpc
 replace G:=G.mono le34
 replace T_:=Tabs.mono T_ le34
 replace ra:=ra.up le34
 replace hm:=hm.nf
 obtain ⟨s36,rfl,h37⟩:=id ho35
 obtain ⟨p38,c39,rfl,hm40,hn41⟩:=h37.fm
 refine Alc he hm fun b42 w hm a he =>?_
 refine Sto 0 he hm fun w hm a he =>?_
 refine go he hm fun a he =>?_
 refine loopK (he.ks [3,5,7,8,9]) hm (fun R mm a w=>∃(i:Nat),mm=(runP c l 4000).1.outputs.length - i∧R Ψ32 [(10,.int .i64 ((i:Nat):Int))] [] a w∧(True)) ((runP c l 4000).1.outputs.length - 0) ⟨0,rfl,⟨he.pk,hm⟩,trivial⟩ ?_
 clear hm he
 rintro mm a w ⟨i,hmu,⟨he,hm⟩,hI46⟩ L45 hL45
 refine go he hm fun a he =>?_
 by_cases h49:i < (runP c l 4000).1.outputs.length
 refine go he hm fun a he =>?_
 refine loopK (he.ks [3,5,7,8,9,10]) hm (fun R mm a w=>∃(k:Nat),mm=c.funs.length - k∧R Ψ32 [(11,.int .i64 ((k:Nat):Int))] [] a w∧(True)) (c.funs.length - 0) ⟨0,rfl,⟨he.pk,hm⟩,trivial⟩ ?_
 clear hm he
 rintro mm a w ⟨k,hmu,⟨he,hm⟩,hI53⟩ L52 hL52
 refine go he hm fun a he =>?_
 by_cases h56:k < c.funs.length
 refine Reg [1,2,1,1,1,2,1,2,1,1,1,2,1,1,2,1,2,1,1,1,2,1,2,1,1,1,2,0,1,1] [0,1,2] he hm fun w hm a he =>?_
 refine go he hm fun a he =>?_
 obtain ⟨q59,rfl,x60,hx61,cs62,hl63,ha64,hr65⟩:=h14.el hn18 h56
 obtain ⟨s66,b72,rfl,h67,h73⟩:=id hr65
 obtain ⟨p68,c69,rfl,hm70,hn71⟩:=h67.fm
 obtain ⟨p76,c77,p82,c83,rfl,hi86,h75,h81,hm78,hn79,hm84,hn85⟩:=REx.fm h73
 refine go he hm fun a he =>?_
 obtain ⟨q87,rfl,x88,hx89,cs90,hl91,ha92,hr93⟩:=h37.el hn41 h49
 obtain ⟨b94,rfl,h95⟩:=id hr93
 obtain ⟨p98,c99,rfl,hi102,h97,hm100,hn101⟩:=RVal.fm h95
 refine go he hm fun a he =>?_
 by_cases h103:x60.name=x88.name
 refine go he hm fun a he =>?_
 obtain ⟨x104,hx105⟩:=at_of_lt h56
 obtain ⟨cs106,hl107,ha108,hr109⟩:=h14.elem hx105
 obtain ⟨s110,b116,rfl,h111,h117⟩:=id hr109
 obtain ⟨p112,c113,rfl,hm114,hn115⟩:=h111.fm
 obtain ⟨p120,c121,p126,c127,rfl,hi130,h119,h125,hm122,hn123,hm128,hn129⟩:=REx.fm h117
 refine go he hm fun a he =>?_
 obtain ⟨x131,hx132⟩:=at_of_lt h49
 obtain ⟨cs133,hl134,ha135,hr136⟩:=h37.elem hx132
 obtain ⟨b137,rfl,h138⟩:=id hr136
 obtain ⟨p141,c142,rfl,hi145,h140,hm143,hn144⟩:=RVal.fm h138
 refine Qq he hm (fun a he =>?_) (o:=by exact fun _ _ _ he hs=>y_load_atA 1 (vs:=[.string x131.value.con,.int .i64 (x131.value.num),.slice p141 x131.value.args.length c142]) he hs rfl ha135 Tryz.isAgg42 Tryz.sizeOf42 rfl rfl)
 refine CallR Tryz.call29 he hm (fun w hm a he =>?_) (c:=checkValue_ok rpc h138 G hm)
 have hck_:checkValueP c x104.result x131.value=0:=kept_at hx61 hx105 hx89 hx132 h103
 have hck2_:=Option.some.inj (hx105.symm.trans hx61)▸hck_
 refine go he hm fun a he =>?_
 refine hL52 _ _ _ (by subst hmu;omega) ⟨(k+1),rfl,⟨he.pk,hm⟩,?_⟩
 trivial
 refine go he hm fun a he =>?_
 refine hL52 _ _ _ (by subst hmu;omega) ⟨(k+1),rfl,⟨he.pk,hm⟩,?_⟩
 trivial
 refine go he hm fun a he =>?_
 refine hL45 _ _ _ (by subst hmu;omega) ⟨(i+1),rfl,⟨he.pk,hm⟩,?_⟩
 trivial
 refine go he hm fun a he =>?_
 refine region_planI [2,1,2,1,2,1,2,0,0,1,1,1,1,0,0,1,1] (.q 0 (.q 1 (.q 2 (.q 3 (.q 4 (.q 5 (.q 6 (.e2 7 13 (.e2 8 13 (.q 9 (.q 10 (.q 11 (.q 12 (.e 13 (.e 14 (.q 15 (.q 16 (.done))))))))) (.e 8 (.q 9 (.q 10 (.q 11 (.q 12 (.e 14 (.q 15 (.q 16 (.done)))))))))) (.e 7 (.e 8 (.q 9 (.q 10 (.q 11 (.q 12 (.e 14 (.q 15 (.q 16 (.done)))))))))))))))))) [0,1,2] he hm fun w hm =>?_
 refine go he hm fun a he =>?_
 refine d_e2 ?_ ?_
 refine CallR Tryz.call16 he hm (fun w hm a he =>?_) (c:=limit_ok hm)
 refine d_e2 ?_ ?_
 refine CallY Tryz.call20 he hm (fun y147 w hG148 hm a he =>?_) (c:=callAll_ok (fuel:=limitP fu) rpc ra (fun h_=>call_safe h_ _ _) G hm)
 obtain ⟨Ψ149,d150⟩:=y147
 obtain ⟨le151,hr152⟩:=hG148
 simp only at le151 hr152 hm he
 replace h14:=h14.up le151
 replace rpc:=RCore.mono _ _ _ _ le151 rpc
 replace G:=G.mono le151
 replace T_:=Tabs.mono T_ le151
 replace ra:=ra.up le151
 replace ho35:=ROutcome.mono _ _ _ _ le151 ho35
 replace hm:=hm.nf
 obtain ⟨p155,c156,rfl,hi159,h154,hm157,hn158⟩:=RVal.fm hr152
 refine Alc he hm fun b160 w hm a he =>?_
 refine Sto 0 he hm fun w hm a he =>?_
 refine go he hm fun a he =>?_
 by_cases h163:(callAllP c nm args (limitP fu)).2.2=0
 refine go he hm fun a he =>?_
 have hcl_:=h163
 refine go he hm fun a he =>?_
 refine loopK (he.ks [3,5,7,12]) hm (fun R mm a w=>∃(k2:Nat),mm=c.funs.length - k2∧R Ψ149 [(15,.int .i64 ((k2:Nat):Int))] [] a w∧(True)) (c.funs.length - 0) ⟨0,rfl,⟨he.pk,hm⟩,trivial⟩ ?_
 clear hm he
 rintro mm a w ⟨k2,hmu,⟨he,hm⟩,hI167⟩ L166 hL166
 refine go he hm fun a he =>?_
 by_cases h170:k2 < c.funs.length
 refine Reg [1,2,1,1,1,2,1,2,1,1,2,1,2,1,1,1,2,2,0,1,1] [0,1,2,3] he hm fun w hm a he =>?_
 refine go he hm fun a he =>?_
 obtain ⟨q173,rfl,x174,hx175,cs176,hl177,ha178,hr179⟩:=h14.el hn18 h170
 obtain ⟨s180,b186,rfl,h181,h187⟩:=id hr179
 obtain ⟨p182,c183,rfl,hm184,hn185⟩:=h181.fm
 obtain ⟨p190,c191,p196,c197,rfl,hi200,h189,h195,hm192,hn193,hm198,hn199⟩:=REx.fm h187
 refine go he hm fun a he =>?_
 by_cases h201:x174.name=nm
 refine go he hm fun a he =>?_
 obtain ⟨x202,hx203⟩:=at_of_lt h170
 obtain ⟨cs204,hl205,ha206,hr207⟩:=h14.elem hx203
 obtain ⟨s208,b214,rfl,h209,h215⟩:=id hr207
 obtain ⟨p210,c211,rfl,hm212,hn213⟩:=h209.fm
 obtain ⟨p218,c219,p224,c225,rfl,hi228,h217,h223,hm220,hn221,hm226,hn227⟩:=REx.fm h215
 refine CallR Tryz.call29 he hm (fun w hm a he =>?_) (c:=checkValue_ok rpc hr152 G hm)
 have hck_:checkValueP c x202.result (callAllP c nm args (limitP fu)).1=0:=kept_at2 hcl_ hx175 hx203 h201
 have hck2_:=Option.some.inj (hx203.symm.trans hx175)▸hck_
 refine go he hm fun a he =>?_
 refine hL166 _ _ _ (by subst hmu;omega) ⟨(k2+1),rfl,⟨he.pk,hm⟩,?_⟩
 trivial
 refine go he hm fun a he =>?_
 refine hL166 _ _ _ (by subst hmu;omega) ⟨(k2+1),rfl,⟨he.pk,hm⟩,?_⟩
 trivial
 refine go he hm fun a he =>?_
 replace hm:=hm.le ((le34).trans le151)
 replace hm:=hm.dl [3,2,1,0]
 refine Ret1 hQ he hm ?_
 exact ⟨by rfl,hm⟩
 refine go he hm fun a he =>?_
 by_cases h231:(runP c l 4000).2=0
 refine Qq he hm (fun a he =>?_) (o:=by exact fun _ _ _ he hs=>y_ieql true he rfl rfl (decide_eq_true (congrArg Int.ofNat (kept_len (by assumption)))))
 refine go he hm fun a he =>?_
 replace hm:=hm.le ((le34).trans le151)
 replace hm:=hm.dl [3,2,1,0]
 refine Ret1 hQ he hm ?_
 exact ⟨by rfl,hm⟩
 refine go he hm fun a he =>?_
 replace hm:=hm.le ((le34).trans le151)
 replace hm:=hm.dl [3,2,1,0]
 refine Ret1 hQ he hm ?_
 exact ⟨by rfl,hm⟩
 refine Alc he hm fun b232 w hm a he =>?_
 refine CallY Tryz.call20 he hm (fun y233 w hG234 hm a he =>?_) (c:=callAll_ok (fuel:=limitP fu) rpc ra (fun h_=>call_safe h_ _ _) G hm)
 obtain ⟨Ψ235,d236⟩:=y233
 obtain ⟨le237,hr238⟩:=hG234
 simp only at le237 hr238 hm he
 replace h14:=h14.up le237
 replace rpc:=RCore.mono _ _ _ _ le237 rpc
 replace G:=G.mono le237
 replace T_:=Tabs.mono T_ le237
 replace ra:=ra.up le237
 replace ho35:=ROutcome.mono _ _ _ _ le237 ho35
 replace hm:=hm.nf
 obtain ⟨p241,c242,rfl,hi245,h240,hm243,hn244⟩:=RVal.fm hr238
 refine Sto 0 he hm fun w hm a he =>?_
 refine go he hm fun a he =>?_
 by_cases h248:(callAllP c nm args (limitP fu)).2.2=0
 refine go he hm fun a he =>?_
 have hcl_:=h248
 refine go he hm fun a he =>?_
 refine loopK (he.ks [3,5,7,12]) hm (fun R mm a w=>∃(k2:Nat),mm=c.funs.length - k2∧R Ψ235 [(15,.int .i64 ((k2:Nat):Int))] [] a w∧(True)) (c.funs.length - 0) ⟨0,rfl,⟨he.pk,hm⟩,trivial⟩ ?_
 clear hm he
 rintro mm a w ⟨k2,hmu,⟨he,hm⟩,hI252⟩ L251 hL251
 refine go he hm fun a he =>?_
 by_cases h255:k2 < c.funs.length
 refine Reg [1,2,1,1,1,2,1,2,1,1,2,1,2,1,1,1,2,2,0,1,1] [0,1,2,3] he hm fun w hm a he =>?_
 refine go he hm fun a he =>?_
 obtain ⟨q258,rfl,x259,hx260,cs261,hl262,ha263,hr264⟩:=h14.el hn18 h255
 obtain ⟨s265,b271,rfl,h266,h272⟩:=id hr264
 obtain ⟨p267,c268,rfl,hm269,hn270⟩:=h266.fm
 obtain ⟨p275,c276,p281,c282,rfl,hi285,h274,h280,hm277,hn278,hm283,hn284⟩:=REx.fm h272
 refine go he hm fun a he =>?_
 by_cases h286:x259.name=nm
 refine go he hm fun a he =>?_
 obtain ⟨x287,hx288⟩:=at_of_lt h255
 obtain ⟨cs289,hl290,ha291,hr292⟩:=h14.elem hx288
 obtain ⟨s293,b299,rfl,h294,h300⟩:=id hr292
 obtain ⟨p295,c296,rfl,hm297,hn298⟩:=h294.fm
 obtain ⟨p303,c304,p309,c310,rfl,hi313,h302,h308,hm305,hn306,hm311,hn312⟩:=REx.fm h300
 refine CallR Tryz.call29 he hm (fun w hm a he =>?_) (c:=checkValue_ok rpc hr238 G hm)
 have hck_:checkValueP c x287.result (callAllP c nm args (limitP fu)).1=0:=kept_at2 hcl_ hx260 hx288 h286
 have hck2_:=Option.some.inj (hx288.symm.trans hx260)▸hck_
 refine go he hm fun a he =>?_
 refine hL251 _ _ _ (by subst hmu;omega) ⟨(k2+1),rfl,⟨he.pk,hm⟩,?_⟩
 trivial
 refine go he hm fun a he =>?_
 refine hL251 _ _ _ (by subst hmu;omega) ⟨(k2+1),rfl,⟨he.pk,hm⟩,?_⟩
 trivial
 refine go he hm fun a he =>?_
 replace hm:=hm.le ((le34).trans le237)
 replace hm:=hm.dl [3,2,1,0]
 refine Ret1 hQ he hm ?_
 exact ⟨by rfl,hm⟩
 refine go he hm fun a he =>?_
 by_cases h316:(runP c l 4000).2=0
 refine Qq he hm (fun a he =>?_) (o:=by exact fun _ _ _ he hs=>y_ieql true he rfl rfl (decide_eq_true (congrArg Int.ofNat (kept_len (by assumption)))))
 refine go he hm fun a he =>?_
 replace hm:=hm.le ((le34).trans le237)
 replace hm:=hm.dl [3,2,1,0]
 refine Ret1 hQ he hm ?_
 exact ⟨by rfl,hm⟩
 refine go he hm fun a he =>?_
 replace hm:=hm.le ((le34).trans le237)
 replace hm:=hm.dl [3,2,1,0]
 refine Ret1 hQ he hm ?_
 exact ⟨by rfl,hm⟩
 refine Alc he hm fun b317 w hm a he =>?_
 refine CallR Tryz.call16 he hm (fun w hm a he =>?_) (c:=limit_ok hm)
 refine CallY Tryz.call20 he hm (fun y318 w hG319 hm a he =>?_) (c:=callAll_ok (fuel:=limitP fu) rpc ra (fun h_=>call_safe h_ _ _) G hm)
 obtain ⟨Ψ320,d321⟩:=y318
 obtain ⟨le322,hr323⟩:=hG319
 simp only at le322 hr323 hm he
 replace h14:=h14.up le322
 replace rpc:=RCore.mono _ _ _ _ le322 rpc
 replace G:=G.mono le322
 replace T_:=Tabs.mono T_ le322
 replace ho35:=ROutcome.mono _ _ _ _ le322 ho35
 replace hm:=hm.nf
 obtain ⟨p326,c327,rfl,hi330,h325,hm328,hn329⟩:=RVal.fm hr323
 refine Sto 0 he hm fun w hm a he =>?_
 refine go he hm fun a he =>?_
 by_cases h333:(callAllP c nm args (limitP fu)).2.2=0
 refine go he hm fun a he =>?_
 have hcl_:=h333
 refine go he hm fun a he =>?_
 refine loopK (he.ks [3,5,7,12]) hm (fun R mm a w=>∃(k2:Nat),mm=c.funs.length - k2∧R Ψ320 [(15,.int .i64 ((k2:Nat):Int))] [] a w∧(True)) (c.funs.length - 0) ⟨0,rfl,⟨he.pk,hm⟩,trivial⟩ ?_
 clear hm he
 rintro mm a w ⟨k2,hmu,⟨he,hm⟩,hI337⟩ L336 hL336
 refine go he hm fun a he =>?_
 by_cases h340:k2 < c.funs.length
 refine Reg [1,2,1,1,1,2,1,2,1,1,2,1,2,1,1,1,2,2,0,1,1] [0,1,2,3] he hm fun w hm a he =>?_
 refine go he hm fun a he =>?_
 obtain ⟨q343,rfl,x344,hx345,cs346,hl347,ha348,hr349⟩:=h14.el hn18 h340
 obtain ⟨s350,b356,rfl,h351,h357⟩:=id hr349
 obtain ⟨p352,c353,rfl,hm354,hn355⟩:=h351.fm
 obtain ⟨p360,c361,p366,c367,rfl,hi370,h359,h365,hm362,hn363,hm368,hn369⟩:=REx.fm h357
 refine go he hm fun a he =>?_
 by_cases h371:x344.name=nm
 refine go he hm fun a he =>?_
 obtain ⟨x372,hx373⟩:=at_of_lt h340
 obtain ⟨cs374,hl375,ha376,hr377⟩:=h14.elem hx373
 obtain ⟨s378,b384,rfl,h379,h385⟩:=id hr377
 obtain ⟨p380,c381,rfl,hm382,hn383⟩:=h379.fm
 obtain ⟨p388,c389,p394,c395,rfl,hi398,h387,h393,hm390,hn391,hm396,hn397⟩:=REx.fm h385
 refine CallR Tryz.call29 he hm (fun w hm a he =>?_) (c:=checkValue_ok rpc hr323 G hm)
 have hck_:checkValueP c x372.result (callAllP c nm args (limitP fu)).1=0:=kept_at2 hcl_ hx345 hx373 h371
 have hck2_:=Option.some.inj (hx373.symm.trans hx345)▸hck_
 refine go he hm fun a he =>?_
 refine hL336 _ _ _ (by subst hmu;omega) ⟨(k2+1),rfl,⟨he.pk,hm⟩,?_⟩
 trivial
 refine go he hm fun a he =>?_
 refine hL336 _ _ _ (by subst hmu;omega) ⟨(k2+1),rfl,⟨he.pk,hm⟩,?_⟩
 trivial
 refine go he hm fun a he =>?_
 replace hm:=hm.le ((le34).trans le322)
 replace hm:=hm.dl [3,2,1,0]
 refine Ret1 hQ he hm ?_
 exact ⟨by rfl,hm⟩
 refine go he hm fun a he =>?_
 by_cases h401:(runP c l 4000).2=0
 refine Qq he hm (fun a he =>?_) (o:=by exact fun _ _ _ he hs=>y_ieql true he rfl rfl (decide_eq_true (congrArg Int.ofNat (kept_len (by assumption)))))
 refine go he hm fun a he =>?_
 replace hm:=hm.le ((le34).trans le322)
 replace hm:=hm.dl [3,2,1,0]
 refine Ret1 hQ he hm ?_
 exact ⟨by rfl,hm⟩
 refine go he hm fun a he =>?_
 replace hm:=hm.le ((le34).trans le322)
 replace hm:=hm.dl [3,2,1,0]
 refine Ret1 hQ he hm ?_
 exact ⟨by rfl,hm⟩
end Go.Sw

namespace Go.Proofs.YtgkhcfjooiekkaaGreatDoor
open Go.ChangeShapes Go.WideShapes Go.ChangeAt Go.RowKit Go.Sw
set_option maxRecDepth 100000
theorem tt {a b:Bool} (ha:a=true) (hb:b=true):(a&&b)=true:=by rw [ha,hb];rfl
theorem coreKept_k0:Rows.coreKeptRow.wf (OpenSpec.ofChange Rows.coreKeptSpec)=true:=by kernel_rfl
theorem coreKept_k1:laidOutB Tryz.prog=true:=by kernel_rfl
theorem coreKept_k2:mapsRowed Tryz.prog=true:=by kernel_rfl
theorem coreKept_k3:Tryz.f10.params.all (Tryz.prog.readableRec ·)=true:=by kernel_rfl
theorem coreKept_k4:namedTie Tryz.prog Rows.coreKeptRow.named Rows.coreKeptSpec.vars=true:=by kernel_rfl
theorem coreKept_k5:(Rows.coreKeptRow.stops==[])=true:=by kernel_rfl
theorem coreKept_k6:(Tryz.prog.stops==[])=true:=by kernel_rfl
theorem coreKept_k7:(Rows.coreKeptRow.knobs==[])=true:=by kernel_rfl
theorem coreKept_k8:(Tryz.prog.stopKnobs==[])=true:=by kernel_rfl
theorem coreKept_k9:(Rows.coreKeptRow.inPlace==Tryz.prog.inPlace 10)=true:=by kernel_rfl
theorem coreKept_k10:(Rows.coreKeptRow.unfollowed==Tryz.prog.unfollowed 10)=true:=by kernel_rfl
theorem coreKept_k11:(Rows.coreKeptRow.recurses==Tryz.prog.recurses 10)=true:=by kernel_rfl
theorem coreKept_k12:(Rows.coreKeptRow.named==Tryz.prog.varsNamed 10)=true:=by kernel_rfl
theorem coreKept_k13:(Rows.coreKeptRow.maps==(Tryz.f10.params.toList++Rows.coreKeptSpec.plain.varTypes Tryz.prog).any (Tryz.prog.mapsRec ·))=true:=by kernel_rfl
theorem coreKept_k14:(Rows.coreKeptRow.ifaces==(Tryz.f10.params.toList++Rows.coreKeptSpec.plain.varTypes Tryz.prog).any (Tryz.prog.ifacesRec ·))=true:=by kernel_rfl
theorem coreKept_k15:(Rows.coreKeptRow.mapsOut==Tryz.prog.mapsAmong Tryz.f10.resultTypes.toList)=true:=by kernel_rfl
theorem coreKept_k16:(Rows.coreKeptRow.loops==(Tryz.f10.params.toList++Rows.coreKeptSpec.plain.varTypes Tryz.prog).any (Tryz.prog.loopsFrom ·))=true:=by kernel_rfl
theorem coreKept_k17:(Rows.coreKeptRow.wideKeys==(Tryz.f10.params.toList++Rows.coreKeptSpec.plain.varTypes Tryz.prog++Tryz.f10.resultTypes.toList).any (Tryz.prog.wideKeysFrom ·))=true:=by kernel_rfl
theorem coreKept_k18:Rows.coreKeptSpec.vars.all (Tryz.prog.varReadable ·)=true:=by kernel_rfl
theorem coreKept_k19:Tryz.f10.resultTypes.all (fun t=>Tryz.prog.readableRec t&&decide (t < Tryz.prog.types.size))=true:=by kernel_rfl
theorem coreKept_k20:(Rows.coreKeptRow.ifacesOut==Tryz.f10.resultTypes.toList.any (Tryz.prog.ifacesRec ·))=true:=by kernel_rfl
theorem coreKept_k21:(Rows.coreKeptRow.loopsOut==Tryz.f10.resultTypes.toList.any (Tryz.prog.loopsFrom ·))=true:=by kernel_rfl
theorem coreKept_k22:(Rows.coreKeptRow.plainKeys==Tryz.prog.plainKeys)=true:=by kernel_rfl
theorem coreKept_k23:Rows.coreKeptRow.shortTexts.isNone=true:=by kernel_rfl
theorem coreKept_k24:Tryz.prog.stopsHeard=true:=by kernel_rfl
theorem coreKept_k25:Tryz.prog.mayEnter=true:=by kernel_rfl
theorem coreKept_k26:(Rows.coreKeptRow.lifted==Tryz.prog.liftsFinal)=true:=by kernel_rfl
theorem coreKept_k27:(Tryz.prog.make==some Rows.coreKeptRow.make)=true:=by kernel_rfl
theorem coreKept_k28:(Rows.coreKeptRow.kinds==(if Rows.coreKeptRow.domain.isEmpty then [] else Tryz.f10.params.toList.map fun t=>match Tryz.prog.underlying t with | some (.int k)=>some k | _=>Option.none))=true:=by kernel_rfl
theorem coreKept_k29:(Rows.coreKeptRow.pinned==Rows.coreKeptRow.pinnedBy)=true:=by kernel_rfl
theorem coreKept_k30:(Rows.coreKeptRow.veiled==(Tryz.f10.params.toList++Rows.coreKeptSpec.plain.varTypes Tryz.prog++Tryz.f10.resultTypes.toList).any (Tryz.prog.veiledRec ·))=true:=by kernel_rfl
theorem coreKept_k31:Rows.coreKeptRow.veiledFits Tryz.prog Tryz.f10.params.toList (Tryz.f10.params.toList++Rows.coreKeptSpec.plain.varTypes Tryz.prog++Tryz.f10.resultTypes.toList)=true:=by kernel_rfl
theorem coreKept_closed:joinedFacts Tryz.prog 10 Tryz.f10 Rows.coreKeptSpec Rows.coreKeptRow=true:=(tt (tt (tt (tt (tt (tt (tt (tt (tt (tt (tt (tt (tt (tt (tt (tt (tt (tt (tt (tt (tt (tt (tt (tt (tt (tt (tt (tt (tt (tt (tt coreKept_k0 coreKept_k1) coreKept_k2) coreKept_k3) coreKept_k4) coreKept_k5) coreKept_k6) coreKept_k7) coreKept_k8) coreKept_k9) coreKept_k10) coreKept_k11) coreKept_k12) coreKept_k13) coreKept_k14) coreKept_k15) coreKept_k16) coreKept_k17) coreKept_k18) coreKept_k19) coreKept_k20) coreKept_k21) coreKept_k22) coreKept_k23) coreKept_k24) coreKept_k25) coreKept_k26) coreKept_k27) coreKept_k28) coreKept_k29) coreKept_k30) coreKept_k31)
theorem coreKept_named:Tryz.prog.funcNamed "restitch/restitchlaw08.CoreKept" = some 10:=by kernel_rfl
theorem coreKept_noInit:Tryz.checked.prog.inits.idxOf? 10=none:=by kernel_rfl
theorem coreKept_results:Tryz.f10.resultTypes=#[4]:=by kernel_rfl
theorem coreKept_read:([27,28,40].all fun t=>Tryz.prog.readableRec t&&decide (t < Tryz.prog.types.size))=true:=by kernel_rfl
theorem coreKept_wfText:Rows.coreKeptRow.wfByText (OpenSpec.ofChange Rows.coreKeptSpec)=true:=by kernel_rfl
theorem coreKept_goes:false=Rows.coreKeptRow.goesBy Tryz.prog:=by kernel_rfl
theorem coreKept_stand:([27,28,40].all fun u => !Tryz.prog.wantsStandIn u)=true:=by kernel_rfl
abbrev coreKept_args:Array Value:=#[.agg #[.slice none 0 0,.slice none 0 0,.slice none 0 0,.slice none 0 0],.slice none 0 0,.agg #[.string ⟨#[]⟩,.slice none 0 0,.int .i64 0]]
theorem coreKept_lifted (os:Os) (started:os.Started) (H:Type) (enc:TypeId×Value→H) :
  ReturnsInHanded {} Tryz.checked os 10 .any (fun w args=>(Rows.coreKeptSpec.pre enc Tryz.prog Tryz.f10 [] false w args∧laidMetH Tryz.prog laidAll w)∧sizedMet enc Tryz.prog Tryz.f10 (OpenSpec.ofChange Rows.coreKeptSpec) false w args)
   (Rows.coreKeptSpec.post enc Tryz.prog Tryz.f10 false true false false):=by
 refine wrap_shaped (C:=Tryz.checked) (X:=fun w _=>laidMetH Tryz.prog laidAll w) (fun _ _ _ hh h=>h.of_heap hh) own started coreKept_noInit Tryz.func10
  (ChangeSpec.witness_shaped (enc:=enc) (C:=Tryz.checked) (os:=os) (X:=fun w _=>laidMetH Tryz.prog laidAll w) false (World.laidAll Tryz.prog os laidAll) coreKept_args 8 (World.laidAll_os _ _ _)
   (World.shaped_of_ZipB (by as_aux_lemma=>kernel_rfl) (by as_aux_lemma=>kernel_rfl)) (by as_aux_lemma=>kernel_rfl) (by as_aux_lemma=>kernel_rfl) (by as_aux_lemma=>kernel_rfl)
   (by rw [laidH_plain];exact laid_met os _)) ?_
 intro W base args ds gs before hval0 hW hL hsh
 have hval:∀(j:Nat) t v,Tryz.f10.params[j]? = some t→args[j]? = some v→Value.okWide Tryz.prog W .any base t v:=hval0
 have hW':=hW
 obtain ⟨p,q,hA0,hV,rfl,_,_⟩:=hW
 have hA:DataW.TrodAll enc Tryz.prog W 0 (fun _=>true) true Tryz.f10.params.toList args.toList ds p:=hA0
 rw [Tryz.params10] at hA hval
 obtain ⟨v0,v1,v2,d0,d1,d2,p0,p1,p2,rfl,rfl,rfl,h0,h1,h2⟩:=trodAll_three hA
 rw [laidH_plain] at hL
 obtain ⟨cs,c,rfl,rpc⟩:=core_arg (hval 0 27 v0 rfl rfl) h0
 obtain ⟨l,rl⟩:=nameds_arg (hval 1 28 v1 rfl rfl) h1
 obtain ⟨nm,va,args_,fu,rfl,ra⟩:=called_arg (hval 2 40 v2 rfl rfl) h2
 refine (coreKept_ok rpc rl ra (glob_of hsh hL) (tabs_of hL) (Mem.whole W)).mono fun e W' ⟨he,hm⟩ =>?_
 subst he
 exact ⟨_,rfl,law_post hW' rfl (fun gs hg=>by subst hg;rfl) coreKept_results (by rw [Tryz.params10];exact fun t ht=>read_of coreKept_read ht) hm⟩
theorem coreKept_holds:Rows.CoreKeptSaid :=
 OpenClaim.holds_of_wide 10 Tryz.f10 rfl rfl rfl rfl rfl rfl rfl ⟨rfl,rfl,rfl,rfl,rfl⟩ rfl rfl rfl rfl rfl coreKept_named Tryz.func10 coreKept_closed
  (of_decide_eq_true (by as_aux_lemma=>kernel_rfl)) (by unfold Func.isWrapper;first | (rw [if_pos (by decide +kernel)];as_aux_lemma=>kernel_rfl) | (rw [if_neg (by decide +kernel)];exact ⟨rfl,rfl⟩))
  (fun os started H enc _=>coreKept_lifted os started H enc)
theorem coreKept_card:Rows.CoreKeptCardSaid :=
 Claim7.holds_tied_plain_at .later [] [.data,.data,.data,.data,.sentinel,.sentinel,.pinned] true (true,"455426ae17f5cebd1e869bbd2c7c15e1646e82f384eadf6ce8080b103650fe81") true coreKept_holds (fun _ h=>by cases h) coreKept_wfText (fun _ h=>by cases h) coreKept_row_tie rfl ⟨rfl,rfl⟩ main_is rfl
  (fun f fn hf hfn=>by
   obtain rfl:f=10:=Option.some.inj (coreKept_named.symm.trans hf) |>.symm
   obtain rfl:fn=Tryz.f10:=(Option.some.inj (Tryz.func10.symm.trans hfn)).symm
   exact ⟨looks_is,fun j t ht=>by
    rw [Tryz.params10] at ht
    have hm:t∈[27,28,40]:=by simpa using Array.mem_of_getElem? ht
    exact (show Tryz.prog.wantsStandIn t=false by simpa using List.all_eq_true.1 coreKept_stand t hm)⟩)
  coreKept_goes
#print axioms coreKept_card
end Go.Proofs.YtgkhcfjooiekkaaGreatDoor
