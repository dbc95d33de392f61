import Derived.Test.YtgkhcfjooiekkaaGreatDoorProg
import Derived.Test.YtgkhcfjooiekkaaGreatDoorX04
import Derived.Test.YtgkhcfjooiekkaaGreatDoorX10
import Derived.Test.YtgkhcfjooiekkaaGreatDoorX14
set_option linter.unusedVariables false
set_option linter.unusedSimpArgs false
namespace Go.Sw
open Go.Proofs.Tryz
open Go.Proofs
set_option maxRecDepth 20000
set_option maxHeartbeats 4000000
theorem coreScope_ok {Φ:Fz} {K:List Res} {w:World} {d0 d1:List Value} {v1:Value} {c:Core} {x:Typing} {l:List Named} (rpc:RCore Φ d0 c) (rpx:RTyping Φ d1 x) (rl:SliceOf RNamed Φ 4 v1 l) (hps:x.vars.length≤4398046511000) (hfs:c.funs.length≤1034834473180) (G:Glob Φ) (T_:Tabs Φ) (hm:Mem Φ K w) :
  Calls Tryz.prog 12 (List.toArray [.agg d0.toArray,.agg d1.toArray,v1]) w (fun ee w'=>ee=.returned (.bool true)∧Mem Φ K w'):=by
 obtain ⟨p3,c4,p9,c10,p15,c16,p21,c22,rfl,h2,h8,h14,h20,hm5,hn6,hm11,hn12,hm17,hn18,hm23,hn24⟩:=RCore.fm rpc
 obtain ⟨s25,b31,rfl,h26,h32⟩:=id rpx
 obtain ⟨p27,c28,rfl,hm29,hn30⟩:=h26.fm
 obtain ⟨p35,c36,p41,c42,rfl,hi45,h34,h40,hm37,hn38,hm43,hn44⟩:=REx.fm h32
 obtain ⟨pi_,ci_,rfl,hmi_,hni_⟩:=rl.fm
 refine z0l func12 ntmps12 fun Q hQ a he =>?_
 refine sq fun L46 hL46 =>?_
 refine go0 he hm fun a he =>?_
 refine Bx he hm fun b47 w hm a he =>?_
 refine Bx he hm fun b48 w hm a he =>?_
 refine go0 he hm fun a he =>?_
 refine hL46 _ _ ?_
 refine sq fun L49 hL49 =>?_
 refine go0 he hm fun a he =>?_
 refine z0y call18 he hm (fun w hm a he =>?_) (c:=sane_ok G T_ hm)
 refine go0 he hm fun a he =>?_
 refine hL49 _ _ ?_
 refine sq fun L50 hL50 =>?_
 refine go0 he hm fun a he =>?_
 refine z0y call33 he hm (fun w hm a he =>?_) (c:=typeOf_ok rpc h26 h32 (by omega) G hm)
 refine go0 he hm fun a he =>?_
 refine hL50 _ _ ?_
 refine sq fun L51 hL51 =>?_
 refine go0 he hm fun a he =>?_
 refine st he rfl rfl rfl (z9a (sz:=2) (cs:=[]) he hm rfl (built_nil runUnderlying23 sizeOf72) rfl (by decide) fun v52 w hm _ a he =>?_)
 refine go0 he hm fun a he =>?_
 obtain ⟨cs54,hrow55,hch56⟩:=id h26
 refine st he rfl rfl rfl (y0m 0 (xs:=[]) (news:=cs54) rt_23 he hm rfl rfl rfl (hrow55.rowIn hm.toSees) (hch56.ones RParam.ones) (by intro n_ m_ hn_ hx_;have h_:=hch56.length;simp only [List.length_nil] at hn_;omega) fun v53 w hm a he =>?_)
 replace hm:=hm.nf
 refine z1h he hm fun a he =>?_
 refine BldS he hm fun v57 w hm a he =>?_
 refine st he rfl rfl rfl (y0m 1 (xs:=cs54) (news:=[.string ⟨#[117,110,117,115,101,100,39,57]⟩,.string ⟨#[73,110,116]⟩]) rt_23 he hm rfl rfl rfl (hm.toSees.rowIn (i:=0) rfl) rfl (by intro n_ m_ hn_ hx_;have h_:=hch56.length;simp only [List.length_cons,List.length_nil] at hx_;omega) fun v58 w hm a he =>?_)
 replace hm:=hm.nf
 refine go0 he hm fun a he =>?_
 refine hL51 _ _ ?_
 refine sq fun L59 hL59 =>?_
 refine go0 he hm fun a he =>?_
 have hch60:Chunks (RParam Φ) 2 (cs54++[.string ⟨#[117,110,117,115,101,100,39,57]⟩,.string ⟨#[73,110,116]⟩]) (x.vars++[⟨z3i,sInt⟩]):=Chunks.snoc (R:=RParam Φ) (k:=2) (x:=(⟨z3i,sInt⟩:Param)) rfl rfl hch56
 have hm0_:=hm
 clear hm
 obtain ⟨Ψ61,le62,hm,hrow63⟩:=hm0_.freezeRow (i:=1) rfl
 clear hm0_
 replace h2:=h2.up le62
 replace h8:=h8.up le62
 replace h14:=h14.up le62
 replace h20:=h20.up le62
 replace rpc:=RCore.mono _ _ _ _ le62 rpc
 replace G:=G.mono le62
 replace T_:=Tabs.mono T_ le62
 replace h26:=h26.up le62
 replace h32:=REx.mono _ _ _ _ le62 h32
 replace rpx:=RTyping.mono _ _ _ _ le62 rpx
 replace rl:=rl.up le62
 replace hm:=hm.nf
 have hsl64:SliceOf RParam Ψ61 2 _ ((x.vars++[⟨z3i,sInt⟩])):=⟨_,hrow63,hch60⟩
 obtain ⟨p65,c66,hv_,hm67,hn68⟩:=hsl64.form (by decide)
 have hmk_:=hm
 clear hm
 subst hv_
 have hm:=hmk_
 clear hmk_
 refine go0 he hm fun a he =>?_
 refine z0y call33 he hm (fun w hm a he =>?_) (c:=typeOf_ok rpc hsl64 h32 (by simp only [List.length_append,List.length_cons,List.length_nil];omega) G hm)
 refine go0 he hm fun a he =>?_
 refine hL59 _ _ ?_
 refine sq fun L69 hL69 =>?_
 have hJ70:∀a w,(EnvR 110 [(2,.slice pi_ l.length ci_),(3,.pointer (some ⟨b47,0,none⟩)),(7,.bool true)] [] a∧Mem Ψ61 (.gs (v57) 72 2 [.string ⟨#[117,110,117,115,101,100,39,57]⟩,.string ⟨#[73,110,116]⟩]::.blk b48 (ob [.slice p27 x.vars.length c28,.int .i64 (x.expr.kind),.int .i64 (x.expr.num),.string x.expr.name,.slice p35 x.expr.args.length c36,.slice p41 x.expr.arms.length c42] 76)::.blk b47 (ob [.slice p3 c.datas.length c4,.slice p9 c.inputs.length c10,.slice p15 c.funs.length c16,.slice p21 c.outputs.length c22] 27)::K) w∧(True))→L69 a w:=by
  clear hm he
  rintro a w ⟨he,hm,hI71⟩
  refine hL69 _ _ ?_
  refine sq fun L72 hL72 =>?_
  refine go0 he hm fun a he =>?_
  refine Alc he hm fun b73 w hm a he =>?_
  refine Sto 0 he hm fun w hm a he =>?_
  refine go0 he hm fun a he =>?_
  refine hL72 _ _ ?_
  refine sq fun L74 hL74 =>?_
  refine go0 he hm fun a he =>?_
  refine Sto 0 he hm fun w hm a he =>?_
  refine go0 he hm fun a he =>?_
  refine hL74 _ _ ?_
  refine sq fun L75 hL75 =>?_
  refine sq fun L76 hL76 =>?_
  refine go0 he hm fun a he =>?_
  refine Qq he hm (fun a he =>?_) (o:=by exact fun _ _ _ he hs=>z7h (((c.funs.length:Nat):Int) - 1) he rfl rfl (z1d (by omega)))
  refine go0 he hm fun a he =>?_
  refine hL76 _ _ ?_
  refine go0 he hm fun a he =>?_
  replace hm:=hm.nilRow 68 8
  replace hm:=hm.nf
  rw [show ((c.funs.length:Nat):Int) - 1=((c.funs.length:Nat):Int) - 1 - ((0:Nat):Int) by omega] at he
  refine z1i (he.ks [2,3,7,13]) hm (fun R mm a w=>∃(Ψ77:Fz) (i:Nat) (u:Value) (cs:List Value),mm=c.funs.length - i∧R Ψ77 [(14,.int .i64 (((c.funs.length:Nat):Int) - 1 - ((i:Nat):Int)))] [(0,.gs (u) 68 8 cs),(1,.blk b73 (ob [.slice p3 c.datas.length c4,.slice p9 c.inputs.length c10,u,.slice p21 c.outputs.length c22] 27))] a w∧(Ψ61.Le Ψ77∧(i≤c.funs.length∧Chunks (RFun Ψ77) 8 cs (c.funs.reverse.take i)))) (c.funs.length - 0) ⟨Ψ61,0,.slice none 0 0,[],rfl,⟨he.pk,hm⟩,⟨Fz.Le.refl _,⟨Nat.zero_le _,rfl⟩⟩⟩ ?_
  clear hm he
  rintro mm a w ⟨Ψ77,i,u,cs,hmu,⟨he,hm⟩,hI80⟩ L79 hL79
  replace hm:=hm.nf
  obtain ⟨le78,hI80⟩:=hI80
  replace h2:=h2.up le78
  replace h8:=h8.up le78
  replace h14:=h14.up le78
  replace h20:=h20.up le78
  replace rpc:=RCore.mono _ _ _ _ le78 rpc
  replace G:=G.mono le78
  replace T_:=Tabs.mono T_ le78
  replace h26:=h26.up le78
  replace h32:=REx.mono _ _ _ _ le78 h32
  replace rpx:=RTyping.mono _ _ _ _ le78 rpx
  replace rl:=rl.up le78
  obtain ⟨hi_,hch_⟩:=hI80
  refine sq fun L81 hL81 =>?_
  refine sq fun L82 hL82 =>?_
  refine go0 he hm fun a he =>?_
  by_cases h83:0≤((c.funs.length:Nat):Int) - 1 - ((i:Nat):Int)
  refine go0 he hm fun a he =>?_
  refine hL82 _ _ ?_
  refine go0 he hm fun a he =>?_
  refine hL81 _ _ ?_
  refine sq fun L84 hL84 =>?_
  refine go0 he hm fun a he =>?_
  refine Reg [1,2,1,2,1,1,2,0,0,1,0] [1,2,3,4] he hm fun w hm a he =>?_
  rw [show ((c.funs.length:Nat):Int) - 1 - ((i:Nat):Int)=((c.funs.length - 1 - i:Nat):Int) by omega] at he
  refine go0 he hm fun a he =>?_
  have hb85:(c.funs.length - 1 - i) < c.funs.length:=by omega
  obtain ⟨q86,rfl,x87,hx88,cs89,hl90,ha91,hr92⟩:=h14.el hn18 hb85
  obtain ⟨s93,b99,rfl,h94,h100⟩:=id hr92
  obtain ⟨p95,c96,rfl,hm97,hn98⟩:=h94.fm
  obtain ⟨p103,c104,p109,c110,rfl,hi113,h102,h108,hm105,hn106,hm111,hn112⟩:=REx.fm h100
  refine BldS he hm fun v114 w hm a he =>?_
  refine d_e he rfl rfl rfl (y0m 1 (xs:=cs) (news:=[.string x87.name,.slice p95 x87.params.length c96,.string x87.result,.int .i64 (x87.body.kind),.int .i64 (x87.body.num),.string x87.body.name,.slice p103 x87.body.args.length c104,.slice p109 x87.body.arms.length c110]) rt_24 he hm rfl rfl rfl (hm.toSees.rowIn (i:=0) rfl) rfl (by intro n_ m_ hn_ hx_;have h_:=hch_.length;rw [List.length_take,List.length_reverse] at h_;simp only [List.length_cons,List.length_nil] at hx_;omega) fun v115 w hm=>⟨fun _=>hm.sn (Fz.Le.refl _),fun a he =>?_⟩)
  replace hm:=hm.nf
  refine go0 he hm fun a he =>?_
  refine Sto 2 he hm fun w hm a he =>?_
  refine go0 he hm fun a he =>?_
  refine hL84 _ _ ?_
  refine go0 he hm fun a he =>?_
  refine Qq he hm (fun a he =>?_) (o:=by exact fun _ _ _ he hs=>z7h (((c.funs.length:Nat):Int) - 1 - (((i+1):Nat):Int)) he rfl rfl (by rw [z1d (by omega)];omega))
  refine go0 he hm fun a he =>?_
  replace hm:=hm.dl [0]
  refine hL79 _ _ _ (by subst hmu;omega) ⟨(Ψ77),(i+1),(v115),((cs++[.string x87.name,.slice p95 x87.params.length c96,.string x87.result,.int .i64 (x87.body.kind),.int .i64 (x87.body.num),.string x87.body.name,.slice p103 x87.body.args.length c104,.slice p109 x87.body.arms.length c110])),rfl,⟨he.pk,by exact hm⟩,?_⟩
  refine ⟨le78,?_⟩
  exact ⟨by omega,by rw [rev_take (by omega) hx88];exact hch_.snoc (k:=8) (x:=x87) rfl hr92⟩
  refine go0 he hm fun a he =>?_
  refine hL82 _ _ ?_
  refine go0 he hm fun a he =>?_
  refine hL75 _ _ ?_
  refine sq fun L116 hL116 =>?_
  refine go0 he hm fun a he =>?_
  rw [List.take_of_length_le (by rw [List.length_reverse];omega)] at hch_
  have hm0_:=hm
  clear hm
  obtain ⟨Ψ117,le118,hm,hrow119⟩:=hm0_.freezeRow (i:=0) rfl
  clear hm0_
  replace h2:=h2.up le118
  replace h8:=h8.up le118
  replace h20:=h20.up le118
  replace rpc:=RCore.mono _ _ _ _ le118 rpc
  replace G:=G.mono le118
  replace T_:=Tabs.mono T_ le118
  replace h26:=h26.up le118
  replace h32:=REx.mono _ _ _ _ le118 h32
  replace rpx:=RTyping.mono _ _ _ _ le118 rpx
  replace rl:=rl.up le118
  replace hch_:=hch_.mono fun _ _ h=>RFun.mono _ _ _ _ le118 h
  replace hm:=hm.nf
  have hsl120:SliceOf RFun Ψ117 8 _ (c.funs.reverse):=⟨_,hrow119,hch_⟩
  obtain ⟨p121,c122,hv_,hm123,hn124⟩:=hsl120.form (by decide)
  have hmk_:=hm
  clear hm
  subst hv_
  have hm:=hmk_
  clear hmk_
  have rpd_:RCore Ψ117 [.slice p3 c.datas.length c4,.slice p9 c.inputs.length c10,.slice p121 (c.funs.reverse).length c122,.slice p21 c.outputs.length c22] (revC c):=⟨_,_,_,_,rfl,h2,h8,hsl120,h20⟩
  refine go0 he hm fun a he =>?_
  refine z2i call15 he hm (fun y125 w hG126 hm a he =>?_) (c:=runAll_ok (fuel:=4000) rpc rl G hm)
  obtain ⟨Ψ127,d128⟩:=y125
  obtain ⟨le129,ho130⟩:=hG126
  simp only at le129 ho130 hm he
  replace rpc:=RCore.mono _ _ _ _ le129 rpc
  replace G:=G.mono le129
  replace T_:=Tabs.mono T_ le129
  replace h26:=h26.up le129
  replace h32:=REx.mono _ _ _ _ le129 h32
  replace rpx:=RTyping.mono _ _ _ _ le129 rpx
  replace rl:=rl.up le129
  replace rpd_:=RCore.mono _ _ _ _ le129 rpd_
  replace hm:=hm.nf
  obtain ⟨s131,rfl,h132⟩:=id ho130
  obtain ⟨p133,c134,rfl,hm135,hn136⟩:=h132.fm
  refine go0 he hm fun a he =>?_
  refine Alc he hm fun b137 w hm a he =>?_
  refine Sto 0 he hm fun w hm a he =>?_
  refine go0 he hm fun a he =>?_
  refine hL116 _ _ ?_
  refine sq fun L138 hL138 =>?_
  refine go0 he hm fun a he =>?_
  refine z2i call15 he hm (fun y139 w hG140 hm a he =>?_) (c:=runAll_ok (fuel:=4000) rpd_ rl G hm)
  obtain ⟨Ψ141,d142⟩:=y139
  obtain ⟨le143,ho144⟩:=hG140
  simp only at le143 ho144 hm he
  replace rpc:=RCore.mono _ _ _ _ le143 rpc
  replace G:=G.mono le143
  replace T_:=Tabs.mono T_ le143
  replace h26:=h26.up le143
  replace h32:=REx.mono _ _ _ _ le143 h32
  replace rpx:=RTyping.mono _ _ _ _ le143 rpx
  replace rpd_:=RCore.mono _ _ _ _ le143 rpd_
  replace ho130:=ROutcome.mono _ _ _ _ le143 ho130
  replace hm:=hm.nf
  obtain ⟨s145,rfl,h146⟩:=id ho144
  obtain ⟨p147,c148,rfl,hm149,hn150⟩:=h146.fm
  refine go0 he hm fun a he =>?_
  refine Alc he hm fun b151 w hm a he =>?_
  refine Sto 0 he hm fun w hm a he =>?_
  refine go0 he hm fun a he =>?_
  refine hL138 _ _ ?_
  refine sq fun L152 hL152 =>?_
  refine go0 he hm fun a he =>?_
  refine Qq he hm (fun a he =>?_) (o:=by exact fun _ _ _ he hs=>z4t true he rfl rfl (decide_eq_true ((congrArg Prod.snd (runP_rev c l 4000)).symm)))
  refine go0 he hm fun a he =>?_
  refine z0y call19 he hm (fun w hm a he =>?_) (c:=sameOT_ok ho130 ho144 (congrArg Prod.fst (runP_rev c l 4000)).symm hm)
  refine go0 he hm fun a he =>?_
  refine hL152 _ _ ?_
  refine go0 he hm fun a he =>?_
  replace hm:=hm.le (((((le62).trans le78).trans le118).trans le129).trans le143)
  replace hm:=hm.dl [5,4,3,2,1,0]
  refine Ret1 hQ he hm ?_
  exact ⟨by rfl,hm⟩
 refine sq fun L153 hL153 =>?_
 refine go0 he hm fun a he =>?_
 by_cases h154:(z2c c x.vars x.expr).2=0
 refine go0 he hm fun a he =>?_
 by_cases h155:(z2c c (x.vars++[⟨z3i,sInt⟩]) x.expr).2=0
 refine go0 he hm fun a he =>?_
 by_cases h156:(z2c c x.vars x.expr).1=(z2c c (x.vars++[⟨z3i,sInt⟩]) x.expr).1
 refine go0 he hm fun a he =>?_
 refine hL153 _ _ ?_
 refine go0 he hm fun a he =>?_
 exact hJ70 _ _ ⟨he.pk,hm,trivial⟩
 refine go0 he hm fun a he =>?_
 refine hL153 _ _ ?_
 refine go0 he hm fun a he =>?_
 refine sq fun L157 hL157 =>?_
 refine go0 he hm fun a he =>?_
 refine hL157 _ _ ?_
 refine go0 he hm fun a he =>?_
 replace hm:=hm.le (le62)
 replace hm:=hm.dl [2,1,0]
 refine Ret1 hQ he hm ?_
 exact absurd ((unused_ok h154).1 h155).symm h156
 refine go0 he hm fun a he =>?_
 refine z1n call34 he hm (fun hB158 w hm a he =>?_) (fun hB158 w hm a he =>?_) (c:=lnamed_ok h26 h32 (by have h_:=meas_bind6 (typ_inv h154).2.2.1;omega) hm)
 refine go0 he hm fun a he =>?_
 refine hL153 _ _ ?_
 refine go0 he hm fun a he =>?_
 exact hJ70 _ _ ⟨he.pk,hm,trivial⟩
 refine go0 he hm fun a he =>?_
 refine hL153 _ _ ?_
 refine go0 he hm fun a he =>?_
 refine sq fun L159 hL159 =>?_
 refine go0 he hm fun a he =>?_
 refine hL159 _ _ ?_
 refine go0 he hm fun a he =>?_
 replace hm:=hm.le (le62)
 replace hm:=hm.dl [2,1,0]
 refine Ret1 hQ he hm ?_
 exact absurd ((unused_ok h154).2 h155) (by rw [hB158];decide)
 refine go0 he hm fun a he =>?_
 refine hL153 _ _ ?_
 refine go0 he hm fun a he =>?_
 exact hJ70 _ _ ⟨he.pk,hm,trivial⟩
end Go.Sw
