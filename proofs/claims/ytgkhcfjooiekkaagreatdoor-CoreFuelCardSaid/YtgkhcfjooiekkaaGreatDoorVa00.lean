/- CoreFuel: the statement coreFuelCardSaid, of any program, inputs and fuel, as it is given; nothing is assumed beyond it. -/
import Derived.Test.YtgkhcfjooiekkaaGreatDoorProg
import Derived.Test.YtgkhcfjooiekkaaGreatDoorX03
import Derived.Test.YtgkhcfjooiekkaaGreatDoorX04
import Derived.Test.YtgkhcfjooiekkaaGreatDoorX14
set_option linter.unusedVariables false
set_option linter.unusedSimpArgs false
namespace Go.Sw
open Go.Proofs
set_option maxRecDepth 20000
set_option maxHeartbeats 4000000
theorem r08pick_ok {Φ:Fz} {K:List Res} {w:World} {c:Int} {n:Nat}  (hc:I64 c) (hm:Mem Φ K w) :
  Calls Tryz.prog 28 (List.toArray [.int .i64 c,.int .i64 ((1000:Nat):Int)]) w (fun ee w'=>ee=.returned (.int .i64 (pickP c))∧Mem Φ K w'):=by
 refine Enter Tryz.func28 Tryz.ntmps28 fun Q hQ a he =>?_
 refine go he hm fun a he =>?_
 by_cases h4:c < 0
 refine Qq he hm (fun a he =>?_) (o:=by exact fun _ _ _ he hs=>y_add ((c+1)) he rfl rfl (wrap64 (by have h1_:=hc.1;omega)))
 refine Qq he hm (fun a he =>?_) (o:=by exact fun _ _ _ he hs=>y_neg _ he rfl rfl)
 refine Qq he hm (fun a he =>?_) (o:=by exact fun _ _ _ he hs=>y_rem _ he rfl rfl (by decide) rfl)
 refine Ret1 hQ he hm ?_
 exact ⟨congrArg (fun x=>Ending.returned (.int .i64 x)) (show (IntKind.i64.wrap (0 - (c+1))).tmod 1000=pickP c by first | (rw [pickP,if_neg (by assumption)]) | (rw [pickP,if_pos (by assumption),wrap64 (by have h1_:=hc.1;omega)];congr 1;omega)),hm⟩
 refine Qq he hm (fun a he =>?_) (o:=by exact fun _ _ _ he hs=>y_rem _ he rfl rfl (by decide) rfl)
 refine Ret1 hQ he hm ?_
 exact ⟨congrArg (fun x=>Ending.returned (.int .i64 x)) (show c.tmod 1000=pickP c by first | (rw [pickP,if_neg (by assumption)]) | (rw [pickP,if_pos (by assumption),wrap64 (by have h1_:=hc.1;omega)];congr 1;omega)),hm⟩
theorem coreFuel_ok {Φ:Fz} {K:List Res} {w:World} {d0:List Value} {v1:Value} {c:Core} {l:List Named} {f0 f1:Int} (rpc:RCore Φ d0 c) (rl:SliceOf RNamed Φ 4 v1 l) (h1:I64 f1) (G:Glob Φ) (T_:Tabs Φ) (hm:Mem Φ K w) :
  Calls Tryz.prog 7 (List.toArray [.agg d0.toArray,v1,.agg (List.toArray [.int .i64 f0,.int .i64 f1])]) w (fun ee w'=>ee=.returned (.bool true)∧Mem Φ K w'):=by
 obtain ⟨p3,c4,p9,c10,p15,c16,p21,c22,rfl,h2,h8,h14,h20,hm5,hn6,hm11,hn12,hm17,hn18,hm23,hn24⟩:=RCore.fm rpc
 obtain ⟨pi_,ci_,rfl,hmi_,hni_⟩:=rl.fm
 refine Enter Tryz.func7 Tryz.ntmps7 fun Q hQ a he =>?_
 refine Bx he hm fun b26 w hm a he =>?_
 refine Bx he hm fun b27 w hm a he =>?_
 refine CallR Tryz.call18 he hm (fun w hm a he =>?_) (c:=sane_ok G T_ hm)
 refine Qq he hm (fun a he =>?_) (o:=by exact fun _ _ _ he hs=>y_indexAddr_own 0 he rfl rfl Tryz.runUnderlying58 Tryz.sizeOf3 (by decide) rfl)
 refine CallR Tryz.call16 he hm (fun w hm a he =>?_) (c:=limit_ok hm)
 refine CallY Tryz.call15 he hm (fun y31 w hG32 hm a he =>?_) (c:=runAll_ok (fuel:=limitP f0) rpc rl G hm)
 obtain ⟨Ψ33,d34⟩:=y31
 obtain ⟨le35,ho36⟩:=hG32
 simp only at le35 ho36 hm he
 replace rpc:=RCore.mono _ _ _ _ le35 rpc
 replace G:=G.mono le35
 replace T_:=Tabs.mono T_ le35
 replace rl:=rl.up le35
 replace hm:=hm.nf
 obtain ⟨s37,rfl,h38⟩:=id ho36
 obtain ⟨p39,c40,rfl,hm41,hn42⟩:=h38.fm
 refine Alc he hm fun b43 w hm a he =>?_
 refine Sto 0 he hm fun w hm a he =>?_
 refine go he hm fun a he =>?_
 by_cases h46:(runP c l (limitP f0)).2=0
 refine go he hm fun a he =>?_
 have hr_:=run_pair h46
 have hmo_:=fuel_more hr_ (limit_run h46) (pick_range f1).1 (pick_range f1).2
 have hsa_:=fuel_same hr_
 have hls_:=fuel_less hr_
 have hpk_:=pick_range f1
 have hli_:=limit_run h46
 have hl0_:=(run_ok_inv hr_).2.1
 refine Qq he hm (fun a he =>?_) (o:=by exact fun _ _ _ he hs=>y_indexAddr_own 1 he rfl rfl Tryz.runUnderlying58 Tryz.sizeOf3 (by decide) rfl)
 refine CallR Tryz.call28 he hm (fun w hm a he =>?_) (c:=r08pick_ok (n:=0) h1 hm)
 refine Qq he hm (fun a he =>?_) (o:=by exact fun _ _ _ he hs=>y_add (limitP f0+pickP f1) he rfl rfl (wrap64 (by omega)))
 refine CallY Tryz.call15 he hm (fun y49 w hG50 hm a he =>?_) (c:=runAll_ok (fuel:=limitP f0+pickP f1) rpc rl G hm)
 obtain ⟨Ψ51,d52⟩:=y49
 obtain ⟨le53,ho54⟩:=hG50
 simp only at le53 ho54 hm he
 replace rpc:=RCore.mono _ _ _ _ le53 rpc
 replace G:=G.mono le53
 replace T_:=Tabs.mono T_ le53
 replace rl:=rl.up le53
 replace ho36:=ROutcome.mono _ _ _ _ le53 ho36
 replace hm:=hm.nf
 obtain ⟨s55,rfl,h56⟩:=id ho54
 obtain ⟨p57,c58,rfl,hm59,hn60⟩:=h56.fm
 refine Alc he hm fun b61 w hm a he =>?_
 refine Sto 0 he hm fun w hm a he =>?_
 refine CallY Tryz.call15 he hm (fun y63 w hG64 hm a he =>?_) (c:=runAll_ok (fuel:=(runP c l (limitP f0)).1.steps) rpc rl G hm)
 obtain ⟨Ψ65,d66⟩:=y63
 obtain ⟨le67,ho68⟩:=hG64
 simp only at le67 ho68 hm he
 replace rpc:=RCore.mono _ _ _ _ le67 rpc
 replace G:=G.mono le67
 replace T_:=Tabs.mono T_ le67
 replace rl:=rl.up le67
 replace ho36:=ROutcome.mono _ _ _ _ le67 ho36
 replace ho54:=ROutcome.mono _ _ _ _ le67 ho54
 replace hm:=hm.nf
 obtain ⟨s69,rfl,h70⟩:=id ho68
 obtain ⟨p71,c72,rfl,hm73,hn74⟩:=h70.fm
 refine Alc he hm fun b75 w hm a he =>?_
 refine Sto 0 he hm fun w hm a he =>?_
 refine Qq he hm (fun a he =>?_) (o:=by exact fun _ _ _ he hs=>y_sub ((runP c l (limitP f0)).1.steps - 1) he rfl rfl (wrap64 (by have h_:=hsa_.2;omega)))
 refine CallY Tryz.call15 he hm (fun y77 w hG78 hm a he =>?_) (c:=runAll_ok (fuel:=(runP c l (limitP f0)).1.steps - 1) rpc rl G hm)
 obtain ⟨Ψ79,d80⟩:=y77
 obtain ⟨le81,ho82⟩:=hG78
 simp only at le81 ho82 hm he
 replace rpc:=RCore.mono _ _ _ _ le81 rpc
 replace G:=G.mono le81
 replace T_:=Tabs.mono T_ le81
 replace ho36:=ROutcome.mono _ _ _ _ le81 ho36
 replace ho54:=ROutcome.mono _ _ _ _ le81 ho54
 replace ho68:=ROutcome.mono _ _ _ _ le81 ho68
 replace hm:=hm.nf
 obtain ⟨s83,rfl,h84⟩:=id ho82
 obtain ⟨p85,c86,rfl,hm87,hn88⟩:=h84.fm
 refine Alc he hm fun b89 w hm a he =>?_
 refine Sto 0 he hm fun w hm a he =>?_
 refine go he hm fun a he =>?_
 by_cases h91:(runP c l ((runP c l (limitP f0)).1.steps - 1)).2=4
 refine Qq he hm (fun a he =>?_) (o:=by exact fun _ _ _ he hs=>y_ieql true he rfl rfl (decide_eq_true (congrArg Prod.snd hmo_)))
 refine Qq he hm (fun a he =>?_) (o:=by exact fun _ _ _ he hs=>y_ieql true he rfl rfl (decide_eq_true (congrArg Prod.snd hsa_.1)))
 refine CallR Tryz.call19 he hm (fun w hm a he =>?_) (c:=sameOT_ok ho36 ho54 (congrArg Prod.fst hmo_).symm hm)
 refine CallR Tryz.call19 he hm (fun w hm a he =>?_) (c:=sameOT_ok ho36 ho68 (congrArg Prod.fst hsa_.1).symm hm)
 refine go he hm fun a he =>?_
 replace hm:=hm.le ((((le35).trans le53).trans le67).trans le81)
 replace hm:=hm.dl [5,4,3,2,1,0]
 refine Ret1 hQ he hm ?_
 exact ⟨by rfl,hm⟩
 refine Qq he hm (fun a he =>?_) (o:=by exact fun _ _ _ he hs=>y_ieql true he rfl rfl (decide_eq_true (hls_.resolve_left (by assumption)).1))
 refine Qq he hm (fun a he =>?_) (o:=by exact fun _ _ _ he hs=>y_ieql true he rfl rfl (decide_eq_true (hls_.resolve_left (by assumption)).2))
 refine Qq he hm (fun a he =>?_) (o:=by exact fun _ _ _ he hs=>y_ieql true he rfl rfl (decide_eq_true (congrArg Prod.snd hmo_)))
 refine Qq he hm (fun a he =>?_) (o:=by exact fun _ _ _ he hs=>y_ieql true he rfl rfl (decide_eq_true (congrArg Prod.snd hsa_.1)))
 refine CallR Tryz.call19 he hm (fun w hm a he =>?_) (c:=sameOT_ok ho36 ho54 (congrArg Prod.fst hmo_).symm hm)
 refine CallR Tryz.call19 he hm (fun w hm a he =>?_) (c:=sameOT_ok ho36 ho68 (congrArg Prod.fst hsa_.1).symm hm)
 refine go he hm fun a he =>?_
 replace hm:=hm.le ((((le35).trans le53).trans le67).trans le81)
 replace hm:=hm.dl [5,4,3,2,1,0]
 refine Ret1 hQ he hm ?_
 exact ⟨by rfl,hm⟩
 refine go he hm fun a he =>?_
 have hz1_:(runP c l (limitP f0)).1.outputs.length=0:=by rw [run_err h46];rfl
 have hz2_:(runP c l (limitP f0)).1.steps=0:=by rw [run_err h46];rfl
 refine go he hm fun a he =>?_
 replace hm:=hm.le (le35)
 replace hm:=hm.dl [2,1,0]
 refine Ret1 hQ he hm ?_
 exact ⟨by rfl,hm⟩
end Go.Sw

namespace Go.Proofs.YtgkhcfjooiekkaaGreatDoor
open Go.ChangeShapes Go.WideShapes Go.ChangeAt Go.RowKit Go.Sw
set_option maxRecDepth 100000
theorem tt {a b:Bool} (ha:a=true) (hb:b=true):(a&&b)=true:=by rw [ha,hb];rfl
theorem coreFuel_k0:Rows.coreFuelRow.wf (OpenSpec.ofChange Rows.coreFuelSpec)=true:=by kernel_rfl
theorem coreFuel_k1:laidOutB Tryz.prog=true:=by kernel_rfl
theorem coreFuel_k2:mapsRowed Tryz.prog=true:=by kernel_rfl
theorem coreFuel_k3:Tryz.f7.params.all (Tryz.prog.readableRec ·)=true:=by kernel_rfl
theorem coreFuel_k4:namedTie Tryz.prog Rows.coreFuelRow.named Rows.coreFuelSpec.vars=true:=by kernel_rfl
theorem coreFuel_k5:(Rows.coreFuelRow.stops==[])=true:=by kernel_rfl
theorem coreFuel_k6:(Tryz.prog.stops==[])=true:=by kernel_rfl
theorem coreFuel_k7:(Rows.coreFuelRow.knobs==[])=true:=by kernel_rfl
theorem coreFuel_k8:(Tryz.prog.stopKnobs==[])=true:=by kernel_rfl
theorem coreFuel_k9:(Rows.coreFuelRow.inPlace==Tryz.prog.inPlace 7)=true:=by kernel_rfl
theorem coreFuel_k10:(Rows.coreFuelRow.unfollowed==Tryz.prog.unfollowed 7)=true:=by kernel_rfl
theorem coreFuel_k11:(Rows.coreFuelRow.recurses==Tryz.prog.recurses 7)=true:=by kernel_rfl
theorem coreFuel_k12:(Rows.coreFuelRow.named==Tryz.prog.varsNamed 7)=true:=by kernel_rfl
theorem coreFuel_k13:(Rows.coreFuelRow.maps==(Tryz.f7.params.toList++Rows.coreFuelSpec.plain.varTypes Tryz.prog).any (Tryz.prog.mapsRec ·))=true:=by kernel_rfl
theorem coreFuel_k14:(Rows.coreFuelRow.ifaces==(Tryz.f7.params.toList++Rows.coreFuelSpec.plain.varTypes Tryz.prog).any (Tryz.prog.ifacesRec ·))=true:=by kernel_rfl
theorem coreFuel_k15:(Rows.coreFuelRow.mapsOut==Tryz.prog.mapsAmong Tryz.f7.resultTypes.toList)=true:=by kernel_rfl
theorem coreFuel_k16:(Rows.coreFuelRow.loops==(Tryz.f7.params.toList++Rows.coreFuelSpec.plain.varTypes Tryz.prog).any (Tryz.prog.loopsFrom ·))=true:=by kernel_rfl
theorem coreFuel_k17:(Rows.coreFuelRow.wideKeys==(Tryz.f7.params.toList++Rows.coreFuelSpec.plain.varTypes Tryz.prog++Tryz.f7.resultTypes.toList).any (Tryz.prog.wideKeysFrom ·))=true:=by kernel_rfl
theorem coreFuel_k18:Rows.coreFuelSpec.vars.all (Tryz.prog.varReadable ·)=true:=by kernel_rfl
theorem coreFuel_k19:Tryz.f7.resultTypes.all (fun t=>Tryz.prog.readableRec t&&decide (t < Tryz.prog.types.size))=true:=by kernel_rfl
theorem coreFuel_k20:(Rows.coreFuelRow.ifacesOut==Tryz.f7.resultTypes.toList.any (Tryz.prog.ifacesRec ·))=true:=by kernel_rfl
theorem coreFuel_k21:(Rows.coreFuelRow.loopsOut==Tryz.f7.resultTypes.toList.any (Tryz.prog.loopsFrom ·))=true:=by kernel_rfl
theorem coreFuel_k22:(Rows.coreFuelRow.plainKeys==Tryz.prog.plainKeys)=true:=by kernel_rfl
theorem coreFuel_k23:Rows.coreFuelRow.shortTexts.isNone=true:=by kernel_rfl
theorem coreFuel_k24:Tryz.prog.stopsHeard=true:=by kernel_rfl
theorem coreFuel_k25:Tryz.prog.mayEnter=true:=by kernel_rfl
theorem coreFuel_k26:(Rows.coreFuelRow.lifted==Tryz.prog.liftsFinal)=true:=by kernel_rfl
theorem coreFuel_k27:(Tryz.prog.make==some Rows.coreFuelRow.make)=true:=by kernel_rfl
theorem coreFuel_k28:(Rows.coreFuelRow.kinds==(if Rows.coreFuelRow.domain.isEmpty then [] else Tryz.f7.params.toList.map fun t=>match Tryz.prog.underlying t with | some (.int k)=>some k | _=>Option.none))=true:=by kernel_rfl
theorem coreFuel_k29:(Rows.coreFuelRow.pinned==Rows.coreFuelRow.pinnedBy)=true:=by kernel_rfl
theorem coreFuel_k30:(Rows.coreFuelRow.veiled==(Tryz.f7.params.toList++Rows.coreFuelSpec.plain.varTypes Tryz.prog++Tryz.f7.resultTypes.toList).any (Tryz.prog.veiledRec ·))=true:=by kernel_rfl
theorem coreFuel_k31:Rows.coreFuelRow.veiledFits Tryz.prog Tryz.f7.params.toList (Tryz.f7.params.toList++Rows.coreFuelSpec.plain.varTypes Tryz.prog++Tryz.f7.resultTypes.toList)=true:=by kernel_rfl
theorem coreFuel_closed:joinedFacts Tryz.prog 7 Tryz.f7 Rows.coreFuelSpec Rows.coreFuelRow=true:=(tt (tt (tt (tt (tt (tt (tt (tt (tt (tt (tt (tt (tt (tt (tt (tt (tt (tt (tt (tt (tt (tt (tt (tt (tt (tt (tt (tt (tt (tt (tt coreFuel_k0 coreFuel_k1) coreFuel_k2) coreFuel_k3) coreFuel_k4) coreFuel_k5) coreFuel_k6) coreFuel_k7) coreFuel_k8) coreFuel_k9) coreFuel_k10) coreFuel_k11) coreFuel_k12) coreFuel_k13) coreFuel_k14) coreFuel_k15) coreFuel_k16) coreFuel_k17) coreFuel_k18) coreFuel_k19) coreFuel_k20) coreFuel_k21) coreFuel_k22) coreFuel_k23) coreFuel_k24) coreFuel_k25) coreFuel_k26) coreFuel_k27) coreFuel_k28) coreFuel_k29) coreFuel_k30) coreFuel_k31)
theorem coreFuel_named:Tryz.prog.funcNamed "restitch/restitchlaw08.CoreFuel" = some 7:=by kernel_rfl
theorem coreFuel_noInit:Tryz.checked.prog.inits.idxOf? 7=none:=by kernel_rfl
theorem coreFuel_results:Tryz.f7.resultTypes=#[4]:=by kernel_rfl
theorem coreFuel_read:([27,28,58].all fun t=>Tryz.prog.readableRec t&&decide (t < Tryz.prog.types.size))=true:=by kernel_rfl
theorem coreFuel_wfText:Rows.coreFuelRow.wfByText (OpenSpec.ofChange Rows.coreFuelSpec)=true:=by kernel_rfl
theorem coreFuel_goes:false=Rows.coreFuelRow.goesBy Tryz.prog:=by kernel_rfl
theorem coreFuel_stand:([27,28,58].all fun u => !Tryz.prog.wantsStandIn u)=true:=by kernel_rfl
abbrev coreFuel_args:Array Value:=#[.agg #[.slice none 0 0,.slice none 0 0,.slice none 0 0,.slice none 0 0],.slice none 0 0,.agg #[.int .i64 0,.int .i64 0]]
theorem coreFuel_lifted (os:Os) (started:os.Started) (H:Type) (enc:TypeId×Value→H) :
  ReturnsInHanded {} Tryz.checked os 7 .any (fun w args=>(Rows.coreFuelSpec.pre enc Tryz.prog Tryz.f7 [] false w args∧laidMetH Tryz.prog laidAll w)∧sizedMet enc Tryz.prog Tryz.f7 (OpenSpec.ofChange Rows.coreFuelSpec) false w args)
   (Rows.coreFuelSpec.post enc Tryz.prog Tryz.f7 false true false false):=by
 refine wrap_shaped (C:=Tryz.checked) (X:=fun w _=>laidMetH Tryz.prog laidAll w) (fun _ _ _ hh h=>h.of_heap hh) own started coreFuel_noInit Tryz.func7
  (ChangeSpec.witness_shaped (enc:=enc) (C:=Tryz.checked) (os:=os) (X:=fun w _=>laidMetH Tryz.prog laidAll w) false (World.laidAll Tryz.prog os laidAll) coreFuel_args 8 (World.laidAll_os _ _ _)
   (World.shaped_of_ZipB (by as_aux_lemma=>kernel_rfl) (by as_aux_lemma=>kernel_rfl)) (by as_aux_lemma=>kernel_rfl) (by as_aux_lemma=>kernel_rfl) (by as_aux_lemma=>kernel_rfl)
   (by rw [laidH_plain];exact laid_met os _)) ?_
 intro W base args ds gs before hval0 hW hL hsh
 have hval:∀(j:Nat) t v,Tryz.f7.params[j]? = some t→args[j]? = some v→Value.okWide Tryz.prog W .any base t v:=hval0
 have hW':=hW
 obtain ⟨p,q,hA0,hV,rfl,_,_⟩:=hW
 have hA:DataW.TrodAll enc Tryz.prog W 0 (fun _=>true) true Tryz.f7.params.toList args.toList ds p:=hA0
 rw [Tryz.params7] at hA hval
 obtain ⟨v0,v1,v2,d0,d1,d2,p0,p1,p2,rfl,rfl,rfl,h0,h1,h2⟩:=trodAll_three hA
 rw [laidH_plain] at hL
 obtain ⟨cs,c,rfl,rpc⟩:=core_arg (hval 0 27 v0 rfl rfl) h0
 obtain ⟨l,rl⟩:=nameds_arg (hval 1 28 v1 rfl rfl) h1
 obtain ⟨f0,f1,rfl,hi1⟩:=fuels_arg (hval 2 58 v2 rfl rfl) h2
 refine (coreFuel_ok rpc rl hi1 (glob_of hsh hL) (tabs_of hL) (Mem.whole W)).mono fun e W' ⟨he,hm⟩ =>?_
 subst he
 exact ⟨_,rfl,law_post hW' rfl (fun gs hg=>by subst hg;rfl) coreFuel_results (by rw [Tryz.params7];exact fun t ht=>read_of coreFuel_read ht) hm⟩
theorem coreFuel_holds:Rows.CoreFuelSaid :=
 OpenClaim.holds_of_wide 7 Tryz.f7 rfl rfl rfl rfl rfl rfl rfl ⟨rfl,rfl,rfl,rfl,rfl⟩ rfl rfl rfl rfl rfl coreFuel_named Tryz.func7 coreFuel_closed
  (of_decide_eq_true (by as_aux_lemma=>kernel_rfl)) (by unfold Func.isWrapper;first | (rw [if_pos (by decide +kernel)];as_aux_lemma=>kernel_rfl) | (rw [if_neg (by decide +kernel)];exact ⟨rfl,rfl⟩))
  (fun os started H enc _=>coreFuel_lifted os started H enc)
theorem coreFuel_card:Rows.CoreFuelCardSaid :=
 Claim7.holds_tied_plain_at .later [] [.data,.data,.data,.data,.sentinel,.sentinel,.pinned] true (true,"455426ae17f5cebd1e869bbd2c7c15e1646e82f384eadf6ce8080b103650fe81") true coreFuel_holds (fun _ h=>by cases h) coreFuel_wfText (fun _ h=>by cases h) coreFuel_row_tie rfl ⟨rfl,rfl⟩ main_is rfl
  (fun f fn hf hfn=>by
   obtain rfl:f=7:=Option.some.inj (coreFuel_named.symm.trans hf) |>.symm
   obtain rfl:fn=Tryz.f7:=(Option.some.inj (Tryz.func7.symm.trans hfn)).symm
   exact ⟨looks_is,fun j t ht=>by
    rw [Tryz.params7] at ht
    have hm:t∈[27,28,58]:=by simpa using Array.mem_of_getElem? ht
    exact (show Tryz.prog.wantsStandIn t=false by simpa using List.all_eq_true.1 coreFuel_stand t hm)⟩)
  coreFuel_goes
#print axioms coreFuel_card
end Go.Proofs.YtgkhcfjooiekkaaGreatDoor
