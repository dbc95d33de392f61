/- CoreScope: for every program, every list of variables with an expression, and every list of named values, the law returns true: the type stays with one more variable that is not used, and the program with its functions turned round has the same run. Conditions: none beyond the given statement. -/
import Derived.Test.YtgkhcfjooiekkaaGreatDoorX03
import Derived.Test.YtgkhcfjooiekkaaGreatDoorX10
import Derived.Test.YtgkhcfjooiekkaaGreatDoorX15
set_option linter.unusedVariables false
set_option linter.unusedSimpArgs false
namespace Go.Proofs.YtgkhcfjooiekkaaGreatDoor
open Go.ChangeShapes Go.WideShapes Go.ChangeAt Go.RowKit Go.Sw
set_option maxRecDepth 100000
theorem tt {a b:Bool} (ha:a=true) (hb:b=true):(a&&b)=true:=by rw [ha,hb];rfl
theorem coreScope_k0:Rows.coreScopeRow.wf (OpenSpec.ofChange Rows.coreScopeSpec)=true:=by kernel_rfl
theorem coreScope_k1:laidOutB Tryz.prog=true:=by kernel_rfl
theorem coreScope_k2:mapsRowed Tryz.prog=true:=by kernel_rfl
theorem coreScope_k3:Tryz.f12.params.all (Tryz.prog.readableRec ·)=true:=by kernel_rfl
theorem coreScope_k4:namedTie Tryz.prog Rows.coreScopeRow.named Rows.coreScopeSpec.vars=true:=by kernel_rfl
theorem coreScope_k5:(Rows.coreScopeRow.stops==[])=true:=by kernel_rfl
theorem coreScope_k6:(Tryz.prog.stops==[])=true:=by kernel_rfl
theorem coreScope_k7:(Rows.coreScopeRow.knobs==[])=true:=by kernel_rfl
theorem coreScope_k8:(Tryz.prog.stopKnobs==[])=true:=by kernel_rfl
theorem coreScope_k9:(Rows.coreScopeRow.inPlace==Tryz.prog.inPlace 12)=true:=by kernel_rfl
theorem coreScope_k10:(Rows.coreScopeRow.unfollowed==Tryz.prog.unfollowed 12)=true:=by kernel_rfl
theorem coreScope_k11:(Rows.coreScopeRow.recurses==Tryz.prog.recurses 12)=true:=by kernel_rfl
theorem coreScope_k12:(Rows.coreScopeRow.named==Tryz.prog.varsNamed 12)=true:=by kernel_rfl
theorem coreScope_k13:(Rows.coreScopeRow.maps==(Tryz.f12.params.toList++Rows.coreScopeSpec.plain.varTypes Tryz.prog).any (Tryz.prog.mapsRec ·))=true:=by kernel_rfl
theorem coreScope_k14:(Rows.coreScopeRow.ifaces==(Tryz.f12.params.toList++Rows.coreScopeSpec.plain.varTypes Tryz.prog).any (Tryz.prog.ifacesRec ·))=true:=by kernel_rfl
theorem coreScope_k15:(Rows.coreScopeRow.mapsOut==Tryz.prog.mapsAmong Tryz.f12.resultTypes.toList)=true:=by kernel_rfl
theorem coreScope_k16:(Rows.coreScopeRow.loops==(Tryz.f12.params.toList++Rows.coreScopeSpec.plain.varTypes Tryz.prog).any (Tryz.prog.loopsFrom ·))=true:=by kernel_rfl
theorem coreScope_k17:(Rows.coreScopeRow.wideKeys==(Tryz.f12.params.toList++Rows.coreScopeSpec.plain.varTypes Tryz.prog++Tryz.f12.resultTypes.toList).any (Tryz.prog.wideKeysFrom ·))=true:=by kernel_rfl
theorem coreScope_k18:Rows.coreScopeSpec.vars.all (Tryz.prog.varReadable ·)=true:=by kernel_rfl
theorem coreScope_k19:Tryz.f12.resultTypes.all (fun t=>Tryz.prog.readableRec t&&decide (t < Tryz.prog.types.size))=true:=by kernel_rfl
theorem coreScope_k20:(Rows.coreScopeRow.ifacesOut==Tryz.f12.resultTypes.toList.any (Tryz.prog.ifacesRec ·))=true:=by kernel_rfl
theorem coreScope_k21:(Rows.coreScopeRow.loopsOut==Tryz.f12.resultTypes.toList.any (Tryz.prog.loopsFrom ·))=true:=by kernel_rfl
theorem coreScope_k22:(Rows.coreScopeRow.plainKeys==Tryz.prog.plainKeys)=true:=by kernel_rfl
theorem coreScope_k23:Rows.coreScopeRow.shortTexts.isNone=true:=by kernel_rfl
theorem coreScope_k24:Tryz.prog.stopsHeard=true:=by kernel_rfl
theorem coreScope_k25:Tryz.prog.mayEnter=true:=by kernel_rfl
theorem coreScope_k26:(Rows.coreScopeRow.lifted==Tryz.prog.liftsFinal)=true:=by kernel_rfl
theorem coreScope_k27:(Tryz.prog.make==some Rows.coreScopeRow.make)=true:=by kernel_rfl
theorem coreScope_k28:(Rows.coreScopeRow.kinds==(if Rows.coreScopeRow.domain.isEmpty then [] else Tryz.f12.params.toList.map fun t=>match Tryz.prog.underlying t with | some (.int k)=>some k | _=>Option.none))=true:=by kernel_rfl
theorem coreScope_k29:(Rows.coreScopeRow.pinned==Rows.coreScopeRow.pinnedBy)=true:=by kernel_rfl
theorem coreScope_k30:(Rows.coreScopeRow.veiled==(Tryz.f12.params.toList++Rows.coreScopeSpec.plain.varTypes Tryz.prog++Tryz.f12.resultTypes.toList).any (Tryz.prog.veiledRec ·))=true:=by kernel_rfl
theorem coreScope_k31:Rows.coreScopeRow.veiledFits Tryz.prog Tryz.f12.params.toList (Tryz.f12.params.toList++Rows.coreScopeSpec.plain.varTypes Tryz.prog++Tryz.f12.resultTypes.toList)=true:=by kernel_rfl
theorem coreScope_closed:joinedFacts Tryz.prog 12 Tryz.f12 Rows.coreScopeSpec Rows.coreScopeRow=true:=(tt (tt (tt (tt (tt (tt (tt (tt (tt (tt (tt (tt (tt (tt (tt (tt (tt (tt (tt (tt (tt (tt (tt (tt (tt (tt (tt (tt (tt (tt (tt coreScope_k0 coreScope_k1) coreScope_k2) coreScope_k3) coreScope_k4) coreScope_k5) coreScope_k6) coreScope_k7) coreScope_k8) coreScope_k9) coreScope_k10) coreScope_k11) coreScope_k12) coreScope_k13) coreScope_k14) coreScope_k15) coreScope_k16) coreScope_k17) coreScope_k18) coreScope_k19) coreScope_k20) coreScope_k21) coreScope_k22) coreScope_k23) coreScope_k24) coreScope_k25) coreScope_k26) coreScope_k27) coreScope_k28) coreScope_k29) coreScope_k30) coreScope_k31)
theorem coreScope_named:Tryz.prog.funcNamed "restitch/restitchlaw08.CoreScope" = some 12:=by kernel_rfl
theorem coreScope_noInit:Tryz.checked.prog.inits.idxOf? 12=none:=by kernel_rfl
theorem coreScope_results:Tryz.f12.resultTypes=#[4]:=by kernel_rfl
theorem coreScope_read:([27,76,28].all fun t=>Tryz.prog.readableRec t&&decide (t < Tryz.prog.types.size))=true:=by kernel_rfl
theorem coreScope_wfText:Rows.coreScopeRow.wfByText (OpenSpec.ofChange Rows.coreScopeSpec)=true:=by kernel_rfl
theorem coreScope_goes:false=Rows.coreScopeRow.goesBy Tryz.prog:=by kernel_rfl
theorem coreScope_stand:([27,76,28].all fun u => !Tryz.prog.wantsStandIn u)=true:=by kernel_rfl
abbrev coreScope_args:Array Value:=#[.agg #[.slice none 0 0,.slice none 0 0,.slice none 0 0,.slice none 0 0],.agg #[.slice none 0 0,.int .i64 0,.int .i64 0,.string ⟨#[]⟩,.slice none 0 0,.slice none 0 0],.slice none 0 0]
theorem coreScope_lifted (os:Os) (started:os.Started) (H:Type) (enc:TypeId×Value→H) :
  ReturnsInHanded {} Tryz.checked os 12 .any (fun w args=>(Rows.coreScopeSpec.pre enc Tryz.prog Tryz.f12 [] false w args∧laidMetH Tryz.prog laidAll w)∧sizedMet enc Tryz.prog Tryz.f12 (OpenSpec.ofChange Rows.coreScopeSpec) false w args)
   (Rows.coreScopeSpec.post enc Tryz.prog Tryz.f12 false true false false):=by
 refine wrap_sized (C:=Tryz.checked) (X:=fun w _=>laidMetH Tryz.prog laidAll w) (fun _ _ _ hh h=>h.of_heap hh) own started coreScope_noInit Tryz.func12
  (ChangeSpec.witness_shaped (enc:=enc) (C:=Tryz.checked) (os:=os) (X:=fun w _=>laidMetH Tryz.prog laidAll w) false (World.laidAll Tryz.prog os laidAll) coreScope_args 8 (World.laidAll_os _ _ _)
   (World.shaped_of_ZipB (by as_aux_lemma=>kernel_rfl) (by as_aux_lemma=>kernel_rfl)) (by as_aux_lemma=>kernel_rfl) (by as_aux_lemma=>kernel_rfl) (by as_aux_lemma=>kernel_rfl)
   (by rw [laidH_plain];exact laid_met os _)) ?_
 intro W base args ds gs before hval0 hW hL hz hsh
 have hval:∀(j:Nat) t v,Tryz.f12.params[j]? = some t→args[j]? = some v→Value.okWide Tryz.prog W .any base t v:=hval0
 have hW':=hW
 obtain ⟨p,q,hA0,hV,rfl,_,_⟩:=hW
 have hA:DataW.TrodAll enc Tryz.prog W 0 (fun _=>true) true Tryz.f12.params.toList args.toList ds p:=hA0
 rw [Tryz.params12] at hA hval
 obtain ⟨v0,v1,v2,d0,d1,d2,p0,p1,p2,rfl,rfl,rfl,h0,h1,h2⟩:=trodAll_three hA
 rw [laidH_plain] at hL
 obtain ⟨_,ds',gs',before',hW2,hwt⟩:=hz
 obtain ⟨pz,qz,hB0,_,rfl,_,_⟩:=hW2
 have hB:DataW.TrodAll enc Tryz.prog W 0 (fun _=>true) true Tryz.f12.params.toList _ ds' pz:=hB0
 rw [Tryz.params12] at hB
 obtain ⟨u0,u1,u2,e0,e1,e2,r0,r1,r2,hu,rfl,rfl,g0,g1,g2⟩:=trodAll_three hB
 obtain ⟨rfl,rfl,rfl⟩:v0=u0∧v1=u1∧v2=u2:=by simpa using hu
 have hw:=List.all_eq_true.1 hwt
 rw [Tryz.params12] at hw
 obtain ⟨cs,c,rfl,rpc⟩:=core_arg (hval 0 27 v0 rfl rfl) h0
 obtain ⟨cx,x,rfl,rpx⟩:=typing_arg (hval 1 76 v1 rfl rfl) h1
 obtain ⟨l,rl⟩:=nameds_arg (hval 2 28 v2 rfl rfl) h2
 have k0:=core_weight rpc g0 fun q hq=>of_decide_eq_true (hw q (List.mem_append_left _ hq))
 have k1:=typing_weight rpx g1 fun q hq=>of_decide_eq_true (hw q (List.mem_append_right _ (List.mem_append_left _ hq)))
 refine (coreScope_ok rpc rpx rl k1 k0 (glob_of hsh hL) (tabs_of hL) (Mem.whole W)).mono fun e W' ⟨he,hm⟩ =>?_
 subst he
 exact ⟨_,rfl,law_post hW' rfl (fun gs hg=>by subst hg;rfl) coreScope_results (by rw [Tryz.params12];exact fun t ht=>read_of coreScope_read ht) hm⟩
theorem coreScope_holds:Rows.CoreScopeSaid :=
 OpenClaim.holds_of_wide 12 Tryz.f12 rfl rfl rfl rfl rfl rfl rfl ⟨rfl,rfl,rfl,rfl,rfl⟩ rfl rfl rfl rfl rfl coreScope_named Tryz.func12 coreScope_closed
  (of_decide_eq_true (by as_aux_lemma=>kernel_rfl)) (by unfold Func.isWrapper;first | (rw [if_pos (by decide +kernel)];as_aux_lemma=>kernel_rfl) | (rw [if_neg (by decide +kernel)];exact ⟨rfl,rfl⟩))
  (fun os started H enc _=>coreScope_lifted os started H enc)
theorem coreScope_card:Rows.CoreScopeCardSaid :=
 Claim7.holds_tied_plain_at .later [] [.data,.data,.data,.data,.sentinel,.sentinel,.pinned] true (true,"455426ae17f5cebd1e869bbd2c7c15e1646e82f384eadf6ce8080b103650fe81") true coreScope_holds (fun _ h=>by cases h) coreScope_wfText (fun _ h=>by cases h) coreScope_row_tie rfl ⟨rfl,rfl⟩ main_is rfl
  (fun f fn hf hfn=>by
   obtain rfl:f=12:=Option.some.inj (coreScope_named.symm.trans hf) |>.symm
   obtain rfl:fn=Tryz.f12:=(Option.some.inj (Tryz.func12.symm.trans hfn)).symm
   exact ⟨looks_is,fun j t ht=>by
    rw [Tryz.params12] at ht
    have hm:t∈[27,76,28]:=by simpa using Array.mem_of_getElem? ht
    exact (show Tryz.prog.wantsStandIn t=false by simpa using List.all_eq_true.1 coreScope_stand t hm)⟩)
  coreScope_goes
#print axioms coreScope_card
end Go.Proofs.YtgkhcfjooiekkaaGreatDoor
