/- CorePrints: for every program the law returns true: Print answers as the specification does; the statement corePrintsCardSaid, as it is given; nothing is assumed beyond it. -/
import Derived.Test.YtgkhcfjooiekkaaGreatDoorX16
set_option linter.unusedVariables false
set_option linter.unusedSimpArgs false
namespace Go.Proofs.YtgkhcfjooiekkaaGreatDoor
open Go.ChangeShapes Go.WideShapes Go.ChangeAt Go.RowKit Go.Sw
set_option maxRecDepth 100000
theorem tt {a b:Bool} (c:a=true) (hb:b=true):(a&&b)=true:=by rw [c,hb];rfl
theorem y6v:Rows.corePrintsRow.wf (OpenSpec.ofChange Rows.corePrintsSpec)=true:=by kernel_rfl
theorem y6w:laidOutB Tryz.prog=true:=by kernel_rfl
theorem y6x:mapsRowed Tryz.prog=true:=by kernel_rfl
theorem y6y:Tryz.f5.params.all (Tryz.prog.readableRec ·)=true:=by kernel_rfl
theorem y6z:namedTie Tryz.prog Rows.corePrintsRow.named Rows.corePrintsSpec.vars=true:=by kernel_rfl
theorem y7a:(Rows.corePrintsRow.stops==[])=true:=by kernel_rfl
theorem y7b:(Tryz.prog.stops==[])=true:=by kernel_rfl
theorem y7c:(Rows.corePrintsRow.knobs==[])=true:=by kernel_rfl
theorem y7d:(Tryz.prog.stopKnobs==[])=true:=by kernel_rfl
theorem y7e:(Rows.corePrintsRow.inPlace==Tryz.prog.inPlace 5)=true:=by kernel_rfl
theorem y1j:(Rows.corePrintsRow.unfollowed==Tryz.prog.unfollowed 5)=true:=by kernel_rfl
theorem y1k:(Rows.corePrintsRow.recurses==Tryz.prog.recurses 5)=true:=by kernel_rfl
theorem y1l:(Rows.corePrintsRow.named==Tryz.prog.varsNamed 5)=true:=by kernel_rfl
theorem y1m:(Rows.corePrintsRow.maps==(Tryz.f5.params.toList++Rows.corePrintsSpec.plain.varTypes Tryz.prog).any (Tryz.prog.mapsRec ·))=true:=by kernel_rfl
theorem y1n:(Rows.corePrintsRow.ifaces==(Tryz.f5.params.toList++Rows.corePrintsSpec.plain.varTypes Tryz.prog).any (Tryz.prog.ifacesRec ·))=true:=by kernel_rfl
theorem y1o:(Rows.corePrintsRow.mapsOut==Tryz.prog.mapsAmong Tryz.f5.resultTypes.toList)=true:=by kernel_rfl
theorem y1p:(Rows.corePrintsRow.loops==(Tryz.f5.params.toList++Rows.corePrintsSpec.plain.varTypes Tryz.prog).any (Tryz.prog.loopsFrom ·))=true:=by kernel_rfl
theorem y1q:(Rows.corePrintsRow.wideKeys==(Tryz.f5.params.toList++Rows.corePrintsSpec.plain.varTypes Tryz.prog++Tryz.f5.resultTypes.toList).any (Tryz.prog.wideKeysFrom ·))=true:=by kernel_rfl
theorem y1r:Rows.corePrintsSpec.vars.all (Tryz.prog.varReadable ·)=true:=by kernel_rfl
theorem y1s:Tryz.f5.resultTypes.all (fun t=>Tryz.prog.readableRec t&&decide (t < Tryz.prog.types.size))=true:=by kernel_rfl
theorem y1t:(Rows.corePrintsRow.ifacesOut==Tryz.f5.resultTypes.toList.any (Tryz.prog.ifacesRec ·))=true:=by kernel_rfl
theorem y1u:(Rows.corePrintsRow.loopsOut==Tryz.f5.resultTypes.toList.any (Tryz.prog.loopsFrom ·))=true:=by kernel_rfl
theorem y1v:(Rows.corePrintsRow.plainKeys==Tryz.prog.plainKeys)=true:=by kernel_rfl
theorem y1w:Rows.corePrintsRow.shortTexts.isNone=true:=by kernel_rfl
theorem y1x:Tryz.prog.stopsHeard=true:=by kernel_rfl
theorem y1y:Tryz.prog.mayEnter=true:=by kernel_rfl
theorem y1z:(Rows.corePrintsRow.lifted==Tryz.prog.liftsFinal)=true:=by kernel_rfl
theorem y2a:(Tryz.prog.make==some Rows.corePrintsRow.make)=true:=by kernel_rfl
theorem y2b:(Rows.corePrintsRow.kinds==(if Rows.corePrintsRow.domain.isEmpty then [] else Tryz.f5.params.toList.map fun t=>match Tryz.prog.underlying t with | some (.int k)=>some k | _=>Option.none))=true:=by kernel_rfl
theorem y2c:(Rows.corePrintsRow.pinned==Rows.corePrintsRow.pinnedBy)=true:=by kernel_rfl
theorem y2d:(Rows.corePrintsRow.veiled==(Tryz.f5.params.toList++Rows.corePrintsSpec.plain.varTypes Tryz.prog++Tryz.f5.resultTypes.toList).any (Tryz.prog.veiledRec ·))=true:=by kernel_rfl
theorem y2e:Rows.corePrintsRow.veiledFits Tryz.prog Tryz.f5.params.toList (Tryz.f5.params.toList++Rows.corePrintsSpec.plain.varTypes Tryz.prog++Tryz.f5.resultTypes.toList)=true:=by kernel_rfl
theorem z4w:joinedFacts Tryz.prog 5 Tryz.f5 Rows.corePrintsSpec Rows.corePrintsRow=true:=(tt (tt (tt (tt (tt (tt (tt (tt (tt (tt (tt (tt (tt (tt (tt (tt (tt (tt (tt (tt (tt (tt (tt (tt (tt (tt (tt (tt (tt (tt (tt y6v y6w) y6x) y6y) y6z) y7a) y7b) y7c) y7d) y7e) y1j) y1k) y1l) y1m) y1n) y1o) y1p) y1q) y1r) y1s) y1t) y1u) y1v) y1w) y1x) y1y) y1z) y2a) y2b) y2c) y2d) y2e)
theorem corePrints_named:Tryz.prog.funcNamed "restitch/restitchlaw08.CorePrints" = some 5:=by kernel_rfl
theorem z4y:Tryz.checked.prog.inits.idxOf? 5=none:=by kernel_rfl
theorem z3w:Tryz.f5.resultTypes=#[4]:=by kernel_rfl
theorem z9y:([27].all fun t=>Tryz.prog.readableRec t&&decide (t < Tryz.prog.types.size))=true:=by kernel_rfl
theorem z4z:Rows.corePrintsRow.wfByText (OpenSpec.ofChange Rows.corePrintsSpec)=true:=by kernel_rfl
theorem z9x:false=Rows.corePrintsRow.goesBy Tryz.prog:=by kernel_rfl
theorem z7c:([27].all fun u=> !Tryz.prog.wantsStandIn u)=true:=by kernel_rfl
abbrev corePrints_args:Array Value:=#[.agg #[.slice none 0 0,.slice none 0 0,.slice none 0 0,.slice none 0 0]]
theorem z4x (os:Os) (started:os.Started) (H:Type) (enc:TypeId×Value->H) :
  ReturnsInHanded {} Tryz.checked os 5 .any (fun w args=>(Rows.corePrintsSpec.pre enc Tryz.prog Tryz.f5 [] false w args/\laidMetH Tryz.prog laidAll w)/\sizedMet enc Tryz.prog Tryz.f5 (OpenSpec.ofChange Rows.corePrintsSpec) false w args)
   (Rows.corePrintsSpec.post enc Tryz.prog Tryz.f5 false true false false):=by
 refine q8q (C:=Tryz.checked) (X:=fun w _=>laidMetH Tryz.prog laidAll w) (fun _ _ _ o h=>h.of_heap o) own started z4y Tryz.func5
  (ChangeSpec.witness_shaped (enc:=enc) (C:=Tryz.checked) (os:=os) (X:=fun w _=>laidMetH Tryz.prog laidAll w) false (World.laidAll Tryz.prog os laidAll) corePrints_args 5 (World.laidAll_os _ _ _)
   (World.shaped_of_ZipB (by as_aux_lemma=>kernel_rfl) (by as_aux_lemma=>kernel_rfl)) (by as_aux_lemma=>kernel_rfl) (by as_aux_lemma=>kernel_rfl) (by as_aux_lemma=>kernel_rfl)
   (by rw [z9e];exact x3l os _)) ?_
 intro W base args ds gs before b m f g
 have a:∀(j:Nat) t v,Tryz.f5.params[j]? = some t->args[j]? = some v->Value.okWide Tryz.prog W .any base t v:=b
 have hW':=m
 obtain ⟨p,q,d,s,rfl,_,_⟩:=m
 have l:DataW.TrodAll enc Tryz.prog W 0 (fun _=>true) true Tryz.f5.params.toList args.toList ds p:=d
 rw [Tryz.params5] at l a
 obtain ⟨v0,d0,rfl,rfl,k⟩:=trodAll_one l
 rw [z9e] at f
 obtain ⟨cs,c,rfl,i⟩:=x0z (a 0 27 v0 rfl rfl) k
 refine (y7f i (x1a k) (glob_of g f) (j5g f) (Mem.whole W)).mono fun e W' ⟨J,N⟩=>?_
 subst J
 exact ⟨_,rfl,x3n hW' rfl (fun gs n=>by subst n;rfl) z3w (by rw [Tryz.params5];exact fun t r=>read_of z9y r) N⟩
theorem z7b:Rows.CorePrintsSaid :=
 OpenClaim.holds_of_wide 5 Tryz.f5 rfl rfl rfl rfl rfl rfl rfl ⟨rfl,rfl,rfl,rfl,rfl⟩ rfl rfl rfl rfl rfl corePrints_named Tryz.func5 z4w
  (of_decide_eq_true (by as_aux_lemma=>kernel_rfl)) (by unfold Func.isWrapper;first | (rw [if_pos (by decide +kernel)];as_aux_lemma=>kernel_rfl) | (rw [if_neg (by decide +kernel)];exact ⟨rfl,rfl⟩))
  (fun os started H enc _=>z4x os started H enc)
theorem corePrints_card:Rows.CorePrintsCardSaid :=
 Claim7.holds_tied_plain_at .later [] [.data,.data,.data,.data,.sentinel,.sentinel,.pinned] true (true,"455426ae17f5cebd1e869bbd2c7c15e1646e82f384eadf6ce8080b103650fe81") true z7b (fun _ h=>by cases h) z4z (fun _ h=>by cases h) corePrints_row_tie rfl ⟨rfl,rfl⟩ main_is rfl
  (fun f fn c a=>by
   obtain rfl:f=5:=Option.some.inj (corePrints_named.symm.trans c) |>.symm
   obtain rfl:fn=Tryz.f5:=(Option.some.inj (Tryz.func5.symm.trans a)).symm
   exact ⟨x3t,fun j t b=>by
    rw [Tryz.params5] at b
    have N:t∈[27]:=by simpa using Array.mem_of_getElem? b
    exact (show Tryz.prog.wantsStandIn t=false by simpa using List.all_eq_true.1 z7c t N)⟩)
  z9x
#print axioms corePrints_card
end Go.Proofs.YtgkhcfjooiekkaaGreatDoor
