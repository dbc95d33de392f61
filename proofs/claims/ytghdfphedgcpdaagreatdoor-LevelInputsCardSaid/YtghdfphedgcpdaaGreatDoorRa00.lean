/- LevelInputs: for every program the law returns true: a node is changeable just if Depends has an input for it, and these are different ones of the program, in order; the statement levelInputsCardSaid, as it is given; nothing is assumed beyond it. -/
import Derived.Test.YtghdfphedgcpdaaGreatDoorX12
import Derived.Test.YtghdfphedgcpdaaGreatDoorX13
set_option linter.unusedVariables false
set_option linter.unusedSimpArgs false
namespace Go.Proofs.YtghdfphedgcpdaaGreatDoor
open Go.ChangeShapes Go.WideShapes Go.ChangeAt Go.RowKit Go.Sw
set_option maxRecDepth 100000
theorem tt {a b:Bool} (ha:a=true) (hb:b=true):(a&&b)=true:=by rw [ha,hb];rfl
theorem y1k:Rows.levelInputsRow.wf (OpenSpec.ofChange Rows.levelInputsSpec)=true:=by kernel_rfl
theorem y1l:laidOutB Tryz.prog=true:=by kernel_rfl
theorem y1m:mapsRowed Tryz.prog=true:=by kernel_rfl
theorem y1n:Tryz.f3.params.all (Tryz.prog.readableRec ·)=true:=by kernel_rfl
theorem y1o:namedTie Tryz.prog Rows.levelInputsRow.named Rows.levelInputsSpec.vars=true:=by kernel_rfl
theorem y1p:(Rows.levelInputsRow.stops==[])=true:=by kernel_rfl
theorem y1q:(Tryz.prog.stops==[])=true:=by kernel_rfl
theorem y1r:(Rows.levelInputsRow.knobs==[])=true:=by kernel_rfl
theorem y1s:(Tryz.prog.stopKnobs==[])=true:=by kernel_rfl
theorem y1t:(Rows.levelInputsRow.inPlace==Tryz.prog.inPlace 3)=true:=by kernel_rfl
theorem z7i:(Rows.levelInputsRow.unfollowed==Tryz.prog.unfollowed 3)=true:=by kernel_rfl
theorem z7j:(Rows.levelInputsRow.recurses==Tryz.prog.recurses 3)=true:=by kernel_rfl
theorem z7k:(Rows.levelInputsRow.named==Tryz.prog.varsNamed 3)=true:=by kernel_rfl
theorem z7l:(Rows.levelInputsRow.maps==(Tryz.f3.params.toList++Rows.levelInputsSpec.plain.varTypes Tryz.prog).any (Tryz.prog.mapsRec ·))=true:=by kernel_rfl
theorem z7m:(Rows.levelInputsRow.ifaces==(Tryz.f3.params.toList++Rows.levelInputsSpec.plain.varTypes Tryz.prog).any (Tryz.prog.ifacesRec ·))=true:=by kernel_rfl
theorem z7n:(Rows.levelInputsRow.mapsOut==Tryz.prog.mapsAmong Tryz.f3.resultTypes.toList)=true:=by kernel_rfl
theorem z7o:(Rows.levelInputsRow.loops==(Tryz.f3.params.toList++Rows.levelInputsSpec.plain.varTypes Tryz.prog).any (Tryz.prog.loopsFrom ·))=true:=by kernel_rfl
theorem z7p:(Rows.levelInputsRow.wideKeys==(Tryz.f3.params.toList++Rows.levelInputsSpec.plain.varTypes Tryz.prog++Tryz.f3.resultTypes.toList).any (Tryz.prog.wideKeysFrom ·))=true:=by kernel_rfl
theorem z7q:Rows.levelInputsSpec.vars.all (Tryz.prog.varReadable ·)=true:=by kernel_rfl
theorem z7r:Tryz.f3.resultTypes.all (fun t=>Tryz.prog.readableRec t&&decide (t < Tryz.prog.types.size))=true:=by kernel_rfl
theorem z7s:(Rows.levelInputsRow.ifacesOut==Tryz.f3.resultTypes.toList.any (Tryz.prog.ifacesRec ·))=true:=by kernel_rfl
theorem z7t:(Rows.levelInputsRow.loopsOut==Tryz.f3.resultTypes.toList.any (Tryz.prog.loopsFrom ·))=true:=by kernel_rfl
theorem z7u:(Rows.levelInputsRow.plainKeys==Tryz.prog.plainKeys)=true:=by kernel_rfl
theorem z7v:Rows.levelInputsRow.shortTexts.isNone=true:=by kernel_rfl
theorem z7w:Tryz.prog.stopsHeard=true:=by kernel_rfl
theorem z7x:Tryz.prog.mayEnter=true:=by kernel_rfl
theorem z7y:(Rows.levelInputsRow.lifted==Tryz.prog.liftsFinal)=true:=by kernel_rfl
theorem z7z:(Tryz.prog.make==some Rows.levelInputsRow.make)=true:=by kernel_rfl
theorem z8a:(Rows.levelInputsRow.kinds==(if Rows.levelInputsRow.domain.isEmpty then [] else Tryz.f3.params.toList.map fun t=>match Tryz.prog.underlying t with | some (.int k)=>some k | _=>Option.none))=true:=by kernel_rfl
theorem z8b:(Rows.levelInputsRow.pinned==Rows.levelInputsRow.pinnedBy)=true:=by kernel_rfl
theorem z8c:(Rows.levelInputsRow.veiled==(Tryz.f3.params.toList++Rows.levelInputsSpec.plain.varTypes Tryz.prog++Tryz.f3.resultTypes.toList).any (Tryz.prog.veiledRec ·))=true:=by kernel_rfl
theorem z8d:Rows.levelInputsRow.veiledFits Tryz.prog Tryz.f3.params.toList (Tryz.f3.params.toList++Rows.levelInputsSpec.plain.varTypes Tryz.prog++Tryz.f3.resultTypes.toList)=true:=by kernel_rfl
theorem uJ:joinedFacts Tryz.prog 3 Tryz.f3 Rows.levelInputsSpec Rows.levelInputsRow=true:=(tt (tt (tt (tt (tt (tt (tt (tt (tt (tt (tt (tt (tt (tt (tt (tt (tt (tt (tt (tt (tt (tt (tt (tt (tt (tt (tt (tt (tt (tt (tt y1k y1l) y1m) y1n) y1o) y1p) y1q) y1r) y1s) y1t) z7i) z7j) z7k) z7l) z7m) z7n) z7o) z7p) z7q) z7r) z7s) z7t) z7u) z7v) z7w) z7x) z7y) z7z) z8a) z8b) z8c) z8d)
theorem levelInputs_named:Tryz.prog.funcNamed "restitch/restitchlaw11.LevelInputs" = some 3:=by kernel_rfl
theorem uL:Tryz.checked.prog.inits.idxOf? 3=none:=by kernel_rfl
theorem tS:Tryz.f3.resultTypes=#[4]:=by kernel_rfl
theorem z4c:([27].all fun t=>Tryz.prog.readableRec t&&decide (t < Tryz.prog.types.size))=true:=by kernel_rfl
theorem uM:Rows.levelInputsRow.wfByText (OpenSpec.ofChange Rows.levelInputsSpec)=true:=by kernel_rfl
theorem z4b:false=Rows.levelInputsRow.goesBy Tryz.prog:=by kernel_rfl
theorem z1o:([27].all fun u => !Tryz.prog.wantsStandIn u)=true:=by kernel_rfl
abbrev levelInputs_args:Array Value:=#[.agg #[.slice none 0 0,.slice none 0 0,.slice none 0 0,.slice none 0 0]]
theorem uK (os:Os) (started:os.Started) (H:Type) (enc:TypeId×Value→H) :
  ReturnsInHanded {} Tryz.checked os 3 .any (fun w args=>(Rows.levelInputsSpec.pre enc Tryz.prog Tryz.f3 [] false w args∧laidMetH Tryz.prog laidAll w)∧sizedMet enc Tryz.prog Tryz.f3 (OpenSpec.ofChange Rows.levelInputsSpec) false w args)
   (Rows.levelInputsSpec.post enc Tryz.prog Tryz.f3 false true false false):=by
 refine sX (C:=Tryz.checked) (X:=fun w _=>laidMetH Tryz.prog laidAll w) (fun _ _ _ hh h=>h.of_heap hh) own started uL Tryz.func3
  (ChangeSpec.witness_shaped (enc:=enc) (C:=Tryz.checked) (os:=os) (X:=fun w _=>laidMetH Tryz.prog laidAll w) false (World.laidAll Tryz.prog os laidAll) levelInputs_args 8 (World.laidAll_os _ _ _)
   (World.shaped_of_ZipB (by as_aux_lemma=>kernel_rfl) (by as_aux_lemma=>kernel_rfl)) (by as_aux_lemma=>kernel_rfl) (by as_aux_lemma=>kernel_rfl) (by as_aux_lemma=>kernel_rfl)
   (by rw [xL];exact sD os _)) ?_
 intro W base args ds gs before hval0 hW hL hsh
 have hval:∀(j:Nat) t v,Tryz.f3.params[j]? = some t→args[j]? = some v→Value.okWide Tryz.prog W .any base t v:=hval0
 have hW':=hW
 obtain ⟨p,q,hA0,hV,rfl,_,_⟩:=hW
 have hA:DataW.TrodAll enc Tryz.prog W 0 (fun _=>true) true Tryz.f3.params.toList args.toList ds p:=hA0
 rw [Tryz.params3] at hA hval
 obtain ⟨v0,d0,rfl,rfl,h0⟩:=trodAll_one hA
 rw [xL] at hL
 obtain ⟨cs,c,rfl,rpc⟩:=oQ (hval 0 27 v0 rfl rfl) h0
 refine (y1u rpc (z1c hsh hL) (Mem.whole W)).mono fun e W' ⟨he,hm⟩ =>?_
 subst he
 exact ⟨_,rfl,sF hW' rfl (fun gs hg=>by subst hg;rfl) tS (by rw [Tryz.params3];exact fun t ht=>z2o z4c ht) hm⟩
theorem z1n:Rows.LevelInputsSaid :=
 OpenClaim.holds_of_wide 3 Tryz.f3 rfl rfl rfl rfl rfl rfl rfl ⟨rfl,rfl,rfl,rfl,rfl⟩ rfl rfl rfl rfl rfl levelInputs_named Tryz.func3 uJ
  (of_decide_eq_true (by as_aux_lemma=>kernel_rfl)) (by unfold Func.isWrapper;first | (rw [if_pos (by decide +kernel)];as_aux_lemma=>kernel_rfl) | (rw [if_neg (by decide +kernel)];exact ⟨rfl,rfl⟩))
  (fun os started H enc _=>uK os started H enc)
theorem levelInputs_card:Rows.LevelInputsCardSaid :=
 Claim7.holds_tied_plain_at .later [] [.data,.data,.data,.data,.sentinel,.sentinel,.pinned] true (true,"8dfb172be620e644952a3b3fbef38f53abbde8464159391a13788f707abd56a4") true z1n (fun _ h=>by cases h) uM (fun _ h=>by cases h) levelInputs_row_tie rfl ⟨rfl,rfl⟩ z2d rfl
  (fun f fn hf hfn=>by
   obtain rfl:f=3:=Option.some.inj (levelInputs_named.symm.trans hf) |>.symm
   obtain rfl:fn=Tryz.f3:=(Option.some.inj (Tryz.func3.symm.trans hfn)).symm
   exact ⟨sI,fun j t ht=>by
    rw [Tryz.params3] at ht
    have hm:t∈[27]:=by simpa using Array.mem_of_getElem? ht
    exact (show Tryz.prog.wantsStandIn t=false by simpa using List.all_eq_true.1 z1o t hm)⟩)
  z4b
#print axioms levelInputs_card
end Go.Proofs.YtghdfphedgcpdaaGreatDoor
